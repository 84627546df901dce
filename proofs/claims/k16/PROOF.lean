import PyProof.Rows.All
import Wide.All
import OpenK.AllK
import Wide.FinOn
import HandS.ForMost
import HandS.ForExc
import HandS.ExcInit
import HandS.Wide
import HandS.Zip
import HandS.IsInst
import KE.KeyNested
import KE.DataEq
import HandS.Style
import HandS.Flow
import HandS.TupAny
import HandS.Iter
import HandS.EndBits
import HandS.HeadEnd
import HandS.More
import HandS.StrMore
import HandS.Rev
import PyProof.StrBlock2
import KE.KIntText
import HandS.ExcValue
import HandS.ExcIs
import KE.SortData
import HandS.SortInts
import KE.SortKeyHeap
import HandS.SortKw
import PyProof.ListNew
import PyProof.DictRoadsH
import PyProof.MeetsDict
import HandS.Conv
import HandS.Small
import KE.KDictSum
import HandS.DictTup
import HandS.Text
import HandS.RaiseMore
import PySem.Challenge.RW_flipwright_k16_shown
set_option Elab.async false
set_option linter.all false
set_option maxRecDepth 100000
set_option maxHeartbeats 2000000
/-! FLA: plain data D, owned data M, how they lie in the abstract heap. -/
namespace FL
open PySem L2 Classical

/-- frozen data -/
inductive D where
  | non | bl (b : Bool) | int (i : Int) | str (x : Str) | fn (n : String)
  | tup (xs : List D) | lst (xs : List D) | scr (xs : List D)
  | dic (ks : List D) (xs : List D) | ins (C : String) (ns : List Str) (xs : List D)
  | exc (C : String)
instance : Inhabited D := ⟨.non⟩
/-- owned data: nodes at addresses that nothing else points to; d: frozen -/
inductive M where
  | d (x : D) | lst (xs : List M) | tup (xs : List M)
  | dic (ks : List D) (xs : List M) | ins (C : String) (ns : List Str) (xs : List M)
instance : Inhabited M := ⟨.d .non⟩

/-- the written part and where its defs and classes stand -/
structure Gx where
  K : PySem.W.Frag
  ad : String → Addr
  w : World

mutual
/-- a dict's key -/
def nkD : D → Option NestedKey
  | .non => some .none
  | .int i => some (.num i)
  | .str x => some (.text x)
  | .tup xs => match nkDs xs with
    | some ks => some (.tup ks)
    | none => none
  | _ => none
def nkDs : List D → Option (List NestedKey)
  | [] => some []
  | x :: xs => match nkD x, nkDs xs with
    | some a, some b => some (a :: b)
    | _, _ => none
end
/-- a dict's entries -/
def EntR (w : World) : List NestedKey → List (V × V) → List DictEntry → Prop
  | [], [], [] => True
  | k :: ks, p :: kv, e :: es => e.hash = k.hash w ∧ RelV p.1 e.key ∧ RelV p.2 e.val ∧ EntR w ks kv es
  | _, _, _ => False
/-- a dict in the abstract heap -/
def DO (w : World) (a : Addr) (ks : List NestedKey) (kv : List (V × V)) : HO := .ext fun h => (a == sysModules) = false ∧ kv.length ≤ sizeLine ∧ ∃ o es ep, h.get? a = some o ∧ o.ExactDict ∧ o.data = .dict es ep ∧ EntR w ks kv es.toList
structure KsOk (ks : List D) (nk : List NestedKey) : Prop where
  eq : nkDs ks = some nk
  nd : nk.Nodup
  dp : ∀ x ∈ nk, x.depth ≤ 8

abbrev Rg := Addr → Prop
/-- an exception object that was caught -/
def EK (cls : Value) (a : Addr) : HO := .ext fun h => ∃ (oe : Obj) (vs : Array Value), h.get? a = some oe ∧ oe.cls = cls ∧ oe.dict = none ∧ oe.data = .fields vs

mutual
def RepD (G : Gx) (Z : Hp) : D → V → Prop
  | .non, v => v = .non
  | .bl b, v => v = .bl b
  | .int i, v => v = .int i
  | .str x, v => v = .str x
  | .fn n, v => v = .ref (G.ad n)
  | .exc n, v => ∃ a, v = .ref a ∧ Z a = some (EK (.ref (G.ad n)) a)
  | .tup xs, v => ∃ a vs, v = .ref a ∧ SqT G.K Z a vs ∧ RepDs G Z xs vs
  | .lst xs, v => ∃ a vs, v = .ref a ∧ Z a = some (.lst vs) ∧ RepDs G Z xs vs
  | .scr xs, v => ∃ a vs, v = .ref a ∧ SqL G.K Z a vs ∧ RepDs G Z xs vs
  | .dic ks xs, v => ∃ a nk kv, v = .ref a ∧ Z a = some (DO G.w a nk kv) ∧ KsOk ks nk ∧ RepDs G Z ks (kv.map (fun p => p.1)) ∧ RepDs G Z xs (kv.map (fun p => p.2))
  | .ins C ns xs, v => ∃ a dx fs, v = .ref a ∧ Z a = some (.ins (G.ad C) dx fs) ∧ fs.map (fun p => p.1) = ns ∧ RepDs G Z xs (fs.map (fun p => p.2))
def RepDs (G : Gx) (Z : Hp) : List D → List V → Prop
  | [], vs => vs = []
  | x :: xs, vs => ∃ v r, vs = v :: r ∧ RepD G Z x v ∧ RepDs G Z xs r
end

mutual
def RepM (G : Gx) (Z H : Hp) : M → Rg → V → Prop
  | .d x, _, v => RepD G Z x v
  | .lst ms, S, v => ∃ a vs T, v = .ref a ∧ S a ∧ ¬ T a ∧ (∀ b, T b → S b) ∧ H a = some (.lst vs) ∧ RepMs G Z H ms T vs
  | .tup ms, S, v => ∃ a vs T, v = .ref a ∧ S a ∧ ¬ T a ∧ (∀ b, T b → S b) ∧ H a = some (.tup vs) ∧ RepMs G Z H ms T vs
  | .dic ks ms, S, v => ∃ a nk kv T, v = .ref a ∧ S a ∧ ¬ T a ∧ (∀ b, T b → S b) ∧ H a = some (DO G.w a nk kv) ∧ KsOk ks nk ∧ RepDs G Z ks (kv.map (fun p => p.1)) ∧ RepMs G Z H ms T (kv.map (fun p => p.2))
  | .ins C ns ms, S, v => ∃ a dx fs T, v = .ref a ∧ S a ∧ ¬ T a ∧ (∀ b, T b → S b) ∧ H a = some (.ins (G.ad C) dx fs) ∧ fs.map (fun p => p.1) = ns ∧ RepMs G Z H ms T (fs.map (fun p => p.2))
def RepMs (G : Gx) (Z H : Hp) : List M → Rg → List V → Prop
  | [], _, vs => vs = []
  | m :: ms, S, vs => ∃ v r T1 T2, vs = v :: r ∧ (∀ b, T1 b → S b) ∧ (∀ b, T2 b → S b) ∧ (∀ b, T1 b → ¬ T2 b) ∧ RepM G Z H m T1 v ∧ RepMs G Z H ms T2 r
end

mutual
/-- frozen -/
def fz : M → D
  | .d x => x
  | .lst xs => .lst (fzs xs)
  | .tup xs => .tup (fzs xs)
  | .dic ks xs => .dic ks (fzs xs)
  | .ins C ns xs => .ins C ns (fzs xs)
def fzs : List M → List D
  | [] => []
  | m :: ms => fz m :: fzs ms
end
theorem fzs_map : ∀ ms : List M, fzs ms = ms.map fz
  | [] => by simp [fzs]
  | m :: ms => by simp [fzs, fzs_map ms]

theorem Same.seqT {K : PySem.W.Frag} {H H' : Hp} {a : Addr} {xs : List V} (e : Same H H') (h : SqT K H a xs) : SqT K H' a xs := by
  rcases h with (h | ⟨o, h⟩) | h
  · exact .inl (.inl (e _ _ h))
  · exact .inl (.inr ⟨o, e _ _ h⟩)
  · exact .inr h

section
variable {G : Gx} {Z Z' H H' : Hp}
mutual
theorem RepD.mono (h : Same Z Z') : ∀ (x : D) (v : V), RepD G Z x v → RepD G Z' x v
  | .non, _, r => r
  | .bl _, _, r => r
  | .int _, _, r => r
  | .str _, _, r => r
  | .fn _, _, r => r
  | .exc _, _, r => by
    simp only [RepD] at r ⊢
    obtain ⟨a, e, q⟩ := r
    exact ⟨a, e, h _ _ q⟩
  | .tup xs, _, r => by
    simp only [RepD] at r ⊢
    obtain ⟨a, vs, e, q, r⟩ := r
    exact ⟨a, vs, e, Same.seqT h q, RepDs.mono h xs vs r⟩
  | .lst xs, _, r => by
    simp only [RepD] at r ⊢
    obtain ⟨a, vs, e, q, r⟩ := r
    exact ⟨a, vs, e, h _ _ q, RepDs.mono h xs vs r⟩
  | .scr xs, _, r => by
    simp only [RepD] at r ⊢
    obtain ⟨a, vs, e, q, r⟩ := r
    exact ⟨a, vs, e, h.seq q, RepDs.mono h xs vs r⟩
  | .dic ks xs, _, r => by
    simp only [RepD] at r ⊢
    obtain ⟨a, nk, kv, e, q, k, r1, r⟩ := r
    exact ⟨a, nk, kv, e, h _ _ q, k, RepDs.mono h ks _ r1, RepDs.mono h xs _ r⟩
  | .ins C ns xs, _, r => by
    simp only [RepD] at r ⊢
    obtain ⟨a, dx, kv, e, q, k, r⟩ := r
    exact ⟨a, dx, kv, e, h _ _ q, k, RepDs.mono h xs _ r⟩
theorem RepDs.mono (h : Same Z Z') : ∀ (xs : List D) (vs : List V), RepDs G Z xs vs → RepDs G Z' xs vs
  | [], _, r => r
  | x :: xs, _, r => by
    simp only [RepDs] at r ⊢
    obtain ⟨v, r', e, q, r⟩ := r
    exact ⟨v, r', e, RepD.mono h x v q, RepDs.mono h xs r' r⟩
end

mutual
/-- the frozen part grows, the region's objects stay, the region grows -/
theorem RepM.mono (h : Same Z Z') : ∀ (m : M) (S S' : Rg) (v : V), (∀ a, S a → S' a) → (∀ a o, S a → H a = some o → H' a = some o) → RepM G Z H m S v → RepM G Z' H' m S' v
  | .d x, _, _, v, _, _, r => by
    simp only [RepM] at r ⊢
    exact RepD.mono h x v r
  | .lst ms, S, S', v, hs, hk, r => by
    simp only [RepM] at r ⊢
    obtain ⟨a, vs, T, e, sa, ta, ts, ho, r⟩ := r
    exact ⟨a, vs, T, e, hs a sa, ta, fun b q => hs b (ts b q), hk _ _ sa ho, RepMs.mono h ms T T vs (fun _ q => q) (fun b o q => hk b o (ts b q)) r⟩
  | .tup ms, S, S', v, hs, hk, r => by
    simp only [RepM] at r ⊢
    obtain ⟨a, vs, T, e, sa, ta, ts, ho, r⟩ := r
    exact ⟨a, vs, T, e, hs a sa, ta, fun b q => hs b (ts b q), hk _ _ sa ho, RepMs.mono h ms T T vs (fun _ q => q) (fun b o q => hk b o (ts b q)) r⟩
  | .dic ks ms, S, S', v, hs, hk, r => by
    simp only [RepM] at r ⊢
    obtain ⟨a, nk, kv, T, e, sa, ta, ts, ho, k, r1, r⟩ := r
    exact ⟨a, nk, kv, T, e, hs a sa, ta, fun b q => hs b (ts b q), hk _ _ sa ho, k, RepDs.mono h ks _ r1, RepMs.mono h ms T T _ (fun _ q => q) (fun b o q => hk b o (ts b q)) r⟩
  | .ins C ns ms, S, S', v, hs, hk, r => by
    simp only [RepM] at r ⊢
    obtain ⟨a, dx, kv, T, e, sa, ta, ts, ho, k, r⟩ := r
    exact ⟨a, dx, kv, T, e, hs a sa, ta, fun b q => hs b (ts b q), hk _ _ sa ho, k, RepMs.mono h ms T T _ (fun _ q => q) (fun b o q => hk b o (ts b q)) r⟩
theorem RepMs.mono (h : Same Z Z') : ∀ (ms : List M) (S S' : Rg) (vs : List V), (∀ a, S a → S' a) → (∀ a o, S a → H a = some o → H' a = some o) → RepMs G Z H ms S vs → RepMs G Z' H' ms S' vs
  | [], _, _, _, _, _, r => r
  | m :: ms, S, S', vs, hs, hk, r => by
    simp only [RepMs] at r ⊢
    obtain ⟨v, r', T1, T2, e, s1, s2, dj, q, r⟩ := r
    exact ⟨v, r', T1, T2, e, fun b z => hs b (s1 b z), fun b z => hs b (s2 b z), dj, RepM.mono h m T1 T1 v (fun _ q => q) (fun b o z => hk b o (s1 b z)) q, RepMs.mono h ms T2 T2 r' (fun _ q => q) (fun b o z => hk b o (s2 b z)) r⟩
end

mutual
theorem RepM.frz (h : Same Z Z') : ∀ (m : M) (S : Rg) (v : V), (∀ a o, S a → H a = some o → Z' a = some o) → RepM G Z H m S v → RepD G Z' (fz m) v
  | .d x, _, v, _, r => by
    simp only [RepM] at r
    simp only [fz]
    exact RepD.mono h x v r
  | .lst ms, S, v, hk, r => by
    simp only [RepM] at r
    simp only [fz, RepD]
    obtain ⟨a, vs, T, e, sa, ta, ts, ho, r⟩ := r
    exact ⟨a, vs, e, hk _ _ sa ho, RepMs.frz h ms T vs (fun b o q => hk b o (ts b q)) r⟩
  | .tup ms, S, v, hk, r => by
    simp only [RepM] at r
    simp only [fz, RepD]
    obtain ⟨a, vs, T, e, sa, ta, ts, ho, r⟩ := r
    exact ⟨a, vs, e, SqT.of (hk _ _ sa ho), RepMs.frz h ms T vs (fun b o q => hk b o (ts b q)) r⟩
  | .dic ks ms, S, v, hk, r => by
    simp only [RepM] at r
    simp only [fz, RepD]
    obtain ⟨a, nk, kv, T, e, sa, ta, ts, ho, k, r1, r⟩ := r
    exact ⟨a, nk, kv, e, hk _ _ sa ho, k, RepDs.mono h ks _ r1, RepMs.frz h ms T _ (fun b o q => hk b o (ts b q)) r⟩
  | .ins C ns ms, S, v, hk, r => by
    simp only [RepM] at r
    simp only [fz, RepD]
    obtain ⟨a, dx, kv, T, e, sa, ta, ts, ho, k, r⟩ := r
    exact ⟨a, dx, kv, e, hk _ _ sa ho, k, RepMs.frz h ms T _ (fun b o q => hk b o (ts b q)) r⟩
theorem RepMs.frz (h : Same Z Z') : ∀ (ms : List M) (S : Rg) (vs : List V), (∀ a o, S a → H a = some o → Z' a = some o) → RepMs G Z H ms S vs → RepDs G Z' (fzs ms) vs
  | [], _, _, _, r => by
    simp only [RepMs] at r
    simp only [fzs, RepDs]
    exact r
  | m :: ms, S, vs, hk, r => by
    simp only [RepMs] at r
    simp only [fzs, RepDs]
    obtain ⟨v, r', T1, T2, e, s1, s2, dj, q, r⟩ := r
    exact ⟨v, r', e, RepM.frz h m T1 v (fun b o z => hk b o (s1 b z)) q, RepMs.frz h ms T2 r' (fun b o z => hk b o (s2 b z)) r⟩
end
theorem RepD.toM {x : D} {S : Rg} {v : V} (r : RepD G Z x v) : RepM G Z H (.d x) S v := by
  simp only [RepM]; exact r
theorem RepDs.len : ∀ {xs : List D} {vs : List V}, RepDs G Z xs vs → xs.length = vs.length
  | [], _, r => by simp only [RepDs] at r; subst r; rfl
  | x :: xs, _, r => by
    simp only [RepDs] at r
    obtain ⟨v, r', rfl, q, r⟩ := r
    simp [RepDs.len r]
theorem RepMs.len : ∀ {xs : List M} {S : Rg} {vs : List V}, RepMs G Z H xs S vs → xs.length = vs.length
  | [], _, _, r => by simp only [RepMs] at r; subst r; rfl
  | x :: xs, _, _, r => by
    simp only [RepMs] at r
    obtain ⟨v, r', T1, T2, rfl, _, _, _, q, r⟩ := r
    simp [RepMs.len r]
theorem RepDs.toM : ∀ {xs : List D} {S : Rg} {vs : List V}, RepDs G Z xs vs → RepMs G Z H (xs.map .d) S vs
  | [], _, _, r => by simp only [RepDs] at r; simp only [List.map_nil, RepMs]; exact r
  | x :: xs, S, _, r => by
    simp only [RepDs] at r
    obtain ⟨v, r', rfl, q, r⟩ := r
    simp only [List.map_cons, RepMs]
    exact ⟨v, r', fun _ => False, S, rfl, fun _ z => z.elim, fun _ z => z, fun _ z => z.elim, q.toM, RepDs.toM r⟩
theorem RepDs.get : ∀ {xs : List D} {vs : List V} {i : Nat} {x : D}, RepDs G Z xs vs → xs[i]? = some x → ∃ v, vs[i]? = some v ∧ RepD G Z x v
  | [], _, _, _, _, e => by simp at e
  | y :: xs, _, 0, x, r, e => by
    simp only [RepDs] at r
    obtain ⟨v, r', rfl, q, r⟩ := r
    simp at e; subst e
    exact ⟨v, rfl, q⟩
  | y :: xs, _, i + 1, x, r, e => by
    simp only [RepDs] at r
    obtain ⟨v, r', rfl, q, r⟩ := r
    have := RepDs.get (i := i) r (by simpa using e)
    simpa using this
theorem RepMs.get : ∀ {xs : List M} {S : Rg} {vs : List V} {i : Nat} {x : M}, RepMs G Z H xs S vs → xs[i]? = some x → ∃ v, vs[i]? = some v ∧ RepM G Z H x S v
  | [], _, _, _, _, _, e => by simp at e
  | y :: xs, _, _, 0, x, r, e => by
    simp only [RepMs] at r
    obtain ⟨v, r', T1, T2, rfl, s1, s2, dj, q, r⟩ := r
    simp at e; subst e
    exact ⟨v, rfl, RepM.mono (Same.refl _) _ _ _ _ s1 (fun _ _ _ z => z) q⟩
  | y :: xs, _, _, i + 1, x, r, e => by
    simp only [RepMs] at r
    obtain ⟨v, r', T1, T2, rfl, s1, s2, dj, q, r⟩ := r
    obtain ⟨w, h1, h2⟩ := RepMs.get (i := i) r (by simpa using e)
    exact ⟨w, by simpa using h1, RepM.mono (Same.refl _) _ _ _ _ s2 (fun _ _ _ z => z) h2⟩
theorem RepDs.app : ∀ {xs ys : List D} {vs ws : List V}, RepDs G Z xs vs → RepDs G Z ys ws → RepDs G Z (xs ++ ys) (vs ++ ws)
  | [], _, _, _, r, s => by simp only [RepDs] at r; subst r; exact s
  | x :: xs, _, _, _, r, s => by
    simp only [RepDs] at r
    obtain ⟨v, r', rfl, q, r⟩ := r
    simp only [List.cons_append, RepDs]
    exact ⟨v, _, rfl, q, RepDs.app r s⟩
/-- two rows of owned data in parted regions -/
theorem RepMs.app : ∀ {xs ys : List M} {S1 S2 S : Rg} {vs ws : List V}, RepMs G Z H xs S1 vs → RepMs G Z H ys S2 ws → (∀ b, S1 b → S b) → (∀ b, S2 b → S b) → (∀ b, S1 b → ¬ S2 b) → RepMs G Z H (xs ++ ys) S (vs ++ ws)
  | [], _, _, _, _, _, _, r, s, h1, h2, _ => by
    simp only [RepMs] at r; subst r
    exact RepMs.mono (Same.refl _) _ _ _ _ h2 (fun _ _ _ z => z) s
  | x :: xs, _, S1, S2, S, _, _, r, s, h1, h2, dj => by
    simp only [RepMs] at r
    obtain ⟨v, r', T1, T2, rfl, s1, s2, dj', q, r⟩ := r
    simp only [List.cons_append, RepMs]
    refine ⟨v, _, T1, fun b => T2 b ∨ S2 b, rfl, fun b z => h1 b (s1 b z), fun b z => z.elim (fun z => h1 b (s2 b z)) (h2 b), fun b z w => w.elim (dj' b z) (dj b (s1 b z)), q, ?_⟩
    exact RepMs.app r s (fun b z => .inl z) (fun b z => .inr z) (fun b z => dj b (s2 b z))
end

/-! ### the frozen part after a region is frozen -/
noncomputable def Fzp (Z H : Hp) (S : Rg) : Hp := fun a => if S a then H a else Z a
section
variable {G : Gx} {Z Z' H H' : Hp} {S : Rg}
theorem frz_old (zh : Same Z H) : Same Z (Fzp Z H S) := fun a o e => by
  unfold Fzp
  by_cases h : S a
  · rw [if_pos h]; exact zh a o e
  · rw [if_neg h]; exact e
theorem frz_sub (zh : Same Z H) : Same (Fzp Z H S) H := fun a o e => by
  unfold Fzp at e
  by_cases h : S a
  · rw [if_pos h] at e; exact e
  · rw [if_neg h] at e; exact zh a o e
theorem frz_in {a : Addr} (h : S a) : Fzp Z H S a = H a := by unfold Fzp; rw [if_pos h]
theorem frz_out {a : Addr} (h : ¬ S a) : Fzp Z H S a = Z a := by unfold Fzp; rw [if_neg h]
theorem RepM.frozen (zh : Same Z H) {m : M} {v : V} (r : RepM G Z H m S v) : RepD G (Fzp Z H S) (fz m) v :=
  RepM.frz (frz_old zh) m S v (fun a o sa e => by rw [frz_in sa]; exact e) r
end
end FL

set_option maxHeartbeats 2000000
/-! FLB: what a piece of a def computes, as a function of plain data; and that its reading follows. -/
namespace FL
open PySem L2 Classical

structure Exn where
  C : String
  row : Option Int := none
  deriving DecidableEq

abbrev Env := List (Option M)
inductive Res (α : Type) where
  | ok (a : α) | exc (e : Exn) (env : Env) | bad
def Res.bind {α β : Type} : Res α → (α → Res β) → Res β
  | .ok a, f => f a
  | .exc e v, _ => .exc e v
  | .bad, _ => .bad
instance : Monad Res where
  pure := .ok
  bind := Res.bind
@[simp] theorem Res.ok_bind {α β : Type} (a : α) (f : α → Res β) : ((Res.ok a) >>= f) = f a := rfl
@[simp] theorem Res.exc_bind {α β : Type} (e : Exn) (v : Env) (f : α → Res β) : ((Res.exc e v : Res α) >>= f) = .exc e v := rfl
@[simp] theorem Res.bad_bind {α β : Type} (f : α → Res β) : ((Res.bad : Res α) >>= f) = .bad := rfl
@[simp] theorem Res.pure_ok {α : Type} (a : α) : (pure a : Res α) = .ok a := rfl

/-- an exception's class and own dict -/
def ExcAt (G : Gx) (H : Hp) (e : Exn) (cls : Value) (d : Option Addr) : Prop :=
  cls = .ref (G.ad e.C) ∧ match e.row with
    | none => d = none
    | some i => ∃ dd, d = some dd ∧ H dd = some (.xd [("row", .int i)])

abbrev Rs := Nat → Rg
def U (S : Rs) : Rg := fun a => ∃ i, S i a
/-- from (Z, H) with the region R to (Z', H') with the region R' -/
structure Stp (Z H : Hp) (R : Rg) (Z' H' : Hp) (R' : Rg) : Prop where
  z : Same Z Z'
  zh : Same Z' H'
  kp : ∀ b o, H b = some o → ¬ R b → H' b = some o
  rg : ∀ a, R' a → R a ∨ H a = none
  zn : ∀ a, Z' a ≠ none → Z a ≠ none ∨ R a ∨ H a = none
section
variable {Z Z1 Z2 Z' H H1 H2 H' : Hp} {R R1 R2 R' : Rg}
theorem Stp.refl (zh : Same Z H) : Stp Z H R Z H R := ⟨Same.refl _, zh, fun _ _ e _ => e, fun _ h => .inl h, fun _ h => .inl h⟩
theorem Stp.trans (a : Stp Z H R Z1 H1 R1) (b : Stp Z1 H1 R1 Z2 H2 R2) : Stp Z H R Z2 H2 R2 := by
  have back : ∀ x, H1 x = none → R x ∨ H x = none := fun x h => by
    by_cases hr : R x
    · exact .inl hr
    · cases e : H x with
      | none => exact .inr rfl
      | some o => rw [a.kp x o e hr] at h; cases h
  refine ⟨a.z.trans b.z, b.zh, fun x o e hr => ?_, fun x h => ?_, fun x h => ?_⟩
  · refine b.kp x o (a.kp x o e hr) fun h1 => ?_
    rcases a.rg x h1 with h | h
    · exact hr h
    · rw [e] at h; cases h
  · rcases b.rg x h with h | h
    · exact a.rg x h
    · exact back x h
  · rcases b.zn x h with h | h | h
    · exact a.zn x h
    · exact .inr (a.rg x h)
    · exact .inr (back x h)
theorem Stp.weak (a : Stp Z H R Z' H' R1) (h : ∀ x, R2 x → R1 x) : Stp Z H R Z' H' R2 := ⟨a.z, a.zh, a.kp, fun x q => a.rg x (h x q), a.zn⟩
theorem Stp.frame (a : Stp Z H R Z' H' R') (T : Rg) : Stp Z H (fun x => R x ∨ T x) Z' H' (fun x => R' x ∨ T x) :=
  ⟨a.z, a.zh, fun b o e h => a.kp b o e fun q => h (.inl q), fun x h => h.elim (fun h => (a.rg x h).elim (fun h => .inl (.inl h)) .inr) fun h => .inl (.inr h),
    fun x h => (a.zn x h).elim .inl fun h => h.elim (fun h => .inr (.inl (.inl h))) fun h => .inr (.inr h)⟩
theorem Stp.from (a : Stp Z H R Z' H' R') (h : ∀ x, R x → R1 x) : Stp Z H R1 Z' H' R' :=
  ⟨a.z, a.zh, fun b o e q => a.kp b o e fun r => q (h b r), fun x q => (a.rg x q).elim (fun r => .inl (h x r)) .inr, fun x q => (a.zn x q).elim .inl fun r => r.elim (fun r => .inr (.inl (h x r))) fun r => .inr (.inr r)⟩
end

/-- a value in the hand: its region lies apart from R -/
structure Hld (G : Gx) (Z H : Hp) (R : Rg) (m : M) (S : Rg) (v : V) : Prop where
  rep : RepM G Z H m S v
  al : ∀ a, S a → H a ≠ none
  zf : ∀ a, S a → Z a = none
  dj : ∀ a, S a → ¬ R a
section
variable {G : Gx} {Z Z' H H' : Hp} {R R' : Rg} {m : M} {S : Rg} {v : V}
theorem Hld.step (h : Hld G Z H R m S v) (s : Stp Z H R Z' H' R') : Hld G Z' H' R' m S v := by
  have keep : ∀ a o, S a → H a = some o → H' a = some o := fun a o sa e => s.kp a o e (h.dj a sa)
  refine ⟨RepM.mono s.z m S S v (fun _ z => z) keep h.rep, fun a sa q => ?_, fun a sa => ?_, fun a sa q => ?_⟩
  · cases e : H a with
    | none => exact h.al a sa e
    | some o => rw [keep a o sa e] at q; cases q
  · cases q : Z' a with
    | none => rfl
    | some o =>
      rcases s.zn a (by rw [q]; exact fun z => nomatch z) with r | r | r
      · exact absurd (h.zf a sa) r
      · exact absurd r (h.dj a sa)
      · exact absurd r (h.al a sa)
  · rcases s.rg a q with r | r
    · exact h.dj a sa r
    · exact h.al a sa r
theorem Hld.data {x : D} (r : RepD G Z x v) : Hld G Z H R (.d x) (fun _ => False) v := ⟨r.toM, fun _ z => z.elim, fun _ z => z.elim, fun _ z => z.elim⟩
/-- frozen data needs no region -/
theorem Hld.free {x : D} (h : Hld G Z H R (.d x) S v) : RepD G Z x v := by
  have := h.rep
  simp only [RepM] at this
  exact this
/-- frozen in the hand -/
theorem Hld.frozen (zh : Same Z H) (h : Hld G Z H R m S v) : RepD G (Fzp Z H S) (fz m) v ∧ Stp Z H (fun a => R a ∨ S a) (Fzp Z H S) H R :=
  ⟨h.rep.frozen zh, frz_old zh, frz_sub zh, fun _ _ e _ => e, fun _ q => .inl (.inl q), fun a q => by
    by_cases sa : S a
    · exact .inr (.inl (.inr sa))
    · rw [frz_out sa] at q; exact .inl q⟩
end

/-- the slots hold what env says, each in a region of its own -/
structure Good (G : Gx) (Z H : Hp) (σ : St) (env : Env) (S : Rs) : Prop where
  zh : Same Z H
  rep : ∀ i m, env[i]? = some (some m) → ∃ v, σ[i]? = some (some v) ∧ RepM G Z H m (S i) v
  dj : ∀ i j a, S i a → S j a → i = j
  al : ∀ i a, S i a → H a ≠ none
  zf : ∀ i a, S i a → Z a = none
  len : env.length = σ.length
def Rs.set (S : Rs) (i : Nat) (T : Rg) : Rs := fun j => if j = i then T else S j
theorem Rs.set_same {S : Rs} {i : Nat} {T : Rg} : S.set i T i = T := by unfold Rs.set; rw [if_pos rfl]
theorem Rs.set_ne {S : Rs} {i j : Nat} {T : Rg} (h : j ≠ i) : S.set i T j = S j := by unfold Rs.set; rw [if_neg h]
theorem Rs.set_sub {S : Rs} {i : Nat} {T : Rg} {a : Addr} (h : U (S.set i T) a) : U S a ∨ T a := by
  obtain ⟨j, h⟩ := h
  by_cases e : j = i
  · subst e; rw [Rs.set_same] at h; exact .inr h
  · rw [Rs.set_ne e] at h; exact .inl ⟨j, h⟩
theorem Rs.wipe_sub {S : Rs} {i : Nat} {a : Addr} (h : U (S.set i fun _ => False) a) : U S a ∧ ¬ S i a ∨ ∃ j, j ≠ i ∧ S j a := by
  obtain ⟨j, h⟩ := h
  by_cases e : j = i
  · subst e; rw [Rs.set_same] at h; exact h.elim
  · rw [Rs.set_ne e] at h; exact .inr ⟨j, e, h⟩
section
variable {G : Gx} {Z Z' H H' : Hp} {σ : St} {env : Env} {S : Rs} {i : Nat} {m : M} {v : V} {T : Rg}
theorem Good.lt (g : Good G Z H σ env S) (h : i < env.length) : i < σ.length := by rw [← g.len]; exact h
/-- a slot is emptied, its datum in the hand -/
theorem Good.take (g : Good G Z H σ env S) (e : env[i]? = some (some m)) : ∃ v, σ[i]? = some (some v) ∧ Good G Z H σ (env.set i none) (S.set i fun _ => False) ∧ Hld G Z H (U (S.set i fun _ => False)) m (S i) v := by
  obtain ⟨v, hv, r⟩ := g.rep i m e
  refine ⟨v, hv, ⟨g.zh, fun j m' e' => ?_, fun j k a h1 h2 => ?_, fun j a h => ?_, fun j a h => ?_, by rw [List.length_set]; exact g.len⟩, r, g.al i, g.zf i, fun a h q => ?_⟩
  · by_cases hj : j = i
    · subst hj
      rw [List.getElem?_set_self (List.getElem?_eq_some_iff.mp e).1] at e'
      cases e'
    · rw [List.getElem?_set_ne (Ne.symm hj)] at e'
      obtain ⟨w, hw, r'⟩ := g.rep j m' e'
      exact ⟨w, hw, by rw [Rs.set_ne hj]; exact r'⟩
  · by_cases hj : j = i
    · subst hj; rw [Rs.set_same] at h1; exact h1.elim
    · by_cases hk : k = i
      · subst hk; rw [Rs.set_same] at h2; exact h2.elim
      · rw [Rs.set_ne hj] at h1; rw [Rs.set_ne hk] at h2; exact g.dj j k a h1 h2
  · by_cases hj : j = i
    · subst hj; rw [Rs.set_same] at h; exact h.elim
    · rw [Rs.set_ne hj] at h; exact g.al j a h
  · by_cases hj : j = i
    · subst hj; rw [Rs.set_same] at h; exact h.elim
    · rw [Rs.set_ne hj] at h; exact g.zf j a h
  · obtain ⟨j, q⟩ := q
    by_cases hj : j = i
    · subst hj; rw [Rs.set_same] at q; exact q.elim
    · rw [Rs.set_ne hj] at q; exact hj (g.dj j i a q h)
theorem Rs.wipe_le {S : Rs} {i : Nat} {a : Addr} (h : U (S.set i fun _ => False) a) : U S a := (Rs.set_sub h).elim id fun z => z.elim
/-- a slot is emptied -/
theorem Good.kill (g : Good G Z H σ env S) (i : Nat) : Good G Z H σ (env.set i none) (S.set i fun _ => False) := by
  refine ⟨g.zh, fun j m' e' => ?_, fun j k a h1 h2 => ?_, fun j a h => ?_, fun j a h => ?_, by rw [List.length_set]; exact g.len⟩
  · by_cases hj : j = i
    · subst hj
      by_cases hl : j < env.length
      · rw [List.getElem?_set_self hl] at e'; cases e'
      · rw [List.getElem?_eq_none (by rw [List.length_set]; omega)] at e'; cases e'
    · rw [List.getElem?_set_ne (Ne.symm hj)] at e'
      obtain ⟨w, hw, r'⟩ := g.rep j m' e'
      exact ⟨w, hw, by rw [Rs.set_ne hj]; exact r'⟩
  · by_cases hj : j = i
    · subst hj; rw [Rs.set_same] at h1; exact h1.elim
    · by_cases hk : k = i
      · subst hk; rw [Rs.set_same] at h2; exact h2.elim
      · rw [Rs.set_ne hj] at h1; rw [Rs.set_ne hk] at h2; exact g.dj j k a h1 h2
  · by_cases hj : j = i
    · subst hj; rw [Rs.set_same] at h; exact h.elim
    · rw [Rs.set_ne hj] at h; exact g.al j a h
  · by_cases hj : j = i
    · subst hj; rw [Rs.set_same] at h; exact h.elim
    · rw [Rs.set_ne hj] at h; exact g.zf j a h
/-- what is in the hand is put into a slot; σ' agrees with σ elsewhere -/
theorem Good.put' (g : Good G Z H σ env S) (h : Hld G Z H (U S) m T v) {σ' : St} (hi : i < env.length) (hs : σ'[i]? = some (some v)) (ho : ∀ j, j ≠ i → σ'[j]? = σ[j]?) (hl : σ'.length = σ.length) :
    Good G Z H σ' (env.set i (some m)) (S.set i T) := by
  refine ⟨g.zh, fun j m' e' => ?_, fun j k a h1 h2 => ?_, fun j a q => ?_, fun j a q => ?_, by rw [List.length_set, hl]; exact g.len⟩
  · by_cases hj : j = i
    · subst hj
      rw [List.getElem?_set_self hi] at e'
      cases e'
      exact ⟨v, hs, by rw [Rs.set_same]; exact h.rep⟩
    · rw [List.getElem?_set_ne (Ne.symm hj)] at e'
      obtain ⟨w, hw, r'⟩ := g.rep j m' e'
      exact ⟨w, by rw [ho j hj]; exact hw, by rw [Rs.set_ne hj]; exact r'⟩
  · by_cases hj : j = i
    · by_cases hk : k = i
      · rw [hj, hk]
      · subst hj; rw [Rs.set_same] at h1; rw [Rs.set_ne hk] at h2; exact absurd ⟨k, h2⟩ (h.dj a h1)
    · by_cases hk : k = i
      · subst hk; rw [Rs.set_same] at h2; rw [Rs.set_ne hj] at h1; exact absurd ⟨j, h1⟩ (h.dj a h2)
      · rw [Rs.set_ne hj] at h1; rw [Rs.set_ne hk] at h2; exact g.dj j k a h1 h2
  · by_cases hj : j = i
    · subst hj; rw [Rs.set_same] at q; exact h.al a q
    · rw [Rs.set_ne hj] at q; exact g.al j a q
  · by_cases hj : j = i
    · subst hj; rw [Rs.set_same] at q; exact h.zf a q
    · rw [Rs.set_ne hj] at q; exact g.zf j a q
theorem Good.put (g : Good G Z H σ env S) (h : Hld G Z H (U S) m T v) (hi : i < env.length) : Good G Z H (σ.set i (some v)) (env.set i (some m)) (S.set i T) :=
  g.put' h hi (List.getElem?_set_self (g.lt hi)) (fun j hj => List.getElem?_set_ne (Ne.symm hj)) (by rw [List.length_set])
/-- the datum goes back to the slot whose value it is -/
theorem Good.back (g : Good G Z H σ env S) (h : Hld G Z H (U S) m T v) (hs : σ[i]? = some (some v)) : Good G Z H σ (env.set i (some m)) (S.set i T) :=
  g.put' h (by rw [g.len]; exact (List.getElem?_eq_some_iff.mp hs).1) hs (fun _ _ => rfl) rfl
/-- all that Good says stays while the frozen part grows away from the slots' regions, and the heap keeps these -/
theorem Good.move {R R' : Rg} (g : Good G Z H σ env S) (s : Stp Z H R Z' H' R') (hd : ∀ a, U S a → ¬ R a) : Good G Z' H' σ env S ∧ ∀ a, U S a → ¬ R' a := by
  have keep : ∀ i a o, S i a → H a = some o → H' a = some o := fun i a o sa e => s.kp a o e (hd a ⟨i, sa⟩)
  refine ⟨⟨s.zh, fun i m e => ?_, g.dj, fun i a sa q => ?_, fun i a sa => ?_, g.len⟩, fun a ⟨i, sa⟩ q => ?_⟩
  · obtain ⟨v, hv, r⟩ := g.rep i m e
    exact ⟨v, hv, RepM.mono s.z m _ _ v (fun _ z => z) (keep i) r⟩
  · cases e : H a with
    | none => exact g.al i a sa e
    | some o => rw [keep i a o sa e] at q; cases q
  · cases q : Z' a with
    | none => rfl
    | some o =>
      rcases s.zn a (by rw [q]; exact fun z => nomatch z) with r | r | r
      · exact absurd (g.zf i a sa) r
      · exact absurd r (hd a ⟨i, sa⟩)
      · exact absurd r (g.al i a sa)
  · rcases s.rg a q with r | r
    · exact hd a ⟨i, sa⟩ r
    · exact g.al i a sa r
end

/-! ### what is computed, and that a reading follows -/
abbrev SE := Env → Res (M × Env)
abbrev VE := Env → Res M
abbrev SB := Env → Res (Bool × Env)
abbrev SA := Env → Res (List M × Env)
abbrev WX' := Value → Option Addr → St → Hp → Prop

def SEok (G : Gx) (W : WX') (t : TE) (f : SE) : Prop := ∀ (Z H : Hp) (σ : St) (env : Env) (S : Rs) (Q : VK), Good G Z H σ env S →
  match f env with
  | .ok (m, env') => (∀ v Z' H' S' T, Stp Z H (U S) Z' H' (fun a => U S' a ∨ T a) → Good G Z' H' σ env' S' → Hld G Z' H' (U S') m T v → Q v H') → t σ H Q
  | .exc e env' => (∀ cls d Z' H' S', ExcAt G H' e cls d → Stp Z H (U S) Z' H' (U S') → Good G Z' H' σ env' S' → W cls d σ H') → t σ H Q
  | .bad => True
/-- nothing is made, nothing changed: the value may lie within the slots' regions -/
def VEok (G : Gx) (t : TE) (f : VE) : Prop := ∀ (Z H : Hp) (σ : St) (env : Env) (S : Rs) (Q : VK), Good G Z H σ env S →
  match f env with
  | .ok m => (∀ v T, (∀ a, T a → U S a) → RepM G Z H m T v → Q v H) → t σ H Q
  | _ => True
def SBok (G : Gx) (W : WX') (t : TT) (f : SB) : Prop := ∀ (Z H : Hp) (σ : St) (env : Env) (S : Rs) (Q : Bool → Hp → Prop), Good G Z H σ env S →
  match f env with
  | .ok (b, env') => (∀ Z' H' S', Stp Z H (U S) Z' H' (U S') → Good G Z' H' σ env' S' → Q b H') → t σ H Q
  | .exc e env' => (∀ cls d Z' H' S', ExcAt G H' e cls d → Stp Z H (U S) Z' H' (U S') → Good G Z' H' σ env' S' → W cls d σ H') → t σ H Q
  | .bad => True
/-- the arguments in the hand: their data are the slots' of a row of their own -/
def SAok (G : Gx) (W : WX') (t : TA) (f : SA) : Prop := ∀ (Z H : Hp) (σ : St) (env : Env) (S : Rs) (Q : List V → Hp → Prop), Good G Z H σ env S →
  match f env with
  | .ok (ms, env') => (∀ vs Z' H' S' T, Stp Z H (U S) Z' H' (fun a => U S' a ∨ U T a) → Good G Z' H' σ env' S' → Good G Z' H' (vs.map some) (ms.map some) T → (∀ a, U T a → ¬ U S' a) → Q vs H') → t σ H Q
  | .exc e env' => (∀ cls d Z' H' S', ExcAt G H' e cls d → Stp Z H (U S) Z' H' (U S') → Good G Z' H' σ env' S' → W cls d σ H') → t σ H Q
  | .bad => True

structure PEs (G : Gx) (X : Cx) (W : WX') (e : Expr) (f : SE) : Prop where
  ex : ∃ t, PE X e t ∧ SEok G W t f
structure PVs (G : Gx) (X : Cx) (e : Expr) (f : VE) : Prop where
  ex : ∃ t, PE X e t ∧ VEok G t f
structure PBs (G : Gx) (X : Cx) (W : WX') (e : Expr) (f : SB) : Prop where
  ex : ∃ t, PT X e t ∧ SBok G W t f
structure PAs (G : Gx) (X : Cx) (W : WX') (es : List Expr) (f : SA) : Prop where
  ex : ∃ t, PA X es t ∧ SAok G W t f

section
variable {G : Gx} {X : Cx} {W : WX'} {e a b c : Expr} {f fa fb : SE} {g ga gb : VE} {pos : Pos}

/-! ### views -/
def vC (x : D) : VE := fun _ => .ok (.d x)
theorem VEok.const {t : TE} {x : D} (h : ∀ Z H σ Q, Same Z H → (∀ v, RepD G Z x v → Q v H) → t σ H Q) : VEok G t (vC x) := fun Z H σ env S Q g q =>
  h Z H σ Q g.zh fun v r => q v (fun _ => False) (fun _ z => z.elim) r.toM
theorem xv_int {i j pos} : PVs G X (.Constant (.int i) j pos) (vC (.int i)) := ⟨_, pe_int, VEok.const fun _ _ _ _ _ q => q _ (by simp [RepD])⟩
theorem xv_bl {b j pos} : PVs G X (.Constant (.bool b) j pos) (vC (.bl b)) := ⟨_, pe_bl, VEok.const fun _ _ _ _ _ q => q _ (by simp [RepD])⟩
theorem xv_non {j pos} : PVs G X (.Constant .none j pos) (vC .non) := ⟨_, pe_non, VEok.const fun _ _ _ _ _ q => q _ (by simp [RepD])⟩
theorem xv_str {x j pos} : PVs G X (.Constant (.str x) j pos) (vC (.str x)) := ⟨_, pe_str, VEok.const fun _ _ _ _ _ q => q _ (by simp [RepD])⟩
def getE (env : Env) (i : Nat) : Res M := match env[i]? with
  | some (some m) => .ok m
  | _ => .bad
def vN (i : Nat) : VE := fun env => getE env i
theorem xv_name (i : Nat) {x : Str} (hN : X.N[i]? = some x := by rfl) (hv : Vis X.env.scope x := by first | exact Or.inl rfl | exact Or.inr (Or.inl rfl) | exact Or.inr (Or.inr rfl)) (hd : (x == ("__debug__" : Str)) = false := by decide)
    (hcd : (x == ("__classdict__" : Str)) = false := by decide) : PVs G X (.Name x pos) (vN i) := by
  refine ⟨_, pe_var hN hv hd hcd, fun Z H σ env S Q gd => ?_⟩
  unfold vN getE
  split
  · rename_i e
    intro q
    split at e
    · rename_i m e'
      cases e
      obtain ⟨v, hv, r⟩ := gd.rep _ _ e'
      exact ⟨v, hv, q v _ (fun a h => ⟨i, h⟩) r⟩
    · cases e
  · trivial
/-- a value that a view gives and that is frozen -/
def sV (g : VE) : SE := fun env => match g env with
  | .ok (.d x) => .ok (.d x, env)
  | _ => .bad
theorem SEok.of_v {t : TE} (h : VEok G t g) : SEok G W t (sV g) := fun Z H σ env S Q gd => by
  have hh := h Z H σ env S Q gd
  unfold sV
  split
  · rename_i e
    split at e
    · rename_i x ex
      cases e
      rw [ex] at hh
      intro q
      refine hh fun v T _ r => ?_
      simp only [RepM] at r
      exact q v Z H S (fun _ => False) ((Stp.refl gd.zh).weak fun _ z => z.elim id fun z => z.elim) gd (Hld.data r)
    · cases e
  · rename_i e; split at e <;> cases e
  · trivial
theorem xe_v (h : PVs G X e g) : PEs G X W e (sV g) := by
  obtain ⟨t, p, h⟩ := h.ex
  exact ⟨t, p, SEok.of_v h⟩
/-- a name's value; what is owned is frozen -/
def sN (i : Nat) : SE := fun env => match getE env i with
  | .ok m => .ok (.d (fz m), match m with | .d _ => env | _ => env.set i (some (.d (fz m))))
  | _ => .bad
/-- a name's value is taken out of its slot -/
def sT (i : Nat) : SE := fun env => match getE env i with
  | .ok m => .ok (m, env.set i none)
  | _ => .bad
theorem getE_ok {env : Env} {i : Nat} {m : M} (h : getE env i = .ok m) : env[i]? = some (some m) := by
  unfold getE at h
  split at h
  · rename_i e; cases h; exact e
  · cases h
theorem getE_cases (env : Env) (i : Nat) : (∃ m, getE env i = .ok m) ∨ getE env i = .bad := by
  unfold getE
  split
  · exact .inl ⟨_, rfl⟩
  · exact .inr rfl
theorem Good.frozen {Z H : Hp} {σ : St} {env : Env} {S : Rs} {i : Nat} {m : M} (gd : Good G Z H σ env S) (em : env[i]? = some (some m)) :
    ∃ v, σ[i]? = some (some v) ∧ RepD G (Fzp Z H (S i)) (fz m) v ∧ Good G (Fzp Z H (S i)) H σ (env.set i (some (.d (fz m)))) (S.set i fun _ => False) ∧ Stp Z H (U S) (Fzp Z H (S i)) H (U (S.set i fun _ => False)) := by
  obtain ⟨v, hv, g1, h1⟩ := gd.take em
  have h2 := h1.frozen gd.zh
  have st : Stp Z H (U S) (Fzp Z H (S i)) H (U (S.set i fun _ => False)) := h2.2.from fun a q => q.elim Rs.wipe_le fun q => ⟨i, q⟩
  have s3 : Stp Z H (S i) (Fzp Z H (S i)) H (S i) := ⟨frz_old gd.zh, frz_sub gd.zh, fun _ _ e _ => e, fun _ q => .inl q, fun a q => by
    by_cases sa : S i a
    · exact .inr (.inl sa)
    · rw [frz_out sa] at q; exact .inl q⟩
  have g2 := (g1.move s3 (fun a q r => h1.dj a r q)).1
  have g3 := g2.back (Hld.data (R := U (S.set i fun _ => False)) h2.1) hv
  have e1 : (env.set i none).set i (some (M.d (fz m))) = env.set i (some (M.d (fz m))) := List.set_set ..
  have e2 : (S.set i fun _ => False).set i (fun _ => False) = (S.set i fun _ => False) := by
    funext j; unfold Rs.set; split <;> rfl
  rw [e1, e2] at g3
  exact ⟨v, hv, h2.1, g3, st⟩
theorem xe_name (i : Nat) {x : Str} (hN : X.N[i]? = some x := by rfl) (hv : Vis X.env.scope x := by first | exact Or.inl rfl | exact Or.inr (Or.inl rfl) | exact Or.inr (Or.inr rfl)) (hd : (x == ("__debug__" : Str)) = false := by decide)
    (hcd : (x == ("__classdict__" : Str)) = false := by decide) : PEs G X W (.Name x pos) (sN i) := by
  refine ⟨_, pe_var hN hv hd hcd, fun Z H σ env S Q gd => ?_⟩
  unfold sN
  rcases getE_cases env i with ⟨m, e⟩ | e
  · rw [e]
    have em := getE_ok e
    cases hm : m with
    | d x =>
      subst hm
      simp only [fz]
      intro q
      obtain ⟨v, hv, r⟩ := gd.rep i _ em
      simp only [RepM] at r
      exact ⟨v, hv, q v Z H S (fun _ => False) ((Stp.refl gd.zh).weak fun _ z => z.elim id fun z => z.elim) gd (Hld.data r)⟩
    | _ =>
      rw [← hm]
      intro q
      obtain ⟨v, hv, r, g', st⟩ := gd.frozen em
      refine ⟨v, hv, q v _ H _ (fun _ => False) (st.weak fun _ z => z.elim id fun z => z.elim) ?_ (Hld.data r)⟩
      subst hm
      exact g'
  · rw [e]; trivial
theorem xe_take (i : Nat) {x : Str} (hN : X.N[i]? = some x := by rfl) (hv : Vis X.env.scope x := by first | exact Or.inl rfl | exact Or.inr (Or.inl rfl) | exact Or.inr (Or.inr rfl)) (hd : (x == ("__debug__" : Str)) = false := by decide)
    (hcd : (x == ("__classdict__" : Str)) = false := by decide) : PEs G X W (.Name x pos) (sT i) := by
  refine ⟨_, pe_var hN hv hd hcd, fun Z H σ env S Q gd => ?_⟩
  unfold sT
  rcases getE_cases env i with ⟨m, e⟩ | e
  · rw [e]
    intro q
    obtain ⟨v, hv, g1, h1⟩ := gd.take (getE_ok e)
    exact ⟨v, hv, q v Z H _ (S i) ((Stp.refl gd.zh).weak fun a z => z.elim Rs.wipe_le fun z => ⟨i, z⟩) g1 h1⟩
  · rw [e]; trivial
end
end FL

set_option maxHeartbeats 2000000
/-! FLC: operators, comparisons, subscripts, len, isinstance. -/
namespace FL
open PySem L2 Classical

/-! ### reading data off the heap -/
mutual
def toPy : D → PyData
  | .non => .none
  | .bl b => .bool b
  | .int i => .int i
  | .str x => .str x
  | .tup xs => .tuple (toPys xs)
  | .lst xs => .list (toPys xs)
  | .scr xs => .list (toPys xs)
  | .fn _ => .dict []
  | .exc _ => .dict []
  | .dic _ _ => .dict []
  | .ins _ _ _ => .dict []
def toPys : List D → List PyData
  | [] => []
  | x :: xs => toPy x :: toPys xs
end
section
variable {G : Gx} {Z H : Hp}
mutual
theorem RepD.dp (zh : Same Z H) : ∀ (x : D) (v : V), (toPy x).plain = true → RepD G Z x v → Dp G.K H v (toPy x)
  | .non, _, _, r => by simp only [RepD] at r; subst r; exact .non
  | .bl b, _, _, r => by simp only [RepD] at r; subst r; exact .bl b
  | .int b, _, _, r => by simp only [RepD] at r; subst r; exact .int b
  | .str b, _, _, r => by simp only [RepD] at r; subst r; exact .str b
  | .tup xs, _, p, r => by
    simp only [RepD] at r
    obtain ⟨a, vs, rfl, q, r⟩ := r
    simp only [toPy, PyData.plain] at p
    exact .tup (Same.seqT zh q) (RepDs.dp zh xs vs p r)
  | .lst xs, _, p, r => by
    simp only [RepD] at r
    obtain ⟨a, vs, rfl, q, r⟩ := r
    simp only [toPy, PyData.plain] at p
    exact .lst (SqL.of (zh _ _ q)) (RepDs.dp zh xs vs p r)
  | .scr xs, _, p, r => by
    simp only [RepD] at r
    obtain ⟨a, vs, rfl, q, r⟩ := r
    simp only [toPy, PyData.plain] at p
    exact .lst (zh.seq q) (RepDs.dp zh xs vs p r)
  | .fn _, _, p, _ => by simp only [toPy, PyData.plain] at p; cases p
  | .exc _, _, p, _ => by simp only [toPy, PyData.plain] at p; cases p
  | .dic _ _, _, p, _ => by simp only [toPy, PyData.plain] at p; cases p
  | .ins _ _ _, _, p, _ => by simp only [toPy, PyData.plain] at p; cases p
theorem RepDs.dp (zh : Same Z H) : ∀ (xs : List D) (vs : List V), PyData.plainAll (toPys xs) = true → RepDs G Z xs vs → DpAll G.K H vs (toPys xs)
  | [], _, _, r => by simp only [RepDs] at r; subst r; exact .nil
  | x :: xs, _, p, r => by
    simp only [RepDs] at r
    obtain ⟨v, r', rfl, q, r⟩ := r
    simp only [toPys, PyData.plainAll, Bool.and_eq_true] at p
    exact .cons (RepD.dp zh x v p.1 q) (RepDs.dp zh xs r' p.2 r)
end
theorem RepM.dp (zh : Same Z H) {m : M} {T : Rg} {v : V} (r : RepM G Z H m T v) (p : (toPy (fz m)).plain = true) : Dp G.K H v (toPy (fz m)) :=
  RepD.dp (Same.refl H) (fz m) v p (RepM.frz zh m T v (fun _ _ _ e => e) r)

def M.seq : M → Option (Bool × List M)
  | .d (.lst xs) => some (false, xs.map .d)
  | .d (.scr xs) => some (false, xs.map .d)
  | .d (.tup xs) => some (true, xs.map .d)
  | .lst ms => some (false, ms)
  | .tup ms => some (true, ms)
  | _ => none
theorem RepM.seq (zh : Same Z H) {m : M} {T : Rg} {v : V} {b : Bool} {ms : List M} (r : RepM G Z H m T v) (e : m.seq = some (b, ms)) :
    ∃ a vs, v = .ref a ∧ (b = true → SqT G.K H a vs) ∧ (b = false → SqL G.K H a vs) ∧ RepMs G Z H ms T vs := by
  cases m with
  | d x =>
    simp only [RepM] at r
    cases x with
    | lst xs =>
      simp only [M.seq, Option.some.injEq, Prod.mk.injEq] at e
      obtain ⟨rfl, rfl⟩ := e
      simp only [RepD] at r
      obtain ⟨a, vs, rfl, q, r⟩ := r
      exact ⟨a, vs, rfl, (fun h => nomatch h), fun _ => SqL.of (zh _ _ q), r.toM⟩
    | scr xs =>
      simp only [M.seq, Option.some.injEq, Prod.mk.injEq] at e
      obtain ⟨rfl, rfl⟩ := e
      simp only [RepD] at r
      obtain ⟨a, vs, rfl, q, r⟩ := r
      exact ⟨a, vs, rfl, (fun h => nomatch h), fun _ => zh.seq q, r.toM⟩
    | tup xs =>
      simp only [M.seq, Option.some.injEq, Prod.mk.injEq] at e
      obtain ⟨rfl, rfl⟩ := e
      simp only [RepD] at r
      obtain ⟨a, vs, rfl, q, r⟩ := r
      exact ⟨a, vs, rfl, fun _ => Same.seqT zh q, (fun h => nomatch h), r.toM⟩
    | _ => simp [M.seq] at e
  | lst xs =>
    simp only [M.seq, Option.some.injEq, Prod.mk.injEq] at e
    obtain ⟨rfl, rfl⟩ := e
    simp only [RepM] at r
    obtain ⟨a, vs, T', rfl, sa, ta, ts, ho, r⟩ := r
    exact ⟨a, vs, rfl, (fun h => nomatch h), fun _ => SqL.of ho, RepMs.mono (Same.refl _) _ _ _ _ ts (fun _ _ _ z => z) r⟩
  | tup xs =>
    simp only [M.seq, Option.some.injEq, Prod.mk.injEq] at e
    obtain ⟨rfl, rfl⟩ := e
    simp only [RepM] at r
    obtain ⟨a, vs, T', rfl, sa, ta, ts, ho, r⟩ := r
    exact ⟨a, vs, rfl, fun _ => SqT.of ho, (fun h => nomatch h), RepMs.mono (Same.refl _) _ _ _ _ ts (fun _ _ _ z => z) r⟩
  | _ => simp [M.seq] at e
end

/-! ### two-place operations whose answer is plain -/
abbrev DOp := M → M → Res D
def VOP (G : Gx) (r : R2) (op : DOp) : Prop := ∀ (Z H : Hp) (m1 : M) (T1 : Rg) (v1 : V) (m2 : M) (T2 : Rg) (v2 : V) (Q : VK), Same Z H → RepM G Z H m1 T1 v1 → RepM G Z H m2 T2 v2 →
  match op m1 m2 with
  | .ok x => (∀ u, RepD G Z x u → Q u H) → r v1 v2 H Q
  | _ => True
def v2 (op : DOp) (ga gb : VE) : VE := fun env => match ga env, gb env with
  | .ok m1, .ok m2 => match op m1 m2 with
    | .ok x => .ok (.d x)
    | _ => .bad
  | _, _ => .bad
def s2 (op : DOp) (fa fb : SE) : SE := fun env => match fa env with
  | .ok (m1, e1) => match fb e1 with
    | .ok (m2, e2) => match op m1 m2 with
      | .ok x => .ok (.d x, e2)
      | _ => .bad
    | .exc e v => .exc e v
    | .bad => .bad
  | .exc e v => .exc e v
  | .bad => .bad
/-- the left a name's slot as it is -/
def s2n (op : DOp) (i : Nat) (fb : SE) : SE := fun env => match getE env i with
  | .ok _ => match fb env with
    | .ok (m2, e2) => match getE e2 i with
      | .ok m1 => match op m1 m2 with
        | .ok x => .ok (.d x, e2)
        | _ => .bad
      | _ => .bad
    | .exc e v => .exc e v
    | .bad => .bad
  | _ => .bad
/-- the right a view -/
def s2v (op : DOp) (fa : SE) (gb : VE) : SE := fun env => match fa env with
  | .ok (m1, e1) => match gb e1 with
    | .ok m2 => match op m1 m2 with
      | .ok x => .ok (.d x, e1)
      | _ => .bad
    | _ => .bad
  | .exc e v => .exc e v
  | .bad => .bad
section
variable {G : Gx} {X : Cx} {W : WX'} {r : R2} {op : DOp} {ta tb : TE} {fa fb : SE} {ga gb : VE} {a b : Expr} {pos : Pos}
theorem VEok.bin (h : VOP G r op) (ha : VEok G ta ga) (hb : VEok G tb gb) : VEok G (tOp r ta tb) (v2 op ga gb) := fun Z H σ env S Q gd => by
  have h1 := ha Z H σ env S (fun x H1 => tb σ H1 fun y H2 => r x y H2 Q) gd
  unfold v2
  split
  · rename_i e
    intro q
    split at e
    · rename_i m1 m2 e1 e2
      split at e
      · rename_i x ex
        cases e
        rw [e1] at h1
        refine h1 fun v T1 _ r1 => ?_
        have h2 := hb Z H σ env S (fun y H2 => r v y H2 Q) gd
        rw [e2] at h2
        refine h2 fun w T2 _ r2 => ?_
        have h3 := h Z H m1 T1 v m2 T2 w Q gd.zh r1 r2
        rw [ex] at h3
        exact h3 fun u ru => q u (fun _ => False) (fun _ z => z.elim) ru.toM
      · cases e
    · cases e
  · trivial
theorem SEok.bin (h : VOP G r op) (ha : SEok G W ta fa) (hb : SEok G W tb fb) : SEok G W (tOp r ta tb) (s2 op fa fb) := fun Z H σ env S Q gd => by
  have h1 := ha Z H σ env S (fun x H1 => tb σ H1 fun y H2 => r x y H2 Q) gd
  unfold s2
  cases e1 : fa env with
  | bad => trivial
  | exc e v => rw [e1] at h1; exact h1
  | ok p =>
    obtain ⟨m1, env1⟩ := p
    rw [e1] at h1
    simp only
    cases e2 : fb env1 with
    | bad => trivial
    | exc e v =>
      intro q
      refine h1 fun v1 Z1 H1 S1 T1 s1 g1 l1 => ?_
      have h2 := hb Z1 H1 σ env1 S1 (fun y H2 => r v1 y H2 Q) g1
      rw [e2] at h2
      refine h2 fun cls d Z2 H2 S2 x2 s2 g2 => ?_
      have s2' := (s2.frame T1).weak (R2 := U S2) fun _ z => .inl z
      exact q cls d Z2 H2 S2 x2 (s1.trans s2') g2
    | ok p2 =>
      obtain ⟨m2, env2⟩ := p2
      simp only
      cases e3 : op m1 m2 with
      | ok x =>
        intro q
        refine h1 fun v1 Z1 H1 S1 T1 s1 g1 l1 => ?_
        have h2 := hb Z1 H1 σ env1 S1 (fun y H2 => r v1 y H2 Q) g1
        rw [e2] at h2
        refine h2 fun w2 Z2 H2 S2 T2 s2 g2 l2 => ?_
        have l1' := l1.step s2
        have h3 := h Z2 H2 m1 T1 v1 m2 T2 w2 Q g2.zh l1'.rep l2.rep
        rw [e3] at h3
        refine h3 fun u ru => ?_
        have s2' := (s2.frame T1).weak (R2 := fun a => U S2 a ∨ False) fun _ z => .inl (.inl (z.elim id fun z => z.elim))
        exact q u Z2 H2 S2 (fun _ => False) (s1.trans s2') g2 (Hld.data ru)
      | _ => trivial
theorem SEok.binN {i : Nat} (h : VOP G r op) (hb : SEok G W tb fb) : SEok G W (tOp r (tVar i) tb) (s2n op i fb) := fun Z H σ env S Q gd => by
  unfold s2n
  rcases getE_cases env i with ⟨m0, e0⟩ | e0
  · rw [e0]
    obtain ⟨v, hv, _⟩ := gd.rep i m0 (getE_ok e0)
    have h2 := hb Z H σ env S (fun y H2 => r v y H2 Q) gd
    simp only
    cases e2 : fb env with
    | bad => trivial
    | exc e w => rw [e2] at h2; intro q; exact ⟨v, hv, h2 q⟩
    | ok p2 =>
      obtain ⟨m2, env2⟩ := p2
      rw [e2] at h2
      simp only
      rcases getE_cases env2 i with ⟨m1, e1⟩ | e1
      · rw [e1]
        simp only
        cases e3 : op m1 m2 with
        | ok x =>
          intro q
          refine ⟨v, hv, h2 fun w2 Z2 H2 S2 T2 s2 g2 l2 => ?_⟩
          obtain ⟨v', hv', r1⟩ := g2.rep i m1 (getE_ok e1)
          rw [hv] at hv'; cases hv'
          have h3 := h Z2 H2 m1 _ v m2 T2 w2 Q g2.zh r1 l2.rep
          rw [e3] at h3
          exact h3 fun u ru => q u Z2 H2 S2 (fun _ => False) (s2.weak fun _ z => .inl (z.elim id fun z => z.elim)) g2 (Hld.data ru)
        | _ => trivial
      · rw [e1]; trivial
  · rw [e0]; trivial
theorem SEok.binV (h : VOP G r op) (ha : SEok G W ta fa) (hb : VEok G tb gb) : SEok G W (tOp r ta tb) (s2v op fa gb) := fun Z H σ env S Q gd => by
  have h1 := ha Z H σ env S (fun x H1 => tb σ H1 fun y H2 => r x y H2 Q) gd
  unfold s2v
  cases e1 : fa env with
  | bad => trivial
  | exc e v => rw [e1] at h1; exact h1
  | ok p =>
    obtain ⟨m1, env1⟩ := p
    rw [e1] at h1
    simp only
    cases e2 : gb env1 with
    | ok m2 =>
      simp only
      cases e3 : op m1 m2 with
      | ok x =>
        intro q
        refine h1 fun v1 Z1 H1 S1 T1 s1 g1 l1 => ?_
        have h2 := hb Z1 H1 σ env1 S1 (fun y H2 => r v1 y H2 Q) g1
        rw [e2] at h2
        refine h2 fun w2 T2 _ r2 => ?_
        have h3 := h Z1 H1 m1 T1 v1 m2 T2 w2 Q g1.zh l1.rep r2
        rw [e3] at h3
        exact h3 fun u ru => q u Z1 H1 S1 (fun _ => False) (s1.weak fun _ z => .inl (z.elim id fun z => z.elim)) g1 (Hld.data ru)
      | _ => trivial
    | _ => trivial

/-! the three kinds -/
theorem xv_op {o : Operator} (ho : OpR X (binaryOp o) r) (h : VOP G r op) (ha : PVs G X a ga) (hb : PVs G X b gb) : PVs G X (.BinOp a o b pos) (v2 op ga gb) := by
  obtain ⟨ta, pa, ha⟩ := ha.ex
  obtain ⟨tb, pb, hb⟩ := hb.ex
  exact ⟨_, pe_op ho pa pb, VEok.bin h ha hb⟩
theorem xe_op {o : Operator} (ho : OpR X (binaryOp o) r) (h : VOP G r op) (ha : PEs G X W a fa) (hb : PEs G X W b fb) : PEs G X W (.BinOp a o b pos) (s2 op fa fb) := by
  obtain ⟨ta, pa, ha⟩ := ha.ex
  obtain ⟨tb, pb, hb⟩ := hb.ex
  exact ⟨_, pe_op ho pa pb, SEok.bin h ha hb⟩
theorem xv_cmp {o : CmpOp} (ho : OpR X (compareOp o) r) (h : VOP G r op) (ha : PVs G X a ga) (hb : PVs G X b gb) (hm : behindInMarks o b = false) : PVs G X (.Compare a [o] [b] pos) (v2 op ga gb) := by
  obtain ⟨ta, pa, ha⟩ := ha.ex
  obtain ⟨tb, pb, hb⟩ := hb.ex
  exact ⟨_, pe_cmpR ho pa pb hm, VEok.bin h ha hb⟩
theorem xe_cmp {o : CmpOp} (ho : OpR X (compareOp o) r) (h : VOP G r op) (ha : PEs G X W a fa) (hb : PEs G X W b fb) (hm : behindInMarks o b = false) : PEs G X W (.Compare a [o] [b] pos) (s2 op fa fb) := by
  obtain ⟨ta, pa, ha⟩ := ha.ex
  obtain ⟨tb, pb, hb⟩ := hb.ex
  exact ⟨_, pe_cmpR ho pa pb hm, SEok.bin h ha hb⟩
theorem xe_cmpN {o : CmpOp} (i : Nat) {x : Str} {p1 : Pos} (ho : OpR X (compareOp o) r) (h : VOP G r op) (hb : PEs G X W b fb) (hm : behindInMarks o b = false) (hN : X.N[i]? = some x := by rfl) (hv : Vis X.env.scope x := by first | exact Or.inl rfl | exact Or.inr (Or.inl rfl) | exact Or.inr (Or.inr rfl))
    (hd : (x == ("__debug__" : Str)) = false := by decide) (hcd : (x == ("__classdict__" : Str)) = false := by decide) : PEs G X W (.Compare (.Name x p1) [o] [b] pos) (s2n op i fb) := by
  obtain ⟨tb, pb, hb⟩ := hb.ex
  exact ⟨_, pe_cmpR ho (pe_var hN hv hd hcd) pb hm, SEok.binN h hb⟩
theorem xe_cmpV {o : CmpOp} (ho : OpR X (compareOp o) r) (h : VOP G r op) (ha : PEs G X W a fa) (hb : PVs G X b gb) (hm : behindInMarks o b = false) : PEs G X W (.Compare a [o] [b] pos) (s2v op fa gb) := by
  obtain ⟨ta, pa, ha⟩ := ha.ex
  obtain ⟨tb, pb, hb⟩ := hb.ex
  exact ⟨_, pe_cmpR ho pa pb hm, SEok.binV h ha hb⟩
theorem xe_ixS (ho : IxR X r) (h : VOP G r op) (ha : PEs G X W a fa) (hb : PVs G X b gb) (hs : PlainIx b := by exact fun _ _ => rfl) : PEs G X W (.Subscript a b pos) (s2v op fa gb) := by
  obtain ⟨ta, pa, ha⟩ := ha.ex
  obtain ⟨tb, pb, hb⟩ := hb.ex
  exact ⟨_, pe_ix ho pa pb hs, SEok.binV h ha hb⟩
end

/-! ### numbers and texts -/
theorem rep_int {G : Gx} {Z H : Hp} {i : Int} {T : Rg} {v : V} (r : RepM G Z H (.d (.int i)) T v) : v = .int i := by simpa [RepM, RepD] using r
theorem rep_str {G : Gx} {Z H : Hp} {i : Str} {T : Rg} {v : V} (r : RepM G Z H (.d (.str i)) T v) : v = .str i := by simpa [RepM, RepD] using r
theorem rep_bl {G : Gx} {Z H : Hp} {i : Bool} {T : Rg} {v : V} (r : RepM G Z H (.d (.bl i)) T v) : v = .bl i := by simpa [RepM, RepD] using r
theorem rep_non {G : Gx} {Z H : Hp} {T : Rg} {v : V} (r : RepM G Z H (.d .non) T v) : v = .non := by simpa [RepM, RepD] using r
/-- two ints in -/
def dI (C : Int → Int → Prop) [∀ i j, Decidable (C i j)] (g : Int → Int → D) : DOp
  | .d (.int i), .d (.int j) => if C i j then .ok (g i j) else .bad
  | _, _ => .bad
/-- two texts in -/
def dS (C : Str → Str → Prop) [∀ i j, Decidable (C i j)] (g : Str → Str → D) : DOp
  | .d (.str i), .d (.str j) => if C i j then .ok (g i j) else .bad
  | _, _ => .bad
def dOr (f g : DOp) : DOp := fun a b => match f a b with
  | .ok x => .ok x
  | _ => g a b
def rOr (r r' : R2) : R2 := fun x y H Q => r x y H Q ∨ r' x y H Q
theorem OpR.orR {X : Cx} {f : Value → Value → Sem Value} {r r' : R2} (h : OpR X f r) (h' : OpR X f r') : OpR X f (rOr r r') :=
  fun pins s σ H x y v u Q I rx ry q => q.elim (h pins s σ H x y v u Q I rx ry) (h' pins s σ H x y v u Q I rx ry)
theorem VOP.or {G : Gx} {r r' : R2} {f g : DOp} (h : VOP G r f) (h' : VOP G r' g) : VOP G (rOr r r') (dOr f g) := fun Z H m1 T1 v1 m2 T2 v2 Q zh r1 r2 => by
  have a := h Z H m1 T1 v1 m2 T2 v2 Q zh r1 r2
  have b := h' Z H m1 T1 v1 m2 T2 v2 Q zh r1 r2
  unfold dOr
  cases e : f m1 m2 with
  | ok x => rw [e] at a; exact fun q => .inl (a q)
  | _ =>
    simp only
    cases e' : g m1 m2 with
    | ok x => rw [e'] at b; exact fun q => .inr (b q)
    | _ => trivial
theorem vop_I {G : Gx} {C : Int → Int → Prop} [∀ i j, Decidable (C i j)] {g : Int → Int → D} {g' : Int → Int → V} (h : ∀ i j, C i j → ∀ Z, RepD G Z (g i j) (g' i j)) : VOP G (rI C g') (dI C g) := fun Z H m1 T1 v1 m2 T2 v2 Q zh r1 r2 => by
  unfold dI
  split
  · rename_i e
    intro q
    split at e
    · rename_i i j
      split at e
      · rename_i hc
        cases e
        exact ⟨i, j, rep_int r1, rep_int r2, hc, q _ (h i j hc Z)⟩
      · cases e
    · cases e
  · trivial
theorem vop_I0 {G : Gx} {g : Int → Int → D} {g' : Int → Int → V} (h : ∀ i j Z, RepD G Z (g i j) (g' i j)) : VOP G (rI0 g') (dI (fun _ _ => True) g) := fun Z H m1 T1 v1 m2 T2 v2 Q zh r1 r2 => by
  unfold dI
  split
  · rename_i e
    intro q
    split at e
    · rename_i i j
      simp only [if_true] at e
      cases e
      exact ⟨i, j, rep_int r1, rep_int r2, q _ (h i j Z)⟩
    · cases e
  · trivial
theorem vop_S {G : Gx} {C : Str → Str → Prop} [∀ i j, Decidable (C i j)] {g : Str → Str → D} {g' : Str → Str → V} (h : ∀ i j, C i j → ∀ Z, RepD G Z (g i j) (g' i j)) : VOP G (fun x y H Q => ∃ i j, x = .str i ∧ y = .str j ∧ C i j ∧ Q (g' i j) H) (dS C g) :=
  fun Z H m1 T1 v1 m2 T2 v2 Q zh r1 r2 => by
  unfold dS
  split
  · rename_i e
    intro q
    split at e
    · rename_i i j
      split at e
      · rename_i hc
        cases e
        exact ⟨i, j, rep_str r1, rep_str r2, hc, q _ (h i j hc Z)⟩
      · cases e
    · cases e
  · trivial
theorem vop_S0 {G : Gx} {g : Str → Str → D} {g' : Str → Str → V} (h : ∀ i j, ∀ Z, RepD G Z (g i j) (g' i j)) : VOP G (fun x y H Q => ∃ i j, x = .str i ∧ y = .str j ∧ Q (g' i j) H) (dS (fun _ _ => True) g) :=
  fun Z H m1 T1 v1 m2 T2 v2 Q zh r1 r2 => by
  unfold dS
  split
  · rename_i e
    intro q
    split at e
    · rename_i i j
      simp only [if_true] at e
      cases e
      exact ⟨i, j, rep_str r1, rep_str r2, q _ (h i j Z)⟩
    · cases e
  · trivial

theorem intD {G : Gx} {Z : Hp} {i : Int} : RepD G Z (.int i) (.int i) := by simp [RepD]
theorem blD {G : Gx} {Z : Hp} {i : Bool} : RepD G Z (.bl i) (.bl i) := by simp [RepD]
theorem strD {G : Gx} {Z : Hp} {i : Str} : RepD G Z (.str i) (.str i) := by simp [RepD]

/-- floor division by any divisor but 0, below 2 ^ 9000 -/
abbrev CFdiv (i j : Int) : Prop := j ≠ 0 ∧ j.natAbs.log2 < 9000
def fdivI (i j : Int) : Int := if 0 < j then i / j else i.fdiv j
def modI (i j : Int) : Int := if 0 < j then i % j else i.fmod j
theorem fdivI_eq (i j : Int) : i.fdiv j = fdivI i j := by
  unfold fdivI
  split
  · rename_i h; exact Int.fdiv_eq_ediv_of_nonneg i (by omega)
  · rfl
theorem modI_eq (i j : Int) : i.fmod j = modI i j := by
  unfold modI
  split
  · rename_i h; exact Int.fmod_eq_emod_of_nonneg i (by omega)
  · rfl
abbrev CMulD (i j : Int) : Prop := i.natAbs.log2 + j.natAbs.log2 < 130000000
theorem mulOkD {i j : Int} (h : CMulD i j) : PySem.IntMulOk i j := by
  have b : ∀ x : Int, Builtin.Int.intBits x ≤ x.natAbs.log2 + 1 := fun x => by
    unfold Builtin.Int.intBits
    split <;> omega
  have h1 := b i
  have h2 := b j
  have h3 : i.natAbs.log2 + j.natAbs.log2 < 130000000 := h
  have e : bitsLine = 134217728 := by decide
  unfold PySem.IntMulOk
  intro z
  rw [Bool.and_eq_true] at z
  have z2 := z.2
  unfold Builtin.Int.intTooBig at z2
  have z3 := of_decide_eq_true z2
  rw [e] at z3
  omega
abbrev CPowD (i j : Int) : Prop := 0 ≤ j ∧ j ≤ 1000000 ∧ i.natAbs < 2 ^ 64
section
variable {G : Gx} {X : Cx}
theorem op_fdivG : OpR X (binaryOp .FloorDiv) (rI CFdiv fun i j => .int (fdivI i j)) := opI fun i j _ _ _ _ _ hc q => PyProof.Rows.floordiv_int hc.1 (by rw [fdivI_eq]; exact q) (.inl (PyProof.noPylong_of_log2 hc.2))
theorem op_modG : OpR X (binaryOp .Mod) (rI (fun _ j => j ≠ 0) fun i j => .int (modI i j)) := opI fun i j _ _ _ _ _ hc q => PyProof.Rows.mod_int' hc (by rw [modI_eq]; exact q)
end
def oAdd : DOp := dOr (dI (fun _ _ => True) fun i j => .int (i + j)) (dS (fun i j => i.length + j.length ≤ sizeLine) fun i j => .str (i ++ j))
def oSub : DOp := dI (fun _ _ => True) fun i j => .int (i - j)
def oMul : DOp := dI CMulD fun i j => .int (i * j)
def oFdiv : DOp := dI CFdiv fun i j => .int (fdivI i j)
def oMod : DOp := dI (fun _ j => j ≠ 0) fun i j => .int (modI i j)
def oPow : DOp := dI CPowD fun i j => .int (i ^ j.toNat)
def oLt : DOp := dOr (dI (fun _ _ => True) fun i j => .bl (decide (i < j))) (dS (fun _ _ => True) fun i j => .bl (decide (i.cps.toList < j.cps.toList)))
def oLe : DOp := dOr (dI (fun _ _ => True) fun i j => .bl (decide (i ≤ j))) (dS (fun _ _ => True) fun i j => .bl (!decide (j.cps.toList < i.cps.toList)))
def oGt : DOp := dOr (dI (fun _ _ => True) fun i j => .bl (decide (j < i))) (dS (fun _ _ => True) fun i j => .bl (decide (j.cps.toList < i.cps.toList)))
def oGe : DOp := dOr (dI (fun _ _ => True) fun i j => .bl (decide (j ≤ i))) (dS (fun _ _ => True) fun i j => .bl (!decide (i.cps.toList < j.cps.toList)))
/-- data are alike -/
def eqD (x y : D) : Bool := PyData.eqv (toPy x) (toPy y)
abbrev CEq (x y : D) : Prop := (toPy x).plain = true ∧ (toPy y).plain = true ∧ min (toPy x).depth (toPy y).depth ≤ 60
def oEq : DOp := fun m1 m2 => if CEq (fz m1) (fz m2) then .ok (.bl (eqD (fz m1) (fz m2))) else .bad
def oNe : DOp := fun m1 m2 => if CEq (fz m1) (fz m2) then .ok (.bl (!eqD (fz m1) (fz m2))) else .bad
def isNon : M → Bool
  | .d .non => true
  | _ => false
def oIs : DOp := fun m1 m2 => match m1, m2 with
  | m, .d .non => .ok (.bl (isNon m))
  | .d (.bl a), .d (.bl b) => .ok (.bl (a == b))
  | _, _ => .bad
def oIsNot : DOp := fun m1 m2 => match m1, m2 with
  | m, .d .non => .ok (.bl (!isNon m))
  | _, _ => .bad
/-- a flat thing among flat ones, one sign in a text -/
def flatD : D → Bool
  | .non => true | .bl _ => true | .int _ => true | .str _ => true
  | _ => false
def flatM : M → Bool
  | .d x => flatD x
  | _ => false
def D.V : D → V
  | .non => .non | .bl b => .bl b | .int i => .int i | .str x => .str x
  | _ => .non
def M.V : M → V
  | .d x => x.V
  | _ => .non
def inM (m1 m2 : M) : Res Bool := match m2.seq with
  | some (_, ms) => if flatM m1 = true ∧ ms.all flatM = true then .ok (inV m1.V (ms.map M.V)) else .bad
  | none => match m1, m2 with
    | .d (.str w), .d (.str z) => match w.cps.toList with
      | [c] => .ok (decide (c ∈ z.cps.toList))
      | _ => .bad
    | _, _ => .bad
def oIn : DOp := fun m1 m2 => match inM m1 m2 with
  | .ok b => .ok (.bl b)
  | _ => .bad
def oNotIn : DOp := fun m1 m2 => match inM m1 m2 with
  | .ok b => .ok (.bl (!b))
  | _ => .bad
theorem flat_rep {G : Gx} {Z H : Hp} {m : M} {T : Rg} {v : V} (r : RepM G Z H m T v) (f : flatM m = true) : v = m.V ∧ flatV v = true := by
  cases m with
  | d x =>
    simp only [RepM] at r
    cases x <;> simp_all [RepD, M.V, D.V, flatM, flatD, flatV]
  | _ => simp [flatM] at f
theorem flats_rep {G : Gx} {Z H : Hp} : ∀ {ms : List M} {T : Rg} {vs : List V}, RepMs G Z H ms T vs → ms.all flatM = true → vs = ms.map M.V ∧ vs.all flatV = true
  | [], _, _, r, _ => by simp only [RepMs] at r; subst r; exact ⟨rfl, rfl⟩
  | m :: ms, _, _, r, f => by
    simp only [RepMs] at r
    obtain ⟨v, r', T1, T2, rfl, _, _, _, q, r⟩ := r
    rw [List.all_cons, Bool.and_eq_true] at f
    obtain ⟨h1, h2⟩ := flat_rep q f.1
    obtain ⟨h3, h4⟩ := flats_rep r f.2
    exact ⟨by rw [List.map_cons, ← h1, ← h3], by rw [List.all_cons, h2, h4]; rfl⟩
def rEqP (K : PySem.W.Frag) : R2 := fun x y H Q => ∃ d e : PyData, Dp K H x d ∧ Dp K H y e ∧ d.plain = true ∧ e.plain = true ∧ min d.depth e.depth ≤ 60 ∧ Q (.bl (PyData.eqv d e)) H
def rNeP (K : PySem.W.Frag) : R2 := fun x y H Q => ∃ d e : PyData, Dp K H x d ∧ Dp K H y e ∧ d.plain = true ∧ e.plain = true ∧ min d.depth e.depth ≤ 60 ∧ Q (.bl (!PyData.eqv d e)) H
theorem one_sign {w : Str} {c : Nat} (h : w.cps.toList = [c]) : w = ⟨#[c]⟩ := by
  obtain ⟨a⟩ := w
  obtain ⟨l⟩ := a
  have h' : l = [c] := h
  subst h'
  rfl
section
variable {G : Gx} {X : Cx}
theorem op_eqP (hu : X.A.units + 64 < cLine) : OpR X (compareOp .Eq) (rEqP X.K) := by
  intro pins s σ H x y v u Q I rx ry h
  obtain ⟨d, e, hd, he, pd, pe, md, q⟩ := h
  obtain ⟨as, r1⟩ := Dp.reads I d x v hd rx
  obtain ⟨bs, r2⟩ := Dp.reads I e y u he ry
  exact PySem.SeqAt.eq_plain r1 r2 pd pe (by omega) ⟨.bl _, H, I, rfl, q⟩
theorem op_neP (hu : X.A.units + 64 < cLine) : OpR X (compareOp .NotEq) (rNeP X.K) := by
  intro pins s σ H x y v u Q I rx ry h
  obtain ⟨d, e, hd, he, pd, pe, md, q⟩ := h
  obtain ⟨as, r1⟩ := Dp.reads I d x v hd rx
  obtain ⟨bs, r2⟩ := Dp.reads I e y u he ry
  exact PySem.SeqAt.ne_plain r1 r2 pd pe (by omega) ⟨.bl _, H, I, rfl, q⟩
end
end FL

set_option maxHeartbeats 2000000
/-! FLD: the operators' rules; arguments, displays, calls. -/
namespace FL
open PySem L2 Classical

section
variable {G : Gx} {X : Cx}
theorem vop_add : VOP G (rOr (rI0 fun i j => .int (i + j)) (fun x y H Q => ∃ i j, x = .str i ∧ y = .str j ∧ i.length + j.length ≤ sizeLine ∧ Q (.str (i ++ j)) H)) oAdd := (vop_I0 fun _ _ _ => intD).or (vop_S fun _ _ _ _ => strD)
theorem opr_add : OpR X (binaryOp .Add) (rOr (rI0 fun i j => .int (i + j)) (fun x y H Q => ∃ i j, x = .str i ∧ y = .str j ∧ i.length + j.length ≤ sizeLine ∧ Q (.str (i ++ j)) H)) := OpR.orR op_add op_add_str
theorem vop_sub : VOP G (rI0 fun i j => .int (i - j)) oSub := vop_I0 fun _ _ _ => intD
theorem vop_mul : VOP G (rI CMulD fun i j => .int (i * j)) oMul := vop_I fun _ _ _ _ => intD
theorem opr_mul : OpR X (binaryOp .Mult) (rI CMulD fun i j => .int (i * j)) := opI fun _ _ _ _ _ _ _ hc q => PyProof.Rows.mul_int q (mulOkD hc)
theorem opr_pow : OpR X (binaryOp .Pow) (rI CPowD fun i j => .int (i ^ j.toNat)) := op_pow
theorem vop_fdiv : VOP G (rI CFdiv fun i j => .int (fdivI i j)) oFdiv := vop_I fun _ _ _ _ => intD
theorem vop_mod : VOP G (rI (fun _ j => j ≠ 0) fun i j => .int (modI i j)) oMod := vop_I fun _ _ _ _ => intD
theorem vop_pow : VOP G (rI CPowD fun i j => .int (i ^ j.toNat)) oPow := vop_I fun _ _ _ _ => intD
theorem vop_lt : VOP G (rOr (rI0 fun i j => .bl (decide (i < j))) (fun x y H Q => ∃ i j, x = .str i ∧ y = .str j ∧ Q (.bl (decide (i.cps.toList < j.cps.toList))) H)) oLt := (vop_I0 fun _ _ _ => blD).or (vop_S0 fun _ _ _ => blD)
theorem opr_lt : OpR X (compareOp .Lt) (rOr (rI0 fun i j => .bl (decide (i < j))) (fun x y H Q => ∃ i j, x = .str i ∧ y = .str j ∧ Q (.bl (decide (i.cps.toList < j.cps.toList))) H)) := OpR.orR op_lt op_lt_str
theorem vop_le : VOP G (rOr (rI0 fun i j => .bl (decide (i ≤ j))) (fun x y H Q => ∃ i j, x = .str i ∧ y = .str j ∧ Q (.bl (!decide (j.cps.toList < i.cps.toList))) H)) oLe := (vop_I0 fun _ _ _ => blD).or (vop_S0 fun _ _ _ => blD)
theorem opr_le : OpR X (compareOp .LtE) (rOr (rI0 fun i j => .bl (decide (i ≤ j))) (fun x y H Q => ∃ i j, x = .str i ∧ y = .str j ∧ Q (.bl (!decide (j.cps.toList < i.cps.toList))) H)) := OpR.orR op_le op_le_str
theorem vop_gt : VOP G (rOr (rI0 fun i j => .bl (decide (j < i))) (fun x y H Q => ∃ i j, x = .str i ∧ y = .str j ∧ Q (.bl (decide (j.cps.toList < i.cps.toList))) H)) oGt := (vop_I0 fun _ _ _ => blD).or (vop_S0 fun _ _ _ => blD)
theorem opr_gt : OpR X (compareOp .Gt) (rOr (rI0 fun i j => .bl (decide (j < i))) (fun x y H Q => ∃ i j, x = .str i ∧ y = .str j ∧ Q (.bl (decide (j.cps.toList < i.cps.toList))) H)) := OpR.orR op_gt op_gt_str
theorem vop_ge : VOP G (rOr (rI0 fun i j => .bl (decide (j ≤ i))) (fun x y H Q => ∃ i j, x = .str i ∧ y = .str j ∧ Q (.bl (!decide (i.cps.toList < j.cps.toList))) H)) oGe := (vop_I0 fun _ _ _ => blD).or (vop_S0 fun _ _ _ => blD)
theorem opr_ge : OpR X (compareOp .GtE) (rOr (rI0 fun i j => .bl (decide (j ≤ i))) (fun x y H Q => ∃ i j, x = .str i ∧ y = .str j ∧ Q (.bl (!decide (i.cps.toList < j.cps.toList))) H)) := OpR.orR op_ge op_ge_str
theorem vop_eq : VOP G (rEqP G.K) oEq := fun Z H m1 T1 v1 m2 T2 v2 Q zh r1 r2 => by
  unfold oEq
  by_cases c : CEq (fz m1) (fz m2)
  · rw [if_pos c]
    exact fun q => ⟨_, _, r1.dp zh c.1, r2.dp zh c.2.1, c.1, c.2.1, c.2.2, q _ blD⟩
  · rw [if_neg c]; trivial
theorem vop_ne : VOP G (rNeP G.K) oNe := fun Z H m1 T1 v1 m2 T2 v2 Q zh r1 r2 => by
  unfold oNe
  by_cases c : CEq (fz m1) (fz m2)
  · rw [if_pos c]
    exact fun q => ⟨_, _, r1.dp zh c.1, r2.dp zh c.2.1, c.1, c.2.1, c.2.2, q _ blD⟩
  · rw [if_neg c]; trivial
theorem isNon_rep {Z H : Hp} {m : M} {T : Rg} {v : V} (r : RepM G Z H m T v) : decide (v = .non) = isNon m := by
  cases m with
  | d x => cases x <;> simp_all [RepM, RepD, isNon] <;> (obtain ⟨a, r⟩ := r; simp_all) <;> (try (obtain ⟨_, r⟩ := r; simp_all))
  | _ => simp_all [RepM, isNon] <;> (obtain ⟨a, r⟩ := r; simp_all) <;> (try (obtain ⟨_, r⟩ := r; simp_all))
def rIsO : R2 := rOr (fun x y H Q => y = .non ∧ Q (.bl (decide (x = .non))) H) rIsB
theorem opr_is : OpR X (compareOp .Is) rIsO := OpR.orR op_isN op_isBl
theorem vop_is : VOP G rIsO oIs := fun Z H m1 T1 v1 m2 T2 v2 Q zh r1 r2 => by
  unfold oIs
  split
  · rename_i e
    intro q
    split at e
    · cases e
      exact .inl ⟨rep_non r2, by rw [isNon_rep r1]; exact q _ blD⟩
    · cases e
      refine .inr ⟨_, _, rep_bl r1, rep_bl r2, ?_⟩
      have := q _ blD
      simpa [Bool.beq_eq_decide_eq] using this
    · cases e
  · trivial
theorem vop_isnot : VOP G (fun x y H Q => y = .non ∧ Q (.bl (!decide (x = .non))) H) oIsNot := fun Z H m1 T1 v1 m2 T2 v2 Q zh r1 r2 => by
  unfold oIsNot
  split
  · rename_i e
    intro q
    split at e
    · cases e
      exact ⟨rep_non r2, by rw [isNon_rep r1]; exact q _ blD⟩
    · cases e
  · trivial
def rInO (K : PySem.W.Frag) : R2 := rOr (rIn K false) (fun x y H Q => ∃ (c : Nat) (z : Str), x = .str ⟨#[c]⟩ ∧ y = .str z ∧ Q (.bl (decide (c ∈ z.cps.toList))) H)
def rNotInO (K : PySem.W.Frag) : R2 := rOr (rIn K true) (fun x y H Q => ∃ (c : Nat) (z : Str), x = .str ⟨#[c]⟩ ∧ y = .str z ∧ Q (.bl (!decide (c ∈ z.cps.toList))) H)
theorem opr_in : OpR X (compareOp .In) (rInO X.K) := OpR.orR op_in_seq op_in_sign
theorem opr_notin : OpR X (compareOp .NotIn) (rNotInO X.K) := OpR.orR op_notIn_seq op_notIn_sign
theorem vop_in : VOP G (rInO G.K) oIn := fun Z H m1 T1 v1 m2 T2 v2 Q zh r1 r2 => by
  unfold oIn inM
  cases e : m2.seq with
  | some p =>
    obtain ⟨b, ms⟩ := p
    simp only
    by_cases f : flatM m1 = true ∧ ms.all flatM = true
    · rw [if_pos f]
      intro q
      obtain ⟨a, vs, rfl, h1, h2, h3⟩ := r2.seq zh e
      obtain ⟨e1, f1⟩ := flat_rep r1 f.1
      obtain ⟨e2, f2⟩ := flats_rep h3 f.2
      refine .inl ⟨a, vs, rfl, ?_, f1, f2, ?_⟩
      · cases b with
        | true => exact .inr (h1 rfl)
        | false => exact .inl (h2 rfl)
      · rw [if_neg Bool.false_ne_true, e1, e2]; exact q _ blD
    · rw [if_neg f]; trivial
  | none =>
    simp only
    split
    · rename_i e2
      intro q
      split at e2
      · rename_i b e3
        split at e3
        · split at e3
          · rename_i w z _ c ec
            cases e3; cases e2
            have h1 := rep_str r1
            rw [one_sign ec] at h1
            exact .inr ⟨_, _, h1, rep_str r2, q _ blD⟩
          · cases e3
        · cases e3
      · cases e2
    · trivial
theorem vop_notin : VOP G (rNotInO G.K) oNotIn := fun Z H m1 T1 v1 m2 T2 v2 Q zh r1 r2 => by
  unfold oNotIn inM
  cases e : m2.seq with
  | some p =>
    obtain ⟨b, ms⟩ := p
    simp only
    by_cases f : flatM m1 = true ∧ ms.all flatM = true
    · rw [if_pos f]
      intro q
      obtain ⟨a, vs, rfl, h1, h2, h3⟩ := r2.seq zh e
      obtain ⟨e1, f1⟩ := flat_rep r1 f.1
      obtain ⟨e2, f2⟩ := flats_rep h3 f.2
      refine .inl ⟨a, vs, rfl, ?_, f1, f2, ?_⟩
      · cases b with
        | true => exact .inr (h1 rfl)
        | false => exact .inl (h2 rfl)
      · rw [if_pos rfl, e1, e2]; exact q _ blD
    · rw [if_neg f]; trivial
  | none =>
    simp only
    split
    · rename_i e2
      intro q
      split at e2
      · rename_i b e3
        split at e3
        · split at e3
          · rename_i w z _ c ec
            cases e3; cases e2
            have h1 := rep_str r1
            rw [one_sign ec] at h1
            exact .inr ⟨_, _, h1, rep_str r2, q _ blD⟩
          · cases e3
        · cases e3
      · cases e2
    · trivial

/-! ### subscripts -/
def mIdx (m1 m2 : M) : Res M := match m2 with
  | .d (.int i) => match m1.seq with
    | some (_, ms) => match atI ms i with
      | some x => .ok x
      | none => .bad
    | none => match m1 with
      | .d (.str z) => if z.length ≤ sizeLine then (match atI z.cps.toList i with
        | some c => .ok (.d (.str ⟨#[c]⟩))
        | none => .bad) else .bad
      | _ => .bad
  | _ => .bad
def oIdx : DOp := fun m1 m2 => match mIdx m1 m2 with
  | .ok (.d x) => .ok x
  | _ => .bad
def vIx (ga gb : VE) : VE := fun env => match ga env, gb env with
  | .ok m1, .ok m2 => mIdx m1 m2
  | _, _ => .bad
theorem atI_rep {Z H : Hp} {ms : List M} {T : Rg} {vs : List V} {i : Int} {x : M} (r : RepMs G Z H ms T vs) (e : atI ms i = some x) : ∃ v, atI vs i = some v ∧ RepM G Z H x T v := by
  unfold atI at e ⊢
  rw [← r.len]
  cases q : ixN ms.length i with
  | none => rw [q] at e; cases e
  | some j =>
    rw [q] at e
    exact RepMs.get r e
theorem mIdx_rep {Z H : Hp} {m1 m2 x : M} {T1 T2 : Rg} {v1 v2 : V} {Q : VK} (zh : Same Z H) (r1 : RepM G Z H m1 T1 v1) (r2 : RepM G Z H m2 T2 v2) (e : mIdx m1 m2 = .ok x) (q : ∀ u, RepM G Z H x T1 u → Q u H) : rIx G.K v1 v2 H Q := by
  unfold mIdx at e
  split at e
  · rename_i i
    have e2 := rep_int r2
    subst e2
    cases es : m1.seq with
    | some p =>
      obtain ⟨b, ms⟩ := p
      rw [es] at e
      simp only at e
      obtain ⟨a, vs, rfl, h1, h2, h3⟩ := r1.seq zh es
      cases ea : atI ms i with
      | none => rw [ea] at e; cases e
      | some y =>
        rw [ea] at e
        cases e
        obtain ⟨v, hv, rv⟩ := atI_rep h3 ea
        cases b with
        | true => exact .inr (.inl ⟨a, vs, i, v, rfl, rfl, h1 rfl, hv, q v rv⟩)
        | false => exact .inl ⟨a, vs, i, v, rfl, rfl, h2 rfl, hv, q v rv⟩
    | none =>
      rw [es] at e
      simp only at e
      split at e
      · rename_i z
        have e1 := rep_str r1
        subst e1
        split at e
        · rename_i hz
          cases ec : atI z.cps.toList i with
          | none => rw [ec] at e; cases e
          | some c =>
            rw [ec] at e
            cases e
            exact .inr (.inr ⟨z, i, c, rfl, rfl, hz, ec, q _ (by simp [RepM, RepD])⟩)
        · cases e
      · cases e
  · cases e
theorem vop_ix : VOP G (rIx G.K) oIdx := fun Z H m1 T1 v1 m2 T2 v2 Q zh r1 r2 => by
  unfold oIdx
  cases e : mIdx m1 m2 with
  | ok x =>
    cases x with
    | d y => exact fun q => mIdx_rep zh r1 r2 e fun u ru => q u (by simpa [RepM] using ru)
    | _ => trivial
  | _ => trivial
theorem xv_ix {a b : Expr} {pos : Pos} {ga gb : VE} (hK : G.K = X.K) (ha : PVs G X a ga) (hb : PVs G X b gb) (hs : PlainIx b := by exact fun _ _ => rfl) : PVs G X (.Subscript a b pos) (vIx ga gb) := by
  obtain ⟨ta, pa, ha⟩ := ha.ex
  obtain ⟨tb, pb, hb⟩ := hb.ex
  refine ⟨_, pe_ix ix_seq pa pb hs, fun Z H σ env S Q gd => ?_⟩
  have h1 := ha Z H σ env S (fun x H1 => tb σ H1 fun y H2 => rIx X.K x y H2 Q) gd
  unfold vIx
  cases e1 : ga env with
  | ok m1 =>
    cases e2 : gb env with
    | ok m2 =>
      simp only
      cases e3 : mIdx m1 m2 with
      | ok x =>
        intro q
        rw [e1] at h1
        refine h1 fun v T1 t1 r1 => ?_
        have h2 := hb Z H σ env S (fun y H2 => rIx X.K v y H2 Q) gd
        rw [e2] at h2
        refine h2 fun w T2 _ r2 => ?_
        rw [← hK]
        exact mIdx_rep gd.zh r1 r2 e3 fun u ru => q u T1 t1 ru
      | _ => trivial
    | _ => trivial
  | _ => trivial
end
end FL

set_option maxHeartbeats 2000000
/-! FLE: argument rows, displays, calls. -/
namespace FL
open PySem L2 Classical

def Rs.cons (T : Rg) (S : Rs) : Rs
  | 0 => T
  | j + 1 => S j
theorem Rs.cons_U {T : Rg} {S : Rs} {a : Addr} : U (S.cons T) a ↔ T a ∨ U S a := by
  constructor
  · rintro ⟨i, h⟩
    cases i with
    | zero => exact .inl h
    | succ j => exact .inr ⟨j, h⟩
  · rintro (h | ⟨j, h⟩)
    · exact ⟨0, h⟩
    · exact ⟨j + 1, h⟩
section
variable {G : Gx} {Z Z' H H' : Hp} {σ : St} {env : Env} {S T : Rs} {m : M} {v : V} {T1 : Rg}
theorem Good.nil (zh : Same Z H) : Good G Z H [] [] (fun _ _ => False) := ⟨zh, fun i m e => by simp at e, fun _ _ _ h => h.elim, fun _ _ h => h.elim, fun _ _ h => h.elim, rfl⟩
theorem U_none {a : Addr} (h : U (fun _ _ => False) a) : False := by obtain ⟨_, h⟩ := h; exact h
theorem Good.cons (g : Good G Z H σ env S) (h : Hld G Z H (U S) m T1 v) : Good G Z H (some v :: σ) (some m :: env) (S.cons T1) := by
  refine ⟨g.zh, fun i m' e => ?_, fun i j a h1 h2 => ?_, fun i a h1 => ?_, fun i a h1 => ?_, by simp [g.len]⟩
  · cases i with
    | zero => simp at e; subst e; exact ⟨v, rfl, h.rep⟩
    | succ i =>
      obtain ⟨w, hw, r⟩ := g.rep i m' (by simpa using e)
      exact ⟨w, by simpa using hw, r⟩
  · cases i with
    | zero =>
      cases j with
      | zero => rfl
      | succ j => exact absurd ⟨j, h2⟩ (h.dj a h1)
    | succ i =>
      cases j with
      | zero => exact absurd ⟨i, h1⟩ (h.dj a h2)
      | succ j => rw [g.dj i j a h1 h2]
  · cases i with
    | zero => exact h.al a h1
    | succ i => exact g.al i a h1
  · cases i with
    | zero => exact h.zf a h1
    | succ i => exact g.zf i a h1
/-- the tail of a row -/
theorem Good.tail {o : Option V} {p : Option M} (g : Good G Z H (o :: σ) (p :: env) S) : Good G Z H σ env (fun j => S (j + 1)) :=
  ⟨g.zh, fun i m e => by simpa using g.rep (i + 1) m (by simpa using e), fun i j a h1 h2 => by have := g.dj (i + 1) (j + 1) a h1 h2; omega, fun i => g.al (i + 1), fun i => g.zf (i + 1), by simpa using g.len⟩
theorem Good.head {o : Option V} (g : Good G Z H (o :: σ) (some m :: env) S) : ∃ v, o = some v ∧ Hld G Z H (U fun j => S (j + 1)) m (S 0) v := by
  obtain ⟨v, hv, r⟩ := g.rep 0 m rfl
  refine ⟨v, by simpa using hv, r, g.al 0, g.zf 0, fun a h ⟨j, q⟩ => ?_⟩
  have := g.dj 0 (j + 1) a h q
  omega
theorem Good.row : ∀ {ms : List M} {vs : List V} {T : Rs}, Good G Z H (vs.map some) (ms.map some) T → RepMs G Z H ms (U T) vs
  | [], vs, T, g => by
    have := g.len
    cases vs with
    | nil => simp [RepMs]
    | cons _ _ => simp at this
  | m :: ms, vs, T, g => by
    cases vs with
    | nil => have := g.len; simp at this
    | cons v vs =>
      obtain ⟨w, hw, h⟩ := g.head
      cases hw
      simp only [RepMs]
      refine ⟨v, vs, T 0, _, rfl, fun b z => ⟨0, z⟩, fun b ⟨j, z⟩ => ⟨j + 1, z⟩, fun b z => h.dj b z, h.rep, g.tail.row⟩
end

/-! ### arguments -/
/-- bk: for an argument that is a name's datum, lent: the name's slot -/
abbrev Bk := List (Option Nat)
def SAok' (G : Gx) (W : WX') (bk : Bk) (t : TA) (f : SA) : Prop := ∀ (Z H : Hp) (σ : St) (env : Env) (S : Rs) (Q : List V → Hp → Prop), Good G Z H σ env S →
  match f env with
  | .ok (ms, env') => (∀ vs Z' H' S' T, Stp Z H (U S) Z' H' (fun a => U S' a ∨ U T a) → Good G Z' H' σ env' S' → Good G Z' H' (vs.map some) (ms.map some) T → (∀ a, U T a → ¬ U S' a) →
      (∀ (j i : Nat), bk[j]? = some (some i) → ∀ v, vs[j]? = some v → σ[i]? = some (some v)) → Q vs H') → t σ H Q
  | .exc e env' => (∀ cls d Z' H' S', ExcAt G H' e cls d → Stp Z H (U S) Z' H' (U S') → Good G Z' H' σ env' S' → W cls d σ H') → t σ H Q
  | .bad => True
structure PAs' (G : Gx) (X : Cx) (W : WX') (es : List Expr) (bk : Bk) (f : SA) : Prop where
  ex : ∃ t, PA X es t ∧ SAok' G W bk t f
def saNil : SA := fun env => .ok ([], env)
def saCons (f : SE) (fs : SA) : SA := fun env => match f env with
  | .ok (m, e1) => match fs e1 with
    | .ok (ms, e2) => .ok (m :: ms, e2)
    | .exc e v => .exc e v
    | .bad => .bad
  | .exc e v => .exc e v
  | .bad => .bad
section
variable {G : Gx} {X : Cx} {W : WX'} {e : Expr} {es : List Expr} {f : SE} {fs : SA} {bk : Bk} {te : TE} {t : TA}
theorem SAok.nil : SAok' G W [] tNil saNil := fun Z H σ env S Q gd => by
  intro q
  exact q [] Z H S (fun _ _ => False) ((Stp.refl gd.zh).weak fun _ z => z.elim id fun z => (U_none z).elim) gd (Good.nil gd.zh) (fun _ z => (U_none z).elim) (fun j i h => by simp at h)
theorem SAok.consG {b : Option Nat} (h : SEok G W te f) 
    (hp : ∀ i, b = some i → te = tVar i) (hs : SAok' G W bk t fs) : SAok' G W (b :: bk) (tCons te t) (saCons f fs) := fun Z H σ env S Q gd => by
  unfold saCons
  have h1 := h Z H σ env S
  cases e1 : f env with
  | bad => trivial
  | exc x v => have h1 := h1 (fun x H1 => t σ H1 fun xs H2 => Q (x :: xs) H2) gd; rw [e1] at h1; exact h1
  | ok p =>
    obtain ⟨m, env1⟩ := p
    simp only
    cases e2 : fs env1 with
    | bad => trivial
    | exc x v =>
      intro q
      have h1 := h1 (fun x H1 => t σ H1 fun xs H2 => Q (x :: xs) H2) gd
      rw [e1] at h1
      refine h1 fun v1 Z1 H1 S1 T1 s1 g1 l1 => ?_
      have h2 := hs Z1 H1 σ env1 S1 (fun xs H2 => Q (v1 :: xs) H2) g1
      rw [e2] at h2
      refine h2 fun cls d Z2 H2 S2 x2 s2 g2 => ?_
      exact q cls d Z2 H2 S2 x2 (s1.trans ((s2.frame T1).weak fun _ z => .inl z)) g2
    | ok p2 =>
      obtain ⟨ms, env2⟩ := p2
      intro q
      cases hb' : b with
      | none =>
        have h1 := h1 (fun x H1 => t σ H1 fun xs H2 => Q (x :: xs) H2) gd
        rw [e1] at h1
        refine h1 fun v1 Z1 H1 S1 T1 s1 g1 l1 => ?_
        have h2 := hs Z1 H1 σ env1 S1 (fun xs H2 => Q (v1 :: xs) H2) g1
        rw [e2] at h2
        refine h2 fun vs Z2 H2 S2 T2 s2 g2 r2 d2 k2 => ?_
        have l2 := l1.step s2
        refine q (v1 :: vs) Z2 H2 S2 (T2.cons T1) ((s1.trans (s2.frame T1)).weak ?_) g2 ?_ ?_ ?_
        · intro a z
          rcases z with z | z
          · exact .inl (.inl z)
          · rcases Rs.cons_U.mp z with z | z
            · exact .inr z
            · exact .inl (.inr z)
        · exact r2.cons ⟨l2.rep, l2.al, l2.zf, fun a z w => l2.dj a z (.inr w)⟩
        · intro a z
          rcases Rs.cons_U.mp z with z | z
          · exact fun w => l2.dj a z (.inl w)
          · exact d2 a z
        · intro j i hj v hv
          cases j with
          | zero => simp [hb'] at hj
          | succ j => exact k2 j i (by simpa using hj) v (by simpa using hv)
      | some i =>
        have ht := hp i hb'
        have h1 := h1 (fun x H1 => σ[i]? = some (some x) → t σ H1 fun xs H2 => Q (x :: xs) H2) gd
        rw [e1] at h1
        have h1 := h1 fun v1 Z1 H1 S1 T1 s1 g1 l1 => by
          intro hv1
          have h2 := hs Z1 H1 σ env1 S1 (fun xs H2 => Q (v1 :: xs) H2) g1
          rw [e2] at h2
          refine h2 fun vs Z2 H2 S2 T2 s2 g2 r2 d2 k2 => ?_
          have l2 := l1.step s2
          refine q (v1 :: vs) Z2 H2 S2 (T2.cons T1) ((s1.trans (s2.frame T1)).weak ?_) g2 ?_ ?_ ?_
          · intro a z
            rcases z with z | z
            · exact .inl (.inl z)
            · rcases Rs.cons_U.mp z with z | z
              · exact .inr z
              · exact .inl (.inr z)
          · exact r2.cons ⟨l2.rep, l2.al, l2.zf, fun a z w => l2.dj a z (.inr w)⟩
          · intro a z
            rcases Rs.cons_U.mp z with z | z
            · exact fun w => l2.dj a z (.inl w)
            · exact d2 a z
          · intro j i' hj v hv
            cases j with
            | zero => simp [hb'] at hj hv; subst hj; subst hv; exact hv1
            | succ j => exact k2 j i' (by simpa using hj) v (by simpa using hv)
        rw [ht] at h1 ⊢
        obtain ⟨w, hw, z⟩ := h1
        exact ⟨w, hw, z hw⟩
theorem xa_nil : PAs' G X W [] [] saNil := ⟨_, pa_nil, SAok.nil⟩
theorem xa_cons (h : PEs G X W e f) (hs : PAs' G X W es bk fs) (hst : starEach (e :: es) X.env = (false, eval e X.env) :: starEach es X.env := by rfl) : PAs' G X W (e :: es) (none :: bk) (saCons f fs) := by
  obtain ⟨te, p, h⟩ := h.ex
  obtain ⟨t, p2, h2⟩ := hs.ex
  exact ⟨_, pa_cons p p2 hst, SAok.consG (b := none) h (fun _ z => nomatch z) h2⟩
/-- a name's datum is lent -/
theorem xa_lend (i : Nat) {x : Str} {pos : Pos} (hs : PAs' G X W es bk fs) (hN : X.N[i]? = some x := by rfl) (hv : Vis X.env.scope x := by first | exact Or.inl rfl | exact Or.inr (Or.inl rfl) | exact Or.inr (Or.inr rfl)) (hd : (x == ("__debug__" : Str)) = false := by decide)
    (hcd : (x == ("__classdict__" : Str)) = false := by decide) (hst : starEach (.Name x pos :: es) X.env = (false, eval (.Name x pos) X.env) :: starEach es X.env := by rfl) : PAs' G X W (.Name x pos :: es) (some i :: bk) (saCons (sT i) fs) := by
  obtain ⟨t, p2, h2⟩ := hs.ex
  refine ⟨_, pa_cons (pe_var hN hv hd hcd) p2 hst, SAok.consG (b := some i) (te := tVar i) (fun Z H σ env S Q gd => ?_) (fun j z => by cases z; rfl) h2⟩
  unfold sT
  rcases getE_cases env i with ⟨m, e⟩ | e
  · rw [e]
    intro q
    obtain ⟨v, hv, g1, h1⟩ := gd.take (getE_ok e)
    exact ⟨v, hv, q v Z H _ (S i) ((Stp.refl gd.zh).weak fun a z => z.elim Rs.wipe_le fun z => ⟨i, z⟩) g1 h1⟩
  · rw [e]; trivial
end

/-! ### displays -/
theorem Stp.new {Z H : Hp} {p : Addr} {o : HO} (zh : Same Z H) (hp : H p = none) (R : Rg) : Stp Z H R Z (upd H p o) (fun a => R a ∨ a = p) :=
  ⟨Same.refl _, fun a u e => by rw [upd_ne (ne_of_none (zh a u e) hp)]; exact zh a u e, fun b u e _ => by rw [upd_ne (ne_of_none e hp)]; exact e,
    fun a q => q.elim .inl fun e => .inr (by rw [e]; exact hp), fun a q => .inl q⟩
/-- a new object that is frozen at once -/
theorem Stp.newZ {Z H : Hp} {p : Addr} {o : HO} (zh : Same Z H) (hp : H p = none) (R : Rg) : Stp Z H R (upd Z p o) (upd H p o) R := by
  have zp : Z p = none := by
    cases e : Z p with
    | none => rfl
    | some u => rw [zh p u e] at hp; cases hp
  refine ⟨fun a u e => by rw [upd_ne (ne_of_none e zp)]; exact e, fun a u e => ?_, fun b u e _ => by rw [upd_ne (ne_of_none e hp)]; exact e, fun a q => .inl q, fun a q => ?_⟩
  · by_cases h : a = p
    · subst h; rw [upd_same] at e ⊢; exact e
    · rw [upd_ne h] at e ⊢; exact zh a u e
  · by_cases h : a = p
    · subst h; exact .inr (.inr hp)
    · rw [upd_ne h] at q; exact .inl q
def isD : M → Bool
  | .d _ => true
  | _ => false
def unD : M → D
  | .d x => x
  | _ => .non
theorem allD_rep {G : Gx} {Z H : Hp} : ∀ {ms : List M} {T : Rg} {vs : List V}, RepMs G Z H ms T vs → ms.all isD = true → RepDs G Z (ms.map unD) vs
  | [], _, _, r, _ => by simp only [RepMs] at r; subst r; simp [RepDs]
  | m :: ms, _, _, r, f => by
    simp only [RepMs] at r
    obtain ⟨v, r', T1, T2, rfl, _, _, _, q, r⟩ := r
    rw [List.all_cons, Bool.and_eq_true] at f
    cases m with
    | d x =>
      simp only [RepM] at q
      simp only [List.map_cons, unD, RepDs]
      exact ⟨v, r', rfl, q, allD_rep r f.2⟩
    | _ => cases f.1
/-- a tuple of such items: frozen where they are -/
def mTup (ms : List M) : M := if ms.all isD = true then .d (.tup (ms.map unD)) else .tup ms
def sTup (fs : SA) : SE := fun env => match fs env with
  | .ok (ms, e) => if ms.length ≤ sizeLine then .ok (mTup ms, e) else .bad
  | .exc e v => .exc e v
  | .bad => .bad
def sLst (fs : SA) : SE := fun env => match fs env with
  | .ok (ms, e) => if ms.length ≤ sizeLine then .ok (.lst ms, e) else .bad
  | .exc e v => .exc e v
  | .bad => .bad
section
variable {G : Gx} {X : Cx} {W : WX'} {es : List Expr} {fs : SA} {bk : Bk} {pos : Pos}
/-- a list newly made of a row -/
theorem lst_new {Z H : Hp} {ms : List M} {vs : List V} {T R : Rg} {p : Addr} (zh : Same Z H) (r : RepMs G Z H ms T vs) (al : ∀ a, T a → H a ≠ none) (zf : ∀ a, T a → Z a = none) (dj : ∀ a, T a → ¬ R a) (hp : H p = none) (pR : ¬ R p) :
    Hld G Z (upd H p (.lst vs)) R (.lst ms) (fun a => T a ∨ a = p) (.ref p) := by
  have nT : ¬ T p := fun h => al p h hp
  have zp : Z p = none := by
    cases e : Z p with
    | none => rfl
    | some u => rw [zh p u e] at hp; cases hp
  refine ⟨?_, fun a h => ?_, fun a h => ?_, fun a h => ?_⟩
  · simp only [RepM]
    exact ⟨p, vs, T, rfl, .inr rfl, nT, fun b z => .inl z, upd_same, RepMs.mono (Same.refl _) _ _ _ _ (fun _ z => z) (fun a o sa e => by rw [upd_ne (ne_of_none e hp)]; exact e) r⟩
  · by_cases e : a = p
    · subst e; rw [upd_same]; exact fun z => nomatch z
    · rw [upd_ne e]; exact al a (h.elim id fun z => absurd z e)
  · exact h.elim (zf a) fun e => by rw [e]; exact zp
  · exact h.elim (dj a) fun e => by rw [e]; exact pR
theorem tup_new {Z H : Hp} {ms : List M} {vs : List V} {T R : Rg} {p : Addr} (zh : Same Z H) (r : RepMs G Z H ms T vs) (al : ∀ a, T a → H a ≠ none) (zf : ∀ a, T a → Z a = none) (dj : ∀ a, T a → ¬ R a) (hp : H p = none) (pR : ¬ R p) :
    Hld G Z (upd H p (.tup vs)) R (.tup ms) (fun a => T a ∨ a = p) (.ref p) := by
  have nT : ¬ T p := fun h => al p h hp
  have zp : Z p = none := by
    cases e : Z p with
    | none => rfl
    | some u => rw [zh p u e] at hp; cases hp
  refine ⟨?_, fun a h => ?_, fun a h => ?_, fun a h => ?_⟩
  · simp only [RepM]
    exact ⟨p, vs, T, rfl, .inr rfl, nT, fun b z => .inl z, upd_same, RepMs.mono (Same.refl _) _ _ _ _ (fun _ z => z) (fun a o sa e => by rw [upd_ne (ne_of_none e hp)]; exact e) r⟩
  · by_cases e : a = p
    · subst e; rw [upd_same]; exact fun z => nomatch z
    · rw [upd_ne e]; exact al a (h.elim id fun z => absurd z e)
  · exact h.elim (zf a) fun e => by rw [e]; exact zp
  · exact h.elim (dj a) fun e => by rw [e]; exact pR
/-- a row's regions -/
theorem Good.al' {Z H : Hp} {σ : St} {env : Env} {S : Rs} (g : Good G Z H σ env S) (a : Addr) (h : U S a) : H a ≠ none := by obtain ⟨i, h⟩ := h; exact g.al i a h
theorem Good.zf' {Z H : Hp} {σ : St} {env : Env} {S : Rs} (g : Good G Z H σ env S) (a : Addr) (h : U S a) : Z a = none := by obtain ⟨i, h⟩ := h; exact g.zf i a h
theorem SEok.lst {t : TA} (h : SAok' G W bk t fs) : SEok G W (tLst t) (sLst fs) := fun Z H σ env S Q gd => by
  unfold sLst
  have h1 := h Z H σ env S (fun xs H1 => xs.length ≤ sizeLine ∧ ∀ p, H1 p = none → Q (.ref p) (upd H1 p (.lst xs))) gd
  cases e1 : fs env with
  | bad => trivial
  | exc x v => rw [e1] at h1; exact h1
  | ok p =>
    obtain ⟨ms, env1⟩ := p
    rw [e1] at h1
    simp only
    by_cases hl : ms.length ≤ sizeLine
    · rw [if_pos hl]
      intro q
      refine h1 fun vs Z1 H1 S1 T s1 g1 r d k => ?_
      have rr := r.row
      refine ⟨by rw [← rr.len]; exact hl, fun p hp => ?_⟩
      have pS : ¬ U S1 p := fun z => g1.al' p z hp
      have st := Stp.new (o := .lst vs) g1.zh hp (fun a => U S1 a ∨ U T a)
      refine q (.ref p) Z1 _ S1 (fun a => U T a ∨ a = p) ((s1.trans st).weak fun a z => ?_) ?_ (lst_new g1.zh rr r.al' r.zf' d hp pS)
      · rcases z with z | z | z
        · exact .inl (.inl z)
        · exact .inl (.inr z)
        · exact .inr z
      · exact (g1.move (Stp.new (o := .lst vs) g1.zh hp (fun _ => False)) fun _ _ z => z).1
    · rw [if_neg hl]; trivial
theorem SEok.tup {t : TA} (h : SAok' G W bk t fs) : SEok G W (tTup t) (sTup fs) := fun Z H σ env S Q gd => by
  unfold sTup
  have h1 := h Z H σ env S (fun xs H1 => xs.length ≤ sizeLine ∧ ∀ p, H1 p = none → Q (.ref p) (upd H1 p (.tup xs))) gd
  cases e1 : fs env with
  | bad => trivial
  | exc x v => rw [e1] at h1; exact h1
  | ok p =>
    obtain ⟨ms, env1⟩ := p
    rw [e1] at h1
    simp only
    by_cases hl : ms.length ≤ sizeLine
    · rw [if_pos hl]
      intro q
      refine h1 fun vs Z1 H1 S1 T s1 g1 r d k => ?_
      have rr := r.row
      refine ⟨by rw [← rr.len]; exact hl, fun p hp => ?_⟩
      have pS : ¬ U S1 p := fun z => g1.al' p z hp
      unfold mTup at q
      by_cases hd : ms.all isD = true
      · rw [if_pos hd] at q
        have st := Stp.newZ (o := .tup vs) g1.zh hp (fun a => U S1 a ∨ U T a)
        refine q (.ref p) _ _ S1 (fun _ => False) ((s1.trans st).weak fun a z => z.elim .inl fun z => z.elim) (g1.move (Stp.newZ (o := .tup vs) g1.zh hp (fun _ => False)) fun _ _ z => z).1 (Hld.data ?_)
        simp only [RepD]
        exact ⟨p, vs, rfl, SqT.of upd_same, RepDs.mono st.z _ _ (allD_rep rr hd)⟩
      · rw [if_neg hd] at q
        have st := Stp.new (o := .tup vs) g1.zh hp (fun a => U S1 a ∨ U T a)
        refine q (.ref p) Z1 _ S1 (fun a => U T a ∨ a = p) ((s1.trans st).weak fun a z => ?_) ?_ (tup_new g1.zh rr r.al' r.zf' d hp pS)
        · rcases z with z | z | z
          · exact .inl (.inl z)
          · exact .inl (.inr z)
          · exact .inr z
        · exact (g1.move (Stp.new (o := .tup vs) g1.zh hp (fun _ => False)) fun _ _ z => z).1
    · rw [if_neg hl]; trivial
theorem xe_lst (h : PAs' G X W es bk fs) : PEs G X W (.List es pos) (sLst fs) := by
  obtain ⟨t, p, h⟩ := h.ex
  exact ⟨_, pe_lst p, SEok.lst h⟩
theorem xe_tup {x1} (h : PAs' G X W es bk fs) : PEs G X W (.Tuple es x1 pos) (sTup fs) := by
  obtain ⟨t, p, h⟩ := h.ex
  exact ⟨_, pe_tup p, SEok.tup h⟩
end

/-! ### calls of the program's own defs -/
abbrev FS := List M → Res (M × Env)
/-- what a def promises: what F tells -/
def spF (G : Gx) (n : Nat) (F : FS) : Sp := fun vs H Q E => vs.length = n ∧ ∃ (Z : Hp) (ms : List M) (T : Rs), Good G Z H (vs.map some) (ms.map some) T ∧ match F ms with
  | .ok (r, ms') => ∀ v Z' H' T' Tr, Stp Z H (U T) Z' H' (fun a => U T' a ∨ Tr a) → Good G Z' H' (vs.map some) ms' T' → Hld G Z' H' (U T') r Tr v → Q v H'
  | .exc e ms' => ∀ cls d Z' H' T', ExcAt G H' e cls d → Stp Z H (U T) Z' H' (U T') → Good G Z' H' (vs.map some) ms' T' → E cls d H'
  | .bad => False
def putBack : Bk → Env → Env → Env
  | some i :: bk, some m :: ms, env => putBack bk ms (env.set i (some m))
  | none :: bk, _ :: ms, env => putBack bk ms env
  | some i :: bk, none :: ms, env => putBack bk ms (env.set i none)
  | _, _, env => env
def sCall (F : FS) (bk : Bk) (fs : SA) : SE := fun env => match fs env with
  | .ok (ms, e1) => match F ms with
    | .ok (r, ms') => .ok (r, putBack bk ms' e1)
    | .exc e ms' => .exc e (putBack bk ms' e1)
    | .bad => .bad
  | .exc e v => .exc e v
  | .bad => .bad
theorem Good.weakS {G : Gx} {Z H : Hp} {σ : St} {env : Env} {S : Rs} (g : Good G Z H σ env S) {R : Rg} (_ : ∀ a, U S a → R a) : Good G Z H σ env S := g
theorem putBack_good {G : Gx} {Z H : Hp} {σ : St} : ∀ (bk : Bk) (vs : List V) (ms : Env) (T : Rs) (env : Env) (S : Rs), Good G Z H (vs.map some) ms T → Good G Z H σ env S → (∀ a, U T a → ¬ U S a) →
    (∀ (j i : Nat), bk[j]? = some (some i) → ∀ v, vs[j]? = some v → σ[i]? = some (some v)) → ∃ S', Good G Z H σ (putBack bk ms env) S' ∧ ∀ a, U S' a → U S a ∨ U T a
  | [], vs, ms, T, env, S, r, g, d, k => by
    unfold putBack
    exact ⟨S, g, fun a z => .inl z⟩
  | b :: bk, [], ms, T, env, S, r, g, d, k => by
    have : ms = [] := by have := r.len; simpa using this
    subst this
    have e : putBack (b :: bk) [] env = env := by unfold putBack; cases b <;> rfl
    rw [e]
    exact ⟨S, g, fun a z => .inl z⟩
  | b :: bk, v :: vs, [], T, env, S, r, g, d, k => by have := r.len; simp at this
  | none :: bk, v :: vs, m :: ms, T, env, S, r, g, d, k => by
    obtain ⟨S', g', h'⟩ := putBack_good bk vs ms (fun j => T (j + 1)) env S r.tail g (fun a ⟨j, z⟩ => d a ⟨j + 1, z⟩) (fun j i hj w hw => k (j + 1) i (by simpa using hj) w (by simpa using hw))
    refine ⟨S', by unfold putBack; exact g', fun a z => (h' a z).elim .inl fun ⟨j, z⟩ => .inr ⟨j + 1, z⟩⟩
  | some i :: bk, v :: vs, none :: ms, T, env, S, r, g, d, k => by
    obtain ⟨S', g', h'⟩ := putBack_good bk vs ms (fun j => T (j + 1)) (env.set i none) (S.set i fun _ => False) r.tail (g.kill i) (fun a ⟨j, z⟩ w => d a ⟨j + 1, z⟩ (Rs.wipe_le w)) (fun j i hj w hw => k (j + 1) i (by simpa using hj) w (by simpa using hw))
    refine ⟨S', by unfold putBack; exact g', fun a z => (h' a z).elim (fun z => .inl (Rs.wipe_le z)) fun ⟨j, z⟩ => .inr ⟨j + 1, z⟩⟩
  | some i :: bk, v :: vs, some m :: ms, T, env, S, r, g, d, k => by
    obtain ⟨w, hw, h⟩ := r.head
    cases hw
    have hs := k 0 i rfl v rfl
    have g1 := g.back (i := i) (m := m) (T := T 0) (v := v) ⟨h.rep, h.al, h.zf, fun a z => d a ⟨0, z⟩⟩ hs
    obtain ⟨S', g', h'⟩ := putBack_good bk vs ms (fun j => T (j + 1)) (env.set i (some m)) (S.set i (T 0)) r.tail g1 (fun a ⟨j, z⟩ w => (Rs.set_sub w).elim (d a ⟨j + 1, z⟩) fun w => h.dj a w ⟨j, z⟩) (fun j i hj w hw => k (j + 1) i (by simpa using hj) w (by simpa using hw))
    refine ⟨S', by unfold putBack; exact g', fun a z => (h' a z).elim (fun z => (Rs.set_sub z).elim .inl fun z => .inr ⟨0, z⟩) fun ⟨j, z⟩ => .inr ⟨j + 1, z⟩⟩
section
variable {G : Gx} {X : Cx} {W : WX'} {e : Expr} {es : List Expr} {fs : SA} {bk : Bk} {F : FS} {n k : Nat} {x : Str} {p pos : Pos} {f : Addr} {fd : FuncData} {ps : List Str}
theorem SEok.call {t : TA} (h : SAok' G W bk t fs) (hn : ∀ env ms e1, fs env = .ok (ms, e1) → ms.length = n) : SEok G W (tCallS (spF G n F) (WE W) t) (sCall F bk fs) := fun Z H σ env S Q gd => by
  unfold sCall
  have h1 := h Z H σ env S (fun vs H1 => spF G n F vs H1 Q (WE W σ)) gd
  cases e1 : fs env with
  | bad => trivial
  | exc x v => rw [e1] at h1; exact h1
  | ok p =>
    obtain ⟨ms, env1⟩ := p
    rw [e1] at h1
    simp only
    cases e2 : F ms with
    | bad => trivial
    | ok q2 =>
      obtain ⟨r, ms'⟩ := q2
      intro q
      refine h1 fun vs Z1 H1 S1 T s1 g1 row d kk => ?_
      have hl : vs.length = n := by rw [← hn env ms env1 e1]; have := row.len; simpa using this.symm
      refine ⟨hl, Z1, ms, T, row, ?_⟩
      rw [e2]
      intro v Z2 H2 T2 Tr s2 row2 hr
      obtain ⟨g2, d2⟩ := g1.move s2 fun a z w => d a w z
      obtain ⟨S3, g3, u3⟩ := putBack_good bk vs ms' T2 env1 S1 row2 g2 (fun a z w => d2 a w (.inl z)) kk
      have st : Stp Z H (U S) Z2 H2 (fun a => U S3 a ∨ Tr a) := (s1.trans ((s2.frame (U S1)).from fun a z => z.elim .inr .inl)).weak fun a z => by
        rcases z with z | z
        · exact (u3 a z).elim .inr fun z => .inl (.inl z)
        · exact .inl (.inr z)
      exact q v Z2 H2 S3 Tr st g3 ⟨hr.rep, hr.al, hr.zf, fun a z w => (u3 a w).elim (fun w => d2 a w (.inr z)) (hr.dj a z)⟩
    | exc x ms' =>
      intro q
      refine h1 fun vs Z1 H1 S1 T s1 g1 row d kk => ?_
      have hl : vs.length = n := by rw [← hn env ms env1 e1]; have := row.len; simpa using this.symm
      refine ⟨hl, Z1, ms, T, row, ?_⟩
      rw [e2]
      intro cls dd Z2 H2 T2 hx s2 row2
      obtain ⟨g2, d2⟩ := g1.move s2 fun a z w => d a w z
      obtain ⟨S3, g3, u3⟩ := putBack_good bk vs ms' T2 env1 S1 row2 g2 (fun a z w => d2 a w z) kk
      have st : Stp Z H (U S) Z2 H2 (U S3) := (s1.trans ((s2.frame (U S1)).from fun a z => z.elim .inr .inl)).weak fun a z => (u3 a z).elim .inr fun z => .inl z
      exact q cls dd Z2 H2 S3 hx st g3
end
end FL

set_option maxHeartbeats 2000000
/-! FLF: statements, loops, a def's promise by its body. -/
namespace FL
open PySem L2 Classical

inductive Fl where
  | nx | brk | ct | ret (m : M)
abbrev SS := Env → Res (Fl × Env)
abbrev Px := Nat → Prop
def Fix (P : Px) (σ σ' : St) : Prop := (∀ i, P i → σ'[i]? = σ[i]?) ∧ σ'.length = σ.length
theorem Fix.refl {P : Px} {σ : St} : Fix P σ σ := ⟨fun _ _ => rfl, rfl⟩
theorem Fix.trans {P : Px} {σ σ1 σ2 : St} (a : Fix P σ σ1) (b : Fix P σ1 σ2) : Fix P σ σ2 := ⟨fun i h => (b.1 i h).trans (a.1 i h), b.2.trans a.2⟩
/-- what is wanted of the ways out, from (Z, H, R, σ) on -/
def SPost (G : Gx) (W : WX') (P : Px) (D : Ends) (Z H : Hp) (R : Rg) (σ : St) : Res (Fl × Env) → Prop
  | .ok (.nx, e) => ∀ σ' Z' H' S', Fix P σ σ' → Stp Z H R Z' H' (U S') → Good G Z' H' σ' e S' → D.nx σ' H'
  | .ok (.brk, e) => ∀ σ' Z' H' S', Fix P σ σ' → Stp Z H R Z' H' (U S') → Good G Z' H' σ' e S' → D.bk σ' H'
  | .ok (.ct, e) => ∀ σ' Z' H' S', Fix P σ σ' → Stp Z H R Z' H' (U S') → Good G Z' H' σ' e S' → D.ct σ' H'
  | .ok (.ret m, e) => ∀ v σ' Z' H' S' T, Fix P σ σ' → Stp Z H R Z' H' (fun a => U S' a ∨ T a) → Good G Z' H' σ' e S' → Hld G Z' H' (U S') m T v → D.rt v H'
  | .exc x e => ∀ cls d σ' Z' H' S', ExcAt G H' x cls d → Fix P σ σ' → Stp Z H R Z' H' (U S') → Good G Z' H' σ' e S' → W cls d σ' H'
  | .bad => False
def SSok (G : Gx) (W : WX') (P : Px) (t : TS) (f : SS) : Prop := ∀ (D : Ends) (Z H : Hp) (σ : St) (env : Env) (S : Rs), Good G Z H σ env S → SPost G W P D Z H (U S) σ (f env) → t D σ H
structure PSs' (G : Gx) (X : Cx) (W : WX') (P : Px) (sts : List Stmt) (f : SS) : Prop where
  ex : ∃ t, PSs X sts t ∧ SSok G W P t f
structure PS' (G : Gx) (X : Cx) (W : WX') (P : Px) (st : Stmt) (f : SS) : Prop where
  ex : ∃ t, PS X st t ∧ SSok G W P t f
theorem SPost.shift {G : Gx} {W : WX'} {P : Px} {D : Ends} {Z H Z' H' : Hp} {R R' : Rg} {σ σ' : St} {r : Res (Fl × Env)} (p : SPost G W P D Z H R σ r) (st : Stp Z H R Z' H' R') (fx : Fix P σ σ') : SPost G W P D Z' H' R' σ' r := by
  cases r with
  | ok q =>
    obtain ⟨fl, e⟩ := q
    cases fl with
    | nx => exact fun σ2 Z2 H2 S2 f2 s2 g2 => p σ2 Z2 H2 S2 (fx.trans f2) (st.trans s2) g2
    | brk => exact fun σ2 Z2 H2 S2 f2 s2 g2 => p σ2 Z2 H2 S2 (fx.trans f2) (st.trans s2) g2
    | ct => exact fun σ2 Z2 H2 S2 f2 s2 g2 => p σ2 Z2 H2 S2 (fx.trans f2) (st.trans s2) g2
    | ret m => exact fun v σ2 Z2 H2 S2 T f2 s2 g2 h => p v σ2 Z2 H2 S2 T (fx.trans f2) (st.trans s2) g2 h
  | exc x e => exact fun cls d σ2 Z2 H2 S2 hx f2 s2 g2 => p cls d σ2 Z2 H2 S2 hx (fx.trans f2) (st.trans s2) g2
  | bad => exact p.elim
/-- other ends for the ways on -/
theorem SPost.ends {G : Gx} {W W' : WX'} {P : Px} {D D' : Ends} {Z H : Hp} {R : Rg} {σ : St} {r : Res (Fl × Env)} (p : SPost G W P D Z H R σ r)
    (hn : ∀ e, r = .ok (.nx, e) → ∀ σ' Z' H' S', Fix P σ σ' → Stp Z H R Z' H' (U S') → Good G Z' H' σ' e S' → D.nx σ' H' → D'.nx σ' H')
    (hb : ∀ σ' H', D.bk σ' H' → D'.bk σ' H') (hc : ∀ σ' H', D.ct σ' H' → D'.ct σ' H') (hr : ∀ v H', D.rt v H' → D'.rt v H') (hw : ∀ c d σ' H', W c d σ' H' → W' c d σ' H') : SPost G W' P D' Z H R σ r := by
  cases r with
  | ok q =>
    obtain ⟨fl, e⟩ := q
    cases fl with
    | nx => exact fun σ2 Z2 H2 S2 f2 s2 g2 => hn e rfl σ2 Z2 H2 S2 f2 s2 g2 (p σ2 Z2 H2 S2 f2 s2 g2)
    | brk => exact fun σ2 Z2 H2 S2 f2 s2 g2 => hb _ _ (p σ2 Z2 H2 S2 f2 s2 g2)
    | ct => exact fun σ2 Z2 H2 S2 f2 s2 g2 => hc _ _ (p σ2 Z2 H2 S2 f2 s2 g2)
    | ret m => exact fun v σ2 Z2 H2 S2 T f2 s2 g2 h => hr _ _ (p v σ2 Z2 H2 S2 T f2 s2 g2 h)
  | exc x e => exact fun cls d σ2 Z2 H2 S2 hx f2 s2 g2 => hw _ _ _ _ (p cls d σ2 Z2 H2 S2 hx f2 s2 g2)
  | bad => exact p.elim

def ssNil : SS := fun env => .ok (.nx, env)
def ssSeq (f g : SS) : SS := fun env => match f env with
  | .ok (.nx, e) => g e
  | r => r
def ssRet (f : SE) : SS := fun env => match f env with
  | .ok (m, e) => .ok (.ret m, e)
  | .exc x e => .exc x e
  | .bad => .bad
def ssDrop (f : SE) : SS := fun env => match f env with
  | .ok (_, e) => .ok (.nx, e)
  | .exc x e => .exc x e
  | .bad => .bad
def ssSet (i : Nat) (f : SE) : SS := fun env => match f env with
  | .ok (m, e) => if i < e.length then .ok (.nx, e.set i (some m)) else .bad
  | .exc x e => .exc x e
  | .bad => .bad
def ssIf (c : SB) (f g : SS) : SS := fun env => match c env with
  | .ok (true, e) => f e
  | .ok (false, e) => g e
  | .exc x e => .exc x e
  | .bad => .bad
def killAll (ds : List Nat) (env : Env) : Env := ds.foldl (fun e i => e.set i none) env
/-- slots that are read no more are forgotten, behind -/
def ssKill (ds : List Nat) (f : SS) : SS := fun env => match f env with
  | .ok (.nx, e) => .ok (.nx, killAll ds e)
  | r => r
theorem killAll_good {G : Gx} {Z H : Hp} {σ : St} : ∀ (ds : List Nat) {env : Env} {S : Rs}, Good G Z H σ env S → ∃ S', Good G Z H σ (killAll ds env) S' ∧ ∀ a, U S' a → U S a
  | [], _, S, g => ⟨S, g, fun _ z => z⟩
  | d :: ds, env, S, g => by
    obtain ⟨S', g', h⟩ := killAll_good ds (g.kill d)
    exact ⟨S', g', fun a z => Rs.wipe_le (h a z)⟩
section
variable {G : Gx} {X : Cx} {W : WX'} {P : Px} {st : Stmt} {sts : List Stmt} {f g : SS} {fe : SE} {e : Expr} {t u : TS} {te : TE} {pos : Pos}
theorem SSok.nil : SSok G W P tNext ssNil := fun D Z H σ env S gd p => p σ Z H S Fix.refl (Stp.refl gd.zh) gd
theorem SSok.seq (h1 : SSok G W P t f) (h2 : SSok G W P u g) : SSok G W P (tSeq t u) (ssSeq f g) := fun D Z H σ env S gd p => by
  unfold ssSeq at p
  refine h1 { D with nx := u D } Z H σ env S gd ?_
  cases e : f env with
  | ok q =>
    obtain ⟨fl, e1⟩ := q
    rw [e] at p
    cases fl with
    | nx => exact fun σ' Z' H' S' fx s' g' => h2 D Z' H' σ' e1 S' g' (p.shift s' fx)
    | brk => exact p
    | ct => exact p
    | ret m => exact p
  | exc x e1 => rw [e] at p; exact p
  | bad => rw [e] at p; exact p.elim
theorem SSok.kill (ds : List Nat) (h : SSok G W P t f) : SSok G W P t (ssKill ds f) := fun D Z H σ env S gd p => by
  unfold ssKill at p
  refine h D Z H σ env S gd ?_
  cases e : f env with
  | ok q =>
    obtain ⟨fl, e1⟩ := q
    rw [e] at p
    cases fl with
    | nx =>
      intro σ' Z' H' S' fx s' g'
      obtain ⟨S2, g2, h2⟩ := killAll_good ds g'
      exact p σ' Z' H' S2 fx (s'.weak h2) g2
    | brk => exact p
    | ct => exact p
    | ret m => exact p
  | exc x e1 => rw [e] at p; exact p
  | bad => rw [e] at p; exact p.elim
theorem SSok.ret (h : SEok G W te fe) : SSok G W P (tRet te) (ssRet fe) := fun D Z H σ env S gd p => by
  unfold ssRet at p
  have h1 := h Z H σ env S D.rt gd
  cases e : fe env with
  | ok q =>
    obtain ⟨m, e1⟩ := q
    rw [e] at p h1
    exact h1 fun v Z' H' S' T s' g' l => p v σ Z' H' S' T Fix.refl s' g' l
  | exc x e1 =>
    rw [e] at p h1
    exact h1 fun cls d Z' H' S' hx s' g' => p cls d σ Z' H' S' hx Fix.refl s' g'
  | bad => rw [e] at p; exact p.elim
theorem SSok.drop (h : SEok G W te fe) : SSok G W P (tDrop te) (ssDrop fe) := fun D Z H σ env S gd p => by
  unfold ssDrop at p
  have h1 := h Z H σ env S (fun _ H1 => D.nx σ H1) gd
  cases e : fe env with
  | ok q =>
    obtain ⟨m, e1⟩ := q
    rw [e] at p h1
    exact h1 fun v Z' H' S' T s' g' l => p σ Z' H' S' Fix.refl (s'.weak fun a z => .inl z) g'
  | exc x e1 =>
    rw [e] at p h1
    exact h1 fun cls d Z' H' S' hx s' g' => p cls d σ Z' H' S' hx Fix.refl s' g'
  | bad => rw [e] at p; exact p.elim
theorem SSok.set {i : Nat} (hP : ¬ P i) (h : SEok G W te fe) : SSok G W P (tAsg te (gName i)) (ssSet i fe) := fun D Z H σ env S gd p => by
  unfold ssSet at p
  have h1 := h Z H σ env S (fun x H1 => D.nx (σ.set i (some x)) H1) gd
  cases e : fe env with
  | ok q =>
    obtain ⟨m, e1⟩ := q
    rw [e] at p h1
    by_cases hi : i < e1.length
    · simp only [if_pos hi] at p
      refine h1 fun v Z' H' S' T s' g' l => ?_
      refine p (σ.set i (some v)) Z' H' (S'.set i T) ⟨fun j hj => ?_, by rw [List.length_set]⟩ (s'.weak fun a z => Rs.set_sub z) (g'.put l hi)
      exact List.getElem?_set_ne fun (z : i = j) => hP (by rw [z]; exact hj)
    · simp only [if_neg hi] at p; exact p.elim
  | exc x e1 =>
    rw [e] at p h1
    exact h1 fun cls d Z' H' S' hx s' g' => p cls d σ Z' H' S' hx Fix.refl s' g'
  | bad => rw [e] at p; exact p.elim
theorem SSok.ite {c : SB} {tc : TT} (hc : SBok G W tc c) (h1 : SSok G W P t f) (h2 : SSok G W P u g) : SSok G W P (tIfS tc t u) (ssIf c f g) := fun D Z H σ env S gd p => by
  unfold ssIf at p
  have hh := hc Z H σ env S (fun b H1 => if b = true then t D σ H1 else u D σ H1) gd
  cases e : c env with
  | ok q =>
    obtain ⟨b, e1⟩ := q
    rw [e] at p hh
    cases b with
    | true => exact hh fun Z' H' S' s' g' => by rw [if_pos rfl]; exact h1 D Z' H' σ e1 S' g' (p.shift s' Fix.refl)
    | false => exact hh fun Z' H' S' s' g' => by rw [if_neg Bool.false_ne_true]; exact h2 D Z' H' σ e1 S' g' (p.shift s' Fix.refl)
  | exc x e1 =>
    rw [e] at p hh
    exact hh fun cls d Z' H' S' hx s' g' => p cls d σ Z' H' S' hx Fix.refl s' g'
  | bad => rw [e] at p; exact p.elim

theorem xs_nil : PSs' G X W P [] ssNil := ⟨_, pss_nil, SSok.nil⟩
theorem xs_cons (h1 : PS' G X W P st f) (h2 : PSs' G X W P sts g) : PSs' G X W P (st :: sts) (ssSeq f g) := by
  obtain ⟨t, p, h1⟩ := h1.ex
  obtain ⟨u, q, h2⟩ := h2.ex
  exact ⟨_, pss_cons p q, SSok.seq h1 h2⟩
theorem xs_one (h1 : PS' G X W P st f) : PSs' G X W P [st] f := by
  obtain ⟨t, p, h1⟩ := h1.ex
  exact ⟨_, pss_one p, h1⟩
theorem xs_kill (ds : List Nat) (h1 : PS' G X W P st f) : PS' G X W P st (ssKill ds f) := by
  obtain ⟨t, p, h1⟩ := h1.ex
  exact ⟨_, p, SSok.kill ds h1⟩
theorem xs_ret (h : PEs G X W e fe) : PS' G X W P (.Return (some e) pos) (ssRet fe) := by
  obtain ⟨t, p, h⟩ := h.ex
  exact ⟨_, ps_ret p, SSok.ret h⟩
theorem xs_expr (h : PEs G X W e fe) (hs : swapsWith e none pos.line X.env = pure false := by rfl) : PS' G X W P (.Expr e pos) (ssDrop fe) := by
  obtain ⟨t, p, h⟩ := h.ex
  exact ⟨_, ps_expr p hs, SSok.drop h⟩
theorem xs_set (i : Nat) {x : Str} {pos' : Pos} (hN : X.N.Nodup) (h : PEs G X W e fe) (hP : ¬ P i := by decide) (hi : X.N[i]? = some x := by rfl) (hx : Loc X.env.scope x := by first | exact .inl rfl | exact .inr rfl)
    (hs : swapsWith e (some (.Name x pos')) pos.line X.env = pure false := by rfl) (hf : X.fn x = true ∨ X.env.scope.names.lookup x = some .local := by first | exact .inl rfl | exact .inr rfl) :
    PS' G X W P (.Assign [.Name x pos'] e pos) (ssSet i fe) := by
  obtain ⟨t, p, h⟩ := h.ex
  exact ⟨_, ps_set hN hi hx p hs hf, SSok.set hP h⟩
theorem xs_if {c : Expr} {a b : List Stmt} {fc : SB} (hc : PBs G X W c fc) (ha : PSs' G X W P a f) (hb : PSs' G X W P b g) : PS' G X W P (.If c a b pos) (ssIf fc f g) := by
  obtain ⟨t, p, hc⟩ := hc.ex
  obtain ⟨u, q, ha⟩ := ha.ex
  obtain ⟨v, r, hb⟩ := hb.ex
  exact ⟨_, ps_if p q r, SSok.ite hc ha hb⟩
theorem xs_pass : PS' G X W P (.Pass pos) ssNil := ⟨_, ps_pass, SSok.nil⟩
def ssBrk : SS := fun env => .ok (.brk, env)
def ssCt : SS := fun env => .ok (.ct, env)
theorem xs_break : PS' G X W P (.Break pos) ssBrk := ⟨_, ps_break, fun D Z H σ env S gd p => p σ Z H S Fix.refl (Stp.refl gd.zh) gd⟩
theorem xs_continue : PS' G X W P (.Continue pos) ssCt := ⟨_, ps_continue, fun D Z H σ env S gd p => p σ Z H S Fix.refl (Stp.refl gd.zh) gd⟩
theorem xs_doc {x j pos'} : PS' G X W P (.Expr (.Constant (.str x) j pos) pos') ssNil := ⟨_, ps_doc, SSok.nil⟩
end

/-! ### tests -/
def sbE (f : SE) : SB := fun env => match f env with
  | .ok (.d (.bl b), e) => .ok (b, e)
  | .exc x e => .exc x e
  | _ => .bad
def sbNot (c : SB) : SB := fun env => match c env with
  | .ok (b, e) => .ok (!b, e)
  | .exc x e => .exc x e
  | .bad => .bad
def sbAnd (c d : SB) : SB := fun env => match c env with
  | .ok (true, e) => d e
  | .ok (false, e) => .ok (false, e)
  | .exc x e => .exc x e
  | .bad => .bad
def sbOr (c d : SB) : SB := fun env => match c env with
  | .ok (true, e) => .ok (true, e)
  | .ok (false, e) => d e
  | .exc x e => .exc x e
  | .bad => .bad
section
variable {G : Gx} {X : Cx} {W : WX'} {e a b : Expr} {fe : SE} {c d : SB} {te : TE} {tc td : TT} {pos : Pos} {rest : List Expr}
theorem SBok.ofE (h : SEok G W te fe) : SBok G W (tB te) (sbE fe) := fun Z H σ env S Q gd => by
  unfold sbE
  have h1 := h Z H σ env S (fun x H1 => ∃ c, x = .bl c ∧ Q c H1) gd
  cases e : fe env with
  | ok q =>
    obtain ⟨m, e1⟩ := q
    rw [e] at h1
    cases m with
    | d x =>
      cases x with
      | bl b => exact fun q => h1 fun v Z' H' S' T s' g' l => ⟨b, rep_bl l.rep, q Z' H' S' (s'.weak fun _ z => .inl z) g'⟩
      | _ => trivial
    | _ => trivial
  | exc x e1 => rw [e] at h1; exact h1
  | bad => trivial
theorem SBok.not (h : SBok G W tc c) : SBok G W (tNot tc) (sbNot c) := fun Z H σ env S Q gd => by
  unfold sbNot
  have h1 := h Z H σ env S (fun b H1 => Q (!b) H1) gd
  cases e : c env with
  | ok q => obtain ⟨b, e1⟩ := q; rw [e] at h1; exact h1
  | exc x e1 => rw [e] at h1; exact h1
  | bad => trivial
theorem SBok.and (h : SBok G W tc c) (h' : SBok G W td d) : SBok G W (tAnd tc td) (sbAnd c d) := fun Z H σ env S Q gd => by
  unfold sbAnd
  have h1 := h Z H σ env S (fun b H1 => if b = true then td σ H1 Q else Q false H1) gd
  cases e : c env with
  | ok q =>
    obtain ⟨b, e1⟩ := q
    rw [e] at h1
    cases b with
    | true =>
      simp only
      cases e2 : d e1 with
      | ok q2 =>
        obtain ⟨b2, e3⟩ := q2
        intro q
        refine h1 fun Z' H' S' s' g' => ?_
        rw [if_pos rfl]
        have h2 := h' Z' H' σ e1 S' Q g'
        rw [e2] at h2
        exact h2 fun Z2 H2 S2 s2 g2 => q Z2 H2 S2 (s'.trans s2) g2
      | exc x e3 =>
        intro q
        refine h1 fun Z' H' S' s' g' => ?_
        rw [if_pos rfl]
        have h2 := h' Z' H' σ e1 S' Q g'
        rw [e2] at h2
        exact h2 fun cls d Z2 H2 S2 hx s2 g2 => q cls d Z2 H2 S2 hx (s'.trans s2) g2
      | bad => trivial
    | false =>
      intro q
      exact h1 fun Z' H' S' s' g' => by rw [if_neg Bool.false_ne_true]; exact q Z' H' S' s' g'
  | exc x e1 => rw [e] at h1; exact h1
  | bad => trivial
theorem SBok.or (h : SBok G W tc c) (h' : SBok G W td d) : SBok G W (tOr tc td) (sbOr c d) := fun Z H σ env S Q gd => by
  unfold sbOr
  have h1 := h Z H σ env S (fun b H1 => if b = true then Q true H1 else td σ H1 Q) gd
  cases e : c env with
  | ok q =>
    obtain ⟨b, e1⟩ := q
    rw [e] at h1
    cases b with
    | false =>
      simp only
      cases e2 : d e1 with
      | ok q2 =>
        obtain ⟨b2, e3⟩ := q2
        intro q
        refine h1 fun Z' H' S' s' g' => ?_
        rw [if_neg Bool.false_ne_true]
        have h2 := h' Z' H' σ e1 S' Q g'
        rw [e2] at h2
        exact h2 fun Z2 H2 S2 s2 g2 => q Z2 H2 S2 (s'.trans s2) g2
      | exc x e3 =>
        intro q
        refine h1 fun Z' H' S' s' g' => ?_
        rw [if_neg Bool.false_ne_true]
        have h2 := h' Z' H' σ e1 S' Q g'
        rw [e2] at h2
        exact h2 fun cls d Z2 H2 S2 hx s2 g2 => q cls d Z2 H2 S2 hx (s'.trans s2) g2
      | bad => trivial
    | true =>
      intro q
      exact h1 fun Z' H' S' s' g' => by rw [if_pos rfl]; exact q Z' H' S' s' g'
  | exc x e1 => rw [e] at h1; exact h1
  | bad => trivial
/-- tests whatever their whole is -/
structure PWs (G : Gx) (X : Cx) (W : WX') (e : Expr) (f : SB) : Prop where
  ex : ∃ t, PW X e t ∧ SBok G W t f
theorem PWs.pb (h : PWs G X W e c) : PBs G X W e c := by
  obtain ⟨t, p, h⟩ := h.ex
  exact ⟨_, p.pt, h⟩
theorem xb_e (h : PEs G X W e fe) (he : ∀ whole, isTrue e X.env whole = (do let v ← whole; standAt e.pos; holding [v] (truthy v)) := by intro _; rfl) : PBs G X W e (sbE fe) := by
  obtain ⟨t, p, h⟩ := h.ex
  exact ⟨_, pt_val p he, SBok.ofE h⟩
theorem xb_not (h : PBs G X W a c) : PBs G X W (.UnaryOp .Not a pos) (sbNot c) := by
  obtain ⟨t, p, h⟩ := h.ex
  exact ⟨_, pt_not p, SBok.not h⟩
theorem xw_and (h : PBs G X W a c) (h' : PWs G X W (.BoolOp .And (b :: rest) pos) d) : PWs G X W (.BoolOp .And (a :: b :: rest) pos) (sbAnd c d) := by
  obtain ⟨t, p, h⟩ := h.ex
  obtain ⟨u, q, h'⟩ := h'.ex
  exact ⟨_, pw_and p q, SBok.and h h'⟩
theorem xw_and1 (h : PBs G X W a c) : PWs G X W (.BoolOp .And [a] pos) c := by
  obtain ⟨t, p, h⟩ := h.ex
  exact ⟨_, pw_and1 p, h⟩
theorem xw_or (h : PBs G X W a c) (h' : PWs G X W (.BoolOp .Or (b :: rest) pos) d) : PWs G X W (.BoolOp .Or (a :: b :: rest) pos) (sbOr c d) := by
  obtain ⟨t, p, h⟩ := h.ex
  obtain ⟨u, q, h'⟩ := h'.ex
  exact ⟨_, pw_or p q, SBok.or h h'⟩
theorem xw_or1 (h : PBs G X W a c) : PWs G X W (.BoolOp .Or [a] pos) c := by
  obtain ⟨t, p, h⟩ := h.ex
  exact ⟨_, pw_or1 p, h⟩
/-- comparisons as tests -/
theorem xb_cmp {r : R2} {op : DOp} {fa fb : SE} {o : CmpOp} (ho : OpR X (compareOp o) r) (h : VOP G r op) (ha : PEs G X W a fa) (hb : PEs G X W b fb) (hm : behindInMarks o b = false) : PBs G X W (.Compare a [o] [b] pos) (sbE (s2 op fa fb)) := by
  obtain ⟨ta, pa, ha⟩ := ha.ex
  obtain ⟨tb, pb, hb⟩ := hb.ex
  exact ⟨_, pt_cmpR ho pa pb hm, SBok.ofE (SEok.bin h ha hb)⟩
theorem xb_cmpv {r : R2} {op : DOp} {ga gb : VE} {o : CmpOp} (ho : OpR X (compareOp o) r) (h : VOP G r op) (ha : PVs G X a ga) (hb : PVs G X b gb) (hm : behindInMarks o b = false) : PBs G X W (.Compare a [o] [b] pos) (sbE (sV (v2 op ga gb))) := by
  obtain ⟨ta, pa, ha⟩ := ha.ex
  obtain ⟨tb, pb, hb⟩ := hb.ex
  exact ⟨_, pt_cmpR ho pa pb hm, SBok.ofE (SEok.of_v (VEok.bin h ha hb))⟩
theorem xb_cmpN {r : R2} {op : DOp} {fb : SE} {o : CmpOp} (i : Nat) {x : Str} {p1 : Pos} (ho : OpR X (compareOp o) r) (h : VOP G r op) (hb : PEs G X W b fb) (hm : behindInMarks o b = false) (hN : X.N[i]? = some x := by rfl) (hv : Vis X.env.scope x := by first | exact Or.inl rfl | exact Or.inr (Or.inl rfl) | exact Or.inr (Or.inr rfl))
    (hd : (x == ("__debug__" : Str)) = false := by decide) (hcd : (x == ("__classdict__" : Str)) = false := by decide) : PBs G X W (.Compare (.Name x p1) [o] [b] pos) (sbE (s2n op i fb)) := by
  obtain ⟨tb, pb, hb⟩ := hb.ex
  exact ⟨_, pt_cmpR ho (pe_var hN hv hd hcd) pb hm, SBok.ofE (SEok.binN h hb)⟩
theorem xb_cmpV {r : R2} {op : DOp} {fa : SE} {gb : VE} {o : CmpOp} (ho : OpR X (compareOp o) r) (h : VOP G r op) (ha : PEs G X W a fa) (hb : PVs G X b gb) (hm : behindInMarks o b = false) : PBs G X W (.Compare a [o] [b] pos) (sbE (s2v op fa gb)) := by
  obtain ⟨ta, pa, ha⟩ := ha.ex
  obtain ⟨tb, pb, hb⟩ := hb.ex
  exact ⟨_, pt_cmpR ho pa pb hm, SBok.ofE (SEok.binV h ha hb)⟩
end
end FL

set_option maxHeartbeats 2000000
/-! FLG: targets, while, for. -/
namespace FL
open PySem L2 Classical

/-! ### a reading that is just the semantics -/
def ESem (G : Gx) (W : WX') (f : SE) : TE := fun σ H Q => ∃ Z env S, Good G Z H σ env S ∧ match f env with
  | .ok (m, env') => ∀ v Z' H' S' T, Stp Z H (U S) Z' H' (fun a => U S' a ∨ T a) → Good G Z' H' σ env' S' → Hld G Z' H' (U S') m T v → Q v H'
  | .exc e env' => ∀ cls d Z' H' S', ExcAt G H' e cls d → Stp Z H (U S) Z' H' (U S') → Good G Z' H' σ env' S' → W cls d σ H'
  | .bad => False
def BSem (G : Gx) (W : WX') (f : SB) : TT := fun σ H Q => ∃ Z env S, Good G Z H σ env S ∧ match f env with
  | .ok (b, env') => ∀ Z' H' S', Stp Z H (U S) Z' H' (U S') → Good G Z' H' σ env' S' → Q b H'
  | .exc e env' => ∀ cls d Z' H' S', ExcAt G H' e cls d → Stp Z H (U S) Z' H' (U S') → Good G Z' H' σ env' S' → W cls d σ H'
  | .bad => False
section
variable {G : Gx} {X : Cx} {W : WX'} {e : Expr} {f : SE} {c : SB}
theorem PEs.sem (h : PEs G X W e f) : PE X e (ESem G W f) := by
  obtain ⟨t, p, h⟩ := h.ex
  refine ⟨fun pins s σ H Q I q => p.run pins s σ H Q I ?_⟩
  obtain ⟨Z, env, S, g, q⟩ := q
  have h1 := h Z H σ env S Q g
  cases ef : f env with
  | ok r => obtain ⟨m, env'⟩ := r; rw [ef] at h1 q; exact h1 q
  | exc x env' => rw [ef] at h1 q; exact h1 q
  | bad => rw [ef] at q; exact q.elim
theorem ESem.ok : SEok G W (ESem G W f) f := fun Z H σ env S Q g => by
  cases ef : f env with
  | ok r => obtain ⟨m, env'⟩ := r; intro q; exact ⟨Z, env, S, g, by rw [ef]; exact q⟩
  | exc x env' => intro q; exact ⟨Z, env, S, g, by rw [ef]; exact q⟩
  | bad => trivial
theorem PBs.sem (h : PBs G X W e c) : PT X e (BSem G W c) := by
  obtain ⟨t, p, h⟩ := h.ex
  refine ⟨fun pins s σ H Q I q => p.run pins s σ H Q I ?_⟩
  obtain ⟨Z, env, S, g, q⟩ := q
  have h1 := h Z H σ env S Q g
  cases ef : c env with
  | ok r => obtain ⟨m, env'⟩ := r; rw [ef] at h1 q; exact h1 q
  | exc x env' => rw [ef] at h1 q; exact h1 q
  | bad => rw [ef] at q; exact q.elim
theorem BSem.ok : SBok G W (BSem G W c) c := fun Z H σ env S Q g => by
  cases ef : c env with
  | ok r => obtain ⟨m, env'⟩ := r; intro q; exact ⟨Z, env, S, g, by rw [ef]; exact q⟩
  | exc x env' => intro q; exact ⟨Z, env, S, g, by rw [ef]; exact q⟩
  | bad => trivial
end

/-! ### targets -/
abbrev SG := M → Env → Res Env
def SGok (G : Gx) (P : Px) (g : TG) (f : SG) : Prop := ∀ (Z H : Hp) (σ : St) (env : Env) (S : Rs) (m : M) (T : Rg) (v : V) (Q : St → Hp → Prop), Good G Z H σ env S → Hld G Z H (U S) m T v →
  match f m env with
  | .ok env' => (∀ σ' S', Fix P σ σ' → Good G Z H σ' env' S' → (∀ a, U S' a → U S a ∨ T a) → Q σ' H) → g v σ H Q
  | _ => True
structure PGs' (G : Gx) (X : Cx) (P : Px) (tg : Expr) (f : SG) : Prop where
  ex : ∃ g, PG X tg g ∧ SGok G P g f
abbrev SGs := List M → Env → Res Env
def SGsok (G : Gx) (P : Px) (g : TGs) (f : SGs) : Prop := ∀ (Z H : Hp) (σ : St) (env : Env) (S : Rs) (ms : List M) (T : Rg) (vs : List V) (Q : St → Hp → Prop), Good G Z H σ env S → RepMs G Z H ms T vs → (∀ a, T a → H a ≠ none) → (∀ a, T a → Z a = none) → (∀ a, T a → ¬ U S a) →
  match f ms env with
  | .ok env' => (∀ σ' S', Fix P σ σ' → Good G Z H σ' env' S' → (∀ a, U S' a → U S a ∨ T a) → Q σ' H) → g vs σ H Q
  | _ => True
structure PGss (G : Gx) (X : Cx) (P : Px) (tgs : List Expr) (f : SGs) : Prop where
  ex : ∃ g, PGs X tgs g ∧ SGsok G P g f
def sgN (i : Nat) : SG := fun m env => if i < env.length then .ok (env.set i (some m)) else .bad
def sgNil : SGs := fun ms env => match ms with
  | [] => .ok env
  | _ => .bad
def sgCons (f : SG) (fs : SGs) : SGs := fun ms env => match ms with
  | m :: r => match f m env with
    | .ok e => fs r e
    | _ => .bad
  | [] => .bad
def sgTup (n : Nat) (fs : SGs) : SG := fun m env => match m.seq with
  | some (true, ms) => if ms.length = n then fs ms env else .bad
  | _ => .bad
section
variable {G : Gx} {X : Cx} {P : Px} {tg e : Expr} {es : List Expr} {f : SG} {fs : SGs} {pos : Pos}
theorem xg_name (i : Nat) {x : Str} (hN : X.N.Nodup) (hP : ¬ P i := by decide) (hi : X.N[i]? = some x := by rfl) (hx : Loc X.env.scope x := by first | exact .inl rfl | exact .inr rfl)
    (hf : X.fn x = true ∨ X.env.scope.names.lookup x = some .local := by first | exact .inl rfl | exact .inr rfl) : PGs' G X P (.Name x pos) (sgN i) := by
  refine ⟨_, pg_name hN hi hx hf, fun Z H σ env S m T v Q gd h => ?_⟩
  unfold sgN
  by_cases hl : i < env.length
  · rw [if_pos hl]
    intro q
    exact q _ (S.set i T) ⟨fun j hj => List.getElem?_set_ne fun (z : i = j) => hP (by rw [z]; exact hj), by rw [List.length_set]⟩ (gd.put h hl) fun a z => Rs.set_sub z
  · rw [if_neg hl]; trivial
theorem xgs_nil : PGss G X P [] sgNil := by
  refine ⟨_, pgs_nil, fun Z H σ env S ms T vs Q gd r al zf dj => ?_⟩
  unfold sgNil
  cases ms with
  | nil => intro q; simp only [RepMs] at r; exact ⟨r, q σ S Fix.refl gd fun a z => .inl z⟩
  | cons _ _ => trivial
theorem xgs_cons (h : PGs' G X P e f) (hs : PGss G X P es fs) (hst : (assignEach (e :: es) X.env).map (·.2) = assign e X.env :: (assignEach es X.env).map (·.2) := by rfl) : PGss G X P (e :: es) (sgCons f fs) := by
  obtain ⟨g, p, h⟩ := h.ex
  obtain ⟨gs, q, hs⟩ := hs.ex
  refine ⟨_, pgs_cons p q hst, fun Z H σ env S ms T vs Q gd r al zf dj => ?_⟩
  unfold sgCons
  cases ms with
  | nil => trivial
  | cons m ms =>
    simp only
    simp only [RepMs] at r
    obtain ⟨v, vr, T1, T2, rfl, t1, t2, d12, rv, rr⟩ := r
    have h1 := h Z H σ env S m T1 v (fun σ' H' => gs vr σ' H' Q) gd ⟨rv, fun a z => al a (t1 a z), fun a z => zf a (t1 a z), fun a z => dj a (t1 a z)⟩
    cases e1 : f m env with
    | ok env1 =>
      rw [e1] at h1
      simp only
      cases e2 : fs ms env1 with
      | ok env2 =>
        intro q
        refine ⟨v, vr, rfl, h1 fun σ1 S1 fx1 g1 u1 => ?_⟩
        have h2 := hs Z H σ1 env1 S1 ms T2 vr Q g1 rr (fun a z => al a (t2 a z)) (fun a z => zf a (t2 a z)) (fun a z w => (u1 a w).elim (dj a (t2 a z)) fun w => d12 a w z)
        rw [e2] at h2
        exact h2 fun σ2 S2 fx2 g2 u2 => q σ2 S2 (fx1.trans fx2) g2 fun a z => (u2 a z).elim (fun z => (u1 a z).elim .inl fun z => .inr (t1 a z)) fun z => .inr (t2 a z)
      | _ => trivial
    | _ => trivial
theorem xg_tup {k n : Nat} (hK : G.K = X.K) (hc : X.calm = true) (h : PGss G X P es fs) (hn : (assignEach es X.env).length = n := by rfl) (hst : (assignEach es X.env).findIdx? (·.1) = none := by rfl) : PGs' G X P (.Tuple es k pos) (sgTup n fs) := by
  obtain ⟨gs, q, hs⟩ := h.ex
  refine ⟨_, pg_tup hc q hn hst, fun Z H σ env S m T v Q gd h => ?_⟩
  unfold sgTup
  cases es : m.seq with
  | none => trivial
  | some p =>
    obtain ⟨b, ms⟩ := p
    cases b with
    | false => trivial
    | true =>
      simp only
      by_cases hl : ms.length = n
      · rw [if_pos hl]
        obtain ⟨a, vs, rfl, q1, _, r⟩ := h.rep.seq gd.zh es
        have h1 := hs Z H σ env S ms T vs Q gd r h.al h.zf h.dj
        cases e1 : fs ms env with
        | ok env' =>
          rw [e1] at h1
          intro q
          exact ⟨a, vs, rfl, by rw [← hK]; exact q1 rfl, by rw [← r.len]; exact hl, h1 q⟩
        | _ => trivial
      · rw [if_neg hl]; trivial
end
def ssAsg (f : SE) (g : SG) : SS := fun env => match f env with
  | .ok (m, e) => match g m e with
    | .ok e2 => .ok (.nx, e2)
    | _ => .bad
  | .exc x e => .exc x e
  | .bad => .bad
section
variable {G : Gx} {X : Cx} {W : WX'} {P : Px} {tg e : Expr} {f : SE} {g : SG} {pos : Pos}
theorem SSok.asg {te : TE} {tg : TG} (h : SEok G W te f) (hg : SGok G P tg g) : SSok G W P (tAsg te tg) (ssAsg f g) := fun D Z H σ env S gd p => by
  unfold ssAsg at p
  have h1 := h Z H σ env S (fun x H1 => tg x σ H1 D.nx) gd
  cases e : f env with
  | ok q =>
    obtain ⟨m, e1⟩ := q
    rw [e] at p h1
    simp only at p
    cases e2 : g m e1 with
    | ok e3 =>
      rw [e2] at p
      refine h1 fun v Z' H' S' T s' g' l => ?_
      have h2 := hg Z' H' σ e1 S' m T v D.nx g' l
      rw [e2] at h2
      exact h2 fun σ2 S2 fx g2 u2 => p σ2 Z' H' S2 fx (s'.weak u2) g2
    | exc x e3 => rw [e2] at p; exact p.elim
    | bad => rw [e2] at p; exact p.elim
  | exc x e1 =>
    rw [e] at p h1
    exact h1 fun cls d Z' H' S' hx s' g' => p cls d σ Z' H' S' hx Fix.refl s' g'
  | bad => rw [e] at p; exact p.elim
theorem xs_asg (h : PEs G X W e f) (hg : PGs' G X P tg g) (hs : swapsWithSole [tg] e pos.line X.env = pure false := by rfl) (hw : swappedStores [tg] e X.env = pure none := by rfl)
    (h1 : (assignEach [tg] X.env).map (·.2) = [assign tg X.env] := by rfl) : PS' G X W P (.Assign [tg] e pos) (ssAsg f g) := by
  obtain ⟨t, p, h⟩ := h.ex
  obtain ⟨u, q, hg⟩ := hg.ex
  exact ⟨_, ps_asg p q hs hw h1, SSok.asg h hg⟩
end

/-! ### while -/
def wl (c : SB) (b : SS) : Nat → SS
  | 0, _ => .bad
  | n + 1, env => match c env with
    | .ok (true, e) => match b e with
      | .ok (.nx, e2) => wl c b n e2
      | .ok (.ct, e2) => wl c b n e2
      | .ok (.brk, e2) => .ok (.nx, e2)
      | .ok (.ret m, e2) => .ok (.ret m, e2)
      | .exc x e2 => .exc x e2
      | .bad => .bad
    | .ok (false, e) => .ok (.nx, e)
    | .exc x e => .exc x e
    | .bad => .bad
theorem wl_mono (c : SB) (b : SS) : ∀ (n : Nat) (env : Env), wl c b n env ≠ .bad → ∀ m, n ≤ m → wl c b m env = wl c b n env
  | 0, env, h, _, _ => absurd rfl h
  | n + 1, env, h, m, hm => by
    obtain ⟨m, rfl⟩ : ∃ k, m = k + 1 := ⟨m - 1, by omega⟩
    unfold wl at h ⊢
    cases e : c env with
    | ok q =>
      obtain ⟨k, e1⟩ := q
      cases k with
      | true =>
        rw [e] at h
        simp only at h ⊢
        cases e2 : b e1 with
        | ok q2 =>
          obtain ⟨fl, e3⟩ := q2
          rw [e2] at h
          cases fl with
          | nx => exact wl_mono c b n e3 h m (by omega)
          | ct => exact wl_mono c b n e3 h m (by omega)
          | brk => rfl
          | ret _ => rfl
        | exc x e3 => rfl
        | bad => rfl
      | false => rfl
    | exc x e1 => rfl
    | bad => rfl
noncomputable def ssWhile (c : SB) (b : SS) : SS := fun env => if h : ∃ n, wl c b n env ≠ .bad then wl c b (Classical.choose h) env else .bad
theorem ssWhile_of {c : SB} {b : SS} {env : Env} {r : Res (Fl × Env)} (n : Nat) (h : wl c b n env = r) (hr : r ≠ .bad) : ssWhile c b env = r := by
  have hn : wl c b n env ≠ .bad := by rw [h]; exact hr
  have ex : ∃ n, wl c b n env ≠ .bad := ⟨n, hn⟩
  unfold ssWhile
  rw [dif_pos ex]
  have h1 := Classical.choose_spec ex
  rcases Nat.le_total n (Classical.choose ex) with q | q
  · rw [wl_mono c b n env hn _ q, h]
  · rw [← wl_mono c b _ env h1 n q, h]
section
variable {G : Gx} {X : Cx} {W : WX'} {P : Px} {c : SB} {b : SS} {tc : TT} {tb : TS} {pos : Pos}
theorem SSok.while (hc : SBok G W tc c) (hb : SSok G W P tb b) : SSok G W P (tWhile tc tb) (ssWhile c b) := fun D Z H σ env S gd p => by
  by_cases ex : ∃ n, wl c b n env ≠ .bad
  case neg => unfold ssWhile at p; rw [dif_neg ex] at p; exact p.elim
  unfold ssWhile at p
  rw [dif_pos ex] at p
  refine ⟨fun n σ' H' => ∃ env' Z' S', Good G Z' H' σ' env' S' ∧ SPost G W P D Z' H' (U S') σ' (wl c b n env'), ⟨_, env, Z, S, gd, p⟩, ?_⟩
  rintro n σ1 H1 ⟨env1, Z1, S1, g1, p1⟩
  cases n with
  | zero => exact p1.elim
  | succ n =>
    unfold wl at p1
    have hh := hc Z1 H1 σ1 env1 S1 (fun k H1 => if k = true then ∃ N : St → Hp → Prop, (∀ σ' H', N σ' H' → ∃ m', m' < n + 1 ∧ ∃ env' Z' S', Good G Z' H' σ' env' S' ∧ SPost G W P D Z' H' (U S') σ' (wl c b m' env')) ∧ tb { D with nx := N, ct := N, bk := D.nx } σ1 H1 else D.nx σ1 H1) g1
    cases e : c env1 with
    | ok q =>
      obtain ⟨k, e1⟩ := q
      rw [e] at p1 hh
      cases k with
      | true =>
        simp only at p1
        refine hh fun Z2 H2 S2 s2 g2 => ?_
        rw [if_pos rfl]
        have p2 := p1.shift s2 Fix.refl
        refine ⟨fun σ' H' => ∃ env' Z' S', Good G Z' H' σ' env' S' ∧ SPost G W P D Z' H' (U S') σ' (wl c b n env'), fun σ' H' h => ⟨n, Nat.lt_succ_self _, h⟩, ?_⟩
        refine hb _ Z2 H2 σ1 e1 S2 g2 ?_
        cases e2 : b e1 with
        | ok q2 =>
          obtain ⟨fl, e3⟩ := q2
          rw [e2] at p2
          cases fl with
          | nx => exact fun σ3 Z3 H3 S3 f3 s3 g3 => ⟨e3, Z3, S3, g3, p2.shift s3 f3⟩
          | ct => exact fun σ3 Z3 H3 S3 f3 s3 g3 => ⟨e3, Z3, S3, g3, p2.shift s3 f3⟩
          | brk => exact fun σ3 Z3 H3 S3 f3 s3 g3 => p2 σ3 Z3 H3 S3 f3 s3 g3
          | ret m => exact fun v σ3 Z3 H3 S3 T f3 s3 g3 h => p2 v σ3 Z3 H3 S3 T f3 s3 g3 h
        | exc x e3 => rw [e2] at p2; exact p2
        | bad => rw [e2] at p2; exact p2.elim
      | false =>
        refine hh fun Z2 H2 S2 s2 g2 => ?_
        rw [if_neg Bool.false_ne_true]
        exact p1 σ1 Z2 H2 S2 Fix.refl s2 g2
    | exc x e1 =>
      rw [e] at p1 hh
      exact hh fun cls d Z2 H2 S2 hx s2 g2 => p1 cls d σ1 Z2 H2 S2 hx Fix.refl s2 g2
    | bad => rw [e] at p1; exact p1.elim
theorem xs_while {ce : Expr} {body : List Stmt} (hp : PassesOwn (model X.prog X.w) X.A X.env X.xe) (hc : PBs G X W ce c) (hb : PSs' G X W P body b) : PS' G X W P (.While ce body [] pos) (ssWhile c b) := by
  obtain ⟨t, p, hc⟩ := hc.ex
  obtain ⟨u, q, hb⟩ := hb.ex
  exact ⟨_, ps_while hp p q, SSok.while hc hb⟩
end

/-! ### for -/
/-- what an iterator gives: the items xs, frozen; Fr: what must stand meanwhile -/
structure Yields (G : Gx) (Fr : Hp → Hp → Rg → Prop) (J : It) (xs : List D) : Prop where
  stay : ∀ Z H R Z' H' R', Fr Z H R → Stp Z H R Z' H' R' → Fr Z' H' R'
  stop : ∀ Z H R i, Fr Z H R → Same Z H → xs.length ≤ i → J.stop i H
  item : ∀ Z H R i d, Fr Z H R → Same Z H → xs[i]? = some d → J.go i H ∧ ∀ x H', J.yld i H x H' → ∃ Z', Stp Z H (fun _ => False) Z' H' (fun _ => False) ∧ RepD G Z' d x
abbrev SI := Env → Res (List D × Env)
def TIok (G : Gx) (W : WX') (t : TI) (f : SI) : Prop := ∀ (Z H : Hp) (σ : St) (env : Env) (S : Rs) (R : It → Hp → Prop), Good G Z H σ env S →
  match f env with
  | .ok (xs, env') => (∀ J Z' H' S', Stp Z H (U S) Z' H' (U S') → Good G Z' H' σ env' S' → Yields G (fun Z1 _ _ => Same Z' Z1) J xs → R J H') → t σ H R
  | .exc e env' => (∀ cls d Z' H' S', ExcAt G H' e cls d → Stp Z H (U S) Z' H' (U S') → Good G Z' H' σ env' S' → W cls d σ H') → t σ H R
  | .bad => True
structure PIs (G : Gx) (X : Cx) (W : WX') (tg e : Expr) (f : SI) : Prop where
  ex : ∃ t, PI X tg e t ∧ TIok G W t f
def fl (g : SG) (b : SS) : List D → SS
  | [], env => .ok (.nx, env)
  | x :: xs, env => match g (.d x) env with
    | .ok e => match b e with
      | .ok (.nx, e2) => fl g b xs e2
      | .ok (.ct, e2) => fl g b xs e2
      | .ok (.brk, e2) => .ok (.nx, e2)
      | .ok (.ret m, e2) => .ok (.ret m, e2)
      | .exc x e2 => .exc x e2
      | .bad => .bad
    | _ => .bad
def ssFor (fi : SI) (g : SG) (b : SS) : SS := fun env => match fi env with
  | .ok (xs, e) => fl g b xs e
  | .exc x e => .exc x e
  | .bad => .bad
section
variable {G : Gx} {X : Cx} {W : WX'} {P : Px} {fi : SI} {g : SG} {b : SS} {ti : TI} {tg : TG} {tb : TS} {pos : Pos}
/-- the turns, by what is to come of the items that are left -/
theorem for_turns {Fr : Hp → Hp → Rg → Prop} {J : It} {xs : List D} {D : Ends} {σ : St} {H : Hp} (hY : Yields G Fr J xs) (hg : SGok G P tg g) (hb : SSok G W P tb b)
    (Z : Hp) (S : Rs) (env : Env) (gd : Good G Z H σ env S) (hF : Fr Z H (U S)) (p : SPost G W P D Z H (U S) σ (fl g b xs env)) :
    ∃ W' : Nat → Nat → St → Hp → Prop, (∃ m, W' 0 m σ H) ∧ ∀ i m σ H, W' i m σ H →
      (J.stop i H ∧ D.nx σ H) ∨ (J.go i H ∧ ∃ N : St → Hp → Prop, (∀ σ' H', N σ' H' → ∃ m', m' < m ∧ W' (i + 1) m' σ' H') ∧ ∀ x H', J.yld i H x H' → tg x σ H' fun σ2 H2 => tb { D with nx := N, ct := N, bk := D.nx } σ2 H2) := by
  refine ⟨fun i m σ' H' => m = xs.length - i ∧ i ≤ xs.length ∧ ∃ env' Z' S', Good G Z' H' σ' env' S' ∧ Fr Z' H' (U S') ∧ SPost G W P D Z' H' (U S') σ' (fl g b (xs.drop i) env'), ⟨xs.length, by simp, Nat.zero_le _, env, Z, S, gd, hF, by simpa using p⟩, ?_⟩
  rintro i m σ1 H1 ⟨rfl, hi, env1, Z1, S1, g1, F1, p1⟩
  by_cases hlt : i < xs.length
  · refine .inr ?_
    obtain ⟨go, yl⟩ := hY.item Z1 H1 (U S1) i xs[i] F1 g1.zh (List.getElem?_eq_getElem hlt)
    rw [List.drop_eq_getElem_cons hlt] at p1
    unfold fl at p1
    refine ⟨go, fun σ' H' => ∃ env' Z' S', Good G Z' H' σ' env' S' ∧ Fr Z' H' (U S') ∧ SPost G W P D Z' H' (U S') σ' (fl g b (xs.drop (i + 1)) env'), fun σ' H' ⟨env', Z', S', h1, h2, h3⟩ => ⟨xs.length - (i + 1), by omega, rfl, hlt, env', Z', S', h1, h2, h3⟩, fun x H2 hy => ?_⟩
    obtain ⟨Z2, s2, rx⟩ := yl x H2 hy
    obtain ⟨g2, _⟩ := g1.move s2 fun _ _ z => z
    have s2' : Stp Z1 H1 (U S1) Z2 H2 (U S1) := ((s2.frame (U S1)).from fun a z => z.elim (fun z => z.elim) id).weak fun a z => .inr z
    have F2 := hY.stay _ _ _ _ _ _ F1 s2'
    have hh := fun Q => hg Z2 H2 σ1 env1 S1 (.d xs[i]) (fun _ => False) x Q g2 (Hld.data rx)
    cases e : g (.d xs[i]) env1 with
    | ok e1 =>
      rw [e] at p1
      simp only [e] at p1 hh
      refine hh _ fun σ3 S3 fx3 g3 u3 => ?_
      have s3 : Stp Z1 H1 (U S1) Z2 H2 (U S3) := s2'.weak fun a z => (u3 a z).elim id fun z => z.elim
      have F3 := hY.stay _ _ _ _ _ _ F1 s3
      have p3 := p1.shift s3 fx3
      refine hb _ Z2 H2 σ3 e1 S3 g3 ?_
      cases e2 : b e1 with
      | ok q2 =>
        obtain ⟨f', e3⟩ := q2
        rw [e2] at p3
        cases f' with
        | nx => exact fun σ4 Z4 H4 S4 f4 s4 g4 => ⟨e3, Z4, S4, g4, hY.stay _ _ _ _ _ _ F3 s4, p3.shift s4 f4⟩
        | ct => exact fun σ4 Z4 H4 S4 f4 s4 g4 => ⟨e3, Z4, S4, g4, hY.stay _ _ _ _ _ _ F3 s4, p3.shift s4 f4⟩
        | brk => exact fun σ4 Z4 H4 S4 f4 s4 g4 => p3 σ4 Z4 H4 S4 f4 s4 g4
        | ret m => exact fun v σ4 Z4 H4 S4 T f4 s4 g4 h => p3 v σ4 Z4 H4 S4 T f4 s4 g4 h
      | exc x e3 => rw [e2] at p3; exact p3
      | bad => rw [e2] at p3; exact p3.elim
    | exc x e1 => rw [e] at p1; exact p1.elim
    | bad => rw [e] at p1; exact p1.elim
  · have e : i = xs.length := by omega
    refine .inl ⟨hY.stop Z1 H1 (U S1) i F1 g1.zh (by omega), ?_⟩
    rw [e, List.drop_length] at p1
    exact p1 σ1 Z1 H1 S1 Fix.refl (Stp.refl g1.zh) g1
theorem SSok.for (hi : TIok G W ti fi) (hg : SGok G P tg g) (hb : SSok G W P tb b) : SSok G W P (tFor ti tg tb) (ssFor fi g b) := fun D Z H σ env S gd p => by
  unfold ssFor at p
  have h1 := hi Z H σ env S (fun J H1 => ∃ W' : Nat → Nat → St → Hp → Prop, (∃ m, W' 0 m σ H1) ∧ ∀ i m σ H, W' i m σ H →
      (J.stop i H ∧ D.nx σ H) ∨ (J.go i H ∧ ∃ N : St → Hp → Prop, (∀ σ' H', N σ' H' → ∃ m', m' < m ∧ W' (i + 1) m' σ' H') ∧ ∀ x H', J.yld i H x H' → tg x σ H' fun σ2 H2 => tb { D with nx := N, ct := N, bk := D.nx } σ2 H2)) gd
  cases e : fi env with
  | ok q =>
    obtain ⟨xs, e1⟩ := q
    rw [e] at p h1
    refine h1 fun J Z' H' S' s' g' hY => ?_
    exact for_turns hY hg hb Z' S' e1 g' (Same.refl _) (p.shift s' Fix.refl)
  | exc x e1 =>
    rw [e] at p h1
    exact h1 fun cls d Z' H' S' hx s' g' => p cls d σ Z' H' S' hx Fix.refl s' g'
  | bad => rw [e] at p; exact p.elim
theorem xs_for {te ie : Expr} {body : List Stmt} (hp : PassesOwn (model X.prog X.w) X.A X.env X.xe) (hc : X.calm = true) (hi : PIs G X W te ie fi) (hg : PGs' G X P te g) (hb : PSs' G X W P body b)
    (hs : ∀ x, foldedSetIterable ie X.env x = pure x := by intro _; rfl) : PS' G X W P (.For te ie body [] pos) (ssFor fi g b) := by
  obtain ⟨t, p, hi⟩ := hi.ex
  obtain ⟨u, q, hg⟩ := hg.ex
  obtain ⟨v, r, hb⟩ := hb.ex
  exact ⟨_, ps_for hp hc p q r hs, SSok.for hi hg hb⟩
end
end FL

set_option maxHeartbeats 2000000
/-! FLH: a def's promise by its body; calls; built-ins. -/
namespace FL
open PySem L2 Classical

/-! ### a def -/
def runF (N n : Nat) (pr : List Nat) (b : SS) : FS := fun ms => match b (ms.map some ++ List.replicate (N - n) none) with
  | .ok (.ret m, e) => .ok (m, (killAll pr e).take n)
  | .ok (.nx, e) => .ok (.d .non, (killAll pr e).take n)
  | .exc x e => .exc x ((killAll pr e).take n)
  | _ => .bad
abbrev Pn (n : Nat) (pr : List Nat) : Px := fun i => i < n ∧ i ∉ pr
theorem killAll_len : ∀ (ds : List Nat) (env : Env), (killAll ds env).length = env.length
  | [], _ => rfl
  | d :: ds, env => by
    show (killAll ds (env.set d none)).length = env.length
    rw [killAll_len ds, List.length_set]
theorem killAll_get : ∀ (ds : List Nat) (env : Env) (i : Nat) (m : M), (killAll ds env)[i]? = some (some m) → i ∉ ds
  | [], _, _, _, _ => by simp
  | d :: ds, env, i, m, h => by
    have h' : (killAll ds (env.set d none))[i]? = some (some m) := h
    have h1 := killAll_get ds _ i m h'
    have keep : ∀ (ds : List Nat) (env : Env), (killAll ds env)[i]? = some (some m) → env[i]? = some (some m) := by
      intro ds
      induction ds with
      | nil => intro env h; exact h
      | cons d ds ih =>
        intro env h
        have h2 := ih (env.set d none) h
        by_cases e : d = i
        · subst e
          by_cases hl : d < env.length
          · rw [List.getElem?_set_self hl] at h2; cases h2
          · rw [List.getElem?_eq_none (by rw [List.length_set]; omega)] at h2; cases h2
        · rwa [List.getElem?_set_ne e] at h2
    have h2 := keep ds _ h'
    have : i ≠ d := by
      intro e
      subst e
      by_cases hl : i < env.length
      · rw [List.getElem?_set_self hl] at h2; cases h2
      · rw [List.getElem?_eq_none (by rw [List.length_set]; omega)] at h2; cases h2
    simp [this, h1]
theorem Good.params {G : Gx} {Z H : Hp} {σ σ0 : St} {env : Env} {S : Rs} {n : Nat} {pr : List Nat} (g : Good G Z H σ env S) (fx : Fix (Pn n pr) σ0 σ) :
    ∃ S', Good G Z H (σ0.take n) ((killAll pr env).take n) S' ∧ ∀ a, U S' a → U S a := by
  obtain ⟨S', g', h'⟩ := killAll_good pr g
  refine ⟨S', ⟨g'.zh, fun i m e => ?_, g'.dj, g'.al, g'.zf, ?_⟩, h'⟩
  · have hi : i < n := by
      have := (List.getElem?_eq_some_iff.mp e).1
      rw [List.length_take] at this
      omega
    rw [List.getElem?_take_of_lt hi] at e ⊢
    have hp := killAll_get pr env i m e
    obtain ⟨v, hv, r⟩ := g'.rep i m e
    exact ⟨v, by rw [← fx.1 i ⟨hi, hp⟩]; exact hv, r⟩
  · rw [List.length_take, List.length_take, g'.len, fx.2]
section
variable {P : Program} {w : World} {mg : Str → Option Value} {base : Heap} {G : Gx}
theorem fn_ok {x qual : Str} {st : Stmt} {f : Addr} {fd : FuncData} {N ps : List Str} {k n : Nat} (pr : List Nat) {b : SS} (F : Fun G.K x qual st f fd) (S : FnScope N ps (defScope st)) (hn : ps.length = n)
    (hbody : ∀ (cdv : Value) (A : Around) (outer : List PySem.Env) (s : Shared) (H : Hp) (E : XK), Room k (cxOf (L2.CX P w) P w G.K mg base N qual (defScope st) f cdv A outer s H E).A →
      Takes (cxOf (L2.CX P w) P w G.K mg base N qual (defScope st) f cdv A outer s H E) (fun cls d _ H => E cls d H) →
      PassesOwn (model P w) (cxOf (L2.CX P w) P w G.K mg base N qual (defScope st) f cdv A outer s H E).A (cxOf (L2.CX P w) P w G.K mg base N qual (defScope st) f cdv A outer s H E).env (cxOf (L2.CX P w) P w G.K mg base N qual (defScope st) f cdv A outer s H E).xe →
      PSs' G (cxOf (L2.CX P w) P w G.K mg base N qual (defScope st) f cdv A outer s H E) (fun cls d _ H => E cls d H) (Pn n pr) (defBody st) b) :
    FnOk P w G.K mg base (L2.CX P w) (k + 1) f fd ps (spF G n (runF N.length n pr b)) := by
  refine F.okX S (fun vs H Q E h => by rw [h.1, hn]) (fun cdv A outer s H vs Q E hr h => ?_)
  obtain ⟨t, p, hb⟩ := (hbody cdv A outer s H E hr (takes_of rfl rfl rfl rfl) (passes_of rfl)).ex
  refine ⟨t, p, ?_⟩
  obtain ⟨hl, Z, ms, T, g, q⟩ := h
  have hms : ms.length = n := by have := g.len; simpa [hl] using this
  have hNn : n ≤ N.length := by have := congrArg List.length S.pre; rw [List.length_take, hn] at this; omega
  have g0 : Good G Z H (L2.start N vs) (ms.map some ++ List.replicate (N.length - n) none) T := by
    refine ⟨g.zh, fun i m e => ?_, g.dj, g.al, g.zf, ?_⟩
    · have hi : i < n := by
        by_cases hi : i < n
        · exact hi
        · rw [List.getElem?_append_right (by simpa [hms] using hi)] at e
          rw [List.getElem?_replicate] at e
          split at e <;> cases e
      rw [List.getElem?_append_left (by simpa [hms] using hi)] at e
      obtain ⟨v, hv, r⟩ := g.rep i m e
      refine ⟨v, ?_, r⟩
      unfold L2.start
      rw [List.getElem?_append_left (by simpa [hl] using hi)]
      exact hv
    · unfold L2.start
      simp [hl, hms]
  have t0 : (L2.start N vs).take n = vs.map some := by
    unfold L2.start
    rw [List.take_append_of_le_length (by simp [hl]), List.take_of_length_le (by simp [hl])]
  have l0 : (L2.start N vs).length = N.length := by
    unfold L2.start
    simp [hl]
    omega
  have sigLen : ∀ {σ' : St} {e : Env} {Z' H' S'}, Good G Z' H' σ' e S' → e.length = σ'.length := fun g => g.len
  refine hb _ Z H _ _ T g0 ?_
  unfold runF at q
  have le0 : (ms.map some ++ List.replicate (N.length - n) (none : Option M)).length = N.length := by simp [hms]; omega
  cases e : b (ms.map some ++ List.replicate (N.length - n) none) with
  | bad => rw [e] at q; exact q.elim
  | exc x e' =>
    rw [e] at q
    intro cls d σ' Z' H' S' hx fx s' g'
    obtain ⟨S2, g2, u2⟩ := g'.params fx
    rw [t0] at g2
    exact q cls d Z' H' S2 hx (s'.weak u2) g2
  | ok r =>
    obtain ⟨fl, e'⟩ := r
    rw [e] at q
    cases fl with
    | nx =>
      intro σ' Z' H' S' fx s' g'
      obtain ⟨S2, g2, u2⟩ := g'.params fx
      rw [t0] at g2
      exact q .non Z' H' S2 (fun _ => False) (s'.weak fun a z => z.elim (u2 a) fun z => z.elim) g2 (Hld.data (by simp [RepD]))
    | ret m =>
      intro v σ' Z' H' S' T' fx s' g' h
      obtain ⟨S2, g2, u2⟩ := g'.params fx
      rw [t0] at g2
      exact q v Z' H' S2 T' (s'.weak fun a z => z.elim (fun z => .inl (u2 a z)) .inr) g2 ⟨h.rep, h.al, h.zf, fun a z w => h.dj a z (u2 a w)⟩
    | brk => exact q.elim
    | ct => exact q.elim
end
end FL

set_option maxHeartbeats 2000000
/-! FLI: what is walked; comprehensions. -/
namespace FL
open PySem L2 Classical

theorem PI.or {X : Cx} {tg e : Expr} {t u : TI} (h : PI X tg e t) (h' : PI X tg e u) : PI X tg e (fun σ H R => t σ H R ∨ u σ H R) := ⟨fun pins s σ H R I q => q.elim (h.run pins s σ H R I) (h'.run pins s σ H R I)⟩
/-- the items of a list, a tuple, a text -/
def itemsD : D → Option (List D)
  | .lst xs => some xs
  | .scr xs => some xs
  | .tup xs => some xs
  | .str z => some (z.cps.toList.map fun c => .str ⟨#[c]⟩)
  | _ => none
def siQ (f : SE) : SI := fun env => match f env with
  | .ok (m, e) => match itemsD (fz m) with
    | some xs => .ok (xs, e)
    | none => .bad
  | .exc x e => .exc x e
  | .bad => .bad
section
variable {G : Gx} {X : Cx} {W : WX'} {f : SE} {e tg : Expr} {te : TE}
theorem yields_list {Z : Hp} {a : Addr} {vs : List V} {xs : List D} (q : ∀ Z1 H1, Same Z Z1 → Same Z1 H1 → SqL G.K H1 a vs) (r : RepDs G Z xs vs) : Yields G (fun Z1 _ _ => Same Z Z1) (Itl G.K a) xs where
  stay := fun Z1 H1 R Z2 H2 R2 h s => h.trans s.z
  stop := fun Z1 H1 R i h zh hl => ⟨vs, q Z1 H1 h zh, by rw [← r.len]; exact hl⟩
  item := fun Z1 H1 R i d h zh e => by
    obtain ⟨v, hv, rv⟩ := r.get e
    refine ⟨⟨vs, v, q Z1 H1 h zh, hv⟩, fun x H' hy => ?_⟩
    obtain ⟨rfl, hx⟩ := hy
    have := hx vs (q Z1 _ h zh)
    rw [hv] at this; cases this
    exact ⟨Z1, Stp.refl zh, RepD.mono h _ _ rv⟩
theorem yields_tup {Z : Hp} {a : Addr} {vs : List V} {xs : List D} (q : ∀ Z1 H1, Same Z Z1 → Same Z1 H1 → SqT G.K H1 a vs) (r : RepDs G Z xs vs) : Yields G (fun Z1 _ _ => Same Z Z1) (Itt G.K a) xs where
  stay := fun Z1 H1 R Z2 H2 R2 h s => h.trans s.z
  stop := fun Z1 H1 R i h zh hl => ⟨vs, q Z1 H1 h zh, by rw [← r.len]; exact hl⟩
  item := fun Z1 H1 R i d h zh e => by
    obtain ⟨v, hv, rv⟩ := r.get e
    refine ⟨⟨vs, v, q Z1 H1 h zh, hv⟩, fun x H' hy => ?_⟩
    obtain ⟨rfl, hx⟩ := hy
    have := hx vs (q Z1 _ h zh)
    rw [hv] at this; cases this
    exact ⟨Z1, Stp.refl zh, RepD.mono h _ _ rv⟩
theorem yields_str {Z : Hp} (z : Str) : Yields G (fun Z1 _ _ => Same Z Z1) (Its z) (z.cps.toList.map fun c => .str ⟨#[c]⟩) where
  stay := fun Z1 H1 R Z2 H2 R2 h s => h.trans s.z
  stop := fun Z1 H1 R i h zh hl => by
    show z.cps.size ≤ i
    simpa using hl
  item := fun Z1 H1 R i d h zh e => by
    rw [List.getElem?_map] at e
    cases ec : z.cps.toList[i]? with
    | none => rw [ec] at e; cases e
    | some c =>
      rw [ec] at e; cases e
      have hi : i < z.cps.size := by have := (List.getElem?_eq_some_iff.mp ec).1; simpa using this
      refine ⟨hi, fun x H' hy => ?_⟩
      obtain ⟨rfl, c', hc, rfl⟩ := hy
      have : c' = c := by
        have e1 : z.cps.toList[i]? = z.cps[i]? := by simp
        rw [e1, hc] at ec; cases ec; rfl
      subst this
      exact ⟨Z1, Stp.refl zh, by simp [RepD]⟩
theorem yields_range {Z : Hp} (lo : Int) (n : Nat) : Yields G (fun Z1 _ _ => Same Z Z1) (Itr lo n) ((List.range n).map fun (i : Nat) => .int (lo + (i : Int))) where
  stay := fun Z1 H1 R Z2 H2 R2 h s => h.trans s.z
  stop := fun Z1 H1 R i h zh hl => by
    show n ≤ i
    simpa using hl
  item := fun Z1 H1 R i d h zh e => by
    rw [List.getElem?_map] at e
    by_cases hi : i < n
    · rw [List.getElem?_range hi] at e
      cases e
      refine ⟨hi, fun x H' hy => ?_⟩
      obtain ⟨rfl, rfl⟩ := hy
      exact ⟨Z1, Stp.refl zh, by simp [RepD]⟩
    · rw [List.getElem?_eq_none (by simpa using hi)] at e; cases e
theorem TIok.q (h : SEok G W te f) : TIok G W (fun σ H R => iList G.K te σ H R ∨ (iTup G.K te σ H R ∨ iStr te σ H R)) (siQ f) := fun Z H σ env S R gd => by
  unfold siQ
  have h1 := fun Q => h Z H σ env S Q gd
  cases e1 : f env with
  | bad => trivial
  | exc x e2 =>
    simp only [e1] at h1
    exact fun q => .inl (h1 _ q)
  | ok r =>
    obtain ⟨m, env1⟩ := r
    simp only [e1] at h1
    simp only
    cases em : fz m with
    | lst xs =>
      simp only [itemsD]
      intro q
      refine .inl (h1 _ fun v Z' H' S' T s' g' l => ?_)
      obtain ⟨rz, sz⟩ := l.frozen g'.zh
      rw [em] at rz
      simp only [RepD] at rz
      obtain ⟨a, vs, rfl, hz, rr⟩ := rz
      have sT : Stp Z' H' T (Fzp Z' H' T) H' T := ⟨sz.z, sz.zh, fun _ _ e _ => e, fun _ z => .inl z, fun a z => by
        by_cases ta : T a
        · exact .inr (.inl ta)
        · rw [frz_out ta] at z; exact .inl z⟩
      have g2 := (g'.move sT fun a z w => l.dj a w z).1
      refine ⟨a, rfl, ⟨vs, SqL.of (sz.zh _ _ hz)⟩, q _ _ _ S' (s'.trans (sz.weak fun _ z => z)) g2 (yields_list (fun Z1 H1 h1 h2 => SqL.of (h2 _ _ (h1 _ _ hz))) rr)⟩
    | scr xs =>
      simp only [itemsD]
      intro q
      refine .inl (h1 _ fun v Z' H' S' T s' g' l => ?_)
      obtain ⟨rz, sz⟩ := l.frozen g'.zh
      rw [em] at rz
      simp only [RepD] at rz
      obtain ⟨a, vs, rfl, hz, rr⟩ := rz
      have sT : Stp Z' H' T (Fzp Z' H' T) H' T := ⟨sz.z, sz.zh, fun _ _ e _ => e, fun _ z => .inl z, fun a z => by
        by_cases ta : T a
        · exact .inr (.inl ta)
        · rw [frz_out ta] at z; exact .inl z⟩
      have g2 := (g'.move sT fun a z w => l.dj a w z).1
      refine ⟨a, rfl, ⟨vs, sz.zh.seq hz⟩, q _ _ _ S' (s'.trans (sz.weak fun _ z => z)) g2 (yields_list (fun Z1 H1 h1 h2 => h2.seq (h1.seq hz)) rr)⟩
    | tup xs =>
      simp only [itemsD]
      intro q
      refine .inr (.inl (h1 _ fun v Z' H' S' T s' g' l => ?_))
      obtain ⟨rz, sz⟩ := l.frozen g'.zh
      rw [em] at rz
      simp only [RepD] at rz
      obtain ⟨a, vs, rfl, hz, rr⟩ := rz
      have sT : Stp Z' H' T (Fzp Z' H' T) H' T := ⟨sz.z, sz.zh, fun _ _ e _ => e, fun _ z => .inl z, fun a z => by
        by_cases ta : T a
        · exact .inr (.inl ta)
        · rw [frz_out ta] at z; exact .inl z⟩
      have g2 := (g'.move sT fun a z w => l.dj a w z).1
      refine ⟨a, rfl, ⟨vs, Same.seqT sz.zh hz⟩, q _ _ _ S' (s'.trans (sz.weak fun _ z => z)) g2 (yields_tup (fun Z1 H1 h1 h2 => Same.seqT h2 (Same.seqT h1 hz)) rr)⟩
    | str z =>
      simp only [itemsD]
      intro q
      refine .inr (.inr (h1 _ fun v Z' H' S' T s' g' l => ?_))
      have rz := (l.frozen g'.zh).1
      rw [em] at rz
      simp only [RepD] at rz
      subst rz
      exact ⟨z, rfl, q _ _ _ S' (s'.weak fun _ z => .inl z) g' (yields_str z)⟩
    | _ => trivial
theorem xi_q (hK : G.K = X.K) (h : PEs G X W e f) : PIs G X W tg e (siQ f) := by
  obtain ⟨t, p, h⟩ := h.ex
  have h1 : PI X tg e (iList G.K t) := by rw [hK]; exact pi_list p
  have h2 : PI X tg e (iTup G.K t) := by rw [hK]; exact pi_tup p
  exact ⟨_, PI.or h1 (PI.or h2 (pi_str p)), TIok.q h⟩
/-- range -/
abbrev C62 (i : Int) : Prop := -(2 ^ 62) ≤ i ∧ i < 2 ^ 62
def siR1 (fs : SA) : SI := fun env => match fs env with
  | .ok ([.d (.int j)], e) => if C62 j then .ok ((List.range j.toNat).map fun (i : Nat) => .int (0 + (i : Int)), e) else .bad
  | .exc x e => .exc x e
  | _ => .bad
def siR2 (fs : SA) : SI := fun env => match fs env with
  | .ok ([.d (.int i), .d (.int j)], e) => if C62 i ∧ C62 j then .ok ((List.range (j - i).toNat).map fun (k : Nat) => .int (i + (k : Int)), e) else .bad
  | .exc x e => .exc x e
  | _ => .bad
theorem row1 {Z H : Hp} {m : M} {vs : List V} {T : Rs} (g : Good G Z H (vs.map some) ([m].map some) T) : ∃ v, vs = [v] ∧ RepM G Z H m (T 0) v := by
  have hl := g.len
  match vs, hl with
  | [v], _ =>
    obtain ⟨w, hw, h⟩ := g.head
    cases hw
    exact ⟨v, rfl, h.rep⟩
theorem row2 {Z H : Hp} {m m' : M} {vs : List V} {T : Rs} (g : Good G Z H (vs.map some) ([m, m'].map some) T) : ∃ v w, vs = [v, w] ∧ RepM G Z H m (T 0) v ∧ RepM G Z H m' (T 1) w := by
  have hl := g.len
  match vs, hl with
  | [v, w], _ =>
    obtain ⟨v', hv, h⟩ := g.head
    cases hv
    obtain ⟨w', hw, h'⟩ := g.tail.head
    cases hw
    exact ⟨v, w, rfl, h.rep, h'.rep⟩
theorem xi_range1 {a : Expr} {fs : SA} {bk : Bk} {p pos : Pos} (hm : X.mg "range" = none) (ha : PAs' G X W [a] bk fs) (hg : Gl X "range" := by rfl) (hs : starEach [a] X.env = [(false, eval a X.env)] := by rfl) : PIs G X W tg (.Call (.Name "range" p) [a] [] pos) (siR1 fs) := by
  obtain ⟨t, q, h⟩ := ha.ex
  refine ⟨_, pi_range1 hg hm q hs, fun Z H σ env S R gd => ?_⟩
  unfold siR1
  have h1 := h Z H σ env S (fun vs H1 => ∃ j : Int, vs = [.int j] ∧ -(2 ^ 62) ≤ j ∧ j < 2 ^ 62 ∧ R (Itr 0 j.toNat) H1) gd
  split
  · rename_i e2
    intro k
    split at e2
    · rename_i j e3 e1
      split at e2
      · rename_i c
        cases e2
        rw [e1] at h1
        refine h1 fun vs Z' H' S' T s' g' row d kk => ?_
        obtain ⟨v, rfl, r⟩ := row1 row
        rw [rep_int r]
        exact ⟨j, rfl, c.1, c.2, k _ Z' H' S' (s'.weak fun _ z => .inl z) g' (yields_range 0 j.toNat)⟩
      · cases e2
    · cases e2
    · cases e2
  · rename_i x e2 e
    split at e
    · split at e <;> cases e
    · rename_i e1
      cases e
      rw [e1] at h1
      exact h1
    · cases e
  · trivial
theorem xi_range2 {a b : Expr} {fs : SA} {bk : Bk} {p pos : Pos} (hm : X.mg "range" = none) (ha : PAs' G X W [a, b] bk fs) (hg : Gl X "range" := by rfl) (hs : starEach [a, b] X.env = [(false, eval a X.env), (false, eval b X.env)] := by rfl) (hs2 : starEach [b] X.env = [(false, eval b X.env)] := by rfl) : PIs G X W tg (.Call (.Name "range" p) [a, b] [] pos) (siR2 fs) := by
  obtain ⟨t, q, h⟩ := ha.ex
  refine ⟨_, pi_range2 hg hm q hs hs2, fun Z H σ env S R gd => ?_⟩
  unfold siR2
  have h1 := h Z H σ env S (fun vs H1 => ∃ i j : Int, vs = [.int i, .int j] ∧ (-(2 ^ 62) ≤ i ∧ i < 2 ^ 62 ∧ -(2 ^ 62) ≤ j ∧ j < 2 ^ 62) ∧ R (Itr i (j - i).toNat) H1) gd
  split
  · rename_i e2
    intro k
    split at e2
    · rename_i i j e3 e1
      split at e2
      · rename_i c
        cases e2
        rw [e1] at h1
        refine h1 fun vs Z' H' S' T s' g' row d kk => ?_
        obtain ⟨v, w, rfl, r, r'⟩ := row2 row
        rw [rep_int r, rep_int r']
        exact ⟨i, j, rfl, ⟨c.1.1, c.1.2, c.2.1, c.2.2⟩, k _ Z' H' S' (s'.weak fun _ z => .inl z) g' (yields_range i (j - i).toNat)⟩
      · cases e2
    · cases e2
    · cases e2
  · rename_i x e2 e
    split at e
    · split at e <;> cases e
    · rename_i e1
      cases e
      rw [e1] at h1
      exact h1
    · cases e
  · trivial
end

/-! ### comprehensions -/
theorem wipe_get {σ : St} {i : Nat} : ∀ {vs : List Nat}, i ∉ vs → (wipe σ vs)[i]? = σ[i]?
  | [], _ => rfl
  | v :: vs, h => by
    unfold wipe
    rw [List.getElem?_set_ne (fun e => h (by simp [e])), wipe_get (fun z => h (List.mem_cons_of_mem _ z))]
theorem wipe_in {σ : St} {i : Nat} : ∀ {vs : List Nat}, i ∈ vs → i < σ.length → (wipe σ vs)[i]? = some none
  | v :: vs, h, hl => by
    unfold wipe
    by_cases e : v = i
    · subst e; rw [List.getElem?_set_self (by rw [wipe_length]; exact hl)]
    · rw [List.getElem?_set_ne e]
      exact wipe_in ((List.mem_cons.mp h).resolve_left (Ne.symm e)) hl
theorem wipe_fix {σ σ2 : St} {vs : List Nat} (fx : Fix (fun i => i ∉ vs) (wipe σ vs) σ2) : wipe σ2 vs = wipe σ vs := by
  have hl : σ2.length = σ.length := by rw [fx.2, wipe_length]
  apply List.ext_getElem?
  intro i
  by_cases h : i ∈ vs
  · by_cases hi : i < σ.length
    · rw [wipe_in h hi, wipe_in h (by rw [hl]; exact hi)]
    · rw [List.getElem?_eq_none (by rw [wipe_length, hl]; omega), List.getElem?_eq_none (by rw [wipe_length]; omega)]
  · rw [wipe_get h, fx.1 i h]
section
variable {G : Gx} {Z H : Hp} {σ σ2 : St} {env : Env} {S : Rs} {vs : List Nat}
theorem Good.unwipe (g : Good G Z H (wipe σ vs) env S) : Good G Z H σ env S :=
  ⟨g.zh, fun i m e => by obtain ⟨v, hv, r⟩ := g.rep i m e; exact ⟨v, (wipe_some hv).1, r⟩, g.dj, g.al, g.zf, by rw [g.len, wipe_length]⟩
theorem Good.wipe (g : Good G Z H σ env S) (vs : List Nat) : ∃ S', Good G Z H (L2.wipe σ vs) (killAll vs env) S' ∧ ∀ a, U S' a → U S a := by
  obtain ⟨S', g', h'⟩ := killAll_good vs g
  exact ⟨S', ⟨g'.zh, fun i m e => by
    obtain ⟨v, hv, r⟩ := g'.rep i m e
    exact ⟨v, by rw [wipe_get (killAll_get vs env i m e)]; exact hv, r⟩, g'.dj, g'.al, g'.zf, by rw [g'.len, wipe_length]⟩, h'⟩
end
def GSem (G : Gx) (P : Px) (f : SG) : TG := fun v σ H Q => ∃ Z env S m T, Good G Z H σ env S ∧ Hld G Z H (U S) m T v ∧ match f m env with
  | .ok env' => ∀ σ' S', Fix P σ σ' → Good G Z H σ' env' S' → (∀ a, U S' a → U S a ∨ T a) → Q σ' H
  | _ => False
theorem PGs'.sem {G : Gx} {X : Cx} {P : Px} {tg : Expr} {f : SG} (h : PGs' G X P tg f) : PG X tg (GSem G P f) := by
  obtain ⟨g, p, h⟩ := h.ex
  refine ⟨fun pins s σ H v u Q I r q => p.run pins s σ H v u Q I r ?_⟩
  obtain ⟨Z, env, S, m, T, gd, l, q⟩ := q
  have h1 := h Z H σ env S m T v Q gd l
  cases e : f m env with
  | ok e' => rw [e] at h1 q; exact h1 q
  | exc _ _ => rw [e] at q; exact q.elim
  | bad => rw [e] at q; exact q.elim
theorem GSem.ok {G : Gx} {P : Px} {f : SG} : SGok G P (GSem G P f) f := fun Z H σ env S m T v Q gd l => by
  cases e : f m env with
  | ok e' => intro q; exact ⟨Z, env, S, m, T, gd, l, by rw [e]; exact q⟩
  | _ => trivial
/-- the turns of a comprehension: the slots own are the comprehension's -/
def lcl (own : List Nat) (g : SG) (c : SB) (f : SE) : List D → List M → Env → Res (List M × Env)
  | [], acc, env => .ok (acc, env)
  | x :: xs, acc, env => match g (.d x) env with
    | .ok e1 => match c e1 with
      | .ok (true, e2) => match f e2 with
        | .ok (m, e3) => lcl own g c f xs (acc ++ [m]) (killAll own e3)
        | _ => .bad
      | .ok (false, e2) => lcl own g c f xs acc (killAll own e2)
      | _ => .bad
    | _ => .bad
def sLc (own : List Nat) (fi : SI) (g : SG) (c : SB) (f : SE) : SE := fun env => match fi env with
  | .ok (xs, e) => if xs.length ≤ sizeLine then (match lcl own g c f xs [] (killAll own e) with
    | .ok (ms, e2) => .ok (.lst ms, e2)
    | _ => .bad) else .bad
  | .exc x e => .exc x e
  | .bad => .bad
def sbYes : SB := fun env => .ok (true, env)
abbrev W0 : WX' := fun _ _ _ _ => False
section
variable {G : Gx} {X : Cx} {W : WX'} {fi : SI} {g : SG} {c : SB} {f : SE} {ti : TI} {own : List Nat}
theorem SEok.lc {tg : TG} {tt : TT} {te : TE} (hi : TIok G W ti fi) (hg : SGok G (fun i => i ∉ own) tg g) (hc : SBok G W0 tt c) (he : SEok G W0 te f) : SEok G W (tLc ti tg tt te own) (sLc own fi g c f) := fun Z H σ env S Q gd => by
  unfold sLc
  have h1 := fun R => hi Z H σ env S R gd
  cases e1 : fi env with
  | bad => trivial
  | exc x e2 => simp only [e1] at h1; exact fun q => h1 _ q
  | ok r =>
    obtain ⟨xs, env1⟩ := r
    simp only [e1] at h1
    simp only
    by_cases hl : xs.length ≤ sizeLine
    case neg => rw [if_neg hl]; trivial
    rw [if_pos hl]
    cases e2 : lcl own g c f xs [] (killAll own env1) with
    | exc _ _ => trivial
    | bad => trivial
    | ok r2 =>
      obtain ⟨ms, env2⟩ := r2
      intro q
      refine h1 _ fun J Z1 H1 S1 s1 g1 hY D0 hD => ?_
      obtain ⟨S2, g2, u2⟩ := g1.wipe own
      have st0 := Stp.new (o := HO.lst []) g1.zh hD (U S2)
      have gS := (g2.move (Stp.new (o := HO.lst []) g1.zh hD (fun _ => False)) fun _ _ z => z)
      have hl0 : Hld G Z1 (upd H1 D0 (.lst [])) (U S2) (.lst []) (fun a => False ∨ a = D0) (.ref D0) :=
        lst_new (ms := []) (vs := []) (T := fun _ => False) g1.zh (by simp [RepMs]) (fun _ z => z.elim) (fun _ z => z.elim) (fun _ z => z.elim) hD (fun z => g2.al' _ z hD)
      -- the word: behind i turns what is made so far is in the hand, the rest of the turns ends in ms
      refine ⟨fun i m H' => m = xs.length - i ∧ i ≤ xs.length ∧ ∃ acc e' Z' S' T, Same Z1 Z' ∧ Good G Z' H' (wipe σ own) e' S' ∧ Hld G Z' H' (U S') (.lst acc) T (.ref D0) ∧ acc.length ≤ i ∧
          Stp Z H (U S) Z' H' (fun a => U S' a ∨ T a) ∧ lcl own g c f (xs.drop i) acc e' = .ok (ms, env2),
        ⟨xs.length, by simp, Nat.zero_le _, [], _, Z1, S2, _, Same.refl _, gS.1, hl0, by simp, ?_, by simpa using e2⟩, ?_⟩
      · refine (s1.trans (Stp.new (o := HO.lst []) g1.zh hD (U S1))).weak fun a z => ?_
        rcases z with z | z | z
        · exact .inl (u2 a z)
        · exact z.elim
        · exact .inr z
      · rintro i m H2 ⟨rfl, hi', acc, e', Z2, S3, T, hZ, g3, l3, hacc, s3, e3⟩
        by_cases hlt : i < xs.length
        case neg =>
          have e : i = xs.length := by omega
          refine .inl ⟨hY.stop Z2 H2 (U S3) i hZ g3.zh (by omega), ?_⟩
          rw [e, List.drop_length] at e3
          unfold lcl at e3
          cases e3
          exact q _ Z2 H2 S3 T s3 g3.unwipe l3
        refine .inr ?_
        obtain ⟨go, yl⟩ := hY.item Z2 H2 (U S3) i xs[i] hZ g3.zh (List.getElem?_eq_getElem hlt)
        rw [List.drop_eq_getElem_cons hlt] at e3
        unfold lcl at e3
        refine ⟨go, fun H' => ∃ acc e' Z' S' T, Same Z1 Z' ∧ Good G Z' H' (wipe σ own) e' S' ∧ Hld G Z' H' (U S') (.lst acc) T (.ref D0) ∧ acc.length ≤ i + 1 ∧
          Stp Z H (U S) Z' H' (fun a => U S' a ∨ T a) ∧ lcl own g c f (xs.drop (i + 1)) acc e' = .ok (ms, env2), fun H' h => ⟨xs.length - (i + 1), by omega, rfl, hlt, h⟩, fun x H3 hy => ?_⟩
        obtain ⟨Z3, s4, rx⟩ := yl x H3 hy
        have g4 := (g3.move s4 fun _ _ z => z).1
        have l4 := l3.step ((s4.frame (U S3)).from fun a z => z.elim (fun z => z.elim) id)
        have s4' : Stp Z H (U S) Z3 H3 (fun a => U S3 a ∨ T a) := (s3.trans ((s4.frame (fun a => U S3 a ∨ T a)).from fun a z => z.elim (fun z => z.elim) id)).weak fun a z => .inr z
        have l4' : Hld G Z3 H3 (U S3) (.lst acc) T (.ref D0) := ⟨l4.rep, l4.al, l4.zf, l3.dj⟩
        cases eg : g (.d xs[i]) e' with
        | exc _ _ => rw [eg] at e3; cases e3
        | bad => rw [eg] at e3; cases e3
        | ok e4 =>
          rw [eg] at e3
          simp only at e3
          have hh := fun Q => hg Z3 H3 (wipe σ own) e' S3 (.d xs[i]) (fun _ => False) x Q g4 (Hld.data rx)
          simp only [eg] at hh
          refine hh _ fun σ5 S5 fx5 g5 u5 => ⟨wipe_fix fx5, ?_⟩
          have u5' : ∀ a, U S5 a → U S3 a := fun a z => (u5 a z).elim id fun z => z.elim
          have l5 : Hld G Z3 H3 (U S5) (.lst acc) T (.ref D0) := ⟨l4'.rep, l4'.al, l4'.zf, fun a z w => l4'.dj a z (u5' a w)⟩
          have s5 : Stp Z H (U S) Z3 H3 (fun a => U S5 a ∨ T a) := s4'.weak fun a z => z.elim (fun z => .inl (u5' a z)) .inr
          have hc1 := fun Q => hc Z3 H3 σ5 e4 S5 Q g5
          cases ec : c e4 with
          | exc _ _ => rw [ec] at e3; cases e3
          | bad => rw [ec] at e3; cases e3
          | ok rc =>
            obtain ⟨k, e5⟩ := rc
            rw [ec] at e3
            simp only [ec] at hc1
            refine hc1 _ fun Z6 H6 S6 s6 g6 => ?_
            have l6 := l5.step s6
            have s6' : Stp Z H (U S) Z6 H6 (fun a => U S6 a ∨ T a) := s5.trans (s6.frame T)
            have z6 : Same Z1 Z6 := (hZ.trans s4.z).trans s6.z
            cases k with
            | false =>
              simp only at e3
              rw [if_neg Bool.false_ne_true]
              obtain ⟨S7, g7, u7⟩ := g6.wipe own
              rw [wipe_fix fx5] at g7
              exact ⟨acc, _, Z6, S7, T, z6, g7, ⟨l6.rep, l6.al, l6.zf, fun a z w => l6.dj a z (u7 a w)⟩, by omega, s6'.weak fun a z => z.elim (fun z => .inl (u7 a z)) .inr, e3⟩
            | true =>
              simp only at e3
              rw [if_pos rfl]
              have he1 := fun Q => he Z6 H6 σ5 e5 S6 Q g6
              cases ee : f e5 with
              | exc _ _ => rw [ee] at e3; cases e3
              | bad => rw [ee] at e3; cases e3
              | ok re =>
                obtain ⟨m, e6⟩ := re
                rw [ee] at e3
                simp only [ee] at he1
                simp only at e3
                refine he1 _ fun y Z7 H7 S7 Ty s7 g7 ly => ?_
                have l7 := l6.step s7
                have rep7 := l7.rep
                simp only [RepM] at rep7
                obtain ⟨a0, vs0, T0, ea, sa, ta, ts, ho, rr⟩ := rep7
                cases ea
                have hlen : vs0.length = acc.length := rr.len.symm
                refine ⟨vs0, ho, by rw [hlen]; omega, ?_⟩
                have tyD : ¬ Ty D0 := fun z => l7.dj D0 sa (.inr z)
                have dT : ∀ a, T a → ¬ Ty a := fun a z w => l7.dj a z (.inr w)
                have upz : Same Z7 (upd H7 D0 (.lst (vs0 ++ [y]))) := fun a u e => by
                  have ne : a ≠ D0 := fun z => by rw [z, l7.zf D0 sa] at e; cases e
                  rw [upd_ne ne]; exact g7.zh a u e
                have stU : Stp Z7 H7 (fun a => a = D0) Z7 (upd H7 D0 (.lst (vs0 ++ [y]))) (fun a => a = D0) := ⟨Same.refl _, upz, fun b u e h => by rw [upd_ne h]; exact e, fun a z => .inl z, fun a z => .inl z⟩
                obtain ⟨g8, _⟩ := g7.move stU fun a z w => l7.dj D0 sa (.inl (by rw [← w]; exact z))
                have ryy : RepMs G Z7 (upd H7 D0 (.lst (vs0 ++ [y]))) [m] Ty [y] := by
                  simp only [RepMs]
                  exact ⟨y, [], Ty, fun _ => False, rfl, fun _ z => z, fun _ z => z.elim, fun _ _ z => z, RepM.mono (Same.refl _) _ _ _ _ (fun _ z => z) (fun a o z e => by rw [upd_ne (fun w => tyD (by rw [← w]; exact z))]; exact e) ly.rep, rfl⟩
                have rr' : RepMs G Z7 (upd H7 D0 (.lst (vs0 ++ [y]))) acc T0 vs0 := RepMs.mono (Same.refl _) _ _ _ _ (fun _ z => z) (fun a o z e => by rw [upd_ne (fun w => ta (by rw [← w]; exact z))]; exact e) rr
                obtain ⟨S8, g9, u9⟩ := g8.wipe own
                rw [wipe_fix fx5] at g9
                refine ⟨acc ++ [m], _, Z7, S8, fun a => T a ∨ Ty a, z6.trans s7.z, g9, ⟨?_, fun a z => ?_, fun a z => z.elim (l7.zf a) (ly.zf a), fun a z w => ?_⟩, by rw [List.length_append]; simp; omega, ?_, e3⟩
                · simp only [RepM]
                  exact ⟨D0, vs0 ++ [y], fun a => T0 a ∨ Ty a, rfl, .inl sa, fun z => z.elim ta tyD, fun b z => z.elim (fun z => .inl (ts b z)) .inr, upd_same, RepMs.app rr' ryy (fun _ z => .inl z) (fun _ z => .inr z) (fun b z => dT b (ts b z))⟩
                · by_cases w : a = D0
                  · rw [w, upd_same]; exact fun z => nomatch z
                  · rw [upd_ne w]; exact z.elim (l7.al a) (ly.al a)
                · exact z.elim (fun z => l7.dj a z (.inl (u9 a w))) fun z => ly.dj a z (u9 a w)
                · have s7' : Stp Z H (U S) Z7 H7 (fun a => (U S7 a ∨ Ty a) ∨ T a) := s6'.trans (s7.frame T)
                  have st8 : Stp Z H (U S) Z7 (upd H7 D0 (.lst (vs0 ++ [y]))) (fun a => a = D0 ∨ ((U S7 a ∨ Ty a) ∨ T a)) := s7'.trans ((stU.frame (fun a => (U S7 a ∨ Ty a) ∨ T a)).from fun a z => z.elim (fun w => .inr (by rw [w]; exact sa)) id)
                  refine st8.weak fun a z => ?_
                  rcases z with z | z | z
                  · exact .inr (.inl (.inl (u9 a z)))
                  · exact .inr (.inr z)
                  · exact .inr (.inl (.inr z))
theorem sby_ok : SBok G W0 tYes sbYes := fun Z H σ env S Q gd => fun q => q Z H S (Stp.refl gd.zh) gd
theorem xe_lc {elt tg iter : Expr} {scope : Scope} {own : List (Str × Nat)} {pos : Pos} (hc : X.calm = true) (hN : X.N.Nodup) (ok : BlkOk X.N X.env.scope scope own) (hi : PIs G X W tg iter fi)
    (hg : ∀ (s : Shared) (H : Hp) (C : Addr) (cl : List (Str × Addr)) (fp : List Addr), PGs' G (X.blk s H scope (compEnvC scope cl C X.env) fp) (fun i => i ∉ own.map (·.2)) tg g)
    (he : ∀ (s : Shared) (H : Hp) (C : Addr) (cl : List (Str × Addr)) (fp : List Addr), PEs G (X.blk s H scope (compEnvC scope cl C X.env) fp) W0 elt f) (hs : ∀ x, foldedSetIterable iter X.env x = pure x := by intro _; rfl) :
    PEs G X W (.ListComp elt [⟨tg, iter, [], 0⟩] scope pos) (sLc (own.map (·.2)) fi g sbYes f) := by
  obtain ⟨ti, p, hi⟩ := hi.ex
  exact ⟨_, pe_lc hc hN p ok (fun s H C cl fp => (hg s H C cl fp).sem) (fun _ _ _ _ _ => pts_nil) (fun s H C cl fp => (he s H C cl fp).sem) hs, SEok.lc hi GSem.ok sby_ok ESem.ok⟩
theorem xe_lcIf {elt tg iter ce : Expr} {scope : Scope} {own : List (Str × Nat)} {pos : Pos} (hc : X.calm = true) (hN : X.N.Nodup) (ok : BlkOk X.N X.env.scope scope own) (hi : PIs G X W tg iter fi)
    (hg : ∀ (s : Shared) (H : Hp) (C : Addr) (cl : List (Str × Addr)) (fp : List Addr), PGs' G (X.blk s H scope (compEnvC scope cl C X.env) fp) (fun i => i ∉ own.map (·.2)) tg g)
    (ht : ∀ (s : Shared) (H : Hp) (C : Addr) (cl : List (Str × Addr)) (fp : List Addr), PBs G (X.blk s H scope (compEnvC scope cl C X.env) fp) W0 ce c)
    (he : ∀ (s : Shared) (H : Hp) (C : Addr) (cl : List (Str × Addr)) (fp : List Addr), PEs G (X.blk s H scope (compEnvC scope cl C X.env) fp) W0 elt f) (hs : ∀ x, foldedSetIterable iter X.env x = pure x := by intro _; rfl) :
    PEs G X W (.ListComp elt [⟨tg, iter, [ce], 0⟩] scope pos) (sLc (own.map (·.2)) fi g c f) := by
  obtain ⟨ti, p, hi⟩ := hi.ex
  exact ⟨_, pe_lc hc hN p ok (fun s H C cl fp => (hg s H C cl fp).sem) (fun s H C cl fp => pts_one (ht s H C cl fp).sem) (fun s H C cl fp => (he s H C cl fp).sem) hs, SEok.lc hi GSem.ok BSem.ok ESem.ok⟩
/-- y = [..] -/
theorem xs_setLc {P : Px} (i : Nat) {y : Str} {py : Pos} {elt tg iter : Expr} {scope : Scope} {own : List (Str × Nat)} {pos spos : Pos} (hc : X.calm = true) (hN : X.N.Nodup) (ok : BlkOk X.N X.env.scope scope own) (hi : PIs G X W tg iter fi)
    (hg : ∀ (s : Shared) (H : Hp) (C : Addr) (cl : List (Str × Addr)) (fp : List Addr), PGs' G (X.blk s H scope (compEnvC scope cl C X.env) fp) (fun i => i ∉ own.map (·.2)) tg g)
    (he : ∀ (s : Shared) (H : Hp) (C : Addr) (cl : List (Str × Addr)) (fp : List Addr), PEs G (X.blk s H scope (compEnvC scope cl C X.env) fp) W0 elt f)
    (hsw : swapsWith (.ListComp elt [⟨tg, iter, [], 0⟩] scope pos) (some (.Name y py)) spos.line X.env = pure true) (hP : ¬ P i := by decide) (hy : X.N[i]? = some y := by rfl) (hyl : X.env.scope.names.lookup y = some .local := by rfl) (hs : ∀ x, foldedSetIterable iter X.env x = pure x := by intro _; rfl) :
    PS' G X W P (.Assign [.Name y py] (.ListComp elt [⟨tg, iter, [], 0⟩] scope pos) spos) (ssSet i (sLc (own.map (·.2)) fi g sbYes f)) := by
  obtain ⟨ti, p, hi⟩ := hi.ex
  exact ⟨_, ps_setLc hc hN hy hyl hsw p ok (fun s H C cl fp => (hg s H C cl fp).sem) (fun _ _ _ _ _ => pts_nil) (fun s H C cl fp => (he s H C cl fp).sem) hs, SSok.set hP (SEok.lc hi GSem.ok sby_ok ESem.ok)⟩
theorem xs_setLcIf {P : Px} (i : Nat) {y : Str} {py : Pos} {elt tg iter ce : Expr} {scope : Scope} {own : List (Str × Nat)} {pos spos : Pos} (hc : X.calm = true) (hN : X.N.Nodup) (ok : BlkOk X.N X.env.scope scope own) (hi : PIs G X W tg iter fi)
    (hg : ∀ (s : Shared) (H : Hp) (C : Addr) (cl : List (Str × Addr)) (fp : List Addr), PGs' G (X.blk s H scope (compEnvC scope cl C X.env) fp) (fun i => i ∉ own.map (·.2)) tg g)
    (ht : ∀ (s : Shared) (H : Hp) (C : Addr) (cl : List (Str × Addr)) (fp : List Addr), PBs G (X.blk s H scope (compEnvC scope cl C X.env) fp) W0 ce c)
    (he : ∀ (s : Shared) (H : Hp) (C : Addr) (cl : List (Str × Addr)) (fp : List Addr), PEs G (X.blk s H scope (compEnvC scope cl C X.env) fp) W0 elt f)
    (hsw : swapsWith (.ListComp elt [⟨tg, iter, [ce], 0⟩] scope pos) (some (.Name y py)) spos.line X.env = pure true) (hP : ¬ P i := by decide) (hy : X.N[i]? = some y := by rfl) (hyl : X.env.scope.names.lookup y = some .local := by rfl) (hs : ∀ x, foldedSetIterable iter X.env x = pure x := by intro _; rfl) :
    PS' G X W P (.Assign [.Name y py] (.ListComp elt [⟨tg, iter, [ce], 0⟩] scope pos) spos) (ssSet i (sLc (own.map (·.2)) fi g c f)) := by
  obtain ⟨ti, p, hi⟩ := hi.ex
  exact ⟨_, ps_setLc hc hN hy hyl hsw p ok (fun s H C cl fp => (hg s H C cl fp).sem) (fun s H C cl fp => pts_one (ht s H C cl fp).sem) (fun s H C cl fp => (he s H C cl fp).sem) hs, SSok.set hP (SEok.lc hi GSem.ok BSem.ok ESem.ok)⟩
end
end FL

set_option maxHeartbeats 2000000
/-! FLJ: built-ins, slices, globals, calls of the program's defs, raise. -/
namespace FL
open PySem L2 Classical

/-! ### a built-in's answer that is plain -/
abbrev RepVs (G : Gx) (Z H : Hp) : List M → List V → Prop := Paired fun m v => ∃ T, RepM G Z H m T v
abbrev LOp := List M → Res D
def BOP (G : Gx) (r : List V → Hp → VK → Prop) (op : LOp) : Prop := ∀ (Z H : Hp) (ms : List M) (vs : List V) (Q : VK), Same Z H → RepVs G Z H ms vs →
  match op ms with
  | .ok x => (∀ u, RepD G Z x u → Q u H) → r vs H Q
  | _ => True
theorem RepMs.vs {G : Gx} {Z H : Hp} : ∀ {ms : List M} {T : Rg} {vs : List V}, RepMs G Z H ms T vs → RepVs G Z H ms vs
  | [], _, _, r => by simp only [RepMs] at r; subst r; exact .nil
  | m :: ms, _, _, r => by
    simp only [RepMs] at r
    obtain ⟨v, r', T1, T2, rfl, _, _, _, q, r⟩ := r
    exact .cons ⟨T1, q⟩ (RepMs.vs r)
abbrev VA := Env → Res (List M)
def VAok (G : Gx) (t : TA) (f : VA) : Prop := ∀ (Z H : Hp) (σ : St) (env : Env) (S : Rs) (Q : List V → Hp → Prop), Good G Z H σ env S →
  match f env with
  | .ok ms => (∀ vs, RepVs G Z H ms vs → Q vs H) → t σ H Q
  | _ => True
structure PVAs (G : Gx) (X : Cx) (es : List Expr) (f : VA) : Prop where
  ex : ∃ t, PA X es t ∧ VAok G t f
def vaNil : VA := fun _ => .ok []
def vaCons (g : VE) (f : VA) : VA := fun env => match g env, f env with
  | .ok m, .ok ms => .ok (m :: ms)
  | _, _ => .bad
def vB (op : LOp) (f : VA) : VE := fun env => match f env with
  | .ok ms => match op ms with
    | .ok x => .ok (.d x)
    | _ => .bad
  | _ => .bad
def sB (op : LOp) (f : SA) : SE := fun env => match f env with
  | .ok (ms, e) => match op ms with
    | .ok x => .ok (.d x, e)
    | _ => .bad
  | .exc x e => .exc x e
  | .bad => .bad
section
variable {G : Gx} {X : Cx} {W : WX'} {e : Expr} {es : List Expr} {g : VE} {f : VA} {fs : SA} {bk : Bk} {op : LOp} {r : List V → Hp → VK → Prop} {x : Str} {p pos : Pos} {id T : String}
theorem xva_nil : PVAs G X [] vaNil := ⟨_, pa_nil, fun Z H σ env S Q gd => fun q => q [] .nil⟩
theorem xva_cons (h : PVs G X e g) (hs : PVAs G X es f) (hst : starEach (e :: es) X.env = (false, eval e X.env) :: starEach es X.env := by rfl) : PVAs G X (e :: es) (vaCons g f) := by
  obtain ⟨te, q, h⟩ := h.ex
  obtain ⟨t, q2, h2⟩ := hs.ex
  refine ⟨_, pa_cons q q2 hst, fun Z H σ env S Q gd => ?_⟩
  unfold vaCons
  have h1 := h Z H σ env S (fun x H1 => t σ H1 fun xs H2 => Q (x :: xs) H2) gd
  cases e1 : g env with
  | ok m =>
    cases e2 : f env with
    | ok ms =>
      intro k
      rw [e1] at h1
      refine h1 fun v T1 _ r1 => ?_
      have h2 := h2 Z H σ env S (fun xs H2 => Q (v :: xs) H2) gd
      rw [e2] at h2
      exact h2 fun vs rs => k (v :: vs) (.cons ⟨T1, r1⟩ rs)
    | _ => trivial
  | _ => trivial
theorem VEok.cb {t : TA} (hb : BOP G r op) (h : VAok G t f) : VEok G (tCB r t) (vB op f) := fun Z H σ env S Q gd => by
  unfold vB
  have h1 := h Z H σ env S (fun vs H1 => r vs H1 Q) gd
  cases e1 : f env with
  | ok ms =>
    simp only
    rw [e1] at h1
    cases e2 : op ms with
    | ok x =>
      intro q
      refine h1 fun vs rs => ?_
      have h2 := hb Z H ms vs Q gd.zh rs
      rw [e2] at h2
      exact h2 fun u ru => q u (fun _ => False) (fun _ z => z.elim) ru.toM
    | _ => trivial
  | _ => trivial
theorem SEok.cb {t : TA} (hb : BOP G r op) (h : SAok' G W bk t fs) : SEok G W (tCB r t) (sB op fs) := fun Z H σ env S Q gd => by
  unfold sB
  have h1 := h Z H σ env S (fun vs H1 => r vs H1 Q) gd
  cases e1 : fs env with
  | ok q =>
    obtain ⟨ms, env1⟩ := q
    rw [e1] at h1
    simp only
    cases e2 : op ms with
    | ok x =>
      intro q
      refine h1 fun vs Z' H' S' T s' g' row d kk => ?_
      have h2 := hb Z' H' ms vs Q g'.zh row.row.vs
      rw [e2] at h2
      exact h2 fun u ru => q u Z' H' S' (fun _ => False) (s'.weak fun _ z => .inl (z.elim id fun z => z.elim)) g' (Hld.data ru)
    | _ => trivial
  | exc x e2 => rw [e1] at h1; exact h1
  | bad => trivial
theorem xv_bi (hb : BOP G r op) (hc : CallR X (.builtin id) r) (hm : X.mg x = none) (hv : bootBuiltins x = some (.builtin id)) (h : PVAs G X (e :: es) f) (hg : Gl X x := by rfl) (hn : x ≠ "__name__" := by decide) (hdb : (x == ("__debug__" : Str)) = false := by decide)
    (he : starEach (e :: es) X.env = (false, eval e X.env) :: starEach es X.env := by rfl) (hpl : (backTo pos (starEach es X.env)).any (·.1) = false := by rfl) : PVs G X (.Call (.Name x p) (e :: es) [] pos) (vB op f) := by
  obtain ⟨t, q, h⟩ := h.ex
  exact ⟨_, pe_callB hc hg hm hv q hn hdb he hpl, VEok.cb hb h⟩
theorem xe_bi (hb : BOP G r op) (hc : CallR X (.builtin id) r) (hm : X.mg x = none) (hv : bootBuiltins x = some (.builtin id)) (h : PAs' G X W (e :: es) bk fs) (hg : Gl X x := by rfl) (hn : x ≠ "__name__" := by decide) (hdb : (x == ("__debug__" : Str)) = false := by decide)
    (he : starEach (e :: es) X.env = (false, eval e X.env) :: starEach es X.env := by rfl) (hpl : (backTo pos (starEach es X.env)).any (·.1) = false := by rfl) : PEs G X W (.Call (.Name x p) (e :: es) [] pos) (sB op fs) := by
  obtain ⟨t, q, h⟩ := h.ex
  exact ⟨_, pe_callB hc hg hm hv q hn hdb he hpl, SEok.cb hb h⟩
theorem xv_ty (hb : BOP G r op) (hc : CallR X (.type T) r) (hm : X.mg x = none) (hv : bootBuiltins x = some (.type T)) (h : PVAs G X (e :: es) f) (hg : Gl X x := by rfl) (hn : x ≠ "__name__" := by decide) (hdb : (x == ("__debug__" : Str)) = false := by decide)
    (he : starEach (e :: es) X.env = (false, eval e X.env) :: starEach es X.env := by rfl) (hpl : (backTo pos (starEach es X.env)).any (·.1) = false := by rfl) : PVs G X (.Call (.Name x p) (e :: es) [] pos) (vB op f) := by
  obtain ⟨t, q, h⟩ := h.ex
  exact ⟨_, pe_callTy hc hg hm hv q hn hdb he hpl, VEok.cb hb h⟩
theorem xe_ty (hb : BOP G r op) (hc : CallR X (.type T) r) (hm : X.mg x = none) (hv : bootBuiltins x = some (.type T)) (h : PAs' G X W (e :: es) bk fs) (hg : Gl X x := by rfl) (hn : x ≠ "__name__" := by decide) (hdb : (x == ("__debug__" : Str)) = false := by decide)
    (he : starEach (e :: es) X.env = (false, eval e X.env) :: starEach es X.env := by rfl) (hpl : (backTo pos (starEach es X.env)).any (·.1) = false := by rfl) : PEs G X W (.Call (.Name x p) (e :: es) [] pos) (sB op fs) := by
  obtain ⟨t, q, h⟩ := h.ex
  exact ⟨_, pe_callTy hc hg hm hv q hn hdb he hpl, SEok.cb hb h⟩
end

/-! len, abs, max, min, sum, int, bool, str -/
def bLen : LOp
  | [m] => match m.seq with
    | some (_, ms) => .ok (.int ms.length)
    | none => match m with
      | .d (.str z) => if z.length ≤ sizeLine then .ok (.int z.length) else .bad
      | _ => .bad
  | _ => .bad
theorem bop_len {G : Gx} : BOP G (fun xs H Q => ∃ x n, xs = [x] ∧ LenV G.K x H n ∧ Q (.int n) H) bLen := fun Z H ms vs Q zh r => by
  unfold bLen
  cases r with
  | nil => trivial
  | cons h t =>
    rename_i m v ms' vs'
    cases t with
    | cons _ _ => trivial
    | nil =>
      obtain ⟨T, h⟩ := h
      simp only
      cases e : m.seq with
      | some p =>
        obtain ⟨b, xs⟩ := p
        intro q
        obtain ⟨a, us, rfl, h1, h2, h3⟩ := h.seq zh e
        refine ⟨_, xs.length, rfl, ?_, q _ intD⟩
        cases b with
        | true => exact .inr ⟨us, h1 rfl, h3.len⟩
        | false => exact .inl ⟨us, h2 rfl, h3.len⟩
      | none =>
        simp only
        split
        · rename_i e2
          intro q
          split at e2
          · rename_i z
            split at e2
            · rename_i hz
              cases e2
              have := rep_str h
              subst this
              exact ⟨_, z.length, rfl, ⟨hz, rfl⟩, q _ intD⟩
            · cases e2
          · cases e2
        · trivial
def b1I (g : Int → D) : LOp
  | [.d (.int i)] => .ok (g i)
  | _ => .bad
def b2I (g : Int → Int → D) : LOp
  | [.d (.int i), .d (.int j)] => .ok (g i j)
  | _ => .bad
theorem bop_1I {G : Gx} {g : Int → D} {g' : Int → V} (h : ∀ i Z, RepD G Z (g i) (g' i)) : BOP G (fun xs H Q => ∃ i, xs = [.int i] ∧ Q (g' i) H) (b1I g) := fun Z H ms vs Q zh r => by
  unfold b1I
  split
  · rename_i e
    intro q
    split at e
    · rename_i i
      cases e
      cases r with
      | cons h t =>
        cases t
        obtain ⟨T, h⟩ := h
        rw [rep_int h]
        exact ⟨i, rfl, q _ (by first | exact h i Z | (rename_i hh _ _ _ _ _; exact hh i Z) | apply_assumption)⟩
    · cases e
  · trivial
def bInt : LOp
  | [.d (.int i)] => .ok (.int i)
  | [.d (.bl b)] => .ok (.int (if b then 1 else 0))
  | [.d (.str a)] => if a.length ≤ 640 then (match PySem.intText? a with
    | some n => .ok (.int n)
    | none => .bad) else .bad
  | _ => .bad
def bStr : LOp
  | [.d (.int i)] => if i.natAbs.log2 < 1920 then .ok (.str (toString i)) else .bad
  | _ => .bad
/-- the ints of a list -/
def intsOf : List M → Option (List Int)
  | [] => some []
  | .d (.int i) :: r => (intsOf r).map (i :: ·)
  | _ => none
theorem intsOf_rep {G : Gx} {Z H : Hp} : ∀ {ms : List M} {T : Rg} {vs : List V} {ns : List Int}, RepMs G Z H ms T vs → intsOf ms = some ns → vs = ns.map V.int
  | [], _, _, ns, r, e => by simp only [RepMs] at r; subst r; simp [intsOf] at e; subst e; rfl
  | m :: ms, _, _, ns, r, e => by
    simp only [RepMs] at r
    obtain ⟨v, r', T1, T2, rfl, _, _, _, q, r⟩ := r
    unfold intsOf at e
    split at e
    · cases ‹_ :: _ = _›
    · rename_i i r0 e0
      cases e0
      cases ei : intsOf ms with
      | none => rw [ei] at e; cases e
      | some k =>
        rw [ei] at e
        cases e
        rw [List.map_cons, ← intsOf_rep r ei, rep_int q]
    · cases e
def bSum : LOp
  | [m] => match m.seq with
    | some (false, ms) => match intsOf ms with
      | some ns => .ok (.int ns.sum)
      | none => .bad
    | _ => .bad
  | _ => .bad
theorem bop_sum {G : Gx} : BOP G (rSum G.K) bSum := fun Z H ms vs Q zh r => by
  unfold bSum
  cases r with
  | nil => trivial
  | cons h t =>
    rename_i m v ms' vs'
    cases t with
    | cons _ _ => trivial
    | nil =>
      obtain ⟨T, h⟩ := h
      simp only
      cases e : m.seq with
      | none => trivial
      | some p =>
        obtain ⟨b, xs⟩ := p
        cases b with
        | true => trivial
        | false =>
          simp only
          cases ei : intsOf xs with
          | none => trivial
          | some ns =>
            intro q
            obtain ⟨a, us, rfl, h1, h2, h3⟩ := h.seq zh e
            have := intsOf_rep h3 ei
            subst this
            exact ⟨a, ns, rfl, h2 rfl, q _ intD⟩

section
variable {G : Gx} {X : Cx}
theorem cr_int : CallR X (.type "int") (fun xs H Q => ((∃ i, xs = [.int i] ∧ Q (.int i) H) ∨ ∃ k, xs = [.bl k] ∧ Q (.int (if k then 1 else 0)) H) ∨ ∃ a n, xs = [.str a] ∧ PySem.intText? a = some n ∧ a.length ≤ 640 ∧ Q (.int n) H) :=
  fun pins s σ H xs us Q I r h => h.elim (call_int1 pins s σ H xs us Q I r) (call_int_str pins s σ H xs us Q I r)
theorem bop_int : BOP G (fun xs H Q => ((∃ i, xs = [.int i] ∧ Q (.int i) H) ∨ ∃ k, xs = [.bl k] ∧ Q (.int (if k then 1 else 0)) H) ∨ ∃ a n, xs = [.str a] ∧ PySem.intText? a = some n ∧ a.length ≤ 640 ∧ Q (.int n) H) bInt := fun Z H ms vs Q zh r => by
  unfold bInt
  split
  · rename_i e
    intro q
    split at e
    · cases e
      cases r with
      | cons h t =>
        cases t
        obtain ⟨T, h⟩ := h
        rw [rep_int h]
        exact .inl (.inl ⟨_, rfl, q _ intD⟩)
    · cases e
      cases r with
      | cons h t =>
        cases t
        obtain ⟨T, h⟩ := h
        rw [rep_bl h]
        exact .inl (.inr ⟨_, rfl, q _ intD⟩)
    · split at e
      · rename_i hz
        split at e
        · rename_i n hn
          cases e
          cases r with
          | cons h t =>
            cases t
            obtain ⟨T, h⟩ := h
            rw [rep_str h]
            exact .inr ⟨_, n, rfl, hn, hz, q _ intD⟩
        · cases e
      · cases e
    · cases e
  · trivial
theorem bop_str : BOP G (fun xs H Q => ∃ i, xs = [.int i] ∧ i.natAbs.log2 < 1920 ∧ Q (.str (toString i)) H) bStr := fun Z H ms vs Q zh r => by
  unfold bStr
  split
  · rename_i e
    intro q
    split at e
    · split at e
      · rename_i hz
        cases e
        cases r with
        | cons h t =>
          cases t
          obtain ⟨T, h⟩ := h
          rw [rep_int h]
          exact ⟨_, rfl, hz, q _ strD⟩
      · cases e
    · cases e
  · trivial
theorem bop_2I {g : Int → Int → D} {g' : Int → Int → V} (hg : ∀ i j Z, RepD G Z (g i j) (g' i j)) : BOP G (fun xs H Q => ∃ i j, xs = [.int i, .int j] ∧ Q (g' i j) H) (b2I g) := fun Z H ms vs Q zh r => by
  unfold b2I
  split
  · rename_i e
    intro q
    split at e
    · rename_i i j
      cases e
      cases r with
      | cons h t =>
        cases t with
        | cons h2 t =>
          cases t
          obtain ⟨T, h⟩ := h
          obtain ⟨T2, h2⟩ := h2
          rw [rep_int h, rep_int h2]
          exact ⟨i, j, rfl, q _ (hg i j Z)⟩
    · cases e
  · trivial
def bAbs : LOp := b1I fun i => .int (if i < 0 then -i else i)
def bMax2 : LOp := b2I fun i j => .int (if j > i then j else i)
def bMin2 : LOp := b2I fun i j => .int (if j < i then j else i)
theorem bop_abs : BOP G (fun xs H Q => ∃ i, xs = [.int i] ∧ Q (.int (if i < 0 then -i else i)) H) bAbs := bop_1I fun _ _ => intD
theorem bop_max2 : BOP G (fun xs H Q => ∃ i j, xs = [.int i, .int j] ∧ Q (.int (if j > i then j else i)) H) bMax2 := bop_2I fun _ _ _ => intD
theorem bop_min2 : BOP G (fun xs H Q => ∃ i j, xs = [.int i, .int j] ∧ Q (.int (if j < i then j else i)) H) bMin2 := bop_2I fun _ _ _ => intD
end

/-! ### isinstance -/
/-- the built-in type's name -/
def tyD : D → Option String
  | .non => some "NoneType" | .bl _ => some "bool" | .int _ => some "int" | .str _ => some "str"
  | .tup _ => some "tuple" | .lst _ => some "list"
  | _ => none
def tyM : M → Option String
  | .d x => tyD x
  | .lst _ => some "list" | .tup _ => some "tuple"
  | _ => none
def tyNames : List String := ["NoneType", "bool", "int", "str", "tuple", "list", "dict"]
def isiB (a b : String) : Bool := a == b || (a == "bool" && b == "int")
theorem kit_tab : (tyNames.all fun a => ["int", "bool", "str", "tuple", "list", "dict"].all fun b => kitB a b == some (isiB a b)) = true := by decide +kernel
theorem kit_is {K : PySem.W.Frag} {a b : String} (ha : a ∈ tyNames) (hb : b ∈ ["int", "bool", "str", "tuple", "list", "dict"]) : PySem.W.kitOne K (.type a) (.type b) = some (isiB a b) := by
  have h := List.all_eq_true.mp (List.all_eq_true.mp kit_tab a ha) b hb
  exact kit_ty (beq_iff_eq.mp h)
section
variable {G : Gx} {Z H : Hp}
theorem sqT_ty {K : PySem.W.Frag} {a : Addr} {vs : List V} (h : SqT K H a vs) : TyX K H (.ref a) (.type "tuple") := by
  rcases h with (h | ⟨o, h⟩) | ⟨o, its, n, hk, hc, _⟩
  · exact .base (.tup h)
  · exact .fTuple h
  · exact .kTuple hk hc
theorem sqL_ty {K : PySem.W.Frag} {a : Addr} {vs : List V} (h : SqL K H a vs) : TyX K H (.ref a) (.type "list") := by
  rcases h with (h | ⟨o, h⟩) | ⟨o, its, n, hk, hc, _⟩
  · exact .base (.lst h)
  · exact .base (.frz h)
  · exact .kList hk hc
theorem tyM_rep (zh : Same Z H) {m : M} {T : Rg} {v : V} {t : String} (r : RepM G Z H m T v) (e : tyM m = some t) : TyX G.K H v (.type t) ∧ t ∈ tyNames := by
  cases m with
  | d x =>
    simp only [RepM] at r
    cases x with
    | non => simp [tyM, tyD] at e; subst e; simp only [RepD] at r; subst r; exact ⟨.base .non, by decide⟩
    | bl b => simp [tyM, tyD] at e; subst e; simp only [RepD] at r; subst r; exact ⟨.base (.bl _), by decide⟩
    | int b => simp [tyM, tyD] at e; subst e; simp only [RepD] at r; subst r; exact ⟨.base (.int _), by decide⟩
    | str b => simp [tyM, tyD] at e; subst e; simp only [RepD] at r; subst r; exact ⟨.base (.str _), by decide⟩
    | tup xs => simp [tyM, tyD] at e; subst e; simp only [RepD] at r; obtain ⟨a, vs, rfl, q, _⟩ := r; exact ⟨sqT_ty (Same.seqT zh q), by decide⟩
    | lst xs => simp [tyM, tyD] at e; subst e; simp only [RepD] at r; obtain ⟨a, vs, rfl, q, _⟩ := r; exact ⟨.base (.lst (zh _ _ q)), by decide⟩
    | _ => simp [tyM, tyD] at e
  | lst xs => simp [tyM] at e; subst e; simp only [RepM] at r; obtain ⟨a, vs, T', rfl, _, _, _, q, _⟩ := r; exact ⟨.base (.lst q), by decide⟩
  | tup xs => simp [tyM] at e; subst e; simp only [RepM] at r; obtain ⟨a, vs, T', rfl, _, _, _, q, _⟩ := r; exact ⟨.base (.tup q), by decide⟩
  | _ => simp [tyM] at e
end
def vIsi (t : String) (g : VE) : VE := fun env => match g env with
  | .ok m => match tyM m with
    | some a => .ok (.d (.bl (isiB a t)))
    | none => .bad
  | _ => .bad
theorem xv_isi {G : Gx} {X : Cx} {e : Expr} {g : VE} {T : Str} {p p2 pos : Pos} (t : String) (hK : G.K = X.K) (hm : X.mg "isinstance" = none) (hmt : X.mg T = none) (h : PVs G X e g) (hv : bootBuiltins T = some (.type t)) (ht : t ∈ ["int", "bool", "str", "tuple", "list", "dict"] := by decide)
    (hg : Gl X "isinstance" := by rfl) (hgt : Gl X T := by rfl) (hn : T ≠ "__name__" := by decide) (hdt : (T == ("__debug__" : Str)) = false := by decide)
    (he : starEach (e :: [.Name T p2]) X.env = (false, eval e X.env) :: starEach [.Name T p2] X.env := by rfl) (he2 : starEach (.Name T p2 :: []) X.env = (false, eval (.Name T p2) X.env) :: starEach [] X.env := by rfl) (hpl : (backTo pos (starEach [.Name T p2] X.env)).any (·.1) = false := by rfl) :
    PVs G X (.Call (.Name "isinstance" p) [e, .Name T p2] [] pos) (vIsi t g) := by
  obtain ⟨te, q, h⟩ := h.ex
  refine ⟨_, pe_callB call_isi hg hm PyProof.Rows.boot_isinstance (pa_cons q (pa_cons (pe_bltn (v := .ty t) hgt hmt hv rfl hn hdt) pa_nil he2) he) (by decide) (by decide) he hpl, fun Z H σ env S Q gd => ?_⟩
  unfold vIsi
  have h1 := h Z H σ env S (fun x H1 => tCons (tC (.ty t)) tNil σ H1 fun xs H2 => rIsi X.K (x :: xs) H2 Q) gd
  cases e1 : g env with
  | ok m =>
    simp only
    rw [e1] at h1
    cases e2 : tyM m with
    | some a =>
      intro k
      refine h1 fun v T1 _ r1 => ?_
      obtain ⟨ty, ha⟩ := tyM_rep gd.zh r1 e2
      rw [hK] at ty
      exact ⟨v, .ty t, .type a, .type t, isiB a t, rfl, .ty t, ty, kit_is ha ht, k _ (fun _ => False) (fun _ z => z.elim) (by simp [RepM, RepD])⟩
    | none => trivial
  | _ => trivial

/-! ### the module's names -/
/-- a module's name holds the datum -/
def GlobD (G : Gx) (X : Cx) (x : Str) (d : D) : Prop := ∃ u v, X.mg x = some u ∧ RelV v u ∧ ∀ Z, RepD G Z d v
theorem xv_glob {G : Gx} {X : Cx} {x : Str} {d : D} {pos : Pos} (h : GlobD G X x d) (hg : Gl X x := by rfl) (hd : (x == ("__debug__" : Str)) = false := by decide) : PVs G X (.Name x pos) (vC d) := by
  obtain ⟨u, v, hm, r, hz⟩ := h
  exact ⟨_, pe_glob hg hm r hd, VEok.const fun Z H σ Q zh q => q v (hz Z)⟩

/-! ### calls of the program's own defs -/
/-- the def n stands and computes F, by at most k calls -/
structure FnA (P : Program) (w : World) (G : Gx) (mg : Str → Option Value) (base : Heap) (k : Nat) (nm : Str) (n : Nat) (F : FS) : Prop where
  ex : ∃ (f : Addr) (fd : FuncData) (ps : List Str), FnOk P w G.K mg base (L2.CX P w) k f fd ps (spF G n F) ∧ mg nm = some (.ref f) ∧ PySem.W.keepIn G.K (.ref f) = true ∧ Binds G.K fd ps []
section
variable {G : Gx} {X : Cx} {W : WX'} {e : Expr} {es : List Expr} {fs : SA} {bk : Bk} {F : FS} {n k : Nat} {x : Str} {p pos : Pos}
theorem pe_callS0 {CX : CXT} {f : Addr} {fd : FuncData} {ps : List Str} {sp : Sp} {E : L2.St → XK} (F : FnOk X.prog X.w X.K X.mg X.base CX k f fd ps sp) (hr : Room k X.A) (hg : Gl X x) (hm : X.mg x = some (.ref f)) (hk : PySem.W.keepIn X.K (.ref f) = true) (hb : Binds X.K fd ps []) (hx : ∀ σ, PassesAt CX X σ (E σ))
    (hdb : (x == ("__debug__" : Str)) = false := by decide) : PE X (.Call (.Name x p) [] [] pos) (tCallS sp E tNil) := by
  refine ⟨fun pins s σ H Q I h => ?_⟩
  refine wpAny_Call_Name_kw (ld_glob I hg hm ?_ hdb)
  exact PySem.W.callWith_K0 I.kIn hk (run_fnS (us := []) F hr hb (hx σ) I .nil h)
theorem saCons_len {f : SE} {fs : SA} {n : Nat} (h : ∀ env ms e1, fs env = .ok (ms, e1) → ms.length = n) : ∀ env ms e1, saCons f fs env = .ok (ms, e1) → ms.length = n + 1 := fun env ms e1 q => by
  unfold saCons at q
  split at q
  · split at q
    · rename_i hq
      cases q
      simp [h _ _ _ hq]
    · cases q
    · cases q
  · cases q
  · cases q
theorem saNil_len : ∀ env ms e1, saNil env = .ok (ms, e1) → ms.length = 0 := fun env ms e1 q => by
  cases q; rfl
theorem xe_call (h : FnA X.prog X.w G X.mg X.base k x n F) (hK : G.K = X.K) (hr : Room k X.A) (tk : Takes X W) (ha : PAs' G X W (e :: es) bk fs) (hn : ∀ env ms e1, fs env = .ok (ms, e1) → ms.length = n) (hg : Gl X x := by rfl) (hdb : (x == ("__debug__" : Str)) = false := by decide)
    (he : starEach (e :: es) X.env = (false, eval e X.env) :: starEach es X.env := by rfl) (hpl : (backTo pos (starEach es X.env)).any (·.1) = false := by rfl) : PEs G X W (.Call (.Name x p) (e :: es) [] pos) (sCall F bk fs) := by
  obtain ⟨f, fd, ps, ok, hm, hk, hb⟩ := h.ex
  obtain ⟨t, q, ha⟩ := ha.ex
  rw [hK] at ok hk hb
  exact ⟨_, pe_callS ok hr hg hm hk hb (fun σ => passAt tk σ) q hdb he hpl, SEok.call ha hn⟩
theorem xe_call0 (h : FnA X.prog X.w G X.mg X.base k x 0 F) (hK : G.K = X.K) (hr : Room k X.A) (tk : Takes X W) (hg : Gl X x := by rfl) (hdb : (x == ("__debug__" : Str)) = false := by decide) : PEs G X W (.Call (.Name x p) [] [] pos) (sCall F [] saNil) := by
  obtain ⟨f, fd, ps, ok, hm, hk, hb⟩ := h.ex
  rw [hK] at ok hk hb
  exact ⟨_, pe_callS0 ok hr hg hm hk hb (fun σ => passAt tk σ) hdb, SEok.call SAok.nil saNil_len⟩
end

/-! ### raise -/
structure ExcA (G : Gx) (X : Cx) (nm : String) (x : Str) : Prop where
  gC : X.mg x = some (.ref (G.ad nm))
  xP : PySem.W.excIn X.K (G.ad nm) [.type "ValueError", .type "Exception", .type "BaseException", .type "object"] "ValueError.__new__" = true
  kP : PySem.W.keepIn X.K (.ref (G.ad nm)) = true
  bP : PySem.W.subIn X.K (.ref (G.ad nm)) (.type "BaseException") = some true
  tP : PySem.W.typeIn X.K (.ref (G.ad nm)) = some (.type "type")
def ssRaise (nm : String) : SS := fun env => .exc ⟨nm, none⟩ env
theorem xs_raise {G : Gx} {X : Cx} {W : WX'} {P : Px} {x m : Str} {j : Nat} {p p2 pos pos2 : Pos} (nm : String) (h : ExcA G X nm x) (hc : X.calm = true) (tk : Takes X W) (hg : Gl X x := by rfl) (hdb : (x == ("__debug__" : Str)) = false := by decide) :
    PS' G X W P (.Raise (some (.Call (.Name x p) [.Constant (.str m) j p2] [] pos)) none pos2) (ssRaise nm) :=
  ⟨_, ps_raise hc tk (pmk_own PySem.F.excBase_ValueError h.xP h.gC h.kP (raises_own h.bP h.tP) hg hdb), fun D Z H σ env S gd q => q _ none σ Z H S ⟨rfl, rfl⟩ Fix.refl (Stp.refl gd.zh) gd⟩
end FL

set_option maxHeartbeats 2000000
/-! FLK: slices, concatenation, list(..), tuple(..), zip, enumerate, reversed. -/
namespace FL
open PySem L2 Classical

theorem RepDs.drop {G : Gx} {Z : Hp} : ∀ {xs : List D} {vs : List V} (n : Nat), RepDs G Z xs vs → RepDs G Z (xs.drop n) (vs.drop n)
  | _, _, 0, r => r
  | [], _, n + 1, r => by simp only [RepDs] at r; subst r; simp [RepDs]
  | x :: xs, _, n + 1, r => by
    simp only [RepDs] at r
    obtain ⟨v, r', rfl, q, r⟩ := r
    exact RepDs.drop n r
theorem RepDs.take {G : Gx} {Z : Hp} : ∀ {xs : List D} {vs : List V} (n : Nat), RepDs G Z xs vs → RepDs G Z (xs.take n) (vs.take n)
  | _, _, 0, r => by simp [RepDs]
  | [], _, n + 1, r => by simp only [RepDs] at r; subst r; simp [RepDs]
  | x :: xs, _, n + 1, r => by
    simp only [RepDs] at r
    obtain ⟨v, r', rfl, q, r⟩ := r
    simp only [List.take_succ_cons, RepDs]
    exact ⟨v, _, rfl, q, RepDs.take n r⟩
def cutL {α : Type} (xs : List α) (lo hi : Option Int) : List α := (xs.drop (HT.sIx xs.length 0 lo)).take (HT.sIx xs.length xs.length hi - HT.sIx xs.length 0 lo)
theorem RepDs.cut {G : Gx} {Z : Hp} {xs : List D} {vs : List V} (r : RepDs G Z xs vs) (lo hi : Option Int) : RepDs G Z (cutL xs lo hi) (cutV vs lo hi) := by
  unfold cutL cutV
  rw [r.len]
  exact (r.drop _).take _
theorem dsM {G : Gx} {Z H : Hp} : ∀ {xs : List D} {S : Rg} {vs : List V}, RepDs G Z xs vs → RepMs G Z H (xs.map .d) S vs := fun r => r.toM
/-- new lists and tuples of frozen items -/
theorem lst_newD {G : Gx} {Z H : Hp} {xs : List D} {vs : List V} {R : Rg} {p : Addr} (zh : Same Z H) (r : RepDs G Z xs vs) (hp : H p = none) (pR : ¬ R p) : Hld G Z (upd H p (.lst vs)) R (.lst (xs.map .d)) (fun a => a = p) (.ref p) := by
  have h := lst_new (T := fun _ => False) (R := R) zh (RepDs.toM (H := H) r) (fun _ z => z.elim) (fun _ z => z.elim) (fun _ z => z.elim) hp pR
  have e : (fun a => False ∨ a = p) = (fun a => a = p) := by funext a; simp
  rw [e] at h; exact h

/-! ### slices -/
structure POs (G : Gx) (X : Cx) (e : Option Expr) (g : Env → Res (Option Int)) : Prop where
  ex : ∃ t, PO X e t ∧ ∀ (Z H : Hp) (σ : St) (env : Env) (S : Rs) (Q : Option Int → Hp → Prop), Good G Z H σ env S → match g env with
    | .ok o => Q o H → t σ H Q
    | _ => True
def voNo : Env → Res (Option Int) := fun _ => .ok none
def voI (g : VE) : Env → Res (Option Int) := fun env => match g env with
  | .ok (.d (.int i)) => .ok (some i)
  | _ => .bad
/-- what a slice gives -/
def slM (m : M) (lo hi : Option Int) : Res M := match m with
  | .d (.tup xs) => .ok (.d (.tup (cutL xs lo hi)))
  | .d (.str z) => if z.length ≤ sizeLine then .ok (.d (.str (cutS z lo hi))) else .bad
  | m => match m.seq with
    | some (false, ms) => if ms.all isD = true then .ok (.lst ((cutL (ms.map unD) lo hi).map .d)) else .bad
    | _ => .bad
def sSl (g : VE) (lo hi : Env → Res (Option Int)) : SE := fun env => match g env, lo env, hi env with
  | .ok m, .ok l, .ok h => match slM m l h with
    | .ok x => .ok (x, env)
    | _ => .bad
  | _, _, _ => .bad
def rSlO (K : PySem.W.Frag) : V → Option Int → Option Int → Hp → VK → Prop := fun x lo hi H Q => rSlL K x lo hi H Q ∨ (rSlA K x lo hi H Q ∨ rSlS x lo hi H Q)
section
variable {G : Gx} {X : Cx} {W : WX'} {e : Expr} {g : VE} {lo hi : Option Expr} {gl gh : Env → Res (Option Int)} {pos p2 : Pos}
theorem xo_none : POs G X none voNo := ⟨_, po_none, fun Z H σ env S Q gd q => q⟩
theorem xo_some (h : PVs G X e g) : POs G X (some e) (voI g) := by
  obtain ⟨t, p, h⟩ := h.ex
  refine ⟨_, po_some p, fun Z H σ env S Q gd => ?_⟩
  unfold voI
  have h1 := h Z H σ env S (fun x H1 => ∃ i, x = .int i ∧ Q (some i) H1) gd
  split
  · rename_i e2
    split at e2
    · rename_i i ei
      cases e2
      rw [ei] at h1
      exact fun q => h1 fun v T _ r => ⟨i, rep_int r, q⟩
    · cases e2
  · trivial
theorem sl_any : SlR X (rSlO X.K) := SlR.or sl_list (SlR.or sl_tupA sl_str)
theorem slM_run {Z H : Hp} {m x : M} {T : Rg} {v : V} {l h : Option Int} {Q : VK} {S : Rs} {σ : St} {env : Env} (gd : Good G Z H σ env S) (r : RepM G Z H m T v) (e : slM m l h = .ok x)
    (q : ∀ v Z' H' S' T, Stp Z H (U S) Z' H' (fun a => U S' a ∨ T a) → Good G Z' H' σ env S' → Hld G Z' H' (U S') x T v → Q v H') : rSlO G.K v l h H Q := by
  unfold slM at e
  split at e
  · rename_i xs
    cases e
    simp only [RepM, RepD] at r
    obtain ⟨a, vs, rfl, hz, rr⟩ := r
    refine .inr (.inl ⟨a, vs, rfl, Same.seqT gd.zh hz, fun hw => ?_, fun hw p hp => ?_⟩)
    · have e1 : cutL xs l h = xs := by
        unfold cutL
        rw [rr.len, hw.1, hw.2, List.drop_zero, Nat.sub_zero, List.take_of_length_le (by rw [rr.len]; omega)]
      refine q (.ref a) Z H S (fun _ => False) ((Stp.refl gd.zh).weak fun _ z => z.elim id fun z => z.elim) gd (Hld.data ?_)
      rw [e1]
      simp only [RepD]
      exact ⟨a, vs, rfl, hz, rr⟩
    · have st := Stp.newZ (o := .tup (cutV vs l h)) gd.zh hp (U S)
      refine q (.ref p) _ _ S (fun _ => False) (st.weak fun _ z => z.elim id fun z => z.elim) (gd.move (Stp.newZ (o := .tup (cutV vs l h)) gd.zh hp (fun _ => False)) fun _ _ z => z).1 (Hld.data ?_)
      simp only [RepD]
      exact ⟨p, _, rfl, SqT.of upd_same, RepDs.mono st.z _ _ (rr.cut l h)⟩
  · rename_i z
    split at e
    · rename_i hz
      cases e
      have := rep_str r
      subst this
      exact .inr (.inr ⟨z, rfl, hz, q _ Z H S (fun _ => False) ((Stp.refl gd.zh).weak fun _ z => z.elim id fun z => z.elim) gd (Hld.data strD)⟩)
    · cases e
  · split at e
    · rename_i ms es
      obtain ⟨a, vs, rfl, h1, h2, h3⟩ := r.seq gd.zh es
      split at e
      · rename_i hd
        cases e
        have rd := (allD_rep h3 hd).cut l h
        refine .inl ⟨a, vs, rfl, h2 rfl, fun p hp => ?_⟩
        have pS : ¬ U S p := fun z => gd.al' p z hp
        have st := Stp.new (o := .lst (cutV vs l h)) gd.zh hp (fun _ => False)
        exact q (.ref p) Z _ S (fun a => a = p) (Stp.new gd.zh hp (U S)) (gd.move st fun _ _ z => z).1 (lst_newD gd.zh rd hp pS)
      · cases e
    · cases e
theorem xe_sl (hK : G.K = X.K) (h : PVs G X e g) (hl : POs G X lo gl) (hh : POs G X hi gh) : PEs G X W (.Subscript e (.Slice lo hi none p2) pos) (sSl g gl gh) := by
  obtain ⟨t, p, h⟩ := h.ex
  obtain ⟨tl, pl, hl⟩ := hl.ex
  obtain ⟨th, ph, hh⟩ := hh.ex
  refine ⟨_, pe_slice sl_any p pl ph, fun Z H σ env S Q gd => ?_⟩
  unfold sSl
  have h1 := h Z H σ env S (fun x H1 => tl σ H1 fun l H2 => th σ H2 fun u H3 => rSlO X.K x l u H3 Q) gd
  cases e1 : g env with
  | ok m =>
    cases e2 : gl env with
    | ok l =>
      cases e3 : gh env with
      | ok u =>
        simp only
        cases e4 : slM m l u with
        | ok x =>
          intro q
          rw [e1] at h1
          refine h1 fun v T1 _ r1 => ?_
          have h2 := hl Z H σ env S (fun l H2 => th σ H2 fun u H3 => rSlO X.K v l u H3 Q) gd
          rw [e2] at h2
          refine h2 ?_
          have h3 := hh Z H σ env S (fun u H3 => rSlO X.K v l u H3 Q) gd
          rw [e3] at h3
          refine h3 ?_
          rw [← hK]
          exact slM_run gd r1 e4 q
        | _ => trivial
      | _ => trivial
    | _ => trivial
  | _ => trivial
end

/-! ### operations that make a list or a tuple -/
abbrev MOp := M → M → Res M
/-- two values in the hand, apart; a new one -/
def OPok (G : Gx) (r : R2) (op : MOp) : Prop := ∀ (Z H : Hp) (m1 : M) (T1 : Rg) (v1 : V) (m2 : M) (T2 : Rg) (v2 : V) (Q : VK), Same Z H → Hld G Z H (fun _ => False) m1 T1 v1 → Hld G Z H T1 m2 T2 v2 →
  match op m1 m2 with
  | .ok m => (∀ v Z' H' T, Stp Z H (fun a => T1 a ∨ T2 a) Z' H' T → Hld G Z' H' (fun _ => False) m T v → Q v H') → r v1 v2 H Q
  | _ => True
def s2m (op : MOp) (fa fb : SE) : SE := fun env => match fa env with
  | .ok (m1, e1) => match fb e1 with
    | .ok (m2, e2) => match op m1 m2 with
      | .ok x => .ok (x, e2)
      | _ => .bad
    | .exc e v => .exc e v
    | .bad => .bad
  | .exc e v => .exc e v
  | .bad => .bad
section
variable {G : Gx} {X : Cx} {W : WX'} {r : R2} {op : MOp} {ta tb : TE} {fa fb : SE} {a b : Expr} {pos : Pos}
theorem SEok.binM (h : OPok G r op) (ha : SEok G W ta fa) (hb : SEok G W tb fb) : SEok G W (tOp r ta tb) (s2m op fa fb) := fun Z H σ env S Q gd => by
  have h1 := ha Z H σ env S (fun x H1 => tb σ H1 fun y H2 => r x y H2 Q) gd
  unfold s2m
  cases e1 : fa env with
  | bad => trivial
  | exc e v => rw [e1] at h1; exact h1
  | ok p =>
    obtain ⟨m1, env1⟩ := p
    rw [e1] at h1
    simp only
    cases e2 : fb env1 with
    | bad => trivial
    | exc e v =>
      intro q
      refine h1 fun v1 Z1 H1 S1 T1 s1 g1 l1 => ?_
      have h2 := hb Z1 H1 σ env1 S1 (fun y H2 => r v1 y H2 Q) g1
      rw [e2] at h2
      refine h2 fun cls d Z2 H2 S2 x2 s2 g2 => ?_
      exact q cls d Z2 H2 S2 x2 (s1.trans ((s2.frame T1).weak (R2 := U S2) fun _ z => .inl z)) g2
    | ok p2 =>
      obtain ⟨m2, env2⟩ := p2
      simp only
      cases e3 : op m1 m2 with
      | ok x =>
        intro q
        refine h1 fun v1 Z1 H1 S1 T1 s1 g1 l1 => ?_
        have h2 := hb Z1 H1 σ env1 S1 (fun y H2 => r v1 y H2 Q) g1
        rw [e2] at h2
        refine h2 fun w2 Z2 H2 S2 T2 s2 g2 l2 => ?_
        have l1' := l1.step s2
        have h3 := h Z2 H2 m1 T1 v1 m2 T2 w2 Q g2.zh ⟨l1'.rep, l1'.al, l1'.zf, fun _ _ z => z⟩ ⟨l2.rep, l2.al, l2.zf, fun c z w => l1'.dj c w (.inr z)⟩
        rw [e3] at h3
        refine h3 fun u Z3 H3 T3 s3 l3 => ?_
        obtain ⟨g3, d3⟩ := g2.move s3 fun c z w => w.elim (fun w => l1'.dj c w (.inl z)) fun w => l2.dj c w z
        have st : Stp Z H (U S) Z3 H3 (fun a => U S2 a ∨ T3 a) := ((s1.trans (s2.frame T1)).trans ((s3.frame (U S2)).from fun c z => by
          rcases z with (z | z) | z
          · exact .inr z
          · exact .inl (.inr z)
          · exact .inl (.inl z))).weak fun c z => z.elim .inr .inl
        exact q u Z3 H3 S2 T3 st g3 ⟨l3.rep, l3.al, l3.zf, fun c z w => d3 c w z⟩
      | _ => trivial
theorem OPok.ofD {dop : DOp} (h : VOP G r dop) : OPok G r (fun a b => match dop a b with | .ok x => .ok (.d x) | _ => .bad) := fun Z H m1 T1 v1 m2 T2 v2 Q zh l1 l2 => by
  have h1 := h Z H m1 T1 v1 m2 T2 v2 Q zh l1.rep l2.rep
  dsimp only
  cases e : dop m1 m2 with
  | ok x =>
    rw [e] at h1
    exact fun q => h1 fun u ru => q u Z H (fun _ => False) ((Stp.refl zh).weak fun _ z => z.elim) (Hld.data ru)
  | exc _ _ => trivial
  | bad => trivial
def mOr (f g : MOp) : MOp := fun a b => match f a b with
  | .ok x => .ok x
  | _ => g a b
theorem OPok.or {r' : R2} {op' : MOp} (h : OPok G r op) (h' : OPok G r' op') : OPok G (rOr r r') (mOr op op') := fun Z H m1 T1 v1 m2 T2 v2 Q zh l1 l2 => by
  have a := h Z H m1 T1 v1 m2 T2 v2 Q zh l1 l2
  have b := h' Z H m1 T1 v1 m2 T2 v2 Q zh l1 l2
  unfold mOr
  cases e : op m1 m2 with
  | ok x => rw [e] at a; exact fun q => .inl (a q)
  | _ =>
    simp only
    cases e' : op' m1 m2 with
    | ok x => rw [e'] at b; exact fun q => .inr (b q)
    | _ => trivial
end
/-- a list's items, owned or frozen; a locked list's are not taken -/
def lstItems : M → Option (List M)
  | .d (.lst xs) => some (xs.map .d)
  | .lst ms => some ms
  | _ => none
def mCatL : MOp := fun m1 m2 => match lstItems m1, lstItems m2 with
  | some a, some b => if a.length + b.length ≤ sizeLine then .ok (.lst (a ++ b)) else .bad
  | _, _ => .bad
def mCatT : MOp := fun m1 m2 => match m1, m2 with
  | .d (.tup a), .d (.tup b) => if a.length + b.length ≤ sizeLine then .ok (.d (.tup (a ++ b))) else .bad
  | _, _ => .bad
def mAdd : MOp := mOr (fun a b => match oAdd a b with | .ok x => .ok (.d x) | _ => .bad) (mOr mCatL mCatT)
section
variable {G : Gx} {X : Cx} {W : WX'} {fa fb : SE} {a b : Expr} {pos : Pos}
theorem lstItems_rep {Z H : Hp} {m : M} {T : Rg} {v : V} {ms : List M} (zh : Same Z H) (r : RepM G Z H m T v) (e : lstItems m = some ms) : ∃ a vs, v = .ref a ∧ H a = some (.lst vs) ∧ RepMs G Z H ms T vs := by
  unfold lstItems at e
  split at e
  · cases e
    simp only [RepM, RepD] at r
    obtain ⟨a, vs, rfl, hz, rr⟩ := r
    exact ⟨a, vs, rfl, zh _ _ hz, rr.toM⟩
  · cases e
    simp only [RepM] at r
    obtain ⟨a, vs, T', rfl, sa, ta, ts, ho, rr⟩ := r
    exact ⟨a, vs, rfl, ho, RepMs.mono (Same.refl _) _ _ _ _ ts (fun _ _ _ z => z) rr⟩
  · cases e
theorem op_catL : OPok G rCat mCatL := fun Z H m1 T1 v1 m2 T2 v2 Q zh l1 l2 => by
  unfold mCatL
  split
  · rename_i e
    intro q
    split at e
    · rename_i xs ys e1 e2
      split at e
      · rename_i hl
        cases e
        obtain ⟨a, vs, rfl, ha, r1⟩ := lstItems_rep zh l1.rep e1
        obtain ⟨b, ws, rfl, hb, r2⟩ := lstItems_rep zh l2.rep e2
        refine ⟨a, b, vs, ws, rfl, rfl, ha, hb, by rw [← r1.len, ← r2.len]; exact hl, fun p hp => ?_⟩
        have rr : RepMs G Z H (xs ++ ys) (fun c => T1 c ∨ T2 c) (vs ++ ws) := RepMs.app r1 r2 (fun _ z => .inl z) (fun _ z => .inr z) (fun c z w => l2.dj c w z)
        exact q (.ref p) Z _ _ (Stp.new zh hp _) (lst_new zh rr (fun c z => z.elim (l1.al c) (l2.al c)) (fun c z => z.elim (l1.zf c) (l2.zf c)) (fun _ _ z => z) hp (fun z => z))
      · cases e
    · cases e
  · trivial
theorem op_catTm : OPok G (rCatA G.K) mCatT := fun Z H m1 T1 v1 m2 T2 v2 Q zh l1 l2 => by
  unfold mCatT
  split
  · rename_i e
    intro q
    split at e
    · rename_i xs ys
      split at e
      · rename_i hl
        cases e
        have r1 := l1.rep
        have r2 := l2.rep
        simp only [RepM, RepD] at r1 r2
        obtain ⟨a, vs, rfl, ha, r1⟩ := r1
        obtain ⟨b, ws, rfl, hb, r2⟩ := r2
        refine ⟨a, b, vs, ws, rfl, rfl, Same.seqT zh ha, Same.seqT zh hb, by rw [← r1.len, ← r2.len]; exact hl, fun h0 => ?_, fun _ h0 => ?_, fun _ _ p hp => ?_⟩
        · have e0 : xs = [] := List.length_eq_zero_iff.mp (by rw [r1.len, h0]; rfl)
          subst e0
          exact q (.ref b) Z H (fun _ => False) ((Stp.refl zh).weak fun _ z => z.elim) (Hld.data (by simp only [RepD]; exact ⟨b, ws, rfl, hb, r2⟩))
        · have e0 : ys = [] := List.length_eq_zero_iff.mp (by rw [r2.len, h0]; rfl)
          subst e0
          rw [List.append_nil] at q
          exact q (.ref a) Z H (fun _ => False) ((Stp.refl zh).weak fun _ z => z.elim) (Hld.data (by simp only [RepD]; exact ⟨a, vs, rfl, ha, r1⟩))
        · have st := Stp.newZ (o := .tup (vs ++ ws)) zh hp (fun c => T1 c ∨ T2 c)
          refine q (.ref p) _ _ (fun _ => False) (st.weak fun _ z => z.elim) (Hld.data ?_)
          simp only [RepD]
          exact ⟨p, _, rfl, SqT.of upd_same, RepDs.mono st.z _ _ (RepDs.app r1 r2)⟩
      · cases e
    · cases e
  · trivial
def rAddM (K : PySem.W.Frag) : R2 := rOr (rOr (rI0 fun i j => .int (i + j)) (fun x y H Q => ∃ i j, x = .str i ∧ y = .str j ∧ i.length + j.length ≤ sizeLine ∧ Q (.str (i ++ j)) H)) (rOr rCat (rCatA K))
theorem opr_addM : OpR X (binaryOp .Add) (rAddM X.K) := OpR.orR opr_add (OpR.orR op_cat op_catA)
theorem opok_add : OPok G (rAddM G.K) mAdd := (OPok.ofD vop_add).or (op_catL.or op_catTm)
/-- a + b, whatever they are -/
theorem xe_addM (hK : G.K = X.K) (ha : PEs G X W a fa) (hb : PEs G X W b fb) : PEs G X W (.BinOp a .Add b pos) (s2m mAdd fa fb) := by
  obtain ⟨ta, pa, ha⟩ := ha.ex
  obtain ⟨tb, pb, hb⟩ := hb.ex
  have h : OPok G (rAddM X.K) mAdd := by rw [← hK]; exact opok_add
  exact ⟨_, pe_op opr_addM pa pb, SEok.binM h ha hb⟩
end
end FL

set_option maxHeartbeats 2000000
/-! FLL: bools as values, if-expressions, minus, chains, zip, list(..). -/
namespace FL
open PySem L2 Classical

theorem SEok.after {G : Gx} {W : WX'} {t : TE} {f : SE} (h : SEok G W t f) {Z0 H0 Z H : Hp} {R : Rg} {σ : St} {env : Env} {S : Rs} {Q : VK} (s0 : Stp Z0 H0 R Z H (U S)) (gd : Good G Z H σ env S)
    (q : match f env with
      | .ok (m, env') => ∀ v Z' H' S' T, Stp Z0 H0 R Z' H' (fun a => U S' a ∨ T a) → Good G Z' H' σ env' S' → Hld G Z' H' (U S') m T v → Q v H'
      | .exc e env' => ∀ cls d Z' H' S', ExcAt G H' e cls d → Stp Z0 H0 R Z' H' (U S') → Good G Z' H' σ env' S' → W cls d σ H'
      | .bad => False) : t σ H Q := by
  have h1 := h Z H σ env S Q gd
  cases e : f env with
  | ok r =>
    obtain ⟨m, env'⟩ := r
    rw [e] at h1 q
    exact h1 fun v Z' H' S' T s' g' l => q v Z' H' S' T (s0.trans s') g' l
  | exc x env' =>
    rw [e] at h1 q
    exact h1 fun cls d Z' H' S' hx s' g' => q cls d Z' H' S' hx (s0.trans s') g'
  | bad => rw [e] at q; exact q.elim
/-- what an SE promises, told of a result -/
def EPost (G : Gx) (W : WX') (Z H : Hp) (R : Rg) (σ : St) (Q : VK) : Res (M × Env) → Prop
  | .ok (m, env') => ∀ v Z' H' S' T, Stp Z H R Z' H' (fun a => U S' a ∨ T a) → Good G Z' H' σ env' S' → Hld G Z' H' (U S') m T v → Q v H'
  | .exc e env' => ∀ cls d Z' H' S', ExcAt G H' e cls d → Stp Z H R Z' H' (U S') → Good G Z' H' σ env' S' → W cls d σ H'
  | .bad => False
theorem SEok.mk' {G : Gx} {W : WX'} {t : TE} {f : SE} (h : ∀ (Z H : Hp) (σ : St) (env : Env) (S : Rs) (Q : VK), Good G Z H σ env S → EPost G W Z H (U S) σ Q (f env) → t σ H Q) : SEok G W t f := fun Z H σ env S Q gd => by
  have := h Z H σ env S Q gd
  cases e : f env with
  | ok r => obtain ⟨m, env'⟩ := r; rw [e] at this; exact this
  | exc x env' => rw [e] at this; exact this
  | bad => trivial
theorem SEok.use {G : Gx} {W : WX'} {t : TE} {f : SE} (h : SEok G W t f) {Z H : Hp} {σ : St} {env : Env} {S : Rs} {Q : VK} (gd : Good G Z H σ env S) (q : EPost G W Z H (U S) σ Q (f env)) : t σ H Q := by
  have h1 := h Z H σ env S Q gd
  cases e : f env with
  | ok r => obtain ⟨m, env'⟩ := r; rw [e] at h1 q; exact h1 q
  | exc x env' => rw [e] at h1 q; exact h1 q
  | bad => rw [e] at q; exact q.elim
theorem EPost.shift {G : Gx} {W : WX'} {Z H Z' H' : Hp} {R R' : Rg} {σ : St} {Q : VK} {r : Res (M × Env)} (p : EPost G W Z H R σ Q r) (st : Stp Z H R Z' H' R') : EPost G W Z' H' R' σ Q r := by
  cases r with
  | ok q => obtain ⟨m, e⟩ := q; exact fun v Z2 H2 S2 T s2 g2 l => p v Z2 H2 S2 T (st.trans s2) g2 l
  | exc x e => exact fun cls d Z2 H2 S2 hx s2 g2 => p cls d Z2 H2 S2 hx (st.trans s2) g2
  | bad => exact p.elim
def sNotV (f : SE) : SE := fun env => match f env with
  | .ok (.d (.bl b), e) => .ok (.d (.bl !b), e)
  | .exc x e => .exc x e
  | _ => .bad
def sAndV (f g : SE) : SE := fun env => match f env with
  | .ok (.d (.bl true), e) => g e
  | .ok (.d (.bl false), e) => .ok (.d (.bl false), e)
  | .exc x e => .exc x e
  | _ => .bad
def sOrV (f g : SE) : SE := fun env => match f env with
  | .ok (.d (.bl true), e) => .ok (.d (.bl true), e)
  | .ok (.d (.bl false), e) => g e
  | .exc x e => .exc x e
  | _ => .bad
def sIf (c : SB) (f g : SE) : SE := fun env => match c env with
  | .ok (true, e) => f e
  | .ok (false, e) => g e
  | .exc x e => .exc x e
  | .bad => .bad
def sNeg (f : SE) : SE := fun env => match f env with
  | .ok (.d (.int i), e) => .ok (.d (.int (-i)), e)
  | .exc x e => .exc x e
  | _ => .bad
def vNeg (g : VE) : VE := fun env => match g env with
  | .ok (.d (.int i)) => .ok (.d (.int (-i)))
  | _ => .bad
section
variable {G : Gx} {X : Cx} {W : WX'} {e a b c : Expr} {f g : SE} {gv : VE} {fc : SB} {te tf tg : TE} {tc : TT} {pos : Pos} {rest : List Expr}
theorem SEok.notV (h : SEok G W te f) : SEok G W (tNotV te) (sNotV f) := SEok.mk' fun Z H σ env S Q gd p => by
  unfold sNotV at p
  refine h.use gd ?_
  cases e : f env with
  | ok q =>
    obtain ⟨m, e1⟩ := q
    rw [e] at p
    cases m with
    | d x =>
      cases x with
      | bl k => exact fun v Z' H' S' T s' g' l => ⟨k, rep_bl l.rep, p (.bl !k) Z' H' S' (fun _ => False) (s'.weak fun _ z => .inl (z.elim id fun z => z.elim)) g' (Hld.data (by simp [RepD]))⟩
      | _ => exact p.elim
    | _ => exact p.elim
  | exc x e1 => rw [e] at p; exact p
  | bad => rw [e] at p; exact p.elim
theorem SEok.andV (h : SEok G W tf f) (h' : SEok G W tg g) : SEok G W (tAndV tf tg) (sAndV f g) := SEok.mk' fun Z H σ env S Q gd p => by
  unfold sAndV at p
  refine h.use gd ?_
  cases e : f env with
  | ok q =>
    obtain ⟨m, e1⟩ := q
    rw [e] at p
    cases m with
    | d x =>
      cases x with
      | bl k =>
        intro v Z' H' S' T s' g' l
        have s2 : Stp Z H (U S) Z' H' (U S') := s'.weak fun _ z => .inl z
        refine ⟨k, rep_bl l.rep, ?_⟩
        cases k with
        | true => rw [if_pos rfl]; exact h'.use g' (p.shift s2)
        | false => rw [if_neg Bool.false_ne_true]; exact p (.bl false) Z' H' S' (fun _ => False) (s2.weak fun _ z => z.elim id fun z => z.elim) g' (Hld.data (by simp [RepD]))
      | _ => exact p.elim
    | _ => exact p.elim
  | exc x e1 => rw [e] at p; exact p
  | bad => rw [e] at p; exact p.elim
theorem SEok.orV (h : SEok G W tf f) (h' : SEok G W tg g) : SEok G W (tOrV tf tg) (sOrV f g) := SEok.mk' fun Z H σ env S Q gd p => by
  unfold sOrV at p
  refine h.use gd ?_
  cases e : f env with
  | ok q =>
    obtain ⟨m, e1⟩ := q
    rw [e] at p
    cases m with
    | d x =>
      cases x with
      | bl k =>
        intro v Z' H' S' T s' g' l
        have s2 : Stp Z H (U S) Z' H' (U S') := s'.weak fun _ z => .inl z
        refine ⟨k, rep_bl l.rep, ?_⟩
        cases k with
        | false => rw [if_neg Bool.false_ne_true]; exact h'.use g' (p.shift s2)
        | true => rw [if_pos rfl]; exact p (.bl true) Z' H' S' (fun _ => False) (s2.weak fun _ z => z.elim id fun z => z.elim) g' (Hld.data (by simp [RepD]))
      | _ => exact p.elim
    | _ => exact p.elim
  | exc x e1 => rw [e] at p; exact p
  | bad => rw [e] at p; exact p.elim
theorem SEok.ifE (hc : SBok G W tc fc) (h : SEok G W tf f) (h' : SEok G W tg g) : SEok G W (tIf tc tf tg) (sIf fc f g) := SEok.mk' fun Z H σ env S Q gd p => by
  unfold sIf at p
  have hh := hc Z H σ env S (fun b H1 => if b = true then tf σ H1 Q else tg σ H1 Q) gd
  cases e : fc env with
  | ok q =>
    obtain ⟨k, e1⟩ := q
    rw [e] at p hh
    cases k with
    | true => exact hh fun Z' H' S' s' g' => by rw [if_pos rfl]; exact h.use g' (p.shift s')
    | false => exact hh fun Z' H' S' s' g' => by rw [if_neg Bool.false_ne_true]; exact h'.use g' (p.shift s')
  | exc x e1 => rw [e] at p hh; exact hh p
  | bad => rw [e] at p; exact p.elim
theorem xe_not (h : PEs G X W a f) : PEs G X W (.UnaryOp .Not a pos) (sNotV f) := by
  obtain ⟨t, p, h⟩ := h.ex
  exact ⟨_, pe_not p, h.notV⟩
theorem xe_and (h : PEs G X W a f) (h' : PEs G X W (.BoolOp .And (b :: rest) pos) g) : PEs G X W (.BoolOp .And (a :: b :: rest) pos) (sAndV f g) := by
  obtain ⟨t, p, h⟩ := h.ex
  obtain ⟨u, q, h'⟩ := h'.ex
  exact ⟨_, pe_and p q, h.andV h'⟩
theorem xe_or (h : PEs G X W a f) (h' : PEs G X W (.BoolOp .Or (b :: rest) pos) g) : PEs G X W (.BoolOp .Or (a :: b :: rest) pos) (sOrV f g) := by
  obtain ⟨t, p, h⟩ := h.ex
  obtain ⟨u, q, h'⟩ := h'.ex
  exact ⟨_, pe_or p q, h.orV h'⟩
theorem xe_one {op} (h : PEs G X W a f) : PEs G X W (.BoolOp op [a] pos) f := by
  obtain ⟨t, p, h⟩ := h.ex
  exact ⟨_, pe_one p, h⟩
theorem xe_if (hc : PBs G X W c fc) (h : PEs G X W a f) (h' : PEs G X W b g) : PEs G X W (.IfExp c a b pos) (sIf fc f g) := by
  obtain ⟨t, p, hc⟩ := hc.ex
  obtain ⟨u, q, h⟩ := h.ex
  obtain ⟨v, r, h'⟩ := h'.ex
  exact ⟨_, pe_ifExp p q r, SEok.ifE hc h h'⟩
theorem xv_neg (h : PVs G X a gv) : PVs G X (.UnaryOp .USub a pos) (vNeg gv) := by
  obtain ⟨t, p, h⟩ := h.ex
  refine ⟨_, pe_un un_neg p, fun Z H σ env S Q gd => ?_⟩
  unfold vNeg
  have h1 := h Z H σ env S (fun x H1 => rU (fun i => .int (-i)) x H1 Q) gd
  split
  · rename_i e2
    split at e2
    · rename_i i ei
      cases e2
      rw [ei] at h1
      exact fun q => h1 fun v T _ r => ⟨i, rep_int r, q _ (fun _ => False) (fun _ z => z.elim) (by simp [RepM, RepD])⟩
    · cases e2
  · trivial
theorem xe_neg (h : PEs G X W a f) : PEs G X W (.UnaryOp .USub a pos) (sNeg f) := by
  obtain ⟨t, p, h⟩ := h.ex
  refine ⟨_, pe_un un_neg p, SEok.mk' fun Z H σ env S Q gd p => ?_⟩
  unfold sNeg at p
  refine h.use gd ?_
  cases e : f env with
  | ok q =>
    obtain ⟨m, e1⟩ := q
    rw [e] at p
    cases m with
    | d x =>
      cases x with
      | int k => exact fun v Z' H' S' T s' g' l => ⟨k, rep_int l.rep, p (.int (-k)) Z' H' S' (fun _ => False) (s'.weak fun _ z => .inl (z.elim id fun z => z.elim)) g' (Hld.data (by simp [RepD]))⟩
      | _ => exact p.elim
    | _ => exact p.elim
  | exc x e1 => rw [e] at p; exact p
  | bad => rw [e] at p; exact p.elim
end
end FL

set_option maxHeartbeats 2000000
/-! FLM: a def stands; the end of a law. -/
namespace FL
open PySem L2 Classical
section
variable {P : Program} {w : World} {mg : Str → Option Value} {base : Heap} {G : Gx}
theorem fnA_mk {x : Str} {st : Stmt} {f : Addr} {fd : FuncData} {N ps : List Str} {k n : Nat} (pr : List Nat) {b : SS} (F : Fun G.K x x st f fd) (hm : mg x = some (.ref f)) (hb : Binds G.K fd ps []) (S : FnScope N ps (defScope st)) (hn : ps.length = n)
    (hbody : ∀ (cdv : Value) (A : Around) (outer : List PySem.Env) (s : Shared) (H : Hp) (E : XK), Room k (cxOf (L2.CX P w) P w G.K mg base N x (defScope st) f cdv A outer s H E).A →
      Takes (cxOf (L2.CX P w) P w G.K mg base N x (defScope st) f cdv A outer s H E) (fun cls d _ H => E cls d H) →
      PassesOwn (model P w) (cxOf (L2.CX P w) P w G.K mg base N x (defScope st) f cdv A outer s H E).A (cxOf (L2.CX P w) P w G.K mg base N x (defScope st) f cdv A outer s H E).env (cxOf (L2.CX P w) P w G.K mg base N x (defScope st) f cdv A outer s H E).xe →
      PSs' G (cxOf (L2.CX P w) P w G.K mg base N x (defScope st) f cdv A outer s H E) (fun cls d _ H => E cls d H) (Pn n pr) (defBody st) b) :
    FnA P w G mg base (k + 1) x n (runF N.length n pr b) := ⟨f, fd, ps, fn_ok pr F S hn hbody, hm, F.kp, hb⟩
end
theorem xe_call' {G : Gx} {X : Cx} {W : WX'} {e : Expr} {es : List Expr} {fs : SA} {bk : Bk} {F : FS} {n k k' : Nat} {x : Str} {p pos : Pos} (h : FnA X.prog X.w G X.mg X.base k x n F) (hK : G.K = X.K) (hr : Room k' X.A) (hk : k ≤ k') (tk : Takes X W) (ha : PAs' G X W (e :: es) bk fs) (hn : ∀ env ms e1, fs env = .ok (ms, e1) → ms.length = n) (hg : Gl X x := by rfl) (hdb : (x == ("__debug__" : Str)) = false := by decide)
    (he : starEach (e :: es) X.env = (false, eval e X.env) :: starEach es X.env := by rfl) (hpl : (backTo pos (starEach es X.env)).any (·.1) = false := by rfl) : PEs G X W (.Call (.Name x p) (e :: es) [] pos) (sCall F bk fs) :=
  xe_call h hK (hr.mono hk) tk ha hn hg hdb he hpl
theorem xe_call0' {G : Gx} {X : Cx} {W : WX'} {F : FS} {k k' : Nat} {x : Str} {p pos : Pos} (h : FnA X.prog X.w G X.mg X.base k x 0 F) (hK : G.K = X.K) (hr : Room k' X.A) (hk : k ≤ k') (tk : Takes X W) (hg : Gl X x := by rfl) (hdb : (x == ("__debug__" : Str)) = false := by decide) : PEs G X W (.Call (.Name x p) [] [] pos) (sCall F [] saNil) :=
  xe_call0 h hK (hr.mono hk) tk hg hdb
theorem repDs_ints {G : Gx} {Z : Hp} : ∀ ns : List Int, RepDs G Z (ns.map D.int) (ns.map V.int)
  | [] => by simp [RepDs]
  | n :: ns => by
    simp only [List.map_cons, RepDs]
    exact ⟨_, _, rfl, by simp [RepD], repDs_ints ns⟩
theorem sp_law {G : Gx} {F : FS} {H : Hp} {a : Addr} {ns : List Int} (h : ∃ ms', F [.d (.scr (ns.map D.int))] = .ok (.d (.bl true), ms')) (hS : SqL G.K H a (ns.map V.int)) : spF G 1 F [.ref a] H (fun v _ => v = .bl true) fun _ _ _ => False := by
  obtain ⟨ms', h⟩ := h
  refine ⟨rfl, H, [.d (.scr (ns.map D.int))], fun _ _ => False, ?_, ?_⟩
  · refine ⟨Same.refl _, fun i m e => ?_, fun i j a _ h => h.elim, fun i a h => h.elim, fun i a h => h.elim, rfl⟩
    cases i with
    | zero =>
      cases e
      refine ⟨.ref a, rfl, ?_⟩
      simp only [RepM, RepD]
      exact ⟨a, _, rfl, hS, repDs_ints ns⟩
    | succ i => simp at e
  · rw [h]
    exact fun v Z' H' T' Tr _ _ l => rep_bl l.rep
theorem cx_no {P : Program} {w : World} {H : Hp} {s : Shared} {e : Value} {s' : Shared} (h : L2.CX P w [] H s (fun _ _ _ => False) e s') : False := by
  obtain ⟨_, _, _, _, _, _, _, _, _, _, _, _, z⟩ := h
  exact z
theorem bits_lt {n : Int} (h : Builtin.Int.intBits n ≤ 1048576) : n.natAbs.log2 < 1048576 := by
  unfold Builtin.Int.intBits at h
  by_cases e : n = 0
  · subst e; decide
  · have e2 : (n == 0) = false := by simpa using e
    rw [e2] at h
    have h' : n.natAbs.log2 + 1 ≤ 1048576 := h
    omega
open PySem.Spec PyProof.Rows in
theorem walk {l : PySem.W.OpenLaw} {k : Nat} {q : Program} {loose : List Str} {XP : (Str → Option Value) → Heap → Prop} {YP : World → Heap → Prop} {d : DefRec} {x : Str}
    (hn : l.most = some 63) (hdf : d.params.defaults = []) (hr : Room k callerA)
    (F : ∀ (w : World) (mg : Str → Option Value) (fa : Addr) (h : Heap), YP w h → h.Ns mainGlobals mg → mg d.name = some (.ref fa) →
      ∃ (G : Gx) (fd : FuncData) (F : FS), G.K.In h ∧ (∀ (s : Shared) (u : Value), BindsTo s fd ⟨[u], []⟩ [(x, u)]) ∧
        (∀ ns : List Int, ns.length ≤ 63 → (∀ z ∈ ns, z.natAbs.log2 < 1048576) → ∃ ms', F [.d (.scr (ns.map D.int))] = .ok (.d (.bl true), ms')) ∧
        ∀ base : Heap, G.K.In base → base.Ns mainGlobals mg → FnOk l.prog w G.K mg base (L2.CX l.prog w) k fa fd [x] (spF G 1 F)) :
    PySem.W.WalkO q loose XP YP l.row.toRowW d [] (fun f vs => PySem.call f vs) := by
  refine Att.attach_callB hn hdf fun w s₀ s₁ mg mb fa o pm cd doc a vs ns G Y ho hd hcd hmg hobj hints hlen hbits hg => ?_
  obtain ⟨Gx, fd, Fs, KX, hb, hsp, hF⟩ := F w mg fa _ Y G.T.g hmg
  exact law_call KX G.T.g G.T.b G.T.builtins G.T.nolimit hg hobj hints (Nat.le_trans hlen (by decide)) hr hF hb (fun H hO hS => sp_law (hsp ns hlen fun z hz => bits_lt (hbits z hz)) hS) fun H e s' => cx_no
end FL

set_option maxHeartbeats 2000000
/-! FLN: a, b = x, y side by side. -/
namespace FL
open PySem L2 Classical
def setAll {α : Type} : List Nat → List α → List (Option α) → List (Option α)
  | i :: is, v :: vs, σ => setAll is vs (σ.set i (some v))
  | _, _, σ => σ
def ssPar (is : List Nat) (fs : SA) : SS := fun env => match fs env with
  | .ok (ms, e) => if ms.length = is.length ∧ (is.all fun i => decide (i < e.length)) = true then .ok (.nx, setAll is ms e) else .bad
  | .exc x e => .exc x e
  | .bad => .bad
theorem row_put {G : Gx} {Z H : Hp} : ∀ (is : List Nat) (vs : List V) (ms : List M) (T : Rs) (σ : St) (env : Env) (S : Rs), Good G Z H (vs.map some) (ms.map some) T → Good G Z H σ env S → (∀ a, U T a → ¬ U S a) → ms.length = is.length → (∀ i ∈ is, i < env.length) →
    ∃ S', Good G Z H (setAll is vs σ) (setAll is ms env) S' ∧ ∀ a, U S' a → U S a ∨ U T a
  | [], vs, ms, T, σ, env, S, r, g, d, hl, hi => by
    have : ms = [] := List.length_eq_zero_iff.mp hl
    subst this
    have : vs = [] := by have := r.len; exact List.length_eq_zero_iff.mp (by simpa using this.symm)
    subst this
    exact ⟨S, g, fun a z => .inl z⟩
  | i :: is, [], ms, T, σ, env, S, r, g, d, hl, hi => by have := r.len; simp at this; subst this; simp at hl
  | i :: is, v :: vs, [], T, σ, env, S, r, g, d, hl, hi => by simp at hl
  | i :: is, v :: vs, m :: ms, T, σ, env, S, r, g, d, hl, hi => by
    obtain ⟨w, hw, h⟩ := r.head
    cases hw
    have g1 := g.put (i := i) (m := m) (T := T 0) (v := v) ⟨h.rep, h.al, h.zf, fun a z => d a ⟨0, z⟩⟩ (hi i (by simp))
    obtain ⟨S', g', h'⟩ := row_put is vs ms (fun j => T (j + 1)) (σ.set i (some v)) (env.set i (some m)) (S.set i (T 0)) r.tail g1 (fun a ⟨j, z⟩ w => (Rs.set_sub w).elim (d a ⟨j + 1, z⟩) fun w => h.dj a w ⟨j, z⟩) (by simpa using hl) (fun k hk => by rw [List.length_set]; exact hi k (by simp [hk]))
    exact ⟨S', g', fun a z => (h' a z).elim (fun z => (Rs.set_sub z).elim .inl fun z => .inr ⟨0, z⟩) fun ⟨j, z⟩ => .inr ⟨j + 1, z⟩⟩
theorem setAll_fix {P : Px} : ∀ (is : List Nat) (vs : List V) (σ : St), (∀ i ∈ is, ¬ P i) → Fix P σ (setAll is vs σ)
  | [], _, _, _ => Fix.refl
  | _ :: _, [], _, _ => Fix.refl
  | i :: is, v :: vs, σ, h => by
    refine Fix.trans ⟨fun j hj => ?_, by rw [List.length_set]⟩ (setAll_fix is vs (σ.set i (some v)) fun k hk => h k (by simp [hk]))
    exact List.getElem?_set_ne fun (z : i = j) => h i (by simp) (by rw [z]; exact hj)
section
variable {G : Gx} {X : Cx} {W : WX'} {P : Px} {fs : SA} {bk : Bk}
theorem SSok.par {t : TA} (is : List Nat) (hP : ∀ i ∈ is, ¬ P i) (h : SAok' G W bk t fs) {u : TS} (hu : ∀ D σ H, t σ H (fun vs H1 => vs.length = is.length ∧ D.nx (setAll is vs σ) H1) → u D σ H) : SSok G W P u (ssPar is fs) := fun D Z H σ env S gd p => by
  unfold ssPar at p
  refine hu D σ H ?_
  have h1 := h Z H σ env S (fun vs H1 => vs.length = is.length ∧ D.nx (setAll is vs σ) H1) gd
  cases e : fs env with
  | ok q =>
    obtain ⟨ms, e1⟩ := q
    rw [e] at p h1
    simp only at p
    split at p
    · rename_i hc
      refine h1 fun vs Z' H' S' T s' g' row d kk => ?_
      have hl : vs.length = ms.length := by have := row.len; simpa using this.symm
      obtain ⟨S2, g2, u2⟩ := row_put is vs ms T σ e1 S' row g' d hc.1 (fun i hi => by have := List.all_eq_true.mp hc.2 i hi; simpa using this)
      exact ⟨hl.trans hc.1, p (setAll is vs σ) Z' H' S2 (setAll_fix is vs σ hP) (s'.weak fun a z => u2 a z) g2⟩
    · exact p.elim
  | exc x e1 =>
    rw [e] at p h1
    exact h1 fun cls d Z' H' S' hx s' g' => p cls d σ Z' H' S' hx Fix.refl s' g'
  | bad => rw [e] at p; exact p.elim
theorem xs_par2 (i j : Nat) {x y : Str} {a b : Expr} {px py pt pos : Pos} {kt k2 pt2} (hc : X.calm = true) (hN : X.N.Nodup) (ha : PAs' G X W [a, b] bk fs)
    (hw : swappedStores [.Tuple [.Name x px, .Name y py] kt pt] (.Tuple [a, b] k2 pt2) X.env = pure (some [x, y])) (hP : ∀ k ∈ [i, j], ¬ P k := by decide) (hi : X.N[i]? = some x := by rfl) (hj : X.N[j]? = some y := by rfl) (hij : i ≠ j := by decide)
    (hx : X.env.scope.names.lookup x = some .local := by rfl) (hy : X.env.scope.names.lookup y = some .local := by rfl)
    (hs : swapsWithSole [.Tuple [.Name x px, .Name y py] kt pt] (.Tuple [a, b] k2 pt2) pos.line X.env = pure false := by rfl) :
    PS' G X W P (.Assign [.Tuple [.Name x px, .Name y py] kt pt] (.Tuple [a, b] k2 pt2) pos) (ssPar [i, j] fs) := by
  obtain ⟨t, p, ha⟩ := ha.ex
  refine ⟨_, ps_par hc hN hi hj hij hx hy p hw hs, SSok.par [i, j] hP ha fun D σ H q => ?_⟩
  unfold tPar
  have e : (fun vs H1 => vs.length = [i, j].length ∧ D.nx (setAll [i, j] vs σ) H1) = (fun vs H1 => ∃ v w, vs = [v, w] ∧ D.nx ((σ.set i (some v)).set j (some w)) H1) := by
    funext vs H1
    apply propext
    constructor
    · rintro ⟨hl, q⟩
      match vs, hl with
      | [v, w], _ => exact ⟨v, w, rfl, q⟩
    · rintro ⟨v, w, rfl, q⟩
      exact ⟨rfl, q⟩
  rw [← e]
  exact q
theorem xs_par3 (i j l : Nat) {x y z : Str} {a b c : Expr} {px py pz pt pos : Pos} {kt k2 pt2} (hc : X.calm = true) (hN : X.N.Nodup) (ha : PAs' G X W [a, b, c] bk fs)
    (hw : swappedStores [.Tuple [.Name x px, .Name y py, .Name z pz] kt pt] (.Tuple [a, b, c] k2 pt2) X.env = pure (some [x, y, z])) (hP : ∀ k ∈ [i, j, l], ¬ P k := by decide) (hi : X.N[i]? = some x := by rfl) (hj : X.N[j]? = some y := by rfl) (hl : X.N[l]? = some z := by rfl) (hij : i ≠ j := by decide) (hil : i ≠ l := by decide) (hjl : j ≠ l := by decide)
    (hx : X.env.scope.names.lookup x = some .local := by rfl) (hy : X.env.scope.names.lookup y = some .local := by rfl) (hz : X.env.scope.names.lookup z = some .local := by rfl)
    (hs : swapsWithSole [.Tuple [.Name x px, .Name y py, .Name z pz] kt pt] (.Tuple [a, b, c] k2 pt2) pos.line X.env = pure false := by rfl) :
    PS' G X W P (.Assign [.Tuple [.Name x px, .Name y py, .Name z pz] kt pt] (.Tuple [a, b, c] k2 pt2) pos) (ssPar [i, j, l] fs) := by
  obtain ⟨t, p, ha⟩ := ha.ex
  refine ⟨_, ps_par3 hc hN hi hj hl hij hil hjl hx hy hz p hw hs, SSok.par [i, j, l] hP ha fun D σ H q => ?_⟩
  unfold tPar3
  have e : (fun vs H1 => vs.length = [i, j, l].length ∧ D.nx (setAll [i, j, l] vs σ) H1) = (fun vs H1 => ∃ u v w, vs = [u, v, w] ∧ D.nx (((σ.set i (some u)).set j (some v)).set l (some w)) H1) := by
    funext vs H1
    apply propext
    constructor
    · rintro ⟨hl, q⟩
      match vs, hl with
      | [u, v, w], _ => exact ⟨u, v, w, rfl, q⟩
    · rintro ⟨u, v, w, rfl, q⟩
      exact ⟨rfl, q⟩
  rw [← e]
  exact q
end
end FL

set_option maxHeartbeats 2000000
/-! FLS: reckoning with the semantics. -/
namespace FL
open PySem L2 Classical

theorem oAdd_int (i j : Int) : oAdd (.d (.int i)) (.d (.int j)) = .ok (.int (i + j)) := rfl
theorem oSub_int (i j : Int) : oSub (.d (.int i)) (.d (.int j)) = .ok (.int (i - j)) := rfl
theorem oMul_int {i j : Int} (h : CMulD i j) : oMul (.d (.int i)) (.d (.int j)) = .ok (.int (i * j)) := if_pos h
theorem oFdiv_int {i j : Int} (h : CFdiv i j) : oFdiv (.d (.int i)) (.d (.int j)) = .ok (.int (fdivI i j)) := if_pos h
theorem oMod_int {i j : Int} (h : j ≠ 0) : oMod (.d (.int i)) (.d (.int j)) = .ok (.int (modI i j)) := if_pos h
theorem oPow_int {i j : Int} (h : CPowD i j) : oPow (.d (.int i)) (.d (.int j)) = .ok (.int (i ^ j.toNat)) := if_pos h
theorem oLt_int (i j : Int) : oLt (.d (.int i)) (.d (.int j)) = .ok (.bl (decide (i < j))) := rfl
theorem oLe_int (i j : Int) : oLe (.d (.int i)) (.d (.int j)) = .ok (.bl (decide (i ≤ j))) := rfl
theorem oGt_int (i j : Int) : oGt (.d (.int i)) (.d (.int j)) = .ok (.bl (decide (j < i))) := rfl
theorem oGe_int (i j : Int) : oGe (.d (.int i)) (.d (.int j)) = .ok (.bl (decide (j ≤ i))) := rfl
theorem plain_int (i : Int) : (toPy (.int i)).plain = true ∧ (toPy (.int i)).depth ≤ 60 := by
  constructor
  · simp [toPy, PyData.plain]
  · simp [toPy, PyData.depth]
/-- data that == tells at once -/
def flatD0 : D → Bool
  | .non => true | .bl _ => true | .int _ => true | .str _ => true
  | _ => false
theorem flat0_plain : ∀ {x : D}, flatD0 x = true → (toPy x).plain = true ∧ (toPy x).depth ≤ 60
  | .non, _ => by simp [toPy, PyData.plain, PyData.depth]
  | .bl _, _ => by simp [toPy, PyData.plain, PyData.depth]
  | .int _, _ => by simp [toPy, PyData.plain, PyData.depth]
  | .str _, _ => by simp [toPy, PyData.plain, PyData.depth]
theorem toPys_map : ∀ xs : List D, toPys xs = xs.map toPy
  | [] => rfl
  | x :: xs => by simp [toPys, toPys_map xs]
/-- plain, and at most k deep -/
def Pl (k : Nat) (x : D) : Prop := (toPy x).plain = true ∧ (toPy x).depth ≤ k
theorem pl_flat {x : D} {k : Nat} (h : flatD0 x = true) : Pl k x := by
  refine ⟨(flat0_plain h).1, ?_⟩
  cases x <;> simp [flatD0] at h <;> simp [toPy, PyData.depth]
theorem oEq_pl {m1 m2 : M} (h1 : Pl 60 (fz m1)) (h2 : Pl 60 (fz m2)) : oEq m1 m2 = .ok (.bl (eqD (fz m1) (fz m2))) := if_pos ⟨h1.1, h2.1, Nat.le_trans (Nat.min_le_left _ _) h1.2⟩
theorem oNe_pl {m1 m2 : M} (h1 : Pl 60 (fz m1)) (h2 : Pl 60 (fz m2)) : oNe m1 m2 = .ok (.bl (!eqD (fz m1) (fz m2))) := if_pos ⟨h1.1, h2.1, Nat.le_trans (Nat.min_le_left _ _) h1.2⟩
theorem beq_int (i j : Int) : (i == j) = decide (i = j) := by
  by_cases h : i = j
  · subst h; simp
  · simp [h]
theorem oEq_int (i j : Int) : oEq (.d (.int i)) (.d (.int j)) = .ok (.bl (decide (i = j))) := by
  rw [oEq_pl (pl_flat rfl) (pl_flat rfl)]
  simp [eqD, fz, toPy, PyData.eqv, beq_int]
theorem oNe_int (i j : Int) : oNe (.d (.int i)) (.d (.int j)) = .ok (.bl (!decide (i = j))) := by
  rw [oNe_pl (pl_flat rfl) (pl_flat rfl)]
  simp [eqD, fz, toPy, PyData.eqv, beq_int]
theorem modI_pos {i j : Int} (h : 0 < j) : modI i j = i % j := if_pos h
theorem fdivI_pos {i j : Int} (h : 0 < j) : fdivI i j = i / j := if_pos h

/-! ### loops, step by step -/
theorem ssWhile_go {c : SB} {b : SS} {env e e2 : Env} {fl : Fl} (hc : c env = .ok (true, e)) (hb : b e = .ok (fl, e2)) (hf : fl = .nx ∨ fl = .ct) : ssWhile c b env = ssWhile c b e2 := by
  have key : ∀ n, wl c b (n + 1) env = wl c b n e2 := fun n => by
    show (match c env with
      | .ok (true, e) => match b e with
        | .ok (.nx, e2) => wl c b n e2
        | .ok (.ct, e2) => wl c b n e2
        | .ok (.brk, e2) => .ok (.nx, e2)
        | .ok (.ret m, e2) => .ok (.ret m, e2)
        | .exc x e2 => .exc x e2
        | .bad => .bad
      | .ok (false, e) => .ok (.nx, e)
      | .exc x e => .exc x e
      | .bad => .bad) = _
    rw [hc]
    simp only [hb]
    rcases hf with rfl | rfl <;> rfl
  by_cases ex : ∃ n, wl c b n e2 ≠ .bad
  · obtain ⟨n, hn⟩ := ex
    rw [ssWhile_of n rfl hn, ssWhile_of (n + 1) (key n) hn]
  · have ex2 : ¬ ∃ n, wl c b n env ≠ .bad := by
      rintro ⟨n, hn⟩
      cases n with
      | zero => exact hn rfl
      | succ n => rw [key] at hn; exact ex ⟨n, hn⟩
    unfold ssWhile
    rw [dif_neg ex, dif_neg ex2]
theorem ssWhile_end {c : SB} {b : SS} {env e : Env} (hc : c env = .ok (false, e)) : ssWhile c b env = .ok (.nx, e) := by
  refine ssWhile_of 1 ?_ (fun z => nomatch z)
  show (match c env with
      | .ok (true, e) => match b e with
        | .ok (.nx, e2) => wl c b 0 e2
        | .ok (.ct, e2) => wl c b 0 e2
        | .ok (.brk, e2) => .ok (.nx, e2)
        | .ok (.ret m, e2) => .ok (.ret m, e2)
        | .exc x e2 => .exc x e2
        | .bad => .bad
      | .ok (false, e) => .ok (.nx, e)
      | .exc x e => .exc x e
      | .bad => .bad) = _
  rw [hc]
theorem ssWhile_ret {c : SB} {b : SS} {env e e2 : Env} {m : M} (hc : c env = .ok (true, e)) (hb : b e = .ok (.ret m, e2)) : ssWhile c b env = .ok (.ret m, e2) := by
  refine ssWhile_of 1 ?_ (fun z => nomatch z)
  show (match c env with
      | .ok (true, e) => match b e with
        | .ok (.nx, e2) => wl c b 0 e2
        | .ok (.ct, e2) => wl c b 0 e2
        | .ok (.brk, e2) => .ok (.nx, e2)
        | .ok (.ret m, e2) => .ok (.ret m, e2)
        | .exc x e2 => .exc x e2
        | .bad => .bad
      | .ok (false, e) => .ok (.nx, e)
      | .exc x e => .exc x e
      | .bad => .bad) = _
  rw [hc]
  simp only [hb]
theorem ssWhile_brk {c : SB} {b : SS} {env e e2 : Env} (hc : c env = .ok (true, e)) (hb : b e = .ok (.brk, e2)) : ssWhile c b env = .ok (.nx, e2) := by
  refine ssWhile_of 1 ?_ (fun z => nomatch z)
  show (match c env with
      | .ok (true, e) => match b e with
        | .ok (.nx, e2) => wl c b 0 e2
        | .ok (.ct, e2) => wl c b 0 e2
        | .ok (.brk, e2) => .ok (.nx, e2)
        | .ok (.ret m, e2) => .ok (.ret m, e2)
        | .exc x e2 => .exc x e2
        | .bad => .bad
      | .ok (false, e) => .ok (.nx, e)
      | .exc x e => .exc x e
      | .bad => .bad) = _
  rw [hc]
  simp only [hb]
end FL

set_option maxHeartbeats 2000000
/-! FLT: plain law: fractions in lowest terms, sizes. -/
namespace FL
open PySem L2 Classical

theorem gcd_step {a b : Int} (hb : 0 < b) : Int.gcd b (a % b) = Int.gcd a b := by
  apply Nat.dvd_antisymm
  · apply Int.natCast_dvd_natCast.mp
    apply Int.dvd_coe_gcd
    · have h1 : (Int.gcd b (a % b) : Int) ∣ b := Int.gcd_dvd_left ..
      have h2 : (Int.gcd b (a % b) : Int) ∣ a % b := Int.gcd_dvd_right ..
      have h3 : a = b * (a / b) + a % b := (Int.mul_ediv_add_emod a b).symm
      exact (Int.dvd_iff_emod_eq_zero.mp (show (Int.gcd b (a % b) : Int) ∣ b * (a / b) + a % b from Int.dvd_add (Int.dvd_mul_of_dvd_left h1) h2) |> fun z => Int.dvd_of_emod_eq_zero (by rw [← h3] at z; exact z))
    · exact Int.gcd_dvd_left ..
  · apply Int.natCast_dvd_natCast.mp
    apply Int.dvd_coe_gcd
    · exact Int.gcd_dvd_right ..
    · have h1 : (Int.gcd a b : Int) ∣ a := Int.gcd_dvd_left ..
      have h2 : (Int.gcd a b : Int) ∣ b := Int.gcd_dvd_right ..
      have h3 : a % b = a - b * (a / b) := by have := Int.mul_ediv_add_emod a b; omega
      rw [h3]
      exact Int.dvd_sub h1 (Int.dvd_mul_of_dvd_left h2)
theorem gcd_abs (a b : Int) : Int.gcd (if a < 0 then -a else a) (if b < 0 then -b else b) = Int.gcd a b := by
  have e : ∀ x : Int, (if x < 0 then -x else x).natAbs = x.natAbs := fun x => by split <;> omega
  unfold Int.gcd
  rw [e, e]
theorem gcd_zero_right {a : Int} (h : 0 ≤ a) : (Int.gcd a 0 : Int) = a := by
  rw [Int.gcd_zero_right]; omega
def gI (a b : Int) : Int := (Int.gcd a b : Int)
theorem gI_pos {a b : Int} (h : b ≠ 0) : 0 < gI a b := by have := Int.gcd_pos_of_ne_zero_right a h; unfold gI; omega
theorem gI_dvdL (a b : Int) : gI a b ∣ a := Int.gcd_dvd_left ..
theorem gI_dvdR (a b : Int) : gI a b ∣ b := Int.gcd_dvd_right ..
theorem gI_le {a b : Int} (h : b ≠ 0) : (gI a b).natAbs ≤ b.natAbs := Nat.le_of_dvd (by omega) (Int.natAbs_dvd_natAbs.mpr (gI_dvdR a b))
def lowT (t b : Int) : Int := t / gI t b
def lowB (t b : Int) : Int := b / gI t b
theorem lowT_mul {t b : Int} : lowT t b * gI t b = t := Int.ediv_mul_cancel (gI_dvdL t b)
theorem lowB_mul {t b : Int} : lowB t b * gI t b = b := Int.ediv_mul_cancel (gI_dvdR t b)
theorem low_cross {t b : Int} : lowT t b * b = t * lowB t b := by
  have h1 := lowT_mul (t := t) (b := b)
  have h2 := lowB_mul (t := t) (b := b)
  calc lowT t b * b = lowT t b * (lowB t b * gI t b) := by rw [h2]
    _ = (lowT t b * gI t b) * lowB t b := by rw [Int.mul_comm (lowB t b), ← Int.mul_assoc]
    _ = t * lowB t b := by rw [h1]
theorem lowB_pos {t b : Int} (h : 0 < b) : 0 < lowB t b := by
  have h1 := gI_pos (a := t) (b := b) (by omega)
  have h2 := lowB_mul (t := t) (b := b)
  refine Int.not_le.mp fun q => ?_
  have := Int.mul_le_mul_of_nonneg_right q (Int.le_of_lt h1)
  omega
theorem gI_scale {t b k : Int} (h : 0 < k) : gI (t * k) (b * k) = gI t b * k := by
  unfold gI
  rw [Int.gcd_mul_right]
  rw [Int.natCast_mul, Int.natAbs_of_nonneg (Int.le_of_lt h)]
theorem low_scale {t b k : Int} (h : 0 < k) : lowT (t * k) (b * k) = lowT t b ∧ lowB (t * k) (b * k) = lowB t b := by
  unfold lowT lowB
  rw [gI_scale h]
  exact ⟨Int.mul_ediv_mul_of_pos_left _ _ h, Int.mul_ediv_mul_of_pos_left _ _ h⟩
theorem low_eq {t b t' b' : Int} (h : 0 < b) (h' : 0 < b') (e : t * b' = t' * b) : lowT t b = lowT t' b' ∧ lowB t b = lowB t' b' := by
  have h1 := low_scale (t := t) (b := b) h'
  have h2 := low_scale (t := t') (b := b') h
  rw [e, Int.mul_comm b b'] at h1
  exact ⟨h1.1.symm.trans h2.1, h1.2.symm.trans h2.2⟩
theorem low_gcd {t b : Int} (h : b ≠ 0) : Int.gcd (lowT t b) (lowB t b) = 1 := by
  have hg := gI_pos (a := t) h
  have e := Int.gcd_mul_right (lowT t b) (gI t b) (lowB t b)
  rw [lowT_mul, lowB_mul] at e
  have e2 : (gI t b).natAbs = Int.gcd t b := by unfold gI; simp
  rw [e2] at e
  have hg2 : 0 < Int.gcd t b := by unfold gI at hg; omega
  have e3 : 1 * Int.gcd t b = Int.gcd (lowT t b) (lowB t b) * Int.gcd t b := by omega
  exact (Nat.eq_of_mul_eq_mul_right hg2 e3).symm
theorem natAbs_ediv {a b : Int} (h : b ∣ a) : (a / b).natAbs ≤ a.natAbs := by
  rw [Int.natAbs_ediv_of_dvd h]
  exact Nat.div_le_self _ _
theorem lowT_le {t b : Int} : (lowT t b).natAbs ≤ t.natAbs := natAbs_ediv (gI_dvdL t b)
theorem lowB_le {t b : Int} : (lowB t b).natAbs ≤ b.natAbs := natAbs_ediv (gI_dvdR t b)
theorem fdiv_neg {a g : Int} (hg : 0 < g) (h : g ∣ a) : fdivI a (0 - g) = (-a) / g := by
  unfold fdivI
  rw [if_neg (by omega)]
  obtain ⟨c, rfl⟩ := h
  have e1 : g * c = (-c) * (0 - g) := by
    rw [Int.zero_sub, Int.mul_neg, Int.neg_mul, Int.neg_neg, Int.mul_comm]
  have e2 : -(g * c) = (-c) * g := by rw [Int.neg_mul, Int.mul_comm]
  rw [e2, Int.mul_ediv_cancel _ (by omega), e1, Int.mul_fdiv_cancel _ (by omega)]
theorem gI_neg (t b : Int) : gI (-t) (-b) = gI t b := by unfold gI; rw [Int.gcd_neg, Int.neg_gcd]
/-- what fraction gives -/
def fracT (t b : Int) : Int := if b < 0 then lowT (-t) (-b) else lowT t b
def fracB (t b : Int) : Int := if b < 0 then lowB (-t) (-b) else lowB t b
theorem frac_pos {t b : Int} (h : 0 < b) : fracT t b = lowT t b ∧ fracB t b = lowB t b := by
  unfold fracT fracB
  rw [if_neg (by omega), if_neg (by omega)]
  exact ⟨rfl, rfl⟩

/-! ### sizes -/
theorem log_lt {n k : Nat} (h : n < 2 ^ k) (hk : 0 < k) : n.log2 < k := PySem.Flt.log2_lt_of hk h
theorem mulD {i j : Int} {a b : Nat} (ha : i.natAbs < 2 ^ a) (hb : j.natAbs < 2 ^ b) (h0 : 0 < a := by omega) (h1 : 0 < b := by omega) (h : a + b ≤ 130000000 := by omega) : CMulD i j := by
  have := log_lt ha h0
  have := log_lt hb h1
  show i.natAbs.log2 + j.natAbs.log2 < 130000000
  omega
theorem mulDl {i j : Int} {b : Nat} (ha : i.natAbs.log2 < 1048577) (hb : j.natAbs < 2 ^ b) (h1 : 0 < b := by omega) (h : b ≤ 100000000 := by omega) : CMulD i j := by
  have := log_lt hb h1
  show i.natAbs.log2 + j.natAbs.log2 < 130000000
  omega
theorem fdivD {j : Int} {i : Int} {b : Nat} (h : j ≠ 0) (hb : j.natAbs < 2 ^ b) (h0 : 0 < b := by omega) (h9 : b ≤ 9000 := by omega) : CFdiv i j := ⟨h, Nat.lt_of_lt_of_le (log_lt hb h0) h9⟩
theorem mul_lt {i j : Int} {a b : Nat} (ha : i.natAbs < 2 ^ a) (hb : j.natAbs < 2 ^ b) : (i * j).natAbs < 2 ^ (a + b) := by
  rw [Int.natAbs_mul, Nat.pow_add]
  exact Nat.mul_lt_mul'' ha hb
theorem add_lt {i j : Int} {a : Nat} (ha : i.natAbs < 2 ^ a) (hb : j.natAbs < 2 ^ a) : (i + j).natAbs < 2 ^ (a + 1) := by
  rw [Nat.pow_succ]; omega
theorem sub_lt {i j : Int} {a : Nat} (ha : i.natAbs < 2 ^ a) (hb : j.natAbs < 2 ^ a) : (i - j).natAbs < 2 ^ (a + 1) := by
  rw [Nat.pow_succ]; omega
theorem up_lt {i : Int} {a b : Nat} (ha : i.natAbs < 2 ^ a) (h : a ≤ b := by omega) : i.natAbs < 2 ^ b := Nat.lt_of_lt_of_le ha (Nat.pow_le_pow_right (by decide) h)
end FL
namespace FL
open PySem L2 Classical
theorem oEq_pair (a b c d : Int) : oEq (.d (.tup [.int a, .int b])) (.d (.tup [.int c, .int d])) = .ok (.bl (decide (a = c) && decide (b = d))) := by
  have h : ∀ a b : Int, Pl 60 (fz (.d (.tup [.int a, .int b]))) := fun a b => by
    simp [Pl, fz, toPy, toPys, PyData.plain, PyData.plainAll, PyData.depth, PyData.depthAll]
  rw [oEq_pl (h a b) (h c d)]
  simp [eqD, fz, toPy, toPys, PyData.eqv, PyData.eqvAll, beq_int]
theorem two_pow_le {a b : Nat} (h : a ≤ b := by omega) : 2 ^ a ≤ 2 ^ b := Nat.pow_le_pow_right (by decide) h
end FL
namespace FL
open PySem L2 Classical
/-! ### slices, comprehensions, for -/
theorem cutL_take {α : Type} (xs : List α) {k : Int} (h : 0 ≤ k) : cutL xs none (some k) = xs.take k.toNat := by
  unfold cutL HT.sIx
  simp only []
  rw [if_neg (by omega)]
  rw [List.drop_zero, Nat.sub_zero]
  rcases Nat.le_total k.toNat xs.length with q | q
  · rw [Nat.min_eq_left q]
  · rw [Nat.min_eq_right q, List.take_of_length_le (Nat.le_refl _), List.take_of_length_le q]
theorem cutL_drop {α : Type} (xs : List α) {k : Int} (h : 0 ≤ k) : cutL xs (some k) none = xs.drop k.toNat := by
  unfold cutL HT.sIx
  simp only []
  rw [if_neg (by omega)]
  rcases Nat.le_total k.toNat xs.length with q | q
  · rw [Nat.min_eq_left q, List.take_of_length_le (by simp)]
  · rw [Nat.min_eq_right q]
    simp [List.drop_eq_nil_of_le q]
theorem cutL_mid {α : Type} (xs : List α) {j k : Int} (h : 0 ≤ j) (hk : 0 ≤ k) : cutL xs (some j) (some k) = (xs.take k.toNat).drop j.toNat := by
  unfold cutL HT.sIx
  simp only []
  rw [if_neg (by omega), if_neg (by omega)]
  rw [← List.drop_take]
  rcases Nat.le_total k.toNat xs.length with q | q <;> rcases Nat.le_total j.toNat xs.length with r | r
  · rw [Nat.min_eq_left q, Nat.min_eq_left r]
  · rw [Nat.min_eq_left q, Nat.min_eq_right r, List.drop_eq_nil_of_le (by simp; omega), List.drop_eq_nil_of_le (by simp; omega)]
  · rw [Nat.min_eq_right q, Nat.min_eq_left r, List.take_of_length_le (Nat.le_refl _), List.take_of_length_le q]
  · rw [Nat.min_eq_right q, Nat.min_eq_right r, List.take_of_length_le (Nat.le_refl _), List.take_of_length_le q, List.drop_eq_nil_of_le (Nat.le_refl _), List.drop_eq_nil_of_le r]
theorem map_unD (xs : List D) : (xs.map M.d).map unD = xs := by
  induction xs with
  | nil => rfl
  | cons x xs ih => simp [unD, ih]
theorem all_isD (xs : List D) : (xs.map M.d).all isD = true := by
  induction xs with
  | nil => rfl
  | cons x xs ih => simp [isD]
theorem slM_scr (xs : List D) (lo hi : Option Int) : slM (.d (.scr xs)) lo hi = .ok (.lst ((cutL xs lo hi).map .d)) := by
  simp only [slM, M.seq, all_isD, map_unD, if_true]
theorem slM_lst (xs : List D) (lo hi : Option Int) : slM (.d (.lst xs)) lo hi = .ok (.lst ((cutL xs lo hi).map .d)) := by
  simp only [slM, M.seq, all_isD, map_unD, if_true]
theorem slM_own (xs : List D) (lo hi : Option Int) : slM (.lst (xs.map .d)) lo hi = .ok (.lst ((cutL xs lo hi).map .d)) := by
  simp only [slM, M.seq, all_isD, map_unD, if_true]
theorem fzs_d (xs : List D) : fzs (xs.map .d) = xs := by
  induction xs with
  | nil => rfl
  | cons x xs ih => simp [fzs, fz, ih]
theorem lcl_map {own : List Nat} {g : SG} {c : SB} {f : SE} {env : Env} {α : Type} (dd : α → D) (φ : α → M) : ∀ (xs : List α) (acc : List M),
    (∀ x ∈ xs, ∃ e1 e2 e3, g (.d (dd x)) env = .ok e1 ∧ c e1 = .ok (true, e2) ∧ f e2 = .ok (φ x, e3) ∧ killAll own e3 = env) → lcl own g c f (xs.map dd) acc env = .ok (acc ++ xs.map φ, env)
  | [], acc, _ => by simp [lcl]
  | x :: xs, acc, h => by
    obtain ⟨e1, e2, e3, h1, h2, h3, h4⟩ := h x (by simp)
    simp only [List.map_cons, lcl, h1, h2, h3, h4]
    rw [lcl_map dd φ xs (acc ++ [φ x]) fun y hy => h y (by simp [hy])]
    simp
theorem fl_all {g : SG} {b : SS} {α : Type} (dd : α → D) (I : List α → Env → Prop) (h : ∀ x rest env, I (x :: rest) env → ∃ e1 e2 t, g (.d (dd x)) env = .ok e1 ∧ b e1 = .ok (t, e2) ∧ (t = .nx ∨ t = .ct) ∧ I rest e2) :
    ∀ (xs : List α) (env : Env), I xs env → ∃ e', fl g b (xs.map dd) env = .ok (.nx, e') ∧ I [] e'
  | [], env, i => ⟨env, by simp [fl], i⟩
  | x :: xs, env, i => by
    obtain ⟨e1, e2, t, h1, h2, h3, h4⟩ := h x xs env i
    obtain ⟨e', h5, h6⟩ := fl_all dd I h xs e2 h4
    refine ⟨e', ?_, h6⟩
    rw [List.map_cons]
    unfold fl
    simp only [h1, h2]
    rcases h3 with rfl | rfl
    · exact h5
    · exact h5
end FL
namespace FL
theorem fzs_map_d {α : Type} (f : α → D) (xs : List α) : fzs (xs.map fun x => .d (f x)) = xs.map f := by
  induction xs with
  | nil => rfl
  | cons x xs ih => simp [fzs, fz, ih]
end FL
namespace FL
theorem fzs_comp {α : Type} (f : α → D) (xs : List α) : fzs (xs.map (M.d ∘ f)) = xs.map f := fzs_map_d f xs
end FL

set_option maxHeartbeats 2000000
/-! FLO: lists changed in place. -/
namespace FL
open PySem L2 Classical

theorem RepMs.split {G : Gx} {Z H : Hp} : ∀ {xs ys : List M} {T : Rg} {vs : List V}, RepMs G Z H (xs ++ ys) T vs → ∃ T1 T2 us ws, vs = us ++ ws ∧ (∀ b, T1 b → T b) ∧ (∀ b, T2 b → T b) ∧ (∀ b, T1 b → ¬ T2 b) ∧ RepMs G Z H xs T1 us ∧ RepMs G Z H ys T2 ws
  | [], ys, T, vs, r => ⟨fun _ => False, T, [], vs, rfl, fun _ z => z.elim, fun _ z => z, fun _ z => z.elim, by simp [RepMs], r⟩
  | x :: xs, ys, T, vs, r => by
    simp only [List.cons_append, RepMs] at r
    obtain ⟨v, vr, A, B, rfl, a, b, d, rx, rr⟩ := r
    obtain ⟨T1, T2, us, ws, rfl, t1, t2, d12, r1, r2⟩ := RepMs.split rr
    refine ⟨fun c => A c ∨ T1 c, T2, v :: us, ws, rfl, fun c z => z.elim (a c) fun z => b c (t1 c z), fun c z => b c (t2 c z), fun c z w => z.elim (fun z => d c z (t2 c w)) fun z => d12 c z w, ?_, r2⟩
    simp only [RepMs]
    exact ⟨v, us, A, T1, rfl, fun c z => .inl z, fun c z => .inr z, fun c z w => d c z (t1 c w), rx, r1⟩
theorem RepMs.one {G : Gx} {Z H : Hp} {m : M} {T : Rg} {v : V} (r : RepM G Z H m T v) : RepMs G Z H [m] T [v] := by
  simp only [RepMs]
  exact ⟨v, [], T, fun _ => False, rfl, fun _ z => z, fun _ z => z.elim, fun _ _ z => z, r, rfl⟩
theorem Stp.upd {Z H : Hp} {R : Rg} {a : Addr} {o : HO} (zh : Same Z H) (ra : R a) (za : Z a = none) : Stp Z H R Z (upd H a o) R :=
  ⟨Same.refl _, fun b u e => by rw [upd_ne (fun z => by rw [z, za] at e; cases e)]; exact zh b u e, fun b u e nr => by rw [upd_ne (fun z => nr (by rw [z]; exact ra))]; exact e, fun b q => .inl q, fun b q => .inl q⟩
theorem upd_al {H : Hp} {a b : Addr} {o : HO} (h : H b ≠ none) : upd H a o b ≠ none := by
  by_cases e : b = a
  · subst e; rw [upd_same]; exact fun z => nomatch z
  · rw [upd_ne e]; exact h
theorem upd_al' {H : Hp} {a : Addr} {o : HO} : upd H a o a ≠ none := by rw [upd_same]; exact fun z => nomatch z
/-- the owned list at a is written -/
theorem lst_set {G : Gx} {Z H : Hp} {ms : List M} {vs : List V} {T0 : Rg} {a : Addr} (nT : ¬ T0 a) (r : RepMs G Z H ms T0 vs) : RepM G Z (upd H a (.lst vs)) (.lst ms) (fun b => T0 b ∨ b = a) (.ref a) := by
  simp only [RepM]
  exact ⟨a, vs, T0, rfl, .inr rfl, nT, fun b z => .inl z, upd_same, RepMs.mono (Same.refl _) _ _ _ _ (fun _ z => z) (fun b o sb e => by rw [upd_ne (fun z => nT (by rw [← z]; exact sb))]; exact e) r⟩

abbrev MM := M → List M → Res (M × M)
def MMok (G : Gx) (r : V → List V → Hp → VK → Prop) (op : MM) : Prop := ∀ (Z H : Hp) (m : M) (T : Rg) (v : V) (ms : List M) (Ts : Rg) (vs : List V) (Q : VK), Same Z H → Hld G Z H (fun _ => False) m T v → RepMs G Z H ms Ts vs → (∀ a, Ts a → H a ≠ none) → (∀ a, Ts a → Z a = none) → (∀ a, Ts a → ¬ T a) →
  match op m ms with
  | .ok (x, m') => (∀ u H' T' Tx, Stp Z H (fun a => T a ∨ Ts a) Z H' (fun a => T' a ∨ Tx a) → Hld G Z H' (fun _ => False) m' T' v → Hld G Z H' T' x Tx u → Q u H') → r v vs H Q
  | _ => True
def isLst : M → Bool
  | .lst _ => true
  | _ => false
theorem ty_lst {G : Gx} {Z H : Hp} {m : M} {T : Rg} {v : V} (e : isLst m = true) (r : RepM G Z H m T v) : tyV G.K "list" v H := by
  cases m with
  | lst ms =>
    simp only [RepM] at r
    obtain ⟨a, vs, T0, rfl, _, _, _, h, _⟩ := r
    exact .inl ⟨rfl, vs, SqL.of h⟩
  | _ => simp [isLst] at e
def sMeth (isT : M → Bool) (i : Nat) (op : MM) (fs : SA) : SE := fun env => match getE env i with
  | .ok m0 => if isT m0 = true then (match fs env with
    | .ok (ms, e1) => match getE e1 i with
      | .ok m => match op m ms with
        | .ok (x, m') => .ok (x, e1.set i (some m'))
        | _ => .bad
      | _ => .bad
    | .exc x e => .exc x e
    | .bad => .bad) else .bad
  | _ => .bad
section
variable {G : Gx} {X : Cx} {W : WX'} {fs : SA} {bk : Bk} {e : Expr} {es : List Expr} {r : V → List V → Hp → VK → Prop} {op : MM} {isT : M → Bool} {T id : String} {name x : Str} {p apos cpos : Pos} {i : Nat}
theorem meth_end {Z H : Hp} {σ : St} {env : Env} {S : Rs} {m : M} {ms : List M} {vs : List V} {Ts : Rs} {Q : VK} {R : Rg} {Z0 H0 : Hp} {y m' : M} (hop : MMok G r op) (s0 : Stp Z0 H0 R Z H (fun a => U S a ∨ U Ts a)) (gd : Good G Z H σ env S) (row : Good G Z H (vs.map some) (ms.map some) Ts) (d : ∀ a, U Ts a → ¬ U S a) (e2 : getE env i = .ok m) (eo : op m ms = .ok (y, m'))
    (q : ∀ v Z' H' S' T, Stp Z0 H0 R Z' H' (fun a => U S' a ∨ T a) → Good G Z' H' σ (env.set i (some m')) S' → Hld G Z' H' (U S') y T v → Q v H') : ∀ v, σ[i]? = some (some v) → r v vs H Q := by
  intro v hv
  obtain ⟨v', hv', g1, h1⟩ := gd.take (getE_ok e2)
  have : v' = v := by rw [hv] at hv'; cases hv'; rfl
  subst this
  have h2 := hop Z H m (S i) v' ms (U Ts) vs Q gd.zh ⟨h1.rep, h1.al, h1.zf, fun _ _ z => z⟩ row.row row.al' row.zf' (fun a z w => d a z ⟨i, w⟩)
  rw [eo] at h2
  refine h2 fun u H' T' Tx s1 l1 l2 => ?_
  obtain ⟨g2, d2⟩ := g1.move s1 fun a z w => w.elim (fun w => h1.dj a w z) fun w => d a w (Rs.wipe_le z)
  have g3 := g2.back (i := i) (m := m') (T := T') (v := v') ⟨l1.rep, l1.al, l1.zf, fun a z w => d2 a w (.inl z)⟩ hv
  have e1 : (env.set i none).set i (some m') = env.set i (some m') := List.set_set ..
  rw [e1] at g3
  refine q u Z H' _ Tx ?_ g3 ⟨l2.rep, l2.al, l2.zf, fun a z w => (Rs.set_sub w).elim (fun w => d2 a w (.inr z)) (fun w => l2.dj a z w)⟩
  refine s0.trans (((s1.frame (U (S.set i fun _ => False))).from fun a z => ?_).weak fun a z => ?_)
  · rcases z with (z | z) | z
    · exact .inl ⟨i, z⟩
    · exact .inr z
    · exact .inl (Rs.wipe_le z)
  · rcases z with z | z
    · exact (Rs.set_sub z).elim .inr fun z => .inl (.inl z)
    · exact .inl (.inr z)
theorem xe_meth (i : Nat) (hK : G.K = X.K) (pa : PlainAttrs T) (slot : Slot T name id) (hty : typeOf (.builtin id) = pure (.type "method_descriptor")) (hm : MtR X id r) (hop : MMok G r op) (hT : ∀ {Z H m S v}, isT m = true → RepM G Z H m S v → tyV G.K T v H) (ha : PAs' G X W (e :: es) bk fs)
    (hN : X.N[i]? = some x := by rfl) (hv : Vis X.env.scope x := by first | exact Or.inl rfl | exact Or.inr (Or.inl rfl) | exact Or.inr (Or.inr rfl)) (hd : (x == ("__debug__" : Str)) = false := by decide) (hcd : (x == ("__classdict__" : Str)) = false := by decide)
    (hbase : attributeBase (.Name x p) name X.env (eval (.Name x p) X.env) = eval (.Name x p) X.env := by rfl)
    (hfew : ((backTo cpos (starEach (e :: es) X.env)).all (fun x => !x.1) && (backToKw cpos (keywordEach [] X.env)).all (fun x => x.1.isSome)
      && decide ((e :: es).length + ([] : List Keyword).length + (if ([] : List Keyword).isEmpty then 0 else 1) < 30)) = true := by rfl)
    (hline : (apos.endLine == cpos.line) = true := by rfl) (hs : starEach (e :: es) X.env = (false, eval e X.env) :: starEach es X.env := by rfl) (hplain : (backTo cpos (starEach es X.env)).any (·.1) = false := by rfl) :
    PEs G X W (.Call (.Attribute (.Name x p) name apos) (e :: es) [] cpos) (sMeth isT i op fs) := by
  obtain ⟨t, pt, ha⟩ := ha.ex
  refine ⟨_, pe_bm pa slot hty hm (pe_var hN hv hd hcd) pt hbase hfew hline hs hplain, SEok.mk' fun Z H σ env S Q gd q => ?_⟩
  unfold sMeth at q
  rcases getE_cases env i with ⟨m0, e0⟩ | e0
  case inr => rw [e0] at q; exact q.elim
  rw [e0] at q
  simp only at q
  by_cases ht : isT m0 = true
  case neg => rw [if_neg ht] at q; exact q.elim
  rw [if_pos ht] at q
  obtain ⟨v, hv0, rv⟩ := gd.rep _ _ (getE_ok e0)
  have h1 := ha Z H σ env S (fun xs H2 => r v xs H2 Q) gd
  refine ⟨v, hv0, ?_⟩
  rw [← hK]
  refine ⟨hT ht rv, ?_⟩
  cases e1 : fs env with
  | bad => rw [e1] at q; exact q.elim
  | exc x e' => rw [e1] at q h1; exact h1 q
  | ok pr =>
    obtain ⟨ms, env1⟩ := pr
    rw [e1] at q h1
    simp only at q h1
    rcases getE_cases env1 i with ⟨m, e2⟩ | e2
    case inr => rw [e2] at q; exact q.elim
    rw [e2] at q
    simp only at q
    cases e3 : op m ms with
    | bad => rw [e3] at q; exact q.elim
    | exc x e' => rw [e3] at q; exact q.elim
    | ok pr =>
      obtain ⟨y, m'⟩ := pr
      rw [e3] at q
      exact h1 fun vs Z1 H1 S1 Ts s1 g1 row d kk => meth_end hop s1 g1 row d e2 e3 q v hv0
theorem xe_meth0 (i : Nat) (hK : G.K = X.K) (pa : PlainAttrs T) (slot : Slot T name id) (hty : typeOf (.builtin id) = pure (.type "method_descriptor")) (hm : MtR X id r) (hop : MMok G r op) (hT : ∀ {Z H m S v}, isT m = true → RepM G Z H m S v → tyV G.K T v H)
    (hN : X.N[i]? = some x := by rfl) (hv : Vis X.env.scope x := by first | exact Or.inl rfl | exact Or.inr (Or.inl rfl) | exact Or.inr (Or.inr rfl)) (hd : (x == ("__debug__" : Str)) = false := by decide) (hcd : (x == ("__classdict__" : Str)) = false := by decide)
    (hbase : attributeBase (.Name x p) name X.env (eval (.Name x p) X.env) = eval (.Name x p) X.env := by rfl) (hline : (apos.endLine == cpos.line) = true := by rfl) :
    PEs G X W (.Call (.Attribute (.Name x p) name apos) [] [] cpos) (sMeth isT i op saNil) := by
  refine ⟨_, pe_bm0 pa slot hty hm (pe_var hN hv hd hcd) hbase hline, SEok.mk' fun Z H σ env S Q gd q => ?_⟩
  unfold sMeth at q
  rcases getE_cases env i with ⟨m0, e0⟩ | e0
  case inr => rw [e0] at q; exact q.elim
  rw [e0] at q
  simp only at q
  by_cases ht : isT m0 = true
  case neg => rw [if_neg ht] at q; exact q.elim
  rw [if_pos ht] at q
  obtain ⟨v, hv0, rv⟩ := gd.rep _ _ (getE_ok e0)
  refine ⟨v, hv0, ?_⟩
  rw [← hK]
  refine ⟨hT ht rv, ?_⟩
  simp only [saNil, e0] at q
  cases e3 : op m0 [] with
  | bad => rw [e3] at q; exact q.elim
  | exc x e' => rw [e3] at q; exact q.elim
  | ok pr =>
    obtain ⟨y, m'⟩ := pr
    rw [e3] at q
    exact meth_end (ms := []) (vs := []) (Ts := fun _ _ => False) hop ((Stp.refl gd.zh).weak fun a z => z.elim (fun z => z) fun ⟨_, z⟩ => z.elim) gd ⟨gd.zh, fun i m e => by simp at e, fun i j a h => h.elim, fun i a h => h.elim, fun i a h => h.elim, rfl⟩ (fun a ⟨_, z⟩ => z.elim) e0 e3 q v hv0
end

/-! ### the methods -/
def mAppend : MM := fun m ms => match m, ms with
  | .lst xs, [y] => if xs.length < sizeLine then .ok (.d .non, .lst (xs ++ [y])) else .bad
  | _, _ => .bad
def mExtend : MM := fun m ms => match m, ms with
  | .lst xs, [y] => match lstItems y with
    | some ys => if xs.length + ys.length ≤ sizeLine then .ok (.d .non, .lst (xs ++ ys)) else .bad
    | none => .bad
  | _, _ => .bad
def mPop : MM := fun m ms => match m, ms with
  | .lst xs, [] => match xs.getLast? with
    | some y => .ok (y, .lst xs.dropLast)
    | none => .bad
  | _, _ => .bad
def mClear : MM := fun m ms => match m, ms with
  | .lst _, [] => .ok (.d .non, .lst [])
  | _, _ => .bad
def mInsert : MM := fun m ms => match m, ms with
  | .lst xs, [.d (.int i), y] => if xs.length < sizeLine ∧ 0 ≤ i ∧ i < 2 ^ 63 then .ok (.d .non, .lst (xs.take i.toNat ++ [y] ++ xs.drop i.toNat)) else .bad
  | _, _ => .bad
section
variable {G : Gx}
theorem lst_own {Z H : Hp} {xs : List M} {T : Rg} {v : V} (l : Hld G Z H (fun _ => False) (.lst xs) T v) : ∃ a vs T0, v = .ref a ∧ T a ∧ ¬ T0 a ∧ (∀ b, T0 b → T b) ∧ H a = some (.lst vs) ∧ RepMs G Z H xs T0 vs ∧ Z a = none := by
  have r := l.rep
  simp only [RepM] at r
  obtain ⟨a, vs, T0, rfl, sa, nt, ts, h, rr⟩ := r
  exact ⟨a, vs, T0, rfl, sa, nt, ts, h, rr, l.zf a sa⟩
/-- the list at a becomes ms, made of parts of what there was -/
theorem lst_become {Z H : Hp} {ms : List M} {vs : List V} {T Ts T1 : Rg} {a : Addr} (zh : Same Z H) (sa : T a) (za : Z a = none) (nT : ¬ T1 a) (r : RepMs G Z H ms T1 vs) (sub : ∀ b, T1 b → T b ∨ Ts b) (al : ∀ b, T b → H b ≠ none) (al2 : ∀ b, Ts b → H b ≠ none) (zf : ∀ b, T b → Z b = none) (zf2 : ∀ b, Ts b → Z b = none) {Tx : Rg} (sx : ∀ b, Tx b → T b ∨ Ts b) :
    Stp Z H (fun b => T b ∨ Ts b) Z (upd H a (.lst vs)) (fun b => (T1 b ∨ b = a) ∨ Tx b) ∧ Hld G Z (upd H a (.lst vs)) (fun _ => False) (.lst ms) (fun b => T1 b ∨ b = a) (.ref a) := by
  refine ⟨(Stp.upd zh (.inl sa) za).weak fun b z => ?_, lst_set nT r, fun b z => ?_, fun b z => ?_, fun _ _ z => z⟩
  · rcases z with (z | rfl) | z
    · exact sub b z
    · exact .inl sa
    · exact sx b z
  · rcases z with z | rfl
    · exact upd_al ((sub b z).elim (al b) (al2 b))
    · exact upd_al'
  · rcases z with z | rfl
    · exact (sub b z).elim (zf b) (zf2 b)
    · exact za
theorem mm_append : MMok G rAppend mAppend := fun Z H m T v ms Ts vs Q zh l r al zf dj => by
  unfold mAppend
  split
  · rename_i e
    intro q
    split at e
    · rename_i xs y
      split at e
      · rename_i hl
        cases e
        obtain ⟨a, us, T0, rfl, sa, nt, ts, h, rr, za⟩ := lst_own l
        simp only [RepMs] at r
        obtain ⟨v1, vr, A, B, rfl, ta, tb, dd, ry, rn⟩ := r
        subst rn
        have r2 : RepMs G Z H (xs ++ [y]) (fun b => T0 b ∨ A b) (us ++ [v1]) := RepMs.app rr (RepMs.one ry) (fun _ z => .inl z) (fun _ z => .inr z) (fun b z w => dj b (ta b w) (ts b z))
        refine ⟨a, us, v1, rfl, rfl, h, by rw [← rr.len]; exact hl, ?_⟩
        obtain ⟨s, l2⟩ := lst_become (Ts := Ts) (Tx := fun _ => False) zh sa za (fun z => z.elim nt fun z => dj a (ta a z) sa) r2 (fun b z => z.elim (fun z => .inl (ts b z)) fun z => .inr (ta b z)) l.al al l.zf zf (fun _ z => z.elim)
        exact q .non _ _ (fun _ => False) s l2 (Hld.data (by simp [RepD]))
      · cases e
    · cases e
  · trivial
theorem mm_extend : MMok G rExtend mExtend := fun Z H m T v ms Ts vs Q zh l r al zf dj => by
  unfold mExtend
  split
  · rename_i e
    intro q
    split at e
    · rename_i xs y
      split at e
      · rename_i ys ey
        split at e
        · rename_i hl
          cases e
          obtain ⟨a, us, T0, rfl, sa, nt, ts, h, rr, za⟩ := lst_own l
          simp only [RepMs] at r
          obtain ⟨v1, vr, A, B, rfl, ta, tb, dd, ry, rn⟩ := r
          subst rn
          obtain ⟨b, ws, rfl, hb, r3⟩ := lstItems_rep zh ry ey
          have r2 : RepMs G Z H (xs ++ ys) (fun b => T0 b ∨ A b) (us ++ ws) := RepMs.app rr r3 (fun _ z => .inl z) (fun _ z => .inr z) (fun b z w => dj b (ta b w) (ts b z))
          refine ⟨a, b, us, ws, rfl, rfl, h, hb, by rw [← rr.len, ← r3.len]; exact hl, ?_⟩
          obtain ⟨s, l2⟩ := lst_become (Ts := Ts) (Tx := fun _ => False) zh sa za (fun z => z.elim nt fun z => dj a (ta a z) sa) r2 (fun b z => z.elim (fun z => .inl (ts b z)) fun z => .inr (ta b z)) l.al al l.zf zf (fun _ z => z.elim)
          exact q .non _ _ (fun _ => False) s l2 (Hld.data (by simp [RepD]))
        · cases e
      · cases e
    · cases e
  · trivial
theorem mm_clear : MMok G rClear mClear := fun Z H m T v ms Ts vs Q zh l r al zf dj => by
  unfold mClear
  split
  · rename_i e
    intro q
    split at e
    · rename_i xs
      cases e
      obtain ⟨a, us, T0, rfl, sa, nt, ts, h, rr, za⟩ := lst_own l
      simp only [RepMs] at r
      subst r
      refine ⟨a, us, rfl, rfl, h, ?_⟩
      obtain ⟨s, l2⟩ := lst_become (ms := []) (vs := []) (T1 := fun _ => False) (Ts := Ts) (Tx := fun _ => False) zh sa za (fun z => z) (by simp [RepMs]) (fun b z => z.elim) l.al al l.zf zf (fun _ z => z.elim)
      exact q .non _ _ (fun _ => False) s l2 (Hld.data (by simp [RepD]))
    · cases e
  · trivial
theorem mm_pop : MMok G rPop mPop := fun Z H m T v ms Ts vs Q zh l r al zf dj => by
  unfold mPop
  split
  · rename_i e
    intro q
    split at e
    · rename_i xs
      split at e
      · rename_i y ey
        cases e
        obtain ⟨a, us, T0, rfl, sa, nt, ts, h, rr, za⟩ := lst_own l
        simp only [RepMs] at r
        subst r
        obtain ⟨ys, rfl⟩ := List.getLast?_eq_some_iff.mp ey
        rw [List.dropLast_concat] at q
        obtain ⟨T1, T2, u1, w1, rfl, t1, t2, d12, r1, r2⟩ := rr.split
        simp only [RepMs] at r2
        obtain ⟨v1, vr, A, B, rfl, ta, tb, dd, ry, rn⟩ := r2
        subst rn
        refine ⟨a, u1 ++ [v1], v1, rfl, rfl, h, by simp, ?_⟩
        rw [List.dropLast_concat]
        obtain ⟨s, l2⟩ := lst_become (Ts := Ts) (Tx := A) zh sa za (fun z => nt (t1 a z)) r1 (fun b z => .inl (ts b (t1 b z))) l.al al l.zf zf (fun b z => .inl (ts b (t2 b (ta b z))))
        refine q v1 _ _ A s l2 ⟨RepM.mono (Same.refl _) _ _ _ _ (fun _ z => z) (fun b o sb e => by rw [upd_ne (fun z => nt (by rw [← z]; exact t2 b (ta b sb)))]; exact e) ry, fun b z => upd_al (l.al b (ts b (t2 b (ta b z)))), fun b z => l.zf b (ts b (t2 b (ta b z))), fun b z w => ?_⟩
        rcases w with w | rfl
        · exact d12 b w (ta b z)
        · exact nt (t2 b (ta b z))
      · cases e
    · cases e
  · trivial
def rInsert : V → List V → Hp → VK → Prop := fun x vs H Q => ∃ (l : Addr) (xs : List V) (i : Int) (y : V), x = .ref l ∧ vs = [.int i, y] ∧ H l = some (.lst xs) ∧ xs.length < sizeLine ∧ 0 ≤ i ∧ i < 2 ^ 63 ∧
    Q .non (upd H l (.lst (xs.take i.toNat ++ [y] ++ xs.drop i.toNat)))
theorem RepMs.takeDrop {Z H : Hp} {xs : List M} {T : Rg} {vs : List V} (n : Nat) (r : RepMs G Z H xs T vs) : ∃ T1 T2, (∀ b, T1 b → T b) ∧ (∀ b, T2 b → T b) ∧ (∀ b, T1 b → ¬ T2 b) ∧ RepMs G Z H (xs.take n) T1 (vs.take n) ∧ RepMs G Z H (xs.drop n) T2 (vs.drop n) := by
  have hr := r
  rw [← List.take_append_drop n xs] at hr
  obtain ⟨T1, T2, us, ws, e, t1, t2, d, r1, r2⟩ := hr.split
  have l1 := r1.len
  have l0 := r.len
  have e1 : us = vs.take n := by
    rw [e]
    rw [List.length_take] at l1
    rcases Nat.le_total n xs.length with h | h
    · rw [Nat.min_eq_left h] at l1
      rw [l1, List.take_left]
    · have l2 := r2.len
      rw [List.drop_eq_nil_of_le h] at l2
      have : ws = [] := List.length_eq_zero_iff.mp l2.symm
      subst this
      rw [List.append_nil, List.take_of_length_le (by omega)]
  have e2 : ws = vs.drop n := by
    rw [e]
    rw [List.length_take] at l1
    rcases Nat.le_total n xs.length with h | h
    · rw [Nat.min_eq_left h] at l1
      rw [l1, List.drop_left]
    · have l2 := r2.len
      rw [List.drop_eq_nil_of_le h] at l2
      have : ws = [] := List.length_eq_zero_iff.mp l2.symm
      subst this
      rw [List.append_nil, List.drop_eq_nil_of_le (by omega)]
  subst e1 e2
  exact ⟨T1, T2, t1, t2, d, r1, r2⟩
theorem mm_insert : MMok G rInsert mInsert := fun Z H m T v ms Ts vs Q zh l r al zf dj => by
  unfold mInsert
  split
  · rename_i e
    intro q
    split at e
    · rename_i xs i y
      split at e
      · rename_i hl
        cases e
        obtain ⟨a, us, T0, rfl, sa, nt, ts, h, rr, za⟩ := lst_own l
        simp only [RepMs] at r
        obtain ⟨v0, vr, A0, B0, rfl, ta0, tb0, dd0, ri, v1, vr1, A, B, rfl, ta, tb, dd, ry, rn⟩ := r
        subst rn
        have := rep_int ri
        subst this
        obtain ⟨T1, T2, t1, t2, d12, r1, r2⟩ := rr.takeDrop i.toNat
        have ry' : ∀ b, A b → ¬ T0 b := fun b z w => dj b (tb0 b (ta b z)) (ts b w)
        have r3 : RepMs G Z H (xs.take i.toNat ++ [y] ++ xs.drop i.toNat) (fun b => (T1 b ∨ A b) ∨ T2 b) (us.take i.toNat ++ [v1] ++ us.drop i.toNat) :=
          RepMs.app (RepMs.app r1 (RepMs.one ry) (S := fun b => T1 b ∨ A b) (fun _ z => .inl z) (fun _ z => .inr z) (fun b z w => ry' b w (t1 b z))) r2 (fun _ z => .inl z) (fun _ z => .inr z) (fun b z w => z.elim (fun z => d12 b z w) fun z => ry' b z (t2 b w))
        refine ⟨a, us, i, v1, rfl, rfl, h, by rw [← rr.len]; exact hl.1, hl.2.1, hl.2.2, ?_⟩
        obtain ⟨s, l2⟩ := lst_become (Ts := Ts) (Tx := fun _ => False) zh sa za (fun z => by
          rcases z with (z | z) | z
          · exact nt (t1 a z)
          · exact dj a (tb0 a (ta a z)) sa
          · exact nt (t2 a z)) r3 (fun b z => by
          rcases z with (z | z) | z
          · exact .inl (ts b (t1 b z))
          · exact .inr (tb0 b (ta b z))
          · exact .inl (ts b (t2 b z))) l.al al l.zf zf (fun _ z => z.elim)
        exact q .non _ _ (fun _ => False) s l2 (Hld.data (by simp [RepD]))
      · cases e
    · cases e
  · trivial
end
end FL

set_option maxHeartbeats 2000000
/-! FLP: texts' methods, zip, enumerate, reversed, list(..), tuple(..), xs[i] = e. -/
namespace FL
open PySem L2 Classical

/-! ### a text times a number -/
abbrev MulC (a : Str) (n : Int) : Prop := -1000 ≤ n ∧ n ≤ 1000 ∧ a.length ≤ 1000
theorem MulC.ok {a : Str} {n : Int} (h : MulC a n) : PySem.MulOk a n := by
  obtain ⟨h1, h2, h3⟩ := h
  refine ⟨?_, fun h _ => ?_, fun h _ => ?_⟩
  · rw [decide_eq_false (by omega), decide_eq_false (by omega)]; rfl
  · have : (1000 : Int) ≤ (2 ^ 63 - 1) / n := by
      have h4 : 0 < n := by omega
      have h5 : (2 ^ 63 - 1 : Int) / n ≥ (2 ^ 63 - 1) / 1000 := by
        rw [ge_iff_le, Int.le_ediv_iff_mul_le h4]
        have : (2 ^ 63 - 1 : Int) / 1000 * n ≤ (2 ^ 63 - 1 : Int) / 1000 * 1000 := Int.mul_le_mul_of_nonneg_left h2 (by decide)
        omega
      omega
    omega
  · unfold Builtin.Str.tooLong
    refine decide_eq_false ?_
    have h5 : a.length * n.toNat ≤ 1000 * 1000 := Nat.mul_le_mul h3 (by omega)
    have := sizeLine_eq
    omega
def oMulS : DOp := fun m1 m2 => match m1, m2 with
  | .d (.str a), .d (.int n) => if MulC a n then .ok (.str (PySem.Txt.mul a n)) else .bad
  | _, _ => .bad
def rMulS : R2 := fun x y H Q => ∃ a n, x = .str a ∧ y = .int n ∧ PySem.MulOk a n ∧ Q (.str (PySem.Txt.mul a n)) H
section
variable {G : Gx} {X : Cx}
theorem opr_mulS : OpR X (binaryOp .Mult) rMulS := by
  intro pins s σ H x y v u Q I rx ry h
  obtain ⟨a, n, rfl, rfl, hc, q⟩ := h
  obtain ⟨t, rfl⟩ := rx
  obtain ⟨t', rfl⟩ := ry
  exact PySem.SB.mul hc fun t'' k => ⟨.str _, H, I.tok _, ⟨_, rfl⟩, q⟩
theorem vop_mulS : VOP G rMulS oMulS := fun Z H m1 T1 v1 m2 T2 v2 Q zh r1 r2 => by
  unfold oMulS
  split
  · rename_i e
    intro q
    split at e
    · rename_i a n
      split at e
      · rename_i hc
        cases e
        have := rep_str r1
        have := rep_int r2
        subst_vars
        exact ⟨a, n, rfl, rfl, hc.ok, q _ strD⟩
      · cases e
    · cases e
  · trivial
end

/-! ### methods of texts -/
def BMO (G : Gx) (r : V → List V → Hp → VK → Prop) (op : LOp) : Prop := ∀ (Z H : Hp) (a : Str) (ms : List M) (vs : List V) (Q : VK), Same Z H → RepVs G Z H ms vs →
  match op (.d (.str a) :: ms) with
  | .ok x => (∀ u, RepD G Z x u → Q u H) → r (.str a) vs H Q
  | _ => True
def vSm (op : LOp) (g : VE) (f : VA) : VE := fun env => match g env, f env with
  | .ok (.d (.str a)), .ok ms => match op (.d (.str a) :: ms) with
    | .ok x => .ok (.d x)
    | _ => .bad
  | _, _ => .bad
def sSm (op : LOp) (f : SE) (fs : SA) : SE := fun env => match f env with
  | .ok (.d (.str a), e1) => match fs e1 with
    | .ok (ms, e2) => match op (.d (.str a) :: ms) with
      | .ok x => .ok (.d x, e2)
      | _ => .bad
    | .exc x e => .exc x e
    | .bad => .bad
  | .exc x e => .exc x e
  | _ => .bad
section
variable {G : Gx} {X : Cx} {W : WX'} {o e : Expr} {es : List Expr} {g : VE} {f : VA} {fo : SE} {fs : SA} {bk : Bk} {op : LOp} {r : V → List V → Hp → VK → Prop} {name : Str} {id : String} {apos cpos : Pos}
theorem xv_sm (slot : Slot "str" name id) (hty : typeOf (.builtin id) = pure (.type "method_descriptor")) (hm : MtR X id r) (hb : BMO G r op) (ho : PVs G X o g) (ha : PVAs G X (e :: es) f)
    (hbase : attributeBase o name X.env (eval o X.env) = eval o X.env := by rfl)
    (hfew : ((backTo cpos (starEach (e :: es) X.env)).all (fun x => !x.1) && (backToKw cpos (keywordEach [] X.env)).all (fun x => x.1.isSome)
      && decide ((e :: es).length + ([] : List Keyword).length + (if ([] : List Keyword).isEmpty then 0 else 1) < 30)) = true := by rfl)
    (hline : (apos.endLine == cpos.line) = true := by rfl) (hs : starEach (e :: es) X.env = (false, eval e X.env) :: starEach es X.env := by rfl) (hplain : (backTo cpos (starEach es X.env)).any (·.1) = false := by rfl) :
    PVs G X (.Call (.Attribute o name apos) (e :: es) [] cpos) (vSm op g f) := by
  obtain ⟨to, po, ho⟩ := ho.ex
  obtain ⟨t, pt, ha⟩ := ha.ex
  refine ⟨_, pe_bm F.plainAttrs_str slot hty hm po pt hbase hfew hline hs hplain, fun Z H σ env S Q gd => ?_⟩
  unfold vSm
  have h1 := ho Z H σ env S (fun x H1 => tyV X.K "str" x H1 ∧ t σ H1 fun xs H2 => r x xs H2 Q) gd
  split
  · rename_i m e2
    intro q
    split at e2
    · rename_i a ms e3 e4
      split at e2
      · rename_i x e5
        cases e2
        rw [e3] at h1
        refine h1 fun v T _ rv => ?_
        have := rep_str rv
        subst this
        refine ⟨rfl, ?_⟩
        have h2 := ha Z H σ env S (fun xs H2 => r (.str a) xs H2 Q) gd
        rw [e4] at h2
        refine h2 fun vs rs => ?_
        have h3 := hb Z H a ms vs Q gd.zh rs
        rw [e5] at h3
        exact h3 fun u ru => q u (fun _ => False) (fun _ z => z.elim) ru.toM
      · cases e2
    · cases e2
  · trivial
theorem xe_sm (slot : Slot "str" name id) (hty : typeOf (.builtin id) = pure (.type "method_descriptor")) (hm : MtR X id r) (hb : BMO G r op) (ho : PEs G X W o fo) (ha : PAs' G X W (e :: es) bk fs)
    (hbase : attributeBase o name X.env (eval o X.env) = eval o X.env := by rfl)
    (hfew : ((backTo cpos (starEach (e :: es) X.env)).all (fun x => !x.1) && (backToKw cpos (keywordEach [] X.env)).all (fun x => x.1.isSome)
      && decide ((e :: es).length + ([] : List Keyword).length + (if ([] : List Keyword).isEmpty then 0 else 1) < 30)) = true := by rfl)
    (hline : (apos.endLine == cpos.line) = true := by rfl) (hs : starEach (e :: es) X.env = (false, eval e X.env) :: starEach es X.env := by rfl) (hplain : (backTo cpos (starEach es X.env)).any (·.1) = false := by rfl) :
    PEs G X W (.Call (.Attribute o name apos) (e :: es) [] cpos) (sSm op fo fs) := by
  obtain ⟨to, po, ho⟩ := ho.ex
  obtain ⟨t, pt, ha⟩ := ha.ex
  refine ⟨_, pe_bm F.plainAttrs_str slot hty hm po pt hbase hfew hline hs hplain, SEok.mk' fun Z H σ env S Q gd q => ?_⟩
  unfold sSm at q
  refine ho.use gd ?_
  cases e1 : fo env with
  | bad => rw [e1] at q; exact q.elim
  | exc x e' => rw [e1] at q; exact q
  | ok p =>
    obtain ⟨m, env1⟩ := p
    rw [e1] at q
    cases m with
    | d x =>
      cases x with
      | str a =>
        simp only at q
        intro v Z1 H1 S1 T1 s1 g1 l1
        have := rep_str l1.rep
        subst this
        refine ⟨rfl, ?_⟩
        have s1' : Stp Z H (U S) Z1 H1 (U S1) := s1.weak fun _ z => .inl z
        have h2 := ha Z1 H1 σ env1 S1 (fun xs H2 => r (.str a) xs H2 Q) g1
        cases e2 : fs env1 with
        | bad => rw [e2] at q; exact q.elim
        | exc x e' => rw [e2] at q h2; exact h2 fun cls d Z' H' S' hx s' g' => q cls d Z' H' S' hx (s1'.trans s') g'
        | ok p =>
          obtain ⟨ms, env2⟩ := p
          rw [e2] at q h2
          simp only at q
          refine h2 fun vs Z2 H2 S2 Ts s2 g2 row d kk => ?_
          have h3 := hb Z2 H2 a ms vs Q g2.zh row.row.vs
          cases e5 : op (.d (.str a) :: ms) with
          | ok x =>
            rw [e5] at q h3
            exact h3 fun u ru => q u Z2 H2 S2 (fun _ => False) ((s1'.trans s2).weak fun _ z => .inl (z.elim (fun z => z) fun z => z.elim)) g2 (Hld.data ru)
          | exc _ _ => rw [e5] at q; exact q.elim
          | bad => rw [e5] at q; exact q.elim
      | _ => exact q.elim
    | _ => exact q.elim
end
def bZfill : LOp
  | [.d (.str a), .d (.int i)] => if PadOk i = true then .ok (.str (Txt.zfill a i)) else .bad
  | _ => .bad
theorem bmo_zfill {G : Gx} : BMO G (fun x xs H Q => ∃ (a : Str) (i : Int), x = .str a ∧ xs = [.int i] ∧ PadOk i = true ∧ Q (.str (Txt.zfill a i)) H) bZfill := fun Z H a ms vs Q zh r => by
  unfold bZfill
  split
  · rename_i e
    intro q
    split at e
    · rename_i a' i ee
      injection ee with e1 e2
      injection e1 with e1
      injection e1 with e1
      subst e1 e2
      split at e
      · rename_i hp
        cases e
        cases r with
        | cons h t =>
          cases t
          obtain ⟨T, h⟩ := h
          rw [rep_int h]
          exact ⟨_, i, rfl, rfl, hp, q _ strD⟩
      · cases e
    · cases e
  · trivial

/-! ### what is handed in is frozen -/
theorem row_frozen {G : Gx} {Z H : Hp} {σ : St} {env : Env} {S T : Rs} {ms : List M} {vs : List V} (g : Good G Z H σ env S) (row : Good G Z H (vs.map some) (ms.map some) T) (d : ∀ a, U T a → ¬ U S a) :
    RepDs G (Fzp Z H (U T)) (fzs ms) vs ∧ Good G (Fzp Z H (U T)) H σ env S ∧ Stp Z H (fun a => U S a ∨ U T a) (Fzp Z H (U T)) H (U S) := by
  have sT : Stp Z H (U T) (Fzp Z H (U T)) H (fun _ => False) := ⟨frz_old g.zh, frz_sub g.zh, fun _ _ e _ => e, fun _ z => z.elim, fun a z => by
    by_cases ta : U T a
    · exact .inr (.inl ta)
    · rw [frz_out ta] at z; exact .inl z⟩
  refine ⟨RepMs.frz (frz_old g.zh) _ _ _ (fun a o sa e => by rw [frz_in sa]; exact e) row.row, (g.move sT fun a z w => d a w z).1, ((sT.frame (U S)).from fun a z => z.elim .inr .inl).weak fun a z => .inr z⟩
/-- the items of a list or a tuple -/
def itemsLT : D → Option (Bool × List D)
  | .lst xs => some (false, xs)
  | .scr xs => some (false, xs)
  | .tup xs => some (true, xs)
  | _ => none
theorem itemsLT_rep {G : Gx} {Z H : Hp} {x : D} {v : V} {b : Bool} {xs : List D} (zh : Same Z H) (r : RepD G Z x v) (e : itemsLT x = some (b, xs)) : ∃ a vs, v = .ref a ∧ (b = true → SqT G.K Z a vs) ∧ (b = false → SqL G.K Z a vs) ∧ RepDs G Z xs vs := by
  cases x with
  | lst ys => simp only [itemsLT] at e; cases e; simp only [RepD] at r; obtain ⟨a, vs, rfl, h, rr⟩ := r; exact ⟨a, vs, rfl, fun z => (nomatch z), fun _ => SqL.of h, rr⟩
  | scr ys => simp only [itemsLT] at e; cases e; simp only [RepD] at r; obtain ⟨a, vs, rfl, h, rr⟩ := r; exact ⟨a, vs, rfl, fun z => (nomatch z), fun _ => h, rr⟩
  | tup ys => simp only [itemsLT] at e; cases e; simp only [RepD] at r; obtain ⟨a, vs, rfl, h, rr⟩ := r; exact ⟨a, vs, rfl, fun _ => h, fun z => (nomatch z), rr⟩
  | _ => simp [itemsLT] at e

/-! ### zip, enumerate, reversed -/
def pairD (x y : D) : D := .tup [x, y]
def siZip (fs : SA) : SI := fun env => match fs env with
  | .ok ([m1, m2], e) => match itemsLT (fz m1), itemsLT (fz m2) with
    | some (b1, xs), some (b2, ys) => if b1 = b2 then .ok (List.zipWith pairD xs ys, e) else .bad
    | _, _ => .bad
  | .exc x e => .exc x e
  | _ => .bad
theorem zw_get {α β γ : Type} {f : α → β → γ} : ∀ {xs : List α} {ys : List β} {i : Nat} {d : γ}, (List.zipWith f xs ys)[i]? = some d → ∃ x y, xs[i]? = some x ∧ ys[i]? = some y ∧ d = f x y
  | [], _, i, d, e => by simp at e
  | _ :: _, [], i, d, e => by simp at e
  | x :: xs, y :: ys, 0, d, e => by simp at e; exact ⟨x, y, rfl, rfl, e.symm⟩
  | x :: xs, y :: ys, i + 1, d, e => by
    simp at e
    obtain ⟨a, b, h1, h2, h3⟩ := zw_get (f := f) (xs := xs) (ys := ys) (i := i) (d := d) (by simpa using e)
    exact ⟨a, b, by simpa using h1, by simpa using h2, h3⟩
theorem yields_zip {G : Gx} {Z : Hp} {a b : Addr} {vs ws : List V} {xs ys : List D} (q : ∀ Z1 H1, Same Z Z1 → Same Z1 H1 → SqL G.K H1 a vs) (q2 : ∀ Z1 H1, Same Z Z1 → Same Z1 H1 → SqL G.K H1 b ws) (r : RepDs G Z xs vs) (r2 : RepDs G Z ys ws) :
    Yields G (fun Z1 _ _ => Same Z Z1) (Itz G.K a b) (List.zipWith pairD xs ys) where
  stay := fun Z1 H1 R Z2 H2 R2 h s => h.trans s.z
  stop := fun Z1 H1 R i h zh hl => ⟨vs, ws, q Z1 H1 h zh, q2 Z1 H1 h zh, by
    rw [List.length_zipWith] at hl
    rw [← r.len, ← r2.len]
    omega⟩
  item := fun Z1 H1 R i d h zh e => by
    obtain ⟨x, y, ex, ey, rfl⟩ := zw_get e
    obtain ⟨v, hv, rv⟩ := r.get ex
    obtain ⟨w, hw, rw'⟩ := r2.get ey
    refine ⟨⟨vs, ws, v, w, q Z1 H1 h zh, q2 Z1 H1 h zh, hv, hw⟩, fun u H' hy => ?_⟩
    obtain ⟨T, v', w', rfl, hT, rfl, k1, k2⟩ := hy
    have e1 := k1 vs (q Z1 H1 h zh)
    have e2 := k2 ws (q2 Z1 H1 h zh)
    rw [hv] at e1; cases e1
    rw [hw] at e2; cases e2
    have st := Stp.newZ (o := .tup [v, w]) zh hT (fun _ => False)
    refine ⟨_, st, ?_⟩
    simp only [pairD, RepD, RepDs]
    exact ⟨T, [v, w], rfl, SqT.of upd_same, v, [w], rfl, RepD.mono (h.trans st.z) _ _ rv, w, [], rfl, RepD.mono (h.trans st.z) _ _ rw', rfl⟩
theorem yields_zipT {G : Gx} {Z : Hp} {a b : Addr} {vs ws : List V} {xs ys : List D} (q : ∀ Z1 H1, Same Z Z1 → Same Z1 H1 → SqT G.K H1 a vs) (q2 : ∀ Z1 H1, Same Z Z1 → Same Z1 H1 → SqT G.K H1 b ws) (r : RepDs G Z xs vs) (r2 : RepDs G Z ys ws) :
    Yields G (fun Z1 _ _ => Same Z Z1) (RZ.ItzT G.K a b) (List.zipWith pairD xs ys) where
  stay := fun Z1 H1 R Z2 H2 R2 h s => h.trans s.z
  stop := fun Z1 H1 R i h zh hl => ⟨vs, ws, q Z1 H1 h zh, q2 Z1 H1 h zh, by
    rw [List.length_zipWith] at hl
    rw [← r.len, ← r2.len]
    omega⟩
  item := fun Z1 H1 R i d h zh e => by
    obtain ⟨x, y, ex, ey, rfl⟩ := zw_get e
    obtain ⟨v, hv, rv⟩ := r.get ex
    obtain ⟨w, hw, rw'⟩ := r2.get ey
    refine ⟨⟨vs, ws, v, w, q Z1 H1 h zh, q2 Z1 H1 h zh, hv, hw⟩, fun u H' hy => ?_⟩
    obtain ⟨T, v', w', rfl, hT, rfl, k1, k2⟩ := hy
    have e1 := k1 vs (q Z1 H1 h zh)
    have e2 := k2 ws (q2 Z1 H1 h zh)
    rw [hv] at e1; cases e1
    rw [hw] at e2; cases e2
    have st := Stp.newZ (o := .tup [v, w]) zh hT (fun _ => False)
    refine ⟨_, st, ?_⟩
    simp only [pairD, RepD, RepDs]
    exact ⟨T, [v, w], rfl, SqT.of upd_same, v, [w], rfl, RepD.mono (h.trans st.z) _ _ rv, w, [], rfl, RepD.mono (h.trans st.z) _ _ rw', rfl⟩

section
variable {G : Gx} {X : Cx} {W : WX'} {e e2 : Expr} {elts : List Expr} {kk : Nat} {tpos p pos : Pos} {fs : SA} {bk : Bk} {f : SE} {tg : Expr}
theorem xi_zip (hK : G.K = X.K) (hm : X.mg "zip" = none) (ha : PAs' G X W [e, e2] bk fs) (hg : Gl X "zip" := by rfl) (hs : starEach [e, e2] X.env = (false, eval e X.env) :: starEach [e2] X.env := by rfl) (hpl : (backTo pos (starEach [e2] X.env)).any (·.1) = false := by rfl) :
    PIs G X W (.Tuple elts kk tpos) (.Call (.Name "zip" p) [e, e2] [] pos) (siZip fs) := by
  obtain ⟨t, q, h⟩ := ha.ex
  have p1 : PI X (.Tuple elts kk tpos) (.Call (.Name "zip" p) [e, e2] [] pos) (RZ.iZipA G.K t) := by rw [hK]; exact RZ.pi_zipA hg hm q hs hpl
  refine ⟨_, p1, fun Z H σ env S R gd => ?_⟩
  unfold siZip
  have h1 := h Z H σ env S (fun vs H1 => ∃ a b xs ys, vs = [V.ref a, V.ref b] ∧ ((SqL G.K H1 a xs ∧ SqL G.K H1 b ys ∧ R (Itz G.K a b) H1) ∨ (SqT G.K H1 a xs ∧ SqT G.K H1 b ys ∧ R (RZ.ItzT G.K a b) H1))) gd
  cases e1 : fs env with
  | bad => trivial
  | exc x e' => rw [e1] at h1; exact h1
  | ok pr =>
    obtain ⟨ms, env1⟩ := pr
    rw [e1] at h1
    match ms with
    | [] => trivial
    | [_] => trivial
    | _ :: _ :: _ :: _ => trivial
    | [m1, m2] =>
      simp only
      cases e3 : itemsLT (fz m1) with
      | none => trivial
      | some q1 =>
        obtain ⟨b1, xs⟩ := q1
        cases e4 : itemsLT (fz m2) with
        | none => trivial
        | some q2 =>
          obtain ⟨b2, ys⟩ := q2
          simp only
          by_cases hb : b1 = b2
          case neg => rw [if_neg hb]; trivial
          rw [if_pos hb]
          subst hb
          intro k
          refine h1 fun vs Z' H' S' T s' g' row d kk => ?_
          obtain ⟨rd, g2, s2⟩ := row_frozen g' row d
          simp only [fzs, RepDs] at rd
          obtain ⟨v1, r1, rfl, q1, v2, r2, rfl, q2, rfl⟩ := rd
          obtain ⟨a, us, rfl, t1, l1, rr1⟩ := itemsLT_rep g2.zh q1 e3
          obtain ⟨b, ws, rfl, t2, l2, rr2⟩ := itemsLT_rep g2.zh q2 e4
          refine ⟨a, b, us, ws, rfl, ?_⟩
          cases b1 with
          | false => exact .inl ⟨g2.zh.seq (l1 rfl), g2.zh.seq (l2 rfl), k _ _ H' S' (s'.trans s2) g2 (yields_zip (fun Z1 H1 h1 h2 => h2.seq (h1.seq (l1 rfl))) (fun Z1 H1 h1 h2 => h2.seq (h1.seq (l2 rfl))) rr1 rr2)⟩
          | true => exact .inr ⟨Same.seqT g2.zh (t1 rfl), Same.seqT g2.zh (t2 rfl), k _ _ H' S' (s'.trans s2) g2 (yields_zipT (fun Z1 H1 h1 h2 => Same.seqT h2 (Same.seqT h1 (t1 rfl))) (fun Z1 H1 h1 h2 => Same.seqT h2 (Same.seqT h1 (t2 rfl))) rr1 rr2)⟩
def enumD : Nat → List D → List D
  | _, [] => []
  | n, x :: xs => .tup [.int (n : Int), x] :: enumD (n + 1) xs
theorem enum_len : ∀ (n : Nat) (xs : List D), (enumD n xs).length = xs.length
  | _, [] => rfl
  | n, x :: xs => by simp [enumD, enum_len (n + 1) xs]
theorem enum_get : ∀ {n : Nat} {xs : List D} {i : Nat} {d : D}, (enumD n xs)[i]? = some d → ∃ x, xs[i]? = some x ∧ d = .tup [.int ((n + i : Nat) : Int), x]
  | n, [], i, d, e => by simp [enumD] at e
  | n, x :: xs, 0, d, e => by simp [enumD] at e; exact ⟨x, rfl, e.symm⟩
  | n, x :: xs, i + 1, d, e => by
    obtain ⟨y, h1, h2⟩ := enum_get (n := n + 1) (xs := xs) (i := i) (d := d) (by simpa [enumD] using e)
    exact ⟨y, by simpa using h1, by rw [h2]; congr 3; omega⟩
def siEnum (fs : SA) : SI := fun env => match fs env with
  | .ok ([m], e) => match itemsLT (fz m) with
    | some (false, xs) => .ok (enumD 0 xs, e)
    | _ => .bad
  | .exc x e => .exc x e
  | _ => .bad
theorem xi_enum (hK : G.K = X.K) (hm : X.mg "enumerate" = none) (ha : PAs' G X W [e] bk fs) (hg : Gl X "enumerate" := by rfl) (hs : starEach [e] X.env = [(false, eval e X.env)] := by rfl) :
    PIs G X W (.Tuple elts kk tpos) (.Call (.Name "enumerate" p) [e] [] pos) (siEnum fs) := by
  obtain ⟨t, q, h⟩ := ha.ex
  have p1 : PI X (.Tuple elts kk tpos) (.Call (.Name "enumerate" p) [e] [] pos) (iEnum G.K t) := by rw [hK]; exact pi_enum hg hm q hs
  refine ⟨_, p1, fun Z H σ env S R gd => ?_⟩
  unfold siEnum
  have h1 := h Z H σ env S (fun vs H1 => ∃ a xs, vs = [V.ref a] ∧ SqL G.K H1 a xs ∧ R (Ite G.K a) H1) gd
  cases e1 : fs env with
  | bad => trivial
  | exc x e' => rw [e1] at h1; exact h1
  | ok pr =>
    obtain ⟨ms, env1⟩ := pr
    rw [e1] at h1
    match ms with
    | [] => trivial
    | _ :: _ :: _ => trivial
    | [m1] =>
      simp only
      cases e3 : itemsLT (fz m1) with
      | none => trivial
      | some q1 =>
        obtain ⟨b1, xs⟩ := q1
        cases b1 with
        | true => trivial
        | false =>
          intro k
          refine h1 fun vs Z' H' S' T s' g' row d kk => ?_
          obtain ⟨rd, g2, s2⟩ := row_frozen g' row d
          simp only [fzs, RepDs] at rd
          obtain ⟨v1, r1, rfl, q1, rfl⟩ := rd
          obtain ⟨a, us, rfl, t1, l1, rr1⟩ := itemsLT_rep g2.zh q1 e3
          refine ⟨a, us, rfl, g2.zh.seq (l1 rfl), k _ _ H' S' (s'.trans s2) g2 ⟨fun Z1 H1 R Z2 H2 R2 h s => h.trans s.z, fun Z1 H1 R i h zh hl => ⟨us, zh.seq (h.seq (l1 rfl)), by rw [enum_len] at hl; rw [← rr1.len]; exact hl⟩, fun Z1 H1 R i d h zh ee => ?_⟩⟩
          obtain ⟨y, ey, rfl⟩ := enum_get ee
          obtain ⟨v, hv, rv⟩ := rr1.get ey
          refine ⟨⟨us, v, zh.seq (h.seq (l1 rfl)), hv⟩, fun u H2 hy => ?_⟩
          obtain ⟨T, v', rfl, hT, rfl, k1⟩ := hy
          have e1 := k1 us (zh.seq (h.seq (l1 rfl)))
          rw [hv] at e1; cases e1
          have st := Stp.newZ (o := .tup [.int (i : Nat), v]) zh hT (fun _ => False)
          refine ⟨_, st, ?_⟩
          simp only [RepD, RepDs, Nat.zero_add]
          exact ⟨T, [.int (i : Nat), v], rfl, SqT.of upd_same, _, [v], rfl, rfl, v, [], rfl, RepD.mono (h.trans st.z) _ _ rv, rfl⟩
def siRev (f : SE) : SI := fun env => match f env with
  | .ok (m, e) => match itemsLT (fz m) with
    | some (_, xs) => .ok (xs.reverse, e)
    | none => .bad
  | .exc x e => .exc x e
  | .bad => .bad
theorem rev_get {α : Type} {xs : List α} {i : Nat} {d : α} (e : xs.reverse[i]? = some d) : i < xs.length ∧ xs[xs.length - 1 - i]? = some d := by
  have hi : i < xs.length := by
    have := (List.getElem?_eq_some_iff.mp e).1
    simpa using this
  rw [List.getElem?_reverse hi] at e
  exact ⟨hi, e⟩
theorem xi_rev (hK : G.K = X.K) (hm : X.mg "reversed" = none) (ha : PEs G X W e f) (hg : Gl X "reversed" := by rfl) (hs : starEach [e] X.env = (false, eval e X.env) :: starEach [] X.env := by rfl) :
    PIs G X W tg (.Call (.Name "reversed" p) [e] [] pos) (siRev f) := by
  obtain ⟨t, q, h⟩ := ha.ex
  have p1 : PI X tg (.Call (.Name "reversed" p) [e] [] pos) (RT.iRevA G.K t) := by rw [hK]; exact RT.pi_revA hg hm q hs
  refine ⟨_, p1, fun Z H σ env S R gd => ?_⟩
  unfold siRev
  cases e1 : f env with
  | bad => trivial
  | exc x e' => exact fun k => h.use gd (by rw [e1]; exact k)
  | ok pr =>
    obtain ⟨m, env1⟩ := pr
    simp only
    cases e3 : itemsLT (fz m) with
    | none => trivial
    | some q1 =>
      obtain ⟨b1, xs⟩ := q1
      intro k
      refine h.use gd ?_
      rw [e1]
      intro v Z' H' S' T s' g' l
      obtain ⟨rz, sz⟩ := l.frozen g'.zh
      have sT : Stp Z' H' T (Fzp Z' H' T) H' T := ⟨sz.z, sz.zh, fun _ _ e _ => e, fun _ z => .inl z, fun a z => by
        by_cases ta : T a
        · exact .inr (.inl ta)
        · rw [frz_out ta] at z; exact .inl z⟩
      have g2 := (g'.move sT fun a z w => l.dj a w z).1
      obtain ⟨a, us, rfl, t1, l1, rr⟩ := itemsLT_rep g2.zh rz e3
      refine ⟨a, us, rfl, ?_⟩
      cases b1 with
      | false =>
        refine .inl ⟨g2.zh.seq (l1 rfl), k _ _ H' S' (s'.trans (sz.weak fun _ z => z)) g2 ⟨fun Z1 H1 R Z2 H2 R2 h s => h.trans s.z, fun Z1 H1 R i h zh hl => by show us.length ≤ i; rw [← rr.len]; simpa using hl, fun Z1 H1 R i d h zh ee => ?_⟩⟩
        obtain ⟨hi, ed⟩ := rev_get ee
        obtain ⟨v, hv, rv⟩ := rr.get ed
        rw [rr.len] at hv hi
        refine ⟨⟨hi, us, v, zh.seq (h.seq (l1 rfl)), hv⟩, fun u H2 hy => ?_⟩
        obtain ⟨rfl, k1⟩ := hy
        have e1 := k1 us (zh.seq (h.seq (l1 rfl)))
        rw [hv] at e1; cases e1
        exact ⟨Z1, Stp.refl zh, RepD.mono h _ _ rv⟩
      | true =>
        refine .inr ⟨Same.seqT g2.zh (t1 rfl), k _ _ H' S' (s'.trans (sz.weak fun _ z => z)) g2 ⟨fun Z1 H1 R Z2 H2 R2 h s => h.trans s.z, fun Z1 H1 R i h zh hl => by show us.length ≤ i; rw [← rr.len]; simpa using hl, fun Z1 H1 R i d h zh ee => ?_⟩⟩
        obtain ⟨hi, ed⟩ := rev_get ee
        obtain ⟨v, hv, rv⟩ := rr.get ed
        rw [rr.len] at hv hi
        refine ⟨⟨hi, us, v, Same.seqT zh (Same.seqT h (t1 rfl)), hv⟩, fun u H2 hy => ?_⟩
        obtain ⟨rfl, k1⟩ := hy
        have e1 := k1 us (Same.seqT zh (Same.seqT h (t1 rfl)))
        rw [hv] at e1; cases e1
        exact ⟨Z1, Stp.refl zh, RepD.mono h _ _ rv⟩

/-! ### list(..), tuple(..) -/
def sListOf (f : SE) : SE := fun env => match f env with
  | .ok (m, e) => match itemsLT (fz m) with
    | some (_, xs) => .ok (.lst (xs.map .d), e)
    | none => .bad
  | .exc x e => .exc x e
  | .bad => .bad
def sTupOf (f : SE) : SE := fun env => match f env with
  | .ok (m, e) => match itemsLT (fz m) with
    | some (_, xs) => .ok (.d (.tup xs), e)
    | none => .bad
  | .exc x e => .exc x e
  | .bad => .bad
theorem xe_listOf (hK : G.K = X.K) (hm : X.mg "list" = none) (ha : PEs G X W e f) (hv : bootBuiltins "list" = some (.type "list") := by decide +kernel) (hg : Gl X "list" := by rfl) (hst : starEach [e] X.env = (false, eval e X.env) :: starEach [] X.env := by rfl) (hpl : (backTo pos (starEach [] X.env)).any (·.1) = false := by rfl) :
    PEs G X W (.Call (.Name "list" p) [e] [] pos) (sListOf f) := by
  obtain ⟨t, q, h⟩ := ha.ex
  refine ⟨_, pe_callTy call_list_of hg hm hv (pa_cons q pa_nil hst) (by decide) (by decide) hst hpl, SEok.mk' fun Z H σ env S Q gd k => ?_⟩
  unfold sListOf at k
  refine h.use gd ?_
  cases e1 : f env with
  | bad => rw [e1] at k; exact k.elim
  | exc x e' => rw [e1] at k; exact k
  | ok pr =>
    obtain ⟨m, env1⟩ := pr
    rw [e1] at k
    simp only at k
    cases e3 : itemsLT (fz m) with
    | none => rw [e3] at k; exact k.elim
    | some q1 =>
      obtain ⟨b1, xs⟩ := q1
      rw [e3] at k
      intro v Z' H' S' T s' g' l
      obtain ⟨rz, sz⟩ := l.frozen g'.zh
      have sT : Stp Z' H' T (Fzp Z' H' T) H' T := ⟨sz.z, sz.zh, fun _ _ e _ => e, fun _ z => .inl z, fun a z => by
        by_cases ta : T a
        · exact .inr (.inl ta)
        · rw [frz_out ta] at z; exact .inl z⟩
      have g2 := (g'.move sT fun a z w => l.dj a w z).1
      obtain ⟨a, us, rfl, t1, l1, rr⟩ := itemsLT_rep g2.zh rz e3
      have hq : SqL X.K H' a us ∨ SqT X.K H' a us := by
        rw [← hK]
        cases b1 with
        | false => exact .inl (g2.zh.seq (l1 rfl))
        | true => exact .inr (Same.seqT g2.zh (t1 rfl))
      refine ⟨a, us, rfl, hq, fun p hp => ?_⟩
      have pS : ¬ U S' p := fun z => g2.al' p z hp
      have st := Stp.new (o := .lst us) g2.zh hp (U S')
      exact k (.ref p) _ _ S' (fun a => a = p) (s'.trans (sz.trans st)) (g2.move (Stp.new (o := .lst us) g2.zh hp (fun _ => False)) fun _ _ z => z).1 (lst_newD g2.zh rr hp pS)
theorem xe_tupOf (hK : G.K = X.K) (hm : X.mg "tuple" = none) (ha : PEs G X W e f) (hv : bootBuiltins "tuple" = some (.type "tuple") := by decide +kernel) (hg : Gl X "tuple" := by rfl) (hst : starEach [e] X.env = (false, eval e X.env) :: starEach [] X.env := by rfl) (hpl : (backTo pos (starEach [] X.env)).any (·.1) = false := by rfl) :
    PEs G X W (.Call (.Name "tuple" p) [e] [] pos) (sTupOf f) := by
  obtain ⟨t, q, h⟩ := ha.ex
  refine ⟨_, pe_callTy call_tuple_of hg hm hv (pa_cons q pa_nil hst) (by decide) (by decide) hst hpl, SEok.mk' fun Z H σ env S Q gd k => ?_⟩
  unfold sTupOf at k
  refine h.use gd ?_
  cases e1 : f env with
  | bad => rw [e1] at k; exact k.elim
  | exc x e' => rw [e1] at k; exact k
  | ok pr =>
    obtain ⟨m, env1⟩ := pr
    rw [e1] at k
    simp only at k
    cases e3 : itemsLT (fz m) with
    | none => rw [e3] at k; exact k.elim
    | some q1 =>
      obtain ⟨b1, xs⟩ := q1
      rw [e3] at k
      intro v Z' H' S' T s' g' l
      obtain ⟨rz, sz⟩ := l.frozen g'.zh
      have sT : Stp Z' H' T (Fzp Z' H' T) H' T := ⟨sz.z, sz.zh, fun _ _ e _ => e, fun _ z => .inl z, fun a z => by
        by_cases ta : T a
        · exact .inr (.inl ta)
        · rw [frz_out ta] at z; exact .inl z⟩
      have g2 := (g'.move sT fun a z w => l.dj a w z).1
      obtain ⟨a, us, rfl, t1, l1, rr⟩ := itemsLT_rep g2.zh rz e3
      refine ⟨a, us, rfl, ?_⟩
      cases b1 with
      | false =>
        refine .inl ⟨by rw [← hK]; exact g2.zh.seq (l1 rfl), fun p hp => ?_⟩
        have st := Stp.newZ (o := .tup us) g2.zh hp (U S')
        refine k (.ref p) _ _ S' (fun _ => False) ((s'.trans (sz.trans st)).weak fun _ z => z.elim (fun z => z) fun z => z.elim) (g2.move (Stp.newZ (o := .tup us) g2.zh hp (fun _ => False)) fun _ _ z => z).1 (Hld.data ?_)
        simp only [RepD]
        exact ⟨p, us, rfl, SqT.of upd_same, RepDs.mono st.z _ _ rr⟩
      | true =>
        refine .inr ⟨by rw [← hK]; exact Same.seqT g2.zh (t1 rfl), ?_⟩
        refine k (.ref a) _ _ S' (fun _ => False) ((s'.trans sz).weak fun _ z => z.elim (fun z => z) fun z => z.elim) g2 (Hld.data ?_)
        simp only [RepD]
        exact ⟨a, us, rfl, t1 rfl, rr⟩
end

/-! ### xs[i] = e -/
theorem RepMs.set {G : Gx} {Z H : Hp} : ∀ {xs : List M} {T A : Rg} {vs : List V} {y : M} {v : V} (j : Nat), RepMs G Z H xs T vs → RepM G Z H y A v → (∀ b, A b → ¬ T b) → RepMs G Z H (xs.set j y) (fun b => T b ∨ A b) (vs.set j v)
  | [], T, A, vs, y, v, j, r, ry, d => by simp only [RepMs] at r; subst r; simp [RepMs]
  | x :: xs, T, A, vs, y, v, 0, r, ry, d => by
    simp only [RepMs] at r
    obtain ⟨v0, vr, T1, T2, rfl, t1, t2, d12, rx, rr⟩ := r
    simp only [List.set_cons_zero, RepMs]
    exact ⟨v, vr, A, T2, rfl, fun b z => .inr z, fun b z => .inl (t2 b z), fun b z w => d b z (t2 b w), ry, rr⟩
  | x :: xs, T, A, vs, y, v, j + 1, r, ry, d => by
    simp only [RepMs] at r
    obtain ⟨v0, vr, T1, T2, rfl, t1, t2, d12, rx, rr⟩ := r
    simp only [List.set_cons_succ, RepMs]
    exact ⟨v0, vr.set j v, T1, fun b => T2 b ∨ A b, rfl, fun b z => .inl (t1 b z), fun b z => z.elim (fun z => .inl (t2 b z)) .inr, fun b z w => w.elim (d12 b z) fun w => d b w (t1 b z), rx, RepMs.set j rr ry fun b z w => d b z (t2 b w)⟩
def ssSetI (i : Nat) (gi : VE) (f : SE) : SS := fun env => match f env with
  | .ok (m, e) => match getE e i, gi e with
    | .ok (.lst xs), .ok (.d (.int k)) => match ixN xs.length k with
      | some j => .ok (.nx, e.set i (some (.lst (xs.set j m))))
      | none => .bad
    | _, _ => .bad
  | .exc x e => .exc x e
  | .bad => .bad
theorem xs_setI {G : Gx} {X : Cx} {W : WX'} {P : Px} {x : Str} {ie e : Expr} {gi : VE} {f : SE} {p ps pos : Pos} (i : Nat) (hi : PVs G X ie gi) (he : PEs G X W e f)
    (hN : X.N[i]? = some x := by rfl) (hv : Vis X.env.scope x := by first | exact Or.inl rfl | exact Or.inr (Or.inl rfl) | exact Or.inr (Or.inr rfl)) (hd : (x == ("__debug__" : Str)) = false := by decide) (hcd : (x == ("__classdict__" : Str)) = false := by decide)
    (ha : ∀ v, assign (.Subscript (.Name x p) ie ps) X.env v = (do
      let ov ← holding [v] (eval (.Name x p) X.env)
      let iv ← holding [v, ov] (eval ie X.env)
      standAt ps
      holding [v, ov, iv] (setItem ov iv v)
      release [v, ov, iv] []) := by intro _; rfl)
    (hs : swapsWithSole [.Subscript (.Name x p) ie ps] e pos.line X.env = pure false := by rfl) (hw : swappedStores [.Subscript (.Name x p) ie ps] e X.env = pure none := by rfl)
    (h1 : (assignEach [.Subscript (.Name x p) ie ps] X.env).map (·.2) = [assign (.Subscript (.Name x p) ie ps) X.env] := by rfl) :
    PS' G X W P (.Assign [.Subscript (.Name x p) ie ps] e pos) (ssSetI i gi f) := by
  obtain ⟨t, q, h⟩ := he.ex
  obtain ⟨ti, qi, hi⟩ := hi.ex
  refine ⟨_, ps_asg q (pg_sub (pe_var hN hv hd hcd) qi set_list ha) hs hw h1, fun D Z H σ env S gd k => ?_⟩
  unfold ssSetI at k
  refine h.use gd ?_
  cases e1 : f env with
  | bad => rw [e1] at k; exact k.elim
  | exc x' e' => rw [e1] at k; exact fun cls d Z' H' S' hx s' g' => k cls d σ Z' H' S' hx Fix.refl s' g'
  | ok pr =>
    obtain ⟨m, env1⟩ := pr
    rw [e1] at k
    simp only at k
    intro v Z' H' S' T s' g' l
    rcases getE_cases env1 i with ⟨mx, e2⟩ | e2
    case inr => rw [e2] at k; exact k.elim
    rw [e2] at k
    cases mx with
    | lst xs =>
      cases e3 : gi env1 with
      | ok mi =>
        rw [e3] at k
        cases mi with
        | d di =>
          cases di with
          | int kk =>
            simp only at k
            cases e4 : ixN xs.length kk with
            | none => rw [e4] at k; exact k.elim
            | some j =>
              rw [e4] at k
              obtain ⟨w, hw, g1, l1⟩ := g'.take (getE_ok e2)
              refine ⟨w, hw, ?_⟩
              have h2 := hi Z' H' σ env1 S' (fun iv H2 => rSetL w iv v H2 fun H3 => D.nx σ H3) g'
              rw [e3] at h2
              refine h2 fun iv _ _ ri => ?_
              have := rep_int ri
              subst this
              obtain ⟨a, us, T0, rfl, sa, nt, ts, ho, rr, za⟩ := lst_own (G := G) (v := w) ⟨l1.rep, l1.al, l1.zf, fun _ _ z => z⟩
              have d0 : ∀ b, T b → ¬ S' i b := fun b z w => l.dj b z ⟨i, w⟩
              have r2 : RepMs G Z' H' (xs.set j m) (fun b => T0 b ∨ T b) (us.set j v) := RepMs.set j rr l.rep fun b z w => d0 b z (ts b w)
              refine ⟨a, us, kk, j, rfl, rfl, ho, by rw [← rr.len]; exact e4, ?_⟩
              obtain ⟨s, l2⟩ := lst_become (Ts := T) (Tx := fun _ => False) g'.zh sa za (fun z => z.elim nt fun z => d0 a z sa) r2 (fun b z => z.elim (fun z => .inl (ts b z)) .inr) l1.al l.al l1.zf l.zf (fun _ z => z.elim)
              obtain ⟨g2, d2⟩ := g1.move s fun b z w => w.elim (fun w => l1.dj b w z) fun w => l.dj b w (Rs.wipe_le z)
              have g3 := g2.back (i := i) (m := .lst (xs.set j m)) (v := .ref a) ⟨l2.rep, l2.al, l2.zf, fun b z w => d2 b w (.inl z)⟩ hw
              rw [show (env1.set i none).set i (some (M.lst (xs.set j m))) = env1.set i (some (.lst (xs.set j m))) from List.set_set ..] at g3
              refine k σ Z' _ _ Fix.refl (s'.trans (((s.frame (U (S'.set i fun _ => False))).from fun b z => ?_).weak fun b z => ?_)) g3
              · rcases z with (z | z) | z
                · exact .inl ⟨i, z⟩
                · exact .inr z
                · exact .inl (Rs.wipe_le z)
              · exact (Rs.set_sub z).elim .inr fun z => .inl (.inl z)
          | _ => exact k.elim
        | _ => exact k.elim
      | exc _ _ => rw [e3] at k; exact k.elim
      | bad => rw [e3] at k; exact k.elim
    | _ => exact k.elim
end FL

set_option maxHeartbeats 2000000
/-! FLQ: loops over lists that stay their name's own. -/
namespace FL
open PySem L2 Classical

def putB (i : Nat) (m : M) : Res (Fl × Env) → Res (Fl × Env)
  | .ok (f, e) => .ok (f, e.set i (some m))
  | .exc x e => .exc x (e.set i (some m))
  | .bad => .bad
theorem SPost.lend {G : Gx} {W : WX'} {P : Px} {D : Ends} {Z H : Hp} {R R0 : Rg} {σ : St} {i : Nat} {m : M} {T : Rg} {v : V} {r : Res (Fl × Env)} (l : Hld G Z H R0 m T v) (hv : σ[i]? = some (some v)) (sub : ∀ a, R0 a ∨ T a → R a)
    (p : SPost G W P D Z H R σ (putB i m r)) : SPost G W (fun k => P k ∨ k = i) D Z H R0 σ r := by
  have fx : ∀ {σ' : St}, Fix (fun k => P k ∨ k = i) σ σ' → Fix P σ σ' ∧ σ'[i]? = some (some v) := fun f => ⟨⟨fun j hj => f.1 j (.inl hj), f.2⟩, by rw [f.1 i (.inr rfl)]; exact hv⟩
  have sub1 : ∀ {S' : Rs} {a : Addr}, U (S'.set i T) a → U S' a ∨ T a := fun z => Rs.set_sub z
  have bk : ∀ {σ' : St} {Z' H' : Hp} {S' : Rs} {e : Env}, σ'[i]? = some (some v) → Stp Z H R0 Z' H' (U S') → Good G Z' H' σ' e S' → Good G Z' H' σ' (e.set i (some m)) (S'.set i T) := fun h1 h2 h3 => h3.back (l.step h2) h1
  have st : ∀ {Z' H' : Hp} {S' : Rs}, Stp Z H R0 Z' H' (U S') → Stp Z H R Z' H' (U (S'.set i T)) := fun h => ((h.frame T).from sub).weak fun a z => sub1 z
  cases r with
  | bad => exact p.elim
  | exc x e =>
    intro cls d σ' Z' H' S' hx f s g
    obtain ⟨f1, f2⟩ := fx f
    exact p cls d σ' Z' H' _ hx f1 (st s) (bk f2 s g)
  | ok q =>
    obtain ⟨fl', e⟩ := q
    cases fl' with
    | nx => intro σ' Z' H' S' f s g; obtain ⟨f1, f2⟩ := fx f; exact p σ' Z' H' _ f1 (st s) (bk f2 s g)
    | brk => intro σ' Z' H' S' f s g; obtain ⟨f1, f2⟩ := fx f; exact p σ' Z' H' _ f1 (st s) (bk f2 s g)
    | ct => intro σ' Z' H' S' f s g; obtain ⟨f1, f2⟩ := fx f; exact p σ' Z' H' _ f1 (st s) (bk f2 s g)
    | ret x =>
      intro u σ' Z' H' S' Tr f s g h
      obtain ⟨f1, f2⟩ := fx f
      have sw : Stp Z H R0 Z' H' (U S') := s.weak fun a z => .inl z
      have dT : ∀ a, Tr a → ¬ T a := fun a z w => (s.rg a (.inr z)).elim (fun q => l.dj a w q) fun q => l.al a w q
      refine p u σ' Z' H' _ Tr f1 (((s.frame T).from sub).weak fun a z => ?_) (bk f2 sw g) ⟨h.rep, h.al, h.zf, fun a z w => (sub1 w).elim (h.dj a z) (dT a z)⟩
      rcases z with z | z
      · exact (sub1 z).elim (fun z => .inl (.inl z)) .inr
      · exact .inl (.inr z)
/-- the items, all frozen, of a list or a tuple that stays -/
def brw : M → Option (Bool × List D)
  | .d x => itemsLT x
  | .lst ms => if ms.all isD = true then some (false, ms.map unD) else none
  | _ => none
theorem brw_rep {G : Gx} {Z H : Hp} {m : M} {T : Rg} {v : V} {b : Bool} {xs : List D} (zh : Same Z H) (r : RepM G Z H m T v) (e : brw m = some (b, xs)) :
    ∃ a vs, v = .ref a ∧ RepDs G Z xs vs ∧ ∀ Z1 H1, Same Z Z1 → Same Z1 H1 → (∀ c o, T c → H c = some o → H1 c = some o) → (b = true → SqT G.K H1 a vs) ∧ (b = false → SqL G.K H1 a vs) := by
  cases m with
  | d x =>
    simp only [RepM] at r
    obtain ⟨a, vs, rfl, t, l, rr⟩ := itemsLT_rep zh r e
    exact ⟨a, vs, rfl, rr, fun Z1 H1 h1 h2 _ => ⟨fun q => Same.seqT h2 (Same.seqT h1 (t q)), fun q => h2.seq (h1.seq (l q))⟩⟩
  | lst ms =>
    simp only [brw] at e
    split at e
    · rename_i hd
      cases e
      simp only [RepM] at r
      obtain ⟨a, vs, T0, rfl, sa, nt, ts, h, rr⟩ := r
      exact ⟨a, vs, rfl, allD_rep rr hd, fun Z1 H1 h1 h2 k => ⟨fun q => (nomatch q), fun _ => SqL.of (k a _ sa h)⟩⟩
    · cases e
  | _ => simp [brw] at e
def ssForB (i : Nat) (g : SG) (b : SS) : SS := fun env => match getE env i with
  | .ok m => match brw m with
    | some (_, xs) => putB i m (fl g b xs (env.set i none))
    | none => .bad
  | _ => .bad
def ssForZ (i j : Nat) (g : SG) (b : SS) : SS := fun env => match getE env i, getE env j with
  | .ok m1, .ok m2 => match brw m1, brw m2 with
    | some (b1, xs), some (b2, ys) => if b1 = b2 ∧ i ≠ j then putB i m1 (putB j m2 (fl g b (List.zipWith pairD xs ys) ((env.set i none).set j none))) else .bad
    | _, _ => .bad
  | _, _ => .bad
/-- what must stand while a loop walks over what T holds -/
def FrB (Z0 H0 : Hp) (T : Rg) (Z H : Hp) (R : Rg) : Prop := Same Z0 Z ∧ (∀ c o, T c → H0 c = some o → H c = some o) ∧ (∀ c, T c → ¬ R c) ∧ ∀ c, T c → H c ≠ none
theorem FrB.stay {Z0 H0 : Hp} {T : Rg} {Z H : Hp} {R : Rg} {Z' H' : Hp} {R' : Rg} (f : FrB Z0 H0 T Z H R) (s : Stp Z H R Z' H' R') : FrB Z0 H0 T Z' H' R' := by
  refine ⟨f.1.trans s.z, fun c o t e => s.kp c o (f.2.1 c o t e) (f.2.2.1 c t), fun c t q => (s.rg c q).elim (f.2.2.1 c t) (f.2.2.2 c t), fun c t q => ?_⟩
  cases e : H c with
  | none => exact f.2.2.2 c t e
  | some o => rw [s.kp c o e (f.2.2.1 c t)] at q; cases q
section
variable {G : Gx} {X : Cx} {W : WX'} {P : Px} {g : SG} {b : SS} {pos p : Pos}
theorem xs_forB {te : Expr} {body : List Stmt} {x : Str} (i : Nat) (hK : G.K = X.K) (hp : PassesOwn (model X.prog X.w) X.A X.env X.xe) (hc : X.calm = true) (hg : PGs' G X (fun k => P k ∨ k = i) te g) (hb : PSs' G X W (fun k => P k ∨ k = i) body b)
    (hN : X.N[i]? = some x := by rfl) (hv : Vis X.env.scope x := by first | exact Or.inl rfl | exact Or.inr (Or.inl rfl) | exact Or.inr (Or.inr rfl)) (hd : (x == ("__debug__" : Str)) = false := by decide) (hcd : (x == ("__classdict__" : Str)) = false := by decide)
    (hs : ∀ y, foldedSetIterable (.Name x p) X.env y = pure y := by intro _; rfl) : PS' G X W P (.For te (.Name x p) body [] pos) (ssForB i g b) := by
  obtain ⟨u, q, hg⟩ := hg.ex
  obtain ⟨w, r, hb⟩ := hb.ex
  have h1 : PI X te (.Name x p) (iList G.K (tVar i)) := by rw [hK]; exact pi_list (pe_var hN hv hd hcd)
  have h2 : PI X te (.Name x p) (iTup G.K (tVar i)) := by rw [hK]; exact pi_tup (pe_var hN hv hd hcd)
  refine ⟨_, ps_for hp hc (PI.or h1 h2) q r hs, fun D Z H σ env S gd k => ?_⟩
  unfold ssForB at k
  rcases getE_cases env i with ⟨m, e⟩ | e
  case inr => rw [e] at k; exact k.elim
  rw [e] at k
  simp only at k
  cases e3 : brw m with
  | none => rw [e3] at k; exact k.elim
  | some pr =>
    obtain ⟨bb, xs⟩ := pr
    rw [e3] at k
    obtain ⟨v, hv, g1, l1⟩ := gd.take (getE_ok e)
    obtain ⟨a, vs, rfl, rr, sq⟩ := brw_rep gd.zh l1.rep e3
    have kk := k.lend l1 hv (fun c z => z.elim Rs.wipe_le fun z => ⟨i, z⟩)
    have f0 : FrB Z H (S i) Z H (U (S.set i fun _ => False)) := ⟨Same.refl _, fun _ _ _ z => z, l1.dj, l1.al⟩
    cases bb with
    | false =>
      refine .inl ⟨.ref a, hv, a, rfl, ⟨vs, (sq Z H (Same.refl _) gd.zh fun _ _ _ z => z).2 rfl⟩, ?_⟩
      refine for_turns (Fr := FrB Z H (S i)) ⟨fun Z1 H1 R Z2 H2 R2 h s => h.stay s, fun Z1 H1 R n h zh hl => ⟨vs, (sq Z1 H1 h.1 zh h.2.1).2 rfl, by rw [← rr.len]; exact hl⟩, fun Z1 H1 R n d h zh ee => ?_⟩ hg hb Z _ _ g1 f0 kk
      obtain ⟨w, hw, rw'⟩ := rr.get ee
      refine ⟨⟨vs, w, (sq Z1 H1 h.1 zh h.2.1).2 rfl, hw⟩, fun y H' hy => ?_⟩
      obtain ⟨rfl, hx⟩ := hy
      have := hx vs ((sq Z1 _ h.1 zh h.2.1).2 rfl)
      rw [hw] at this; cases this
      exact ⟨Z1, Stp.refl zh, RepD.mono h.1 _ _ rw'⟩
    | true =>
      refine .inr ⟨.ref a, hv, a, rfl, ⟨vs, (sq Z H (Same.refl _) gd.zh fun _ _ _ z => z).1 rfl⟩, ?_⟩
      refine for_turns (Fr := FrB Z H (S i)) ⟨fun Z1 H1 R Z2 H2 R2 h s => h.stay s, fun Z1 H1 R n h zh hl => ⟨vs, (sq Z1 H1 h.1 zh h.2.1).1 rfl, by rw [← rr.len]; exact hl⟩, fun Z1 H1 R n d h zh ee => ?_⟩ hg hb Z _ _ g1 f0 kk
      obtain ⟨w, hw, rw'⟩ := rr.get ee
      refine ⟨⟨vs, w, (sq Z1 H1 h.1 zh h.2.1).1 rfl, hw⟩, fun y H' hy => ?_⟩
      obtain ⟨rfl, hx⟩ := hy
      have := hx vs ((sq Z1 _ h.1 zh h.2.1).1 rfl)
      rw [hw] at this; cases this
      exact ⟨Z1, Stp.refl zh, RepD.mono h.1 _ _ rw'⟩
theorem xs_forZ {body : List Stmt} {elts : List Expr} {kk : Nat} {tpos p1 p2 pc : Pos} {x y : Str} (i j : Nat) (hK : G.K = X.K) (hm : X.mg "zip" = none) (hp : PassesOwn (model X.prog X.w) X.A X.env X.xe) (hc : X.calm = true) (hg : PGs' G X (fun k => (P k ∨ k = i) ∨ k = j) (.Tuple elts kk tpos) g) (hb : PSs' G X W (fun k => (P k ∨ k = i) ∨ k = j) body b)
    (hN : X.N[i]? = some x := by rfl) (hv : Vis X.env.scope x := by first | exact Or.inl rfl | exact Or.inr (Or.inl rfl) | exact Or.inr (Or.inr rfl)) (hd : (x == ("__debug__" : Str)) = false := by decide) (hcd : (x == ("__classdict__" : Str)) = false := by decide)
    (hN2 : X.N[j]? = some y := by rfl) (hv2 : Vis X.env.scope y := by first | exact Or.inl rfl | exact Or.inr (Or.inl rfl) | exact Or.inr (Or.inr rfl)) (hd2 : (y == ("__debug__" : Str)) = false := by decide) (hcd2 : (y == ("__classdict__" : Str)) = false := by decide)
    (hgz : Gl X "zip" := by rfl) (hs1 : starEach [.Name x p1, .Name y p2] X.env = (false, eval (.Name x p1) X.env) :: starEach [.Name y p2] X.env := by rfl) (hs2 : starEach [.Name y p2] X.env = (false, eval (.Name y p2) X.env) :: starEach [] X.env := by rfl) (hpl : (backTo pc (starEach [.Name y p2] X.env)).any (·.1) = false := by rfl)
    (hs : ∀ z, foldedSetIterable (.Call (.Name "zip" p) [.Name x p1, .Name y p2] [] pc) X.env z = pure z := by intro _; rfl) : PS' G X W P (.For (.Tuple elts kk tpos) (.Call (.Name "zip" p) [.Name x p1, .Name y p2] [] pc) body [] pos) (ssForZ i j g b) := by
  obtain ⟨u, q, hg⟩ := hg.ex
  obtain ⟨w, r, hb⟩ := hb.ex
  have h1 : PI X (.Tuple elts kk tpos) (.Call (.Name "zip" p) [.Name x p1, .Name y p2] [] pc) (RZ.iZipA G.K (tCons (tVar i) (tCons (tVar j) tNil))) := by
    rw [hK]
    exact RZ.pi_zipA hgz hm (pa_cons (pe_var hN hv hd hcd) (pa_cons (pe_var hN2 hv2 hd2 hcd2) pa_nil hs2) hs1) hs1 hpl
  refine ⟨_, ps_for hp hc h1 q r hs, fun D Z H σ env S gd k => ?_⟩
  unfold ssForZ at k
  rcases getE_cases env i with ⟨m1, e1⟩ | e1
  case inr => rw [e1] at k; exact k.elim
  rcases getE_cases env j with ⟨m2, e2⟩ | e2
  case inr => rw [e1, e2] at k; exact k.elim
  rw [e1, e2] at k
  simp only at k
  cases e3 : brw m1 with
  | none => rw [e3] at k; exact k.elim
  | some pr =>
    obtain ⟨b1, xs⟩ := pr
    cases e4 : brw m2 with
    | none => rw [e3, e4] at k; exact k.elim
    | some pr =>
      obtain ⟨b2, ys⟩ := pr
      rw [e3, e4] at k
      simp only at k
      split at k
      case isFalse => exact k.elim
      rename_i hh
      obtain ⟨rfl, hij⟩ := hh
      obtain ⟨v1, hv1, g1, l1⟩ := gd.take (getE_ok e1)
      have e2' : (env.set i none)[j]? = some (some m2) := by rw [List.getElem?_set_ne hij]; exact getE_ok e2
      obtain ⟨v2, hv2, g2, l2⟩ := g1.take e2'
      have k1 := k.lend l1 hv1 (fun c z => z.elim Rs.wipe_le fun z => ⟨i, z⟩)
      have k2 := k1.lend l2 hv2 (fun c z => z.elim Rs.wipe_le fun z => ⟨j, z⟩)
      have hSj : ∀ c, (S.set i fun _ => False) j c → S j c := fun c z => by rw [Rs.set_ne (Ne.symm hij)] at z; exact z
      obtain ⟨a, vs, rfl, rr, sq⟩ := brw_rep gd.zh l1.rep e3
      obtain ⟨c, ws, rfl, rr2, sq2⟩ := brw_rep gd.zh l2.rep e4
      have f0 : FrB Z H (fun z => S i z ∨ (S.set i fun _ => False) j z) Z H (U ((S.set i fun _ => False).set j fun _ => False)) :=
        ⟨Same.refl _, fun _ _ _ z => z, fun z t w => t.elim (fun t => l1.dj z t (Rs.wipe_le w)) fun t => l2.dj z t w, fun z t => t.elim (l1.al z) (l2.al z)⟩
      have s1 : ∀ Z1 H1 R, FrB Z H (fun z => S i z ∨ (S.set i fun _ => False) j z) Z1 H1 R → Same Z1 H1 → (b1 = true → SqT G.K H1 a vs) ∧ (b1 = false → SqL G.K H1 a vs) := fun Z1 H1 R h zh => sq Z1 H1 h.1 zh fun z o t => h.2.1 z o (.inl t)
      have s2 : ∀ Z1 H1 R, FrB Z H (fun z => S i z ∨ (S.set i fun _ => False) j z) Z1 H1 R → Same Z1 H1 → (b1 = true → SqT G.K H1 c ws) ∧ (b1 = false → SqL G.K H1 c ws) := fun Z1 H1 R h zh => sq2 Z1 H1 h.1 zh fun z o t => h.2.1 z o (.inr t)
      refine ⟨.ref a, hv1, .ref c, hv2, a, c, vs, ws, rfl, ?_⟩
      have len : ∀ n, (List.zipWith pairD xs ys).length ≤ n → vs.length ≤ n ∨ ws.length ≤ n := fun n hl => by
        rw [List.length_zipWith] at hl
        rw [← rr.len, ← rr2.len]
        omega
      cases b1 with
      | false =>
        refine .inl ⟨(s1 _ _ _ f0 gd.zh).2 rfl, (s2 _ _ _ f0 gd.zh).2 rfl, ?_⟩
        refine for_turns (Fr := FrB Z H _) ⟨fun Z1 H1 R Z2 H2 R2 h s => h.stay s, fun Z1 H1 R n h zh hl => ⟨vs, ws, (s1 _ _ _ h zh).2 rfl, (s2 _ _ _ h zh).2 rfl, len n hl⟩, fun Z1 H1 R n d h zh ee => ?_⟩ hg hb Z _ _ g2 f0 k2
        obtain ⟨x1, y1, ex, ey, rfl⟩ := zw_get ee
        obtain ⟨v, hv, rv⟩ := rr.get ex
        obtain ⟨w, hw, rw'⟩ := rr2.get ey
        refine ⟨⟨vs, ws, v, w, (s1 _ _ _ h zh).2 rfl, (s2 _ _ _ h zh).2 rfl, hv, hw⟩, fun u' H' hy => ?_⟩
        obtain ⟨T, v', w', rfl, hT, rfl, k3, k4⟩ := hy
        have e5 := k3 vs ((s1 _ _ _ h zh).2 rfl)
        have e6 := k4 ws ((s2 _ _ _ h zh).2 rfl)
        rw [hv] at e5; cases e5
        rw [hw] at e6; cases e6
        have st := Stp.newZ (o := .tup [v, w]) zh hT (fun _ => False)
        refine ⟨_, st, ?_⟩
        simp only [pairD, RepD, RepDs]
        exact ⟨T, [v, w], rfl, SqT.of upd_same, v, [w], rfl, RepD.mono (h.1.trans st.z) _ _ rv, w, [], rfl, RepD.mono (h.1.trans st.z) _ _ rw', rfl⟩
      | true =>
        refine .inr ⟨(s1 _ _ _ f0 gd.zh).1 rfl, (s2 _ _ _ f0 gd.zh).1 rfl, ?_⟩
        refine for_turns (Fr := FrB Z H _) ⟨fun Z1 H1 R Z2 H2 R2 h s => h.stay s, fun Z1 H1 R n h zh hl => ⟨vs, ws, (s1 _ _ _ h zh).1 rfl, (s2 _ _ _ h zh).1 rfl, len n hl⟩, fun Z1 H1 R n d h zh ee => ?_⟩ hg hb Z _ _ g2 f0 k2
        obtain ⟨x1, y1, ex, ey, rfl⟩ := zw_get ee
        obtain ⟨v, hv, rv⟩ := rr.get ex
        obtain ⟨w, hw, rw'⟩ := rr2.get ey
        refine ⟨⟨vs, ws, v, w, (s1 _ _ _ h zh).1 rfl, (s2 _ _ _ h zh).1 rfl, hv, hw⟩, fun u' H' hy => ?_⟩
        obtain ⟨T, v', w', rfl, hT, rfl, k3, k4⟩ := hy
        have e5 := k3 vs ((s1 _ _ _ h zh).1 rfl)
        have e6 := k4 ws ((s2 _ _ _ h zh).1 rfl)
        rw [hv] at e5; cases e5
        rw [hw] at e6; cases e6
        have st := Stp.newZ (o := .tup [v, w]) zh hT (fun _ => False)
        refine ⟨_, st, ?_⟩
        simp only [pairD, RepD, RepDs]
        exact ⟨T, [v, w], rfl, SqT.of upd_same, v, [w], rfl, RepD.mono (h.1.trans st.z) _ _ rv, w, [], rfl, RepD.mono (h.1.trans st.z) _ _ rw', rfl⟩
end
end FL

set_option maxHeartbeats 2000000
/-! FLU: plain law: texts. -/
namespace FL
open PySem L2 Classical
/-- a text by its signs -/
def sl (l : List Nat) : Str := ⟨l.toArray⟩
theorem sl_len (l : List Nat) : (sl l).length = l.length := by simp [sl, Str.length]
theorem sl_cps (l : List Nat) : (sl l).cps.toList = l := by simp [sl]
theorem sl_app (a b : List Nat) : sl a ++ sl b = sl (a ++ b) := by
  show (⟨(sl a).cps ++ (sl b).cps⟩ : Str) = _
  simp [sl]
theorem sl_eta (z : Str) : sl z.cps.toList = z := by cases z; simp [sl]
theorem sl_inj {a b : List Nat} (h : sl a = sl b) : a = b := by have := congrArg (fun z : Str => z.cps.toList) h; simpa [sl] using this
theorem slOf (s : String) : Str.ofString s = sl (s.toList.map Char.toNat) := by rw [Str.ofString_eq_toList]; rfl
def fS (l : List Nat) : M := .d (.str (sl l))
def chD (c : Nat) : D := .str (sl [c])
theorem itemsD_str (l : List Nat) : itemsD (.str (sl l)) = some (l.map chD) := by simp [itemsD, sl, chD]
theorem oAdd_str {a b : List Nat} (h : a.length + b.length ≤ 16777216) : oAdd (.d (.str (sl a))) (.d (.str (sl b))) = .ok (.str (sl (a ++ b))) := by
  have h' : (sl a).length + (sl b).length ≤ sizeLine := by rw [sl_len, sl_len, sizeLine_eq]; exact h
  have e : oAdd (.d (.str (sl a))) (.d (.str (sl b))) = if (sl a).length + (sl b).length ≤ sizeLine then .ok (.str (sl a ++ sl b)) else .bad := by
    simp only [oAdd, dOr, dI, dS]
  rw [e, if_pos h', sl_app]
theorem beq_str (a b : List Nat) : (sl a == sl b) = decide (a = b) := by
  by_cases h : a = b
  · subst h; simp
  · have : sl a ≠ sl b := fun z => h (sl_inj z)
    simp [h, this]
theorem oEq_str (a b : List Nat) : oEq (.d (.str (sl a))) (.d (.str (sl b))) = .ok (.bl (decide (a = b))) := by
  rw [oEq_pl (pl_flat rfl) (pl_flat rfl)]
  simp [eqD, fz, toPy, PyData.eqv, beq_str]
theorem oNe_str (a b : List Nat) : oNe (.d (.str (sl a))) (.d (.str (sl b))) = .ok (.bl (!decide (a = b))) := by
  rw [oNe_pl (pl_flat rfl) (pl_flat rfl)]
  simp [eqD, fz, toPy, PyData.eqv, beq_str]
theorem oIn_sign (c : Nat) (l : List Nat) : oIn (.d (.str (sl [c]))) (.d (.str (sl l))) = .ok (.bl (decide (c ∈ l))) := by
  simp only [oIn, inM, M.seq, sl_cps]
theorem mIdx_str {l : List Nat} {i : Int} {c : Nat} (hl : l.length ≤ 16777216) (h : atI l i = some c) : mIdx (.d (.str (sl l))) (.d (.int i)) = .ok (.d (.str (sl [c]))) := by
  have h' : (sl l).length ≤ sizeLine := by rw [sl_len, sizeLine_eq]; exact hl
  simp only [mIdx, M.seq, if_pos h', sl_cps, h]
  rfl
theorem atI_nat {α : Type} {l : List α} {n : Nat} (h : n < l.length) : atI l (n : Int) = l[n]? := by
  unfold atI ixN
  rw [if_pos (by omega), if_pos (by omega)]
  simp
theorem atI_pos {α : Type} {l : List α} {i : Int} (h0 : 0 ≤ i) (h : i < l.length) : atI l i = l[i.toNat]? := by
  unfold atI ixN
  rw [if_pos h0, if_pos h]
  rfl
theorem atI_last {α : Type} {l : List α} {x : α} : atI (l ++ [x]) (-1) = some x := by
  unfold atI ixN
  rw [if_neg (by omega), if_pos (by simp; omega)]
  have : ((-1 : Int) + ((l ++ [x]).length : Nat)).toNat = l.length := by simp; omega
  rw [this]
  simp
theorem ixN_last {n : Nat} : ixN (n + 1) (-1) = some n := by
  unfold ixN
  rw [if_neg (by omega), if_pos (by omega)]
  congr 1
  omega
theorem fl_one {g : SG} {b : SS} {x : D} {xs : List D} {env e1 e2 : Env} (h1 : g (.d x) env = .ok e1) (h2 : b e1 = .ok (.nx, e2)) : fl g b (x :: xs) env = fl g b xs e2 := by
  show (match g (.d x) env with
    | .ok e => match b e with
      | .ok (.nx, e2) => fl g b xs e2
      | .ok (.ct, e2) => fl g b xs e2
      | .ok (.brk, e2) => .ok (.nx, e2)
      | .ok (.ret m, e2) => .ok (.ret m, e2)
      | .exc x e2 => .exc x e2
      | .bad => .bad
    | _ => .bad) = _
  rw [h1]
  simp only [h2]
theorem mulS_space {n : Int} (h0 : 0 ≤ n) (h : n ≤ 1000) : oMulS (.d (.str (sl [32]))) (.d (.int n)) = .ok (.str (sl (List.replicate n.toNat 32))) := by
  have hc : MulC (sl [32]) n := ⟨by omega, h, by rw [sl_len]; decide⟩
  have e : PySem.Txt.mul (sl [32]) n = sl (List.replicate n.toNat 32) := by
    unfold PySem.Txt.mul
    by_cases h1 : n < 1
    · have : n = 0 := by omega
      subst this
      rfl
    · rw [if_neg h1]
      by_cases h2 : n = 1
      · subst h2; rfl
      · have : (n == 1 || (sl [32]).length == 0) = false := by simp [h2, sl_len]
        rw [this]
        simp only [Bool.false_eq_true, if_false]
        have key : ∀ (k : Nat) (acc : Array Nat), (List.replicate k (sl [32]).cps).foldl (· ++ ·) acc = acc ++ (List.replicate k 32).toArray := by
          intro k
          induction k with
          | zero => intro acc; simp
          | succ k ih =>
            intro acc
            rw [List.replicate_succ, List.foldl_cons, ih]
            apply Array.ext'
            simp [sl, List.replicate_succ]
        rw [key]
        simp [sl]
  unfold oMulS
  simp only [if_pos hc, e]
/-- signs of a number -/
theorem num_signs {n : Int} (h : 0 ≤ n) : ∃ l : List Nat, Str.ofString (toString n) = sl l ∧ l ≠ [] ∧ ∀ c ∈ l, 48 ≤ c ∧ c ≤ 57 := by
  obtain ⟨m, rfl⟩ := Int.eq_ofNat_of_zero_le h
  refine ⟨(Nat.toDigits 10 m).map Char.toNat, ?_, ?_, ?_⟩
  · rw [← PySem.W.KIN.signs_num, sl_eta]
  · simp
  · intro c hc
    obtain ⟨ch, hch, rfl⟩ := List.mem_map.mp hc
    exact PyProof.Rows.digit_range (Nat.isDigit_of_mem_toDigits (by decide) (by decide) hch)
end FL
namespace FL
open PySem L2 Classical
theorem pl_flats {xs : List D} (h : ∀ x ∈ xs, flatD0 x = true) : PyData.plainAll (toPys xs) = true ∧ PyData.depthAll (toPys xs) ≤ 1 := by
  induction xs with
  | nil => simp [toPys, PyData.plainAll, PyData.depthAll]
  | cons x xs ih =>
    obtain ⟨h1, h2⟩ := ih fun y hy => h y (by simp [hy])
    have h3 := h x (by simp)
    have h4 : (toPy x).plain = true ∧ (toPy x).depth ≤ 1 := by cases x <;> simp [flatD0] at h3 <;> simp [toPy, PyData.plain, PyData.depth]
    simp only [toPys, PyData.plainAll, PyData.depthAll, h1, h4.1, Bool.and_self, true_and]
    omega
theorem pl_list {xs : List D} (h : ∀ x ∈ xs, flatD0 x = true) : Pl 60 (.lst xs) ∧ Pl 60 (.tup xs) := by
  obtain ⟨h1, h2⟩ := pl_flats h
  refine ⟨⟨?_, ?_⟩, ⟨?_, ?_⟩⟩ <;> simp only [toPy, PyData.plain, PyData.depth, h1] <;> omega
theorem eqv_flat : ∀ {x : D}, flatD0 x = true → PyData.eqv (toPy x) (toPy x) = true
  | .non, _ => by simp [toPy, PyData.eqv]
  | .bl _, _ => by simp [toPy, PyData.eqv]
  | .int _, _ => by simp [toPy, PyData.eqv]
  | .str _, _ => by simp [toPy, PyData.eqv]
theorem eqv_flats {xs : List D} (h : ∀ x ∈ xs, flatD0 x = true) : PyData.eqvAll (toPys xs) (toPys xs) = true := by
  induction xs with
  | nil => simp [toPys, PyData.eqvAll]
  | cons x xs ih => simp [toPys, PyData.eqvAll, eqv_flat (h x (by simp)), ih fun y hy => h y (by simp [hy])]
theorem oEq_same {xs : List D} (h : ∀ x ∈ xs, flatD0 x = true) {m1 m2 : M} (h1 : fz m1 = .lst xs) (h2 : fz m2 = .lst xs) : oEq m1 m2 = .ok (.bl true) := by
  rw [oEq_pl (by rw [h1]; exact (pl_list h).1) (by rw [h2]; exact (pl_list h).1), h1, h2]
  simp [eqD, toPy, PyData.eqv, eqv_flats h]
theorem brw_own {α : Type} (f : α → D) (xs : List α) : brw (.lst (xs.map fun x => .d (f x))) = some (false, xs.map f) := by
  have h1 : (xs.map fun x => M.d (f x)).all isD = true := by
    induction xs with
    | nil => rfl
    | cons x xs ih => simp [isD]
  have h2 : (xs.map fun x => M.d (f x)).map unD = xs.map f := by
    induction xs with
    | nil => rfl
    | cons x xs ih => simp [unD]
  simp only [brw, h1, h2, if_true]
theorem zip_same (f : List Nat → D) : ∀ xs : List (List Nat), List.zipWith pairD (xs.map f) (xs.map f) = xs.map fun x => pairD (f x) (f x)
  | [] => rfl
  | x :: xs => by simp [zip_same f xs]
end FL
namespace FL
theorem ssSeq_nx {f g : SS} {env e : Env} (h : f env = .ok (.nx, e)) : ssSeq f g env = g e := by unfold ssSeq; rw [h]
theorem ssSeq_ret {f g : SS} {env e : Env} {m : M} (h : f env = .ok (.ret m, e)) : ssSeq f g env = .ok (.ret m, e) := by unfold ssSeq; rw [h]
theorem runF_ret {N n : Nat} {pr : List Nat} {b : SS} {ms : List M} {m : M} {e : Env} (h : b (ms.map some ++ List.replicate (N - n) none) = .ok (.ret m, e)) : runF N n pr b ms = .ok (m, (killAll pr e).take n) := by unfold runF; rw [h]
theorem runF_nx {N n : Nat} {pr : List Nat} {b : SS} {ms : List M} {e : Env} (h : b (ms.map some ++ List.replicate (N - n) none) = .ok (.nx, e)) : runF N n pr b ms = .ok (.d .non, (killAll pr e).take n) := by unfold runF; rw [h]
end FL
namespace FL
open PySem L2 Classical
/-- the script's cells up to the k-th -/
theorem siQ_scr {ns : List Int} {env : Env} {k : Int} (h : 0 ≤ k) : siQ (sSl (vN 0) voNo (voI (vC (.int k)))) (some (.d (.scr (ns.map D.int))) :: env) = .ok ((ns.take k.toNat).map D.int, some (.d (.scr (ns.map D.int))) :: env) := by
  have e1 : sSl (vN 0) voNo (voI (vC (.int k))) (some (.d (.scr (ns.map D.int))) :: env) = .ok (.lst (((ns.take k.toNat).map D.int).map .d), some (.d (.scr (ns.map D.int))) :: env) := by
    simp only [sSl, vN, getE, voNo, voI, vC, List.getElem?_cons_zero, slM_scr, cutL_take _ h, ← List.map_take]
  unfold siQ
  rw [e1]
  simp only [fz, fzs_d, itemsD]
theorem ssFor_scr {ns : List Int} {env : Env} {k : Int} {g : SG} {b : SS} (h : 0 ≤ k) : ssFor (siQ (sSl (vN 0) voNo (voI (vC (.int k))))) g b (some (.d (.scr (ns.map D.int))) :: env) = fl g b ((ns.take k.toNat).map D.int) (some (.d (.scr (ns.map D.int))) :: env) := by
  unfold ssFor
  rw [siQ_scr h]
end FL
namespace FL
open PySem L2 Classical
/-! ### sizes told by a power that is never reckoned -/
theorem big_of {x : Int} (h : x.natAbs.log2 < 1048576) : ∃ n, n ≤ 1048576 ∧ 0 < n ∧ x.natAbs < 2 ^ n := ⟨x.natAbs.log2 + 1, by omega, by omega, Nat.lt_log2_self⟩
theorem bigs_of {ns : List Int} (h : ∀ z ∈ ns, z.natAbs.log2 < 1048576) : ∃ n, n ≤ 1048576 ∧ 0 < n ∧ ∀ z ∈ ns, z.natAbs < 2 ^ n := by
  obtain ⟨n, hn⟩ : ∃ n, n = 1048576 := ⟨_, rfl⟩
  refine ⟨n, by omega, by omega, fun z hz => ?_⟩
  have := h z hz
  rw [← hn] at this
  exact Nat.lt_of_lt_of_le Nat.lt_log2_self (Nat.pow_le_pow_right (by decide) this)
theorem div_lt {x j : Int} {n : Nat} (h : x.natAbs < 2 ^ n) (hj : 0 < j) : (x / j).natAbs < 2 ^ (n + 1) := by
  rw [Nat.pow_succ]
  have : (x / j).natAbs ≤ x.natAbs + 1 := by
    rcases Int.le_total 0 x with q | q
    · have h1 := Int.ediv_nonneg q (Int.le_of_lt hj)
      have h2 := Int.ediv_le_self j q
      omega
    · have h1 : x / j ≤ 0 := Int.ediv_nonpos_of_nonpos_of_neg q hj
      have h2 : x ≤ x / j := by
        have e := Int.mul_ediv_add_emod x j
        have e2 := Int.emod_nonneg x (show j ≠ 0 by omega)
        have e3 := Int.emod_lt_of_pos x hj
        have e4 : j * (x / j) ≤ 1 * (x / j) := Int.mul_le_mul_of_nonpos_right (by omega) h1
        have e5 : x - j < j * (x / j) := by omega
        refine Int.not_lt.mp fun q2 => ?_
        have e6 : x / j + 1 ≤ x := by omega
        have e7 : j * (x / j + 1) ≤ 1 * (x / j + 1) := Int.mul_le_mul_of_nonpos_right (by omega) (by omega)
        rw [Int.mul_add] at e7
        omega
      omega
  have : 1 ≤ 2 ^ n := Nat.one_le_two_pow
  omega
def sumI : List Int → Int
  | [] => 0
  | x :: xs => x + sumI xs
theorem sum_lt {n : Nat} : ∀ {xs : List Int}, (∀ x ∈ xs, x.natAbs < 2 ^ n) → (sumI xs).natAbs < 2 ^ (n + xs.length)
  | [], _ => by simp [sumI, Nat.two_pow_pos]
  | x :: xs, h => by
    have h1 := sum_lt fun y hy => h y (List.mem_cons_of_mem x hy)
    have h2 := h x (by simp)
    have h3 : 2 ^ n ≤ 2 ^ (n + xs.length) := Nat.pow_le_pow_right (by decide) (by omega)
    simp only [sumI, List.length_cons]
    rw [← Nat.add_assoc, Nat.pow_succ]
    omega
theorem zip_pairs : ∀ xs ys : List Int, List.zipWith pairD (xs.map D.int) (ys.map D.int) = (List.zip xs ys).map fun p => pairD (.int p.1) (.int p.2)
  | [], _ => by simp
  | _ :: _, [] => by simp
  | x :: xs, y :: ys => by simp [zip_pairs xs ys]
theorem frac_mul {t b : Int} (h : b ≠ 0) : fracT t b * b = t * fracB t b ∧ 0 < fracB t b ∧ Int.gcd (fracT t b) (fracB t b) = 1 := by
  unfold fracT fracB
  split
  · rename_i hn
    have h1 := low_cross (t := -t) (b := -b)
    refine ⟨?_, lowB_pos (by omega), low_gcd (by omega)⟩
    rw [Int.mul_neg, Int.neg_mul] at h1
    omega
  · exact ⟨low_cross, lowB_pos (by omega), low_gcd h⟩
theorem frac_lt {t b : Int} {n m : Nat} (ht : t.natAbs < 2 ^ n) (hb : b.natAbs < 2 ^ m) : (fracT t b).natAbs < 2 ^ n ∧ (fracB t b).natAbs < 2 ^ m := by
  unfold fracT fracB
  split
  · have h1 := lowT_le (t := -t) (b := -b)
    have h2 := lowB_le (t := -t) (b := -b)
    rw [Int.natAbs_neg] at h1 h2
    exact ⟨by omega, by omega⟩
  · have h1 := lowT_le (t := t) (b := b)
    have h2 := lowB_le (t := t) (b := b)
    exact ⟨by omega, by omega⟩
end FL
namespace FL
open PySem L2 Classical
theorem sumI_sum : ∀ xs : List Int, xs.sum = sumI xs
  | [] => rfl
  | x :: xs => by simp [sumI, sumI_sum xs]
theorem intsOf_map : ∀ xs : List Int, intsOf (xs.map fun x => M.d (.int x)) = some xs
  | [] => rfl
  | x :: xs => by simp [intsOf, intsOf_map xs]
/-- a slice of the script as a value -/
theorem sSl_scr {ns : List Int} {env : Env} {lo hi : Env → Res (Option Int)} {l h : Option Int} (e1 : lo (some (.d (.scr (ns.map D.int))) :: env) = .ok l) (e2 : hi (some (.d (.scr (ns.map D.int))) :: env) = .ok h) :
    sSl (vN 0) lo hi (some (.d (.scr (ns.map D.int))) :: env) = .ok (.lst ((cutL ns l h).map fun x => .d (.int x)), some (.d (.scr (ns.map D.int))) :: env) := by
  have hc : cutL (ns.map D.int) l h = (cutL ns l h).map D.int := by unfold cutL; simp
  simp only [sSl, vN, getE, List.getElem?_cons_zero, e1, e2, slM_scr, hc, List.map_map]
  rfl
end FL

set_option maxHeartbeats 2000000
/-! FLV: a caught exception that is kept; isinstance of it. -/
namespace FL
open PySem L2 Classical PySem.Spec PyProof.Rows

/-- an object that the entry didn't know, untracked till now, is tracked -/
theorem Inv.track {X : Cx} {pins : List (Addr × Obj)} {σ : L2.St} {H : Hp} {s : Shared} {a : Addr} {o : HO} (I : L2.Inv X pins σ H s) (n0 : X.s_0.heap.get? a = none) (na : H a = none) (np : ∀ p ∈ X.pn ++ pins, p.1 ≠ a) (nL : X.env.locals ≠ a) (nC : ∀ x c, X.env.cells.lookup x = some c → c ≠ a)
    (new : ObjOk X.prog X.w (upd H a o) s.heap a o) : L2.Inv X pins σ (upd H a o) s := by
  refine ⟨I.ok, I.os, I.bare, ⟨I.base.keep, I.base.slot, fun b u e n hx => ?_, I.base.there, fun b xs e => ?_, fun b u v e => ?_, fun b ps e => ?_⟩, I.loc, I.cell, ?_, fun x c e => ?_, fun p hp => ?_, HOk.laidN I.hok (fun _ _ z => z) na new, I.len⟩
  · rw [upd_ne (fun z => by rw [z, n0] at e; cases e)]; exact I.base.free b u e n hx
  · have q := I.base.tups b xs e
    rw [upd_ne (ne_of_none q na)]; exact q
  · have q := I.base.frzs b u v e
    rw [upd_ne (ne_of_none q na)]; exact q
  · obtain ⟨m, q⟩ := I.base.tbls b ps e
    exact ⟨m, by rw [upd_ne (ne_of_none q na)]; exact q⟩
  · rw [upd_ne nL]; exact I.free
  · rw [upd_ne (nC x c e)]; exact I.freeC x c e
  · obtain ⟨h1, h2, h3⟩ := I.pin p hp
    exact ⟨h1, by rw [upd_ne (np p hp)]; exact h2, h3⟩
theorem ek_ok {P : Program} {w : World} {H : Hp} {h : Heap} {a : Addr} {cls : Value} {oe : Obj} {vs : Array Value} (e : h.get? a = some oe) (z : Zc cls none oe) (d : oe.data = .fields vs) : ObjOk P w H h a (EK cls a) :=
  ⟨⟨oe, vs, e, z.1, z.2, d⟩, ⟨oe, e⟩, fun _ _ ⟨o, v, q, r⟩ k => ⟨o, v, k o q, r⟩⟩
/-- what 'except x as n: y = n' wishes of an exception of the body -/
def wKeep (K : PySem.W.Frag) (c : Value) (i j : Nat) (Wout : WX) (D : Ends) : WX := fun cls d σ H =>
  ∃ b, PySem.W.exmOne K cls c = some b ∧ (b = true → d = none ∧ ∀ a, H a = none → D.nx ((σ.set j (some (.ref a))).set i none) (upd H a (EK cls a))) ∧ (b = false → Wout cls d σ H)
section
variable {X : Cx} {x n y : Str} {c : Value} {i j : Nat} {body : List Stmt} {np pos pos' ps pn2 py : Pos} {tb : WX → TS} {Wout : WX}
theorem ps_try_keep (hs : X.stack = X.env :: X.outer) (hf : X.env.frame = some X.env.locals) (hex : X.ex = []) (hN : X.N.Nodup) (hi : X.N[i]? = some n) (hj : X.N[j]? = some y) (hij : i ≠ j) (hln : X.env.kindOf n = some .local) (hly : X.env.kindOf y = some .local) (hc : Names X x c) (tk : Takes X Wout)
    (hnd : (n == ("__debug__" : Str)) = false) (hncd : (n == ("__classdict__" : Str)) = false)
    (hb : ∀ (W : WX) (pn : List (Addr × Obj)) (xe : Value → Shared → Prop), Takes (X.tr pn xe) W → PassesOwn (model X.prog X.w) X.A X.env xe → PSs (X.tr pn xe) body (tb W))
    (hsw : ∀ (X' : Cx), X'.env = X.env → swapsWith (.Name n pn2) (some (.Name y py)) ps.line X'.env = pure false) :
    PS X (.Try body [.ExceptHandler (some (.Name x np)) (some n) [.Assign [.Name y py] (.Name n pn2) ps] pos'] [] [] pos) (fun D σ H => tb (wKeep X.K c i j Wout D) D σ H) := by
  refine ⟨fun pins s σ H D I h => ?_⟩
  have ok := I.ok
  have hfr : X.A.frames = some (X.env :: X.outer) := by rw [ok.frames, hs]
  have hloc : Loc X.env.scope n := .inl hln
  refine wpAny_Try_except ?_
  refine wpAny_mono ((hb (wKeep X.K c i j Wout D) (X.pn ++ pins) (fun e s₁ => wpAny (model X.prog X.w) X.A (noteFrame e X.env) (fun _ s₂ => wpAny (model X.prog X.w) X.A (setFlight e none) (fun _ s₃ =>
    wpAny (model X.prog X.w) X.A (handleBy e X.env [.ExceptHandler (some (.Name x np)) (some n) [.Assign [.Name y py] (.Name n pn2) ps] pos']) (SP X pins D) X.xe s₃) X.xe s₂) X.xe s₁) (fun u s' xx => ?_) PassesOwn.looking).run [] s σ H D (I.toTry _) h) (fun f s1 hsp => ?_) (fun e s1 he => he)
  · obtain ⟨a, B, sI, pins', σ', H', cls, d, rfl, J', nb, up, sky, na, os, ag, b, hb1, hyes, hno⟩ := xx
    have J : L2.Inv X pins σ' H' sI := J'.ofTry ok
    have sky' : Sky B (X.env :: X.outer) a (Zc cls d) X.env.locals s'.heap := by rw [← hs]; exact sky
    show wpAny (model X.prog X.w) X.A (noteFrame (.ref a) X.env) _ _ _
    refine Sky.land Zc.steady hfr hf sky' fun h3 fl3 up3 => ?_
    have J3 : L2.Inv X pins σ' H' { s' with heap := h3 } := J.landed nb fl3.1 (up.trans up3) os ag
    obtain ⟨oe3, vs3, he3, hz3, hd3⟩ := fl3.there
    have notFr : ∀ {h : Heap} {o : Obj} {vs : Array Value}, h.FunFrames B (X.env :: X.outer) → h.get? a = some o → o.data = .fields vs → a ∉ frs (X.env :: X.outer) := fun {h o vs} ff e dd hm => by
      obtain ⟨_, o', e', hnf⟩ := ff.mem hm
      rw [e] at e'; cases e'
      exact hnf _ dd
    have nfr := notFr fl3.2.2.1 he3 hd3
    have nL : a ≠ X.env.locals := fun z => nfr (List.mem_filterMap.mpr ⟨X.env, List.mem_cons_self, by rw [hf, z]⟩)
    have nF : a ∉ X.fs := fun hm => by
      obtain ⟨e, he, q⟩ := List.mem_filterMap.mp hm
      exact nfr (List.mem_filterMap.mpr ⟨e, List.mem_cons_of_mem _ he, q⟩)
    have S3 := J3.suite he3 hd3 na nL nF
    -- a is new
    have sIa : sI.heap.get? a = none := by
      cases e : sI.heap.get? a with
      | none => rfl
      | some o =>
        have := nb a o e (by rw [hs]; exact nfr)
        rw [fl3.2.1] at this
        cases this
    have n0 : X.s_0.heap.get? a = none := by
      cases e : X.s_0.heap.get? a with
      | none => rfl
      | some o =>
        obtain ⟨o', e'⟩ := J.base.there a o e (by rw [hex]; exact fun z => nomatch z)
        rw [sIa] at e'
        cases e'
    have nP : ∀ p ∈ X.pn ++ pins, p.1 ≠ a := fun p hp z => by
      have := (J.pin p hp).1
      rw [z, sIa] at this
      cases this
    have nC : ∀ x c, X.env.cells.lookup x = some c → c ≠ a := fun x c e z => by
      obtain ⟨v, o, ho, _⟩ := J.cell x c e
      rw [z, sIa] at ho
      cases ho
    refine wpAny_handleBy_cons (codeAny_handlers_test ?_) (by intro q; cases q)
    have LT : PySem.W.Looks (model X.prog X.w) h3 (typeOf (.ref a)) cls := fun A Q E s k q => wpAny_typeOf_ref (k _ _ he3) (by rw [hz3.1]; exact q)
    have LM := PySem.W.exm_one (M := model X.prog X.w) (J3.kIn) LT hb1
    have test : ∀ {Q : Value → Shared → Prop} {E : Value → Shared → Prop}, Q c { s' with heap := h3 } → wpAny (model X.prog X.w) (X.A.mark (some (.ref a))) (eval (.Name x np) X.env) Q E { s' with heap := h3 } := fun {Q E} q => by
      obtain ⟨hg, hdbg, hm | ⟨hm, hv, hnn⟩⟩ := hc
      · exact ld_glob (X := X.suite a ((a, oe3) :: (X.pn ++ pins))) S3 hg hm q hdbg
      · exact ld_blt (X := X.suite a ((a, oe3) :: (X.pn ++ pins))) S3 hg hm hv q hnn hdbg
    refine test (LM.here ?_)
    cases b with
    | true =>
      obtain ⟨rfl, hyes'⟩ := hyes rfl
      refine codeAny_handlers_suite_as ?_
      refine HandSPX.lands_againZ fl3 fun h4 fl4 up4 => ?_
      have J4 : L2.Inv X pins σ' H' { s' with heap := h4 } := J.landed nb fl4.1 ((up.trans up3).trans up4) os ag
      obtain ⟨oe4, vs4, he4, hz4, hd4⟩ := fl4.there
      have S4 := J4.suite he4 hd4 na nL nF
      refine store_ok (X := X.suite a ((a, oe4) :: (X.pn ++ pins))) (v := .ref a) S4 hN hi hloc rfl (fun s5 S5 => ?_) (.inr hln)
      have hsu : PSs (X.suite a ((a, oe4) :: (X.pn ++ pins))) [.Assign [.Name y py] (.Name n pn2) ps] (tAsg (tVar i) (gName j)) :=
        pss_one (ps_set (X := X.suite a ((a, oe4) :: (X.pn ++ pins))) hN hj (.inl hly) (pe_var (X := X.suite a ((a, oe4) :: (X.pn ++ pins))) hi (.inl hln) hnd hncd) (hsw _ rfl) (.inr hly))
      have hi' : (σ'.set i (some (.ref a)))[i]? = some (some (.ref a)) := by
        rw [List.getElem?_set_self]
        rw [J.len]
        exact (List.getElem?_eq_some_iff.mp hi).1
      refine wpAny_mono (hsu.run [] s5 _ H' { nx := fun σ6 H6 => σ6 = (σ'.set i (some (.ref a))).set j (some (.ref a)) ∧ H6 = H', rt := fun _ _ => False } S5 ⟨.ref a, hi', rfl, rfl⟩) (fun f s6 hsp => ?_) (fun _ _ z => False.elim z)
      cases f with
      | next =>
        obtain ⟨σ6, H6, S6, rfl, rfl⟩ := hsp
        have pin := (S6.pin (a, oe4) (List.mem_append_left _ List.mem_cons_self)).1
        have T6 := Inv.track (o := EK cls a) (S6.unsuite ok) n0 na nP (Ne.symm nL) nC (ek_ok pin hz4 hd4)
        refine gone_ok T6 hN hi hln fun s7 J7 => ⟨_, _, J7, ?_⟩
        have e : (((σ'.set i (some (.ref a))).set j (some (.ref a))).set i none) = (σ'.set j (some (.ref a))).set i none := by
          rw [List.set_comm _ _ hij, List.set_set]
        rw [e]
        exact hyes' a na
      | brk => obtain ⟨σ6, H6, S6, z⟩ := hsp; exact z.elim
      | cont => obtain ⟨σ6, H6, S6, z⟩ := hsp; exact z.elim
      | ret u => obtain ⟨v6, σ6, H6, S6, r6, z⟩ := hsp; exact z.elim
    | false =>
      show wpAny _ X.A (handleBy (.ref a) X.env []) _ _ _
      refine wpAny_handleBy_nil ?_
      obtain ⟨k1, k2, k3, oe, vs, T, oT, ts', he, hz, hd, h1, hr⟩ := id fl3
      unfold PySem.passOn
      refine wpAny_bind (wpAny_field he hd h1 ?_)
      rw [if_neg (show ¬ ((Value.ref T == Value.none) = true) from by simp)]
      have fin : wpAny (model X.prog X.w) X.A (setFlight (.ref a) X.env.frame) (fun _ s4 => wpAny (model X.prog X.w) X.A (throw (.ref a) : Sem Flow) (SP X pins D) X.xe s4) X.xe { s' with heap := h3 } := by
        rw [hf]
        refine HandSPX.setFlight_upZ fl3 fun h4 hh4 up4 => wpAny_throw (tk _ _ ?_)
        exact ⟨a, B, sI, pins, σ', H', cls, d, rfl, J, nb, (up.trans up3).trans up4, .inr (.inr (by rw [hs]; exact hh4)), na, os, ag, hno rfl⟩
      first
        | exact wpAny_bind (wpAny_pure (wpAny_bind fin))
        | exact wpAny_bind fin
  · cases f with
    | next =>
      obtain ⟨σ', H', J', q⟩ := hsp
      exact wpAny_execs_nil ⟨σ', H', J'.ofTry ok, q⟩
    | brk =>
      obtain ⟨σ', H', J', q⟩ := hsp
      exact ⟨σ', H', J'.ofTry ok, q⟩
    | cont =>
      obtain ⟨σ', H', J', q⟩ := hsp
      exact ⟨σ', H', J'.ofTry ok, q⟩
    | ret u =>
      obtain ⟨v, σ', H', J', r, q⟩ := hsp
      exact ⟨v, σ', H', J'.ofTry ok, r, q⟩
end
end FL
namespace FL
open PySem L2 Classical
/-! ### statements: the reading that is just the semantics -/
def SSem (G : Gx) (W : WX') (P : Px) (f : SS) : TS := fun D σ H => ∃ Z env S, Good G Z H σ env S ∧ SPost G W P D Z H (U S) σ (f env)
theorem PSs'.sem {G : Gx} {X : Cx} {W : WX'} {P : Px} {sts : List Stmt} {f : SS} (h : PSs' G X W P sts f) : PSs X sts (SSem G W P f) := by
  obtain ⟨t, p, h⟩ := h.ex
  refine ⟨fun pins s σ H D I q => p.run pins s σ H D I ?_⟩
  obtain ⟨Z, env, S, g, q⟩ := q
  exact h D Z H σ env S g q
theorem Good.killσ {G : Gx} {Z H : Hp} {σ : L2.St} {env : Env} {S : Rs} {i : Nat} (g : Good G Z H σ (env.set i none) S) : Good G Z H (σ.set i none) (env.set i none) S := by
  refine ⟨g.zh, fun k m e => ?_, g.dj, g.al, g.zf, by have := g.len; rw [List.length_set] at this ⊢; rw [List.length_set]; exact this⟩
  by_cases hk : i = k
  · subst hk
    by_cases hl : i < env.length
    · rw [List.getElem?_set_self hl] at e; cases e
    · rw [List.getElem?_eq_none (by rw [List.length_set]; omega)] at e; cases e
  · rw [List.getElem?_set_ne hk]
    exact g.rep k m e
/-- whom an except clause takes: the class's name, or nobody known -/
abbrev Tab := String → Option Bool
def ssTryK (i j : Nat) (tab : Tab) (f : SS) : SS := fun env => match f env with
  | .exc x e => match tab x.C, x.row with
    | some true, none => if i < e.length ∧ j < e.length then .ok (.nx, (e.set j (some (.d (.exc x.C)))).set i none) else .bad
    | _, _ => .bad
  | r => r
section
variable {G : Gx} {X : Cx} {W : WX'} {P : Px} {x n y : Str} {c : Value} {body : List Stmt} {np pos pos' ps pn2 py : Pos} {f : SS} {tab : Tab}
theorem xs_tryK (i j : Nat) (hK : G.K = X.K) (hs : X.stack = X.env :: X.outer) (hf : X.env.frame = some X.env.locals) (hex : X.ex = []) (hN : X.N.Nodup) (tk : Takes X W) (hc : Names X x c) (ht : ∀ C b, tab C = some b → PySem.W.exmOne G.K (.ref (G.ad C)) c = some b)
    (hb : ∀ (W' : WX') (pn : List (Addr × Obj)) (xe : Value → Shared → Prop), Takes (X.tr pn xe) W' → PassesOwn (model X.prog X.w) X.A X.env xe → PSs' G (X.tr pn xe) W' P body f)
    (hi : X.N[i]? = some n := by rfl) (hj : X.N[j]? = some y := by rfl) (hij : i ≠ j := by decide) (hln : X.env.kindOf n = some .local := by rfl) (hly : X.env.kindOf y = some .local := by rfl) (hPi : ¬ P i := by decide) (hPj : ¬ P j := by decide)
    (hnd : (n == ("__debug__" : Str)) = false := by decide) (hncd : (n == ("__classdict__" : Str)) = false := by decide)
    (hsw : ∀ (X' : Cx), X'.env = X.env → swapsWith (.Name n pn2) (some (.Name y py)) ps.line X'.env = pure false := by intro _ e; rw [e]; rfl) :
    PS' G X W P (.Try body [.ExceptHandler (some (.Name x np)) (some n) [.Assign [.Name y py] (.Name n pn2) ps] pos'] [] [] pos) (ssTryK i j tab f) := by
  refine ⟨_, ps_try_keep (tb := fun W' => SSem G W' P f) hs hf hex hN hi hj hij hln hly hc tk hnd hncd (fun W' pn xe tk' hp => (hb W' pn xe tk' hp).sem) hsw, fun D Z H σ env S gd p => ?_⟩
  refine ⟨Z, env, S, gd, ?_⟩
  unfold ssTryK at p
  cases e : f env with
  | bad => rw [e] at p; exact p.elim
  | ok r =>
    rw [e] at p
    obtain ⟨fl', e1⟩ := r
    cases fl' <;> exact p
  | exc xx e1 =>
    rw [e] at p
    intro cls d σ' Z' H' S' hx fx s' g'
    cases et : tab xx.C with
    | none => simp only [et] at p; exact p.elim
    | some b =>
      cases er : xx.row with
      | some m => simp only [et, er] at p; cases b <;> exact p.elim
      | none =>
        cases b with
        | false => simp only [et, er] at p; exact p.elim
        | true =>
          simp only [et, er] at p
          split at p
          case isFalse => exact p.elim
          rename_i hl
          have hx' : cls = .ref (G.ad xx.C) ∧ d = none := by
            obtain ⟨h1, h2⟩ := hx
            rw [er] at h2
            exact ⟨h1, h2⟩
          obtain ⟨rfl, rfl⟩ := hx'
          refine ⟨true, by rw [← hK]; exact ht _ _ et, fun _ => ⟨rfl, fun a ha => ?_⟩, fun z => nomatch z⟩
          have st := Stp.newZ (o := EK (.ref (G.ad xx.C)) a) g'.zh ha (U S')
          have g2 := (g'.move (Stp.newZ (o := EK (.ref (G.ad xx.C)) a) g'.zh ha (fun _ => False)) fun _ _ z => z).1
          have g3 := g2.put (i := j) (m := .d (.exc xx.C)) (T := fun _ => False) (v := .ref a) (Hld.data (by simp only [RepD]; exact ⟨a, rfl, upd_same⟩)) hl.2
          have g4 := g3.kill i
          refine p _ _ _ _ ?_ ((s'.trans st).weak fun b z => ?_) (Good.killσ g4)
          · refine fx.trans ⟨fun k hk => ?_, by rw [List.length_set, List.length_set]⟩
            rw [List.getElem?_set_ne (fun (z : i = k) => hPi (by rw [z]; exact hk)), List.getElem?_set_ne (fun (z : j = k) => hPj (by rw [z]; exact hk))]
          · exact (Rs.set_sub (Rs.wipe_le z)).elim id fun z => z.elim
end

/-! ### isinstance of a caught exception -/
def vIsx (tab : Tab) (g : VE) : VE := fun env => match g env with
  | .ok (.d (.exc C)) => match tab C with
    | some b => .ok (.d (.bl b))
    | none => .bad
  | _ => .bad

def rIsEK (K : PySem.W.Frag) : List V → Hp → VK → Prop := fun xs H Q => ∃ (a D : Addr) (c : V) (cv : Value) (b : Bool), xs = [.ref a, c] ∧ H a = some (EK (.ref D) a) ∧ ExcC K D ∧ (∀ u, RelV c u → u = cv) ∧ PySem.W.kitOne K (.ref D) cv = some b ∧ Q (.bl b) H
theorem call_isEK {X : Cx} : CallR X (.builtin "isinstance") (rIsEK X.K) := by
  intro pins s σ H xs us Q I r h
  obtain ⟨a, D, c, cv, b, rfl, ha, C, hcv, e, q⟩ := h
  cases r with
  | cons rx rr =>
    cases rr with
    | cons rt rr =>
      cases rr
      cases rx
      have ec := hcv _ rt
      subst ec
      obtain ⟨⟨oe, vs, hget, h1, h2, h3⟩, _⟩ := I.hok a _ ha
      have J : PySem.W.InstAt s.heap a oe D none := by
        obtain ⟨oc, od, oda, osl⟩ := oe
        dsimp only at h1 h2 h3
        subst h1 h2 h3
        exact ⟨hget, rfl, rfl, trivial⟩
      exact PySem.W.kia_one (PySem.W.handS_kitx_exc C.hg C.hk C.hs C.hd C.ha C.hn C.ht C.hm) I.kIn J e (fun z => nomatch z) fun tk => ⟨.bl b, H, I.kept (t' := tk) fun _ _ z => z, rfl, q⟩
section
variable {G : Gx} {X : Cx} {e : Expr} {g : VE} {T : Str} {p p2 pos : Pos}
/-- isinstance(e, T), T a class: cv its value -/
theorem xv_isx (tab : Tab) {c : V} {cv : Value} (hK : G.K = X.K) (hm : X.mg "isinstance" = none) (ht : ∀ C b, tab C = some b → PySem.W.kitOne G.K (.ref (G.ad C)) cv = some b ∧ ExcC G.K (G.ad C)) (h : PVs G X e g) (hT : PE X (.Name T p2) (tC c)) (hcv : ∀ u, RelV c u → u = cv)
    (hg : Gl X "isinstance" := by rfl)
    (he : starEach (e :: [.Name T p2]) X.env = (false, eval e X.env) :: starEach [.Name T p2] X.env := by rfl) (he2 : starEach (.Name T p2 :: []) X.env = (false, eval (.Name T p2) X.env) :: starEach [] X.env := by rfl) (hpl : (backTo pos (starEach [.Name T p2] X.env)).any (·.1) = false := by rfl) :
    PVs G X (.Call (.Name "isinstance" p) [e, .Name T p2] [] pos) (vIsx tab g) := by
  obtain ⟨te, q, h⟩ := h.ex
  refine ⟨_, pe_callB call_isEK hg hm PyProof.Rows.boot_isinstance (pa_cons q (pa_cons hT pa_nil he2) he) (by decide) (by decide) he hpl, fun Z H σ env S Q gd => ?_⟩
  unfold vIsx
  have h1 := h Z H σ env S (fun x H1 => tCons (tC c) tNil σ H1 fun xs H2 => rIsEK X.K (x :: xs) H2 Q) gd
  cases e1 : g env with
  | ok m =>
    rw [e1] at h1
    cases m with
    | d x =>
      cases x with
      | exc C =>
        simp only
        cases et : tab C with
        | none => trivial
        | some b =>
          intro k
          refine h1 fun v T1 _ r1 => ?_
          simp only [RepM, RepD] at r1
          obtain ⟨a, rfl, ha⟩ := r1
          obtain ⟨k1, k2⟩ := ht C b et
          rw [hK] at k1 k2
          rw [hK] at *
          exact ⟨a, G.ad C, c, cv, b, rfl, gd.zh _ _ ha, k2, hcv, k1, k _ (fun _ => False) (fun _ z => z.elim) (by simp [RepM, RepD])⟩
      | _ => trivial
    | _ => trivial
  | _ => trivial
theorem xv_isO (tab : Tab) {Ta : Addr} (hK : G.K = X.K) (hm : X.mg "isinstance" = none) (hmT : X.mg T = some (.ref Ta)) (ht : ∀ C b, tab C = some b → PySem.W.kitOne G.K (.ref (G.ad C)) (.ref Ta) = some b ∧ ExcC G.K (G.ad C)) (h : PVs G X e g) (hgT : Gl X T := by rfl) (hdb : (T == ("__debug__" : Str)) = false := by decide)
    (hg : Gl X "isinstance" := by rfl)
    (he : starEach (e :: [.Name T p2]) X.env = (false, eval e X.env) :: starEach [.Name T p2] X.env := by rfl) (he2 : starEach (.Name T p2 :: []) X.env = (false, eval (.Name T p2) X.env) :: starEach [] X.env := by rfl) (hpl : (backTo pos (starEach [.Name T p2] X.env)).any (·.1) = false := by rfl) :
    PVs G X (.Call (.Name "isinstance" p) [e, .Name T p2] [] pos) (vIsx tab g) :=
  xv_isx tab (c := .ref Ta) (cv := .ref Ta) hK hm ht h (pe_glob hgT hmT rfl hdb) (fun u r => r) hg he he2 hpl
theorem xv_isT (tab : Tab) {ty : String} (hK : G.K = X.K) (hm : X.mg "isinstance" = none) (hmT : X.mg T = none) (hv : bootBuiltins T = some (.type ty)) (ht : ∀ C b, tab C = some b → PySem.W.kitOne G.K (.ref (G.ad C)) (.type ty) = some b ∧ ExcC G.K (G.ad C)) (h : PVs G X e g) (hgT : Gl X T := by rfl) (hn : T ≠ "__name__" := by decide) (hdb : (T == ("__debug__" : Str)) = false := by decide)
    (hg : Gl X "isinstance" := by rfl)
    (he : starEach (e :: [.Name T p2]) X.env = (false, eval e X.env) :: starEach [.Name T p2] X.env := by rfl) (he2 : starEach (.Name T p2 :: []) X.env = (false, eval (.Name T p2) X.env) :: starEach [] X.env := by rfl) (hpl : (backTo pos (starEach [.Name T p2] X.env)).any (·.1) = false := by rfl) :
    PVs G X (.Call (.Name "isinstance" p) [e, .Name T p2] [] pos) (vIsx tab g) :=
  xv_isx tab (c := .ty ty) (cv := .type ty) hK hm ht h (pe_bltn (v := .ty ty) hgT hmT hv rfl hn hdb) (fun u r => r) hg he he2 hpl
end
end FL
namespace FL
open PySem PySem.W
theorem kit_ref {K : Frag} {C : Addr} {t : Value} {b : Bool} (hdct : hasDictIn K C = true) (ht : typeIn K (.ref C) = some (.type "type")) (h4 : subIn K t (.ref C) = some b) (hs : t = .ref C → b = true) : kitOne K t (.ref C) = some b := by
  unfold kitOne
  by_cases h : (t == .ref C) = true
  · rw [if_pos h, hs (beq_iff_eq.mp h)]
  · rw [if_neg h]
    obtain ⟨cd, hc, _⟩ := any_some hdct
    have e2 : ((clsIn K C).isSome && typeIn K (.ref C) == some (.type "type")) = true := by rw [hc, ht] <;> rfl
    show (if ((clsIn K C).isSome && typeIn K (.ref C) == some (.type "type")) = true then subIn K t (.ref C) else none) = some b
    rw [if_pos e2]
    exact h4
theorem kit_typ {K : Frag} {C : Addr} {T : String} {b : Bool} (hm : kitMeta T = true) (h4 : subIn K (.ref C) (.type T) = some b) : kitOne K (.ref C) (.type T) = some b := by
  unfold kitOne
  rw [if_neg (by intro z; have := beq_iff_eq.mp z; cases this)]
  show (if kitMeta T = true then subIn K (.ref C) (.type T) else none) = some b
  rw [if_pos hm]
  exact h4
end FL

set_option maxHeartbeats 2000000
/-! FLX: walks over lists that stay where they are: watched slots. -/
namespace FL
open PySem L2 Classical

def wOk (ws : List Nat) (env0 env : Env) : Prop := ∀ i ∈ ws, env[i]? = env0[i]?
def Wt (ws : List Nat) (σ0 : L2.St) (env0 : Env) (σ : L2.St) (env : Env) : Prop := ∀ i ∈ ws, σ[i]? = σ0[i]? ∧ env[i]? = env0[i]?
structure YieldsW (G : Gx) (ws : List Nat) (Z0 : Hp) (σ0 : L2.St) (env0 : Env) (J : It) (xs : List D) : Prop where
  stop : ∀ Z H σ env S i, Good G Z H σ env S → Same Z0 Z → Wt ws σ0 env0 σ env → xs.length ≤ i → J.stop i H
  item : ∀ Z H σ env S i d, Good G Z H σ env S → Same Z0 Z → Wt ws σ0 env0 σ env → xs[i]? = some d → J.go i H ∧ ∀ x H', J.yld i H x H' → ∃ Z', Stp Z H (fun _ => False) Z' H' (fun _ => False) ∧ RepD G Z' d x
abbrev SIw := Env → Res (List D)
def TIokW (G : Gx) (ws : List Nat) (t : TI) (f : SIw) : Prop := ∀ (Z H : Hp) (σ : L2.St) (env : Env) (S : Rs) (R : It → Hp → Prop), Good G Z H σ env S →
  match f env with
  | .ok xs => (∀ J, YieldsW G ws Z σ env J xs → R J H) → t σ H R
  | _ => True
structure PIw (G : Gx) (X : Cx) (ws : List Nat) (tg e : Expr) (f : SIw) : Prop where
  ex : ∃ t, PI X tg e t ∧ TIokW G ws t f

/-! ### names, zip of names, enumerate of a name -/
def iwN (i : Nat) : SIw := fun env => match getE env i with
  | .ok m => match brw m with
    | some (_, xs) => .ok xs
    | none => .bad
  | _ => .bad
def iwZ (i j : Nat) : SIw := fun env => match getE env i, getE env j with
  | .ok m1, .ok m2 => match brw m1, brw m2 with
    | some (b1, xs), some (b2, ys) => if b1 = b2 then .ok (List.zipWith pairD xs ys) else .bad
    | _, _ => .bad
  | _, _ => .bad
def iwE (i : Nat) : SIw := fun env => match getE env i with
  | .ok m => match brw m with
    | some (false, xs) => .ok (enumD 0 xs)
    | _ => .bad
  | _ => .bad
theorem wt_rep {G : Gx} {Z H : Hp} {σ σ0 : L2.St} {env env0 : Env} {S : Rs} {ws : List Nat} {i : Nat} {m : M} {v : V} {b : Bool} {xs : List D} (g : Good G Z H σ env S) (w : Wt ws σ0 env0 σ env) (hi : i ∈ ws) (e : env0[i]? = some (some m)) (hv : σ0[i]? = some (some v)) (eb : brw m = some (b, xs)) :
    ∃ a vs, v = .ref a ∧ RepDs G Z xs vs ∧ (b = true → SqT G.K H a vs) ∧ (b = false → SqL G.K H a vs) := by
  obtain ⟨w1, w2⟩ := w i hi
  rw [e] at w2
  rw [hv] at w1
  obtain ⟨v', hv', r⟩ := g.rep i m w2
  rw [w1] at hv'
  cases hv'
  obtain ⟨a, vs, rfl, rr, sq⟩ := brw_rep g.zh r eb
  obtain ⟨s1, s2⟩ := sq Z H (Same.refl _) g.zh fun _ _ _ z => z
  exact ⟨a, vs, rfl, rr, s1, s2⟩
section
variable {G : Gx} {X : Cx} {tg : Expr} {x y : Str} {p p2 pc : Pos}
theorem xw_name (i : Nat) (hK : G.K = X.K) (hN : X.N[i]? = some x := by rfl) (hv : Vis X.env.scope x := by first | exact Or.inl rfl | exact Or.inr (Or.inl rfl) | exact Or.inr (Or.inr rfl)) (hd : (x == ("__debug__" : Str)) = false := by decide) (hcd : (x == ("__classdict__" : Str)) = false := by decide) :
    PIw G X [i] tg (.Name x p) (iwN i) := by
  have h1 : PI X tg (.Name x p) (iList G.K (tVar i)) := by rw [hK]; exact pi_list (pe_var hN hv hd hcd)
  have h2 : PI X tg (.Name x p) (iTup G.K (tVar i)) := by rw [hK]; exact pi_tup (pe_var hN hv hd hcd)
  refine ⟨_, PI.or h1 h2, fun Z H σ env S R gd => ?_⟩
  unfold iwN
  rcases getE_cases env i with ⟨m, e⟩ | e
  case inr => rw [e]; trivial
  rw [e]
  simp only
  cases e3 : brw m with
  | none => trivial
  | some pr =>
    obtain ⟨bb, xs⟩ := pr
    intro k
    have em := getE_ok e
    obtain ⟨v, hv, r⟩ := gd.rep i m em
    have w0 : Wt [i] σ env σ env := fun _ _ => ⟨rfl, rfl⟩
    obtain ⟨a, vs, rfl, rr, s1, s2⟩ := wt_rep gd w0 (by simp) em hv e3
    cases bb with
    | false =>
      refine .inl ⟨.ref a, hv, a, rfl, ⟨vs, s2 rfl⟩, k _ ⟨fun Z1 H1 σ1 env1 S1 n g1 hz w hl => ?_, fun Z1 H1 σ1 env1 S1 n d g1 hz w ed => ?_⟩⟩
      · obtain ⟨a', us, ea, rr1, _, q2⟩ := wt_rep g1 w (by simp) em hv e3
        cases ea
        exact ⟨us, q2 rfl, by rw [← rr1.len]; exact hl⟩
      · obtain ⟨a', us, ea, rr1, _, q2⟩ := wt_rep g1 w (by simp) em hv e3
        cases ea
        obtain ⟨u, hu, ru⟩ := rr1.get ed
        refine ⟨⟨us, u, q2 rfl, hu⟩, fun z H' hy => ?_⟩
        obtain ⟨rfl, hx⟩ := hy
        have := hx us (q2 rfl)
        rw [hu] at this; cases this
        exact ⟨Z1, Stp.refl g1.zh, ru⟩
    | true =>
      refine .inr ⟨.ref a, hv, a, rfl, ⟨vs, s1 rfl⟩, k _ ⟨fun Z1 H1 σ1 env1 S1 n g1 hz w hl => ?_, fun Z1 H1 σ1 env1 S1 n d g1 hz w ed => ?_⟩⟩
      · obtain ⟨a', us, ea, rr1, q1, _⟩ := wt_rep g1 w (by simp) em hv e3
        cases ea
        exact ⟨us, q1 rfl, by rw [← rr1.len]; exact hl⟩
      · obtain ⟨a', us, ea, rr1, q1, _⟩ := wt_rep g1 w (by simp) em hv e3
        cases ea
        obtain ⟨u, hu, ru⟩ := rr1.get ed
        refine ⟨⟨us, u, q1 rfl, hu⟩, fun z H' hy => ?_⟩
        obtain ⟨rfl, hx⟩ := hy
        have := hx us (q1 rfl)
        rw [hu] at this; cases this
        exact ⟨Z1, Stp.refl g1.zh, ru⟩
theorem xw_enum {elts : List Expr} {kk : Nat} {tpos : Pos} (i : Nat) (hK : G.K = X.K) (hm : X.mg "enumerate" = none) (hN : X.N[i]? = some x := by rfl) (hv : Vis X.env.scope x := by first | exact Or.inl rfl | exact Or.inr (Or.inl rfl) | exact Or.inr (Or.inr rfl)) (hd : (x == ("__debug__" : Str)) = false := by decide) (hcd : (x == ("__classdict__" : Str)) = false := by decide)
    (hg : Gl X "enumerate" := by rfl) (hs : starEach [.Name x p] X.env = [(false, eval (.Name x p) X.env)] := by rfl) (hst : starEach [.Name x p] X.env = (false, eval (.Name x p) X.env) :: starEach [] X.env := by rfl) :
    PIw G X [i] (.Tuple elts kk tpos) (.Call (.Name "enumerate" p2) [.Name x p] [] pc) (iwE i) := by
  have h1 : PI X (.Tuple elts kk tpos) (.Call (.Name "enumerate" p2) [.Name x p] [] pc) (iEnum G.K (tCons (tVar i) tNil)) := by rw [hK]; exact pi_enum hg hm (pa_cons (pe_var hN hv hd hcd) pa_nil hst) hs
  refine ⟨_, h1, fun Z H σ env S R gd => ?_⟩
  unfold iwE
  rcases getE_cases env i with ⟨m, e⟩ | e
  case inr => rw [e]; trivial
  rw [e]
  simp only
  cases e3 : brw m with
  | none => trivial
  | some pr =>
    obtain ⟨bb, xs⟩ := pr
    cases bb with
    | true => trivial
    | false =>
      intro k
      have em := getE_ok e
      obtain ⟨v, hv, r⟩ := gd.rep i m em
      have w0 : Wt [i] σ env σ env := fun _ _ => ⟨rfl, rfl⟩
      obtain ⟨a, vs, rfl, rr, s1, s2⟩ := wt_rep gd w0 (by simp) em hv e3
      refine ⟨.ref a, hv, a, vs, rfl, s2 rfl, k _ ⟨fun Z1 H1 σ1 env1 S1 n g1 hz w hl => ?_, fun Z1 H1 σ1 env1 S1 n d g1 hz w ed => ?_⟩⟩
      · obtain ⟨a', us, ea, rr1, _, q2⟩ := wt_rep g1 w (by simp) em hv e3
        cases ea
        exact ⟨us, q2 rfl, by rw [enum_len] at hl; rw [← rr1.len]; exact hl⟩
      · obtain ⟨a', us, ea, rr1, _, q2⟩ := wt_rep g1 w (by simp) em hv e3
        cases ea
        obtain ⟨y', ey, rfl⟩ := enum_get ed
        obtain ⟨u, hu, ru⟩ := rr1.get ey
        refine ⟨⟨us, u, q2 rfl, hu⟩, fun z H2 hy => ?_⟩
        obtain ⟨T, v', rfl, hT, rfl, k1⟩ := hy
        have e1 := k1 us (q2 rfl)
        rw [hu] at e1; cases e1
        have st := Stp.newZ (o := .tup [.int (n : Nat), u]) g1.zh hT (fun _ => False)
        refine ⟨_, st, ?_⟩
        simp only [RepD, RepDs, Nat.zero_add]
        exact ⟨T, [.int (n : Nat), u], rfl, SqT.of upd_same, _, [u], rfl, rfl, u, [], rfl, RepD.mono st.z _ _ ru, rfl⟩
theorem xw_zip {elts : List Expr} {kk : Nat} {tpos p1 pz : Pos} (i j : Nat) (hK : G.K = X.K) (hm : X.mg "zip" = none)
    (hN : X.N[i]? = some x := by rfl) (hv : Vis X.env.scope x := by first | exact Or.inl rfl | exact Or.inr (Or.inl rfl) | exact Or.inr (Or.inr rfl)) (hd : (x == ("__debug__" : Str)) = false := by decide) (hcd : (x == ("__classdict__" : Str)) = false := by decide)
    (hN2 : X.N[j]? = some y := by rfl) (hv2 : Vis X.env.scope y := by first | exact Or.inl rfl | exact Or.inr (Or.inl rfl) | exact Or.inr (Or.inr rfl)) (hd2 : (y == ("__debug__" : Str)) = false := by decide) (hcd2 : (y == ("__classdict__" : Str)) = false := by decide)
    (hgz : Gl X "zip" := by rfl) (hs1 : starEach [.Name x p1, .Name y p2] X.env = (false, eval (.Name x p1) X.env) :: starEach [.Name y p2] X.env := by rfl) (hs2 : starEach [.Name y p2] X.env = (false, eval (.Name y p2) X.env) :: starEach [] X.env := by rfl) (hpl : (backTo pc (starEach [.Name y p2] X.env)).any (·.1) = false := by rfl) :
    PIw G X [i, j] (.Tuple elts kk tpos) (.Call (.Name "zip" pz) [.Name x p1, .Name y p2] [] pc) (iwZ i j) := by
  have h1 : PI X (.Tuple elts kk tpos) (.Call (.Name "zip" pz) [.Name x p1, .Name y p2] [] pc) (RZ.iZipA G.K (tCons (tVar i) (tCons (tVar j) tNil))) := by
    rw [hK]
    exact RZ.pi_zipA hgz hm (pa_cons (pe_var hN hv hd hcd) (pa_cons (pe_var hN2 hv2 hd2 hcd2) pa_nil hs2) hs1) hs1 hpl
  refine ⟨_, h1, fun Z H σ env S R gd => ?_⟩
  unfold iwZ
  rcases getE_cases env i with ⟨m1, e1⟩ | e1
  case inr => rw [e1]; trivial
  rcases getE_cases env j with ⟨m2, e2⟩ | e2
  case inr => rw [e1, e2]; trivial
  rw [e1, e2]
  simp only
  cases e3 : brw m1 with
  | none => trivial
  | some pr =>
    obtain ⟨b1, xs⟩ := pr
    cases e4 : brw m2 with
    | none => trivial
    | some pr =>
      obtain ⟨b2, ys⟩ := pr
      simp only
      by_cases hb : b1 = b2
      case neg => rw [if_neg hb]; trivial
      rw [if_pos hb]
      subst hb
      intro k
      have em1 := getE_ok e1
      have em2 := getE_ok e2
      obtain ⟨v1, hv1, _⟩ := gd.rep i m1 em1
      obtain ⟨v2, hv2', _⟩ := gd.rep j m2 em2
      have w0 : Wt [i, j] σ env σ env := fun _ _ => ⟨rfl, rfl⟩
      obtain ⟨a, vs, rfl, rr, s1, s2⟩ := wt_rep gd w0 (by simp) em1 hv1 e3
      obtain ⟨c, ws, rfl, rr2, t1, t2⟩ := wt_rep gd w0 (by simp) em2 hv2' e4
      have two : ∀ {Z1 H1 : Hp} {σ1 : L2.St} {env1 : Env} {S1 : Rs}, Good G Z1 H1 σ1 env1 S1 → Wt [i, j] σ env σ1 env1 → ∃ us zs, RepDs G Z1 xs us ∧ RepDs G Z1 ys zs ∧ (b1 = true → SqT G.K H1 a us ∧ SqT G.K H1 c zs) ∧ (b1 = false → SqL G.K H1 a us ∧ SqL G.K H1 c zs) := fun g1 w => by
        obtain ⟨a', us, ea, rr1, q1, q2⟩ := wt_rep g1 w (by simp) em1 hv1 e3
        cases ea
        obtain ⟨c', zs, ec, rr3, q3, q4⟩ := wt_rep g1 w (by simp) em2 hv2' e4
        cases ec
        exact ⟨us, zs, rr1, rr3, fun h => ⟨q1 h, q3 h⟩, fun h => ⟨q2 h, q4 h⟩⟩
      refine ⟨.ref a, hv1, .ref c, hv2', a, c, vs, ws, rfl, ?_⟩
      cases b1 with
      | false =>
        refine .inl ⟨s2 rfl, t2 rfl, k _ ⟨fun Z1 H1 σ1 env1 S1 n g1 hz w hl => ?_, fun Z1 H1 σ1 env1 S1 n d g1 hz w ed => ?_⟩⟩
        · obtain ⟨us, zs, r1, r2, _, q⟩ := two g1 w
          refine ⟨us, zs, (q rfl).1, (q rfl).2, ?_⟩
          rw [List.length_zipWith] at hl
          rw [← r1.len, ← r2.len]
          omega
        · obtain ⟨us, zs, r1, r2, _, q⟩ := two g1 w
          obtain ⟨x1, y1, ex, ey, rfl⟩ := zw_get ed
          obtain ⟨u, hu, ru⟩ := r1.get ex
          obtain ⟨z, hz', rz⟩ := r2.get ey
          refine ⟨⟨us, zs, u, z, (q rfl).1, (q rfl).2, hu, hz'⟩, fun u' H' hy => ?_⟩
          obtain ⟨T, v', w', rfl, hT, rfl, k3, k4⟩ := hy
          have e5 := k3 us (q rfl).1
          have e6 := k4 zs (q rfl).2
          rw [hu] at e5; cases e5
          rw [hz'] at e6; cases e6
          have st := Stp.newZ (o := .tup [u, z]) g1.zh hT (fun _ => False)
          refine ⟨_, st, ?_⟩
          simp only [pairD, RepD, RepDs]
          exact ⟨T, [u, z], rfl, SqT.of upd_same, u, [z], rfl, RepD.mono st.z _ _ ru, z, [], rfl, RepD.mono st.z _ _ rz, rfl⟩
      | true =>
        refine .inr ⟨s1 rfl, t1 rfl, k _ ⟨fun Z1 H1 σ1 env1 S1 n g1 hz w hl => ?_, fun Z1 H1 σ1 env1 S1 n d g1 hz w ed => ?_⟩⟩
        · obtain ⟨us, zs, r1, r2, q, _⟩ := two g1 w
          refine ⟨us, zs, (q rfl).1, (q rfl).2, ?_⟩
          rw [List.length_zipWith] at hl
          rw [← r1.len, ← r2.len]
          omega
        · obtain ⟨us, zs, r1, r2, q, _⟩ := two g1 w
          obtain ⟨x1, y1, ex, ey, rfl⟩ := zw_get ed
          obtain ⟨u, hu, ru⟩ := r1.get ex
          obtain ⟨z, hz', rz⟩ := r2.get ey
          refine ⟨⟨us, zs, u, z, (q rfl).1, (q rfl).2, hu, hz'⟩, fun u' H' hy => ?_⟩
          obtain ⟨T, v', w', rfl, hT, rfl, k3, k4⟩ := hy
          have e5 := k3 us (q rfl).1
          have e6 := k4 zs (q rfl).2
          rw [hu] at e5; cases e5
          rw [hz'] at e6; cases e6
          have st := Stp.newZ (o := .tup [u, z]) g1.zh hT (fun _ => False)
          refine ⟨_, st, ?_⟩
          simp only [pairD, RepD, RepDs]
          exact ⟨T, [u, z], rfl, SqT.of upd_same, u, [z], rfl, RepD.mono st.z _ _ ru, z, [], rfl, RepD.mono st.z _ _ rz, rfl⟩
end

/-! ### for -/
noncomputable def flw (ws : List Nat) (env0 : Env) (g : SG) (b : SS) : List D → SS
  | [], env => if wOk ws env0 env then .ok (.nx, env) else .bad
  | x :: xs, env => if wOk ws env0 env then (match g (.d x) env with
    | .ok e => match b e with
      | .ok (.nx, e2) => flw ws env0 g b xs e2
      | .ok (.ct, e2) => flw ws env0 g b xs e2
      | .ok (.brk, e2) => .ok (.nx, e2)
      | .ok (.ret m, e2) => .ok (.ret m, e2)
      | .exc x e2 => .exc x e2
      | .bad => .bad
    | _ => .bad) else .bad
noncomputable def ssForW (ws : List Nat) (fi : SIw) (g : SG) (b : SS) : SS := fun env => match fi env with
  | .ok xs => flw ws env g b xs env
  | _ => .bad
section
variable {G : Gx} {X : Cx} {W : WX'} {P : Px} {fi : SIw} {g : SG} {b : SS} {ti : TI} {tg : TG} {tb : TS} {ws : List Nat} {pos : Pos}
theorem SSok.forW (hP : ∀ i ∈ ws, P i) (hi : TIokW G ws ti fi) (hg : SGok G P tg g) (hb : SSok G W P tb b) (hout : ∀ Pp : Prop, Pp → True) : SSok G W P (tFor ti tg tb) (ssForW ws fi g b) := fun D Z H σ env S gd p => by
  unfold ssForW at p
  have h1 := hi Z H σ env S (fun J H1 => ∃ W' : Nat → Nat → L2.St → Hp → Prop, (∃ m, W' 0 m σ H1) ∧ ∀ i m σ H, W' i m σ H →
      (J.stop i H ∧ D.nx σ H) ∨ (J.go i H ∧ ∃ N : L2.St → Hp → Prop, (∀ σ' H', N σ' H' → ∃ m', m' < m ∧ W' (i + 1) m' σ' H') ∧ ∀ x H', J.yld i H x H' → tg x σ H' fun σ2 H2 => tb { D with nx := N, ct := N, bk := D.nx } σ2 H2)) gd
  cases e : fi env with
  | bad => rw [e] at p; exact p.elim
  | exc x e1 => rw [e] at p; exact p.elim
  | ok xs =>
    rw [e] at p h1
    refine h1 fun J hY => ?_
    refine ⟨fun i m σ' H' => m = xs.length - i ∧ i ≤ xs.length ∧ ∃ env' Z' S', Good G Z' H' σ' env' S' ∧ Same Z Z' ∧ Fix P σ σ' ∧ SPost G W P D Z' H' (U S') σ' (flw ws env g b (xs.drop i) env'), ⟨xs.length, by simp, Nat.zero_le _, env, Z, S, gd, Same.refl _, Fix.refl, by simpa using p⟩, ?_⟩
    rintro i m σ1 H1 ⟨rfl, hi', env1, Z1, S1, g1, z1, f1, p1⟩
    by_cases hlt : i < xs.length
    · refine .inr ?_
      rw [List.drop_eq_getElem_cons hlt] at p1
      unfold flw at p1
      by_cases hw : wOk ws env env1
      case neg => rw [if_neg hw] at p1; exact p1.elim
      rw [if_pos hw] at p1
      have wt : Wt ws σ env σ1 env1 := fun k hk => ⟨f1.1 k (hP k hk), hw k hk⟩
      obtain ⟨go, yl⟩ := hY.item Z1 H1 σ1 env1 S1 i xs[i] g1 z1 wt (List.getElem?_eq_getElem hlt)
      refine ⟨go, fun σ' H' => ∃ env' Z' S', Good G Z' H' σ' env' S' ∧ Same Z Z' ∧ Fix P σ σ' ∧ SPost G W P D Z' H' (U S') σ' (flw ws env g b (xs.drop (i + 1)) env'), fun σ' H' h => ⟨xs.length - (i + 1), by omega, rfl, hlt, h⟩, fun x H2 hy => ?_⟩
      obtain ⟨Z2, s2, rx⟩ := yl x H2 hy
      obtain ⟨g2, _⟩ := g1.move s2 fun _ _ z => z
      have s2' : Stp Z1 H1 (U S1) Z2 H2 (U S1) := ((s2.frame (U S1)).from fun a z => z.elim (fun z => z.elim) id).weak fun a z => .inr z
      have hh := fun Q => hg Z2 H2 σ1 env1 S1 (.d xs[i]) (fun _ => False) x Q g2 (Hld.data rx)
      cases e1 : g (.d xs[i]) env1 with
      | exc x e2 => rw [e1] at p1; exact p1.elim
      | bad => rw [e1] at p1; exact p1.elim
      | ok e2 =>
        simp only [e1] at p1 hh
        refine hh _ fun σ3 S3 fx3 g3 u3 => ?_
        have s3 : Stp Z1 H1 (U S1) Z2 H2 (U S3) := s2'.weak fun a z => (u3 a z).elim id fun z => z.elim
        have p3 := p1.shift s3 fx3
        refine hb _ Z2 H2 σ3 e2 S3 g3 ?_
        cases e4 : b e2 with
        | exc x e5 => rw [e4] at p3; exact p3
        | bad => rw [e4] at p3; exact p3.elim
        | ok q2 =>
          obtain ⟨f', e5⟩ := q2
          rw [e4] at p3
          cases f' with
          | nx => exact fun σ4 Z4 H4 S4 f4 s4 g4 => ⟨e5, Z4, S4, g4, (z1.trans s3.z).trans s4.z, (f1.trans fx3).trans f4, p3.shift s4 f4⟩
          | ct => exact fun σ4 Z4 H4 S4 f4 s4 g4 => ⟨e5, Z4, S4, g4, (z1.trans s3.z).trans s4.z, (f1.trans fx3).trans f4, p3.shift s4 f4⟩
          | brk => exact fun σ4 Z4 H4 S4 f4 s4 g4 => p3 σ4 Z4 H4 S4 f4 s4 g4
          | ret m => exact fun v σ4 Z4 H4 S4 T f4 s4 g4 h => p3 v σ4 Z4 H4 S4 T f4 s4 g4 h
    · have e : i = xs.length := by omega
      rw [e, List.drop_length] at p1
      unfold flw at p1
      by_cases hw : wOk ws env env1
      case neg => rw [if_neg hw] at p1; exact p1.elim
      rw [if_pos hw] at p1
      have wt : Wt ws σ env σ1 env1 := fun k hk => ⟨f1.1 k (hP k hk), hw k hk⟩
      exact .inl ⟨hY.stop Z1 H1 σ1 env1 S1 i g1 z1 wt (by omega), p1 σ1 Z1 H1 S1 Fix.refl (Stp.refl g1.zh) g1⟩
theorem SPost.more {P' : Px} {D : Ends} {Z H : Hp} {R : Rg} {σ : L2.St} {r : Res (Fl × Env)} (h : ∀ i, P i → P' i) (p : SPost G W P D Z H R σ r) : SPost G W P' D Z H R σ r := by
  have fx : ∀ {a b : L2.St}, Fix P' a b → Fix P a b := fun f => ⟨fun i hi => f.1 i (h i hi), f.2⟩
  cases r with
  | bad => exact p.elim
  | exc x e => exact fun cls d σ' Z' H' S' hx f s g => p cls d σ' Z' H' S' hx (fx f) s g
  | ok q =>
    obtain ⟨f', e⟩ := q
    cases f' with
    | nx => exact fun σ' Z' H' S' f s g => p σ' Z' H' S' (fx f) s g
    | brk => exact fun σ' Z' H' S' f s g => p σ' Z' H' S' (fx f) s g
    | ct => exact fun σ' Z' H' S' f s g => p σ' Z' H' S' (fx f) s g
    | ret m => exact fun v σ' Z' H' S' T f s g l => p v σ' Z' H' S' T (fx f) s g l
theorem xs_forW {te ie : Expr} {body : List Stmt} (hp : PassesOwn (model X.prog X.w) X.A X.env X.xe) (hc : X.calm = true) (hi : PIw G X ws te ie fi) (hg : PGs' G X (fun k => P k ∨ k ∈ ws) te g) (hb : PSs' G X W (fun k => P k ∨ k ∈ ws) body b)
    (hs : ∀ x, foldedSetIterable ie X.env x = pure x := by intro _; rfl) : PS' G X W P (.For te ie body [] pos) (ssForW ws fi g b) := by
  obtain ⟨t, p, hi⟩ := hi.ex
  obtain ⟨u, q, hg⟩ := hg.ex
  obtain ⟨v, r, hb⟩ := hb.ex
  have h := SSok.forW (P := fun k => P k ∨ k ∈ ws) (fun i hi => .inr hi) hi hg hb fun _ _ => trivial
  exact ⟨_, ps_for hp hc p q r hs, fun D Z H σ env S gd p => h D Z H σ env S gd (p.more fun i => .inl)⟩
end
end FL

set_option maxHeartbeats 2000000
/-! FLY: comprehensions over lists that stay; copies. -/
namespace FL
open PySem L2 Classical
noncomputable def lclw (own ws : List Nat) (env0 : Env) (g : SG) (c : SB) (f : SE) : List D → List M → Env → Res (List M × Env)
  | [], acc, env => if wOk ws env0 env then .ok (acc, env) else .bad
  | x :: xs, acc, env => if wOk ws env0 env then (match g (.d x) env with
    | .ok e1 => match c e1 with
      | .ok (true, e2) => match f e2 with
        | .ok (m, e3) => lclw own ws env0 g c f xs (acc ++ [m]) (killAll own e3)
        | _ => .bad
      | .ok (false, e2) => lclw own ws env0 g c f xs acc (killAll own e2)
      | _ => .bad
    | _ => .bad) else .bad
noncomputable def sLcW (own ws : List Nat) (fi : SIw) (g : SG) (c : SB) (f : SE) : SE := fun env => match fi env with
  | .ok xs => if xs.length ≤ sizeLine ∧ ∀ i ∈ ws, i ∉ own then (match lclw own ws env g c f xs [] (killAll own env) with
    | .ok (ms, e2) => .ok (.lst ms, e2)
    | _ => .bad) else .bad
  | _ => .bad
section
variable {G : Gx} {X : Cx} {W : WX'} {fi : SIw} {g : SG} {c : SB} {f : SE} {ti : TI} {own ws : List Nat}
theorem SEok.lcW {tg : TG} {tt : TT} {te : TE} (hi : TIokW G ws ti fi) (hg : SGok G (fun i => i ∉ own) tg g) (hc : SBok G W0 tt c) (he : SEok G W0 te f) : SEok G W (tLc ti tg tt te own) (sLcW own ws fi g c f) := fun Z H σ env S Q gd => by
  unfold sLcW
  have h1 := fun R => hi Z H σ env S R gd
  cases e1 : fi env with
  | bad => trivial
  | exc x e2 => trivial
  | ok xs =>
    simp only [e1] at h1
    simp only
    by_cases hl : xs.length ≤ sizeLine ∧ ∀ i ∈ ws, i ∉ own
    case neg => rw [if_neg hl]; trivial
    rw [if_pos hl]
    obtain ⟨hl, hwo⟩ := hl
    cases e2 : lclw own ws env g c f xs [] (killAll own env) with
    | exc _ _ => trivial
    | bad => trivial
    | ok r2 =>
      obtain ⟨ms, env2⟩ := r2
      intro q
      refine h1 _ fun J hY D0 hD => ?_
      have g1 := gd
      have s1 : Stp Z H (U S) Z H (U S) := Stp.refl gd.zh
      obtain ⟨S2, g2, u2⟩ := g1.wipe own
      have st0 := Stp.new (o := HO.lst []) g1.zh hD (U S2)
      have gS := (g2.move (Stp.new (o := HO.lst []) g1.zh hD (fun _ => False)) fun _ _ z => z)
      have hl0 : Hld G Z (upd H D0 (.lst [])) (U S2) (.lst []) (fun a => False ∨ a = D0) (.ref D0) :=
        lst_new (ms := []) (vs := []) (T := fun _ => False) g1.zh (by simp [RepMs]) (fun _ z => z.elim) (fun _ z => z.elim) (fun _ z => z.elim) hD (fun z => g2.al' _ z hD)
      -- the word: behind i turns what is made so far is in the hand, the rest of the turns ends in ms
      refine ⟨fun i m H' => m = xs.length - i ∧ i ≤ xs.length ∧ ∃ acc e' Z' S' T, Same Z Z' ∧ Good G Z' H' (wipe σ own) e' S' ∧ Hld G Z' H' (U S') (.lst acc) T (.ref D0) ∧ acc.length ≤ i ∧
          Stp Z H (U S) Z' H' (fun a => U S' a ∨ T a) ∧ lclw own ws env g c f (xs.drop i) acc e' = .ok (ms, env2),
        ⟨xs.length, by simp, Nat.zero_le _, [], _, Z, S2, _, Same.refl _, gS.1, hl0, by simp, ?_, by simpa using e2⟩, ?_⟩
      · refine (s1.trans (Stp.new (o := HO.lst []) g1.zh hD (U S))).weak fun a z => ?_
        rcases z with z | z | z
        · exact .inl (u2 a z)
        · exact z.elim
        · exact .inr z
      · rintro i m H2 ⟨rfl, hi', acc, e', Z2, S3, T, hZ, g3, l3, hacc, s3, e3⟩
        by_cases hlt : i < xs.length
        case neg =>
          have e : i = xs.length := by omega
          rw [e, List.drop_length] at e3
          unfold lclw at e3
          split at e3
          case isFalse => cases e3
          rename_i hw
          cases e3
          refine .inl ⟨hY.stop Z2 H2 (wipe σ own) _ S3 i g3 hZ (fun k hk => ⟨wipe_get (hwo k hk), hw k hk⟩) (by omega), ?_⟩
          exact q _ Z2 H2 S3 T s3 g3.unwipe l3
        refine .inr ?_
        rw [List.drop_eq_getElem_cons hlt] at e3
        unfold lclw at e3
        split at e3
        case isFalse => cases e3
        rename_i hw
        obtain ⟨go, yl⟩ := hY.item Z2 H2 (wipe σ own) _ S3 i xs[i] g3 hZ (fun k hk => ⟨wipe_get (hwo k hk), hw k hk⟩) (List.getElem?_eq_getElem hlt)
        refine ⟨go, fun H' => ∃ acc e' Z' S' T, Same Z Z' ∧ Good G Z' H' (wipe σ own) e' S' ∧ Hld G Z' H' (U S') (.lst acc) T (.ref D0) ∧ acc.length ≤ i + 1 ∧
          Stp Z H (U S) Z' H' (fun a => U S' a ∨ T a) ∧ lclw own ws env g c f (xs.drop (i + 1)) acc e' = .ok (ms, env2), fun H' h => ⟨xs.length - (i + 1), by omega, rfl, hlt, h⟩, fun x H3 hy => ?_⟩
        obtain ⟨Z3, s4, rx⟩ := yl x H3 hy
        have g4 := (g3.move s4 fun _ _ z => z).1
        have l4 := l3.step ((s4.frame (U S3)).from fun a z => z.elim (fun z => z.elim) id)
        have s4' : Stp Z H (U S) Z3 H3 (fun a => U S3 a ∨ T a) := (s3.trans ((s4.frame (fun a => U S3 a ∨ T a)).from fun a z => z.elim (fun z => z.elim) id)).weak fun a z => .inr z
        have l4' : Hld G Z3 H3 (U S3) (.lst acc) T (.ref D0) := ⟨l4.rep, l4.al, l4.zf, l3.dj⟩
        cases eg : g (.d xs[i]) e' with
        | exc _ _ => rw [eg] at e3; cases e3
        | bad => rw [eg] at e3; cases e3
        | ok e4 =>
          rw [eg] at e3
          simp only at e3
          have hh := fun Q => hg Z3 H3 (wipe σ own) e' S3 (.d xs[i]) (fun _ => False) x Q g4 (Hld.data rx)
          simp only [eg] at hh
          refine hh _ fun σ5 S5 fx5 g5 u5 => ⟨wipe_fix fx5, ?_⟩
          have u5' : ∀ a, U S5 a → U S3 a := fun a z => (u5 a z).elim id fun z => z.elim
          have l5 : Hld G Z3 H3 (U S5) (.lst acc) T (.ref D0) := ⟨l4'.rep, l4'.al, l4'.zf, fun a z w => l4'.dj a z (u5' a w)⟩
          have s5 : Stp Z H (U S) Z3 H3 (fun a => U S5 a ∨ T a) := s4'.weak fun a z => z.elim (fun z => .inl (u5' a z)) .inr
          have hc1 := fun Q => hc Z3 H3 σ5 e4 S5 Q g5
          cases ec : c e4 with
          | exc _ _ => rw [ec] at e3; cases e3
          | bad => rw [ec] at e3; cases e3
          | ok rc =>
            obtain ⟨k, e5⟩ := rc
            rw [ec] at e3
            simp only [ec] at hc1
            refine hc1 _ fun Z6 H6 S6 s6 g6 => ?_
            have l6 := l5.step s6
            have s6' : Stp Z H (U S) Z6 H6 (fun a => U S6 a ∨ T a) := s5.trans (s6.frame T)
            have z6 : Same Z Z6 := (hZ.trans s4.z).trans s6.z
            cases k with
            | false =>
              simp only at e3
              rw [if_neg Bool.false_ne_true]
              obtain ⟨S7, g7, u7⟩ := g6.wipe own
              rw [wipe_fix fx5] at g7
              exact ⟨acc, _, Z6, S7, T, z6, g7, ⟨l6.rep, l6.al, l6.zf, fun a z w => l6.dj a z (u7 a w)⟩, by omega, s6'.weak fun a z => z.elim (fun z => .inl (u7 a z)) .inr, e3⟩
            | true =>
              simp only at e3
              rw [if_pos rfl]
              have he1 := fun Q => he Z6 H6 σ5 e5 S6 Q g6
              cases ee : f e5 with
              | exc _ _ => rw [ee] at e3; cases e3
              | bad => rw [ee] at e3; cases e3
              | ok re =>
                obtain ⟨m, e6⟩ := re
                rw [ee] at e3
                simp only [ee] at he1
                simp only at e3
                refine he1 _ fun y Z7 H7 S7 Ty s7 g7 ly => ?_
                have l7 := l6.step s7
                have rep7 := l7.rep
                simp only [RepM] at rep7
                obtain ⟨a0, vs0, T0, ea, sa, ta, ts, ho, rr⟩ := rep7
                cases ea
                have hlen : vs0.length = acc.length := rr.len.symm
                refine ⟨vs0, ho, by rw [hlen]; omega, ?_⟩
                have tyD : ¬ Ty D0 := fun z => l7.dj D0 sa (.inr z)
                have dT : ∀ a, T a → ¬ Ty a := fun a z w => l7.dj a z (.inr w)
                have upz : Same Z7 (upd H7 D0 (.lst (vs0 ++ [y]))) := fun a u e => by
                  have ne : a ≠ D0 := fun z => by rw [z, l7.zf D0 sa] at e; cases e
                  rw [upd_ne ne]; exact g7.zh a u e
                have stU : Stp Z7 H7 (fun a => a = D0) Z7 (upd H7 D0 (.lst (vs0 ++ [y]))) (fun a => a = D0) := ⟨Same.refl _, upz, fun b u e h => by rw [upd_ne h]; exact e, fun a z => .inl z, fun a z => .inl z⟩
                obtain ⟨g8, _⟩ := g7.move stU fun a z w => l7.dj D0 sa (.inl (by rw [← w]; exact z))
                have ryy : RepMs G Z7 (upd H7 D0 (.lst (vs0 ++ [y]))) [m] Ty [y] := by
                  simp only [RepMs]
                  exact ⟨y, [], Ty, fun _ => False, rfl, fun _ z => z, fun _ z => z.elim, fun _ _ z => z, RepM.mono (Same.refl _) _ _ _ _ (fun _ z => z) (fun a o z e => by rw [upd_ne (fun w => tyD (by rw [← w]; exact z))]; exact e) ly.rep, rfl⟩
                have rr' : RepMs G Z7 (upd H7 D0 (.lst (vs0 ++ [y]))) acc T0 vs0 := RepMs.mono (Same.refl _) _ _ _ _ (fun _ z => z) (fun a o z e => by rw [upd_ne (fun w => ta (by rw [← w]; exact z))]; exact e) rr
                obtain ⟨S8, g9, u9⟩ := g8.wipe own
                rw [wipe_fix fx5] at g9
                refine ⟨acc ++ [m], _, Z7, S8, fun a => T a ∨ Ty a, z6.trans s7.z, g9, ⟨?_, fun a z => ?_, fun a z => z.elim (l7.zf a) (ly.zf a), fun a z w => ?_⟩, by rw [List.length_append]; simp; omega, ?_, e3⟩
                · simp only [RepM]
                  exact ⟨D0, vs0 ++ [y], fun a => T0 a ∨ Ty a, rfl, .inl sa, fun z => z.elim ta tyD, fun b z => z.elim (fun z => .inl (ts b z)) .inr, upd_same, RepMs.app rr' ryy (fun _ z => .inl z) (fun _ z => .inr z) (fun b z => dT b (ts b z))⟩
                · by_cases w : a = D0
                  · rw [w, upd_same]; exact fun z => nomatch z
                  · rw [upd_ne w]; exact z.elim (l7.al a) (ly.al a)
                · exact z.elim (fun z => l7.dj a z (.inl (u9 a w))) fun z => ly.dj a z (u9 a w)
                · have s7' : Stp Z H (U S) Z7 H7 (fun a => (U S7 a ∨ Ty a) ∨ T a) := s6'.trans (s7.frame T)
                  have st8 : Stp Z H (U S) Z7 (upd H7 D0 (.lst (vs0 ++ [y]))) (fun a => a = D0 ∨ ((U S7 a ∨ Ty a) ∨ T a)) := s7'.trans ((stU.frame (fun a => (U S7 a ∨ Ty a) ∨ T a)).from fun a z => z.elim (fun w => .inr (by rw [w]; exact sa)) id)
                  refine st8.weak fun a z => ?_
                  rcases z with z | z | z
                  · exact .inr (.inl (.inl (u9 a z)))
                  · exact .inr (.inr z)
                  · exact .inr (.inl (.inr z))
theorem sby_okW : SBok G W0 tYes sbYes := sby_ok
theorem xe_lcW {elt tg iter : Expr} {scope : Scope} {own : List (Str × Nat)} {pos : Pos} (hc : X.calm = true) (hN : X.N.Nodup) (ok : BlkOk X.N X.env.scope scope own) (hi : PIw G X ws tg iter fi)
    (hg : ∀ (s : Shared) (H : Hp) (C : Addr) (cl : List (Str × Addr)) (fp : List Addr), PGs' G (X.blk s H scope (compEnvC scope cl C X.env) fp) (fun i => i ∉ own.map (·.2)) tg g)
    (he : ∀ (s : Shared) (H : Hp) (C : Addr) (cl : List (Str × Addr)) (fp : List Addr), PEs G (X.blk s H scope (compEnvC scope cl C X.env) fp) W0 elt f) (hs : ∀ x, foldedSetIterable iter X.env x = pure x := by intro _; rfl) :
    PEs G X W (.ListComp elt [⟨tg, iter, [], 0⟩] scope pos) (sLcW (own.map (·.2)) ws fi g sbYes f) := by
  obtain ⟨ti, p, hi⟩ := hi.ex
  exact ⟨_, pe_lc hc hN p ok (fun s H C cl fp => (hg s H C cl fp).sem) (fun _ _ _ _ _ => pts_nil) (fun s H C cl fp => (he s H C cl fp).sem) hs, SEok.lcW hi GSem.ok sby_ok ESem.ok⟩
theorem xe_lcIfW {elt tg iter ce : Expr} {scope : Scope} {own : List (Str × Nat)} {pos : Pos} (hc : X.calm = true) (hN : X.N.Nodup) (ok : BlkOk X.N X.env.scope scope own) (hi : PIw G X ws tg iter fi)
    (hg : ∀ (s : Shared) (H : Hp) (C : Addr) (cl : List (Str × Addr)) (fp : List Addr), PGs' G (X.blk s H scope (compEnvC scope cl C X.env) fp) (fun i => i ∉ own.map (·.2)) tg g)
    (ht : ∀ (s : Shared) (H : Hp) (C : Addr) (cl : List (Str × Addr)) (fp : List Addr), PBs G (X.blk s H scope (compEnvC scope cl C X.env) fp) W0 ce c)
    (he : ∀ (s : Shared) (H : Hp) (C : Addr) (cl : List (Str × Addr)) (fp : List Addr), PEs G (X.blk s H scope (compEnvC scope cl C X.env) fp) W0 elt f) (hs : ∀ x, foldedSetIterable iter X.env x = pure x := by intro _; rfl) :
    PEs G X W (.ListComp elt [⟨tg, iter, [ce], 0⟩] scope pos) (sLcW (own.map (·.2)) ws fi g c f) := by
  obtain ⟨ti, p, hi⟩ := hi.ex
  exact ⟨_, pe_lc hc hN p ok (fun s H C cl fp => (hg s H C cl fp).sem) (fun s H C cl fp => pts_one (ht s H C cl fp).sem) (fun s H C cl fp => (he s H C cl fp).sem) hs, SEok.lcW hi GSem.ok BSem.ok ESem.ok⟩
/-- y = [..] -/
theorem xs_setLcW {P : Px} (i : Nat) {y : Str} {py : Pos} {elt tg iter : Expr} {scope : Scope} {own : List (Str × Nat)} {pos spos : Pos} (hc : X.calm = true) (hN : X.N.Nodup) (ok : BlkOk X.N X.env.scope scope own) (hi : PIw G X ws tg iter fi)
    (hg : ∀ (s : Shared) (H : Hp) (C : Addr) (cl : List (Str × Addr)) (fp : List Addr), PGs' G (X.blk s H scope (compEnvC scope cl C X.env) fp) (fun i => i ∉ own.map (·.2)) tg g)
    (he : ∀ (s : Shared) (H : Hp) (C : Addr) (cl : List (Str × Addr)) (fp : List Addr), PEs G (X.blk s H scope (compEnvC scope cl C X.env) fp) W0 elt f)
    (hsw : swapsWith (.ListComp elt [⟨tg, iter, [], 0⟩] scope pos) (some (.Name y py)) spos.line X.env = pure true) (hP : ¬ P i := by decide) (hy : X.N[i]? = some y := by rfl) (hyl : X.env.scope.names.lookup y = some .local := by rfl) (hs : ∀ x, foldedSetIterable iter X.env x = pure x := by intro _; rfl) :
    PS' G X W P (.Assign [.Name y py] (.ListComp elt [⟨tg, iter, [], 0⟩] scope pos) spos) (ssSet i (sLcW (own.map (·.2)) ws fi g sbYes f)) := by
  obtain ⟨ti, p, hi⟩ := hi.ex
  exact ⟨_, ps_setLc hc hN hy hyl hsw p ok (fun s H C cl fp => (hg s H C cl fp).sem) (fun _ _ _ _ _ => pts_nil) (fun s H C cl fp => (he s H C cl fp).sem) hs, SSok.set hP (SEok.lcW hi GSem.ok sby_ok ESem.ok)⟩
theorem xs_setLcIfW {P : Px} (i : Nat) {y : Str} {py : Pos} {elt tg iter ce : Expr} {scope : Scope} {own : List (Str × Nat)} {pos spos : Pos} (hc : X.calm = true) (hN : X.N.Nodup) (ok : BlkOk X.N X.env.scope scope own) (hi : PIw G X ws tg iter fi)
    (hg : ∀ (s : Shared) (H : Hp) (C : Addr) (cl : List (Str × Addr)) (fp : List Addr), PGs' G (X.blk s H scope (compEnvC scope cl C X.env) fp) (fun i => i ∉ own.map (·.2)) tg g)
    (ht : ∀ (s : Shared) (H : Hp) (C : Addr) (cl : List (Str × Addr)) (fp : List Addr), PBs G (X.blk s H scope (compEnvC scope cl C X.env) fp) W0 ce c)
    (he : ∀ (s : Shared) (H : Hp) (C : Addr) (cl : List (Str × Addr)) (fp : List Addr), PEs G (X.blk s H scope (compEnvC scope cl C X.env) fp) W0 elt f)
    (hsw : swapsWith (.ListComp elt [⟨tg, iter, [ce], 0⟩] scope pos) (some (.Name y py)) spos.line X.env = pure true) (hP : ¬ P i := by decide) (hy : X.N[i]? = some y := by rfl) (hyl : X.env.scope.names.lookup y = some .local := by rfl) (hs : ∀ x, foldedSetIterable iter X.env x = pure x := by intro _; rfl) :
    PS' G X W P (.Assign [.Name y py] (.ListComp elt [⟨tg, iter, [ce], 0⟩] scope pos) spos) (ssSet i (sLcW (own.map (·.2)) ws fi g c f)) := by
  obtain ⟨ti, p, hi⟩ := hi.ex
  exact ⟨_, ps_setLc hc hN hy hyl hsw p ok (fun s H C cl fp => (hg s H C cl fp).sem) (fun s H C cl fp => pts_one (ht s H C cl fp).sem) (fun s H C cl fp => (he s H C cl fp).sem) hs, SSok.set hP (SEok.lcW hi GSem.ok BSem.ok ESem.ok)⟩
end
/-! ### copies by a look -/
def sListV (g : VE) : SE := fun env => match g env with
  | .ok m => match brw m with
    | some (_, xs) => .ok (.lst (xs.map .d), env)
    | none => .bad
  | _ => .bad
def sTupV (g : VE) : SE := fun env => match g env with
  | .ok m => match brw m with
    | some (_, xs) => .ok (.d (.tup xs), env)
    | none => .bad
  | _ => .bad
section
variable {G : Gx} {X : Cx} {W : WX'} {e : Expr} {g : VE} {p pos : Pos}
theorem xe_listV (hK : G.K = X.K) (hm : X.mg "list" = none) (ha : PVs G X e g) (hv : bootBuiltins "list" = some (.type "list") := by decide +kernel) (hg : Gl X "list" := by rfl) (hst : starEach [e] X.env = (false, eval e X.env) :: starEach [] X.env := by rfl) (hpl : (backTo pos (starEach [] X.env)).any (·.1) = false := by rfl) :
    PEs G X W (.Call (.Name "list" p) [e] [] pos) (sListV g) := by
  obtain ⟨t, q, h⟩ := ha.ex
  refine ⟨_, pe_callTy call_list_of hg hm hv (pa_cons q pa_nil hst) (by decide) (by decide) hst hpl, SEok.mk' fun Z H σ env S Q gd k => ?_⟩
  unfold sListV at k
  have h1 := h Z H σ env S (fun x H1 => ∃ p ys, [x] = [V.ref p] ∧ (SqL X.K H1 p ys ∨ SqT X.K H1 p ys) ∧ ∀ l, H1 l = none → Q (.ref l) (upd H1 l (.lst ys))) gd
  cases e1 : g env with
  | bad => rw [e1] at k; exact k.elim
  | exc x e' => rw [e1] at k; exact k.elim
  | ok m =>
    rw [e1] at k h1
    simp only at k h1
    cases e3 : brw m with
    | none => rw [e3] at k; exact k.elim
    | some q1 =>
      obtain ⟨b1, xs⟩ := q1
      rw [e3] at k
      refine h1 fun v T _ r => ?_
      obtain ⟨a, us, rfl, rr, sq⟩ := brw_rep gd.zh r e3
      obtain ⟨s1, s2⟩ := sq Z H (Same.refl _) gd.zh fun _ _ _ z => z
      have hq : SqL X.K H a us ∨ SqT X.K H a us := by
        rw [← hK]
        cases b1 with
        | false => exact .inl (s2 rfl)
        | true => exact .inr (s1 rfl)
      refine ⟨a, us, rfl, hq, fun p hp => ?_⟩
      have pS : ¬ U S p := fun z => gd.al' p z hp
      exact k (.ref p) _ _ S (fun a => a = p) (Stp.new (o := .lst us) gd.zh hp (U S)) (gd.move (Stp.new (o := .lst us) gd.zh hp (fun _ => False)) fun _ _ z => z).1 (lst_newD gd.zh rr hp pS)
theorem xe_tupV (hK : G.K = X.K) (hm : X.mg "tuple" = none) (ha : PVs G X e g) (hv : bootBuiltins "tuple" = some (.type "tuple") := by decide +kernel) (hg : Gl X "tuple" := by rfl) (hst : starEach [e] X.env = (false, eval e X.env) :: starEach [] X.env := by rfl) (hpl : (backTo pos (starEach [] X.env)).any (·.1) = false := by rfl) :
    PEs G X W (.Call (.Name "tuple" p) [e] [] pos) (sTupV g) := by
  obtain ⟨t, q, h⟩ := ha.ex
  refine ⟨_, pe_callTy call_tuple_of hg hm hv (pa_cons q pa_nil hst) (by decide) (by decide) hst hpl, SEok.mk' fun Z H σ env S Q gd k => ?_⟩
  unfold sTupV at k
  have h1 := h Z H σ env S (fun x H1 => ∃ p ys, [x] = [V.ref p] ∧ ((SqL X.K H1 p ys ∧ ∀ l, H1 l = none → Q (.ref l) (upd H1 l (.tup ys))) ∨ (SqT X.K H1 p ys ∧ Q (.ref p) H1))) gd
  cases e1 : g env with
  | bad => rw [e1] at k; exact k.elim
  | exc x e' => rw [e1] at k; exact k.elim
  | ok m =>
    rw [e1] at k h1
    simp only at k h1
    cases e3 : brw m with
    | none => rw [e3] at k; exact k.elim
    | some q1 =>
      obtain ⟨b1, xs⟩ := q1
      rw [e3] at k
      refine h1 fun v T _ r => ?_
      have r0 := r
      obtain ⟨a, us, rfl, rr, sq⟩ := brw_rep gd.zh r e3
      obtain ⟨s1, s2⟩ := sq Z H (Same.refl _) gd.zh fun _ _ _ z => z
      refine ⟨a, us, rfl, ?_⟩
      cases b1 with
      | false =>
        refine .inl ⟨by rw [← hK]; exact s2 rfl, fun p hp => ?_⟩
        have st := Stp.newZ (o := .tup us) gd.zh hp (U S)
        refine k (.ref p) _ _ S (fun _ => False) (st.weak fun _ z => z.elim (fun z => z) fun z => z.elim) (gd.move (Stp.newZ (o := .tup us) gd.zh hp (fun _ => False)) fun _ _ z => z).1 (Hld.data ?_)
        simp only [RepD]
        exact ⟨p, us, rfl, SqT.of upd_same, RepDs.mono st.z _ _ rr⟩
      | true =>
        refine .inr ⟨by rw [← hK]; exact s1 rfl, ?_⟩
        have hd : ∃ x, m = .d x ∧ itemsLT x = some (true, xs) := by
          cases m with
          | d x => exact ⟨x, rfl, e3⟩
          | lst ms => simp only [brw] at e3; split at e3 <;> cases e3
          | _ => cases e3
        obtain ⟨x, rfl, ex⟩ := hd
        simp only [RepM] at r0
        refine k (.ref a) _ _ S (fun _ => False) ((Stp.refl gd.zh).weak fun _ z => z.elim (fun z => z) fun z => z.elim) gd (Hld.data ?_)
        cases x with
        | tup ys => simp only [itemsLT] at ex; cases ex; exact r0
        | lst ys => simp [itemsLT] at ex
        | scr ys => simp [itemsLT] at ex
        | _ => simp [itemsLT] at ex
end
end FL

set_option maxHeartbeats 2000000
/-! FLZ: sorted(xs), any data; indices by values; max, min of a list. -/
namespace FL
open PySem L2 Classical

theorem vals_each {ps : List (PyData × V)} : ∀ {us : List Value}, Vals (ps.map (·.2)) us → PySem.W.EachIs (fun u (p : PyData × V) => RelV p.2 u) us ps := by
  induction ps with
  | nil => intro us r; cases r; exact .nil
  | cons p ps ih => intro us r; cases r with | cons a b => exact .cons a (ih b)
theorem each_vals {ps : List (PyData × V)} : ∀ {us : List Value}, PySem.W.EachIs (fun u (p : PyData × V) => RelV p.2 u) us ps → Vals (ps.map (·.2)) us := by
  induction ps with
  | nil => intro us r; cases r; exact .nil
  | cons p ps ih => intro us r; cases r with | cons a b => exact .cons a (ih b)
def rSrt (K : PySem.W.Frag) : List V → Hp → VK → Prop := fun vs H Q => ∃ (a : Addr) (ps : List (PyData × V)), vs = [.ref a] ∧ SqL K H a (ps.map (·.2)) ∧ (∀ p ∈ ps, Dp K H p.2 p.1 ∧ p.1.depth ≤ 60) ∧ PySem.W.AllAlike (ps.map (·.1)) ∧ PySem.W.Sortable (ps.map (·.1)) ∧
  ∀ q, H q = none → Q (.ref q) (upd H q (.lst ((ps.mergeSort (PySem.W.dataLe false (fun p : PyData × V => p.1))).map (·.2))))
theorem cr_srt {X : Cx} (hu : X.A.units + 64 < cLine) : CallR X (.builtin "sorted") (rSrt X.K) := by
  intro pins s σ H vs us Q I r h
  obtain ⟨a, ps, rfl, hs, hd, hal, hk, q⟩ := h
  obtain ⟨its, rv, hl, hz⟩ := I.list hs
  rw [Vals.ref1 r]
  have e := vals_each rv
  have er : PySem.W.EachIs (fun v (p : PyData × V) => ∃ as, Reads s.heap v p.1 as) its ps := by
    have key : ∀ {us : List Value} {qs : List (PyData × V)}, PySem.W.EachIs (fun u (p : PyData × V) => RelV p.2 u) us qs → (∀ p ∈ qs, Dp X.K H p.2 p.1) → PySem.W.EachIs (fun v (p : PyData × V) => ∃ as, Reads s.heap v p.1 as) us qs := by
      intro us qs e'
      induction e' with
      | nil => intro _; exact .nil
      | cons a b ih => intro hh; exact .cons (Dp.reads I _ _ _ (hh _ (by simp)) a) (ih fun p hp => hh p (by simp [hp]))
    exact key e fun p hp => (hd p hp).1
  refine PySem.W.sorted_data (enc := fun p : PyData × V => p.1) hl.isList e er hal hk (by simpa using hz) (fun p hp => by have := (hd p hp).2; omega) fun out hlen hE => ?_
  obtain ⟨ep, he'⟩ := PyProof.Rows.sortedAll_at s.heap its out.toArray
  have hv := each_vals hE
  have hlen2 : ((ps.mergeSort (PySem.W.dataLe false (fun p : PyData × V => p.1))).map (·.2)).length ≤ sizeLine := by
    rw [List.length_map, List.length_mergeSort]
    simpa using hz
  exact ⟨.ref _, upd H (s.heap.objs.size + 1) (.lst ((ps.mergeSort (PySem.W.dataLe false (fun p : PyData × V => p.1))).map (·.2))), I.laid (t' := s.toks) (fun _ _ => PyProof.Rows.sortedAll_old) (Nat.le_succ _) ⟨hlen2, out, ep, hv, he'⟩, rfl, q _ (I.hok.fresh (Nat.le_succ _))⟩
/-- data that sorted takes -/
def SrtOk (xs : List D) : Prop := (∀ x ∈ xs, (toPy x).plain = true ∧ (toPy x).depth ≤ 60) ∧ PySem.W.AllAlike (xs.map toPy) ∧ PySem.W.Sortable (xs.map toPy)
noncomputable def srtD (xs : List D) : List D := xs.mergeSort (PySem.W.dataLe false toPy)
noncomputable def sSorted (f : SE) : SE := fun env => match f env with
  | .ok (m, e) => match itemsLT (fz m) with
    | some (false, xs) => if SrtOk xs then .ok (.lst ((srtD xs).map .d), e) else .bad
    | _ => .bad
  | .exc x e => .exc x e
  | .bad => .bad
noncomputable def sSortedV (g : VE) : SE := fun env => match g env with
  | .ok m => match brw m with
    | some (false, xs) => if SrtOk xs then .ok (.lst ((srtD xs).map .d), env) else .bad
    | _ => .bad
  | _ => .bad
theorem zip_fst {α β : Type} : ∀ {xs : List α} {ys : List β}, xs.length = ys.length → (List.zip xs ys).map (·.1) = xs
  | [], [], _ => rfl
  | x :: xs, y :: ys, h => by simp [zip_fst (xs := xs) (ys := ys) (by simpa using h)]
theorem zip_snd {α β : Type} : ∀ {xs : List α} {ys : List β}, xs.length = ys.length → (List.zip xs ys).map (·.2) = ys
  | [], [], _ => rfl
  | x :: xs, y :: ys, h => by simp [zip_snd (xs := xs) (ys := ys) (by simpa using h)]
theorem repDs_zip {G : Gx} {Z : Hp} : ∀ {xs : List D} {vs : List V}, RepDs G Z xs vs → ∀ p ∈ List.zip xs vs, RepD G Z p.1 p.2
  | [], _, _, p, hp => by simp at hp
  | x :: xs, _, r, p, hp => by
    simp only [RepDs] at r
    obtain ⟨v, r', rfl, q, r⟩ := r
    simp only [List.zip_cons_cons, List.mem_cons] at hp
    rcases hp with rfl | hp
    · exact q
    · exact repDs_zip r p hp
theorem repDs_of {G : Gx} {Z : Hp} : ∀ {ps : List (D × V)}, (∀ p ∈ ps, RepD G Z p.1 p.2) → RepDs G Z (ps.map (·.1)) (ps.map (·.2))
  | [], _ => by simp [RepDs]
  | p :: ps, h => by
    simp only [List.map_cons, RepDs]
    exact ⟨_, _, rfl, h p (by simp), repDs_of fun q hq => h q (by simp [hq])⟩
/-- what the rule gives, told in data -/
theorem srt_data {G : Gx} {Z H : Hp} {a : Addr} {xs : List D} {us : List V} {Q : VK} (zh : Same Z H) (hs : SqL G.K H a us) (rr : RepDs G Z xs us) (ok : SrtOk xs) (q : ∀ p ws, H p = none → RepDs G Z (srtD xs) ws → Q (.ref p) (upd H p (.lst ws))) : rSrt G.K [.ref a] H Q := by
  have hl := rr.len
  have e1 := zip_fst hl
  have e2 := zip_snd hl
  have hr := repDs_zip rr
  let ps : List (PyData × V) := (List.zip xs us).map fun p => (toPy p.1, p.2)
  have p1 : ps.map (·.1) = xs.map toPy := by
    show ((List.zip xs us).map fun p => (toPy p.1, p.2)).map (·.1) = _
    have h := congrArg (List.map toPy) e1
    rw [List.map_map] at h ⊢
    exact h
  have p2 : ps.map (·.2) = us := by
    show ((List.zip xs us).map fun p => (toPy p.1, p.2)).map (·.2) = _
    rw [List.map_map]
    exact e2
  refine ⟨a, ps, rfl, by rw [p2]; exact hs, fun p hp => ?_, by rw [p1]; exact ok.2.1, by rw [p1]; exact ok.2.2, fun b hb => ?_⟩
  · obtain ⟨w, hw, rfl⟩ := List.mem_map.mp hp
    have hx : w.1 ∈ xs := by rw [← e1]; exact List.mem_map_of_mem hw
    have := ok.1 _ hx
    exact ⟨RepD.dp zh _ _ this.1 (hr w hw), this.2⟩
  · have m1 : (ps.mergeSort (PySem.W.dataLe false (fun p : PyData × V => p.1))) = ((List.zip xs us).mergeSort (PySem.W.dataLe false fun p : D × V => toPy p.1)).map fun p => (toPy p.1, p.2) := by
      rw [List.map_mergeSort]
      intro a _ b _
      rfl
    have m2 : srtD xs = ((List.zip xs us).mergeSort (PySem.W.dataLe false fun p : D × V => toPy p.1)).map (·.1) := by
      have h : srtD xs = srtD ((List.zip xs us).map (·.1)) := by rw [e1]
      rw [h]
      unfold srtD
      rw [List.map_mergeSort]
      intro a _ b _
      rfl
    rw [m1, List.map_map]
    have hq : ∀ p ∈ (List.zip xs us).mergeSort (PySem.W.dataLe false fun p : D × V => toPy p.1), RepD G Z p.1 p.2 := fun p hp => hr p ((List.mergeSort_perm _ _).mem_iff.mp hp)
    have := repDs_of hq
    rw [← m2] at this
    exact q b _ hb this
section
variable {G : Gx} {X : Cx} {W : WX'} {e : Expr} {g : VE} {f : SE} {p pos : Pos}
theorem xe_sortedV (hu : X.A.units + 64 < cLine) (hK : G.K = X.K) (hm : X.mg "sorted" = none) (ha : PVs G X e g) (hv : bootBuiltins "sorted" = some (.builtin "sorted") := by decide +kernel) (hg : Gl X "sorted" := by rfl) (hst : starEach [e] X.env = (false, eval e X.env) :: starEach [] X.env := by rfl) (hpl : (backTo pos (starEach [] X.env)).any (·.1) = false := by rfl) :
    PEs G X W (.Call (.Name "sorted" p) [e] [] pos) (sSortedV g) := by
  obtain ⟨t, q, h⟩ := ha.ex
  refine ⟨_, pe_callB (cr_srt hu) hg hm hv (pa_cons q pa_nil hst) (by decide) (by decide) hst hpl, SEok.mk' fun Z H σ env S Q gd k => ?_⟩
  unfold sSortedV at k
  have h1 := h Z H σ env S (fun x H1 => rSrt X.K [x] H1 Q) gd
  cases e1 : g env with
  | bad => rw [e1] at k; exact k.elim
  | exc x e' => rw [e1] at k; exact k.elim
  | ok m =>
    rw [e1] at k h1
    simp only at k h1
    cases e3 : brw m with
    | none => rw [e3] at k; exact k.elim
    | some q1 =>
      obtain ⟨b1, xs⟩ := q1
      rw [e3] at k
      cases b1 with
      | true => exact k.elim
      | false =>
        simp only at k
        by_cases ok : SrtOk xs
        case neg => rw [if_neg ok] at k; exact k.elim
        rw [if_pos ok] at k
        refine h1 fun v T _ r => ?_
        obtain ⟨a, us, rfl, rr, sq⟩ := brw_rep gd.zh r e3
        obtain ⟨_, s2⟩ := sq Z H (Same.refl _) gd.zh fun _ _ _ z => z
        rw [← hK]
        refine srt_data gd.zh (s2 rfl) rr ok fun b ws hb rw' => ?_
        have pS : ¬ U S b := fun z => gd.al' b z hb
        exact k (.ref b) _ _ S (fun a => a = b) (Stp.new (o := .lst ws) gd.zh hb (U S)) (gd.move (Stp.new (o := .lst ws) gd.zh hb (fun _ => False)) fun _ _ z => z).1 (lst_newD gd.zh rw' hb pS)
theorem xe_sorted (hu : X.A.units + 64 < cLine) (hK : G.K = X.K) (hm : X.mg "sorted" = none) (ha : PEs G X W e f) (hv : bootBuiltins "sorted" = some (.builtin "sorted") := by decide +kernel) (hg : Gl X "sorted" := by rfl) (hst : starEach [e] X.env = (false, eval e X.env) :: starEach [] X.env := by rfl) (hpl : (backTo pos (starEach [] X.env)).any (·.1) = false := by rfl) :
    PEs G X W (.Call (.Name "sorted" p) [e] [] pos) (sSorted f) := by
  obtain ⟨t, q, h⟩ := ha.ex
  refine ⟨_, pe_callB (cr_srt hu) hg hm hv (pa_cons q pa_nil hst) (by decide) (by decide) hst hpl, SEok.mk' fun Z H σ env S Q gd k => ?_⟩
  unfold sSorted at k
  refine h.use gd ?_
  cases e1 : f env with
  | bad => rw [e1] at k; exact k.elim
  | exc x e' => rw [e1] at k; exact k
  | ok pr =>
    obtain ⟨m, env1⟩ := pr
    rw [e1] at k
    simp only at k
    cases e3 : itemsLT (fz m) with
    | none => rw [e3] at k; exact k.elim
    | some q1 =>
      obtain ⟨b1, xs⟩ := q1
      rw [e3] at k
      cases b1 with
      | true => exact k.elim
      | false =>
        simp only at k
        by_cases ok : SrtOk xs
        case neg => rw [if_neg ok] at k; exact k.elim
        rw [if_pos ok] at k
        intro v Z' H' S' T s' g' l
        obtain ⟨rz, sz⟩ := l.frozen g'.zh
        have sT : Stp Z' H' T (Fzp Z' H' T) H' T := ⟨sz.z, sz.zh, fun _ _ e _ => e, fun _ z => .inl z, fun a z => by
          by_cases ta : T a
          · exact .inr (.inl ta)
          · rw [frz_out ta] at z; exact .inl z⟩
        have g2 := (g'.move sT fun a z w => l.dj a w z).1
        obtain ⟨a, us, rfl, t1, l1, rr⟩ := itemsLT_rep g2.zh rz e3
        show rSrt X.K [.ref a] H' Q
        rw [← hK]
        refine srt_data g2.zh (g2.zh.seq (l1 rfl)) rr ok fun b ws hb rw' => ?_
        have pS : ¬ U S' b := fun z => g2.al' b z hb
        exact k (.ref b) _ _ S' (fun a => a = b) (s'.trans (sz.trans (Stp.new (o := .lst ws) g2.zh hb (U S')))) (g2.move (Stp.new (o := .lst ws) g2.zh hb (fun _ => False)) fun _ _ z => z).1 (lst_newD g2.zh rw' hb pS)
/-- a[b], both values -/
theorem xe_ix {a b : Expr} {fa fb : SE} {r : R2} {op : DOp} (ho : IxR X r) (h : VOP G r op) (ha : PEs G X W a fa) (hb : PEs G X W b fb) (hs : PlainIx b := by exact fun _ _ => rfl) : PEs G X W (.Subscript a b pos) (s2 op fa fb) := by
  obtain ⟨ta, pa, ha⟩ := ha.ex
  obtain ⟨tb, pb, hb⟩ := hb.ex
  exact ⟨_, pe_ix ho pa pb hs, SEok.bin h ha hb⟩
/-- name[b], b a value: the name is looked at before and behind -/
theorem xe_ixN {b : Expr} {fb : SE} {r : R2} {op : DOp} {x : Str} {p1 : Pos} (i : Nat) (ho : IxR X r) (h : VOP G r op) (hb : PEs G X W b fb) (hN : X.N[i]? = some x := by rfl) (hv : Vis X.env.scope x := by first | exact Or.inl rfl | exact Or.inr (Or.inl rfl) | exact Or.inr (Or.inr rfl))
    (hd : (x == ("__debug__" : Str)) = false := by decide) (hcd : (x == ("__classdict__" : Str)) = false := by decide) (hs : PlainIx b := by exact fun _ _ => rfl) : PEs G X W (.Subscript (.Name x p1) b pos) (s2n op i fb) := by
  obtain ⟨tb, pb, hb⟩ := hb.ex
  exact ⟨_, pe_ix ho (pe_var hN hv hd hcd) pb hs, SEok.binN h hb⟩
end
end FL
namespace FL
open PySem L2 Classical
def maxI : List Int → Int
  | [] => 0
  | [x] => x
  | x :: y :: r => if x < maxI (y :: r) then maxI (y :: r) else x
def minI : List Int → Int
  | [] => 0
  | [x] => x
  | x :: y :: r => if minI (y :: r) < x then minI (y :: r) else x
theorem maxI_spec : ∀ {xs : List Int}, xs ≠ [] → maxI xs ∈ xs ∧ ∀ y ∈ xs, y ≤ maxI xs
  | [x], _ => by simp [maxI]
  | x :: y :: r, _ => by
    obtain ⟨h1, h2⟩ := maxI_spec (xs := y :: r) (by simp)
    unfold maxI
    split
    · rename_i h
      refine ⟨List.mem_cons_of_mem x h1, fun z hz => ?_⟩
      rcases List.mem_cons.mp hz with rfl | hz
      · omega
      · exact h2 z hz
    · rename_i h
      refine ⟨by simp, fun z hz => ?_⟩
      rcases List.mem_cons.mp hz with rfl | hz
      · omega
      · have := h2 z hz; omega
theorem minI_spec : ∀ {xs : List Int}, xs ≠ [] → minI xs ∈ xs ∧ ∀ y ∈ xs, minI xs ≤ y
  | [x], _ => by simp [minI]
  | x :: y :: r, _ => by
    obtain ⟨h1, h2⟩ := minI_spec (xs := y :: r) (by simp)
    unfold minI
    split
    · rename_i h
      refine ⟨List.mem_cons_of_mem x h1, fun z hz => ?_⟩
      rcases List.mem_cons.mp hz with rfl | hz
      · omega
      · exact h2 z hz
    · rename_i h
      refine ⟨by simp, fun z hz => ?_⟩
      rcases List.mem_cons.mp hz with rfl | hz
      · omega
      · have := h2 z hz; omega
def bMaxL : LOp
  | [m] => match m.seq with
    | some (false, ms) => match intsOf ms with
      | some (n :: ns) => .ok (.int (maxI (n :: ns)))
      | _ => .bad
    | _ => .bad
  | _ => .bad
def bMinL : LOp
  | [m] => match m.seq with
    | some (false, ms) => match intsOf ms with
      | some (n :: ns) => .ok (.int (minI (n :: ns)))
      | _ => .bad
    | _ => .bad
  | _ => .bad
theorem bop_maxL {G : Gx} : BOP G (rMax G.K) bMaxL := fun Z H ms vs Q zh r => by
  unfold bMaxL
  cases r with
  | nil => trivial
  | cons h t =>
    rename_i m v ms' vs'
    cases t with
    | cons _ _ => trivial
    | nil =>
      obtain ⟨T, h⟩ := h
      simp only
      cases e : m.seq with
      | none => trivial
      | some p =>
        obtain ⟨b, xs⟩ := p
        cases b with
        | true => trivial
        | false =>
          simp only
          cases e2 : intsOf xs with
          | none => trivial
          | some ns =>
            cases ns with
            | nil => trivial
            | cons n ns =>
              intro q
              obtain ⟨a, us, rfl, h1, h2, h3⟩ := h.seq zh e
              have hu := intsOf_rep h3 e2
              refine ⟨a, n :: ns, rfl, by rw [← hu]; exact h2 rfl, by simp, fun k hk hk2 => ?_⟩
              obtain ⟨g1, g2⟩ := maxI_spec (xs := n :: ns) (by simp)
              have : k = maxI (n :: ns) := by have := hk2 _ g1; have := g2 _ hk; omega
              rw [this]
              exact q _ intD
theorem bop_minL {G : Gx} : BOP G (rMin G.K) bMinL := fun Z H ms vs Q zh r => by
  unfold bMinL
  cases r with
  | nil => trivial
  | cons h t =>
    rename_i m v ms' vs'
    cases t with
    | cons _ _ => trivial
    | nil =>
      obtain ⟨T, h⟩ := h
      simp only
      cases e : m.seq with
      | none => trivial
      | some p =>
        obtain ⟨b, xs⟩ := p
        cases b with
        | true => trivial
        | false =>
          simp only
          cases e2 : intsOf xs with
          | none => trivial
          | some ns =>
            cases ns with
            | nil => trivial
            | cons n ns =>
              intro q
              obtain ⟨a, us, rfl, h1, h2, h3⟩ := h.seq zh e
              have hu := intsOf_rep h3 e2
              refine ⟨a, n :: ns, rfl, by rw [← hu]; exact h2 rfl, by simp, fun k hk hk2 => ?_⟩
              obtain ⟨g1, g2⟩ := minI_spec (xs := n :: ns) (by simp)
              have : k = minI (n :: ns) := by have := hk2 _ g1; have := g2 _ hk; omega
              rw [this]
              exact q _ intD
/-- a def that promises nothing -/
theorem fnA_bad {P : Program} {w : World} {mg : Str → Option Value} {base : Heap} {G : Gx} {x : Str} {st : Stmt} {f : Addr} {fd : FuncData} {N ps : List Str} {k n : Nat} (F : Fun G.K x x st f fd) (hm : mg x = some (.ref f)) (hb : Binds G.K fd ps []) (S : FnScope N ps (defScope st)) (hn : ps.length = n) (hk : 1 ≤ k) : FnA P w G mg base k x n (fun _ => .bad) := by
  obtain ⟨j, rfl⟩ : ∃ j, k = j + 1 := ⟨k - 1, by omega⟩
  have h := fnA_mk (P := P) (w := w) (base := base) (k := j) (b := fun _ => .bad) [] F hm hb S hn fun cdv A outer s H E hr tk hp => ⟨_, ⟨fun pins s σ H D I (h : False) => h.elim⟩, fun D Z H σ env S gd p => p.elim⟩
  exact h
end FL

set_option maxHeartbeats 2000000
/-! FLWA: plain law: watched loops, fractions added up, outcomes. -/
namespace FL
open PySem L2 Classical
theorem flw_all {ws : List Nat} {env0 : Env} {g : SG} {b : SS} {α : Type} (dd : α → D) (I : List α → Env → Prop) (hw : ∀ xs env, I xs env → wOk ws env0 env) (h : ∀ x rest env, I (x :: rest) env → ∃ e1 e2 t, g (.d (dd x)) env = .ok e1 ∧ b e1 = .ok (t, e2) ∧ (t = .nx ∨ t = .ct) ∧ I rest e2) :
    ∀ (xs : List α) (env : Env), I xs env → ∃ e', flw ws env0 g b (xs.map dd) env = .ok (.nx, e') ∧ I [] e'
  | [], env, i => ⟨env, by simp only [List.map_nil, flw]; rw [if_pos (hw _ _ i)], i⟩
  | x :: xs, env, i => by
    obtain ⟨e1, e2, t, h1, h2, h3, h4⟩ := h x xs env i
    obtain ⟨e', h5, h6⟩ := flw_all dd I hw h xs e2 h4
    refine ⟨e', ?_, h6⟩
    rw [List.map_cons]
    unfold flw
    rw [if_pos (hw _ _ i)]
    simp only [h1, h2]
    rcases h3 with rfl | rfl
    · exact h5
    · exact h5
theorem flw_or {ws : List Nat} {env0 : Env} {g : SG} {b : SS} {α : Type} (dd : α → D) (I : List α → Env → Prop) (R : M → Env → Prop) (hw : ∀ xs env, I xs env → wOk ws env0 env)
    (h : ∀ x rest env, I (x :: rest) env → ∃ e1, g (.d (dd x)) env = .ok e1 ∧ ((∃ e2 t, b e1 = .ok (t, e2) ∧ (t = .nx ∨ t = .ct) ∧ I rest e2) ∨ ∃ m e2, b e1 = .ok (.ret m, e2) ∧ R m e2)) :
    ∀ (xs : List α) (env : Env), I xs env → (∃ e', flw ws env0 g b (xs.map dd) env = .ok (.nx, e') ∧ I [] e') ∨ ∃ m e', flw ws env0 g b (xs.map dd) env = .ok (.ret m, e') ∧ R m e'
  | [], env, i => .inl ⟨env, by simp only [List.map_nil, flw]; rw [if_pos (hw _ _ i)], i⟩
  | x :: xs, env, i => by
    obtain ⟨e1, h1, ⟨e2, t, h2, h3, h4⟩ | ⟨m, e2, h2, h3⟩⟩ := h x xs env i
    · have e : flw ws env0 g b ((x :: xs).map dd) env = flw ws env0 g b (xs.map dd) e2 := by
        rw [List.map_cons]
        conv => lhs; unfold flw
        rw [if_pos (hw _ _ i)]
        simp only [h1, h2]
        rcases h3 with rfl | rfl <;> rfl
      rw [e]
      exact flw_or dd I R hw h xs e2 h4
    · refine .inr ⟨m, e2, ?_, h3⟩
      rw [List.map_cons]
      unfold flw
      rw [if_pos (hw _ _ i)]
      simp only [h1, h2]
theorem lclw_map {own ws : List Nat} {env0 : Env} {g : SG} {c : SB} {f : SE} {env : Env} {α : Type} (dd : α → D) (φ : α → M) (hw : wOk ws env0 env) : ∀ (xs : List α) (acc : List M),
    (∀ x ∈ xs, ∃ e1 e2 e3, g (.d (dd x)) env = .ok e1 ∧ c e1 = .ok (true, e2) ∧ f e2 = .ok (φ x, e3) ∧ killAll own e3 = env) → lclw own ws env0 g c f (xs.map dd) acc env = .ok (acc ++ xs.map φ, env)
  | [], acc, _ => by simp only [List.map_nil, lclw]; rw [if_pos hw]; simp
  | x :: xs, acc, h => by
    obtain ⟨e1, e2, e3, h1, h2, h3, h4⟩ := h x (by simp)
    rw [List.map_cons]
    unfold lclw
    rw [if_pos hw]
    simp only [h1, h2, h3, h4]
    rw [lclw_map dd φ hw xs (acc ++ [φ x]) fun y hy => h y (by simp [hy])]
    simp
/-- with a test: the items that stand it -/
theorem lclw_if {own ws : List Nat} {env0 : Env} {g : SG} {c : SB} {f : SE} {env : Env} {α : Type} (dd : α → D) (φ : α → M) (p : α → Bool) (hw : wOk ws env0 env) : ∀ (xs : List α) (acc : List M),
    (∀ x ∈ xs, ∃ e1 e2 e3, g (.d (dd x)) env = .ok e1 ∧ c e1 = .ok (p x, e2) ∧ (p x = true → f e2 = .ok (φ x, e3) ∧ killAll own e3 = env) ∧ (p x = false → killAll own e2 = env)) → lclw own ws env0 g c f (xs.map dd) acc env = .ok (acc ++ (xs.filter p).map φ, env)
  | [], acc, _ => by simp only [List.map_nil, lclw]; rw [if_pos hw]; simp
  | x :: xs, acc, h => by
    obtain ⟨e1, e2, e3, h1, h2, h3, h4⟩ := h x (by simp)
    rw [List.map_cons]
    unfold lclw
    rw [if_pos hw]
    simp only [h1, h2]
    cases hp : p x with
    | true =>
      obtain ⟨h5, h6⟩ := h3 hp
      simp only [h5, h6]
      rw [lclw_if dd φ p hw xs (acc ++ [φ x]) fun y hy => h y (by simp [hy])]
      simp [hp]
    | false =>
      simp only [h4 hp]
      rw [lclw_if dd φ p hw xs acc fun y hy => h y (by simp [hy])]
      simp [hp]
/-! ### fractions over one bottom, added up -/
theorem low_add {w v C : Int} (hC : 0 < C) : lowT (lowT w C * lowB v C + lowT v C * lowB w C) (lowB w C * lowB v C) = lowT (w + v) C ∧ lowB (lowT w C * lowB v C + lowT v C * lowB w C) (lowB w C * lowB v C) = lowB (w + v) C := by
  have h1 := lowB_pos (t := w) hC
  have h2 := lowB_pos (t := v) hC
  have c1 := low_cross (t := w) (b := C)
  have c2 := low_cross (t := v) (b := C)
  refine low_eq (Int.mul_pos h1 h2) hC ?_
  generalize lowT w C = a at *
  generalize lowB w C = b at *
  generalize lowT v C = c at *
  generalize lowB v C = d at *
  clear h1 h2 hC
  grind
theorem low_over {w W C : Int} (hC : 0 < C) (hW : 0 < W) : 0 < lowB w C * lowT W C ∧ lowT (lowT w C * lowB W C) (lowB w C * lowT W C) = lowT w W ∧ lowB (lowT w C * lowB W C) (lowB w C * lowT W C) = lowB w W := by
  have h1 := lowB_pos (t := w) hC
  have h2 := lowB_pos (t := W) hC
  have c1 := low_cross (t := w) (b := C)
  have c2 := low_cross (t := W) (b := C)
  have h3 : 0 < lowT W C := by
    refine Int.not_le.mp fun q => ?_
    have a1 : lowT W C * C ≤ 0 := Int.mul_nonpos_of_nonpos_of_nonneg q (Int.le_of_lt hC)
    have a2 : 0 < W * lowB W C := Int.mul_pos hW h2
    omega
  refine ⟨Int.mul_pos h1 h3, low_eq (Int.mul_pos h1 h3) hW ?_⟩
  have key : (lowT w C * lowB W C * W) * C = (w * (lowB w C * lowT W C)) * C := by
    generalize lowT w C = a at *
    generalize lowB w C = b at *
    generalize lowT W C = c at *
    generalize lowB W C = d at *
    clear h1 h2 h3 hC hW
    grind
  exact Int.eq_of_mul_eq_mul_right (by omega) key
theorem low_self {W : Int} (hW : 0 < W) : lowT W W = 1 ∧ lowB W W = 1 := by
  have e : gI W W = W := by
    unfold gI
    rw [Int.gcd_self]
    omega
  unfold lowT lowB
  rw [e]
  exact ⟨Int.ediv_self (by omega), Int.ediv_self (by omega)⟩
theorem low_zero {C : Int} (hC : 0 < C) : lowT 0 C = 0 ∧ lowB 0 C = 1 := by
  have e : gI 0 C = C := by
    unfold gI
    rw [Int.gcd_zero_left]
    omega
  unfold lowT lowB
  rw [e]
  exact ⟨Int.zero_ediv _, Int.ediv_self (by omega)⟩
theorem lowT_pos {w C : Int} (hC : 0 < C) (hw : 0 < w) : 0 < lowT w C := by
  have c2 := low_cross (t := w) (b := C)
  have h2 := lowB_pos (t := w) hC
  refine Int.not_le.mp fun q => ?_
  have a1 : lowT w C * C ≤ 0 := Int.mul_nonpos_of_nonpos_of_nonneg q (Int.le_of_lt hC)
  have a2 : 0 < w * lowB w C := Int.mul_pos hw h2
  omega

/-! ### outcomes: None, a number, a record -/
def rowD (p : List Nat × Int) : D := .tup [.str (sl p.1), .int p.2]
inductive Out : D → Prop where
  | non : Out .non
  | int (i : Int) : Out (.int i)
  | rcd (rs : List (List Nat × Int)) : Out (.tup (rs.map rowD))
theorem rows_plain : ∀ rs : List (List Nat × Int), PyData.plainAll (toPys (rs.map rowD)) = true ∧ PyData.depthAll (toPys (rs.map rowD)) ≤ 1
  | [] => by simp [toPys, PyData.plainAll, PyData.depthAll]
  | r :: rs => by
    obtain ⟨h1, h2⟩ := rows_plain rs
    simp only [List.map_cons, toPys, PyData.plainAll, PyData.depthAll, h1, rowD, toPy, PyData.plain, PyData.depth]
    simp
    omega
theorem Out.pl {x : D} (h : Out x) : (toPy x).plain = true ∧ (toPy x).depth ≤ 2 := by
  cases h with
  | non => simp [toPy, PyData.plain, PyData.depth]
  | int i => simp [toPy, PyData.plain, PyData.depth]
  | rcd rs =>
    obtain ⟨h1, h2⟩ := rows_plain rs
    simp only [toPy, PyData.plain, PyData.depth, h1, true_and]
    omega
theorem rows_eqv : ∀ rs : List (List Nat × Int), PyData.eqvAll (toPys (rs.map rowD)) (toPys (rs.map rowD)) = true
  | [] => by simp [toPys, PyData.eqvAll]
  | r :: rs => by simp [toPys, PyData.eqvAll, rows_eqv rs, rowD, toPy, PyData.eqv]
theorem Out.eqv {x : D} (h : Out x) : PyData.eqv (toPy x) (toPy x) = true := by
  cases h with
  | non => simp [toPy, PyData.eqv]
  | int i => simp [toPy, PyData.eqv]
  | rcd rs => simp only [toPy, PyData.eqv]; exact rows_eqv rs
theorem Out.pl60 {x : D} (h : Out x) : Pl 60 x := ⟨h.pl.1, by have := h.pl.2; omega⟩
theorem oEq_out {x y : D} (hx : Out x) (hy : Out y) : oEq (.d x) (.d y) = .ok (.bl (eqD x y)) := oEq_pl hx.pl60 hy.pl60
theorem oNe_out {x y : D} (hx : Out x) (hy : Out y) : oNe (.d x) (.d y) = .ok (.bl (!eqD x y)) := oNe_pl hx.pl60 hy.pl60
theorem Out.eqD {x : D} (h : Out x) : eqD x x = true := h.eqv
theorem srt_rows (rs : List (List Nat × Int)) : SrtOk (rs.map rowD) ∧ ∃ qs : List (List Nat × Int), srtD (rs.map rowD) = qs.map rowD := by
  refine ⟨⟨fun x hx => ?_, ?_, ?_⟩, ?_⟩
  · obtain ⟨r, _, rfl⟩ := List.mem_map.mp hx
    simp [rowD, toPy, toPys, PyData.plain, PyData.plainAll, PyData.depth, PyData.depthAll]
  · rw [List.map_map]
    exact PySem.W.AllAlike.of fun a b => by simp [rowD, toPy, toPys, PySem.W.alike, PySem.W.alikeAll]
  · rw [List.map_map]
    exact PySem.W.Sortable.tuples fun a => ⟨.str (sl a.1), [.int a.2], by simp only [Function.comp, rowD, toPy, toPys]⟩
  · refine ⟨rs.mergeSort (PySem.W.dataLe false fun r => toPy (rowD r)), ?_⟩
    unfold srtD
    rw [List.map_mergeSort]
    intro a _ b _
    rfl
end FL

set_option maxHeartbeats 2000000
/-! FLWB: a def that tells a key (no loop, nothing changed), read at the concrete heap; sorted by it. -/
namespace FL
open PySem L2 Classical PySem.Spec PyProof.Rows

/-- all objects stay -/
def Kp (h h' : Heap) : Prop := ∀ b o, h.get? b = some o → h'.get? b = some o
theorem Kp.rfl {h : Heap} : Kp h h := fun _ _ e => e
theorem Kp.trans {h h' h'' : Heap} (a : Kp h h') (b : Kp h' h'') : Kp h h'' := fun c o e => b c o (a c o e)

/-- the place a key def's body runs at -/
structure KCx where
  P : Program
  w : World
  K : PySem.W.Frag
  mg : Str → Option Value
  base : Heap
  A : Around
  env : PySem.Env
  m : Str → Option Value
  s1 : Shared
structure KCx.Ok (C : KCx) : Prop where
  mod : Mod C.K C.mg C.base
  bs : Kp C.base C.s1.heap
  kind : C.env.scope.kind = .function
  glob : C.env.globals = mainGlobals
  blt : C.env.builtins = builtinsNs
  ns : C.s1.heap.Ns C.env.locals C.m
abbrev KCx.st (C : KCx) (h : Heap) (tk : Nat) : Shared := { C.s1 with heap := h, toks := tk }

structure KE (C : KCx) (e : Expr) (d : PyData) : Prop where
  run : ∀ (h : Heap) (tk : Nat) (Q : Value → Shared → Prop) (E : Value → Shared → Prop), Kp C.s1.heap h →
    (∀ u h' tk', Kp h h' → Reads h' u d [] → Q u (C.st h' tk')) → wpAny (model C.P C.w) C.A (eval e C.env) Q E (C.st h tk)
structure KA (C : KCx) (es : List Expr) (ds : List PyData) : Prop where
  run : ∀ (pos : Pos) (h : Heap) (tk : Nat) (Q : List Value → Shared → Prop) (E : Value → Shared → Prop), Kp C.s1.heap h →
    (∀ us h' tk', Kp h h' → ReadsAll h' us ds [] → Q us (C.st h' tk')) → wpAny (model C.P C.w) C.A (spliced (backTo pos (starEach es C.env))) Q E (C.st h tk)
structure KT (C : KCx) (e : Expr) (b : Bool) : Prop where
  run : ∀ (h : Heap) (tk : Nat) (Q : Bool → Shared → Prop) (E : Value → Shared → Prop), Kp C.s1.heap h →
    (∀ h' tk', Kp h h' → Q b (C.st h' tk')) → wpAny (model C.P C.w) C.A (isTrue e C.env (eval e C.env)) Q E (C.st h tk)
structure KSs (C : KCx) (sts : List Stmt) (d : PyData) : Prop where
  run : ∀ (h : Heap) (tk : Nat) (Q : Flow → Shared → Prop) (E : Value → Shared → Prop), Kp C.s1.heap h →
    (∀ u h' tk', Kp h h' → Reads h' u d [] → Q (.ret u) (C.st h' tk')) → wpAny (model C.P C.w) C.A (execs sts C.env) Q E (C.st h tk)

theorem readsAll_app0 {h : Heap} {v : Value} {vs : List Value} {d : PyData} {ds : List PyData} (a : Reads h v d []) (b : ReadsAll h vs ds []) : ReadsAll h (v :: vs) (d :: ds) [] := by
  have := ReadsAll.cons a b
  simpa using this
section
variable {C : KCx} {e a : Expr} {b : Bool} {es : List Expr} {d : PyData} {ds : List PyData} {pos : Pos} {x : Str} {u : Value}
theorem ke_int {i : Int} {j} : KE C (.Constant (.int i) j pos) (.int i) := ⟨fun h tk Q E _ q => wpAny_Constant_int (q _ h _ Kp.rfl (.int i _))⟩
theorem ke_var (ok : C.Ok) (hl : C.env.scope.names.lookup x = some .local) (hm : C.m x = some u) (r : Reads C.s1.heap u d []) (hd : (x == ("__debug__" : Str)) = false := by decide) : KE C (.Name x pos) d :=
  ⟨fun h tk Q E k q => wpAny_Name (wpAny_loadName_local ok.kind hl (ok.ns.keeps k) hm (q u h tk Kp.rfl (PyProof.Rows.Reads.keeps k r))) hd⟩
theorem ka_nil : KA C [] [] := ⟨fun pos h tk Q E k q => Calls.spliced_nil (q [] h tk Kp.rfl .nil)⟩
theorem ka_cons (ha : KE C e d) (hr : KA C es ds) (hs : starEach (e :: es) C.env = (false, eval e C.env) :: starEach es C.env) : KA C (e :: es) (d :: ds) := by
  refine ⟨fun pos h tk Q E k q => ?_⟩
  rw [hs]
  show wpAny _ _ (spliced ((false, eval e C.env) :: backTo pos (starEach es C.env))) _ _ _
  refine Calls.spliced_cons (ha.run h tk _ E k fun u h1 tk1 k1 r1 => ?_)
  refine hr.run pos h1 tk1 _ E (k.trans k1) fun us h2 tk2 k2 r2 => ?_
  exact q _ h2 tk2 (k1.trans k2) (readsAll_app0 (PyProof.Rows.Reads.keeps k2 r1) r2)
theorem readsAll_len {h : Heap} : ∀ {us : List Value} {ds : List PyData} {as : List Addr}, ReadsAll h us ds as → us.length = ds.length := by
  intro us ds
  induction ds generalizing us with
  | nil => intro as r; cases r; simp
  | cons d ds ih => intro as r; cases r with | cons a b => simp [ih b]
theorem ke_tup {x1} (ha : KA C es ds) (hz : ds.length ≤ 60) : KE C (.Tuple es x1 pos) (.tuple ds) := by
  refine ⟨fun h tk Q E k q => ?_⟩
  refine wpAny_Tuple_spliced (ha.run pos h tk _ E k fun us h1 tk1 k1 r1 => ⟨?_, ?_⟩)
  · rw [readsAll_len r1, sizeLine_eq]; omega
  · refine q _ _ _ (fun b o e => Heap.get?_push_of_some _ (k1 b o e)) ?_
    refine .tuple (Heap.get?_push_size _ rfl) rfl rfl (n := 0) (vs := us.toArray) ?_
    have : ReadsAll (h1.push { cls := .type "tuple", data := .seq us.toArray }) us ds [] := by
      have key : ∀ {us : List Value} {ds : List PyData} {as : List Addr} {g g' : Heap}, Kp g g' → ReadsAll g us ds as → ReadsAll g' us ds as := by
        intro us ds
        induction ds generalizing us with
        | nil => intro as g g' _ r; cases r; exact .nil
        | cons d ds ih => intro as g g' k r; cases r with | cons a b => exact .cons (PyProof.Rows.Reads.keeps k a) (ih k b)
      exact key (fun b o e => Heap.get?_push_of_some _ e) r1
    simpa using this
/-- is None -/
theorem kt_isN {j pos'} (ha : KE C a d) (hb : ∀ h u, Reads h u d [] → (u == Value.none) = b) : KT C (.Compare a [.Is] [.Constant .none j pos'] pos) b := by
  refine ⟨fun h tk Q E k q => ?_⟩
  refine wpAny_isTrue_Compare1 (ha.run h tk _ E k fun u h1 tk1 k1 r1 => ?_) (nomark _)
  refine Constant_none (is_none_gen ?_)
  rw [hb h1 u r1]
  exact wpAny_truthy_bool (q h1 tk1 k1)
/-- isinstance(a, int) -/
theorem kt_isi {p p2 : Pos} {T : Str} {t : String} (ok : C.Ok) (ha : KE C a d) (hm : C.mg "isinstance" = none) (hmt : C.mg T = none) (hv : bootBuiltins T = some (.type t))
    (hg : C.env.kindOf "isinstance" = some .globalImplicit) (hgt : C.env.kindOf T = some .globalImplicit) (hn : T ≠ "__name__") (hdt : (T == ("__debug__" : Str)) = false)
    (hs : starEach [a, .Name T p2] C.env = (false, eval a C.env) :: starEach [.Name T p2] C.env) (hs2 : starEach [.Name T p2] C.env = (false, eval (.Name T p2) C.env) :: starEach [] C.env)
    (hpl : (backTo pos (starEach [.Name T p2] C.env)).any (·.1) = false)
    (he : ∀ whole, isTrue (.Call (.Name "isinstance" p) [a, .Name T p2] [] pos) C.env whole = (do let v ← whole; standAt (Expr.pos (.Call (.Name "isinstance" p) [a, .Name T p2] [] pos)); holding [v] (truthy v)))
    (hb : ∀ (s : Shared) u (Q : Value → Shared → Prop) E, C.K.In s.heap → Reads s.heap u d [] → (∀ tk, Q (.bool b) { s with toks := tk }) → wpAny (model C.P C.w) C.A (call (.builtin "isinstance") [u, .type t]) Q E s) :
    KT C (.Call (.Name "isinstance" p) [a, .Name T p2] [] pos) b := by
  have blt : ∀ {x : Str} {u : Value} {ps : Pos} {h : Heap} {tk : Nat} {Q : Value → Shared → Prop} {E}, Kp C.s1.heap h → C.env.kindOf x = some .globalImplicit → C.mg x = none → bootBuiltins x = some u → x ≠ "__name__" → (x == ("__debug__" : Str)) = false → Q u (C.st h tk) →
      wpAny (model C.P C.w) C.A (eval (.Name x ps) C.env) Q E (C.st h tk) := by
    intro x u ps h tk Q E k hg hm hv hn hd q
    obtain ⟨mb, h1, h2⟩ := ok.mod.blt
    have kb : Kp C.base h := ok.bs.trans k
    exact Calls.Name_function_global ok.kind hg (Calls.loadGlobal_builtin (by rw [ok.glob]; exact ok.mod.glob.keeps kb) hm (by rw [ok.blt]; exact h1.keeps kb) ((h2 x hn).trans hv) q) hd
  refine ⟨fun h tk Q E k q => ?_⟩
  refine isTrue_plain ?_ (he _)
  refine wpAny_Call_Name_kw (blt k hg hm PyProof.Rows.boot_isinstance (by decide) (by decide) ?_)
  refine PyProof.Rows.callWith_builtin1 ?_ hs hpl
  rw [hs]
  show wpAny _ _ (spliced ((false, eval a C.env) :: backTo pos (starEach [.Name T p2] C.env))) _ _ _
  refine Calls.spliced_cons (ha.run h tk _ _ k fun u h1 tk1 k1 r1 => ?_)
  rw [hs2]
  show wpAny _ _ (spliced ((false, eval (.Name T p2) C.env) :: backTo pos (starEach [] C.env))) _ _ _
  refine Calls.spliced_cons (blt (k.trans k1) hgt hmt hv hn hdt (Calls.spliced_nil ?_))
  refine hb _ u _ _ (ok.mod.kin.keeps (ok.bs.trans (k.trans k1))) r1 fun tk2 => ?_
  exact wpAny_truthy_bool (q h1 tk2 k1)
/-- isinstance(a, int) of a number, of a tuple -/
theorem kt_int {p p2 : Pos} (ok : C.Ok) (ha : KE C a d) (hd : (∃ i, d = .int i ∧ b = true) ∨ (∃ xs, d = .tuple xs ∧ b = false)) (hm : C.mg "isinstance" = none) (hmt : C.mg "int" = none)
    (hg : C.env.kindOf "isinstance" = some .globalImplicit := by rfl) (hgt : C.env.kindOf "int" = some .globalImplicit := by rfl)
    (hs : starEach [a, .Name "int" p2] C.env = (false, eval a C.env) :: starEach [.Name "int" p2] C.env := by rfl) (hs2 : starEach [.Name "int" p2] C.env = (false, eval (.Name "int" p2) C.env) :: starEach [] C.env := by rfl)
    (hpl : (backTo pos (starEach [.Name "int" p2] C.env)).any (·.1) = false := by rfl)
    (he : ∀ whole, isTrue (.Call (.Name "isinstance" p) [a, .Name "int" p2] [] pos) C.env whole = (do let v ← whole; standAt (Expr.pos (.Call (.Name "isinstance" p) [a, .Name "int" p2] [] pos)); holding [v] (truthy v)) := by intro _; rfl) :
    KT C (.Call (.Name "isinstance" p) [a, .Name "int" p2] [] pos) b := by
  refine kt_isi (t := "int") ok ha hm hmt (by decide +kernel) hg hgt (by decide) (by decide) hs hs2 hpl he fun s u Q E hK r q => ?_
  rcases hd with ⟨i, rfl, rfl⟩ | ⟨xs, rfl, rfl⟩
  · cases r
    exact PySem.W.kia_one PySem.W.kitx_int hK True.intro (kit_is (a := "int") (b := "int") (by decide) (by decide)) (fun z => nomatch z) q
  · cases r with
    | tuple h1 h2 h3 h4 => exact PySem.W.kia_one PySem.W.kitx_tuple hK ⟨_, h1, h2⟩ (kit_is (a := "tuple") (b := "int") (by decide) (by decide)) (fun z => nomatch z) q
theorem kss_ret {rest : List Stmt} (ha : KE C e d) : KSs C (.Return (some e) pos :: rest) d :=
  ⟨fun h tk Q E k q => wpAny_execs_cons (wpAny_Return_some (ha.run h tk _ E k fun u h1 tk1 k1 r1 => q u h1 tk1 k1 r1))⟩
theorem kss_yes {c : Expr} {xs ys rest : List Stmt} (hc : KT C c true) (hx : KSs C xs d) : KSs C (.If c xs ys pos :: rest) d :=
  ⟨fun h tk Q E k q => wpAny_execs_cons (wpAny_If (hc.run h tk _ E k fun h1 tk1 k1 => hx.run h1 tk1 _ E (k.trans k1) fun u h2 tk2 k2 r2 => q u h2 tk2 (k1.trans k2) r2))⟩
theorem kss_no {c : Expr} {xs rest : List Stmt} (hc : KT C c false) (hx : KSs C rest d) : KSs C (.If c xs [] pos :: rest) d :=
  ⟨fun h tk Q E k q => wpAny_execs_cons (wpAny_If (hc.run h tk _ E k fun h1 tk1 k1 => wpAny_execs_nil (hx.run h1 tk1 _ E (k.trans k1) fun u h2 tk2 k2 r2 => q u h2 tk2 (k1.trans k2) r2)))⟩
end

/-! ### the def's entry -/
def KeyT (P : Program) (w : World) (K : PySem.W.Frag) (mg : Str → Option Value) (base : Heap) (k : Nat) (f : Addr) (kd : PyData → PyData → Prop) : Prop :=
  ∀ (A : Around) (outer : List PySem.Env) (s : Shared) (v : Value) (x key : PyData) (E : Value → Shared → Prop), Mod K mg base → Room k A → Kp base s.heap → Reads s.heap v x [] → kd x key → wpAny (model P w) A (call (.ref f) [v]) (PySem.W.KeyPure key s) E s
abbrev kcx (P : Program) (w : World) (K : PySem.W.Frag) (mg : Str → Option Value) (base : Heap) (px qual : Str) (sc : Scope) (f : Addr) (cd : Value) (A : Around) (s s1 : Shared) (u : Value) : KCx where
  P := P
  w := w
  K := K
  mg := mg
  base := base
  A := A.deeper (envOfC qual sc s.heap.objs.size f cd)
  env := envOfC qual sc s.heap.objs.size f cd
  m := bindL (envOfC qual sc s.heap.objs.size f cd).kindOf ([px].zip [u]) fun _ => none
  s1 := s1
theorem key_fn {P : Program} {w : World} {K : PySem.W.Frag} {mg : Str → Option Value} {base : Heap} {x px : Str} {st : Stmt} {f : Addr} {fd : FuncData} {k : Nat} {kd : PyData → PyData → Prop} (F : Fun K x x st f fd) (S : FnScope [px] [px] (defScope st)) (hl : (defScope st).names.lookup px = some .local) (hb : Binds K fd [px] [])
    (hbody : ∀ (cd : Value) (A : Around) (s s1 : Shared) (u : Value) (d key : PyData), kd d key → (kcx P w K mg base px x (defScope st) f cd A s s1 u).Ok → Reads s1.heap u d [] → (kcx P w K mg base px x (defScope st) f cd A s s1 u).m px = some u → KSs (kcx P w K mg base px x (defScope st) f cd A s s1 u) (defBody st) key) :
    KeyT P w K mg base (k + 1) f kd := by
  intro A outer s v d key E mod hr kb hr0 hkd
  obtain ⟨oc, od, kV, doc, pm, an, cdv, ct, osl, rfl, lk, hcd⟩ := F.ex
  have KX : K.In s.heap := mod.kin.keeps kb
  have lim : s.heap.NoLimit := mod.nolimit.keeps kb
  refine wpAny_call (codeAny_mono (R := fun r s' => match r with | .ok (.ret u) => PySem.W.KeyPure key s u s' | .ok _ => False | .error _ => False) ?_ fun r s' hq => ?_)
  · refine codeAny_call_function hr.depth (KX _ _ lk) rfl S.co S.gen rfl (PySem.W.codeRec_of KX hcd) (hb s [v] KX (by simp) _ _ _ _ ?_)
    refine wpAny_newFunctionEnv_cells S.kind (fun y hy => ?_) fun env he s1 ic => ?_
    · have : y = (px, v) := by simpa using hy
      subst this
      exact .inl hl
    subst he
    refine ⟨lim.keeps ic.toInCall.keep, codeAny_func ?_⟩
    obtain ⟨h1, tk, rfl, hk⟩ := id ic.done
    have kk : Kp s.heap h1 := hk
    have ok : (kcx P w K mg base px x (defScope st) f cdv A s { s with heap := h1, toks := tk } v).Ok := ⟨mod, kb.trans kk, S.kind, rfl, rfl, ic.toInCall.ns⟩
    have hm : (kcx P w K mg base px x (defScope st) f cdv A s { s with heap := h1, toks := tk } v).m px = some v := bindL_get (kindOf := (envOfC x (defScope st) s.heap.objs.size f cdv).kindOf) (P := [px]) (vs := [v]) (i := 0) (by simp) rfl rfl hl
    have hrun := (hbody cdv A s { s with heap := h1, toks := tk } v d key hkd ok (PyProof.Rows.Reads.keeps kk hr0) hm).run h1 tk
    refine hrun _ _ Kp.rfl fun u h' tk' k' r' => ?_
    exact ⟨h', tk', rfl, kk.trans k', r'⟩
  · cases r with
    | error e => exact hq.elim
    | ok fl => cases fl with
      | ret u => exact hq
      | next => exact hq.elim
      | brk => exact hq.elim
      | cont => exact hq.elim

mutual
/-- no list in it -/
def noL : PyData → Bool
  | .none => true
  | .bool _ => true
  | .int _ => true
  | .str _ => true
  | .tuple xs => noLs xs
  | _ => false
def noLs : List PyData → Bool
  | [] => true
  | x :: xs => noL x && noLs xs
end
mutual
theorem reads_nil {h : Heap} : ∀ (d : PyData) (v : Value) (as : List Addr), Reads h v d as → noL d = true → as = []
  | .none, _, _, r, _ => by cases r; rfl
  | .bool _, _, _, r, _ => by cases r; rfl
  | .int _, _, _, r, _ => by cases r; rfl
  | .str _, _, _, r, _ => by cases r; rfl
  | .tuple xs, _, _, r, n => by
    cases r with
    | tuple h1 h2 h3 h4 => exact readsAll_nil xs _ _ h4 (by simpa [noL] using n)
  | .list _, _, _, _, n => by simp [noL] at n
  | .dict _, _, _, _, n => by simp [noL] at n
theorem readsAll_nil {h : Heap} : ∀ (ds : List PyData) (vs : List Value) (as : List Addr), ReadsAll h vs ds as → noLs ds = true → as = []
  | [], _, _, r, _ => by cases r; rfl
  | d :: ds, _, _, r, n => by
    cases r with
    | cons a b =>
      rw [noLs, Bool.and_eq_true] at n
      rw [reads_nil d _ _ a n.1, readsAll_nil ds _ _ b n.2]
      rfl
end

/-! ### sorted(xs, key=f) -/
structure KItem where
  x : PyData
  key : PyData
  v : V
theorem items_each : ∀ {ps : List KItem} {us : List Value}, Vals (ps.map (·.v)) us → PySem.W.EachIs (fun u (p : KItem) => RelV p.v u) us ps := by
  intro ps
  induction ps with
  | nil => intro us r; cases r; exact .nil
  | cons p ps ih => intro us r; cases r with | cons a b => exact .cons a (ih b)
theorem each_items : ∀ {ps : List KItem} {us : List Value} {R : Value → KItem → Prop}, PySem.W.EachIs R us ps → (∀ u p, R u p → RelV p.v u) → Vals (ps.map (·.v)) us := by
  intro ps us R e
  induction e with
  | nil => intro _; exact .nil
  | cons a b ih => intro hh; exact .cons (hh _ _ a) (ih hh)
def rSrtK (K : PySem.W.Frag) (f : Addr) (kd : PyData → PyData → Prop) : List V → List V → Hp → VK → Prop := fun vs zs H Q => ∃ (a : Addr) (ps : List KItem), vs = [.ref a] ∧ zs = [.ref f] ∧ SqL K H a (ps.map (·.v)) ∧
  (∀ p ∈ ps, Dp K H p.v p.x ∧ noL p.x = true ∧ kd p.x p.key ∧ p.key.depth ≤ 60) ∧ PySem.W.AllAlike (ps.map (·.key)) ∧ PySem.W.Sortable (ps.map (·.key)) ∧
  ∀ q, H q = none → Q (.ref q) (upd H q (.lst ((ps.mergeSort (PySem.W.dataLe false (fun p : KItem => p.key))).map (·.v))))
theorem cr_srtK {X : Cx} {k : Nat} {f : Addr} {kd : PyData → PyData → Prop} (T : KeyT X.prog X.w X.K X.mg X.base k f kd) (hr : Room (k + 2) X.A) : CallRK X (.builtin "sorted") [Str.ofString "key"] (rSrtK X.K f kd) := by
  intro pins s σ H vs zs us ws Q I r rz h
  obtain ⟨a, ps, rfl, rfl, hs, hd, hal, hk, q⟩ := h
  obtain ⟨its, rv, hl, hz⟩ := I.list hs
  rw [Vals.ref1 r]
  obtain ⟨w1, rfl, e1⟩ := vals1 rz
  obtain rfl : w1 = Value.ref f := e1
  have hun : X.A.units + 66 < cLine := by have := hr.un; omega
  have e : PySem.W.EachIs (fun v (p : KItem) => RelV p.v v ∧ Reads s.heap v p.x [] ∧ kd p.x p.key) its ps := by
    have key : ∀ {us : List Value} {qs : List KItem}, PySem.W.EachIs (fun u (p : KItem) => RelV p.v u) us qs → (∀ p ∈ qs, Dp X.K H p.v p.x ∧ noL p.x = true ∧ kd p.x p.key ∧ p.key.depth ≤ 60) → PySem.W.EachIs (fun v (p : KItem) => RelV p.v v ∧ Reads s.heap v p.x [] ∧ kd p.x p.key) us qs := by
      intro us qs e'
      induction e' with
      | nil => intro _; exact .nil
      | cons a b ih =>
        intro hh
        rename_i b0 _ _
        have h0 := hh b0 (by simp)
        obtain ⟨as, r0⟩ := Dp.reads I _ _ _ h0.1 a
        have := reads_nil _ _ _ r0 h0.2.1
        subst this
        exact .cons ⟨a, r0, h0.2.2.1⟩ (ih fun p hp => hh p (by simp [hp]))
    exact key (items_each rv) hd
  refine PySem.W.sorted_key_data (b := false) (kw := [(Str.ofString "key", Value.ref f)]) (fun p : KItem => p.key) hl.isList e hal hk (by simpa using hz) (fun p hp => by have := (hd p hp).2.2.2; omega) (PyProof.Rows.ksk_s1 _ _) (fun _ => PyProof.Rows.ksk_l1 _ _) (fun _ => PyProof.Rows.ksk_t1 _ _)
    (fun v p ⟨_, hrd, hkd⟩ _ h tk kp => T X.A.in1.in1 X.stack _ v p.x p.key _ I.mod hr.in1.in1 (Kp.trans (show Kp X.base s.heap from I.bk) kp) (PyProof.Rows.Reads.keeps kp hrd) hkd) fun out c h' tk kp hfr hD hlen eo => ?_
  have hv := each_items eo fun _ _ z => z.1
  have hlen2 : ((ps.mergeSort (PySem.W.dataLe false (fun p : KItem => p.key))).map (·.v)).length ≤ sizeLine := by
    rw [List.length_map, List.length_mergeSort]
    simpa using hz
  exact ⟨.ref _, upd H (s.heap.objs.size + 1) (.lst ((ps.mergeSort (PySem.W.dataLe false (fun p : KItem => p.key))).map (·.v))), I.laid (t' := tk) kp (Nat.le_succ _) ⟨hlen2, out, c, hv, hD⟩, rfl, q _ (I.hok.fresh (Nat.le_succ _))⟩

/-- the key by the item -/
noncomputable def keyOf (kf : PyData → Option PyData) (x : D) : PyData := (kf (toPy x)).getD .none
def SrtKOk (kf : PyData → Option PyData) (xs : List D) : Prop :=
  (∀ x ∈ xs, (toPy x).plain = true ∧ noL (toPy x) = true ∧ (kf (toPy x)).isSome = true ∧ (keyOf kf x).depth ≤ 60) ∧ PySem.W.AllAlike (xs.map (keyOf kf)) ∧ PySem.W.Sortable (xs.map (keyOf kf))
noncomputable def srtK (kf : PyData → Option PyData) (xs : List D) : List D := xs.mergeSort (PySem.W.dataLe false (keyOf kf))
noncomputable def sSortedK (kf : PyData → Option PyData) (g : VE) : SE := fun env => match g env with
  | .ok m => match brw m with
    | some (false, xs) => if SrtKOk kf xs then .ok (.lst ((srtK kf xs).map .d), env) else .bad
    | _ => .bad
  | _ => .bad
structure KeyA (P : Program) (w : World) (G : Gx) (mg : Str → Option Value) (base : Heap) (k : Nat) (nm : Str) (kf : PyData → Option PyData) : Prop where
  ex : ∃ f : Addr, KeyT P w G.K mg base k f (fun x y => kf x = some y) ∧ mg nm = some (.ref f)
/-- what the rule gives, told in data -/
theorem srtK_data {G : Gx} {Z H : Hp} {a f : Addr} {kf : PyData → Option PyData} {xs : List D} {us : List V} {Q : VK} (zh : Same Z H) (hs : SqL G.K H a us) (rr : RepDs G Z xs us) (ok : SrtKOk kf xs) (q : ∀ p ws, H p = none → RepDs G Z (srtK kf xs) ws → Q (.ref p) (upd H p (.lst ws))) :
    rSrtK G.K f (fun x y => kf x = some y) [.ref a] [.ref f] H Q := by
  have hl := rr.len
  have e1 := zip_fst hl
  have e2 := zip_snd hl
  have hr := repDs_zip rr
  let mk : D × V → KItem := fun p => ⟨toPy p.1, keyOf kf p.1, p.2⟩
  let ps : List KItem := (List.zip xs us).map mk
  have p1 : ps.map (·.key) = xs.map (keyOf kf) := by
    show ((List.zip xs us).map mk).map (·.key) = _
    have h := congrArg (List.map (keyOf kf)) e1
    rw [List.map_map] at h ⊢
    exact h
  have p2 : ps.map (·.v) = us := by
    show ((List.zip xs us).map mk).map (·.v) = _
    rw [List.map_map]
    exact e2
  refine ⟨a, ps, rfl, rfl, by rw [p2]; exact hs, fun p hp => ?_, by rw [p1]; exact ok.2.1, by rw [p1]; exact ok.2.2, fun b hb => ?_⟩
  · obtain ⟨w, hw, rfl⟩ := List.mem_map.mp hp
    have hx : w.1 ∈ xs := by rw [← e1]; exact List.mem_map_of_mem hw
    have h0 := ok.1 _ hx
    refine ⟨RepD.dp zh _ _ h0.1 (hr w hw), h0.2.1, ?_, h0.2.2.2⟩
    obtain ⟨y, hy⟩ := Option.isSome_iff_exists.mp h0.2.2.1
    show kf (toPy w.1) = some (keyOf kf w.1)
    unfold keyOf
    rw [hy]; rfl
  · have m1 : ps.mergeSort (PySem.W.dataLe false (fun p : KItem => p.key)) = ((List.zip xs us).mergeSort (PySem.W.dataLe false fun p : D × V => keyOf kf p.1)).map mk := by
      show ((List.zip xs us).map mk).mergeSort _ = _
      rw [List.map_mergeSort]
      intro a _ b _
      rfl
    have m2 : srtK kf xs = ((List.zip xs us).mergeSort (PySem.W.dataLe false fun p : D × V => keyOf kf p.1)).map (·.1) := by
      have h : srtK kf xs = srtK kf ((List.zip xs us).map (·.1)) := by rw [e1]
      rw [h]
      unfold srtK
      rw [List.map_mergeSort]
      intro a _ b _
      rfl
    rw [m1, List.map_map]
    have hq : ∀ p ∈ (List.zip xs us).mergeSort (PySem.W.dataLe false fun p : D × V => keyOf kf p.1), RepD G Z p.1 p.2 := fun p hp => hr p ((List.mergeSort_perm _ _).mem_iff.mp hp)
    have := repDs_of hq
    rw [← m2] at this
    exact q b _ hb this
section
variable {G : Gx} {X : Cx} {W : WX'} {e : Expr} {g : VE} {p p2 kp pos : Pos} {k k' : Nat} {nm : Str} {kf : PyData → Option PyData}
theorem xe_sortedK (T : KeyA X.prog X.w G X.mg X.base k nm kf) (hr : Room k' X.A) (hk : k + 2 ≤ k') (hK : G.K = X.K) (hm : X.mg "sorted" = none) (ha : PVs G X e g) (hgk : Gl X nm := by rfl) (hdk : (nm == ("__debug__" : Str)) = false := by decide) (hv : bootBuiltins "sorted" = some (.builtin "sorted") := by decide +kernel) (hg : Gl X "sorted" := by rfl) (hst : starEach [e] X.env = (false, eval e X.env) :: starEach [] X.env := by rfl) (hpl : (backTo pos (starEach [e] X.env)).any (·.1) = false := by rfl)
    (hall : (backToKw pos (keywordEach [⟨some "key", .Name nm p2, kp⟩] X.env)).all (·.1.isSome) = true := by rfl) (hnone : (backToKw pos (keywordEach [⟨some "key", .Name nm p2, kp⟩] X.env)).any (·.1.isNone) = false := by rfl) (hks : (backToKw pos (keywordEach [⟨some "key", .Name nm p2, kp⟩] X.env)).filterMap (·.1) = [Str.ofString "key"] := by rfl) :
    PEs G X W (.Call (.Name "sorted" p) [e] [⟨some "key", .Name nm p2, kp⟩] pos) (sSortedK kf g) := by
  obtain ⟨t, q, h⟩ := ha.ex
  obtain ⟨f, T, hf⟩ := T.ex
  rw [hK] at T
  refine ⟨_, pe_callBK (cr_srtK T (hr.mono hk)) hg hm hv (pa_cons q pa_nil hst) (pk_cons (pe_glob (v := .ref f) hgk hf rfl hdk) pk_nil) (by decide) (by decide) (by rw [hst]; rfl) hpl hall hnone hks, SEok.mk' fun Z H σ env S Q gd k => ?_⟩
  unfold sSortedK at k
  have h1 := h Z H σ env S (fun x H1 => rSrtK X.K f (fun x y => kf x = some y) [x] [.ref f] H1 Q) gd
  cases e1 : g env with
  | bad => rw [e1] at k; exact k.elim
  | exc x e' => rw [e1] at k; exact k.elim
  | ok m =>
    rw [e1] at k h1
    simp only at k h1
    cases e3 : brw m with
    | none => rw [e3] at k; exact k.elim
    | some q1 =>
      obtain ⟨b1, xs⟩ := q1
      rw [e3] at k
      cases b1 with
      | true => exact k.elim
      | false =>
        simp only at k
        by_cases ok : SrtKOk kf xs
        case neg => rw [if_neg ok] at k; exact k.elim
        rw [if_pos ok] at k
        refine h1 fun v T _ r => ?_
        obtain ⟨a, us, rfl, rr, sq⟩ := brw_rep gd.zh r e3
        obtain ⟨_, s2⟩ := sq Z H (Same.refl _) gd.zh fun _ _ _ z => z
        rw [← hK]
        refine srtK_data gd.zh (s2 rfl) rr ok fun b ws hb rw' => ?_
        have pS : ¬ U S b := fun z => gd.al' b z hb
        exact k (.ref b) _ _ S (fun a => a = b) (Stp.new (o := .lst ws) gd.zh hb (U S)) (gd.move (Stp.new (o := .lst ws) gd.zh hb (fun _ => False)) fun _ _ z => z).1 (lst_newD gd.zh rw' hb pS)
end
/-- None, numbers, tuples: the key of a rank -/
def rankK : PyData → Option PyData
  | .none => some (.tuple [.int 0, .int 0, .tuple []])
  | .int i => some (.tuple [.int 1, .int i, .tuple []])
  | .tuple xs => some (.tuple [.int 2, .int 0, .tuple xs])
  | _ => none
end FL

set_option maxHeartbeats 2000000
/-! FLWC: list(reversed(xs)). -/
namespace FL
open PySem L2 Classical PySem.Spec PyProof.Rows RT
section
variable {prog : Program} {w : World} {A : Around} {E : Value → Shared → Prop} {s : Shared}
theorem ext_rev {it l S : Addr} {its : Array Value} {c : Nat} {R : Result → Shared → Prop} (hh : A.handled = none) (hi : s.heap.IsRevIter it l ((its.size : Int) - 1)) (hl : s.heap.IsList l its) (ne : l ≠ it) (sz : its.size ≤ sizeLine) (nS : S ∉ [it, l])
    (oS : s.heap.get? S = some { cls := .type "list", data := .seq #[] c })
    (k : ∀ s2 acc c2, Moved [S, it] (fun a b => b = a) s s2 → s2.heap.get? S = some { cls := .type "list", dict := none, data := .seq acc c2, slots := #[] } → ItemsOf (fun i v => its[its.size - 1 - i]? = some v) acc its.size → R (.ok (.ret .none)) s2) :
    wpAny (model prog w) A.in1 (Builtin.List.listExtendWith (.ref S) (.ref it) .none)
      (fun fin s' => match fin with | .done f => R (.ok f) s' | .again c' => c'.quiet = true ∧ codeAny (model prog w) A c' R s') (fun e s' => R (.error e) s') s := by
  have W := (Walks.listRev (prog := prog) (w := w) (A := A.in1) hh it l ne its).toS
  have nSi : S ≠ it := fun z => nS (by simp [z])
  have ty : s.TypeIs (.ref it) "list_reverseiterator" := hi.typeIs
  unfold Builtin.List.listExtendWith
  refine wpAny_bind (wpAny_typeOf ty ?_)
  have h1 : Builtin.List.listSameRef (.ref S) (.ref it) = false := by simp [Builtin.List.listSameRef, nSi]
  rw [if_neg (by rw [h1]; decide)]
  refine wpAny_bind (wpAny_pyIter_revIter hi ?_)
  refine wpAny_bind (wpAny_holding ?_)
  unfold Builtin.List.listLengthHint
  refine wpAny_bind (wpAny_specialOf ty nolen_lri ?_)
  show wpAny _ A.in1 (specialOf (Value.ref it) (Str.ofString "__length_hint__") >>= _) _ _ _
  refine wpAny_bind (wpAny_specialOf ty hint_lri ?_)
  generalize hid : ("list_reverseiterator.__length_hint__" : String) = id0
  wp_delta
  rw [show splitId id0 = some ("list_reverseiterator", "__length_hint__") from by subst hid; decide +kernel]
  subst hid
  refine wpAny_bind (wpAny_isInstance (b := true) ty (by rw [isSubtype_type]; kernel_rfl) ?_)
  refine wpAny_pure ?_
  rw [if_neg (by decide)]
  have e0 : ((its.size : Nat) : Int) - 1 - ((0 : Nat) : Int) = (its.size : Int) - 1 := by omega
  exact wpAny_pure ⟨plainId_quiet F.plain_extend_loop _, codeAny_extend_loopS W sz _ nS _ its.size 0 _ _ _ rfl (Nat.zero_le _) ⟨Nat.zero_le _, by rw [e0]; exact hi, hl⟩ oS (ItemsOf.nil _) fun s2 acc c2 hm hS' hacc => k s2 acc c2 hm hS' hacc⟩
theorem init_rev {it l S : Addr} {its : Array Value} {R : Result → Shared → Prop} (hh : A.handled = none) (hi : s.heap.IsRevIter it l ((its.size : Int) - 1)) (hl : s.heap.IsList l its) (ne : l ≠ it) (sz : its.size ≤ sizeLine) (nS : S ∉ [it, l])
    (oS : s.heap.get? S = some { cls := .type "list", data := .seq #[] })
    (k : ∀ h' tk acc c2, (∀ b o, b ≠ it → b ≠ S → s.heap.get? b = some o → h'.get? b = some o) → h'.get? S = some { cls := .type "list", dict := none, data := .seq acc c2, slots := #[] } → ItemsOf (fun i v => its[its.size - 1 - i]? = some v) acc its.size → R (.ok (.ret .none)) { s with heap := h', toks := tk }) :
    wpAny (model prog w) A.in1 (Builtin.«list.__init__» ⟨[.ref S, .ref it], []⟩)
      (fun fin s' => match fin with | .done f => R (.ok f) s' | .again c' => c'.quiet = true ∧ codeAny (model prog w) A c' R s') (fun e s' => R (.error e) s') s := by
  show wpAny _ A.in1 (Builtin.List.listItems (.ref S) >>= fun old => Builtin.List.listUpdate (.ref S) (fun _ => #[]) >>= fun _ => letGo old.toList.reverse >>= fun _ => Builtin.List.listExtendWith (.ref S) (.ref it) .none) _ _ s
  refine wpAny_bind ?_
  unfold Builtin.List.listItems
  refine wpAny_bind (wpAny_seqItems oS rfl (wpAny_pure ?_))
  show wpAny _ A.in1 (updateSeq S (fun _ => #[]) >>= fun _ => letGo (#[] : Array Value).toList.reverse >>= fun _ => Builtin.List.listExtendWith (.ref S) (.ref it) .none) _ _ s
  refine wpAny_bind (wpAny_updateSeq oS rfl ?_)
  have o2 := Heap.get?_update_self (Obj.mapSeq (fun _ => (#[] : Array Value))) oS rfl
  have nSi : S ≠ it := fun z => nS (by simp [z])
  have nSl : S ≠ l := fun z => nS (by simp [z])
  have oth : ∀ b o, b ≠ S → s.heap.get? b = some o → (s.heap.update S (Obj.mapSeq (fun _ => (#[] : Array Value)))).get? b = some o := fun b o hb e => by
    rw [← e]; exact Heap.get?_update_other _ _ (Ne.symm hb)
  refine wpAny_bind (wpAny_letGo ?_)
  have hl2 : (s.heap.update S (Obj.mapSeq (fun _ => (#[] : Array Value)))).IsList l its := hl.at fun o e => oth l o (Ne.symm nSl) e
  refine ext_rev (s := { s with heap := s.heap.update S (Obj.mapSeq (fun _ => (#[] : Array Value))) }) hh (hi.at fun o e => oth it o (Ne.symm nSi) e) hl2 ne sz nS o2 fun s2 acc c2 hm hS ha => ?_
  rw [Moved.eq_with hm]
  refine k _ _ acc c2 (fun b o h1 h2 e => hm.heap b o (by simp [h1, h2]) (oth b o h2 e)) hS ha
theorem call_list_rev {it l : Addr} {its : Array Value} {Q : Value → Shared → Prop} (hh : A.handled = none) (hi : s.heap.IsRevIter it l ((its.size : Int) - 1)) (hl : s.heap.IsList l its) (ne : l ≠ it) (sz : its.size ≤ sizeLine)
    (k : ∀ h' tk acc c2, (∀ b o, b ≠ it → s.heap.get? b = some o → h'.get? b = some o) → h'.get? s.heap.objs.size = some { cls := .type "list", dict := none, data := .seq acc c2, slots := #[] } → ItemsOf (fun i v => its[its.size - 1 - i]? = some v) acc its.size → Q (.ref s.heap.objs.size) { s with heap := h', toks := tk }) :
    wpAny (model prog w) A (call (.type "list") [.ref it]) Q E s := by
  obtain ⟨oi, hoi, _⟩ := id hi
  obtain ⟨ol, hol, _⟩ := id hl
  have n1 : s.heap.objs.size ≠ it := Nat.ne_of_gt (Heap.lt_size hoi)
  have n2 : s.heap.objs.size ≠ l := Nat.ne_of_gt (Heap.lt_size hol)
  refine callType_codes (Q₁ := fun obj s₁ => obj = .ref s.heap.objs.size ∧ s₁ = { s with heap := s.heap.push { cls := .type "list", data := .seq #[] } }) F.called_list (F.typeCall_list_1 _) F.entry_list_init (code_list_new _ ⟨rfl, rfl⟩) fun obj s₁ h₁ => ?_
  obtain ⟨rfl, rfl⟩ := h₁
  have oS : (s.heap.push { cls := .type "list", data := .seq #[] }).get? s.heap.objs.size = some { cls := .type "list", data := .seq #[] } := Heap.get?_push_size _ rfl
  refine ⟨⟨_, oS, rfl⟩, F.args_list_init_2 _ _, ?_⟩
  refine init_rev (A := A.in1) (s := { s with heap := s.heap.push { cls := .type "list", data := .seq #[] } }) hh (hi.at fun o e => Heap.get?_push_of_some _ e) (hl.push _) ne sz (by simp [n1, n2]) oS fun h' tk acc c2 kp hS ha => ⟨rfl, ?_⟩
  exact k h' tk acc c2 (fun b o hb e => kp b o hb (Nat.ne_of_lt (Heap.lt_size e)) (Heap.get?_push_of_some _ e)) hS ha
end
/-- list(reversed(x)), x a list -/
def tLstRev (K : PySem.W.Frag) (te : TE) : TE := fun σ H Q => te σ H fun v H1 => ∃ (a : Addr) (xs : List V), v = .ref a ∧ SqL K H1 a xs ∧ ∀ q, H1 q = none → Q (.ref q) (upd H1 q (.lst xs.reverse))
section
variable {X : Cx} {e : Expr} {te : TE} {p p2 pos pos2 : Pos}
theorem pe_lstRev (hc : X.calm = true) (hg : Gl X "list") (hm : X.mg "list" = none) (hv : bootBuiltins "list" = some (.type "list")) (hg2 : Gl X "reversed") (hm2 : X.mg "reversed" = none) (he : PE X e te)
    (hs : starEach [e] X.env = (false, eval e X.env) :: starEach [] X.env) (hs2 : starEach [.Call (.Name "reversed" p2) [e] [] pos2] X.env = (false, eval (.Call (.Name "reversed" p2) [e] [] pos2) X.env) :: starEach [] X.env) :
    PE X (.Call (.Name "list" p) [.Call (.Name "reversed" p2) [e] [] pos2] [] pos) (tLstRev X.K te) := by
  refine ⟨fun pins s σ H Q I h => ?_⟩
  refine Call_ (ld_blt I hg hm hv (PyProof.Rows.callWith_type1 (args_cons (Call_ (ld_blt I hg2 hm2 PyProof.Rows.boot_reversed (PyProof.Rows.callWith_type1 (args_cons (thn (he.run pins s σ H _ I h) fun u s1 ⟨v, H1, I1, r1, q1⟩ => args_nil ?_) hs) hs rfl))) hs2) hs2 rfl))
  obtain ⟨a, xs, ev, hq, q⟩ := q1
  subst ev
  obtain rfl : u = Value.ref a := r1
  obtain ⟨its, rv, pl, hz⟩ := I1.list hq
  refine call_reversed_list pl.isList (args_nil ?_)
  obtain ⟨ol, hol, _⟩ := id pl.isList
  have ne : a ≠ s1.heap.objs.size := Nat.ne_of_lt (Heap.lt_size hol)
  have sz : its.toArray.size ≤ sizeLine := by rw [List.size_toArray, ← rv.length]; exact hz
  refine call_list_rev (s := { s1 with heap := s1.heap.push (revObj a ((its.toArray.size : Int) - 1)) }) (I1.ok.hd hc) ⟨_, Heap.get?_push_size _ rfl, rfl, rfl⟩ (pl.isList.push _) ne sz fun h' tk acc c2 kp hS ha => ?_
  have e0 : (s1.heap.push (revObj a ((its.toArray.size : Int) - 1))).objs.size = s1.heap.objs.size + 1 := size_push' _ _
  have hn : H1 (s1.heap.push (revObj a ((its.toArray.size : Int) - 1))).objs.size = none := I1.hok.fresh (by rw [e0]; exact Nat.le_succ _)
  refine ⟨.ref _, upd H1 (s1.heap.push (revObj a ((its.toArray.size : Int) - 1))).objs.size (.lst xs.reverse), I1.laid (t' := tk) (fun b o e => kp b o (Nat.ne_of_lt (Heap.lt_size e)) (Heap.get?_push_of_some _ e)) (by rw [e0]; exact Nat.le_succ _) (show ObjOk X.prog X.w _ _ _ (.lst xs.reverse) from ⟨by rw [List.length_reverse]; exact hz, acc.toList, c2, vals_rev rv ha, ?_⟩), rfl, q _ hn⟩
  rw [Array.toArray_toList]
  exact hS
end
theorem RepDs.rev {G : Gx} {Z : Hp} : ∀ {xs : List D} {vs : List V}, RepDs G Z xs vs → RepDs G Z xs.reverse vs.reverse
  | [], _, r => by simp only [RepDs] at r; subst r; simp [RepDs]
  | x :: xs, _, r => by
    simp only [RepDs] at r
    obtain ⟨v, r', rfl, q, r⟩ := r
    rw [List.reverse_cons, List.reverse_cons]
    exact RepDs.app (RepDs.rev r) (by simp only [RepDs]; exact ⟨v, [], rfl, q, rfl⟩)
def sLstRev (g : VE) : SE := fun env => match g env with
  | .ok m => match brw m with
    | some (false, xs) => .ok (.lst (xs.reverse.map .d), env)
    | _ => .bad
  | _ => .bad
section
variable {G : Gx} {X : Cx} {W : WX'} {e : Expr} {g : VE} {p p2 pos pos2 : Pos}
theorem xe_lstRev (hc : X.calm = true) (hK : G.K = X.K) (hm : X.mg "list" = none) (hm2 : X.mg "reversed" = none) (ha : PVs G X e g) (hv : bootBuiltins "list" = some (.type "list") := by decide +kernel) (hg : Gl X "list" := by rfl) (hg2 : Gl X "reversed" := by rfl)
    (hs : starEach [e] X.env = (false, eval e X.env) :: starEach [] X.env := by rfl) (hs2 : starEach [.Call (.Name "reversed" p2) [e] [] pos2] X.env = (false, eval (.Call (.Name "reversed" p2) [e] [] pos2) X.env) :: starEach [] X.env := by rfl) :
    PEs G X W (.Call (.Name "list" p) [.Call (.Name "reversed" p2) [e] [] pos2] [] pos) (sLstRev g) := by
  obtain ⟨t, q, h⟩ := ha.ex
  refine ⟨_, pe_lstRev hc hg hm hv hg2 hm2 q hs hs2, SEok.mk' fun Z H σ env S Q gd k => ?_⟩
  unfold sLstRev at k
  have h1 := h Z H σ env S (fun v H1 => ∃ (a : Addr) (xs : List V), v = .ref a ∧ SqL X.K H1 a xs ∧ ∀ q, H1 q = none → Q (.ref q) (upd H1 q (.lst xs.reverse))) gd
  cases e1 : g env with
  | bad => rw [e1] at k; exact k.elim
  | exc x e' => rw [e1] at k; exact k.elim
  | ok m =>
    rw [e1] at k h1
    simp only at k h1
    cases e3 : brw m with
    | none => rw [e3] at k; exact k.elim
    | some q1 =>
      obtain ⟨b1, xs⟩ := q1
      rw [e3] at k
      cases b1 with
      | true => exact k.elim
      | false =>
        refine h1 fun v T _ r => ?_
        obtain ⟨a, us, rfl, rr, sq⟩ := brw_rep gd.zh r e3
        obtain ⟨_, s2⟩ := sq Z H (Same.refl _) gd.zh fun _ _ _ z => z
        refine ⟨a, us, rfl, by rw [← hK]; exact s2 rfl, fun b hb => ?_⟩
        have pS : ¬ U S b := fun z => gd.al' b z hb
        exact k (.ref b) _ _ S (fun a => a = b) (Stp.new (o := .lst us.reverse) gd.zh hb (U S)) (gd.move (Stp.new (o := .lst us.reverse) gd.zh hb (fun _ => False)) fun _ _ z => z).1 (lst_newD gd.zh rr.rev hb pS)
end
end FL

set_option maxHeartbeats 2000000
/-! FLDA: a dict whose keys are None, numbers, texts and tuples of these, all mixed, read at the concrete heap. -/
namespace FL
open PySem
section
variable {prog : Program} {w : World} {A : Around} {E : Value → Shared → Prop} {s : Shared}
/-- entry e has the key x -/
abbrev EntK (w : World) (h : Heap) (x : NestedKey) (e : DictEntry) : Prop := e.hash = x.hash w ∧ NestedIs h x e.key ∧ x.depth ≤ 8
theorem eq_mix {x k : NestedKey} {u v : Value} {Q : Bool → Shared → Prop} (hu : A.units + 8 < cLine) (hx : NestedIs s.heap x u) (dx : x.depth ≤ 8) (hk : NestedIs s.heap k v) (q : Q (decide (x = k)) s) : wpAny (model prog w) A (eqBool u v) Q E s :=
  eqAt_key x k A s u v hx hk (by omega) prog w E Q (by rw [← NestedKey.decide_eq]; exact q)
theorem places_nodup (n : Nat) (f : Nat → Option Int) (h : Int) : (placesWithHash n f h).Nodup := by
  unfold placesWithHash
  exact List.Nodup.sublist List.filter_sublist List.nodup_range
theorem mem_places {n : Nat} {f : Nat → Option Int} {h : Int} {i : Nat} : i ∈ placesWithHash n f h ↔ i < n ∧ (f i == some h) = true := by
  unfold placesWithHash
  rw [List.mem_filter, List.mem_range]
theorem get_unique {xs : List NestedKey} (hn : xs.Nodup) {i j : Nat} {k : NestedKey} (hi : xs[i]? = some k) (hj : xs[j]? = some k) : i = j :=
  (List.getElem?_inj (List.getElem?_eq_some_iff.mp hi).1 hn).mp (hi.trans hj.symm)
theorem may_tell {k : NestedKey} {v : Value} {stored : List Value} {Q : Bool → Shared → Prop} (hk : NestedIs s.heap k v) (dk : k.depth ≤ 8)
    (hst : ∀ u ∈ stored, ∃ x, NestedIs s.heap x u ∧ x.depth ≤ 8) (q : Q false s) : wpAny (model prog w) A (tableMayTell v stored) Q E s := by
  unfold tableMayTell
  split
  · exact wpAny_pure q
  refine wpAny_bind (quiet_key k v 8 s hk dk A E _ ?_)
  simp only [Bool.not_true, Bool.false_eq_true, if_false]
  refine wpAny_bind (wpAny_forIn_list _ (fun rest r s2 => s2 = s ∧ r = (none, ()) ∧ ∀ u ∈ rest, ∃ x, NestedIs s.heap x u ∧ x.depth ≤ 8) _ ?_ ?_ _ _ ⟨rfl, rfl, hst⟩)
  · rintro u rest r s2 ⟨rfl, rfl, hr⟩
    obtain ⟨x, hx, dx⟩ := hr u (by simp)
    refine wpAny_bind (quiet_key x u 8 _ hx dx A E _ ?_)
    simp only [Bool.not_true, Bool.false_eq_true, if_false]
    exact wpAny_pure ⟨rfl, rfl, fun u hu => hr u (by simp [hu])⟩
  · rintro r s2 ⟨rfl, rfl, _⟩
    exact wpAny_pure q
theorem walk_plain {d : Addr} {v : Value} {o : Obj} {es : Array DictEntry} {ep : Nat} {xs : List NestedKey} {k : NestedKey} {Q : Option Nat → Shared → Prop} (hu : A.units + 8 < cLine) (hk : NestedIs s.heap k v) (ho : s.heap.get? d = some o) (hd : o.data = .dict es ep)
    (hl : xs.length = es.size) (hx : ∀ (i : Nat) (x : NestedKey) (e : DictEntry), xs[i]? = some x → es[i]? = some e → EntK w s.heap x e) (hn : xs.Nodup) (hnone : k ∉ xs → Q none s) (hsome : ∀ j : Nat, xs[j]? = some k → Q (some j) s) :
    wpAny (model prog w) A (dictWalkPlain d v (k.hash w) es (placesWithHash es.size (fun i => es[i]?.map (·.hash)) (k.hash w))) Q E s := by
  unfold dictWalkPlain
  refine wpAny_bind (wpAny_forIn_list _ (fun rest r s2 => s2 = s ∧ r = (none, ()) ∧ (∀ i ∈ rest, i < es.size ∧ ((es[i]?.map (·.hash)) == some (k.hash w)) = true) ∧ (k ∉ xs ∨ ∃ j, xs[j]? = some k ∧ j ∈ rest)) _ ?_ ?_ _ _ ⟨rfl, rfl, fun i hi => mem_places.mp hi, ?_⟩)
  · rintro i rest r s2 ⟨rfl, rfl, hr, hh⟩
    obtain ⟨hi, hhi⟩ := hr i (by simp)
    have he : es[i]? = some es[i] := Array.getElem?_eq_getElem hi
    obtain ⟨x, hxi⟩ : ∃ x, xs[i]? = some x := ⟨_, List.getElem?_eq_getElem (by omega)⟩
    obtain ⟨e1, e2, e3⟩ := hx i x _ hxi he
    rw [he] at hhi ⊢
    simp only [Option.map_some, beq_iff_eq, Option.some.injEq] at hhi
    dsimp only
    rw [if_pos (by rw [hhi]; simp)]
    refine wpAny_bind (wpAny_dictEpoch ho hd (wpAny_bind (eq_mix (x := x) (k := k) hu e2 e3 hk (wpAny_bind (wpAny_dictEpoch ho hd ?_)))))
    show wpAny _ _ (if (ep != ep) = true then _ else _) _ E _
    rw [if_neg (by simp)]
    by_cases q : x = k
    · subst q
      simp only [decide_true, if_true]
      exact wpAny_bind (wpAny_rule (wpAny_pure (wpAny_pure (hsome i hxi))))
    · simp only [q, decide_false, Bool.false_eq_true, if_false]
      refine wpAny_bind (wpAny_rule (wpAny_pure ⟨rfl, rfl, fun j hj => hr j (by simp [hj]), ?_⟩))
      rcases hh with h | ⟨j, hj, hm⟩
      · exact .inl h
      · refine .inr ⟨j, hj, ?_⟩
        rcases List.mem_cons.mp hm with e | e
        · subst e; rw [hj] at hxi; cases hxi; exact absurd rfl q
        · exact e
  · rintro r s2 ⟨rfl, rfl, _, hh⟩
    rcases hh with h | ⟨j, hj, hm⟩
    · exact wpAny_pure (hnone h)
    · exact absurd hm (by simp)
  · by_cases q : k ∈ xs
    · obtain ⟨j, hj⟩ := List.mem_iff_getElem?.mp q
      refine .inr ⟨j, hj, mem_places.mpr ?_⟩
      have hlt : j < es.size := by rw [← hl]; exact (List.getElem?_eq_some_iff.mp hj).1
      have he : es[j]? = some es[j] := Array.getElem?_eq_getElem hlt
      refine ⟨hlt, ?_⟩
      rw [he]
      have := (hx j k _ hj he).1
      simp [this]
    · exact .inl q
theorem find_mix {d : Addr} {v : Value} {o : Obj} {es : Array DictEntry} {ep : Nat} {xs : List NestedKey} {k : NestedKey} {Q : Option Nat → Shared → Prop} (hu : A.units + 8 < cLine) (hk : NestedIs s.heap k v) (dk : k.depth ≤ 8) (ho : s.heap.get? d = some o) (hd : o.data = .dict es ep)
    (hl : xs.length = es.size) (hx : ∀ (i : Nat) (x : NestedKey) (e : DictEntry), xs[i]? = some x → es[i]? = some e → EntK w s.heap x e) (hn : xs.Nodup) (hnone : k ∉ xs → Q none s) (hsome : ∀ j : Nat, xs[j]? = some k → Q (some j) s) :
    wpAny (model prog w) A (dictFind d v (k.hash w)) Q E s := by
  have entOf : ∀ e ∈ es, ∃ i x, xs[i]? = some x ∧ es[i]? = some e := fun e he => by
    obtain ⟨i, hi⟩ := Array.mem_iff_getElem?.mp he
    have hlt : i < es.size := (Array.getElem?_eq_some_iff.mp hi).1
    exact ⟨i, _, List.getElem?_eq_getElem (by omega), hi⟩
  obtain ⟨pl, hpl⟩ : ∃ pl, pl = placesWithHash es.size (fun i => es[i]?.map (·.hash)) (k.hash w) := ⟨_, rfl⟩
  have hst : ∀ u ∈ pl.filterMap (fun i => es[i]?.map (·.key)), ∃ x, NestedIs s.heap x u ∧ x.depth ≤ 8 := by
    intro u hu
    obtain ⟨i, _, hi⟩ := List.mem_filterMap.mp hu
    cases hei : es[i]? with
    | none => rw [hei] at hi; cases hi
    | some e =>
      rw [hei] at hi
      obtain rfl : e.key = u := by simpa using hi
      have hlt : i < es.size := (Array.getElem?_eq_some_iff.mp hei).1
      obtain ⟨e1, e2, e3⟩ := hx i _ e (List.getElem?_eq_getElem (by omega)) hei
      exact ⟨_, e2, e3⟩
  have hpm : ∀ i ∈ pl, i < es.size ∧ ((es[i]?.map (·.hash)) == some (k.hash w)) = true := fun i hi => by rw [hpl] at hi; exact mem_places.mp hi
  have hpn : pl.Nodup := by rw [hpl]; exact places_nodup _ _ _
  have hpk : k ∉ xs ∨ ∃ j, xs[j]? = some k ∧ j ∈ pl := by
    by_cases q : k ∈ xs
    · obtain ⟨j, hj⟩ := List.mem_iff_getElem?.mp q
      refine .inr ⟨j, hj, ?_⟩
      rw [hpl]
      refine mem_places.mpr ?_
      have hlt : j < es.size := by rw [← hl]; exact (List.getElem?_eq_some_iff.mp hj).1
      have he : es[j]? = some es[j] := Array.getElem?_eq_getElem hlt
      refine ⟨hlt, ?_⟩
      rw [he]
      have := (hx j k _ hj he).1
      simp [this]
    · exact .inl q
  have plain := walk_plain (prog := prog) (A := A) (E := E) (d := d) hu hk ho hd hl hx hn hnone hsome
  rw [← hpl] at plain
  have hk0 := hk
  have turn : ∀ (stored : List Value) (i : Nat) (rest : List Nat) (hit : Option Nat), i < es.size → ((es[i]?.map (·.hash)) == some (k.hash w)) = true → (i :: rest).Nodup → (∀ j ∈ rest, j < es.size ∧ ((es[j]?.map (·.hash)) == some (k.hash w)) = true) →
      ((k ∉ xs ∧ hit = none) ∨ ∃ j, xs[j]? = some k ∧ ((hit = none ∧ j ∈ i :: rest) ∨ (hit = some j ∧ j ∉ i :: rest))) →
      ∃ x, xs[i]? = some x ∧ ∃ e, es[i]? = some e ∧ (e.hash == k.hash w) = true ∧ NestedIs s.heap x e.key ∧ x.depth ≤ 8 ∧
        (x = k → hit = none ∧ ((k ∉ xs ∧ some i = none) ∨ ∃ j, xs[j]? = some k ∧ ((some i = none ∧ j ∈ rest) ∨ (some i = some j ∧ j ∉ rest)))) ∧
        (x ≠ k → ((k ∉ xs ∧ hit = none) ∨ ∃ j, xs[j]? = some k ∧ ((hit = none ∧ j ∈ rest) ∨ (hit = some j ∧ j ∉ rest)))) := by
    intro stored i rest hit hi hhi hnd hr hh
    have he : es[i]? = some es[i] := Array.getElem?_eq_getElem hi
    obtain ⟨x, hxi⟩ : ∃ x, xs[i]? = some x := ⟨_, List.getElem?_eq_getElem (by omega)⟩
    obtain ⟨e1, e2, e3⟩ := hx i x _ hxi he
    rw [he] at hhi
    simp only [Option.map_some, beq_iff_eq, Option.some.injEq] at hhi
    refine ⟨x, hxi, _, he, by rw [hhi]; simp, e2, e3, fun q => ?_, fun q => ?_⟩
    · subst q
      have hnr := (List.nodup_cons.mp hnd).1
      rcases hh with ⟨h, _⟩ | ⟨j, hj, hm⟩
      · exact absurd (List.mem_of_getElem? hxi) h
      · have := get_unique hn hxi hj
        subst this
        rcases hm with ⟨h, _⟩ | ⟨_, h⟩
        · exact ⟨h, .inr ⟨i, hxi, .inr ⟨rfl, hnr⟩⟩⟩
        · exact absurd (List.mem_cons_self) h
    · rcases hh with h | ⟨j, hj, hm⟩
      · exact .inl h
      · have hji : j ≠ i := fun z => by subst z; rw [hj] at hxi; cases hxi; exact q rfl
        refine .inr ⟨j, hj, ?_⟩
        rcases hm with ⟨h, h2⟩ | ⟨h, h2⟩
        · exact .inl ⟨h, (List.mem_cons.mp h2).resolve_left hji⟩
        · exact .inr ⟨h, fun z => h2 (List.mem_cons_of_mem _ z)⟩
  have fin : ∀ hit : Option Nat, ((k ∉ xs ∧ hit = none) ∨ ∃ j, xs[j]? = some k ∧ ((hit = none ∧ j ∈ ([] : List Nat)) ∨ (hit = some j ∧ j ∉ ([] : List Nat)))) → Q hit s := by
    intro hit hh
    rcases hh with ⟨h, rfl⟩ | ⟨j, hj, ⟨_, h⟩ | ⟨rfl, _⟩⟩
    · exact hnone h
    · simp at h
    · exact hsome j hj
  have byText : ∀ (y : Str) (t : Tok), v = .str y t → (es.all fun e => isExactStrKey e.key) = true → wpAny (model prog w) A (foundByValue d v es y) Q E s := by
    intro y t hv hall
    subst hv
    have hky : k = .text y := by cases hk0; rfl
    subst hky
    have his : ∀ (u : Value) (x : NestedKey), NestedIs s.heap x u → (u.isStr y = true ↔ x = .text y) := fun u x hx => by
      cases hx <;> simp_all [Value.isStr]
    unfold foundByValue
    cases hf : es.findIdx? (fun e => e.key.isStr y) with
    | none =>
      dsimp only
      refine wpAny_pure (hnone fun hm => ?_)
      obtain ⟨j, hj⟩ := List.mem_iff_getElem?.mp hm
      have hlt : j < es.size := by rw [← hl]; exact (List.getElem?_eq_some_iff.mp hj).1
      have he : es[j]? = some es[j] := Array.getElem?_eq_getElem hlt
      have h1 := (his _ _ (hx j _ _ hj he).2.1).mpr rfl
      have h2 := Array.findIdx?_eq_none_iff.mp hf es[j] (Array.getElem_mem hlt)
      rw [h1] at h2
      cases h2
    | some i =>
      obtain ⟨hlt, h1, _⟩ := Array.findIdx?_eq_some_iff_getElem.mp hf
      have he : es[i]? = some es[i] := Array.getElem?_eq_getElem hlt
      obtain ⟨x, hxi⟩ : ∃ x, xs[i]? = some x := ⟨_, List.getElem?_eq_getElem (by omega)⟩
      obtain ⟨e1, e2, e3⟩ := hx i x _ hxi he
      have hxy := (his _ _ e2).mp h1
      subst hxy
      dsimp only
      rw [he]
      dsimp only
      refine wpAny_bind (wpAny_dictEpoch ho hd (wpAny_bind (eq_mix (x := .text y) hu e2 e3 hk0 (wpAny_bind (wpAny_dictEpoch ho hd ?_)))))
      show wpAny _ _ (if (ep != ep) = true then _ else _) _ E _
      rw [if_neg (by simp)]
      simp only [decide_true, if_true]
      exact wpAny_bind (wpAny_rule (wpAny_pure (hsome i hxi)))
  unfold dictFind
  try with_reducible refine wpAny_holding ?_
  refine wpAny_bind (wpAny_dictEntries ho hd ?_)
  dsimp only
  cases hk with
  | none =>
    dsimp only
    rw [← hpl]
    by_cases hall : ((Value.none :: pl.filterMap (fun i => es[i]?.map (·.key))).all carriedByValue) = true
    · rw [if_pos hall]
      exact plain
    rw [if_neg hall]
    by_cases hone : (pl.filterMap (fun i => es[i]?.map (·.key)) == [Value.none]) = true <;>
    (first | rw [if_pos hone] | rw [if_neg hone]) <;> (first | refine wpAny_bind (wpAny_pure ?_) | refine wpAny_bind (may_tell hk0 dk hst ?_)) <;> (
      rw [if_neg (by simp)]
      refine wpAny_bind (wpAny_forIn_list _ (fun rest r s2 => s2 = s ∧ ∃ hit, r = (none, hit) ∧ rest.Nodup ∧ (∀ i ∈ rest, i < es.size ∧ ((es[i]?.map (·.hash)) == some (NestedKey.none.hash w)) = true) ∧ ((NestedKey.none ∉ xs ∧ hit = none) ∨ ∃ j, xs[j]? = some NestedKey.none ∧ ((hit = none ∧ j ∈ rest) ∨ (hit = some j ∧ j ∉ rest)))) _ ?_ ?_ _ _ ⟨rfl, none, rfl, hpn, hpm, ?_⟩)
      · rintro i rest r s2 ⟨rfl, hit, rfl, hnd, hr, hh⟩
        obtain ⟨x, hxi, e, he, h1, h2, h3, h4, h5⟩ := turn [] i rest hit (hr i (by simp)).1 (hr i (by simp)).2 hnd (fun j hj => hr j (by simp [hj])) hh
        rw [he]
        dsimp only
        rw [if_pos h1]
        refine wpAny_bind (wpAny_dictEpoch ho hd (wpAny_bind (eq_mix (x := x) hu h2 h3 hk0 (wpAny_bind (wpAny_dictEpoch ho hd ?_)))))
        show wpAny _ _ (if (ep != ep) = true then _ else _) _ E _
        rw [if_neg (by simp)]
        by_cases q : x = NestedKey.none
        · obtain ⟨rfl, h6⟩ := h4 q
          rw [decide_eq_true q]
          simp only [Option.isSome_none, Bool.false_eq_true, if_false, if_true]
          refine wpAny_bind (wpAny_rule ?_)
          split
          · exact wpAny_pure (wpAny_pure (hsome i (q ▸ hxi)))
          · exact wpAny_pure ⟨rfl, some i, rfl, (List.nodup_cons.mp hnd).2, fun j hj => hr j (by simp [hj]), h6⟩
        · rw [decide_eq_false q]
          simp only [Bool.false_eq_true, if_false, Bool.false_and]
          refine wpAny_bind (wpAny_rule ?_)
          exact wpAny_pure ⟨rfl, hit, rfl, (List.nodup_cons.mp hnd).2, fun j hj => hr j (by simp [hj]), h5 q⟩
      · rintro r s2 ⟨rfl, hit, rfl, _, _, hh⟩
        exact wpAny_pure (fin hit hh)
      · rcases hpk with h | ⟨j, hj, hm⟩
        · exact .inl ⟨h, rfl⟩
        · exact .inr ⟨j, hj, .inl ⟨rfl, hm⟩⟩)
  | @bool c n hc =>
    dsimp only
    rw [← hpl]
    by_cases hall : (((Value.bool c) :: pl.filterMap (fun i => es[i]?.map (·.key))).all carriedByValue) = true
    · rw [if_pos hall]
      exact plain
    rw [if_neg hall]
    by_cases hone : (pl.filterMap (fun i => es[i]?.map (·.key)) == [(Value.bool c)]) = true <;>
    (first | rw [if_pos hone] | rw [if_neg hone]) <;> (first | refine wpAny_bind (wpAny_pure ?_) | refine wpAny_bind (may_tell hk0 dk hst ?_)) <;> (
      rw [if_neg (by simp)]
      refine wpAny_bind (wpAny_forIn_list _ (fun rest r s2 => s2 = s ∧ ∃ hit, r = (none, hit) ∧ rest.Nodup ∧ (∀ i ∈ rest, i < es.size ∧ ((es[i]?.map (·.hash)) == some ((NestedKey.num n).hash w)) = true) ∧ (((NestedKey.num n) ∉ xs ∧ hit = none) ∨ ∃ j, xs[j]? = some (NestedKey.num n) ∧ ((hit = none ∧ j ∈ rest) ∨ (hit = some j ∧ j ∉ rest)))) _ ?_ ?_ _ _ ⟨rfl, none, rfl, hpn, hpm, ?_⟩)
      · rintro i rest r s2 ⟨rfl, hit, rfl, hnd, hr, hh⟩
        obtain ⟨x, hxi, e, he, h1, h2, h3, h4, h5⟩ := turn [] i rest hit (hr i (by simp)).1 (hr i (by simp)).2 hnd (fun j hj => hr j (by simp [hj])) hh
        rw [he]
        dsimp only
        rw [if_pos h1]
        refine wpAny_bind (wpAny_dictEpoch ho hd (wpAny_bind (eq_mix (x := x) hu h2 h3 hk0 (wpAny_bind (wpAny_dictEpoch ho hd ?_)))))
        show wpAny _ _ (if (ep != ep) = true then _ else _) _ E _
        rw [if_neg (by simp)]
        by_cases q : x = (NestedKey.num n)
        · obtain ⟨rfl, h6⟩ := h4 q
          rw [decide_eq_true q]
          simp only [Option.isSome_none, Bool.false_eq_true, if_false, if_true]
          refine wpAny_bind (wpAny_rule ?_)
          split
          · exact wpAny_pure (wpAny_pure (hsome i (q ▸ hxi)))
          · exact wpAny_pure ⟨rfl, some i, rfl, (List.nodup_cons.mp hnd).2, fun j hj => hr j (by simp [hj]), h6⟩
        · rw [decide_eq_false q]
          simp only [Bool.false_eq_true, if_false, Bool.false_and]
          refine wpAny_bind (wpAny_rule ?_)
          exact wpAny_pure ⟨rfl, hit, rfl, (List.nodup_cons.mp hnd).2, fun j hj => hr j (by simp [hj]), h5 q⟩
      · rintro r s2 ⟨rfl, hit, rfl, _, _, hh⟩
        exact wpAny_pure (fin hit hh)
      · rcases hpk with h | ⟨j, hj, hm⟩
        · exact .inl ⟨h, rfl⟩
        · exact .inr ⟨j, hj, .inl ⟨rfl, hm⟩⟩)
  | int n t =>
    dsimp only
    rw [← hpl]
    by_cases hall : (((Value.int n t) :: pl.filterMap (fun i => es[i]?.map (·.key))).all carriedByValue) = true
    · rw [if_pos hall]
      exact plain
    rw [if_neg hall]
    by_cases hone : (pl.filterMap (fun i => es[i]?.map (·.key)) == [(Value.int n t)]) = true <;>
    (first | rw [if_pos hone] | rw [if_neg hone]) <;> (first | refine wpAny_bind (wpAny_pure ?_) | refine wpAny_bind (may_tell hk0 dk hst ?_)) <;> (
      rw [if_neg (by simp)]
      refine wpAny_bind (wpAny_forIn_list _ (fun rest r s2 => s2 = s ∧ ∃ hit, r = (none, hit) ∧ rest.Nodup ∧ (∀ i ∈ rest, i < es.size ∧ ((es[i]?.map (·.hash)) == some ((NestedKey.num n).hash w)) = true) ∧ (((NestedKey.num n) ∉ xs ∧ hit = none) ∨ ∃ j, xs[j]? = some (NestedKey.num n) ∧ ((hit = none ∧ j ∈ rest) ∨ (hit = some j ∧ j ∉ rest)))) _ ?_ ?_ _ _ ⟨rfl, none, rfl, hpn, hpm, ?_⟩)
      · rintro i rest r s2 ⟨rfl, hit, rfl, hnd, hr, hh⟩
        obtain ⟨x, hxi, e, he, h1, h2, h3, h4, h5⟩ := turn [] i rest hit (hr i (by simp)).1 (hr i (by simp)).2 hnd (fun j hj => hr j (by simp [hj])) hh
        rw [he]
        dsimp only
        rw [if_pos h1]
        refine wpAny_bind (wpAny_dictEpoch ho hd (wpAny_bind (eq_mix (x := x) hu h2 h3 hk0 (wpAny_bind (wpAny_dictEpoch ho hd ?_)))))
        show wpAny _ _ (if (ep != ep) = true then _ else _) _ E _
        rw [if_neg (by simp)]
        by_cases q : x = (NestedKey.num n)
        · obtain ⟨rfl, h6⟩ := h4 q
          rw [decide_eq_true q]
          simp only [Option.isSome_none, Bool.false_eq_true, if_false, if_true]
          refine wpAny_bind (wpAny_rule ?_)
          split
          · exact wpAny_pure (wpAny_pure (hsome i (q ▸ hxi)))
          · exact wpAny_pure ⟨rfl, some i, rfl, (List.nodup_cons.mp hnd).2, fun j hj => hr j (by simp [hj]), h6⟩
        · rw [decide_eq_false q]
          simp only [Bool.false_eq_true, if_false, Bool.false_and]
          refine wpAny_bind (wpAny_rule ?_)
          exact wpAny_pure ⟨rfl, hit, rfl, (List.nodup_cons.mp hnd).2, fun j hj => hr j (by simp [hj]), h5 q⟩
      · rintro r s2 ⟨rfl, hit, rfl, _, _, hh⟩
        exact wpAny_pure (fin hit hh)
      · rcases hpk with h | ⟨j, hj, hm⟩
        · exact .inl ⟨h, rfl⟩
        · exact .inr ⟨j, hj, .inl ⟨rfl, hm⟩⟩)
  | text y t =>
    dsimp only
    rw [← hpl]
    by_cases hstr : (es.all fun e => isExactStrKey e.key) = true
    · rw [if_pos hstr]
      exact byText y t rfl hstr
    rw [if_neg hstr]
    by_cases hall : (((Value.str y t) :: pl.filterMap (fun i => es[i]?.map (·.key))).all carriedByValue) = true
    · rw [if_pos hall]
      exact plain
    rw [if_neg hall]
    by_cases hone : (pl.filterMap (fun i => es[i]?.map (·.key)) == [(Value.str y t)]) = true <;>
    (first | rw [if_pos hone] | rw [if_neg hone]) <;> (first | refine wpAny_bind (wpAny_pure ?_) | refine wpAny_bind (may_tell hk0 dk hst ?_)) <;> (
      rw [if_neg (by simp)]
      refine wpAny_bind (wpAny_forIn_list _ (fun rest r s2 => s2 = s ∧ ∃ hit, r = (none, hit) ∧ rest.Nodup ∧ (∀ i ∈ rest, i < es.size ∧ ((es[i]?.map (·.hash)) == some ((NestedKey.text y).hash w)) = true) ∧ (((NestedKey.text y) ∉ xs ∧ hit = none) ∨ ∃ j, xs[j]? = some (NestedKey.text y) ∧ ((hit = none ∧ j ∈ rest) ∨ (hit = some j ∧ j ∉ rest)))) _ ?_ ?_ _ _ ⟨rfl, none, rfl, hpn, hpm, ?_⟩)
      · rintro i rest r s2 ⟨rfl, hit, rfl, hnd, hr, hh⟩
        obtain ⟨x, hxi, e, he, h1, h2, h3, h4, h5⟩ := turn [] i rest hit (hr i (by simp)).1 (hr i (by simp)).2 hnd (fun j hj => hr j (by simp [hj])) hh
        rw [he]
        dsimp only
        rw [if_pos h1]
        refine wpAny_bind (wpAny_dictEpoch ho hd (wpAny_bind (eq_mix (x := x) hu h2 h3 hk0 (wpAny_bind (wpAny_dictEpoch ho hd ?_)))))
        show wpAny _ _ (if (ep != ep) = true then _ else _) _ E _
        rw [if_neg (by simp)]
        by_cases q : x = (NestedKey.text y)
        · obtain ⟨rfl, h6⟩ := h4 q
          rw [decide_eq_true q]
          simp only [Option.isSome_none, Bool.false_eq_true, if_false, if_true]
          refine wpAny_bind (wpAny_rule ?_)
          split
          · exact wpAny_pure (wpAny_pure (hsome i (q ▸ hxi)))
          · exact wpAny_pure ⟨rfl, some i, rfl, (List.nodup_cons.mp hnd).2, fun j hj => hr j (by simp [hj]), h6⟩
        · rw [decide_eq_false q]
          simp only [Bool.false_eq_true, if_false, Bool.false_and]
          refine wpAny_bind (wpAny_rule ?_)
          exact wpAny_pure ⟨rfl, hit, rfl, (List.nodup_cons.mp hnd).2, fun j hj => hr j (by simp [hj]), h5 q⟩
      · rintro r s2 ⟨rfl, hit, rfl, _, _, hh⟩
        exact wpAny_pure (fin hit hh)
      · rcases hpk with h | ⟨j, hj, hm⟩
        · exact .inl ⟨h, rfl⟩
        · exact .inr ⟨j, hj, .inl ⟨rfl, hm⟩⟩)
  | @tup a o2 vs n ks g1 g2 g3 g4 =>
    dsimp only
    rw [← hpl]
    rw [if_neg (show ¬ ((Value.ref a :: pl.filterMap (fun i => es[i]?.map (·.key))).all carriedByValue) = true by simp [carriedByValue])]
    have hany : ¬ (es.any fun e => e.key == Value.ref a && e.hash != (NestedKey.tup ks).hash w) = true := by
      rw [← Array.any_toList, List.any_eq_true]
      rintro ⟨e, hin, hc⟩
      obtain ⟨i, x, hxi, hei⟩ := entOf e (Array.mem_toList_iff.mp hin)
      obtain ⟨e1, e2, e3⟩ := hx i x e hxi hei
      rw [Bool.and_eq_true, beq_iff_eq, bne_iff_ne] at hc
      rw [hc.1] at e2
      have := NestedIs.inj _ _ _ e2 hk0
      subst this
      exact hc.2 e1
    rw [if_neg hany]
    by_cases hone : (pl.filterMap (fun i => es[i]?.map (·.key)) == [(Value.ref a)]) = true <;>
    (first | rw [if_pos hone] | rw [if_neg hone]) <;> (first | refine wpAny_bind (wpAny_pure ?_) | refine wpAny_bind (may_tell hk0 dk hst ?_)) <;> (
      rw [if_neg (by simp)]
      refine wpAny_bind (wpAny_forIn_list _ (fun rest r s2 => s2 = s ∧ ∃ hit, r = (none, hit) ∧ rest.Nodup ∧ (∀ i ∈ rest, i < es.size ∧ ((es[i]?.map (·.hash)) == some ((NestedKey.tup ks).hash w)) = true) ∧ (((NestedKey.tup ks) ∉ xs ∧ hit = none) ∨ ∃ j, xs[j]? = some (NestedKey.tup ks) ∧ ((hit = none ∧ j ∈ rest) ∨ (hit = some j ∧ j ∉ rest)))) _ ?_ ?_ _ _ ⟨rfl, none, rfl, hpn, hpm, ?_⟩)
      · rintro i rest r s2 ⟨rfl, hit, rfl, hnd, hr, hh⟩
        obtain ⟨x, hxi, e, he, h1, h2, h3, h4, h5⟩ := turn [] i rest hit (hr i (by simp)).1 (hr i (by simp)).2 hnd (fun j hj => hr j (by simp [hj])) hh
        rw [he]
        dsimp only
        rw [if_pos h1]
        refine wpAny_bind (wpAny_dictEpoch ho hd (wpAny_bind (eq_mix (x := x) hu h2 h3 hk0 (wpAny_bind (wpAny_dictEpoch ho hd ?_)))))
        show wpAny _ _ (if (ep != ep) = true then _ else _) _ E _
        rw [if_neg (by simp)]
        by_cases q : x = (NestedKey.tup ks)
        · obtain ⟨rfl, h6⟩ := h4 q
          rw [decide_eq_true q]
          simp only [Option.isSome_none, Bool.false_eq_true, if_false, if_true]
          refine wpAny_bind (wpAny_rule ?_)
          split
          · exact wpAny_pure (wpAny_pure (hsome i (q ▸ hxi)))
          · exact wpAny_pure ⟨rfl, some i, rfl, (List.nodup_cons.mp hnd).2, fun j hj => hr j (by simp [hj]), h6⟩
        · rw [decide_eq_false q]
          simp only [Bool.false_eq_true, if_false, Bool.false_and]
          refine wpAny_bind (wpAny_rule ?_)
          exact wpAny_pure ⟨rfl, hit, rfl, (List.nodup_cons.mp hnd).2, fun j hj => hr j (by simp [hj]), h5 q⟩
      · rintro r s2 ⟨rfl, hit, rfl, _, _, hh⟩
        exact wpAny_pure (fin hit hh)
      · rcases hpk with h | ⟨j, hj, hm⟩
        · exact .inl ⟨h, rfl⟩
        · exact .inr ⟨j, hj, .inl ⟨rfl, hm⟩⟩)
/-- at d stands a dict with the entries es, whose keys are xs -/
def DX (w : World) (h : Heap) (d : Addr) (xs : List NestedKey) (es : Array DictEntry) : Prop :=
  ∃ o ep, h.get? d = some o ∧ o.ExactDict ∧ o.data = .dict es ep ∧ xs.length = es.size ∧ (∀ (i : Nat) (x : NestedKey) (e : DictEntry), xs[i]? = some x → es[i]? = some e → EntK w h x e) ∧ xs.Nodup
variable {d : Addr} {v : Value} {es : Array DictEntry} {xs : List NestedKey} {k : NestedKey}
theorem DX.typeIs (hm : DX w s.heap d xs es) : s.TypeIs (.ref d) "dict" := let ⟨o, _, ho, hc, _⟩ := hm; ⟨o, ho, hc.1⟩
theorem dictGet_mix {Q : Option Value → Shared → Prop} (hu : A.units + 8 < cLine) (hk : NestedIs s.heap k v) (dk : k.depth ≤ 8) (hm : DX w s.heap d xs es)
    (hnone : k ∉ xs → Q none { s with toks := s.toks + k.draws }) (hsome : ∀ (j : Nat) (e : DictEntry), xs[j]? = some k → es[j]? = some e → Q (some e.val) { s with toks := s.toks + k.draws }) :
    wpAny (model prog w) A (dictGet d v) Q E s := by
  obtain ⟨o, ep, ho, _, hd, hl, hx, hn⟩ := hm
  unfold dictGet
  try with_reducible refine wpAny_holding ?_
  refine wpAny_bind (pyHash_key k v A s _ hk (by omega) (wpAny_bind (find_mix (s := { s with toks := s.toks + k.draws }) hu hk dk ho hd hl hx hn (fun h => ?_) fun j hj => ?_)))
  · exact wpAny_pure (hnone h)
  · refine wpAny_bind (wpAny_dictEntries (s := { s with toks := s.toks + k.draws }) ho hd ?_)
    have hlt : j < es.size := by rw [← hl]; exact (List.getElem?_eq_some_iff.mp hj).1
    have he : es[j]? = some es[j] := Array.getElem?_eq_getElem hlt
    rw [he]
    exact wpAny_pure (hsome j _ hj he)
theorem dictSet_mix {u : Value} {Q : Unit → Shared → Prop} (hu : A.units + 8 < cLine) (hk : NestedIs s.heap k v) (dk : k.depth ≤ 8) (hm : DX w s.heap d xs es) (hz : es.size ≤ sizeLine)
    (hnone : k ∉ xs → ∀ h', (∃ o ep, h'.get? d = some o ∧ o.ExactDict ∧ o.data = .dict (es.push ⟨k.hash w, v, u⟩) ep) → Heap.SameBut d s.heap h' → Q () { s with heap := h', toks := s.toks + k.draws })
    (hsome : ∀ j : Nat, xs[j]? = some k → ∀ h', (∃ o ep, h'.get? d = some o ∧ o.ExactDict ∧ o.data = .dict (es.modify j fun e => { e with val := u }) ep) → Heap.SameBut d s.heap h' → Q () { s with heap := h', toks := s.toks + k.draws }) :
    wpAny (model prog w) A (dictSet d v u) Q E s := by
  obtain ⟨o, ep, ho, hc, hd, hl, hx, hn⟩ := hm
  unfold dictSet
  try with_reducible refine wpAny_holding ?_
  refine wpAny_bind (pyHash_key k v A s _ hk (by omega) ?_)
  unfold dictSetHashed
  try with_reducible refine wpAny_holding ?_
  refine wpAny_bind (find_mix (s := { s with toks := s.toks + k.draws }) hu hk dk ho hd hl hx hn (fun h => ?_) fun j hj => ?_)
  · exact wpAny_bind (wpAny_rule (wpAny_updateDictKeys (hz := hz) (s := { s with toks := s.toks + k.draws }) ho hd (hnone h _ ⟨_, ep + 1, Heap.get?_update_self _ ho (Obj.isFreed_of_dict (Obj.data_mapDictKeys hd _)), hc.mapDictKeys _, Obj.data_mapDictKeys hd _⟩ (Heap.SameBut.update ..))))
  · exact wpAny_bind (wpAny_rule (wpAny_bind (wpAny_updateDict (s := { s with toks := s.toks + k.draws }) ho hd (wpAny_point (hsome j hj _ ⟨_, ep, Heap.get?_update_self _ ho (Obj.isFreed_of_dict (Obj.data_mapDict hd _)), hc.mapDict _, Obj.data_mapDict hd _⟩ (Heap.SameBut.update ..))))))
/-- what dict.get tells -/
theorem meets_get1 (hd : (d == sysModules) = false) : MeetsIn prog w (Builtin.«dict.get» ⟨[.ref d, v], []⟩) (fun A R s => A.in1.units + 8 < cLine ∧ ∃ k xs es, NestedIs s.heap k v ∧ k.depth ≤ 8 ∧ DX w s.heap d xs es ∧
      (k ∉ xs → R (.ok (.ret .none)) { s with toks := s.toks + k.draws }) ∧ ∀ (j : Nat) (e : DictEntry), xs[j]? = some k → es[j]? = some e → R (.ok (.ret e.val)) { s with toks := s.toks + k.draws }) :=
  .of_wp fun A R s ⟨hu, k, xs, es, hk, dk, hm, h1, h2⟩ => by
    show wpAny _ _ (dictGet d v >>= _) _ _ s
    refine wpAny_bind (dictGet_mix hu hk dk hm (fun h => ?_) fun j e hj he => ?_)
    · show wpAny _ _ (Builtin.Dict.missed d v >>= _) _ _ _
      exact wpAny_bind (wpAny_missed_other hd (wpAny_pure ⟨.none, rfl, h1 h⟩))
    · exact wpAny_pure ⟨e.val, rfl, h2 j e hj he⟩
theorem meets_get2 {dflt : Value} (hd : (d == sysModules) = false) : MeetsIn prog w (Builtin.«dict.get» ⟨[.ref d, v, dflt], []⟩) (fun A R s => A.in1.units + 8 < cLine ∧ ∃ k xs es, NestedIs s.heap k v ∧ k.depth ≤ 8 ∧ DX w s.heap d xs es ∧
      (k ∉ xs → R (.ok (.ret dflt)) { s with toks := s.toks + k.draws }) ∧ ∀ (j : Nat) (e : DictEntry), xs[j]? = some k → es[j]? = some e → R (.ok (.ret e.val)) { s with toks := s.toks + k.draws }) :=
  .of_wp fun A R s ⟨hu, k, xs, es, hk, dk, hm, h1, h2⟩ => by
    show wpAny _ _ (dictGet d v >>= _) _ _ s
    refine wpAny_bind (dictGet_mix hu hk dk hm (fun h => ?_) fun j e hj he => ?_)
    · show wpAny _ _ (Builtin.Dict.missed d v >>= _) _ _ _
      exact wpAny_bind (wpAny_missed_other hd (wpAny_pure ⟨dflt, rfl, h1 h⟩))
    · exact wpAny_pure ⟨e.val, rfl, h2 j e hj he⟩
theorem in_mix {Q : Value → Shared → Prop} (hu : A.units + 16 < cLine) (hk : NestedIs s.heap k v) (dk : k.depth ≤ 8) (hd : (d == sysModules) = false) (hm : DX w s.heap d xs es)
    (q : Q (.bool (decide (k ∈ xs))) { s with toks := s.toks + k.draws }) : wpAny (model prog w) A (compareOp .In v (.ref d)) Q E s := by
  show wpAny _ _ (contains (.ref d) v >>= fun b => pure (.bool b)) Q E s
  refine wpAny_bind ?_
  unfold contains
  try with_reducible refine wpAny_holding ?_
  refine wpAny_bind (wpAny_specialOf hm.typeIs slot_dict_contains.lookup ?_)
  show wpAny _ _ (if (some (Value.builtin "dict.__contains__") == some Value.none) = true then _ else _) _ E s
  rw [if_neg (by rw [beq_builtin_none]; exact Bool.false_ne_true)]
  refine wpAny_bind (wpAny_callSpecialUnlessNone?_slot (name := Str.ofString "__contains__") hm.typeIs slot_dict_contains (wpAny_call_entry slot_dict_contains hm.typeIs entry_dict_contains ?_ (args_dict_contains _ _)))
  show wpAny _ _ (dictGet d v >>= _) _ _ s
  refine wpAny_bind (dictGet_mix (by simp only [Around.in1_units]; omega) hk dk hm (fun h => ?_) fun j e hj he => ?_)
  · rw [decide_eq_false h] at q
    show wpAny _ _ (Builtin.Dict.pendingKey? d v >>= _) _ _ _
    exact wpAny_bind (wpAny_pendingKey_other hd (wpAny_pure ⟨_, rfl, wpAny_truthy_bool (wpAny_pure q)⟩))
  · rw [decide_eq_true (List.mem_of_getElem? hj)] at q
    show wpAny _ _ (ret (.bool true)) _ _ _
    exact wpAny_pure ⟨_, rfl, wpAny_truthy_bool (wpAny_pure q)⟩
theorem getItem_mix {Q : Value → Shared → Prop} (hu : A.units + 16 < cLine) (hk : NestedIs s.heap k v) (dk : k.depth ≤ 8) (hm : DX w s.heap d xs es) {j : Nat} {e : DictEntry} (hj : xs[j]? = some k) (he : es[j]? = some e)
    (q : Q e.val { s with toks := s.toks + k.draws }) : wpAny (model prog w) A (getItem (.ref d) v) Q E s := by
  unfold getItem
  try with_reducible refine wpAny_holding ?_
  refine wpAny_bind (wpAny_sequenceKey hm.typeIs (by decide) ?_)
  refine wpAny_bind (wpAny_callSpecial?_slot (name := Str.ofString "__getitem__") hm.typeIs slot_dict_getitem (wpAny_call_entry slot_dict_getitem hm.typeIs entry_dict_getitem ?_ (args_dict_getitem _ _)))
  show wpAny _ _ (dictGet d v >>= _) _ _ s
  have hn : xs.Nodup := let ⟨_, _, _, _, _, _, _, hn⟩ := hm; hn
  refine wpAny_bind (dictGet_mix (by simp only [Around.in1_units]; omega) hk dk hm (fun h => absurd (List.mem_of_getElem? hj) h) fun i e2 hi he2 => ?_)
  have := get_unique hn hi hj
  subst this
  rw [he] at he2
  cases he2
  exact wpAny_pure ⟨e.val, rfl, wpAny_pure q⟩
theorem setItem_mix {u : Value} {Q : Unit → Shared → Prop} (hu : A.units + 16 < cLine) (hk : NestedIs s.heap k v) (dk : k.depth ≤ 8) (hm : DX w s.heap d xs es) (hz : es.size ≤ sizeLine)
    (hnone : k ∉ xs → ∀ h', (∃ o ep, h'.get? d = some o ∧ o.ExactDict ∧ o.data = .dict (es.push ⟨k.hash w, v, u⟩) ep) → Heap.SameBut d s.heap h' → Q () { s with heap := h', toks := s.toks + k.draws })
    (hsome : ∀ j : Nat, xs[j]? = some k → ∀ h', (∃ o ep, h'.get? d = some o ∧ o.ExactDict ∧ o.data = .dict (es.modify j fun e => { e with val := u }) ep) → Heap.SameBut d s.heap h' → Q () { s with heap := h', toks := s.toks + k.draws }) :
    wpAny (model prog w) A (setItem (.ref d) v u) Q E s := by
  unfold setItem
  try with_reducible refine wpAny_holding ?_
  refine wpAny_bind (wpAny_sequenceKey hm.typeIs (by decide) ?_)
  refine wpAny_bind (wpAny_callSpecial?_slot (name := Str.ofString "__setitem__") hm.typeIs slot_dict_setitem (wpAny_call_entry slot_dict_setitem hm.typeIs entry_dict_setitem ?_ (args_dict_setitem _ _ _)))
  show wpAny _ _ (Builtin.Dict.notOrdered "__setitem__" ⟨[.ref d, v, u], []⟩ >>= _) _ _ s
  refine wpAny_bind (wpAny_notOrdered_dict hm.typeIs ?_)
  show wpAny _ _ (dictSet d v u >>= _) _ _ s
  exact wpAny_bind (dictSet_mix (by simp only [Around.in1_units]; omega) hk dk hm hz (fun h h' hm' hs => wpAny_pure ⟨.none, rfl, wpAny_pure (hnone h h' hm' hs)⟩) fun j hj h' hm' hs => wpAny_pure ⟨.none, rfl, wpAny_pure (hsome j hj h' hm' hs)⟩)
end
end FL

set_option maxHeartbeats 2000000
/-! FLWD: dicts by values. -/
namespace FL
open PySem L2 Classical
mutual
theorem reads_key {h : Heap} : ∀ (k : NestedKey) (u : Value) (as : List Addr), Reads h u k.data as → NestedIs h k u
  | .none, _, _, r => by simp only [NestedKey.data] at r; cases r; exact .none
  | .num i, _, _, r => by simp only [NestedKey.data] at r; cases r; exact .int _ _
  | .text x, _, _, r => by simp only [NestedKey.data] at r; cases r; exact .text _ _
  | .tup ks, _, _, r => by
    simp only [NestedKey.data] at r
    cases r with
    | tuple h1 h2 h3 h4 => exact .tup h1 h2 h3 (reads_keys ks _ _ h4)
theorem reads_keys {h : Heap} : ∀ (ks : List NestedKey) (us : List Value) (as : List Addr), ReadsAll h us (NestedKey.datas ks) as → NestedAll h ks us
  | [], _, _, r => by simp only [NestedKey.datas] at r; cases r; exact .nil
  | k :: ks, _, _, r => by
    simp only [NestedKey.datas] at r
    cases r with
    | cons a b => exact .cons (reads_key k _ _ a) (reads_keys ks _ _ b)
end
mutual
theorem nk_data : ∀ (x : D) (k : NestedKey), nkD x = some k → toPy x = k.data ∧ (toPy x).plain = true
  | .non, _, e => by simp only [nkD] at e; cases e; exact ⟨rfl, rfl⟩
  | .int i, _, e => by simp only [nkD] at e; cases e; exact ⟨rfl, rfl⟩
  | .str i, _, e => by simp only [nkD] at e; cases e; exact ⟨rfl, rfl⟩
  | .tup xs, _, e => by
    simp only [nkD] at e
    cases h : nkDs xs with
    | none => rw [h] at e; cases e
    | some ks =>
      rw [h] at e
      cases e
      obtain ⟨a, b⟩ := nks_data xs ks h
      exact ⟨by simp only [toPy, NestedKey.data, a], by simp only [toPy, PyData.plain, b]⟩
  | .bl _, _, e => by simp [nkD] at e
  | .fn _, _, e => by simp [nkD] at e
  | .lst _, _, e => by simp [nkD] at e
  | .scr _, _, e => by simp [nkD] at e
  | .dic _ _, _, e => by simp [nkD] at e
  | .ins _ _ _, _, e => by simp [nkD] at e
  | .exc _, _, e => by simp [nkD] at e
theorem nks_data : ∀ (xs : List D) (ks : List NestedKey), nkDs xs = some ks → toPys xs = NestedKey.datas ks ∧ PyData.plainAll (toPys xs) = true
  | [], _, e => by simp only [nkDs] at e; cases e; exact ⟨rfl, rfl⟩
  | x :: xs, _, e => by
    simp only [nkDs] at e
    cases h1 : nkD x with
    | none => rw [h1] at e; cases e
    | some k =>
      cases h2 : nkDs xs with
      | none => rw [h1, h2] at e; cases e
      | some ks =>
        rw [h1, h2] at e
        cases e
        obtain ⟨a, b⟩ := nk_data x k h1
        obtain ⟨c, d⟩ := nks_data xs ks h2
        exact ⟨by simp only [toPys, NestedKey.datas, a, c], by simp only [toPys, PyData.plainAll, b, d, Bool.and_self]⟩
end
mutual
theorem nk_inj : ∀ (x y : D) (k : NestedKey), nkD x = some k → nkD y = some k → x = y
  | .non, y, _, e, f => by simp only [nkD] at e; cases e; cases y <;> simp [nkD] at f <;> first | rfl | (split at f <;> simp at f)
  | .int i, y, _, e, f => by simp only [nkD] at e; cases e; cases y <;> simp [nkD] at f <;> first | (subst f; rfl) | (split at f <;> simp at f)
  | .str i, y, _, e, f => by simp only [nkD] at e; cases e; cases y <;> simp [nkD] at f <;> first | (subst f; rfl) | (split at f <;> simp at f)
  | .tup xs, y, _, e, f => by
    simp only [nkD] at e
    cases h : nkDs xs with
    | none => rw [h] at e; cases e
    | some ks =>
      rw [h] at e
      cases e
      cases y with
      | tup ys =>
        simp only [nkD] at f
        cases h2 : nkDs ys with
        | none => rw [h2] at f; cases f
        | some ks2 =>
          rw [h2] at f
          cases f
          rw [nks_inj xs ys ks h h2]
      | _ => simp [nkD] at f
  | .bl _, _, _, e, _ => by simp [nkD] at e
  | .fn _, _, _, e, _ => by simp [nkD] at e
  | .lst _, _, _, e, _ => by simp [nkD] at e
  | .scr _, _, _, e, _ => by simp [nkD] at e
  | .dic _ _, _, _, e, _ => by simp [nkD] at e
  | .ins _ _ _, _, _, e, _ => by simp [nkD] at e
  | .exc _, _, _, e, _ => by simp [nkD] at e
theorem nks_inj : ∀ (xs ys : List D) (ks : List NestedKey), nkDs xs = some ks → nkDs ys = some ks → xs = ys
  | [], ys, _, e, f => by
    simp only [nkDs] at e; cases e
    cases ys with
    | nil => rfl
    | cons y ys => simp only [nkDs] at f; split at f <;> simp at f
  | x :: xs, ys, _, e, f => by
    simp only [nkDs] at e
    cases h1 : nkD x with
    | none => rw [h1] at e; cases e
    | some k =>
      cases h2 : nkDs xs with
      | none => rw [h1, h2] at e; cases e
      | some ks =>
        rw [h1, h2] at e
        cases e
        cases ys with
        | nil => simp [nkDs] at f
        | cons y ys =>
          simp only [nkDs] at f
          cases h3 : nkD y with
          | none => rw [h3] at f; cases f
          | some k2 =>
            cases h4 : nkDs ys with
            | none => rw [h3, h4] at f; cases f
            | some ks2 =>
              rw [h3, h4] at f
              cases f
              rw [nk_inj x y k h1 h3, nks_inj xs ys ks h2 h4]
end
theorem nkDs_len : ∀ {xs : List D} {ks : List NestedKey}, nkDs xs = some ks → xs.length = ks.length
  | [], _, e => by simp only [nkDs] at e; cases e; rfl
  | x :: xs, _, e => by
    simp only [nkDs] at e
    cases h1 : nkD x with
    | none => rw [h1] at e; cases e
    | some k =>
      cases h2 : nkDs xs with
      | none => rw [h1, h2] at e; cases e
      | some ks => rw [h1, h2] at e; cases e; simp [nkDs_len h2]
theorem nkDs_get : ∀ {xs : List D} {ks : List NestedKey} {i : Nat} {k : NestedKey}, nkDs xs = some ks → ks[i]? = some k → ∃ x, xs[i]? = some x ∧ nkD x = some k
  | [], _, i, k, e, h => by simp only [nkDs] at e; cases e; simp at h
  | x :: xs, _, i, k, e, h => by
    simp only [nkDs] at e
    cases h1 : nkD x with
    | none => rw [h1] at e; cases e
    | some k2 =>
      cases h2 : nkDs xs with
      | none => rw [h1, h2] at e; cases e
      | some ks =>
        rw [h1, h2] at e
        cases e
        cases i with
        | zero => simp at h; subst h; exact ⟨x, rfl, h1⟩
        | succ i => simpa using nkDs_get (i := i) h2 (by simpa using h)
theorem nkDs_app : ∀ {xs : List D} {ks : List NestedKey} {x : D} {k : NestedKey}, nkDs xs = some ks → nkD x = some k → nkDs (xs ++ [x]) = some (ks ++ [k])
  | [], _, x, k, e, h => by simp only [nkDs] at e; cases e; simp [nkDs, h]
  | y :: xs, _, x, k, e, h => by
    simp only [nkDs] at e
    cases h1 : nkD y with
    | none => rw [h1] at e; cases e
    | some k2 =>
      cases h2 : nkDs xs with
      | none => rw [h1, h2] at e; cases e
      | some ks =>
        rw [h1, h2] at e
        cases e
        simp only [List.cons_append, nkDs, h1, nkDs_app h2 h]
theorem KsOk.add {ks : List D} {nk : List NestedKey} {x : D} {k : NestedKey} (h : KsOk ks nk) (hx : nkD x = some k) (dk : k.depth ≤ 8) (hn : k ∉ nk) : KsOk (ks ++ [x]) (nk ++ [k]) := by
  refine ⟨nkDs_app h.eq hx, ?_, fun y hy => ?_⟩
  · rw [List.nodup_append]
    exact ⟨h.nd, by simp, fun a ha b hb => by simp at hb; subst hb; exact fun e => hn (e ▸ ha)⟩
  · rcases List.mem_append.mp hy with q | q
    · exact h.dp y q
    · simp at q; subst q; exact dk
/-! entries -/
theorem EntR.len {w : World} : ∀ {nk : List NestedKey} {kv : List (V × V)} {es : List DictEntry}, EntR w nk kv es → nk.length = kv.length ∧ nk.length = es.length
  | [], [], [], _ => ⟨rfl, rfl⟩
  | k :: nk, p :: kv, e :: es, r => by
    simp only [EntR] at r
    obtain ⟨a, b⟩ := r.2.2.2.len
    simp [← a, ← b]
  | [], _ :: _, _, r => by simp [EntR] at r
  | [], [], _ :: _, r => by simp [EntR] at r
  | _ :: _, [], _, r => by simp [EntR] at r
  | _ :: _, _ :: _, [], r => by simp [EntR] at r
theorem EntR.get {w : World} : ∀ {nk : List NestedKey} {kv : List (V × V)} {es : List DictEntry} {i : Nat} {k : NestedKey}, EntR w nk kv es → nk[i]? = some k → ∃ p e, kv[i]? = some p ∧ es[i]? = some e ∧ e.hash = k.hash w ∧ RelV p.1 e.key ∧ RelV p.2 e.val
  | [], [], [], i, k, _, h => by simp at h
  | k0 :: nk, p :: kv, e :: es, i, k, r, h => by
    simp only [EntR] at r
    cases i with
    | zero => simp at h; subst h; exact ⟨p, e, rfl, rfl, r.1, r.2.1, r.2.2.1⟩
    | succ i => simpa using EntR.get (i := i) r.2.2.2 (by simpa using h)
  | [], _ :: _, _, _, _, r, _ => by simp [EntR] at r
  | [], [], _ :: _, _, _, r, _ => by simp [EntR] at r
  | _ :: _, [], _, _, _, r, _ => by simp [EntR] at r
  | _ :: _, _ :: _, [], _, _, r, _ => by simp [EntR] at r
theorem EntR.add {w : World} {k0 : NestedKey} {p0 : V × V} {e0 : DictEntry} (h1 : e0.hash = k0.hash w) (h2 : RelV p0.1 e0.key) (h3 : RelV p0.2 e0.val) : ∀ {nk : List NestedKey} {kv : List (V × V)} {es : List DictEntry}, EntR w nk kv es → EntR w (nk ++ [k0]) (kv ++ [p0]) (es ++ [e0])
  | [], [], [], _ => ⟨h1, h2, h3, trivial⟩
  | k :: nk, p :: kv, e :: es, r => by
    simp only [EntR] at r
    exact ⟨r.1, r.2.1, r.2.2.1, r.2.2.2.add h1 h2 h3⟩
  | [], _ :: _, _, r => by simp [EntR] at r
  | [], [], _ :: _, r => by simp [EntR] at r
  | _ :: _, [], _, r => by simp [EntR] at r
  | _ :: _, _ :: _, [], r => by simp [EntR] at r
theorem EntR.put {w : World} {y : V} {u : Value} (hr : RelV y u) : ∀ {nk : List NestedKey} {kv : List (V × V)} {es : List DictEntry} (j : Nat), EntR w nk kv es → EntR w nk (kv.modify j fun p => (p.1, y)) (es.modify j fun e => { e with val := u })
  | [], [], [], j, _ => by simp [EntR]
  | k :: nk, p :: kv, e :: es, 0, r => by
    simp only [EntR] at r
    exact ⟨r.1, r.2.1, hr, r.2.2.2⟩
  | k :: nk, p :: kv, e :: es, j + 1, r => by
    simp only [EntR] at r
    exact ⟨r.1, r.2.1, r.2.2.1, r.2.2.2.put hr j⟩
  | [], _ :: _, _, _, r => by simp [EntR] at r
  | [], [], _ :: _, _, r => by simp [EntR] at r
  | _ :: _, [], _, _, r => by simp [EntR] at r
  | _ :: _, _ :: _, [], _, r => by simp [EntR] at r
/-- at a stands a dict whose keys are data -/
structure DcV (K : PySem.W.Frag) (w : World) (H : Hp) (a : Addr) (nk : List NestedKey) (kv : List (V × V)) : Prop where
  at_ : H a = some (DO w a nk kv)
  key : ∀ (i : Nat) (k : NestedKey) (p : V × V), nk[i]? = some k → kv[i]? = some p → Dp K H p.1 k.data
  nd : nk.Nodup
  dp : ∀ k ∈ nk, k.depth ≤ 8
section
variable {X : Cx} {pins : List (Addr × Obj)} {σ : L2.St} {H : Hp} {s : Shared} {a : Addr} {nk : List NestedKey} {kv : List (V × V)}
theorem key_is (I : L2.Inv X pins σ H s) {y : V} {u : Value} {k : NestedKey} (h : Dp X.K H y k.data) (r : RelV y u) : NestedIs s.heap k u :=
  let ⟨_, q⟩ := Dp.reads I _ _ _ h r; reads_key k u _ q
theorem DcV.dx (I : L2.Inv X pins σ H s) (h : DcV X.K X.w H a nk kv) : (a == sysModules) = false ∧ kv.length ≤ sizeLine ∧ ∃ es, DX X.w s.heap a nk es ∧ EntR X.w nk kv es.toList := by
  obtain ⟨⟨lo, hz, o, es, ep, ho, hx, hd, er⟩, _, _⟩ := (show ObjOk X.prog X.w H s.heap a (DO X.w a nk kv) from I.hok a _ h.at_)
  refine ⟨lo, hz, es, ⟨o, ep, ho, hx, hd, by rw [er.len.2, Array.length_toList], fun i k e hk he => ?_, h.nd⟩, er⟩
  obtain ⟨p, e2, h1, h2, h3, h4, h5⟩ := er.get hk
  rw [Array.getElem?_toList, he] at h2
  cases h2
  exact ⟨h3, key_is I (h.key i k p hk h1) h4, h.dp k (List.mem_of_getElem? hk)⟩
theorem DcV.put (I : L2.Inv X pins σ H s) (h : DcV X.K X.w H a nk kv) {h' : Heap} {nk' : List NestedKey} {kv' : List (V × V)} {es' : Array DictEntry} {t' : Nat} (ho : ∃ o ep, h'.get? a = some o ∧ o.ExactDict ∧ o.data = .dict es' ep) (hs : Heap.SameBut a s.heap h') (er : EntR X.w nk' kv' es'.toList) (hz : kv'.length ≤ sizeLine) :
    L2.Inv X pins σ (upd H a (DO X.w a nk' kv')) { s with heap := h', toks := t' } := by
  obtain ⟨lo, _, _⟩ := h.dx I
  obtain ⟨o, ep, h1, h2, h3⟩ := ho
  refine I.write (x := a) (e := a) (by rw [h.at_]; trivial) (.inl rfl) (fun b u hb q => (hs.2 b hb).trans q) ⟨o, h1⟩ ?_
  refine ⟨⟨lo, hz, o, es', ep, h1, h2, h3, er⟩, ⟨o, h1⟩, fun g1 g2 ⟨c1, c2, o1, e1, p1, c3, c4, c5, c6⟩ k => ⟨c1, c2, o1, e1, p1, k _ c3, c4, c5, c6⟩⟩
end
/-! ### the operations by values -/
def rDGet2 (K : PySem.W.Frag) (w : World) : V → List V → Hp → VK → Prop := fun x vs H Q => ∃ a nk kv y z k, x = .ref a ∧ vs = [y, z] ∧ DcV K w H a nk kv ∧ Dp K H y k.data ∧ k.depth ≤ 8 ∧ (k ∉ nk → Q z H) ∧ ∀ (j : Nat) (p : V × V), nk[j]? = some k → kv[j]? = some p → Q p.2 H
def rDGet1 (K : PySem.W.Frag) (w : World) : V → List V → Hp → VK → Prop := fun x vs H Q => ∃ a nk kv y k, x = .ref a ∧ vs = [y] ∧ DcV K w H a nk kv ∧ Dp K H y k.data ∧ k.depth ≤ 8 ∧ (k ∉ nk → Q .non H) ∧ ∀ (j : Nat) (p : V × V), nk[j]? = some k → kv[j]? = some p → Q p.2 H
def rDIx (K : PySem.W.Frag) (w : World) : R2 := fun x y H Q => ∃ (a : Addr) (nk : List NestedKey) (kv : List (V × V)) (k : NestedKey) (j : Nat) (p : V × V), x = .ref a ∧ DcV K w H a nk kv ∧ Dp K H y k.data ∧ k.depth ≤ 8 ∧ nk[j]? = some k ∧ kv[j]? = some p ∧ Q p.2 H
def rDIn (K : PySem.W.Frag) (w : World) : R2 := fun y x H Q => ∃ a nk kv k, x = .ref a ∧ DcV K w H a nk kv ∧ Dp K H y k.data ∧ k.depth ≤ 8 ∧ Q (.bl (decide (k ∈ nk))) H
def rDSet (K : PySem.W.Frag) (w : World) : TSet := fun o y v H Q => ∃ a nk kv k, o = .ref a ∧ DcV K w H a nk kv ∧ Dp K H y k.data ∧ k.depth ≤ 8 ∧ kv.length < sizeLine ∧
  (k ∉ nk → Q (upd H a (DO w a (nk ++ [k]) (kv ++ [(y, v)])))) ∧ ∀ j : Nat, nk[j]? = some k → Q (upd H a (DO w a nk (kv.modify j fun p => (p.1, v))))
def rDList (K : PySem.W.Frag) (w : World) : List V → Hp → VK → Prop := fun xs H Q => ∃ a nk kv, xs = [.ref a] ∧ DcV K w H a nk kv ∧ ∀ q, H q = none → Q (.ref q) (upd H q (.lst (kv.map fun p => p.1)))
section
variable {X : Cx}
theorem mt_dget2 (hu : X.A.units + 64 < cLine) : MtR X "dict.get" (rDGet2 X.K X.w) := by
  intro pins s σ H x xs v us Q I rx rs h
  obtain ⟨a, nk, kv, y, z, k, rfl, rfl, hd, hy, dk, q1, q2⟩ := h
  obtain rfl : v = Value.ref a := rx
  obtain ⟨u1, u2, rfl, r1, r2⟩ := vals2 rs
  obtain ⟨lo, hz, es, dx, er⟩ := hd.dx I
  refine call_meetsIn F.slot_dict_get dx.typeIs F.entry_dict_get (F.args_dict_get_3 _ _ _) (meets_get2 lo) ⟨by simp only [Around.in1_units]; omega, k, nk, es, key_is I hy r1, dk, dx, fun hn => ⟨z, H, I.tok _, r2, q1 hn⟩, fun j e hj he => ?_⟩
  obtain ⟨p, e2, h1, h2, h3, h4, h5⟩ := er.get hj
  rw [Array.getElem?_toList, he] at h2
  cases h2
  exact ⟨p.2, H, I.tok _, h5, q2 j p hj h1⟩
theorem mt_dget1 (hu : X.A.units + 64 < cLine) : MtR X "dict.get" (rDGet1 X.K X.w) := by
  intro pins s σ H x xs v us Q I rx rs h
  obtain ⟨a, nk, kv, y, k, rfl, rfl, hd, hy, dk, q1, q2⟩ := h
  obtain rfl : v = Value.ref a := rx
  obtain ⟨u1, rfl, r1⟩ := vals1 rs
  obtain ⟨lo, hz, es, dx, er⟩ := hd.dx I
  refine call_meetsIn F.slot_dict_get dx.typeIs F.entry_dict_get (F.args_dict_get_2 _ _) (meets_get1 lo) ⟨by simp only [Around.in1_units]; omega, k, nk, es, key_is I hy r1, dk, dx, fun hn => ⟨.non, H, I.tok _, rfl, q1 hn⟩, fun j e hj he => ?_⟩
  obtain ⟨p, e2, h1, h2, h3, h4, h5⟩ := er.get hj
  rw [Array.getElem?_toList, he] at h2
  cases h2
  exact ⟨p.2, H, I.tok _, h5, q2 j p hj h1⟩
theorem ix_dict (hu : X.A.units + 64 < cLine) : IxR X (rDIx X.K X.w) := by
  intro value slice pins s σ H x y v u Q I rx ry h hs
  obtain ⟨a, nk, kv, k, j, p, rfl, hd, hy, dk, hj, hp, q⟩ := h
  obtain rfl : v = Value.ref a := rx
  obtain ⟨lo, hz, es, dx, er⟩ := hd.dx I
  obtain ⟨p2, e2, h1, h2, h3, h4, h5⟩ := er.get hj
  rw [hp] at h1
  cases h1
  rw [Array.getElem?_toList] at h2
  exact PyProof.Rows.tail_any dx.typeIs slot_dict_getitem.lookup (getItem_mix (by omega) (key_is I hy ry) dk dx hj h2 ⟨p.2, H, I.tok _, h5, q⟩) hs
theorem op_inD (hu : X.A.units + 64 < cLine) : OpR X (compareOp .In) (rDIn X.K X.w) := by
  intro pins s σ H y x u v Q I ry rx h
  obtain ⟨a, nk, kv, k, rfl, hd, hy, dk, q⟩ := h
  obtain rfl : v = Value.ref a := rx
  obtain ⟨lo, hz, es, dx, er⟩ := hd.dx I
  exact in_mix (by omega) (key_is I hy ry) dk lo dx ⟨.bl _, H, I.tok _, rfl, q⟩
theorem set_dct (hu : X.A.units + 64 < cLine) : PSet X (rDSet X.K X.w) := by
  intro pins s σ H o y v ov iv u Q I ro ri rv h
  obtain ⟨a, nk, kv, k, rfl, hd, hy, dk, hz, q1, q2⟩ := h
  obtain rfl : ov = Value.ref a := ro
  obtain ⟨lo, _, es, dx, er⟩ := hd.dx I
  have hl := er.len
  refine setItem_mix (by omega) (key_is I hy ri) dk dx (by rw [← Array.length_toList]; omega) (fun hn h' ho hs => ?_) fun j hj h' ho hs => ?_
  · exact ⟨_, hd.put I (nk' := nk ++ [k]) (kv' := kv ++ [(y, v)]) ho hs (by rw [Array.toList_push]; exact er.add rfl ri rv) (by simp; omega), q1 hn⟩
  · refine ⟨_, hd.put I (nk' := nk) (kv' := kv.modify j fun p => (p.1, v)) ho hs ?_ (by rw [List.length_modify]; omega), q2 j hj⟩
    have := er.put rv j
    rw [Array.toList_modify]
    exact this
theorem call_dlist (hc : X.calm = true) : CallR X (.type "list") (rDList X.K X.w) := by
  intro pins s σ H xs us Q I r h
  obtain ⟨a, nk, kv, rfl, hd, q⟩ := h
  rw [Vals.ref1 r]
  obtain ⟨lo, hz, es, ⟨o, ep, ho, hx, hdd, hl, _, _⟩, er⟩ := hd.dx I
  have hlen := er.len
  have hes : es.size = kv.length := by rw [← hl, hlen.1]
  refine PySem.W.kdl_call (kdl_raw lo hx hdd) (I.ok.hd hc) ho (by rw [hes]; exact hz) fun h' tk acc' c' hkeep hS hacc => ?_
  refine ⟨.ref s.heap.objs.size, upd H s.heap.objs.size (.lst (kv.map fun p => p.1)), I.laid hkeep (Nat.le_refl _) (show ObjOk X.prog X.w _ _ _ (.lst (kv.map fun p => p.1)) from ⟨by rw [List.length_map]; exact hz, acc'.toList, c', ?_, by rw [Array.toArray_toList]; exact hS⟩), rfl, q _ (I.hok.fresh (Nat.le_refl _))⟩
  refine vals_of_at (by rw [List.length_map]; have := hacc.1; simp only [Array.length_toList]; omega) fun j x w h1 h2 => ?_
  obtain ⟨en, he, rfl⟩ := hacc.2 j w (by rw [← Array.getElem?_toList]; exact h2)
  have hj : j < kv.length := by rw [List.getElem?_map] at h1; cases hq : kv[j]? with
    | none => rw [hq] at h1; cases h1
    | some p => exact (List.getElem?_eq_some_iff.mp hq).1
  obtain ⟨p, e2, g1, g2, g3, g4, g5⟩ := er.get (i := j) (List.getElem?_eq_getElem (show j < nk.length by omega))
  rw [Array.getElem?_toList, he] at g2
  cases g2
  rw [List.getElem?_map, g1] at h1
  cases h1
  exact g4
def tDNew (w : World) : TE := fun _ H Q => ∀ p, H p = none → Q (.ref p) (upd H p (DO w p [] []))
theorem pe_dnew {pos : Pos} : PE X (.Dict [] [] pos) (tDNew X.w) := ⟨fun pins s σ H Q I h =>
  wpAny_Dict_empty ⟨.ref s.heap.objs.size, _, I.laid (a := s.heap.objs.size) (o := DO X.w s.heap.objs.size [] []) (t' := s.toks) (fun _ _ q => Heap.get?_push_of_some _ q) (Nat.le_refl _)
    ⟨⟨beq_eq_false_iff_ne.mpr (Ne.symm (Nat.ne_of_lt I.big)), Nat.zero_le _, _, #[], 0, Heap.get?_push_size _ rfl, ⟨rfl, rfl, rfl⟩, rfl, trivial⟩, ⟨_, Heap.get?_push_size _ rfl⟩, fun g1 g2 ⟨c1, c2, o1, e1, p1, c3, c4, c5, c6⟩ k => ⟨c1, c2, o1, e1, p1, k _ c3, c4, c5, c6⟩⟩, rfl, h _ (I.hok.fresh (Nat.le_refl _))⟩⟩
/-- a dict's method with arguments -/
def tBMD (K : PySem.W.Frag) (w : World) (r : V → List V → Hp → VK → Prop) (to : TE) (t : TA) : TE := fun σ H Q => to σ H fun x H1 => (∃ a nk kv, x = .ref a ∧ DcV K w H1 a nk kv) ∧ t σ H1 fun xs H2 => r x xs H2 Q
theorem pe_bmD {id : String} {name : Str} {r : V → List V → Hp → VK → Prop} {o e : Expr} {es : List Expr} {to : TE} {t : TA} {apos cpos : Pos} (slot : Slot "dict" name id) (hty : typeOf (.builtin id) = pure (.type "method_descriptor")) (hm : MtR X id r) (ho : PE X o to) (ha : PA X (e :: es) t)
    (hbase : attributeBase o name X.env (eval o X.env) = eval o X.env)
    (hfew : ((backTo cpos (starEach (e :: es) X.env)).all (fun x => !x.1) && (backToKw cpos (keywordEach [] X.env)).all (fun x => x.1.isSome) && decide ((e :: es).length + ([] : List Keyword).length + (if ([] : List Keyword).isEmpty then 0 else 1) < 30)) = true)
    (hline : (apos.endLine == cpos.line) = true) (hs : starEach (e :: es) X.env = (false, eval e X.env) :: starEach es X.env) (hplain : (backTo cpos (starEach es X.env)).any (·.1) = false) :
    PE X (.Call (.Attribute o name apos) (e :: es) [] cpos) (tBMD X.K X.w r to t) := by
  refine ⟨fun pins s σ H Q I h => ?_⟩
  refine wpAny_Call_method_late hbase hfew hline rfl (thn (ho.run pins s σ H _ I h) fun v s1 ⟨x, H1, I1, r1, ⟨a, nk, kv, ex, hd⟩, q1⟩ => ?_)
  subst ex
  obtain rfl : v = Value.ref a := r1
  obtain ⟨lo, hz, es', dx, er⟩ := hd.dx I1
  have dx2 := dx
  obtain ⟨ob, ep, hob, hx, _⟩ := dx2
  refine ⟨"dict", id, F.plainAttrs_dict, slot, hty, dx.typeIs, fun b e => by cases e; exact ⟨ob, hob, hx.2.1⟩, ?_⟩
  have hA := ha.run cpos pins s1 σ H1 _ I1 q1
  rw [hs] at hA ⊢
  refine Calls.callWith_builtin (by show (false || (backTo cpos (starEach es X.env)).any (·.1)) = false; rw [hplain] <;> rfl) (Calls.evalArgs_plain ?_)
  exact thn hA fun us s2 ⟨vs, H2, I2, r2, q2⟩ => hm pins s2 σ H2 (.ref a) vs (.ref a) us Q I2 rfl r2 q2
end
end FL

set_option maxHeartbeats 2000000
/-! FLWE: dicts over data. -/
namespace FL
open PySem L2 Classical
/-- a dict's keys and values -/
def dicM : M → Option (List D × List M)
  | .d (.dic ks xs) => some (ks, xs.map .d)
  | .dic ks ms => some (ks, ms)
  | _ => none
def keyOk (x : D) : Prop := ∃ k, nkD x = some k ∧ k.depth ≤ 8
noncomputable def dFind (ks : List D) (x : D) : Option Nat := ks.findIdx? fun y => decide (y = x)
theorem dFind_some {ks : List D} {nk : List NestedKey} {x : D} {k : NestedKey} {j : Nat} (h : KsOk ks nk) (hx : nkD x = some k) (e : dFind ks x = some j) : nk[j]? = some k ∧ ks[j]? = some x := by
  unfold dFind at e
  obtain ⟨hlt, h1, _⟩ := List.findIdx?_eq_some_iff_getElem.mp e
  have e1 : ks[j] = x := of_decide_eq_true h1
  have hl := nkDs_len h.eq
  obtain ⟨y, hy, hyk⟩ := nkDs_get h.eq (i := j) (List.getElem?_eq_getElem (show j < nk.length by omega))
  rw [List.getElem?_eq_getElem hlt, e1] at hy
  cases hy
  rw [hx] at hyk
  cases hyk
  exact ⟨List.getElem?_eq_getElem (by omega), by rw [List.getElem?_eq_getElem hlt, e1]⟩
theorem dFind_none {ks : List D} {nk : List NestedKey} {x : D} {k : NestedKey} (h : KsOk ks nk) (hx : nkD x = some k) (e : dFind ks x = none) : k ∉ nk := by
  unfold dFind at e
  intro hm
  obtain ⟨j, hj⟩ := List.mem_iff_getElem?.mp hm
  obtain ⟨y, hy, hyk⟩ := nkDs_get h.eq hj
  have := nk_inj x y k hx hyk
  subst this
  have := List.findIdx?_eq_none_iff.mp e x (List.mem_of_getElem? hy)
  simp at this
theorem key_mem {ks : List D} {nk : List NestedKey} {x : D} {k : NestedKey} (h : KsOk ks nk) (hx : nkD x = some k) : x ∈ ks ↔ k ∈ nk := by
  constructor
  · intro hm
    cases e : dFind ks x with
    | some j => exact List.mem_of_getElem? (dFind_some h hx e).1
    | none =>
      have := List.findIdx?_eq_none_iff.mp e x hm
      simp at this
  · intro hm
    obtain ⟨j, hj⟩ := List.mem_iff_getElem?.mp hm
    obtain ⟨y, hy, hyk⟩ := nkDs_get h.eq hj
    have := nk_inj x y k hx hyk
    subst this
    exact List.mem_of_getElem? hy
theorem getD_some {G : Gx} {Z : Hp} {xs : List D} {vs : List V} {i : Nat} {v : V} (r : RepDs G Z xs vs) (h : vs[i]? = some v) : ∃ x, xs[i]? = some x ∧ RepD G Z x v := by
  have hl := r.len
  have hi := (List.getElem?_eq_some_iff.mp h).1
  obtain ⟨v2, h1, h2⟩ := r.get (i := i) (List.getElem?_eq_getElem (show i < xs.length by omega))
  rw [h] at h1
  cases h1
  exact ⟨_, List.getElem?_eq_getElem (by omega), h2⟩
section
variable {G : Gx} {Z H : Hp}
theorem nk_dp (zh : Same Z H) {x : D} {v : V} {k : NestedKey} (r : RepD G Z x v) (h : nkD x = some k) : Dp G.K H v k.data := by
  obtain ⟨a, b⟩ := nk_data x k h
  rw [← a]
  exact RepD.dp zh x v b r
theorem dic_rep (zh : Same Z H) {m : M} {T : Rg} {v : V} {ks : List D} {ms : List M} (r : RepM G Z H m T v) (e : dicM m = some (ks, ms)) :
    ∃ a nk kv, v = .ref a ∧ DcV G.K G.w H a nk kv ∧ KsOk ks nk ∧ RepDs G Z ks (kv.map fun p => p.1) ∧ ∃ T0, (∀ b, T0 b → T b) ∧ RepMs G Z H ms T0 (kv.map fun p => p.2) := by
  have mk : ∀ {a nk kv}, H a = some (DO G.w a nk kv) → KsOk ks nk → RepDs G Z ks (kv.map fun p => p.1) → DcV G.K G.w H a nk kv := fun {a nk kv} h1 h2 h3 => by
    refine ⟨h1, fun i k p hk hp => ?_, h2.nd, h2.dp⟩
    obtain ⟨x, hx, rx⟩ := getD_some h3 (i := i) (v := p.1) (by rw [List.getElem?_map, hp]; rfl)
    obtain ⟨y, hy, hyk⟩ := nkDs_get h2.eq hk
    rw [hx] at hy
    cases hy
    exact nk_dp zh rx hyk
  cases m with
  | d x =>
    cases x with
    | dic ks0 xs =>
      simp only [dicM, Option.some.injEq, Prod.mk.injEq] at e
      obtain ⟨rfl, rfl⟩ := e
      simp only [RepM, RepD] at r
      obtain ⟨a, nk, kv, rfl, hz, hk, r1, r2⟩ := r
      exact ⟨a, nk, kv, rfl, mk (zh _ _ hz) hk r1, hk, r1, fun _ => False, fun _ z => z.elim, r2.toM⟩
    | _ => simp [dicM] at e
  | dic ks0 ms0 =>
    simp only [dicM, Option.some.injEq, Prod.mk.injEq] at e
    obtain ⟨rfl, rfl⟩ := e
    simp only [RepM] at r
    obtain ⟨a, nk, kv, T0, rfl, sa, nt, ts, ho, hk, r1, r2⟩ := r
    exact ⟨a, nk, kv, rfl, mk ho hk r1, hk, r1, T0, ts, r2⟩
  | _ => simp [dicM] at e
end
/-! ### d.get(k, x), d[k], k in d -/
noncomputable def mGet (m : M) (x : D) (dm : M) : Res M := match dicM m with
  | some (ks, ms) => if keyOk x then (match dFind ks x with
    | some j => match ms[j]? with
      | some y => .ok y
      | none => .bad
    | none => .ok dm) else .bad
  | none => .bad
noncomputable def vGet2 (g gk gd : VE) : VE := fun env => match g env, gk env, gd env with
  | .ok m, .ok (.d x), .ok dm => mGet m x dm
  | _, _, _ => .bad
noncomputable def vGet1 (g gk : VE) : VE := fun env => match g env, gk env with
  | .ok m, .ok (.d x) => mGet m x (.d .non)
  | _, _ => .bad
noncomputable def mDx (m : M) (x : D) : Res M := match dicM m with
  | some (ks, ms) => if keyOk x then (match dFind ks x with
    | some j => match ms[j]? with
      | some y => .ok y
      | none => .bad
    | none => .bad) else .bad
  | none => .bad
noncomputable def vDx (g gk : VE) : VE := fun env => match g env, gk env with
  | .ok m, .ok (.d x) => mDx m x
  | _, _ => .bad
noncomputable def oInD : DOp := fun m1 m2 => match m1, dicM m2 with
  | .d x, some (ks, _) => if keyOk x then .ok (.bl (decide (x ∈ ks))) else .bad
  | _, _ => .bad
section
variable {G : Gx} {X : Cx} {o e e1 e2 : Expr} {g gk gd : VE} {apos cpos pos : Pos}
theorem mGet_run {Z H : Hp} {m dm y : M} {x : D} {T T1 T2 : Rg} {v vk vd : V} {Q : VK} {R : Rg} (zh : Same Z H) (rm : RepM G Z H m T v) (rk : RepM G Z H (.d x) T1 vk) (rd : RepM G Z H dm T2 vd) (hT : ∀ a, T a → R a) (hT2 : ∀ a, T2 a → R a) (e : mGet m x dm = .ok y)
    (q : ∀ u T, (∀ a, T a → R a) → RepM G Z H y T u → Q u H) : rDGet2 G.K G.w v [vk, vd] H Q := by
  unfold mGet at e
  cases hd : dicM m with
  | none => rw [hd] at e; cases e
  | some p =>
    obtain ⟨ks, ms⟩ := p
    rw [hd] at e
    simp only at e
    by_cases ok : keyOk x
    case neg => rw [if_neg ok] at e; cases e
    rw [if_pos ok] at e
    obtain ⟨k, hk, dk⟩ := ok
    obtain ⟨a, nk, kv, rfl, dv, hks, r1, T0, ts, r2⟩ := dic_rep zh rm hd
    simp only [RepM] at rk
    refine ⟨a, nk, kv, vk, vd, k, rfl, rfl, dv, nk_dp zh rk hk, dk, fun hn => ?_, fun j p hj hp => ?_⟩
    · cases hf : dFind ks x with
      | some j => exact absurd (List.mem_of_getElem? (dFind_some hks hk hf).1) hn
      | none =>
        rw [hf] at e
        cases e
        exact q vd T2 hT2 rd
    · cases hf : dFind ks x with
      | none => exact absurd (List.mem_of_getElem? hj) (dFind_none hks hk hf)
      | some j2 =>
        rw [hf] at e
        simp only at e
        have := get_unique hks.nd (dFind_some hks hk hf).1 hj
        subst this
        cases hm : ms[j2]? with
        | none => rw [hm] at e; cases e
        | some y2 =>
          rw [hm] at e
          cases e
          obtain ⟨u, hu, ru⟩ := r2.get hm
          rw [List.getElem?_map, hp] at hu
          cases hu
          exact q _ T0 (fun b z => hT b (ts b z)) ru
theorem xv_get2 (hu : X.A.units + 64 < cLine) (hK : G.K = X.K) (hw : G.w = X.w) (ho : PVs G X o g) (hk : PVs G X e1 gk) (hd : PVs G X e2 gd)
    (hbase : attributeBase o "get" X.env (eval o X.env) = eval o X.env := by rfl)
    (hfew : ((backTo cpos (starEach (e1 :: [e2]) X.env)).all (fun x => !x.1) && (backToKw cpos (keywordEach [] X.env)).all (fun x => x.1.isSome) && decide ((e1 :: [e2]).length + ([] : List Keyword).length + (if ([] : List Keyword).isEmpty then 0 else 1) < 30)) = true := by rfl)
    (hline : (apos.endLine == cpos.line) = true := by rfl) (hs : starEach (e1 :: [e2]) X.env = (false, eval e1 X.env) :: starEach [e2] X.env := by rfl) (hs2 : starEach (e2 :: []) X.env = (false, eval e2 X.env) :: starEach [] X.env := by rfl) (hplain : (backTo cpos (starEach [e2] X.env)).any (·.1) = false := by rfl) :
    PVs G X (.Call (.Attribute o "get" apos) [e1, e2] [] cpos) (vGet2 g gk gd) := by
  obtain ⟨to, po, vo⟩ := ho.ex
  obtain ⟨t1, p1, v1⟩ := hk.ex
  obtain ⟨t2, p2, v2⟩ := hd.ex
  refine ⟨_, pe_bmD F.slot_dict_get F.type_dict_get (mt_dget2 hu) po (pa_cons p1 (pa_cons p2 pa_nil hs2) hs) hbase hfew hline hs hplain, fun Z H σ env S Q gd' => ?_⟩
  unfold vGet2
  cases q0 : g env with
  | bad => trivial
  | exc _ _ => trivial
  | ok m =>
  cases q1 : gk env with
  | bad => trivial
  | exc _ _ => trivial
  | ok mk =>
  cases mk with
  | d x =>
    cases q2 : gd env with
    | bad => trivial
    | exc _ _ => trivial
    | ok dm =>
      simp only
      cases q3 : mGet m x dm with
      | bad => trivial
      | exc _ _ => trivial
      | ok y =>
        simp only
        intro q
        have h0 := vo Z H σ env S (fun x H1 => (∃ a nk kv, x = .ref a ∧ DcV X.K X.w H1 a nk kv) ∧ tCons t1 (tCons t2 tNil) σ H1 fun xs H2 => rDGet2 X.K X.w x xs H2 Q) gd'
        rw [q0] at h0
        refine h0 fun v T hT r => ⟨?_, ?_⟩
        · have hd : ∃ p, dicM m = some p := by
            unfold mGet at q3
            cases hd : dicM m with
            | none => rw [hd] at q3; cases q3
            | some p => exact ⟨p, rfl⟩
          obtain ⟨⟨ks, ms⟩, hd⟩ := hd
          obtain ⟨a, nk, kv, e, dv, _⟩ := dic_rep gd'.zh r hd
          rw [← hK, ← hw]
          exact ⟨a, nk, kv, e, dv⟩
        · have h1 := v1 Z H σ env S (fun y H1 => t2 σ H1 fun z H2 => rDGet2 X.K X.w v [y, z] H2 Q) gd'
          rw [q1] at h1
          refine h1 fun vk T1 hT1 r1 => ?_
          have h2 := v2 Z H σ env S (fun z H2 => rDGet2 X.K X.w v [vk, z] H2 Q) gd'
          rw [q2] at h2
          refine h2 fun vd T2 hT2 r2 => ?_
          rw [← hK, ← hw]
          exact mGet_run gd'.zh r r1 r2 hT hT2 q3 q
  | _ => trivial
theorem mDx_run {Z H : Hp} {m y : M} {x : D} {T T1 : Rg} {v vk : V} {Q : VK} {R : Rg} (zh : Same Z H) (rm : RepM G Z H m T v) (rk : RepM G Z H (.d x) T1 vk) (hT : ∀ a, T a → R a) (e : mDx m x = .ok y)
    (q : ∀ u T, (∀ a, T a → R a) → RepM G Z H y T u → Q u H) : rDIx G.K G.w v vk H Q := by
  unfold mDx at e
  cases hd : dicM m with
  | none => rw [hd] at e; cases e
  | some p =>
    obtain ⟨ks, ms⟩ := p
    rw [hd] at e
    simp only at e
    by_cases ok : keyOk x
    case neg => rw [if_neg ok] at e; cases e
    rw [if_pos ok] at e
    obtain ⟨k, hk, dk⟩ := ok
    obtain ⟨a, nk, kv, rfl, dv, hks, r1, T0, ts, r2⟩ := dic_rep zh rm hd
    simp only [RepM] at rk
    cases hf : dFind ks x with
    | none => rw [hf] at e; cases e
    | some j =>
      rw [hf] at e
      simp only at e
      cases hm : ms[j]? with
      | none => rw [hm] at e; cases e
      | some y2 =>
        rw [hm] at e
        cases e
        obtain ⟨u, hu, ru⟩ := r2.get hm
        rw [List.getElem?_map] at hu
        cases hp : kv[j]? with
        | none => rw [hp] at hu; cases hu
        | some p =>
          rw [hp] at hu
          cases hu
          exact ⟨a, nk, kv, k, j, p, rfl, dv, nk_dp zh rk hk, dk, (dFind_some hks hk hf).1, hp, q _ T0 (fun b z => hT b (ts b z)) ru⟩
theorem xv_dx (hu : X.A.units + 64 < cLine) (hK : G.K = X.K) (hw : G.w = X.w) (ho : PVs G X o g) (hk : PVs G X e gk) (hs : PlainIx e := by exact fun _ _ => rfl) : PVs G X (.Subscript o e pos) (vDx g gk) := by
  obtain ⟨to, po, vo⟩ := ho.ex
  obtain ⟨t1, p1, v1⟩ := hk.ex
  refine ⟨_, pe_ix (ix_dict hu) po p1 hs, fun Z H σ env S Q gd' => ?_⟩
  unfold vDx
  cases q0 : g env with
  | bad => trivial
  | exc _ _ => trivial
  | ok m =>
  cases q1 : gk env with
  | bad => trivial
  | exc _ _ => trivial
  | ok mk =>
  cases mk with
  | d x =>
    simp only
    cases q3 : mDx m x with
    | bad => trivial
    | exc _ _ => trivial
    | ok y =>
      simp only
      intro q
      have h0 := vo Z H σ env S (fun x H1 => t1 σ H1 fun y H2 => rDIx X.K X.w x y H2 Q) gd'
      rw [q0] at h0
      refine h0 fun v T hT r => ?_
      have h1 := v1 Z H σ env S (fun y H2 => rDIx X.K X.w v y H2 Q) gd'
      rw [q1] at h1
      refine h1 fun vk T1 hT1 r1 => ?_
      rw [← hK, ← hw]
      exact mDx_run gd'.zh r r1 hT q3 q
  | _ => trivial
theorem vop_inD : VOP G (rDIn G.K G.w) oInD := fun Z H m1 T1 v1 m2 T2 v2 Q zh r1 r2 => by
  unfold oInD
  cases m1 with
  | d x =>
    cases hd : dicM m2 with
    | none => trivial
    | some p =>
      obtain ⟨ks, ms⟩ := p
      simp only
      by_cases ok : keyOk x
      case neg => rw [if_neg ok]; trivial
      rw [if_pos ok]
      intro q
      obtain ⟨k, hk, dk⟩ := ok
      obtain ⟨a, nk, kv, rfl, dv, hks, rk, _⟩ := dic_rep zh r2 hd
      simp only [RepM] at r1
      refine ⟨a, nk, kv, k, rfl, dv, nk_dp zh r1 hk, dk, ?_⟩
      have e : decide (k ∈ nk) = decide (x ∈ ks) := by
        by_cases h : k ∈ nk
        · rw [decide_eq_true h, decide_eq_true ((key_mem hks hk).mpr h)]
        · rw [decide_eq_false h, decide_eq_false fun z => h ((key_mem hks hk).mp z)]
      rw [e]
      exact q _ (by simp [RepD])
  | _ => trivial
end
/-! ### d[k] = v, list(d), {} -/
noncomputable def putD (ks : List D) (ms : List M) (x : D) (m : M) : M := match dFind ks x with
  | some j => .dic ks (ms.set j m)
  | none => .dic (ks ++ [x]) (ms ++ [m])
noncomputable def ssSetD (i : Nat) (gk : VE) (f : SE) : SS := fun env => match f env with
  | .ok (m, e1) => match getE e1 i, gk e1 with
    | .ok (.dic ks ms), .ok (.d x) => if keyOk x ∧ ks.length < sizeLine then .ok (.nx, e1.set i (some (putD ks ms x m))) else .bad
    | _, _ => .bad
  | .exc x e => .exc x e
  | .bad => .bad
theorem dic_own {G : Gx} {Z H : Hp} {ks : List D} {ms : List M} {T : Rg} {v : V} (l : Hld G Z H (fun _ => False) (.dic ks ms) T v) : ∃ a nk kv T0, v = .ref a ∧ T a ∧ ¬ T0 a ∧ (∀ b, T0 b → T b) ∧ H a = some (DO G.w a nk kv) ∧ KsOk ks nk ∧ RepDs G Z ks (kv.map fun p => p.1) ∧ RepMs G Z H ms T0 (kv.map fun p => p.2) ∧ Z a = none := by
  have r := l.rep
  simp only [RepM] at r
  obtain ⟨a, nk, kv, T0, rfl, sa, nt, ts, h, hk, r1, r2⟩ := r
  exact ⟨a, nk, kv, T0, rfl, sa, nt, ts, h, hk, r1, r2, l.zf a sa⟩
theorem dic_become {G : Gx} {Z H : Hp} {ks : List D} {nk : List NestedKey} {ms : List M} {kv : List (V × V)} {T Ts T1 : Rg} {a : Addr} (zh : Same Z H) (sa : T a) (za : Z a = none) (nT : ¬ T1 a) (hk : KsOk ks nk) (r1 : RepDs G Z ks (kv.map fun p => p.1)) (r : RepMs G Z H ms T1 (kv.map fun p => p.2)) (sub : ∀ b, T1 b → T b ∨ Ts b) (al : ∀ b, T b → H b ≠ none) (al2 : ∀ b, Ts b → H b ≠ none) (zf : ∀ b, T b → Z b = none) (zf2 : ∀ b, Ts b → Z b = none) :
    Stp Z H (fun b => T b ∨ Ts b) Z (upd H a (DO G.w a nk kv)) (fun b => (T1 b ∨ b = a) ∨ False) ∧ Hld G Z (upd H a (DO G.w a nk kv)) (fun _ => False) (.dic ks ms) (fun b => T1 b ∨ b = a) (.ref a) := by
  refine ⟨(Stp.upd zh (.inl sa) za).weak fun b z => ?_, ⟨?_, fun b z => ?_, fun b z => ?_, fun _ _ z => z⟩⟩
  · rcases z with (z | rfl) | z
    · exact sub b z
    · exact .inl sa
    · exact z.elim
  · simp only [RepM]
    exact ⟨a, nk, kv, T1, rfl, .inr rfl, nT, fun b z => .inl z, upd_same, hk, r1, RepMs.mono (Same.refl _) _ _ _ _ (fun _ z => z) (fun b o sb e => by rw [upd_ne (fun z => nT (by rw [← z]; exact sb))]; exact e) r⟩
  · rcases z with z | rfl
    · exact upd_al ((sub b z).elim (al b) (al2 b))
    · exact upd_al'
  · rcases z with z | rfl
    · exact (sub b z).elim (zf b) (zf2 b)
    · exact za
theorem modify_fst (kv : List (V × V)) (j : Nat) (v : V) : (kv.modify j fun p => (p.1, v)).map (fun p => p.1) = kv.map fun p => p.1 := by
  induction kv generalizing j with
  | nil => simp
  | cons p kv ih => cases j with
    | zero => simp
    | succ j => simp [ih]
theorem modify_snd (kv : List (V × V)) (j : Nat) (v : V) : (kv.modify j fun p => (p.1, v)).map (fun p => p.2) = (kv.map fun p => p.2).set j v := by
  induction kv generalizing j with
  | nil => simp
  | cons p kv ih => cases j with
    | zero => simp
    | succ j => simp [ih]
theorem xs_setD {G : Gx} {X : Cx} {W : WX'} {P : Px} {x : Str} {ie e : Expr} {gk : VE} {f : SE} {p ps pos : Pos} (i : Nat) (hu : X.A.units + 64 < cLine) (hK : G.K = X.K) (hw : G.w = X.w) (hi : PVs G X ie gk) (he : PEs G X W e f)
    (hN : X.N[i]? = some x := by rfl) (hv : Vis X.env.scope x := by first | exact Or.inl rfl | exact Or.inr (Or.inl rfl) | exact Or.inr (Or.inr rfl)) (hd : (x == ("__debug__" : Str)) = false := by decide) (hcd : (x == ("__classdict__" : Str)) = false := by decide)
    (ha : ∀ v, assign (.Subscript (.Name x p) ie ps) X.env v = (do
      let ov ← holding [v] (eval (.Name x p) X.env)
      let iv ← holding [v, ov] (eval ie X.env)
      standAt ps
      holding [v, ov, iv] (setItem ov iv v)
      release [v, ov, iv] []) := by intro _; rfl)
    (hs : swapsWithSole [.Subscript (.Name x p) ie ps] e pos.line X.env = pure false := by rfl) (hsw : swappedStores [.Subscript (.Name x p) ie ps] e X.env = pure none := by rfl)
    (h1 : (assignEach [.Subscript (.Name x p) ie ps] X.env).map (·.2) = [assign (.Subscript (.Name x p) ie ps) X.env] := by rfl) :
    PS' G X W P (.Assign [.Subscript (.Name x p) ie ps] e pos) (ssSetD i gk f) := by
  obtain ⟨t, q, h⟩ := he.ex
  obtain ⟨ti, qi, hi⟩ := hi.ex
  refine ⟨_, ps_asg q (pg_sub (pe_var hN hv hd hcd) qi (set_dct hu) ha) hs hsw h1, fun D Z H σ env S gd k => ?_⟩
  unfold ssSetD at k
  refine h.use gd ?_
  cases e1 : f env with
  | bad => rw [e1] at k; exact k.elim
  | exc x' e' => rw [e1] at k; exact fun cls d Z' H' S' hx s' g' => k cls d σ Z' H' S' hx Fix.refl s' g'
  | ok pr =>
    obtain ⟨m, env1⟩ := pr
    rw [e1] at k
    simp only at k
    intro v Z' H' S' T s' g' l
    rcases getE_cases env1 i with ⟨mx, e2⟩ | e2
    case inr => rw [e2] at k; exact k.elim
    rw [e2] at k
    cases mx with
    | dic ks ms =>
      cases e3 : gk env1 with
      | ok mi =>
        rw [e3] at k
        cases mi with
        | d di =>
          simp only at k
          by_cases ok : keyOk di ∧ ks.length < sizeLine
          case neg => rw [if_neg ok] at k; exact k.elim
          rw [if_pos ok] at k
          obtain ⟨⟨kk, hkk, dk⟩, hz⟩ := ok
          obtain ⟨w, hw0, g1, l1⟩ := g'.take (getE_ok e2)
          refine ⟨w, hw0, ?_⟩
          have h2 := hi Z' H' σ env1 S' (fun iv H2 => rDSet X.K X.w w iv v H2 fun H3 => D.nx σ H3) g'
          rw [e3] at h2
          refine h2 fun iv _ _ ri => ?_
          simp only [RepM] at ri
          obtain ⟨a, nk, kv, T0, rfl, sa, nt, ts, ho, hk, r1, r2, za⟩ := dic_own (G := G) (v := w) ⟨l1.rep, l1.al, l1.zf, fun _ _ z => z⟩
          have d0 : ∀ b, T b → ¬ S' i b := fun b z w => l.dj b z ⟨i, w⟩
          have hlen : ks.length = kv.length := by have := r1.len; simpa using this
          have hmd : dicM (.dic ks ms) = some (ks, ms) := rfl
          obtain ⟨a2, nk2, kv2, ea, dv, _⟩ := dic_rep (G := G) g'.zh l1.rep hmd
          cases ea
          have e5 := dv.at_
          have dv2 : DcV G.K G.w H' a nk kv := by
            refine ⟨ho, fun i k p hk' hp => ?_, hk.nd, hk.dp⟩
            obtain ⟨x, hx, rx⟩ := getD_some r1 (i := i) (v := p.1) (by rw [List.getElem?_map, hp]; rfl)
            obtain ⟨y, hy, hyk⟩ := nkDs_get hk.eq hk'
            rw [hx] at hy
            cases hy
            exact nk_dp g'.zh rx hyk
          have fin : ∀ {nk' : List NestedKey} {kv' : List (V × V)} {ks' : List FL.D} {ms' : List M}, KsOk ks' nk' → RepDs G Z' ks' (kv'.map fun p => p.1) → RepMs G Z' H' ms' (fun b => T0 b ∨ T b) (kv'.map fun p => p.2) → putD ks ms di m = .dic ks' ms' → D.nx σ (upd H' a (DO X.w a nk' kv')) := by
            intro nk' kv' ks' ms' h1 h2 h3 h4
            rw [h4] at k
            obtain ⟨s, l2⟩ := dic_become (G := G) (Ts := T) g'.zh sa za (fun z => z.elim nt fun z => d0 a z sa) h1 h2 h3 (fun b z => z.elim (fun z => .inl (ts b z)) .inr) l1.al l.al l1.zf l.zf
            obtain ⟨g2, d2⟩ := g1.move s fun b z w => w.elim (fun w => l1.dj b w z) fun w => l.dj b w (Rs.wipe_le z)
            have g3 := g2.back (i := i) (m := .dic ks' ms') (v := .ref a) ⟨l2.rep, l2.al, l2.zf, fun b z w => d2 b w (.inl z)⟩ hw0
            rw [show (env1.set i none).set i (some (M.dic ks' ms')) = env1.set i (some (.dic ks' ms')) from List.set_set ..] at g3
            rw [← hw]
            refine k σ Z' _ _ Fix.refl (s'.trans (((s.frame (U (S'.set i fun _ => False))).from fun b z => ?_).weak fun b z => ?_)) g3
            · rcases z with (z | z) | z
              · exact .inl ⟨i, z⟩
              · exact .inr z
              · exact .inl (Rs.wipe_le z)
            · rcases Rs.set_sub z with z | z
              · exact .inr z
              · exact .inl (.inl z)
          rw [← hK]
          rw [hw] at dv2
          refine ⟨a, nk, kv, kk, rfl, dv2, nk_dp g'.zh ri hkk, dk, by rw [← hlen]; exact hz, fun hn => ?_, fun j hj => ?_⟩
          · refine fin (hk.add hkk dk hn) (ks' := ks ++ [di]) (ms' := ms ++ [m]) ?_ ?_ ?_
            · rw [List.map_append]
              exact RepDs.app r1 (show RepDs G Z' [di] [iv] from by simp only [RepDs]; exact ⟨iv, [], rfl, ri, rfl⟩)
            · rw [List.map_append]
              exact RepMs.app r2 (RepMs.one l.rep) (fun _ z => .inl z) (fun _ z => .inr z) fun b z w => d0 b w (ts b z)
            · unfold putD
              cases hf : dFind ks di with
              | none => rfl
              | some j => exact absurd (List.mem_of_getElem? (dFind_some hk hkk hf).1) hn
          · refine fin hk (ks' := ks) (ms' := ms.set j m) (by rw [modify_fst]; exact r1) (by rw [modify_snd]; exact RepMs.set j r2 l.rep fun b z w => d0 b z (ts b w)) ?_
            unfold putD
            cases hf : dFind ks di with
            | none => exact absurd (List.mem_of_getElem? hj) (dFind_none hk hkk hf)
            | some j2 =>
              have := get_unique hk.nd (dFind_some hk hkk hf).1 hj
              subst this
              rfl
        | _ => exact k.elim
      | _ => rw [e3] at k; exact k.elim
    | _ => exact k.elim
def sDict0 : SE := fun env => .ok (.dic [] [], env)
theorem xe_dict0 {G : Gx} {X : Cx} {W : WX'} {pos : Pos} (hw : G.w = X.w) : PEs G X W (.Dict [] [] pos) sDict0 := by
  refine ⟨_, pe_dnew, SEok.mk' fun Z H σ env S Q gd k p hp => ?_⟩
  have pS : ¬ U S p := fun z => gd.al' p z hp
  have zp : Z p = none := by
    cases e : Z p with
    | none => rfl
    | some o => rw [gd.zh p o e] at hp; cases hp
  rw [← hw]
  refine k (.ref p) _ _ S (fun a => a = p) (Stp.new (o := DO G.w p [] []) gd.zh hp (U S)) (gd.move (Stp.new (o := DO G.w p [] []) gd.zh hp (fun _ => False)) fun _ _ z => z).1 ⟨?_, (fun a z => by rw [z, upd_same]; exact (fun z => nomatch z)), (fun a z => by rw [z]; exact zp), (fun a z => by rw [z]; exact pS)⟩
  simp only [RepM]
  exact ⟨p, [], [], fun _ => False, rfl, rfl, fun z => z, fun _ z => z.elim, upd_same, ⟨rfl, List.nodup_nil, fun x h => by simp at h⟩, by simp [RepDs], by simp [RepMs]⟩
noncomputable def sListD (g : VE) : SE := fun env => match g env with
  | .ok m => match dicM m with
    | some (ks, _) => .ok (.lst (ks.map .d), env)
    | none => .bad
  | _ => .bad
theorem xe_listD {G : Gx} {X : Cx} {W : WX'} {e : Expr} {g : VE} {p pos : Pos} (hc : X.calm = true) (hK : G.K = X.K) (hw : G.w = X.w) (hm : X.mg "list" = none) (ha : PVs G X e g) (hv : bootBuiltins "list" = some (.type "list") := by decide +kernel) (hg : Gl X "list" := by rfl) (hst : starEach [e] X.env = (false, eval e X.env) :: starEach [] X.env := by rfl) (hpl : (backTo pos (starEach [] X.env)).any (·.1) = false := by rfl) :
    PEs G X W (.Call (.Name "list" p) [e] [] pos) (sListD g) := by
  obtain ⟨t, q, h⟩ := ha.ex
  refine ⟨_, pe_callTy (call_dlist hc) hg hm hv (pa_cons q pa_nil hst) (by decide) (by decide) hst hpl, SEok.mk' fun Z H σ env S Q gd k => ?_⟩
  unfold sListD at k
  have h1 := h Z H σ env S (fun x H1 => rDList X.K X.w [x] H1 Q) gd
  cases e1 : g env with
  | bad => rw [e1] at k; exact k.elim
  | exc x e' => rw [e1] at k; exact k.elim
  | ok m =>
    rw [e1] at k h1
    simp only at k h1
    cases e3 : dicM m with
    | none => rw [e3] at k; exact k.elim
    | some pr =>
      obtain ⟨ks, ms⟩ := pr
      rw [e3] at k
      refine h1 fun v T _ r => ?_
      obtain ⟨a, nk, kv, rfl, dv, hks, r1, _⟩ := dic_rep gd.zh r e3
      rw [← hK, ← hw]
      refine ⟨a, nk, kv, rfl, dv, fun b hb => ?_⟩
      have pS : ¬ U S b := fun z => gd.al' b z hb
      exact k (.ref b) _ _ S (fun a => a = b) (Stp.new (o := .lst (kv.map fun p => p.1)) gd.zh hb (U S)) (gd.move (Stp.new (o := .lst (kv.map fun p => p.1)) gd.zh hb (fun _ => False)) fun _ _ z => z).1 (lst_newD gd.zh r1 hb pS)
end FL

set_option maxHeartbeats 2000000
/-! FLWF: dicts whose values are a function of their keys; comprehensions with a test. -/
namespace FL
open PySem L2 Classical
theorem dFind_mem {ks : List D} {x : D} (h : x ∈ ks) : ∃ j, dFind ks x = some j ∧ ks[j]? = some x := by
  unfold dFind
  cases e : ks.findIdx? fun y => decide (y = x) with
  | none =>
    have := List.findIdx?_eq_none_iff.mp e x h
    simp at this
  | some j =>
    obtain ⟨hlt, h1, _⟩ := List.findIdx?_eq_some_iff_getElem.mp e
    exact ⟨j, rfl, by rw [List.getElem?_eq_getElem hlt, of_decide_eq_true h1]⟩
theorem dFind_not {ks : List D} {x : D} (h : x ∉ ks) : dFind ks x = none := by
  unfold dFind
  refine List.findIdx?_eq_none_iff.mpr fun y hy => ?_
  exact decide_eq_false fun e => h (e ▸ hy)
theorem mGet_map {ks : List D} {φ : D → M} {x : D} {dm : M} (ok : keyOk x) : mGet (.dic ks (ks.map φ)) x dm = .ok (if x ∈ ks then φ x else dm) := by
  unfold mGet
  simp only [dicM, if_pos ok]
  by_cases h : x ∈ ks
  · obtain ⟨j, e, hj⟩ := dFind_mem h
    simp only [e, List.getElem?_map, hj, Option.map_some, if_pos h]
  · simp only [dFind_not h, if_neg h]
theorem mDx_map {ks : List D} {φ : D → M} {x : D} (ok : keyOk x) (h : x ∈ ks) : mDx (.dic ks (ks.map φ)) x = .ok (φ x) := by
  unfold mDx
  obtain ⟨j, e, hj⟩ := dFind_mem h
  simp only [dicM, if_pos ok, e, List.getElem?_map, hj, Option.map_some]
theorem putD_in {ks : List D} {φ : D → M} {x : D} {m : M} (hn : ks.Nodup) (h : x ∈ ks) : putD ks (ks.map φ) x m = .dic ks (ks.map fun k => if k = x then m else φ k) := by
  unfold putD
  obtain ⟨j, e, hj⟩ := dFind_mem h
  simp only [e]
  congr 1
  apply List.ext_getElem?
  intro i
  have hjl : j < ks.length := (List.getElem?_eq_some_iff.mp hj).1
  by_cases hij : j = i
  · subst hij
    rw [List.getElem?_set_self (by simpa using hjl), List.getElem?_map, hj]
    simp
  · rw [List.getElem?_set_ne hij, List.getElem?_map, List.getElem?_map]
    cases hi : ks[i]? with
    | none => rfl
    | some y =>
      have : y ≠ x := fun z => by
        subst z
        exact hij ((List.getElem?_inj hjl hn).mp (hj.trans hi.symm))
      simp [this]
theorem putD_new {ks : List D} {φ : D → M} {x : D} {m : M} (h : x ∉ ks) : putD ks (ks.map φ) x m = .dic (ks ++ [x]) ((ks ++ [x]).map fun k => if k = x then m else φ k) := by
  unfold putD
  simp only [dFind_not h]
  congr 1
  rw [List.map_append]
  congr 1
  · apply List.map_congr_left
    intro y hy
    have : y ≠ x := fun z => h (z ▸ hy)
    simp [this]
  · simp
theorem lcl_if {own : List Nat} {g : SG} {c : SB} {f : SE} {env : Env} {α : Type} (dd : α → D) (φ : α → M) (p : α → Bool) : ∀ (xs : List α) (acc : List M),
    (∀ x ∈ xs, ∃ e1 e2 e3, g (.d (dd x)) env = .ok e1 ∧ c e1 = .ok (p x, e2) ∧ (p x = true → f e2 = .ok (φ x, e3) ∧ killAll own e3 = env) ∧ (p x = false → killAll own e2 = env)) → lcl own g c f (xs.map dd) acc env = .ok (acc ++ (xs.filter p).map φ, env)
  | [], acc, _ => by simp [lcl]
  | x :: xs, acc, h => by
    obtain ⟨e1, e2, e3, h1, h2, h3, h4⟩ := h x (by simp)
    cases hp : p x with
    | true =>
      rw [hp] at h2
      obtain ⟨h5, h6⟩ := h3 hp
      simp only [List.map_cons, lcl, h1, h2, h5, h6]
      rw [lcl_if dd φ p xs (acc ++ [φ x]) fun y hy => h y (by simp [hy])]
      simp [hp]
    | false =>
      rw [hp] at h2
      simp only [List.map_cons, lcl, h1, h2, h4 hp]
      rw [lcl_if dd φ p xs acc fun y hy => h y (by simp [hy])]
      simp [hp]
theorem nk_rows : ∀ rs : List (List Nat × Int), ∃ ks, nkDs (rs.map rowD) = some ks ∧ NestedKey.depthAll ks ≤ 1
  | [] => ⟨[], rfl, by simp [NestedKey.depthAll]⟩
  | r :: rs => by
    obtain ⟨ks, h1, h2⟩ := nk_rows rs
    refine ⟨.tup [.text (sl r.1), .num r.2] :: ks, ?_, ?_⟩
    · simp only [List.map_cons, nkDs, rowD, nkD, h1]
    · simp only [NestedKey.depthAll, NestedKey.depth]; omega
theorem Out.key {x : D} (h : Out x) : keyOk x := by
  cases h with
  | non => exact ⟨.none, rfl, by simp [NestedKey.depth]⟩
  | int i => exact ⟨.num i, rfl, by simp [NestedKey.depth]⟩
  | rcd rs =>
    obtain ⟨ks, h1, h2⟩ := nk_rows rs
    exact ⟨.tup ks, by simp only [nkD, h1], by simp only [NestedKey.depth]; omega⟩
end FL

namespace FL
open PySem L2
theorem lk_re {env : PySem.Env} {k0 : NameKind} (p : NameKind → Prop) (h0 : p k0) (h1 : k0 = .free → p .cell) : ∀ {names : List (Str × NameKind)} {x : Str}, names.lookup x = some k0 →
    ∃ k, (names.map fun (n, k) => if (k == NameKind.free && env.scope.kind == .function && env.kindOf n == some .cell) then (n, NameKind.cell) else (n, k)).lookup x = some k ∧ p k
  | [], _, h => by simp at h
  | (n, k) :: r, x, h => by
    have ih := @lk_re env k0 p h0 h1 r x
    show ∃ k', List.lookup x ((if (k == NameKind.free && env.scope.kind == .function && env.kindOf n == some .cell) = true then (n, NameKind.cell) else (n, k)) :: _) = some k' ∧ p k'
    cases hx : x == n with
    | true =>
      simp only [List.lookup_cons, hx] at h
      cases h
      by_cases hc : (k0 == NameKind.free && env.scope.kind == .function && env.kindOf n == some .cell) = true
      · rw [if_pos hc]; simp only [List.lookup_cons, hx]
        refine ⟨_, rfl, h1 ?_⟩
        simp at hc; exact hc.1.1
      · rw [if_neg hc]; simp only [List.lookup_cons, hx]; exact ⟨_, rfl, h0⟩
    | false =>
      simp only [List.lookup_cons, hx] at h
      by_cases hc : (k == NameKind.free && env.scope.kind == .function && env.kindOf n == some .cell) = true
      · rw [if_pos hc]; simp only [List.lookup_cons, hx]; exact ih h
      · rw [if_neg hc]; simp only [List.lookup_cons, hx]; exact ih h
/-- a comprehension within a comprehension -/
theorem blkOk_re {N : List Str} {sc scope : Scope} {own : List (Str × Nat)} {env : PySem.Env} (ok : BlkOk N sc scope own) : BlkOk N (relabel sc env) scope own :=
  ⟨ok.kind, ok.uniq, ok.ix, fun y hy e => by
    rcases ok.free y hy e with z | z
    · obtain ⟨k, hk, e⟩ := lk_re (env := env) (fun k => k = .cell) rfl (fun z => nomatch z) z
      exact .inl (by subst e; exact hk)
    · obtain ⟨k, hk, e⟩ := lk_re (env := env) (fun k => k = .cell ∨ k = .free) (.inr rfl) (fun _ => .inl rfl) z
      rcases e with e | e
      · exact .inl (by subst e; exact hk)
      · exact .inr (by subst e; exact hk), ok.own⟩
end FL

/-! FLWH: a value frozen as soon as it is told. -/
namespace FL
open PySem L2 Classical
def sFz (f : SE) : SE := fun env => match f env with
  | .ok (m, e) => .ok (.d (fz m), e)
  | .exc x e => .exc x e
  | .bad => .bad
theorem SEok.fz {G : Gx} {W : WX'} {t : TE} {f : SE} (h : SEok G W t f) : SEok G W t (sFz f) := SEok.mk' fun Z H σ env S Q gd k => by
  unfold sFz at k
  refine h.use gd ?_
  cases e1 : f env with
  | bad => rw [e1] at k; exact k.elim
  | exc x e' => rw [e1] at k; exact k
  | ok pr =>
    obtain ⟨m, env1⟩ := pr
    rw [e1] at k
    simp only at k
    intro v Z' H' S' T s' g' l
    obtain ⟨rz, sz⟩ := l.frozen g'.zh
    have sT : Stp Z' H' T (Fzp Z' H' T) H' T := ⟨sz.z, sz.zh, fun _ _ e _ => e, fun _ z => .inl z, fun a z => by
      by_cases ta : T a
      · exact .inr (.inl ta)
      · rw [frz_out ta] at z; exact .inl z⟩
    have g2 := (g'.move sT fun a z w => l.dj a w z).1
    exact k v _ _ S' (fun _ => False) ((s'.trans sz).weak fun _ z => z.elim (fun z => z) fun z => z.elim) g2 (Hld.data rz)
theorem xe_fz {G : Gx} {X : Cx} {W : WX'} {e : Expr} {f : SE} (ha : PEs G X W e f) : PEs G X W e (sFz f) := by
  obtain ⟨t, q, h⟩ := ha.ex
  exact ⟨t, q, h.fz⟩
theorem sLc_eq {own : List Nat} {fi : SI} {g : SG} {c : SB} {f : SE} {env e e2 : FL.Env} {xs : List D} {ms : List M} (h1 : fi env = .ok (xs, e)) (h2 : xs.length ≤ sizeLine) (h3 : lcl own g c f xs [] (killAll own e) = .ok (ms, e2)) : sLc own fi g c f env = .ok (.lst ms, e2) := by
  unfold sLc
  rw [h1]
  simp only []
  rw [if_pos h2, h3]
theorem sLcW_eq {own ws : List Nat} {fi : SIw} {g : SG} {c : SB} {f : SE} {env e2 : FL.Env} {xs : List D} {ms : List M} (h1 : fi env = .ok xs) (h2 : xs.length ≤ sizeLine) (h0 : ∀ i ∈ ws, i ∉ own) (h3 : lclw own ws env g c f xs [] (killAll own env) = .ok (ms, e2)) : sLcW own ws fi g c f env = .ok (.lst ms, e2) := by
  unfold sLcW
  rw [h1]
  simp only []
  rw [if_pos ⟨h2, h0⟩, h3]
theorem ssSet_eq {i : Nat} {f : SE} {env e : FL.Env} {m : M} (h : f env = .ok (m, e)) (hi : i < e.length) : ssSet i f env = .ok (.nx, e.set i (some m)) := by
  unfold ssSet
  rw [h]
  simp only []
  rw [if_pos hi]
theorem ssFor_eq {fi : SI} {g : SG} {b : SS} {env e : FL.Env} {xs : List D} (h : fi env = .ok (xs, e)) : ssFor fi g b env = fl g b xs e := by
  unfold ssFor
  rw [h]
theorem ssForW_eq {ws : List Nat} {fi : SIw} {g : SG} {b : SS} {env : FL.Env} {xs : List D} (h : fi env = .ok xs) : ssForW ws fi g b env = flw ws env g b xs env := by
  unfold ssForW
  rw [h]
end FL

/-! FLWI: single steps of the plain readings, each as a law of its own. -/
namespace FL
open PySem L2 Classical
theorem saNil_eq (env : FL.Env) : saNil env = .ok ([], env) := rfl
theorem saCons_eq {f : SE} {fs : SA} {env e1 e2 : FL.Env} {m : M} {ms : List M} (h : f env = .ok (m, e1)) (h2 : fs e1 = .ok (ms, e2)) : saCons f fs env = .ok (m :: ms, e2) := by
  unfold saCons; rw [h]; simp only []; rw [h2]
theorem sa1_eq {f : SE} {env e1 : FL.Env} {m : M} (h : f env = .ok (m, e1)) : saCons f saNil env = .ok ([m], e1) := saCons_eq h rfl
theorem sa2_eq {f g : SE} {env e1 e2 : FL.Env} {m n : M} (h : f env = .ok (m, e1)) (h2 : g e1 = .ok (n, e2)) : saCons f (saCons g saNil) env = .ok ([m, n], e2) := saCons_eq h (sa1_eq h2)
theorem sa3_eq {f g k : SE} {env e1 e2 e3 : FL.Env} {m n o : M} (h : f env = .ok (m, e1)) (h2 : g e1 = .ok (n, e2)) (h3 : k e2 = .ok (o, e3)) : saCons f (saCons g (saCons k saNil)) env = .ok ([m, n, o], e3) := saCons_eq h (sa2_eq h2 h3)
theorem sCall_eq {F : FS} {bk : Bk} {fs : SA} {env e1 ms' : FL.Env} {ms : List M} {r : M} (h : fs env = .ok (ms, e1)) (h2 : F ms = .ok (r, ms')) : sCall F bk fs env = .ok (r, putBack bk ms' e1) := by
  unfold sCall; rw [h]; simp only []; rw [h2]
theorem putBack_none : ∀ (bk : Bk) (ms env : FL.Env), (∀ x ∈ bk, x = none) → putBack bk ms env = env
  | [], ms, env, _ => by cases ms <;> rfl
  | x :: bk, [], env, h => by
    have := h x (by simp); subst this; rfl
  | x :: bk, m :: ms, env, h => by
    have := h x (by simp); subst this
    show putBack bk ms env = env
    exact putBack_none bk ms env fun y hy => h y (by simp [hy])
theorem sCall_n {F : FS} {bk : Bk} {fs : SA} {env e1 ms' : FL.Env} {ms : List M} {r : M} (hb : ∀ x ∈ bk, x = none) (h : fs env = .ok (ms, e1)) (h2 : F ms = .ok (r, ms')) : sCall F bk fs env = .ok (r, e1) := by
  rw [sCall_eq h h2, putBack_none bk ms' e1 hb]
theorem sFz_eq {f : SE} {env e : FL.Env} {m : M} (h : f env = .ok (m, e)) : sFz f env = .ok (.d (fz m), e) := by
  unfold sFz; rw [h]
theorem s2_eq {op : DOp} {f g : SE} {env e1 e2 : FL.Env} {m1 m2 : M} {x : D} (h1 : f env = .ok (m1, e1)) (h2 : g e1 = .ok (m2, e2)) (h3 : op m1 m2 = .ok x) : s2 op f g env = .ok (.d x, e2) := by
  unfold s2; rw [h1]; simp only []; rw [h2]; simp only []; rw [h3]
theorem s2v_eq {op : DOp} {f : SE} {g : VE} {env e1 : FL.Env} {m1 m2 : M} {x : D} (h1 : f env = .ok (m1, e1)) (h2 : g e1 = .ok m2) (h3 : op m1 m2 = .ok x) : s2v op f g env = .ok (.d x, e1) := by
  unfold s2v; rw [h1]; simp only []; rw [h2]; simp only []; rw [h3]
theorem sB_eq {op : LOp} {fs : SA} {env e : FL.Env} {ms : List M} {x : D} (h : fs env = .ok (ms, e)) (h2 : op ms = .ok x) : sB op fs env = .ok (.d x, e) := by
  unfold sB; rw [h]; simp only []; rw [h2]
theorem sbE_eq {f : SE} {env e : FL.Env} {b : Bool} (h : f env = .ok (.d (.bl b), e)) : sbE f env = .ok (b, e) := by
  unfold sbE; rw [h]
theorem sbNot_eq {c : SB} {env e : FL.Env} {b : Bool} (h : c env = .ok (b, e)) : sbNot c env = .ok (!b, e) := by
  unfold sbNot; rw [h]
theorem ssIf_t {c : SB} {f g : SS} {env e : FL.Env} (h : c env = .ok (true, e)) : ssIf c f g env = f e := by
  unfold ssIf; rw [h]
theorem ssIf_f {c : SB} {f g : SS} {env e : FL.Env} (h : c env = .ok (false, e)) : ssIf c f g env = g e := by
  unfold ssIf; rw [h]
theorem ssRet_eq {f : SE} {env e : FL.Env} {m : M} (h : f env = .ok (m, e)) : ssRet f env = .ok (.ret m, e) := by
  unfold ssRet; rw [h]
theorem ssDrop_eq {f : SE} {env e : FL.Env} {m : M} (h : f env = .ok (m, e)) : ssDrop f env = .ok (.nx, e) := by
  unfold ssDrop; rw [h]
theorem sMeth_eq {isT : M → Bool} {i : Nat} {op : MM} {fs : SA} {env e : FL.Env} {m0 m m' x : M} {ms : List M} (h0 : getE env i = .ok m0) (ht : isT m0 = true) (h : fs env = .ok (ms, e)) (h1 : getE e i = .ok m) (h2 : op m ms = .ok (x, m')) : sMeth isT i op fs env = .ok (x, e.set i (some m')) := by
  unfold sMeth; rw [h0]; simp only []; rw [if_pos ht, h]; simp only []; rw [h1]; simp only []; rw [h2]
end FL

set_option maxHeartbeats 2000000
/-! FLWJ: sorted(a dict, key=f). -/
namespace PySem.W
open PySem PySem.Calls PyProof.Rows PyProof.V PySem.Spec
section
variable {prog : Program} {w : World} {A : Around} {E : Value → Shared → Prop} {s : Shared} {T : String} {r d : Addr} {n : Nat} {P : Nat → Value → Prop} {OK : Heap → Prop} {β : Type} {bs : List β} {R : Value → β → Prop}
theorem sorted_src_key {f : Value} {kw : List (Str × Value)} {b : Bool} {Q : Value → Shared → Prop} (K : KdlSrc prog w T r d n P OK) (hh : A.handled = none) (hok : OK s.heap) (hn : n ≤ sizeLine) (k : β → PyData) (hbn : bs.length = n) (hbs : ∀ acc : Array Value, ItemsOf P acc n → EachIs R acc.toList bs)
    (hal : AllAlike (bs.map k)) (hk : Sortable (bs.map k)) (hu : ∀ x, x ∈ bs → A.units + 2 + (k x).depth < cLine) (ha1 : argsOk "sorted" ⟨[.ref r], kw⟩) (ha2 : ∀ x, argsOk "list.sort" ⟨[.ref x], kw⟩) (ht : ∀ x, Builtin.«list.sort» ⟨[.ref x], kw⟩ = ksk_tree x f b)
    (turn : ∀ (v : Value) (x : β), R v x → x ∈ bs → ∀ (h : Heap) (tk : Nat), (∀ b o, s.heap.get? b = some o → h.get? b = some o) →
      wpAny (model prog w) A.in1.in1 (call f [v]) (KeyPure (k x) { s with heap := h, toks := tk }) (fun _ _ => False) { s with heap := h, toks := tk })
    (h : ∀ (D : Addr) out c h' tk, (∀ b o, s.heap.get? b = some o → h'.get? b = some o) → s.heap.get? D = none → h'.get? D = some (seqObj "list" (List.toArray out) c) → out.length = bs.length → EachIs R out (bs.mergeSort (dataLe b k)) →
      Q (.ref D) { s with heap := h', toks := tk }) :
    wpAny (model prog w) A (call (.builtin "sorted") [.ref r] kw) Q E s := by
  refine call_function_entry_kw kind_sorted plain_sorted entry_sorted ha1 ?_
  unfold Builtin.«sorted»
  refine wpAny_bind (m := checkCount "sorted" 1 1 _) (wpAny_pure ?_)
  refine wpAny_bind (kdu_collect (A := A.in1) K hh hok hn fun h1 tk acc hk1 hacc => ?_)
  have hl : acc.toList.length = n := by rw [Array.length_toList]; exact hacc.1
  refine wpAny_bind (wpAny_newList ?_ (by rw [hl]; exact hn))
  have e := hbs acc hacc
  have hle : s.heap.get? h1.objs.size = none := by
    cases q : s.heap.get? h1.objs.size with
    | none => rfl
    | some o => exact absurd (Heap.lt_size (hk1 _ o q)) (Nat.lt_irrefl _)
  have up : ∀ {g : Heap}, KeepsBut h1.objs.size (h1.push { cls := .type "list", data := .seq acc.toList.toArray }) g → ∀ b o, s.heap.get? b = some o → g.get? b = some o := fun {g} kp b o q =>
    kp b o (Nat.ne_of_lt (Heap.lt_size (hk1 b o q))) (Heap.get?_push_of_some _ (hk1 b o q))
  refine wpAny_bind (wpAny_holding (wpAny_mono (list_sort_key_data (A := A.in1) (s := { s with heap := h1.push { cls := .type "list", data := .seq acc.toList.toArray }, toks := tk }) (a := h1.objs.size) (n := 0) (b := b) (Q := fun _ s' => Q (.ref h1.objs.size) s') k (Heap.get?_push_size _ rfl) e hal hk (by rw [hbn]; exact hn) (fun x hx => hu x hx) (ha2 _) (ht _)
    (fun v x hR hx g tk' kp => turn v x hR hx g tk' (up kp)) fun out c g tk' kp hD hlen eo => h h1.objs.size out c g tk' (up kp) hle hD hlen eo) (fun _ s' x => ?_) fun _ _ e => e))
  exact wpAny_pure ⟨_, rfl, x⟩
end
end PySem.W
namespace FL
open PySem L2 Classical
def rSrtKD (K : PySem.W.Frag) (w : World) (f : Addr) (kd : PyData → PyData → Prop) : List V → List V → Hp → VK → Prop := fun vs zs H Q => ∃ (a : Addr) (nk : List NestedKey) (kv : List (V × V)) (ps : List KItem), vs = [.ref a] ∧ zs = [.ref f] ∧ DcV K w H a nk kv ∧ ps.map (·.v) = kv.map (·.1) ∧
  (∀ p ∈ ps, Dp K H p.v p.x ∧ noL p.x = true ∧ kd p.x p.key ∧ p.key.depth ≤ 60) ∧ PySem.W.AllAlike (ps.map (·.key)) ∧ PySem.W.Sortable (ps.map (·.key)) ∧
  ∀ q, H q = none → Q (.ref q) (upd H q (.lst ((ps.mergeSort (PySem.W.dataLe false (fun p : KItem => p.key))).map (·.v))))
theorem cr_srtKD {X : Cx} {k : Nat} {f : Addr} {kd : PyData → PyData → Prop} (hc : X.calm = true) (T : KeyT X.prog X.w X.K X.mg X.base k f kd) (hr : Room (k + 2) X.A) : CallRK X (.builtin "sorted") [Str.ofString "key"] (rSrtKD X.K X.w f kd) := by
  intro pins s σ H vs zs us ws Q I r rz h
  obtain ⟨a, nk, kv, ps, rfl, rfl, hd, hpv, hdp, hal, hk, q⟩ := h
  rw [Vals.ref1 r]
  obtain ⟨w1, rfl, e1⟩ := vals1 rz
  obtain rfl : w1 = Value.ref f := e1
  have hun : X.A.units + 66 < cLine := by have := hr.un; omega
  obtain ⟨lo, hz, es, ⟨o, ep, ho, hx, hdd, hl, _, _⟩, er⟩ := hd.dx I
  have hlen := er.len
  have hes : es.size = kv.length := by rw [← hl, hlen.1]
  have hpl : ps.length = kv.length := by have := congrArg List.length hpv; simpa using this
  refine PySem.W.sorted_src_key (b := false) (f := Value.ref f) (kw := [(Str.ofString "key", Value.ref f)]) (R := fun v (p : KItem) => RelV p.v v ∧ Reads s.heap v p.x [] ∧ kd p.x p.key) (kdl_raw lo hx hdd) (I.ok.hd hc) ho (by rw [hes]; exact hz) (fun p : KItem => p.key) (by rw [hes]; exact hpl) (fun acc' hacc => ?_) hal hk (fun p hp => by have := (hdp p hp).2.2.2; omega) (PyProof.Rows.ksk_s1 _ _) (fun _ => PyProof.Rows.ksk_l1 _ _) (fun _ => PyProof.Rows.ksk_t1 _ _)
    (fun v p ⟨_, hrd, hkd⟩ _ h tk kp => T X.A.in1.in1 X.stack _ v p.x p.key _ I.mod hr.in1.in1 (Kp.trans (show Kp X.base s.heap from I.bk) kp) (PyProof.Rows.Reads.keeps kp hrd) hkd) fun D out c h' tk kp hge hD hln eo => ?_
  · have hv : Vals (ps.map (·.v)) acc'.toList := by
      rw [hpv]
      refine vals_of_at (by rw [List.length_map]; have := hacc.1; simp only [Array.length_toList]; omega) fun j x w h1 h2 => ?_
      obtain ⟨en, he, rfl⟩ := hacc.2 j w (by rw [← Array.getElem?_toList]; exact h2)
      have hj : j < kv.length := by rw [List.getElem?_map] at h1; cases hq : kv[j]? with
        | none => rw [hq] at h1; cases h1
        | some p => exact (List.getElem?_eq_some_iff.mp hq).1
      obtain ⟨p, e2, g1, g2, g3, g4, g5⟩ := er.get (i := j) (List.getElem?_eq_getElem (show j < nk.length by omega))
      rw [Array.getElem?_toList, he] at g2
      cases g2
      rw [List.getElem?_map, g1] at h1
      cases h1
      exact g4
    have key : ∀ {us : List Value} {qs : List KItem}, PySem.W.EachIs (fun u (p : KItem) => RelV p.v u) us qs → (∀ p ∈ qs, Dp X.K H p.v p.x ∧ noL p.x = true ∧ kd p.x p.key ∧ p.key.depth ≤ 60) → PySem.W.EachIs (fun v (p : KItem) => RelV p.v v ∧ Reads s.heap v p.x [] ∧ kd p.x p.key) us qs := by
      intro us qs e'
      induction e' with
      | nil => intro _; exact .nil
      | cons a b ih =>
        intro hh
        rename_i b0 _ _
        have h0 := hh b0 (by simp)
        obtain ⟨as, r0⟩ := Dp.reads I _ _ _ h0.1 a
        have := reads_nil _ _ _ r0 h0.2.1
        subst this
        exact .cons ⟨a, r0, h0.2.2.1⟩ (ih fun p hp => hh p (by simp [hp]))
    exact key (items_each hv) hdp
  · have hv := each_items eo fun _ _ z => z.1
    have hlen2 : ((ps.mergeSort (PySem.W.dataLe false (fun p : KItem => p.key))).map (·.v)).length ≤ sizeLine := by
      rw [List.length_map, List.length_mergeSort, hpl]
      exact hz
    exact ⟨.ref D, upd H D (.lst ((ps.mergeSort (PySem.W.dataLe false (fun p : KItem => p.key))).map (·.v))), I.laidN (t' := tk) kp hge (I.hok.gone hge) ⟨hlen2, out, c, hv, hD⟩, rfl, q _ (I.hok.gone hge)⟩
theorem srtKD_data {G : Gx} {Z H : Hp} {a f : Addr} {kf : PyData → Option PyData} {xs : List D} {nk : List NestedKey} {kv : List (V × V)} {Q : VK} (zh : Same Z H) (hs : DcV G.K G.w H a nk kv) (rr : RepDs G Z xs (kv.map fun p => p.1)) (ok : SrtKOk kf xs) (q : ∀ p ws, H p = none → RepDs G Z (srtK kf xs) ws → Q (.ref p) (upd H p (.lst ws))) :
    rSrtKD G.K G.w f (fun x y => kf x = some y) [.ref a] [.ref f] H Q := by
  obtain ⟨us, hus⟩ : ∃ us, us = kv.map fun p => p.1 := ⟨_, rfl⟩
  rw [← hus] at rr
  have hl := rr.len
  have e1 := zip_fst hl
  have e2 := zip_snd hl
  have hr := repDs_zip rr
  let mk : D × V → KItem := fun p => ⟨toPy p.1, keyOf kf p.1, p.2⟩
  let ps : List KItem := (List.zip xs us).map mk
  have p1 : ps.map (·.key) = xs.map (keyOf kf) := by
    show ((List.zip xs us).map mk).map (·.key) = _
    have h := congrArg (List.map (keyOf kf)) e1
    rw [List.map_map] at h ⊢
    exact h
  have p2 : ps.map (·.v) = us := by
    show ((List.zip xs us).map mk).map (·.v) = _
    rw [List.map_map]
    exact e2
  refine ⟨a, nk, kv, ps, rfl, rfl, hs, by rw [p2]; exact hus, fun p hp => ?_, by rw [p1]; exact ok.2.1, by rw [p1]; exact ok.2.2, fun b hb => ?_⟩
  · obtain ⟨w, hw, rfl⟩ := List.mem_map.mp hp
    have hx : w.1 ∈ xs := by rw [← e1]; exact List.mem_map_of_mem hw
    have h0 := ok.1 _ hx
    refine ⟨RepD.dp zh _ _ h0.1 (hr w hw), h0.2.1, ?_, h0.2.2.2⟩
    obtain ⟨y, hy⟩ := Option.isSome_iff_exists.mp h0.2.2.1
    show kf (toPy w.1) = some (keyOf kf w.1)
    unfold keyOf
    rw [hy]; rfl
  · have m1 : ps.mergeSort (PySem.W.dataLe false (fun p : KItem => p.key)) = ((List.zip xs us).mergeSort (PySem.W.dataLe false fun p : D × V => keyOf kf p.1)).map mk := by
      show ((List.zip xs us).map mk).mergeSort _ = _
      rw [List.map_mergeSort]
      intro a _ b _
      rfl
    have m2 : srtK kf xs = ((List.zip xs us).mergeSort (PySem.W.dataLe false fun p : D × V => keyOf kf p.1)).map (·.1) := by
      have h : srtK kf xs = srtK kf ((List.zip xs us).map (·.1)) := by rw [e1]
      rw [h]
      unfold srtK
      rw [List.map_mergeSort]
      intro a _ b _
      rfl
    rw [m1, List.map_map]
    have hq : ∀ p ∈ (List.zip xs us).mergeSort (PySem.W.dataLe false fun p : D × V => keyOf kf p.1), RepD G Z p.1 p.2 := fun p hp => hr p ((List.mergeSort_perm _ _).mem_iff.mp hp)
    have := repDs_of hq
    rw [← m2] at this
    exact q b _ hb this
noncomputable def sSortedKD (kf : PyData → Option PyData) (g : VE) : SE := fun env => match g env with
  | .ok m => match dicM m with
    | some (ks, _) => if SrtKOk kf ks then .ok (.lst ((srtK kf ks).map .d), env) else .bad
    | none => .bad
  | _ => .bad
section
variable {G : Gx} {X : Cx} {W : WX'} {e : Expr} {g : VE} {p p2 kp pos : Pos} {k k' : Nat} {nm : Str} {kf : PyData → Option PyData}
theorem xe_sortedKD (T : KeyA X.prog X.w G X.mg X.base k nm kf) (hr : Room k' X.A) (hk : k + 2 ≤ k') (hc : X.calm = true) (hK : G.K = X.K) (hw : G.w = X.w) (hm : X.mg "sorted" = none) (ha : PVs G X e g) (hgk : Gl X nm := by rfl) (hdk : (nm == ("__debug__" : Str)) = false := by decide) (hv : bootBuiltins "sorted" = some (.builtin "sorted") := by decide +kernel) (hg : Gl X "sorted" := by rfl) (hst : starEach [e] X.env = (false, eval e X.env) :: starEach [] X.env := by rfl) (hpl : (backTo pos (starEach [e] X.env)).any (·.1) = false := by rfl)
    (hall : (backToKw pos (keywordEach [⟨some "key", .Name nm p2, kp⟩] X.env)).all (·.1.isSome) = true := by rfl) (hnone : (backToKw pos (keywordEach [⟨some "key", .Name nm p2, kp⟩] X.env)).any (·.1.isNone) = false := by rfl) (hks : (backToKw pos (keywordEach [⟨some "key", .Name nm p2, kp⟩] X.env)).filterMap (·.1) = [Str.ofString "key"] := by rfl) :
    PEs G X W (.Call (.Name "sorted" p) [e] [⟨some "key", .Name nm p2, kp⟩] pos) (sSortedKD kf g) := by
  obtain ⟨t, q, h⟩ := ha.ex
  obtain ⟨f, T, hf⟩ := T.ex
  rw [hK] at T
  refine ⟨_, pe_callBK (cr_srtKD hc T (hr.mono hk)) hg hm hv (pa_cons q pa_nil hst) (pk_cons (pe_glob (v := .ref f) hgk hf rfl hdk) pk_nil) (by decide) (by decide) (by rw [hst]; rfl) hpl hall hnone hks, SEok.mk' fun Z H σ env S Q gd k => ?_⟩
  unfold sSortedKD at k
  have h1 := h Z H σ env S (fun x H1 => rSrtKD X.K X.w f (fun x y => kf x = some y) [x] [.ref f] H1 Q) gd
  cases e1 : g env with
  | bad => rw [e1] at k; exact k.elim
  | exc x e' => rw [e1] at k; exact k.elim
  | ok m =>
    rw [e1] at k h1
    simp only at k h1
    cases e3 : dicM m with
    | none => rw [e3] at k; exact k.elim
    | some pr =>
      obtain ⟨ks, ms⟩ := pr
      rw [e3] at k
      simp only at k
      by_cases ok : SrtKOk kf ks
      case neg => rw [if_neg ok] at k; exact k.elim
      rw [if_pos ok] at k
      refine h1 fun v T _ r => ?_
      obtain ⟨a, nk, kv, rfl, dv, hks, r1, _⟩ := dic_rep gd.zh r e3
      rw [← hK, ← hw]
      refine srtKD_data gd.zh dv r1 ok fun b ws hb rw' => ?_
      have pS : ¬ U S b := fun z => gd.al' b z hb
      exact k (.ref b) _ _ S (fun a => a = b) (Stp.new (o := .lst ws) gd.zh hb (U S)) (gd.move (Stp.new (o := .lst ws) gd.zh hb (fun _ => False)) fun _ _ z => z).1 (lst_newD gd.zh rw' hb pS)
end
end FL

set_option maxHeartbeats 2000000
/-! FLWK: d.items() sorted. -/
namespace FL
open PySem L2 Classical PyProof.Rows PySem.Spec
theorem each_ix {α β : Type} {R : α → β → Prop} : ∀ (us : List α) (bs : List β), us.length = bs.length → (∀ (j : Nat) (u : α) (b : β), us[j]? = some u → bs[j]? = some b → R u b) → PySem.W.EachIs R us bs
  | [], [], _, _ => .nil
  | [], _ :: _, h, _ => by simp at h
  | _ :: _, [], h, _ => by simp at h
  | u :: us, b :: bs, h, k => .cons (k 0 u b rfl rfl) (each_ix us bs (by simpa using h) fun j x y hx hy => k (j + 1) x y (by simpa using hx) (by simpa using hy))
abbrev BI := PyData × (V × V)
theorem each_addr {as : List Addr} {bs : List BI} : ∀ {out : List Value} {ms : List BI}, PySem.W.EachIs (fun v b => ∃ (a : Addr) (j : Nat), v = .ref a ∧ as[j]? = some a ∧ bs[j]? = some b) out ms →
    ∃ zs : List (BI × Addr), zs.map (·.1) = ms ∧ out = zs.map (fun z => Value.ref z.2) ∧ ∀ z ∈ zs, ∃ j : Nat, as[j]? = some z.2 ∧ bs[j]? = some z.1 := by
  intro out ms e
  induction e with
  | nil => exact ⟨[], rfl, rfl, fun _ h => nomatch h⟩
  | @cons v b _ _ h t ih =>
    obtain ⟨zs, z1, z2, z3⟩ := ih
    obtain ⟨a, j, rfl, h1, h2⟩ := h
    exact ⟨(b, a) :: zs, by rw [List.map_cons, z1], by rw [List.map_cons, z2], fun z hz => by
      rcases List.mem_cons.mp hz with rfl | hz
      · exact ⟨j, h1, h2⟩
      · exact z3 z hz⟩
def rSortItD (K : PySem.W.Frag) (w : World) : List V → Hp → VK → Prop := fun vs H Q => ∃ (p a : Addr) (nk : List NestedKey) (kv : List (V × V)) (ds : List PyData), vs = [.ref p] ∧ H p = some (DX.itemsO p a) ∧ DcV K w H a nk kv ∧ ds.length = kv.length ∧
  (∀ (j : Nat) (q : V × V) (d : PyData), kv[j]? = some q → ds[j]? = some d → ∃ x y, d = .tuple [x, y] ∧ Dp K H q.1 x ∧ Dp K H q.2 y ∧ noL x = true ∧ noL y = true ∧ d.depth ≤ 60) ∧ PySem.W.AllAlike ds ∧ PySem.W.Sortable ds ∧
  ∀ (H' : Hp) (l : Addr) (zs : List (BI × Addr)), (∀ b o, H b = some o → H' b = some o) → H l = none → (∀ z ∈ zs, H z.2 = none ∧ z.2 ≠ l) → zs.map (·.1) = (List.zip ds kv).mergeSort (PySem.W.dataLe false (fun b : BI => b.1)) →
    H' l = some (.lst (zs.map fun z => V.ref z.2)) → (∀ z ∈ zs, H' z.2 = some (.tup [z.1.2.1, z.1.2.2])) → Q (.ref l) H'
theorem cr_sortItD {X : Cx} (hc : X.calm = true) (hu : X.A.units + 64 < cLine) : CallR X (.builtin "sorted") (rSortItD X.K X.w) := by
  intro pins s σ H xs us Q I r h
  obtain ⟨p, a, nk, kv, ds, rfl, hp, hd, hdl, hdat, hal, hsk, q⟩ := h
  obtain rfl := Vals.ref1 r
  have view : s.heap.IsItemsView p a := (show ObjOk X.prog X.w H s.heap p (DX.itemsO p a) from I.hok p _ hp).1
  obtain ⟨lo, hz, es, ⟨o, ep, ho, hx, hdd, hl, _, _⟩, er⟩ := hd.dx I
  have hlen := er.len
  have hes : es.size = kv.length := by rw [← hl, hlen.1]
  have hh : X.A.handled = none := I.ok.hd hc
  refine DT.sortedI (es := es) (ep := ep) hh view ⟨o, ho, hx, hdd⟩ (by rw [hes]; exact hz) fun h' tk as hk hlt hla hG => ?_
  have lak : as.length = kv.length := by omega
  obtain ⟨bs, hbs⟩ : ∃ bs : List BI, bs = List.zip ds kv := ⟨_, rfl⟩
  have hbl : bs.length = kv.length := by rw [hbs, List.length_zip]; omega
  have pr : ∀ (j : Nat) (b : Addr), as[j]? = some b → ∃ (qv : V × V) (en : DictEntry), kv[j]? = some qv ∧ RelV qv.1 en.key ∧ RelV qv.2 en.val ∧ h'.get? b = some { cls := .type "tuple", data := .seq #[en.key, en.val] } := by
    intro j b hj
    obtain ⟨en, he, hg⟩ := hG.pairs j b hj
    have hjl : j < nk.length := by have := (List.getElem?_eq_some_iff.mp hj).1; omega
    obtain ⟨qv, e2, g1, g2, g3, g4, g5⟩ := er.get (i := j) (List.getElem?_eq_getElem hjl)
    rw [Array.getElem?_toList, he] at g2
    cases g2
    exact ⟨qv, en, g1, g4, g5, hg⟩
  have hob : (h'.push { cls := .type "list", data := .seq (as.map Value.ref).toArray }).get? h'.objs.size = some (seqObj "list" (as.map Value.ref).toArray 0) := Heap.get?_push_size _ rfl
  have kb : ∀ b o, s.heap.get? b = some o → (h'.push { cls := .type "list", data := .seq (as.map Value.ref).toArray }).get? b = some o := fun b o e => Heap.get?_push_of_some _ (hk b o e)
  have ne0 : ∀ b o, h'.get? b = some o → b ≠ h'.objs.size := fun b o e => Nat.ne_of_lt (Heap.lt_size e)
  generalize hh2 : h'.push { cls := .type "list", data := .seq (as.map Value.ref).toArray } = h2 at hob kb ⊢
  have ka : ∀ b o, h'.get? b = some o → h2.get? b = some o := fun b o e => by rw [← hh2]; exact Heap.get?_push_of_some _ e
  have I0 : Inv X pins σ H { s with heap := h2, toks := tk } := I.kept (t' := tk) kb
  have rd : ∀ (j : Nat) (b : Addr) (d : PyData), as[j]? = some b → ds[j]? = some d → Reads h2 (.ref b) d [] := by
    intro j b d hj hdj
    obtain ⟨qv, en, g1, g2, g3, hg⟩ := pr j b hj
    obtain ⟨x, y, rfl, d1, d2, n1, n2, _⟩ := hdat j qv d g1 hdj
    obtain ⟨a1, r1⟩ := Dp.reads I0 _ _ _ d1 g2
    obtain ⟨a2, r2⟩ := Dp.reads I0 _ _ _ d2 g3
    have e1 := reads_nil _ _ _ r1 n1
    have e2 := reads_nil _ _ _ r2 n2
    subst e1 e2
    have ra : ReadsAll h2 [en.key, en.val] [x, y] ([] ++ ([] ++ [])) := .cons r1 (.cons r2 .nil)
    exact .tuple (ka b _ hg) rfl rfl (by simpa using ra)
  have e : PySem.W.EachIs (fun v (b : BI) => ∃ (a : Addr) (j : Nat), v = Value.ref a ∧ as[j]? = some a ∧ bs[j]? = some b) (as.map Value.ref) bs := each_ix _ _ (by rw [List.length_map]; omega) fun j u b hu hb => by
    rw [List.getElem?_map] at hu
    cases hj : as[j]? with
    | none => rw [hj] at hu; cases hu
    | some c => rw [hj] at hu; cases hu; exact ⟨c, j, rfl, hj, hb⟩
  have er2 : PySem.W.EachIs (fun v (b : BI) => ∃ cs, Reads h2 v b.1 cs ∧ h'.objs.size ∉ cs) (as.map Value.ref) bs := each_ix _ _ (by rw [List.length_map]; omega) fun j u b hu hb => by
    rw [List.getElem?_map] at hu
    cases hj : as[j]? with
    | none => rw [hj] at hu; cases hu
    | some c =>
      rw [hj] at hu; cases hu
      rw [hbs, List.getElem?_zip_eq_some] at hb
      exact ⟨[], rd j c b.1 hj hb.1, by simp⟩
  have hmap : bs.map (·.1) = ds := by rw [hbs]; exact List.map_fst_zip (by omega)
  refine PySem.W.list_sort_data (A := X.A.in1) (s := { s with heap := h2, toks := tk }) (enc := fun b : BI => b.1) (vs := as.map Value.ref) hob e er2 (by rw [hmap]; exact hal) (by rw [hmap]; exact hsk) (by rw [hbl]; exact hz) (fun b hb => ?_) fun out hlo hE => ?_
  · obtain ⟨j, hj⟩ := List.mem_iff_getElem?.mp hb
    rw [hbs, List.getElem?_zip_eq_some] at hj
    obtain ⟨x, y, e1, _, _, _, _, hdp⟩ := hdat j b.2 b.1 hj.2 hj.1
    show X.A.in1.units + 1 + b.1.depth < cLine
    have : X.A.in1.units = X.A.units + 1 := rfl
    omega
  · obtain ⟨zs, z1, z2, z3⟩ := each_addr hE
    rw [hbs] at z1
    have kF : ∀ b o, b ≠ h'.objs.size → h2.get? b = some o → (sortedHeap h2 h'.objs.size (as.map Value.ref) (List.toArray out)).get? b = some o := fun b o hb e => (PyProof.Rows.sortedHeap_old hb (Heap.lt_size e)).trans e
    have kS : ∀ b o, s.heap.get? b = some o → (sortedHeap h2 h'.objs.size (as.map Value.ref) (List.toArray out)).get? b = some o := fun b o e => kF b o (ne0 _ _ (hk b o e)) (kb b o e)
    obtain ⟨eF, heF⟩ := PyProof.Rows.sortedHeap_at (vs := as.map Value.ref) (out := List.toArray out) hob
    have I1 : Inv X pins σ H { s with heap := sortedHeap h2 h'.objs.size (as.map Value.ref) (List.toArray out), toks := tk } := I.kept (t' := tk) kS
    have hn0 : H h'.objs.size = none := I.hok.fresh (Nat.le_of_lt hlt)
    have hlen : (zs.map fun z => V.ref z.2).length ≤ sizeLine := by
      have := congrArg List.length z2
      rw [List.length_map] at this
      rw [List.length_map, ← this, hlo, hbl]
      exact hz
    have rv : Vals (zs.map fun z => V.ref z.2) (List.toArray out).toList := by
      rw [List.toList_toArray, z2]
      exact vals_maps (fun z : BI × Addr => V.ref z.2) (fun z => Value.ref z.2) zs fun _ _ => rfl
    have I2 : Inv X pins σ (upd H h'.objs.size (.lst (zs.map fun z => V.ref z.2))) { s with heap := sortedHeap h2 h'.objs.size (as.map Value.ref) (List.toArray out), toks := tk } :=
      I1.take (h' := sortedHeap h2 h'.objs.size (as.map Value.ref) (List.toArray out)) (t' := tk) (fun b ob _ e => e) (I.fpOk (Nat.le_of_lt hlt) hn0) ⟨hlen, (List.toArray out).toList, eF, rv, heF⟩
    have nd : as.Nodup := List.Pairwise.imp (fun h => Nat.ne_of_lt h) hG.rise
    have hnone : ∀ b ∈ as, s.heap.objs.size ≤ b ∧ H b = none ∧ b ≠ h'.objs.size := fun b hb => by
      have hbl : s.heap.objs.size ≤ b := Nat.le_of_lt (hG.above b hb)
      exact ⟨hbl, I.hok.fresh hbl, Nat.ne_of_lt (hG.there hb)⟩
    obtain ⟨H2, I3, g, qt⟩ := DX.takeT (P := fun b vs => ∃ (j : Nat) (qv : V × V), as[j]? = some b ∧ kv[j]? = some qv ∧ vs = [qv.1, qv.2]) I as _ I2 nd fun b hb => by
      obtain ⟨j, hj⟩ := List.mem_iff_getElem?.mp hb
      obtain ⟨qv, en, g1, g2, g3, hg⟩ := pr j b hj
      obtain ⟨k1, k2, k3⟩ := hnone b hb
      refine ⟨k1, by rw [upd_ne k3]; exact k2, [qv.1, qv.2], ⟨j, qv, hj, g1, rfl⟩, fun H3 => ⟨(by rw [sizeLine_eq]; show 2 ≤ 16777216; omega), [en.key, en.val], .cons g2 (.cons g3 .nil), ⟨_, kF _ _ (ne0 _ _ hg) (ka _ _ hg), rfl, 0, rfl⟩⟩⟩
    have gr : ∀ b o, H b = some o → H2 b = some o := fun b o e => g b o (by rw [upd_ne (ne_of_none e hn0)]; exact e)
    refine ⟨.ref h'.objs.size, H2, I3, rfl, q H2 h'.objs.size zs gr hn0 (fun z hz => ?_) z1 (g _ _ upd_same) fun z hz => ?_⟩
    · obtain ⟨j, j1, j2⟩ := z3 z hz
      exact (hnone z.2 (List.mem_of_getElem? j1)).2
    · obtain ⟨j, j1, j2⟩ := z3 z hz
      obtain ⟨vs, ⟨i, qv, i1, i2, ev⟩, hH⟩ := qt z.2 (List.mem_of_getElem? j1)
      have eij : i = j := (List.getElem?_inj (List.getElem?_eq_some_iff.mp i1).1 nd).mp (i1.trans j1.symm)
      subst eij
      rw [hbs, List.getElem?_zip_eq_some] at j2
      rw [i2] at j2
      have := Option.some.inj j2.2
      rw [ev, this] at hH
      exact hH
def rItemsD (K : PySem.W.Frag) (w : World) : V → List V → Hp → VK → Prop := fun x xs H Q => ∃ (a : Addr) (nk : List NestedKey) (kv : List (V × V)), x = .ref a ∧ xs = [] ∧ DcV K w H a nk kv ∧ ∀ p, H p = none → Q (.ref p) (upd H p (DX.itemsO p a))
theorem mt_itemsD {X : Cx} : MtR X "dict.items" (rItemsD X.K X.w) := by
  intro pins s σ H x xs v us Q I rx rxs h
  obtain ⟨a, nk, kv, rfl, rfl, hd, q⟩ := h
  cases rx
  cases rxs
  obtain ⟨lo, hz, es, ⟨o, ep, ho, hx, hdd, hl, _, _⟩, er⟩ := hd.dx I
  refine DT.callItems (es := es) (ep := ep) lo ⟨o, ho, hx, hdd⟩ ?_
  have hf : H s.heap.objs.size = none := I.hok.fresh (Nat.le_refl _)
  exact ⟨.ref s.heap.objs.size, upd H s.heap.objs.size (DX.itemsO s.heap.objs.size a), I.laid (t' := s.toks) (fun b u e => Heap.get?_push_of_some _ e) (Nat.le_refl _) (DX.itemsO_ok (Heap.get?_push_size _ rfl)), rfl, q _ hf⟩
def tBMD0 (K : PySem.W.Frag) (w : World) (r : V → List V → Hp → VK → Prop) (to : TE) : TE := fun σ H Q => to σ H fun x H1 => (∃ a nk kv, x = .ref a ∧ DcV K w H1 a nk kv) ∧ r x [] H1 Q
theorem pe_bmD0 {X : Cx} {id : String} {name : Str} {r : V → List V → Hp → VK → Prop} {o : Expr} {to : TE} {apos cpos : Pos} (slot : Slot "dict" name id) (hty : typeOf (.builtin id) = pure (.type "method_descriptor")) (hm : MtR X id r) (ho : PE X o to)
    (hbase : attributeBase o name X.env (eval o X.env) = eval o X.env) (hline : (apos.endLine == cpos.line) = true) :
    PE X (.Call (.Attribute o name apos) [] [] cpos) (tBMD0 X.K X.w r to) := by
  refine ⟨fun pins s σ H Q I h => ?_⟩
  refine wpAny_Call_method0_late hbase hline (thn (ho.run pins s σ H _ I h) fun v s1 ⟨x, H1, I1, r1, ⟨a, nk, kv, ex, hd⟩, q1⟩ => ?_)
  subst ex
  obtain rfl : v = Value.ref a := r1
  obtain ⟨lo, hz, es', dx, er⟩ := hd.dx I1
  have dx2 := dx
  obtain ⟨ob, ep, hob, hx, _⟩ := dx2
  exact ⟨"dict", id, F.plainAttrs_dict, slot, hty, dx.typeIs, fun b e => by cases e; exact ⟨ob, hob, hx.2.1⟩, Calls.callWith_builtin rfl (PySem.evalArgs_none (hm pins s1 σ H1 (.ref a) [] (.ref a) [] Q I1 rfl .nil q1))⟩
/-- what sorted makes of a dict's items -/
noncomputable def sSortIt (g : VE) : SE := fun env => match g env with
  | .ok m => match dicM m with
    | some (ks, ms) => if ms.all isD = true ∧ (∀ x ∈ ks, (toPy x).plain = true ∧ noL (toPy x) = true) ∧ (∀ x ∈ ms.map unD, (toPy x).plain = true ∧ noL (toPy x) = true) ∧ SrtOk (List.zipWith pairD ks (ms.map unD)) then .ok (.lst ((srtD (List.zipWith pairD ks (ms.map unD))).map .d), env) else .bad
    | none => .bad
  | _ => .bad
theorem zip3 {α β γ : Type} (f : α → β → γ) : ∀ (xs : List α) (ys : List β), List.zipWith f xs ys = (List.zip xs ys).map fun p => f p.1 p.2
  | [], _ => by simp
  | _ :: _, [] => by simp
  | x :: xs, y :: ys => by simp [zip3 f xs ys]
section
variable {G : Gx} {X : Cx} {W : WX'} {e : Expr} {g : VE} {p apos cpos pos : Pos}
theorem xe_sortIt (hu : X.A.units + 64 < cLine) (hc : X.calm = true) (hK : G.K = X.K) (hw : G.w = X.w) (hm : X.mg "sorted" = none) (ha : PVs G X e g) (hv : bootBuiltins "sorted" = some (.builtin "sorted") := by decide +kernel) (hg : Gl X "sorted" := by rfl)
    (hst : starEach [.Call (.Attribute e "items" apos) [] [] cpos] X.env = (false, eval (.Call (.Attribute e "items" apos) [] [] cpos) X.env) :: starEach [] X.env := by rfl) (hpl : (backTo pos (starEach [] X.env)).any (·.1) = false := by rfl)
    (hbase : attributeBase e "items" X.env (eval e X.env) = eval e X.env := by rfl) (hline : (apos.endLine == cpos.line) = true := by rfl) :
    PEs G X W (.Call (.Name "sorted" p) [.Call (.Attribute e "items" apos) [] [] cpos] [] pos) (sSortIt g) := by
  obtain ⟨t, q, h⟩ := ha.ex
  refine ⟨_, pe_callB (cr_sortItD hc hu) hg hm hv (pa_cons (pe_bmD0 F.slot_dict_items F.type_dict_items mt_itemsD q hbase hline) pa_nil hst) (by decide) (by decide) hst hpl, SEok.mk' fun Z H σ env S Q gd k => ?_⟩
  unfold sSortIt at k
  have h1 := h Z H σ env S (fun x H1 => (∃ a nk kv, x = .ref a ∧ DcV X.K X.w H1 a nk kv) ∧ rItemsD X.K X.w x [] H1 fun y H2 => rSortItD X.K X.w [y] H2 Q) gd
  cases e1 : g env with
  | bad => rw [e1] at k; exact k.elim
  | exc x e' => rw [e1] at k; exact k.elim
  | ok m =>
    rw [e1] at k h1
    simp only at k h1
    cases e3 : dicM m with
    | none => rw [e3] at k; exact k.elim
    | some pr =>
      obtain ⟨ks, ms⟩ := pr
      rw [e3] at k
      simp only at k
      by_cases ok : ms.all isD = true ∧ (∀ x ∈ ks, (toPy x).plain = true ∧ noL (toPy x) = true) ∧ (∀ x ∈ ms.map unD, (toPy x).plain = true ∧ noL (toPy x) = true) ∧ SrtOk (List.zipWith pairD ks (ms.map unD))
      case neg => rw [if_neg ok] at k; exact k.elim
      rw [if_pos ok] at k
      obtain ⟨hD, hk1, hk2, hso⟩ := ok
      refine h1 fun v T hT r => ?_
      obtain ⟨a, nk, kv, rfl, dv, hks, r1, T0, hT0, r2⟩ := dic_rep gd.zh r e3
      have rv := allD_rep r2 hD
      rw [← hK, ← hw]
      refine ⟨⟨a, nk, kv, rfl, dv⟩, a, nk, kv, rfl, rfl, dv, fun pv hpv => ?_⟩
      -- the heap with the view
      have st1 := Stp.new (o := DX.itemsO pv a) gd.zh hpv (fun _ => False)
      have zh1 : Same Z (upd H pv (DX.itemsO pv a)) := st1.zh
      have rm1 : RepM G Z (upd H pv (DX.itemsO pv a)) m T (.ref a) := RepM.mono (Same.refl _) m T T _ (fun _ z => z) (fun b o sb eo => by rw [upd_ne (ne_of_none eo hpv)]; exact eo) r
      obtain ⟨a', nk', kv', ea, dv', hks', r1', T0', hT0', r2'⟩ := dic_rep zh1 rm1 e3
      obtain rfl : a = a' := by injection ea
      have rv' := allD_rep r2' hD
      obtain ⟨vs, hvs⟩ : ∃ vs, vs = ms.map unD := ⟨_, rfl⟩
      rw [← hvs] at rv' hk2 hso k
      have lk : ks.length = kv'.length := by have := r1'.len; simpa using this
      have lv : vs.length = kv'.length := by have := rv'.len; simpa using this
      have hat : ∀ (j : Nat) (qv : V × V) (x y : D), kv'[j]? = some qv → ks[j]? = some x → vs[j]? = some y → RepD G Z x qv.1 ∧ RepD G Z y qv.2 := fun j qv x y h1 h2 h3 => by
        have z1 := repDs_zip r1' (x, qv.1) (List.mem_of_getElem? (i := j) (by rw [List.getElem?_zip_eq_some]; exact ⟨h2, by rw [List.getElem?_map, h1]; rfl⟩))
        have z2 := repDs_zip rv' (y, qv.2) (List.mem_of_getElem? (i := j) (by rw [List.getElem?_zip_eq_some]; exact ⟨h3, by rw [List.getElem?_map, h1]; rfl⟩))
        exact ⟨z1, z2⟩
      have hds : (List.zipWith pairD ks vs).map toPy = (List.zip ks vs).map fun p => PyData.tuple [toPy p.1, toPy p.2] := by
        rw [zip3, List.map_map]
        apply List.map_congr_left
        intro p _
        simp [pairD, toPy, toPys]
      refine ⟨pv, a, nk', kv', (List.zipWith pairD ks vs).map toPy, rfl, upd_same, dv', by simp; omega, fun j qv d hj hd => ?_, hso.2.1, hso.2.2, fun H' l zs ext hl hzs z1 hl2 hz2 => ?_⟩
      · rw [hds, List.getElem?_map] at hd
        cases hz : (List.zip ks vs)[j]? with
        | none => rw [hz] at hd; cases hd
        | some xy =>
          rw [hz] at hd
          cases hd
          rw [List.getElem?_zip_eq_some] at hz
          obtain ⟨q1, q2⟩ := hat j qv xy.1 xy.2 hj hz.1 hz.2
          have p1 := hk1 _ (List.mem_of_getElem? hz.1)
          have p2 := hk2 _ (List.mem_of_getElem? hz.2)
          have hmem : pairD xy.1 xy.2 ∈ List.zipWith pairD ks vs := by
            rw [zip3]
            exact List.mem_map.mpr ⟨xy, List.mem_of_getElem? (i := j) (by rw [List.getElem?_zip_eq_some]; exact hz), rfl⟩
          have hdp := (hso.1 _ hmem).2
          refine ⟨toPy xy.1, toPy xy.2, rfl, RepD.dp zh1 _ _ p1.1 q1, RepD.dp zh1 _ _ p2.1 q2, p1.2, p2.2, ?_⟩
          simpa [pairD, toPy, toPys] using hdp
      · -- what is told
        have extH : ∀ b o, H b = some o → H' b = some o := fun b o eo => ext b o (by rw [upd_ne (ne_of_none eo hpv)]; exact eo)
        have hnH : ∀ b, (upd H pv (DX.itemsO pv a)) b = none → H b = none := fun b hb => by
          by_cases e : b = pv
          · rw [e]; exact hpv
          · rw [upd_ne e] at hb; exact hb
        obtain ⟨Z', hZ'⟩ : ∃ Z' : Hp, Z' = fun b => if ∃ z ∈ zs, z.2 = b then H' b else Z b := ⟨_, rfl⟩
        have zin : ∀ z ∈ zs, Z' z.2 = H' z.2 := fun z hz => by rw [hZ']; exact if_pos ⟨z, hz, rfl⟩
        have zout : ∀ b, (¬ ∃ z ∈ zs, z.2 = b) → Z' b = Z b := fun b hb => by rw [hZ']; exact if_neg hb
        have hzz : Same Z Z' := fun b u hb => by
          by_cases e : ∃ z ∈ zs, z.2 = b
          · obtain ⟨z, hz, rfl⟩ := e
            have := hnH _ (hzs z hz).1
            rw [gd.zh _ _ hb] at this; cases this
          · rw [zout b e]; exact hb
        have hzh : Same Z' H' := fun b u hb => by
          by_cases e : ∃ z ∈ zs, z.2 = b
          · obtain ⟨z, hz, rfl⟩ := e
            rw [zin z hz] at hb; exact hb
          · rw [zout b e] at hb; exact extH _ _ (gd.zh _ _ hb)
        have hzn : ∀ b, Z' b ≠ none → Z b ≠ none ∨ H b = none := fun b hb => by
          by_cases e : ∃ z ∈ zs, z.2 = b
          · obtain ⟨z, hz, rfl⟩ := e
            exact .inr (hnH _ (hzs z hz).1)
          · rw [zout b e] at hb; exact .inl hb
        have hlH := hnH l hl
        have stU : Stp Z H (U S) Z' H' (fun b => U S b ∨ b = l) := ⟨hzz, hzh, fun b o eo _ => extH b o eo, fun b hb => hb.elim .inl fun e => .inr (e ▸ hlH), fun b hb => (hzn b hb).elim .inl fun z => .inr (.inr z)⟩
        have st0 : Stp Z H (fun _ => False) Z' H' (fun _ => False) := ⟨hzz, hzh, fun b o eo _ => extH b o eo, fun b hb => hb.elim, fun b hb => (hzn b hb).elim .inl fun z => .inr (.inr z)⟩
        have g2 := (gd.move st0 fun _ _ z => z).1
        obtain ⟨xs, hxs⟩ : ∃ xs, xs = List.zipWith pairD ks vs := ⟨_, rfl⟩
        rw [← hxs] at z1 k
        have lx : xs.length = kv'.length := by rw [hxs, List.length_zipWith]; omega
        obtain ⟨L, hL⟩ : ∃ L : List (D × (V × V)), L = List.zip xs kv' := ⟨_, rfl⟩
        have eL : List.zip (xs.map toPy) kv' = L.map fun p => (toPy p.1, p.2) := by
          rw [hL]
          have key : ∀ (xs : List D) (kv : List (V × V)), List.zip (xs.map toPy) kv = (List.zip xs kv).map fun p => (toPy p.1, p.2) := by
            intro xs
            induction xs with
            | nil => intro kv; simp
            | cons x xs ih => intro kv; cases kv with
              | nil => simp
              | cons q kv => simp [ih]
          exact key xs kv'
        obtain ⟨ML, hML⟩ : ∃ ML, ML = L.mergeSort (PySem.W.dataLe false fun p : D × (V × V) => toPy p.1) := ⟨_, rfl⟩
        have z1' : zs.map (·.1) = ML.map fun p => (toPy p.1, p.2) := by
          rw [z1, eL, hML, List.map_mergeSort]
          intro a _ b _
          rfl
        have hsr : srtD xs = ML.map (·.1) := by
          have e0 : L.map (·.1) = xs := by rw [hL]; exact zip_fst lx
          rw [← e0]
          unfold srtD
          rw [hML, List.map_mergeSort]
          intro a _ b _
          rfl
        have lz : ML.length = zs.length := by have := congrArg List.length z1'; simpa using this.symm
        have hrep : ∀ p ∈ List.zip ML zs, RepD G Z' p.1.1 (.ref p.2.2) := fun p hp => by
          obtain ⟨i, hi⟩ := List.mem_iff_getElem?.mp hp
          rw [List.getElem?_zip_eq_some] at hi
          have e0 := congrArg (fun l => l[i]?) z1'
          simp only [List.getElem?_map, hi.1, hi.2, Option.map_some] at e0
          have e1 := Option.some.inj e0
          have hm : p.1 ∈ L := by have := List.mem_of_getElem? hi.1; rw [hML] at this; exact (List.mergeSort_perm _ _).mem_iff.mp this
          rw [hL] at hm
          obtain ⟨j, hj⟩ := List.mem_iff_getElem?.mp hm
          rw [List.getElem?_zip_eq_some] at hj
          have hx := hj.1
          rw [hxs] at hx
          obtain ⟨x, y, hx1, hy1, exy⟩ := zw_get hx
          obtain ⟨q1, q2⟩ := hat j p.1.2 x y hj.2 hx1 hy1
          have hzm := List.mem_of_getElem? hi.2
          have ht := hz2 p.2 hzm
          rw [e1] at ht
          rw [exy]
          simp only [pairD, RepD, RepDs]
          refine ⟨p.2.2, [p.1.2.1, p.1.2.2], rfl, SqT.of ?_, p.1.2.1, [p.1.2.2], rfl, RepD.mono hzz _ _ q1, p.1.2.2, [], rfl, RepD.mono hzz _ _ q2, rfl⟩
          rw [zin p.2 hzm]
          exact ht
        have hRR : RepDs G Z' (srtD xs) (zs.map fun z => V.ref z.2) := by
          have h0 := repDs_of (G := G) (Z := Z') (ps := (List.zip ML zs).map fun p => (p.1.1, V.ref p.2.2)) fun q hq => by
            obtain ⟨p, hp, rfl⟩ := List.mem_map.mp hq
            exact hrep p hp
          rw [List.map_map, List.map_map] at h0
          have f1 : (List.zip ML zs).map ((fun x : D × V => x.1) ∘ fun p => (p.1.1, V.ref p.2.2)) = srtD xs := by
            rw [hsr]
            have := congrArg (List.map fun p : D × (V × V) => p.1) (zip_fst lz)
            rw [List.map_map] at this
            exact this
          have f2 : (List.zip ML zs).map ((fun x : D × V => x.2) ∘ fun p => (p.1.1, V.ref p.2.2)) = zs.map fun z => V.ref z.2 := by
            have := congrArg (List.map fun z : BI × Addr => V.ref z.2) (zip_snd lz)
            rw [List.map_map] at this
            exact this
          rw [f1, f2] at h0
          exact h0
        have hlz : Z' l = none := by
          have hnot : ¬ ∃ z ∈ zs, z.2 = l := fun ⟨z, hz, e⟩ => (hzs z hz).2 e
          rw [zout l hnot]
          cases q : Z l with
          | none => rfl
          | some u => rw [gd.zh _ _ q] at hlH; cases hlH
        refine k (.ref l) Z' H' S (fun b => b = l) stU g2 ⟨?_, fun b hb => ?_, fun b hb => ?_, fun b hb hS => ?_⟩
        · simp only [RepM]
          exact ⟨l, _, fun _ => False, rfl, rfl, fun z => z, fun _ z => z.elim, hl2, RepDs.toM hRR⟩
        · rw [hb, hl2]; exact fun z => nomatch z
        · rw [hb]; exact hlz
        · rw [hb] at hS
          exact gd.al' l hS hlH
end
end FL

set_option maxHeartbeats 2000000
/-! FLWL: d[e] = x, the key any value. -/
namespace FL
open PySem L2 Classical
noncomputable def ssSetDE (i : Nat) (gk : SE) (f : SE) : SS := fun env => match f env with
  | .ok (m, e1) => match getE e1 i, gk e1 with
    | .ok _, .ok (mk, e2) => match getE e2 i, mk with
      | .ok (.dic ks ms), .d x => if keyOk x ∧ ks.length < sizeLine then .ok (.nx, e2.set i (some (putD ks ms x m))) else .bad
      | _, _ => .bad
    | _, _ => .bad
  | .exc x e => .exc x e
  | .bad => .bad
theorem xs_setDE {G : Gx} {X : Cx} {W : WX'} {P : Px} {x : Str} {ie e : Expr} {gk : SE} {f : SE} {p ps pos : Pos} (i : Nat) (hu : X.A.units + 64 < cLine) (hK : G.K = X.K) (hw : G.w = X.w) (hi : PEs G X W ie gk) (he : PEs G X W e f)
    (hN : X.N[i]? = some x := by rfl) (hv : Vis X.env.scope x := by first | exact Or.inl rfl | exact Or.inr (Or.inl rfl) | exact Or.inr (Or.inr rfl)) (hd : (x == ("__debug__" : Str)) = false := by decide) (hcd : (x == ("__classdict__" : Str)) = false := by decide)
    (ha : ∀ v, assign (.Subscript (.Name x p) ie ps) X.env v = (do
      let ov ← holding [v] (eval (.Name x p) X.env)
      let iv ← holding [v, ov] (eval ie X.env)
      standAt ps
      holding [v, ov, iv] (setItem ov iv v)
      release [v, ov, iv] []) := by intro _; rfl)
    (hs : swapsWithSole [.Subscript (.Name x p) ie ps] e pos.line X.env = pure false := by rfl) (hsw : swappedStores [.Subscript (.Name x p) ie ps] e X.env = pure none := by rfl)
    (h1 : (assignEach [.Subscript (.Name x p) ie ps] X.env).map (·.2) = [assign (.Subscript (.Name x p) ie ps) X.env] := by rfl) :
    PS' G X W P (.Assign [.Subscript (.Name x p) ie ps] e pos) (ssSetDE i gk f) := by
  obtain ⟨t, q, h⟩ := he.ex
  obtain ⟨ti, qi, hi⟩ := hi.ex
  refine ⟨_, ps_asg q (pg_sub (pe_var hN hv hd hcd) qi (set_dct hu) ha) hs hsw h1, fun D Z H σ env S gd k => ?_⟩
  unfold ssSetDE at k
  refine h.use gd ?_
  cases e1 : f env with
  | bad => rw [e1] at k; exact k.elim
  | exc x' e' => rw [e1] at k; exact fun cls d Z' H' S' hx s' g' => k cls d σ Z' H' S' hx Fix.refl s' g'
  | ok pr =>
    obtain ⟨m, env1⟩ := pr
    rw [e1] at k
    simp only at k
    intro v Z' H' S' T s' g' l
    rcases getE_cases env1 i with ⟨mx0, e20⟩ | e20
    case inr => rw [e20] at k; exact k.elim
    rw [e20] at k
    cases e3 : gk env1 with
    | bad => rw [e3] at k; exact k.elim
    | exc _ _ => rw [e3] at k; exact k.elim
    | ok pk =>
    obtain ⟨mi, env2⟩ := pk
    rw [e3] at k
    simp only at k
    rcases getE_cases env2 i with ⟨mx, e2⟩ | e2
    case inr => rw [e2] at k; exact k.elim
    rw [e2] at k
    cases mx with
    | dic ks ms =>
        cases mi with
        | d di =>
          simp only at k
          by_cases ok : keyOk di ∧ ks.length < sizeLine
          case neg => rw [if_neg ok] at k; exact k.elim
          rw [if_pos ok] at k
          obtain ⟨⟨kk, hkk, dk⟩, hz⟩ := ok
          -- the slot's value is there before the key is told
          have hslot : ∃ w0, σ[i]? = some (some w0) := by obtain ⟨v0, hv0, _⟩ := g'.rep i mx0 (getE_ok e20); exact ⟨v0, hv0⟩
          obtain ⟨w0, hw00⟩ := hslot
          refine ⟨w0, hw00, ?_⟩
          have h2 := hi Z' H' σ env1 S' (fun iv H2 => rDSet X.K X.w w0 iv v H2 fun H3 => D.nx σ H3) g'
          rw [e3] at h2
          refine h2 fun iv Z2 H2 S2 T2 s2 gg2 lk => ?_
          have ri : RepD G Z2 di iv := lk.free
          have l := l.step s2
          have sAll : Stp Z H (U S) Z2 H2 (fun a => (U S2 a ∨ T2 a) ∨ T a) := s'.trans (s2.frame T)
          obtain ⟨w, hw0, g1, l1⟩ := gg2.take (getE_ok e2)
          rw [hw00] at hw0
          obtain rfl : w0 = w := Option.some.inj (Option.some.inj hw0)
          obtain ⟨a, nk, kv, T0, rfl, sa, nt, ts, ho, hk, r1, r2, za⟩ := dic_own (G := G) (v := w0) ⟨l1.rep, l1.al, l1.zf, fun _ _ z => z⟩
          have d0 : ∀ b, T b → ¬ S2 i b := fun b z w' => l.dj b z (.inl ⟨i, w'⟩)
          have hlen : ks.length = kv.length := by have := r1.len; simpa using this
          have hmd : dicM (.dic ks ms) = some (ks, ms) := rfl
          obtain ⟨a2, nk2, kv2, ea, dv, _⟩ := dic_rep (G := G) gg2.zh l1.rep hmd
          cases ea
          have e5 := dv.at_
          have dv2 : DcV G.K G.w H2 a nk kv := by
            refine ⟨ho, fun i k p hk' hp => ?_, hk.nd, hk.dp⟩
            obtain ⟨x, hx, rx⟩ := getD_some r1 (i := i) (v := p.1) (by rw [List.getElem?_map, hp]; rfl)
            obtain ⟨y, hy, hyk⟩ := nkDs_get hk.eq hk'
            rw [hx] at hy
            cases hy
            exact nk_dp gg2.zh rx hyk
          have fin : ∀ {nk' : List NestedKey} {kv' : List (V × V)} {ks' : List FL.D} {ms' : List M}, KsOk ks' nk' → RepDs G Z2 ks' (kv'.map fun p => p.1) → RepMs G Z2 H2 ms' (fun b => T0 b ∨ T b) (kv'.map fun p => p.2) → putD ks ms di m = .dic ks' ms' → D.nx σ (upd H2 a (DO X.w a nk' kv')) := by
            intro nk' kv' ks' ms' h1 h2 h3 h4
            rw [h4] at k
            obtain ⟨s, l2⟩ := dic_become (G := G) (Ts := T) gg2.zh sa za (fun z => z.elim nt fun z => d0 a z sa) h1 h2 h3 (fun b z => z.elim (fun z => .inl (ts b z)) .inr) l1.al l.al l1.zf l.zf
            obtain ⟨g2, d2⟩ := g1.move s fun b z w => w.elim (fun w => l1.dj b w z) fun w => l.dj b w (.inl (Rs.wipe_le z))
            have g3 := g2.back (i := i) (m := .dic ks' ms') (v := .ref a) ⟨l2.rep, l2.al, l2.zf, fun b z w => d2 b w (.inl z)⟩ hw00
            rw [show (env2.set i none).set i (some (M.dic ks' ms')) = env2.set i (some (.dic ks' ms')) from List.set_set ..] at g3
            rw [← hw]
            refine k σ Z2 _ _ Fix.refl (sAll.trans (((s.frame (U (S2.set i fun _ => False))).from fun b z => ?_).weak fun b z => ?_)) g3
            · rcases z with (z | z) | z
              · exact .inl (.inl ⟨i, z⟩)
              · exact .inr z
              · exact .inl (.inl (Rs.wipe_le z))
            · rcases Rs.set_sub z with z | z
              · exact .inr z
              · exact .inl (.inl z)
          rw [← hK]
          rw [hw] at dv2
          refine ⟨a, nk, kv, kk, rfl, dv2, nk_dp gg2.zh ri hkk, dk, by rw [← hlen]; exact hz, fun hn => ?_, fun j hj => ?_⟩
          · refine fin (hk.add hkk dk hn) (ks' := ks ++ [di]) (ms' := ms ++ [m]) ?_ ?_ ?_
            · rw [List.map_append]
              exact RepDs.app r1 (show RepDs G Z2 [di] [iv] from by simp only [RepDs]; exact ⟨iv, [], rfl, ri, rfl⟩)
            · rw [List.map_append]
              exact RepMs.app r2 (RepMs.one l.rep) (fun _ z => .inl z) (fun _ z => .inr z) fun b z w => d0 b w (ts b z)
            · unfold putD
              cases hf : dFind ks di with
              | none => rfl
              | some j => exact absurd (List.mem_of_getElem? (dFind_some hk hkk hf).1) hn
          · refine fin hk (ks' := ks) (ms' := ms.set j m) (by rw [modify_fst]; exact r1) (by rw [modify_snd]; exact RepMs.set j r2 l.rep fun b z w => d0 b z (ts b w)) ?_
            unfold putD
            cases hf : dFind ks di with
            | none => exact absurd (List.mem_of_getElem? hj) (dFind_none hk hkk hf)
            | some j2 =>
              have := get_unique hk.nd (dFind_some hk hkk hf).1 hj
              subst this
              rfl
        | _ => exact k.elim
    | _ => exact k.elim
end FL

set_option maxHeartbeats 2000000
/-! FLWM: sep.join(xs), s.find(t), str(x) of a text, slices of told texts. -/
namespace FL
open PySem L2 Classical
def bFind : LOp
  | [.d (.str a), .d (.str b)] => .ok (.int (Txt.find a b))
  | _ => .bad
theorem bmo_find {G : Gx} : BMO G (fun x xs H Q => ∃ a b, x = .str a ∧ xs = [.str b] ∧ Q (.int (Txt.find a b)) H) bFind := fun Z H a ms vs Q zh r => by
  unfold bFind
  split
  · rename_i e
    intro q
    split at e
    · rename_i a' b ee
      injection ee with e1 e2
      injection e1 with e1
      injection e1 with e1
      subst e1 e2
      cases e
      cases r with
      | cons h t =>
        cases t
        obtain ⟨T, h⟩ := h
        rw [rep_str h]
        exact ⟨_, b, rfl, rfl, q _ intD⟩
    · cases e
  · trivial
/-- the texts of a list -/
def strsOf : List M → Option (List Str)
  | [] => some []
  | .d (.str z) :: r => (strsOf r).map (z :: ·)
  | _ => none
theorem strsOf_rep {G : Gx} {Z H : Hp} : ∀ {ms : List M} {T : Rg} {vs : List V} {zs : List Str}, RepMs G Z H ms T vs → strsOf ms = some zs → vs = zs.map V.str
  | [], _, _, zs, r, e => by simp only [RepMs] at r; subst r; simp [strsOf] at e; subst e; rfl
  | m :: ms, _, _, zs, r, e => by
    simp only [RepMs] at r
    obtain ⟨v, r', T1, T2, rfl, _, _, _, q, r⟩ := r
    unfold strsOf at e
    split at e
    · cases ‹_ :: _ = _›
    · rename_i i r0 e0
      cases e0
      cases ei : strsOf ms with
      | none => rw [ei] at e; cases e
      | some k =>
        rw [ei] at e
        cases e
        rw [List.map_cons, ← strsOf_rep r ei, rep_str q]
    · cases e
def bJoin : LOp
  | [.d (.str a), m] => match m.seq with
    | some (_, ms) => match strsOf ms with
      | some zs => if (zs.map (·.length)).sum + zs.length * a.length ≤ 16777216 then .ok (.str (Txt.join a zs)) else .bad
      | none => .bad
    | none => .bad
  | _ => .bad
theorem bmo_join {G : Gx} : BMO G (fun x xs H Q => ∃ a p, ∃ ys : List Str, x = .str a ∧ xs = [.ref p] ∧ (SqL G.K H p (ys.map V.str) ∨ SqT G.K H p (ys.map V.str)) ∧ (ys.map (·.length)).sum + ys.length * a.length ≤ 16777216 ∧ Q (.str (Txt.join a ys)) H) bJoin := fun Z H a ms vs Q zh r => by
  unfold bJoin
  split
  · rename_i e
    intro q
    split at e
    · rename_i a' m ee
      injection ee with e1 e2
      injection e1 with e1
      injection e1 with e1
      subst e1 e2
      split at e
      · rename_i b es hs
        split at e
        · rename_i zs hz
          split at e
          · rename_i hl
            cases e
            cases r with
            | cons h t =>
              cases t
              obtain ⟨T, h⟩ := h
              obtain ⟨p, us, rfl, h1, h2, h3⟩ := h.seq zh hs
              have := strsOf_rep h3 hz
              subst this
              refine ⟨_, p, zs, rfl, rfl, ?_, hl, q _ strD⟩
              cases b with
              | true => exact .inr (h1 rfl)
              | false => exact .inl (h2 rfl)
          · cases e
        · cases e
      · cases e
    · cases e
  · trivial
/-- str of a whole number or of a text -/
def bStrA : LOp
  | [.d (.int i)] => if i.natAbs.log2 < 1920 then .ok (.str (toString i)) else .bad
  | [.d (.str a)] => .ok (.str a)
  | _ => .bad
theorem cr_strA {X : Cx} : CallR X (.type "str") (fun xs H Q => (∃ i, xs = [.int i] ∧ i.natAbs.log2 < 1920 ∧ Q (.str (toString i)) H) ∨ ∃ a, xs = [.str a] ∧ Q (.str a) H) :=
  fun pins s σ H xs us Q I r h => h.elim (call_str_int pins s σ H xs us Q I r) (SkE.call_str_str pins s σ H xs us Q I r)
theorem bop_strA {G : Gx} : BOP G (fun xs H Q => (∃ i, xs = [.int i] ∧ i.natAbs.log2 < 1920 ∧ Q (.str (toString i)) H) ∨ ∃ a, xs = [.str a] ∧ Q (.str a) H) bStrA := fun Z H ms vs Q zh r => by
  unfold bStrA
  split
  · rename_i e
    intro q
    split at e
    · split at e
      · rename_i hz
        cases e
        cases r with
        | cons h t =>
          cases t
          obtain ⟨T, h⟩ := h
          rw [rep_int h]
          exact .inl ⟨_, rfl, hz, q _ strD⟩
      · cases e
    · cases e
      cases r with
      | cons h t =>
        cases t
        obtain ⟨T, h⟩ := h
        rw [rep_str h]
        exact .inr ⟨_, rfl, q _ strD⟩
    · cases e
  · trivial
/-- a slice of a text that is told -/
def sSlE (f : SE) (lo hi : Env → Res (Option Int)) : SE := fun env => match f env with
  | .ok (.d (.str z), e1) => match lo e1, hi e1 with
    | .ok l, .ok h => if z.length ≤ sizeLine then .ok (.d (.str (cutS z l h)), e1) else .bad
    | _, _ => .bad
  | .exc x e => .exc x e
  | _ => .bad
theorem xe_slE {G : Gx} {X : Cx} {W : WX'} {e : Expr} {f : SE} {lo hi : Option Expr} {gl gh : Env → Res (Option Int)} {pos p2 : Pos} (hK : G.K = X.K) (h : PEs G X W e f) (hl : POs G X lo gl) (hh : POs G X hi gh) : PEs G X W (.Subscript e (.Slice lo hi none p2) pos) (sSlE f gl gh) := by
  obtain ⟨t, p, h⟩ := h.ex
  obtain ⟨tl, pl, hl⟩ := hl.ex
  obtain ⟨th, ph, hh⟩ := hh.ex
  refine ⟨_, pe_slice sl_any p pl ph, SEok.mk' fun Z H σ env S Q gd q => ?_⟩
  unfold sSlE at q
  refine h.use gd ?_
  cases e1 : f env with
  | bad => rw [e1] at q; exact q.elim
  | exc x e' => rw [e1] at q; exact q
  | ok pr =>
    obtain ⟨m, env1⟩ := pr
    rw [e1] at q
    cases m with
    | d x =>
      cases x with
      | str z =>
        simp only at q
        intro v Z1 H1 S1 T1 s1 g1 l1
        have := rep_str l1.rep
        subst this
        cases e2 : gl env1 with
        | ok l =>
          cases e3 : gh env1 with
          | ok u =>
            rw [e2, e3] at q
            simp only at q
            split at q
            · rename_i hz
              have h2 := hl Z1 H1 σ env1 S1 (fun l H2 => th σ H2 fun u H3 => rSlO X.K (.str z) l u H3 Q) g1
              rw [e2] at h2
              refine h2 ?_
              have h3 := hh Z1 H1 σ env1 S1 (fun u H3 => rSlO X.K (.str z) l u H3 Q) g1
              rw [e3] at h3
              refine h3 ?_
              exact .inr (.inr ⟨z, rfl, hz, q _ Z1 H1 S1 (fun _ => False) (s1.weak fun _ z => .inl (z.elim (fun z => z) fun z => z.elim)) g1 (Hld.data strD)⟩)
            · exact q.elim
          | exc _ _ => rw [e2, e3] at q; exact q.elim
          | bad => rw [e2, e3] at q; exact q.elim
        | exc _ _ => rw [e2] at q; exact q.elim
        | bad => rw [e2] at q; exact q.elim
      | _ => exact q.elim
    | _ => exact q.elim
end FL

set_option maxHeartbeats 4000000
namespace K16
open PySem L2 FL Classical
abbrev top (i : Nat) : Stmt := PySem.Challenge.pw_flipwright_k16_shown.main.body.getD i (.Pass ⟨0, 0, 0, 0⟩)
abbrev st_bracketed : Stmt := top 2
abbrev N_bracketed : List Str := ["term", "signs"]
theorem sc_bracketed : FnScope N_bracketed ["term", "signs"] (defScope st_bracketed) := ⟨rfl, rfl, rfl, by decide +kernel, rfl, by decide +kernel, by decide +kernel⟩
abbrev st_shown_op : Stmt := top 3
abbrev N_shown_op : List Str := ["sign", "one", "other", "left", "right"]
theorem sc_shown_op : FnScope N_shown_op ["sign", "one", "other"] (defScope st_shown_op) := ⟨rfl, rfl, rfl, by decide +kernel, rfl, by decide +kernel, by decide +kernel⟩
abbrev st_shown_draw : Stmt := top 4
abbrev N_shown_draw : List Str := ["term", "outcomes", "value", "weight"]
theorem sc_shown_draw : FnScope N_shown_draw ["term"] (defScope st_shown_draw) := ⟨rfl, rfl, rfl, by decide +kernel, rfl, by decide +kernel, by decide +kernel⟩
abbrev st_shown_record : Stmt := top 5
abbrev N_shown_record : List Str := ["fields", "field", "term"]
theorem sc_shown_record : FnScope N_shown_record ["fields"] (defScope st_shown_record) := ⟨rfl, rfl, rfl, by decide +kernel, rfl, by decide +kernel, by decide +kernel⟩
abbrev st_shown_term : Stmt := top 6
abbrev N_shown_term : List Str := ["term", "kind", "part"]
theorem sc_shown_term : FnScope N_shown_term ["term"] (defScope st_shown_term) := ⟨rfl, rfl, rfl, by decide +kernel, rfl, by decide +kernel, by decide +kernel⟩
abbrev st_shown_row : Stmt := top 7
abbrev N_shown_row : List Str := ["row"]
theorem sc_shown_row : FnScope N_shown_row ["row"] (defScope st_shown_row) := ⟨rfl, rfl, rfl, by decide +kernel, rfl, by decide +kernel, by decide +kernel⟩
abbrev st_shown : Stmt := top 8
abbrev N_shown : List Str := ["program", "row"]
theorem sc_shown : FnScope N_shown ["program"] (defScope st_shown) := ⟨rfl, rfl, rfl, by decide +kernel, rfl, by decide +kernel, by decide +kernel⟩
abbrev st__law_stream : Stmt := top 10
abbrev N__law_stream : List Str := ["_law_cell", "_law_many", "_law_found", "_law_number", "_law_k"]
theorem sc__law_stream : FnScope N__law_stream ["_law_cell", "_law_many"] (defScope st__law_stream) := ⟨rfl, rfl, rfl, by decide +kernel, rfl, by decide +kernel, by decide +kernel⟩
abbrev st__law_name : Stmt := top 11
abbrev N__law_name : List Str := ["_law_more", "_law_word", "_law_k", "_law_at"]
theorem sc__law_name : FnScope N__law_name ["_law_more"] (defScope st__law_name) := ⟨rfl, rfl, rfl, by decide +kernel, rfl, by decide +kernel, by decide +kernel⟩
abbrev st__law_leaf : Stmt := top 12
abbrev N__law_leaf : List Str := ["_law_more", "_law_kind", "_law_low", "_law_pairs", "_law_k"]
theorem sc__law_leaf : FnScope N__law_leaf ["_law_more"] (defScope st__law_leaf) := ⟨rfl, rfl, rfl, by decide +kernel, rfl, by decide +kernel, by decide +kernel⟩
abbrev st__law_made : Stmt := top 13
abbrev N__law_made : List Str := ["_law_kind", "_law_parts", "_law_more", "_law_word", "_law_k"]
theorem sc__law_made : FnScope N__law_made ["_law_kind", "_law_parts", "_law_more"] (defScope st__law_made) := ⟨rfl, rfl, rfl, by decide +kernel, rfl, by decide +kernel, by decide +kernel⟩
abbrev st__law_put : Stmt := top 14
abbrev N__law_put : List Str := ["_law_held", "_law_number", "_law_kind", "_law_more", "_law_many", "_law_parts", "_law_k"]
theorem sc__law_put : FnScope N__law_put ["_law_held", "_law_number"] (defScope st__law_put) := ⟨rfl, rfl, rfl, by decide +kernel, rfl, by decide +kernel, by decide +kernel⟩
abbrev st__law_inner : Stmt := top 15
abbrev N__law_inner : List Str := ["_law_found", "_law_kind", "_law_one"]
theorem sc__law_inner : FnScope N__law_inner ["_law_found"] (defScope st__law_inner) := ⟨rfl, rfl, rfl, by decide +kernel, rfl, by decide +kernel, by decide +kernel⟩
abbrev st__law_size : Stmt := top 16
abbrev N__law_size : List Str := ["_law_found", "_law_part"]
theorem sc__law_size : FnScope N__law_size ["_law_found"] (defScope st__law_size) := ⟨rfl, rfl, rfl, by decide +kernel, rfl, by decide +kernel, by decide +kernel⟩
abbrev st__law_grown : Stmt := top 17
abbrev N__law_grown : List Str := ["_law_cell", "_law_most", "_law_xs", "_law_held", "_law_number", "_law_last"]
theorem sc__law_grown : FnScope N__law_grown ["_law_cell", "_law_most"] (defScope st__law_grown) := ⟨rfl, rfl, rfl, by decide +kernel, rfl, by decide +kernel, by decide +kernel⟩
abbrev st__law_row : Stmt := top 18
abbrev N__law_row : List Str := ["_law_number", "_law_most", "_law_body", "_law_word", "_law_kind", "_law_names", "_law_k"]
theorem sc__law_row : FnScope N__law_row ["_law_number", "_law_most"] (defScope st__law_row) := ⟨rfl, rfl, rfl, by decide +kernel, rfl, by decide +kernel, by decide +kernel⟩
abbrev st__law_program : Stmt := top 19
abbrev N__law_program : List Str := ["_law_script", "_law_most", "_law_rows", "_law_asked", "_law_k", "_law_cell"]
theorem sc__law_program : FnScope N__law_program ["_law_script", "_law_most"] (defScope st__law_program) := ⟨rfl, rfl, rfl, by decide +kernel, rfl, by decide +kernel, by decide +kernel⟩
abbrev st__law_level : Stmt := top 20
abbrev N__law_level : List Str := ["_law_found"]
theorem sc__law_level : FnScope N__law_level ["_law_found"] (defScope st__law_level) := ⟨rfl, rfl, rfl, by decide +kernel, rfl, by decide +kernel, by decide +kernel⟩
abbrev st__law_op : Stmt := top 21
abbrev N__law_op : List Str := ["_law_found", "_law_level_here"]
theorem sc__law_op : FnScope N__law_op ["_law_found"] (defScope st__law_op) := ⟨rfl, rfl, rfl, by decide +kernel, rfl, by decide +kernel, by decide +kernel⟩
abbrev st__law_text : Stmt := top 22
abbrev N__law_text : List Str := ["_law_found", "_law_least", "_law_kind", "_law_parts", "_law_part", "_law_one"]
theorem sc__law_text : FnScope N__law_text ["_law_found", "_law_least"] (defScope st__law_text) := ⟨rfl, rfl, rfl, by decide +kernel, rfl, by decide +kernel, by decide +kernel⟩
abbrev st__law_line : Stmt := top 23
abbrev N__law_line : List Str := ["_law_row_here", "_law_text_here"]
theorem sc__law_line : FnScope N__law_line ["_law_row_here"] (defScope st__law_line) := ⟨rfl, rfl, rfl, by decide +kernel, rfl, by decide +kernel, by decide +kernel⟩
abbrev st_law : Stmt := top 24
abbrev N_law : List Str := ["_law_script", "_law_program_here", "_law_handed", "_law_found", "_law_row_here", "_law_part"]
theorem sc_law : FnScope N_law ["_law_script"] (defScope st_law) := ⟨rfl, rfl, rfl, by decide +kernel, rfl, by decide +kernel, by decide +kernel⟩
def g_LOOSE : D := .tup [.str (Str.ofString "="), .str (Str.ofString "<"), .str (Str.ofString "+"), .str (Str.ofString "-")]
noncomputable def b_bracketed (rF : FS) : SS := ssSeq (ssIf (sbAnd (sbE (sV (v2 oEq (vIx (vN 0) (vC (.int 0))) (vC (.str (Str.ofString "op")))))) (sbE (sV (v2 oIn (vIx (vN 0) (vC (.int 1))) (vN 1))))) (ssRet (s2 oAdd (s2 oAdd (sV (vC (.str (Str.ofString "(")))) (sCall rF [none] (saCons (sN 0) (saNil)))) (sV (vC (.str (Str.ofString ")")))))) (ssNil))
  (ssRet (sCall rF [none] (saCons (sN 0) (saNil))))
noncomputable def F_bracketed (rF : FS) : FS := runF 2 2 [] (b_bracketed rF)
noncomputable def b_shown_op (rF : FS) : SS := ssSeq (ssSet 3 (sTup (saCons (sV (vC (.str (Str.ofString "=")))) (saCons (sV (vC (.str (Str.ofString "<")))) (saNil)))))
  (ssSeq (ssSet 4 (sTup (saCons (sV (vC (.str (Str.ofString "=")))) (saCons (sV (vC (.str (Str.ofString "<")))) (saNil)))))
  (ssSeq (ssIf (sbOr (sbE (sV (v2 oEq (vN 0) (vC (.str (Str.ofString "+")))))) (sbE (sV (v2 oEq (vN 0) (vC (.str (Str.ofString "-"))))))) (ssSet 4 (sV (vC g_LOOSE))) (ssNil))
  (ssSeq (ssIf (sbE (sV (v2 oEq (vN 0) (vC (.str (Str.ofString "*")))))) (ssSeq (ssSet 3 (sV (vC g_LOOSE)))
  (ssSet 4 (s2m mAdd (sV (vC g_LOOSE)) (sTup (saCons (sV (vC (.str (Str.ofString "*")))) (saNil)))))) (ssNil))
  (ssRet (s2 oAdd (s2 oAdd (s2 oAdd (s2 oAdd (sCall (F_bracketed rF) [none, none] (saCons (sN 1) (saCons (sN 3) (saNil)))) (sV (vC (.str (Str.ofString " "))))) (sN 0)) (sV (vC (.str (Str.ofString " "))))) (sCall (F_bracketed rF) [none, none] (saCons (sN 2) (saCons (sN 4) (saNil)))))))))
noncomputable def F_shown_op (rF : FS) : FS := runF 5 3 [] (b_shown_op rF)
noncomputable def b_shown_draw : SS := ssSeq (ssIf (sbE (sV (v2 oEq (vIx (vN 0) (vC (.int 0))) (vC (.str (Str.ofString "flip")))))) (ssRet (sV (v2 oAdd (v2 oAdd (v2 oAdd (v2 oAdd (vC (.str (Str.ofString "flip("))) (vB bStrA (vaCons (vIx (vN 0) (vC (.int 1))) (vaNil)))) (vC (.str (Str.ofString "/")))) (vB bStrA (vaCons (vIx (vN 0) (vC (.int 2))) (vaNil)))) (vC (.str (Str.ofString ")")))))) (ssNil))
  (ssSeq (ssSet 1 (sLc [2, 3] (siQ (sV (vIx (vN 0) (vC (.int 1))))) (sgTup 2 (sgCons (sgN 2) (sgCons (sgN 3) (sgNil)))) sbYes (sV (v2 oAdd (v2 oAdd (vB bStrA (vaCons (vN 2) (vaNil))) (vC (.str (Str.ofString ":")))) (vB bStrA (vaCons (vN 3) (vaNil)))))))
  (ssRet (sV (v2 oAdd (v2 oAdd (vC (.str (Str.ofString "pick("))) (vSm bJoin (vC (.str (Str.ofString ", "))) (vaCons (vN 1) (vaNil)))) (vC (.str (Str.ofString ")")))))))
noncomputable def F_shown_draw : FS := runF 4 1 [] b_shown_draw
noncomputable def b_shown_record (rF : FS) : SS := ssRet (s2 oAdd (s2 oAdd (sV (vC (.str (Str.ofString "{")))) (sSm bJoin (sV (vC (.str (Str.ofString ", ")))) (saCons (sLcW [1, 2] [0] (iwN 0) (sgTup 2 (sgCons (sgN 1) (sgCons (sgN 2) (sgNil)))) sbYes (s2 oAdd (sV (v2 oAdd (vN 1) (vC (.str (Str.ofString ": "))))) (sCall rF [none] (saCons (sN 2) (saNil))))) (saNil)))) (sV (vC (.str (Str.ofString "}")))))
noncomputable def F_shown_record (rF : FS) : FS := runF 3 1 [] (b_shown_record rF)
noncomputable def b_shown_term (rF : FS) : SS := ssSeq (ssSet 1 (sV (vIx (vN 0) (vC (.int 0)))))
  (ssSeq (ssIf (sbE (sV (v2 oEq (vN 1) (vC (.str (Str.ofString "num")))))) (ssRet (sV (vB bStrA (vaCons (vIx (vN 0) (vC (.int 1))) (vaNil))))) (ssNil))
  (ssSeq (ssIf (sbE (sV (v2 oEq (vN 1) (vC (.str (Str.ofString "name")))))) (ssRet (sV (vIx (vN 0) (vC (.int 1))))) (ssNil))
  (ssSeq (ssIf (sbOr (sbE (sV (v2 oEq (vN 1) (vC (.str (Str.ofString "flip")))))) (sbE (sV (v2 oEq (vN 1) (vC (.str (Str.ofString "pick"))))))) (ssRet (sCall F_shown_draw [none] (saCons (sN 0) (saNil)))) (ssNil))
  (ssSeq (ssIf (sbE (sV (v2 oEq (vN 1) (vC (.str (Str.ofString "op")))))) (ssRet (sCall (F_shown_op rF) [none, none, none] (saCons (sV (vIx (vN 0) (vC (.int 1)))) (saCons (sV (vIx (vN 0) (vC (.int 2)))) (saCons (sV (vIx (vN 0) (vC (.int 3)))) (saNil)))))) (ssNil))
  (ssSeq (ssIf (sbE (sV (v2 oEq (vN 1) (vC (.str (Str.ofString "if")))))) (ssRet (s2 oAdd (s2 oAdd (sV (vC (.str (Str.ofString "if(")))) (sSm bJoin (sV (vC (.str (Str.ofString ", ")))) (saCons (sLc [2] (siQ (sSl (vN 0) (voI (vC (.int 1))) (voNo))) (sgN 2) sbYes (sCall rF [none] (saCons (sN 2) (saNil)))) (saNil)))) (sV (vC (.str (Str.ofString ")")))))) (ssNil))
  (ssSeq (ssIf (sbE (sV (v2 oEq (vN 1) (vC (.str (Str.ofString "rest")))))) (ssRet (s2 oAdd (s2 oAdd (s2 oAdd (s2 oAdd (sV (vC (.str (Str.ofString "rest(")))) (sCall rF [none] (saCons (sV (vIx (vN 0) (vC (.int 1)))) (saNil)))) (sV (vC (.str (Str.ofString ", "))))) (sV (vB bStrA (vaCons (vIx (vN 0) (vC (.int 2))) (vaNil))))) (sV (vC (.str (Str.ofString ")")))))) (ssNil))
  (ssSeq (ssIf (sbE (sV (v2 oEq (vN 1) (vC (.str (Str.ofString "record")))))) (ssRet (sCall (F_shown_record rF) [none] (saCons (sV (vIx (vN 0) (vC (.int 1)))) (saNil)))) (ssNil))
  (ssSeq (ssIf (sbE (sV (v2 oEq (vN 1) (vC (.str (Str.ofString "field")))))) (ssRet (s2 oAdd (s2 oAdd (sCall (F_bracketed rF) [none, none] (saCons (sV (vIx (vN 0) (vC (.int 1)))) (saCons (s2m mAdd (sV (vC g_LOOSE)) (sTup (saCons (sV (vC (.str (Str.ofString "*")))) (saNil)))) (saNil)))) (sV (vC (.str (Str.ofString "."))))) (sV (vIx (vN 0) (vC (.int 2)))))) (ssNil))
  (ssRet (s2 oAdd (s2 oAdd (sV (v2 oAdd (vIx (vN 0) (vC (.int 1))) (vC (.str (Str.ofString "("))))) (sSm bJoin (sV (vC (.str (Str.ofString ", ")))) (saCons (sLc [2] (siQ (sV (vIx (vN 0) (vC (.int 2))))) (sgN 2) sbYes (sCall rF [none] (saCons (sN 2) (saNil)))) (saNil)))) (sV (vC (.str (Str.ofString ")"))))))))))))))
noncomputable def F_shown_term : Nat → FS
  | 0 => fun _ => .bad
  | n + 1 => runF 3 1 [] (b_shown_term (F_shown_term n))
noncomputable def b_shown_row : SS := ssSeq (ssIf (sbE (sV (v2 oEq (vIx (vN 0) (vC (.int 0))) (vC (.str (Str.ofString "def")))))) (ssRet (s2 oAdd (sV (v2 oAdd (v2 oAdd (v2 oAdd (v2 oAdd (vC (.str (Str.ofString "def "))) (vIx (vN 0) (vC (.int 1)))) (vC (.str (Str.ofString "(")))) (vSm bJoin (vC (.str (Str.ofString ", "))) (vaCons (vIx (vN 0) (vC (.int 2))) (vaNil)))) (vC (.str (Str.ofString ") = "))))) (sCall (F_shown_term 24) [none] (saCons (sV (vIx (vN 0) (vC (.int 3)))) (saNil))))) (ssNil))
  (ssSeq (ssIf (sbE (sV (v2 oEq (vIx (vN 0) (vC (.int 0))) (vC (.str (Str.ofString "let")))))) (ssRet (s2 oAdd (sV (v2 oAdd (v2 oAdd (vC (.str (Str.ofString "let "))) (vIx (vN 0) (vC (.int 1)))) (vC (.str (Str.ofString " = "))))) (sCall (F_shown_term 24) [none] (saCons (sV (vIx (vN 0) (vC (.int 2)))) (saNil))))) (ssNil))
  (ssSeq (ssIf (sbE (sV (v2 oEq (vIx (vN 0) (vC (.int 0))) (vC (.str (Str.ofString "again")))))) (ssRet (s2 oAdd (sV (v2 oAdd (v2 oAdd (v2 oAdd (v2 oAdd (vC (.str (Str.ofString "again "))) (vB bStrA (vaCons (vIx (vN 0) (vC (.int 1))) (vaNil)))) (vC (.str (Str.ofString " ")))) (vIx (vN 0) (vC (.int 2)))) (vC (.str (Str.ofString " = "))))) (sCall (F_shown_term 24) [none] (saCons (sV (vIx (vN 0) (vC (.int 3)))) (saNil))))) (ssNil))
  (ssRet (s2 oAdd (sV (v2 oAdd (vIx (vN 0) (vC (.int 0))) (vC (.str (Str.ofString " "))))) (sCall (F_shown_term 24) [none] (saCons (sV (vIx (vN 0) (vC (.int 1)))) (saNil)))))))
noncomputable def F_shown_row : FS := runF 1 1 [] b_shown_row
noncomputable def b_shown : SS := ssRet (sSm bJoin (sV (vC (.str (Str.ofString "\n")))) (saCons (sLcW [1] [0] (iwN 0) (sgN 1) sbYes (sCall F_shown_row [none] (saCons (sN 1) (saNil)))) (saNil)))
noncomputable def F_shown : FS := runF 2 1 [] b_shown
noncomputable def fg__law_stream_1 : SG := sgN 4
noncomputable def fb__law_stream_1 : SS := ssSeq (ssSet 3 (sV (v2 oMod (v2 oAdd (v2 oAdd (v2 oMul (vN 3) (vN 3)) (v2 oMul (vC (.int 48271)) (vN 3))) (v2 oMul (vN 4) (vN 4))) (vC (.int 2147483647)))))
  (ssDrop (sMeth isLst 2 mAppend (saCons (sN 3) (saNil))))
noncomputable def b__law_stream : SS := ssSeq (ssSet 2 (sLst (saNil)))
  (ssSeq (ssSet 3 (sV (v2 oAdd (v2 oMod (vN 0) (vC (.int 2147483647))) (vC (.int 48271)))))
  (ssSeq (ssFor (siR1 (saCons (sN 1) (saNil))) fg__law_stream_1 fb__law_stream_1)
  (ssRet (sT 2))))
noncomputable def F__law_stream : FS := runF 5 2 [] b__law_stream
noncomputable def fg__law_name_1 : SG := sgN 2
noncomputable def fb__law_name_1 : SS := ssSeq (ssSet 3 (sV (v2 oMod (v2 oMul (v2 oAdd (v2 oFdiv (vN 0) (vC (.int 8))) (vN 2)) (v2 oAdd (v2 oMul (vC (.int 2)) (vN 2)) (vC (.int 3)))) (vC (.int 26)))))
  (ssSet 1 (sV (v2 oAdd (vN 1) (vIx (vC (.str (Str.ofString "abcdefghijklmnopqrstuvwxyz"))) (vN 3)))))
noncomputable def b__law_name : SS := ssSeq (ssSet 1 (sV (vC (.str (Str.ofString "")))))
  (ssSeq (ssFor (siR1 (saCons (sV (v2 oAdd (vC (.int 1)) (v2 oMod (vN 0) (vC (.int 8))))) (saNil))) fg__law_name_1 fb__law_name_1)
  (ssSeq (ssIf (sbE (s2n oIn 1 (sTup (saCons (sV (vC (.str (Str.ofString "flip")))) (saCons (sV (vC (.str (Str.ofString "pick")))) (saCons (sV (vC (.str (Str.ofString "if")))) (saCons (sV (vC (.str (Str.ofString "rest")))) (saNil)))))))) (ssRet (sV (vC (.str (Str.ofString "rests"))))) (ssNil))
  (ssRet (sT 1))))
noncomputable def F__law_name : FS := runF 4 1 [] b__law_name
noncomputable def b__law_leaf : SS := ssSeq (ssSet 1 (sV (v2 oMod (vN 0) (vC (.int 5)))))
  (ssSeq (ssSet 0 (sV (v2 oFdiv (vN 0) (vC (.int 5)))))
  (ssSeq (ssIf (sbE (sV (v2 oEq (vN 1) (vC (.int 0))))) (ssRet (sTup (saCons (sV (vC (.str (Str.ofString "num")))) (saCons (sV (v2 oMod (v2 oMul (vN 0) (vC (.int 2741))) (v2 oPow (vC (.int 10)) (vC (.int 12))))) (saNil))))) (ssNil))
  (ssSeq (ssIf (sbE (sV (v2 oEq (vN 1) (vC (.int 1))))) (ssSeq (ssSet 2 (sV (v2 oAdd (vC (.int 1)) (v2 oMod (vN 0) (vC (.int 999))))))
  (ssRet (sTup (saCons (sV (vC (.str (Str.ofString "flip")))) (saCons (sN 2) (saCons (sV (v2 oAdd (v2 oAdd (vN 2) (vC (.int 1))) (v2 oMod (v2 oFdiv (vN 0) (vC (.int 999))) (vC (.int 999000))))) (saNil))))))) (ssNil))
  (ssSeq (ssIf (sbE (sV (v2 oEq (vN 1) (vC (.int 2))))) (ssSeq (ssSet 3 (sLc [4] (siR1 (saCons (sV (v2 oAdd (vC (.int 1)) (v2 oMod (vN 0) (vC (.int 6))))) (saNil))) (sgN 4) sbYes (sTup (saCons (sV (v2 oAdd (v2 oMod (vN 0) (vC (.int 1000))) (v2 oMul (vC (.int 1000)) (vN 4)))) (saCons (sV (v2 oAdd (vC (.int 1)) (v2 oMod (v2 oFdiv (vN 0) (v2 oAdd (vN 4) (vC (.int 1)))) (v2 oPow (vC (.int 10)) (vC (.int 6)))))) (saNil))))))
  (ssRet (sTup (saCons (sV (vC (.str (Str.ofString "pick")))) (saCons (sTupV (vN 3)) (saNil)))))) (ssNil))
  (ssRet (sTup (saCons (sV (vC (.str (Str.ofString "name")))) (saCons (sCall F__law_name [none] (saCons (sN 0) (saNil))) (saNil)))))))))
noncomputable def F__law_leaf : FS := runF 5 1 [0] b__law_leaf
noncomputable def b__law_made : SS := ssSeq (ssIf (sbE (sV (v2 oLt (vN 0) (vC (.int 7))))) (ssRet (sTup (saCons (sV (vC (.str (Str.ofString "op")))) (saCons (sV (vIx (vC (.str (Str.ofString "+-*=<"))) (v2 oMod (vN 2) (vC (.int 5))))) (saCons (sV (vIx (vN 1) (vC (.int 0)))) (saCons (sV (vIx (vN 1) (vC (.int 1)))) (saNil))))))) (ssNil))
  (ssSeq (ssIf (sbE (sV (v2 oEq (vN 0) (vC (.int 7))))) (ssRet (sTup (saCons (sV (vC (.str (Str.ofString "field")))) (saCons (sV (vIx (vN 1) (vC (.int 0)))) (saCons (sCall F__law_name [none] (saCons (sN 2) (saNil))) (saNil)))))) (ssNil))
  (ssSeq (ssIf (sbE (sV (v2 oEq (vN 0) (vC (.int 8))))) (ssRet (sTup (saCons (sV (vC (.str (Str.ofString "rest")))) (saCons (sV (vIx (vN 1) (vC (.int 0)))) (saCons (sV (v2 oAdd (vC (.int 1)) (v2 oMod (v2 oMul (vN 2) (vC (.int 3001))) (v2 oSub (v2 oPow (vC (.int 10)) (vC (.int 12))) (vC (.int 1)))))) (saNil)))))) (ssNil))
  (ssSeq (ssIf (sbE (sV (v2 oEq (vN 0) (vC (.int 9))))) (ssRet (sTup (saCons (sV (vC (.str (Str.ofString "if")))) (saCons (sV (vIx (vN 1) (vC (.int 0)))) (saCons (sV (vIx (vN 1) (vC (.int 1)))) (saCons (sV (vIx (vN 1) (vC (.int 2)))) (saNil))))))) (ssNil))
  (ssSeq (ssIf (sbE (sV (v2 oEq (vN 0) (vC (.int 10))))) (ssSeq (ssSet 3 (sSlE (sCall F__law_name [none] (saCons (sN 2) (saNil))) (voNo) (voI (vC (.int 7)))))
  (ssRet (sTup (saCons (sV (vC (.str (Str.ofString "record")))) (saCons (sTupOf (sLc [4] (siR1 (saCons (sV (vB bLen (vaCons (vN 1) (vaNil)))) (saNil))) (sgN 4) sbYes (sTup (saCons (sV (v2 oAdd (vN 3) (vIx (vC (.str (Str.ofString "bcaedg"))) (vN 4)))) (saCons (sV (vIx (vN 1) (vN 4))) (saNil)))))) (saNil)))))) (ssNil))
  (ssRet (sTup (saCons (sV (vC (.str (Str.ofString "call")))) (saCons (sCall F__law_name [none] (saCons (sN 2) (saNil))) (saCons (sTupV (vN 1)) (saNil))))))))))
noncomputable def F__law_made : FS := runF 5 3 [] b__law_made
noncomputable def fg__law_put_1 : SG := sgN 6
noncomputable def fb__law_put_1 : SS := ssIf (sbE (sV (v2 oGt (vB bLen (vaCons (vN 0) (vaNil))) (vC (.int 0))))) (ssDrop (sMeth isLst 5 mAppend (saCons (sMeth isLst 0 mPop saNil) (saNil)))) (ssDrop (sMeth isLst 5 mAppend (saCons (sCall F__law_leaf [none] (saCons (sV (v2 oFdiv (vN 3) (v2 oAdd (vN 6) (vC (.int 3))))) (saNil))) (saNil))))
noncomputable def b__law_put : SS := ssSeq (ssSet 2 (sV (v2 oMod (vN 1) (vC (.int 12)))))
  (ssSeq (ssSet 3 (sV (v2 oFdiv (vN 1) (vC (.int 12)))))
  (ssSeq (ssIf (sbE (sV (v2 oLt (vN 2) (vC (.int 4))))) (ssSeq (ssDrop (sMeth isLst 0 mAppend (saCons (sCall F__law_leaf [none] (saCons (sN 3) (saNil))) (saNil))))
  (ssRet (sT 0))) (ssNil))
  (ssSeq (ssSet 4 (s2v oIdx (sLst (saCons (sV (vC (.int 2))) (saCons (sV (vC (.int 2))) (saCons (sV (vC (.int 2))) (saCons (sV (vC (.int 1))) (saCons (sV (vC (.int 1))) (saCons (sV (vC (.int 3))) (saCons (sV (v2 oAdd (vC (.int 1)) (v2 oMod (vN 3) (vC (.int 6))))) (saCons (sV (v2 oMod (vN 3) (vC (.int 4)))) (saNil)))))))))) (v2 oSub (vN 2) (vC (.int 4)))))
  (ssSeq (ssSet 5 (sLst (saNil)))
  (ssSeq (ssFor (siR1 (saCons (sN 4) (saNil))) fg__law_put_1 fb__law_put_1)
  (ssSeq (ssDrop (sMeth isLst 0 mAppend (saCons (sCall F__law_made [none, some 5, none] (saCons (sN 2) (saCons (sT 5) (saCons (sN 3) (saNil))))) (saNil))))
  (ssRet (sT 0))))))))
noncomputable def F__law_put : FS := runF 7 2 [] b__law_put
noncomputable def b__law_inner : SS := ssSeq (ssSet 1 (sV (vIx (vN 0) (vC (.int 0)))))
  (ssSeq (ssIf (sbE (sV (v2 oEq (vN 1) (vC (.str (Str.ofString "if")))))) (ssRet (sListOf (sSl (vN 0) (voI (vC (.int 1))) (voNo)))) (ssNil))
  (ssSeq (ssIf (sbE (sV (v2 oEq (vN 1) (vC (.str (Str.ofString "op")))))) (ssRet (sListOf (sSl (vN 0) (voI (vC (.int 2))) (voNo)))) (ssNil))
  (ssSeq (ssIf (sbOr (sbE (sV (v2 oEq (vN 1) (vC (.str (Str.ofString "rest")))))) (sbE (sV (v2 oEq (vN 1) (vC (.str (Str.ofString "field"))))))) (ssRet (sLst (saCons (sV (vIx (vN 0) (vC (.int 1)))) (saNil)))) (ssNil))
  (ssSeq (ssIf (sbE (sV (v2 oEq (vN 1) (vC (.str (Str.ofString "record")))))) (ssRet (sLc [2] (siQ (sV (vIx (vN 0) (vC (.int 1))))) (sgN 2) sbYes (sV (vIx (vN 2) (vC (.int 1)))))) (ssNil))
  (ssSeq (ssIf (sbE (sV (v2 oEq (vN 1) (vC (.str (Str.ofString "call")))))) (ssRet (sListV (vIx (vN 0) (vC (.int 2))))) (ssNil))
  (ssRet (sLst (saNil))))))))
noncomputable def F__law_inner : FS := runF 3 1 [] b__law_inner
noncomputable def b__law_size (rF : FS) : SS := ssSeq (ssIf (sbE (sV (v2 oEq (vIx (vN 0) (vC (.int 0))) (vC (.str (Str.ofString "pick")))))) (ssRet (sV (v2 oAdd (vC (.int 2)) (v2 oMul (vC (.int 4)) (vB bLen (vaCons (vIx (vN 0) (vC (.int 1))) (vaNil))))))) (ssNil))
  (ssSeq (ssIf (sbOr (sbE (sV (v2 oEq (vIx (vN 0) (vC (.int 0))) (vC (.str (Str.ofString "num")))))) (sbE (sV (v2 oEq (vIx (vN 0) (vC (.int 0))) (vC (.str (Str.ofString "name"))))))) (ssRet (sV (vC (.int 1)))) (ssNil))
  (ssSeq (ssIf (sbE (sV (v2 oEq (vIx (vN 0) (vC (.int 0))) (vC (.str (Str.ofString "record")))))) (ssRet (s2 oAdd (sV (vC (.int 2))) (sB bSum (saCons (sLc [1] (siQ (sCall F__law_inner [none] (saCons (sN 0) (saNil)))) (sgN 1) sbYes (s2 oAdd (sV (vC (.int 3))) (sCall rF [none] (saCons (sN 1) (saNil))))) (saNil))))) (ssNil))
  (ssRet (s2 oAdd (sV (vC (.int 6))) (sB bSum (saCons (sLc [1] (siQ (sCall F__law_inner [none] (saCons (sN 0) (saNil)))) (sgN 1) sbYes (s2 oAdd (sV (vC (.int 2))) (sCall rF [none] (saCons (sN 1) (saNil))))) (saNil)))))))
noncomputable def F__law_size : Nat → FS
  | 0 => fun _ => .bad
  | n + 1 => runF 2 1 [] (b__law_size (F__law_size n))
noncomputable def fg__law_grown_1 : SG := sgN 4
noncomputable def fb__law_grown_1 : SS := ssSet 3 (sCall F__law_put [some 3, none] (saCons (sT 3) (saCons (sN 4) (saNil))))
noncomputable def wc__law_grown_2 : SB := sbE (sV (v2 oGt (vB bLen (vaCons (vN 3) (vaNil))) (vC (.int 1))))
noncomputable def wb__law_grown_2 : SS := ssSeq (ssSet 5 (sMeth isLst 3 mPop saNil))
  (ssDrop (sMeth isLst 3 mAppend (saCons (sTup (saCons (sV (vC (.str (Str.ofString "op")))) (saCons (sV (vIx (vC (.str (Str.ofString "*-+<="))) (v2 oMod (vB bLen (vaCons (vN 3) (vaNil))) (vC (.int 5))))) (saCons (sMeth isLst 3 mPop saNil) (saCons (sN 5) (saNil)))))) (saNil))))
noncomputable def b__law_grown : SS := ssSeq (ssSet 2 (sCall F__law_stream [none, none] (saCons (sN 0) (saCons (sV (v2 oAdd (vC (.int 1)) (v2 oMod (v2 oMod (v2 oMul (vN 0) (vC (.int 69621))) (vC (.int 2147483629))) (v2 oAdd (vN 1) (vC (.int 1)))))) (saNil)))))
  (ssSeq (ssSet 3 (sLst (saCons (sCall F__law_leaf [none] (saCons (sV (vIx (vN 2) (vC (.int 0)))) (saNil))) (saNil))))
  (ssSeq (ssFor (siQ (sSl (vN 2) (voI (vC (.int 1))) (voNo))) fg__law_grown_1 fb__law_grown_1)
  (ssSeq (ssWhile wc__law_grown_2 wb__law_grown_2)
  (ssSeq (ssIf (sbE (s2v oGt (sCall (F__law_size 24) [none] (saCons (sV (vIx (vN 3) (vC (.int 0)))) (saNil))) (vC (.int 44)))) (ssRet (sCall F__law_leaf [none] (saCons (sV (vIx (vN 2) (vC (.int 0)))) (saNil)))) (ssNil))
  (ssRet (sV (vIx (vN 3) (vC (.int 0)))))))))
noncomputable def F__law_grown : FS := runF 6 2 [] b__law_grown
noncomputable def b__law_row : SS := ssSeq (ssSet 2 (sCall F__law_grown [none, none] (saCons (sV (v2 oFdiv (vN 0) (vC (.int 5)))) (saCons (sN 1) (saNil)))))
  (ssSeq (ssSet 3 (sCall F__law_name [none] (saCons (sV (v2 oMod (v2 oMul (vN 0) (vC (.int 40692))) (vC (.int 2147483399)))) (saNil))))
  (ssSeq (ssSet 4 (sV (v2 oMod (vN 0) (vC (.int 5)))))
  (ssSeq (ssIf (sbE (sV (v2 oEq (vN 4) (vC (.int 0))))) (ssRet (sTup (saCons (sV (vC (.str (Str.ofString "see")))) (saCons (sN 2) (saNil))))) (ssNil))
  (ssSeq (ssIf (sbE (sV (v2 oEq (vN 4) (vC (.int 1))))) (ssRet (sTup (saCons (sV (vC (.str (Str.ofString "again")))) (saCons (sV (v2 oMod (v2 oFdiv (vN 0) (vC (.int 5))) (vC (.int 31)))) (saCons (sN 3) (saCons (sN 2) (saNil))))))) (ssNil))
  (ssSeq (ssIf (sbE (sV (v2 oEq (vN 4) (vC (.int 2))))) (ssSeq (ssSet 5 (sLc [6] (siR1 (saCons (sV (v2 oMod (v2 oFdiv (vN 0) (vC (.int 5))) (vC (.int 4)))) (saNil))) (sgN 6) sbYes (s2 oAdd (sSl (vN 3) (voNo) (voI (vC (.int 7)))) (sV (vIx (vC (.str (Str.ofString "abc"))) (vN 6))))))
  (ssRet (sTup (saCons (sV (vC (.str (Str.ofString "def")))) (saCons (sCall F__law_name [none] (saCons (sV (v2 oMod (v2 oMul (vN 0) (vC (.int 69621))) (vC (.int 2147483629)))) (saNil))) (saCons (sTupV (vN 5)) (saCons (sN 2) (saNil)))))))) (ssNil))
  (ssRet (sTup (saCons (sV (vC (.str (Str.ofString "let")))) (saCons (sN 3) (saCons (sN 2) (saNil)))))))))))
noncomputable def F__law_row : FS := runF 7 2 [] b__law_row
noncomputable def b__law_program : SS := ssSeq (ssSet 2 (sLc [4, 5] (siEnum (saCons (sSl (vN 0) (voNo) (voI (vC (.int 39)))) (saNil))) (sgTup 2 (sgCons (sgN 4) (sgCons (sgN 5) (sgNil)))) sbYes (sCall F__law_row [none, none] (saCons (sV (v2 oAdd (v2 oMod (vN 5) (v2 oPow (vC (.int 10)) (vC (.int 15)))) (v2 oMul (v2 oMul (vC (.int 104729)) (vN 4)) (vN 4)))) (saCons (sN 1) (saNil))))))
  (ssSeq (ssSet 3 (sV (vC (.int 0))))
  (ssSeq (ssIf (sbE (sV (v2 oGt (vB bLen (vaCons (vN 0) (vaNil))) (vC (.int 0))))) (ssSet 3 (sV (v2 oMod (vIx (vN 0) (vNeg (vC (.int 1)))) (v2 oPow (vC (.int 10)) (vC (.int 12)))))) (ssNil))
  (ssSeq (ssDrop (sMeth isLst 2 mAppend (saCons (sTup (saCons (sV (vC (.str (Str.ofString "ask")))) (saCons (sCall F__law_grown [none, none] (saCons (sV (v2 oAdd (vN 3) (vB bLen (vaCons (vN 0) (vaNil))))) (saCons (sN 1) (saNil)))) (saNil)))) (saNil))))
  (ssRet (sT 2)))))
noncomputable def F__law_program : FS := runF 6 2 [] b__law_program
noncomputable def b__law_level : SS := ssSeq (ssIf (sbE (sV (v2 oNe (vIx (vN 0) (vC (.int 0))) (vC (.str (Str.ofString "op")))))) (ssRet (sV (vC (.int 3)))) (ssNil))
  (ssRet (s2v oIdx (sLst (saCons (sV (vC (.int 0))) (saCons (sV (vC (.int 0))) (saCons (sV (vC (.int 1))) (saCons (sV (vC (.int 1))) (saCons (sV (vC (.int 2))) (saNil))))))) (vSm bFind (vC (.str (Str.ofString "=<+-*"))) (vaCons (vIx (vN 0) (vC (.int 1))) (vaNil)))))
noncomputable def F__law_level : FS := runF 1 1 [] b__law_level
noncomputable def b__law_op (rF : FS) : SS := ssSeq (ssSet 1 (sCall F__law_level [none] (saCons (sN 0) (saNil))))
  (ssRet (s2 oAdd (s2 oAdd (s2 oAdd (s2 oAdd (sCall rF [none, none] (saCons (sV (vIx (vN 0) (vC (.int 2)))) (saCons (sV (vB bMax2 (vaCons (vC (.int 1)) (vaCons (vN 1) vaNil)))) (saNil)))) (sV (vC (.str (Str.ofString " "))))) (sV (vIx (vN 0) (vC (.int 1))))) (sV (vC (.str (Str.ofString " "))))) (sCall rF [none, none] (saCons (sV (vIx (vN 0) (vC (.int 3)))) (saCons (sV (v2 oAdd (vN 1) (vC (.int 1)))) (saNil))))))
noncomputable def F__law_op (rF : FS) : FS := runF 2 1 [] (b__law_op rF)
noncomputable def b__law_text (rF : FS) : SS := ssSeq (ssSet 2 (sV (vIx (vN 0) (vC (.int 0)))))
  (ssSeq (ssIf (sbE (s2v oLt (sCall F__law_level [none] (saCons (sN 0) (saNil))) (vN 1))) (ssRet (s2 oAdd (s2 oAdd (sV (vC (.str (Str.ofString "(")))) (sCall rF [none, none] (saCons (sN 0) (saCons (sV (vC (.int 0))) (saNil))))) (sV (vC (.str (Str.ofString ")")))))) (ssNil))
  (ssSeq (ssIf (sbE (sV (v2 oEq (vN 2) (vC (.str (Str.ofString "op")))))) (ssRet (sCall (F__law_op rF) [none] (saCons (sN 0) (saNil)))) (ssNil))
  (ssSeq (ssIf (sbOr (sbE (sV (v2 oEq (vN 2) (vC (.str (Str.ofString "num")))))) (sbE (sV (v2 oEq (vN 2) (vC (.str (Str.ofString "name"))))))) (ssRet (sV (vB bStrA (vaCons (vIx (vN 0) (vC (.int 1))) (vaNil))))) (ssNil))
  (ssSeq (ssIf (sbE (sV (v2 oEq (vN 2) (vC (.str (Str.ofString "flip")))))) (ssRet (sV (v2 oAdd (v2 oAdd (v2 oAdd (v2 oAdd (vC (.str (Str.ofString "flip("))) (vB bStrA (vaCons (vIx (vN 0) (vC (.int 1))) (vaNil)))) (vC (.str (Str.ofString "/")))) (vB bStrA (vaCons (vIx (vN 0) (vC (.int 2))) (vaNil)))) (vC (.str (Str.ofString ")")))))) (ssNil))
  (ssSeq (ssIf (sbE (sV (v2 oEq (vN 2) (vC (.str (Str.ofString "pick")))))) (ssRet (s2 oAdd (s2 oAdd (sV (vC (.str (Str.ofString "pick(")))) (sSm bJoin (sV (vC (.str (Str.ofString ", ")))) (saCons (sLc [5] (siQ (sV (vIx (vN 0) (vC (.int 1))))) (sgN 5) sbYes (sV (v2 oAdd (v2 oAdd (vB bStrA (vaCons (vIx (vN 5) (vC (.int 0))) (vaNil))) (vC (.str (Str.ofString ":")))) (vB bStrA (vaCons (vIx (vN 5) (vC (.int 1))) (vaNil)))))) (saNil)))) (sV (vC (.str (Str.ofString ")")))))) (ssNil))
  (ssSeq (ssIf (sbE (sV (v2 oEq (vN 2) (vC (.str (Str.ofString "field")))))) (ssRet (s2 oAdd (s2 oAdd (sCall rF [none, none] (saCons (sV (vIx (vN 0) (vC (.int 1)))) (saCons (sV (vC (.int 3))) (saNil)))) (sV (vC (.str (Str.ofString "."))))) (sV (vIx (vN 0) (vC (.int 2)))))) (ssNil))
  (ssSeq (ssIf (sbE (sV (v2 oEq (vN 2) (vC (.str (Str.ofString "rest")))))) (ssRet (s2 oAdd (s2 oAdd (s2 oAdd (s2 oAdd (sV (vC (.str (Str.ofString "rest(")))) (sCall rF [none, none] (saCons (sV (vIx (vN 0) (vC (.int 1)))) (saCons (sV (vC (.int 0))) (saNil))))) (sV (vC (.str (Str.ofString ", "))))) (sV (vB bStrA (vaCons (vIx (vN 0) (vC (.int 2))) (vaNil))))) (sV (vC (.str (Str.ofString ")")))))) (ssNil))
  (ssSeq (ssIf (sbE (sV (v2 oEq (vN 2) (vC (.str (Str.ofString "record")))))) (ssRet (s2 oAdd (s2 oAdd (sV (vC (.str (Str.ofString "{")))) (sSm bJoin (sV (vC (.str (Str.ofString ", ")))) (saCons (sLc [5] (siQ (sV (vIx (vN 0) (vC (.int 1))))) (sgN 5) sbYes (s2 oAdd (sV (v2 oAdd (vIx (vN 5) (vC (.int 0))) (vC (.str (Str.ofString ": "))))) (sCall rF [none, none] (saCons (sV (vIx (vN 5) (vC (.int 1)))) (saCons (sV (vC (.int 0))) (saNil)))))) (saNil)))) (sV (vC (.str (Str.ofString "}")))))) (ssNil))
  (ssSeq (ssSet 3 (sSm bJoin (sV (vC (.str (Str.ofString ", ")))) (saCons (sLc [4] (siQ (sCall F__law_inner [none] (saCons (sN 0) (saNil)))) (sgN 4) sbYes (sCall rF [none, none] (saCons (sN 4) (saCons (sV (vC (.int 0))) (saNil))))) (saNil))))
  (ssSeq (ssIf (sbE (sV (v2 oEq (vN 2) (vC (.str (Str.ofString "if")))))) (ssRet (sV (v2 oAdd (v2 oAdd (vC (.str (Str.ofString "if("))) (vN 3)) (vC (.str (Str.ofString ")")))))) (ssNil))
  (ssRet (sV (v2 oAdd (v2 oAdd (v2 oAdd (vIx (vN 0) (vC (.int 1))) (vC (.str (Str.ofString "(")))) (vN 3)) (vC (.str (Str.ofString ")"))))))))))))))))
noncomputable def F__law_text : Nat → FS
  | 0 => fun _ => .bad
  | n + 1 => runF 6 2 [] (b__law_text (F__law_text n))
noncomputable def b__law_line : SS := ssSeq (ssSet 1 (sCall (F__law_text 48) [none, none] (saCons (sV (vIx (vN 0) (vNeg (vC (.int 1))))) (saCons (sV (vC (.int 0))) (saNil)))))
  (ssSeq (ssIf (sbE (sV (v2 oEq (vIx (vN 0) (vC (.int 0))) (vC (.str (Str.ofString "def")))))) (ssRet (sV (v2 oAdd (v2 oAdd (v2 oAdd (v2 oAdd (v2 oAdd (vC (.str (Str.ofString "def "))) (vIx (vN 0) (vC (.int 1)))) (vC (.str (Str.ofString "(")))) (vSm bJoin (vC (.str (Str.ofString ", "))) (vaCons (vIx (vN 0) (vC (.int 2))) (vaNil)))) (vC (.str (Str.ofString ") = ")))) (vN 1)))) (ssNil))
  (ssSeq (ssIf (sbE (sV (v2 oEq (vIx (vN 0) (vC (.int 0))) (vC (.str (Str.ofString "again")))))) (ssRet (sV (v2 oAdd (v2 oAdd (v2 oAdd (v2 oAdd (v2 oAdd (vC (.str (Str.ofString "again "))) (vB bStrA (vaCons (vIx (vN 0) (vC (.int 1))) (vaNil)))) (vC (.str (Str.ofString " ")))) (vIx (vN 0) (vC (.int 2)))) (vC (.str (Str.ofString " = ")))) (vN 1)))) (ssNil))
  (ssSeq (ssIf (sbE (sV (v2 oEq (vIx (vN 0) (vC (.int 0))) (vC (.str (Str.ofString "let")))))) (ssRet (sV (v2 oAdd (v2 oAdd (v2 oAdd (vC (.str (Str.ofString "let "))) (vIx (vN 0) (vC (.int 1)))) (vC (.str (Str.ofString " = ")))) (vN 1)))) (ssNil))
  (ssRet (sV (v2 oAdd (v2 oAdd (vIx (vN 0) (vC (.int 0))) (vC (.str (Str.ofString " ")))) (vN 1)))))))
noncomputable def F__law_line : FS := runF 2 1 [] b__law_line
noncomputable def fg_law_1 : SG := sgN 4
noncomputable def fb_law_1 : SS := ssSeq (ssSet 5 (sCall (F_shown_term 24) [none] (saCons (sV (vIx (vN 4) (vNeg (vC (.int 1))))) (saNil))))
  (ssIf (sbOr (sbNot (sbE (sV (vIsi "str" (vN 5))))) (sbE (s2n oNe 5 (sCall (F__law_text 48) [none, none] (saCons (sV (vIx (vN 4) (vNeg (vC (.int 1))))) (saCons (sV (vC (.int 0))) (saNil))))))) (ssRet (sV (vC (.bl false)))) (ssNil))
noncomputable def b_law : SS := ssSeq (ssSet 1 (sCall F__law_program [none, none] (saCons (sN 0) (saCons (sV (vC (.int 4))) (saNil)))))
  (ssSeq (ssSet 2 (sListV (vN 1)))
  (ssSeq (ssSet 3 (sCall F_shown [none] (saCons (sN 2) (saNil))))
  (ssSeq (ssIf (sbOr (sbNot (sbE (sV (vIsi "str" (vN 3))))) (sbE (s2n oNe 3 (sSm bJoin (sV (vC (.str (Str.ofString "\n")))) (saCons (sLcW [4] [1] (iwN 1) (sgN 4) sbYes (sCall F__law_line [none] (saCons (sN 4) (saNil)))) (saNil)))))) (ssRet (sV (vC (.bl false)))) (ssNil))
  (ssSeq (ssForW [1] (iwN 1) fg_law_1 fb_law_1)
  (ssRet (sV (v2 oEq (vN 2) (vN 1))))))))
noncomputable def F_law : FS := runF 6 1 [] b_law
structure ExcG (G : Gx) (mg : Str → Option Value) (nm : String) (x : Str) : Prop where
  gC : mg x = some (.ref (G.ad nm))
  xP : PySem.W.excIn G.K (G.ad nm) [.type "ValueError", .type "Exception", .type "BaseException", .type "object"] "ValueError.__new__" = true
  kP : PySem.W.keepIn G.K (.ref (G.ad nm)) = true
  bP : PySem.W.subIn G.K (.ref (G.ad nm)) (.type "BaseException") = some true
  tP : PySem.W.typeIn G.K (.ref (G.ad nm)) = some (.type "type")
theorem ExcG.at {G : Gx} {X : Cx} {nm : String} {x : Str} (h : ExcG G X.mg nm x) (hK : G.K = X.K := by rfl) : ExcA G X nm x := by
  obtain ⟨h1, h2, h3, h4, h5⟩ := h
  rw [hK] at h2 h3 h4 h5
  exact ⟨h1, h2, h3, h4, h5⟩
structure Tx (G : Gx) (mg : Str → Option Value) : Prop where
  z_len : mg "len" = none
  z_enumerate : mg "enumerate" = none
  z_isinstance : mg "isinstance" = none
  z_list : mg "list" = none
  z_max : mg "max" = none
  z_range : mg "range" = none
  z_str : mg "str" = none
  z_sum : mg "sum" = none
  z_tuple : mg "tuple" = none
  g_LOOSE : ∃ u v, mg "LOOSE" = some u ∧ RelV v u ∧ ∀ Z, RepD G Z g_LOOSE v
theorem a_bracketed {P : Program} {G : Gx} {mg : Str → Option Value} {base : Heap} {f : Addr} {fd : FuncData} (T : Tx G mg) {K : Nat} {rF : FS} (hK : 1 ≤ K) (h_shown_term : FnA P G.w G mg base K "shown_term" 1 rF) (Ff : Fun G.K "bracketed" "bracketed" st_bracketed f fd) (hm : mg "bracketed" = some (.ref f)) : FnA P G.w G mg base (K + 1) "bracketed" 2 (F_bracketed rF) :=
  fnA_mk (k := K + 0) [] Ff hm (Ff.binds (ps := ["term", "signs"]) (fun _ _ _ _ _ _ us hl => match us, hl with | [_, _], _ => rfl)) sc_bracketed rfl fun cdv A outer s H E hr tk hp =>
  xs_cons (xs_if ((xw_and (xb_cmpv (op_eqP hr.units) vop_eq (xv_ix rfl (xv_name 0) (xv_int)) (xv_str) (nomark _)) (xw_and1 (xb_cmpv opr_in vop_in (xv_ix rfl (xv_name 0) (xv_int)) (xv_name 1) (by with_unfolding_all rfl)))).pb) (xs_one (xs_ret (xe_op opr_add vop_add (xe_op opr_add vop_add (xe_v (xv_str)) (xe_call' h_shown_term rfl hr (by omega) tk (xa_cons (xe_name 0) (xa_nil)) (saCons_len saNil_len))) (xe_v (xv_str))))) (xs_nil))
  (xs_one (xs_ret (xe_call' h_shown_term rfl hr (by omega) tk (xa_cons (xe_name 0) (xa_nil)) (saCons_len saNil_len))))
theorem a_shown_op {P : Program} {G : Gx} {mg : Str → Option Value} {base : Heap} {f : Addr} {fd : FuncData} (T : Tx G mg) {K : Nat} {rF : FS} (hK : 1 ≤ K) (h_shown_term : FnA P G.w G mg base K "shown_term" 1 rF) (h_bracketed : FnA P G.w G mg base (K + 1) "bracketed" 2 (F_bracketed rF)) (Ff : Fun G.K "shown_op" "shown_op" st_shown_op f fd) (hm : mg "shown_op" = some (.ref f)) : FnA P G.w G mg base (K + 2) "shown_op" 3 (F_shown_op rF) :=
  fnA_mk (k := K + 1) [] Ff hm (Ff.binds (ps := ["sign", "one", "other"]) (fun _ _ _ _ _ _ us hl => match us, hl with | [_, _, _], _ => rfl)) sc_shown_op rfl fun cdv A outer s H E hr tk hp =>
  xs_cons (xs_set 3 sc_shown_op.nd (xe_tup (xa_cons (xe_v (xv_str)) (xa_cons (xe_v (xv_str)) (xa_nil)))))
  (xs_cons (xs_set 4 sc_shown_op.nd (xe_tup (xa_cons (xe_v (xv_str)) (xa_cons (xe_v (xv_str)) (xa_nil)))))
  (xs_cons (xs_if ((xw_or (xb_cmpv (op_eqP hr.units) vop_eq (xv_name 0) (xv_str) (nomark _)) (xw_or1 (xb_cmpv (op_eqP hr.units) vop_eq (xv_name 0) (xv_str) (nomark _)))).pb) (xs_one (xs_set 4 sc_shown_op.nd (xe_v (xv_glob T.g_LOOSE)))) (xs_nil))
  (xs_cons (xs_if (xb_cmpv (op_eqP hr.units) vop_eq (xv_name 0) (xv_str) (nomark _)) (xs_cons (xs_set 3 sc_shown_op.nd (xe_v (xv_glob T.g_LOOSE)))
  (xs_one (xs_set 4 sc_shown_op.nd (xe_addM rfl (xe_v (xv_glob T.g_LOOSE)) (xe_tup (xa_cons (xe_v (xv_str)) (xa_nil))))))) (xs_nil))
  (xs_one (xs_ret (xe_op opr_add vop_add (xe_op opr_add vop_add (xe_op opr_add vop_add (xe_op opr_add vop_add (xe_call' h_bracketed rfl hr (by omega) tk (xa_cons (xe_name 1) (xa_cons (xe_name 3) (xa_nil))) (saCons_len (saCons_len saNil_len))) (xe_v (xv_str))) (xe_name 0)) (xe_v (xv_str))) (xe_call' h_bracketed rfl hr (by omega) tk (xa_cons (xe_name 2) (xa_cons (xe_name 4) (xa_nil))) (saCons_len (saCons_len saNil_len)))))))))
theorem a_shown_draw {P : Program} {G : Gx} {mg : Str → Option Value} {base : Heap} {f : Addr} {fd : FuncData} (T : Tx G mg) (Ff : Fun G.K "shown_draw" "shown_draw" st_shown_draw f fd) (hm : mg "shown_draw" = some (.ref f)) : FnA P G.w G mg base 1 "shown_draw" 1 F_shown_draw :=
  fnA_mk [] Ff hm (Ff.binds (ps := ["term"]) (fun _ _ _ _ _ _ us hl => match us, hl with | [_], _ => rfl)) sc_shown_draw rfl fun cdv A outer s H E hr tk hp =>
  xs_cons (xs_if (xb_cmpv (op_eqP hr.units) vop_eq (xv_ix rfl (xv_name 0) (xv_int)) (xv_str) (nomark _)) (xs_one (xs_ret (xe_v (xv_op opr_add vop_add (xv_op opr_add vop_add (xv_op opr_add vop_add (xv_op opr_add vop_add (xv_str) (xv_ty bop_strA cr_strA T.z_str (by decide +kernel) (xva_cons (xv_ix rfl (xv_name 0) (xv_int)) (xva_nil)))) (xv_str)) (xv_ty bop_strA cr_strA T.z_str (by decide +kernel) (xva_cons (xv_ix rfl (xv_name 0) (xv_int)) (xva_nil)))) (xv_str))))) (xs_nil))
  (xs_cons (xs_setLc (own := [("value", 2), ("weight", 3)]) 1 rfl sc_shown_draw.nd (blkOk_by (own := [("value", 2), ("weight", 3)]) (N := N_shown_draw) (sc := defScope st_shown_draw) (by decide +kernel)) (xi_q rfl (xe_v (xv_ix rfl (xv_name 0) (xv_int)))) (fun _ _ _ _ _ => xg_tup rfl rfl (xgs_cons (xg_name 2 sc_shown_draw.nd) (xgs_cons (xg_name 3 sc_shown_draw.nd) (xgs_nil)))) (fun _ _ _ _ _ => xe_v (xv_op opr_add vop_add (xv_op opr_add vop_add (xv_ty bop_strA cr_strA T.z_str (by decide +kernel) (xva_cons (xv_name 2) (xva_nil))) (xv_str)) (xv_ty bop_strA cr_strA T.z_str (by decide +kernel) (xva_cons (xv_name 3) (xva_nil))))) (sw_true rfl rfl rfl (by decide +kernel)))
  (xs_one (xs_ret (xe_v (xv_op opr_add vop_add (xv_op opr_add vop_add (xv_str) (xv_sm F.slot_str_join F.type_str_join mt_join bmo_join (xv_str) (xva_cons (xv_name 1) (xva_nil)))) (xv_str))))))
theorem a_shown_record {P : Program} {G : Gx} {mg : Str → Option Value} {base : Heap} {f : Addr} {fd : FuncData} (T : Tx G mg) {K : Nat} {rF : FS} (hK : 1 ≤ K) (h_shown_term : FnA P G.w G mg base K "shown_term" 1 rF) (Ff : Fun G.K "shown_record" "shown_record" st_shown_record f fd) (hm : mg "shown_record" = some (.ref f)) : FnA P G.w G mg base (K + 1) "shown_record" 1 (F_shown_record rF) :=
  fnA_mk (k := K + 0) [] Ff hm (Ff.binds (ps := ["fields"]) (fun _ _ _ _ _ _ us hl => match us, hl with | [_], _ => rfl)) sc_shown_record rfl fun cdv A outer s H E hr tk hp =>
  xs_one (xs_ret (xe_op opr_add vop_add (xe_op opr_add vop_add (xe_v (xv_str)) (xe_sm F.slot_str_join F.type_str_join mt_join bmo_join (xe_v (xv_str)) (xa_cons (xe_lcW (own := [("field", 1), ("term", 2)]) rfl sc_shown_record.nd (blkOk_by (own := [("field", 1), ("term", 2)]) (N := N_shown_record) (sc := defScope st_shown_record) (by decide +kernel)) (xw_name 0 rfl) (fun _ _ _ _ _ => xg_tup rfl rfl (xgs_cons (xg_name 1 sc_shown_record.nd) (xgs_cons (xg_name 2 sc_shown_record.nd) (xgs_nil)))) (fun _ _ _ _ _ => xe_op opr_add vop_add (xe_v (xv_op opr_add vop_add (xv_name 1) (xv_str))) (xe_call' h_shown_term rfl hr (by omega) takes0 (xa_cons (xe_name 2) (xa_nil)) (saCons_len saNil_len)))) (xa_nil)))) (xe_v (xv_str))))
theorem a_shown_term {P : Program} {G : Gx} {mg : Str → Option Value} {base : Heap} {f : Addr} {fd : FuncData} (T : Tx G mg) (h_shown_draw : FnA P G.w G mg base 1 "shown_draw" 1 F_shown_draw) {f_bracketed : Addr} {fd_bracketed : FuncData} (Ff_bracketed : Fun G.K "bracketed" "bracketed" st_bracketed f_bracketed fd_bracketed) (hm_bracketed : mg "bracketed" = some (.ref f_bracketed)) {f_shown_op : Addr} {fd_shown_op : FuncData} (Ff_shown_op : Fun G.K "shown_op" "shown_op" st_shown_op f_shown_op fd_shown_op) (hm_shown_op : mg "shown_op" = some (.ref f_shown_op)) {f_shown_record : Addr} {fd_shown_record : FuncData} (Ff_shown_record : Fun G.K "shown_record" "shown_record" st_shown_record f_shown_record fd_shown_record) (hm_shown_record : mg "shown_record" = some (.ref f_shown_record)) (Ff : Fun G.K "shown_term" "shown_term" st_shown_term f fd) (hm : mg "shown_term" = some (.ref f)) : ∀ n : Nat, FnA P G.w G mg base (1 + 3 * n) "shown_term" 1 (F_shown_term n) := by
  intro n
  induction n with
  | zero => exact fnA_bad Ff hm (Ff.binds (ps := ["term"]) (fun _ _ _ _ _ _ us hl => match us, hl with | [_], _ => rfl)) sc_shown_term rfl (by decide)
  | succ n h_shown_term =>
    have h_bracketed := a_bracketed T (K := 1 + 3 * n) (by omega) h_shown_term Ff_bracketed hm_bracketed
    have h_shown_op := a_shown_op T (K := 1 + 3 * n) (by omega) h_shown_term h_bracketed Ff_shown_op hm_shown_op
    have h_shown_record := a_shown_record T (K := 1 + 3 * n) (by omega) h_shown_term Ff_shown_record hm_shown_record
    show FnA P G.w G mg base ((1 + 3 * n + 2) + 1) "shown_term" 1 (runF 3 1 [] (b_shown_term (F_shown_term n)))
    exact fnA_mk [] Ff hm (Ff.binds (ps := ["term"]) (fun _ _ _ _ _ _ us hl => match us, hl with | [_], _ => rfl)) sc_shown_term rfl fun cdv A outer s H E hr tk hp =>
  (xs_cons (xs_set 1 sc_shown_term.nd (xe_v (xv_ix rfl (xv_name 0) (xv_int))))
  (xs_cons (xs_if (xb_cmpv (op_eqP hr.units) vop_eq (xv_name 1) (xv_str) (nomark _)) (xs_one (xs_ret (xe_v (xv_ty bop_strA cr_strA T.z_str (by decide +kernel) (xva_cons (xv_ix rfl (xv_name 0) (xv_int)) (xva_nil)))))) (xs_nil))
  (xs_cons (xs_if (xb_cmpv (op_eqP hr.units) vop_eq (xv_name 1) (xv_str) (nomark _)) (xs_one (xs_ret (xe_v (xv_ix rfl (xv_name 0) (xv_int))))) (xs_nil))
  (xs_cons (xs_if ((xw_or (xb_cmpv (op_eqP hr.units) vop_eq (xv_name 1) (xv_str) (nomark _)) (xw_or1 (xb_cmpv (op_eqP hr.units) vop_eq (xv_name 1) (xv_str) (nomark _)))).pb) (xs_one (xs_ret (xe_call' h_shown_draw rfl hr (by omega) tk (xa_cons (xe_name 0) (xa_nil)) (saCons_len saNil_len)))) (xs_nil))
  (xs_cons (xs_if (xb_cmpv (op_eqP hr.units) vop_eq (xv_name 1) (xv_str) (nomark _)) (xs_one (xs_ret (xe_call' h_shown_op rfl hr (by omega) tk (xa_cons (xe_v (xv_ix rfl (xv_name 0) (xv_int))) (xa_cons (xe_v (xv_ix rfl (xv_name 0) (xv_int))) (xa_cons (xe_v (xv_ix rfl (xv_name 0) (xv_int))) (xa_nil)))) (saCons_len (saCons_len (saCons_len saNil_len)))))) (xs_nil))
  (xs_cons (xs_if (xb_cmpv (op_eqP hr.units) vop_eq (xv_name 1) (xv_str) (nomark _)) (xs_one (xs_ret (xe_op opr_add vop_add (xe_op opr_add vop_add (xe_v (xv_str)) (xe_sm F.slot_str_join F.type_str_join mt_join bmo_join (xe_v (xv_str)) (xa_cons (xe_lc (own := [("part", 2)]) rfl sc_shown_term.nd (blkOk_by (own := [("part", 2)]) (N := N_shown_term) (sc := defScope st_shown_term) (by decide +kernel)) (xi_q rfl (xe_sl rfl (xv_name 0) (xo_some (xv_int)) (xo_none))) (fun _ _ _ _ _ => xg_name 2 sc_shown_term.nd) (fun _ _ _ _ _ => xe_call' h_shown_term rfl hr (by omega) takes0 (xa_cons (xe_name 2) (xa_nil)) (saCons_len saNil_len))) (xa_nil)))) (xe_v (xv_str))))) (xs_nil))
  (xs_cons (xs_if (xb_cmpv (op_eqP hr.units) vop_eq (xv_name 1) (xv_str) (nomark _)) (xs_one (xs_ret (xe_op opr_add vop_add (xe_op opr_add vop_add (xe_op opr_add vop_add (xe_op opr_add vop_add (xe_v (xv_str)) (xe_call' h_shown_term rfl hr (by omega) tk (xa_cons (xe_v (xv_ix rfl (xv_name 0) (xv_int))) (xa_nil)) (saCons_len saNil_len))) (xe_v (xv_str))) (xe_v (xv_ty bop_strA cr_strA T.z_str (by decide +kernel) (xva_cons (xv_ix rfl (xv_name 0) (xv_int)) (xva_nil))))) (xe_v (xv_str))))) (xs_nil))
  (xs_cons (xs_if (xb_cmpv (op_eqP hr.units) vop_eq (xv_name 1) (xv_str) (nomark _)) (xs_one (xs_ret (xe_call' h_shown_record rfl hr (by omega) tk (xa_cons (xe_v (xv_ix rfl (xv_name 0) (xv_int))) (xa_nil)) (saCons_len saNil_len)))) (xs_nil))
  (xs_cons (xs_if (xb_cmpv (op_eqP hr.units) vop_eq (xv_name 1) (xv_str) (nomark _)) (xs_one (xs_ret (xe_op opr_add vop_add (xe_op opr_add vop_add (xe_call' h_bracketed rfl hr (by omega) tk (xa_cons (xe_v (xv_ix rfl (xv_name 0) (xv_int))) (xa_cons (xe_addM rfl (xe_v (xv_glob T.g_LOOSE)) (xe_tup (xa_cons (xe_v (xv_str)) (xa_nil)))) (xa_nil))) (saCons_len (saCons_len saNil_len))) (xe_v (xv_str))) (xe_v (xv_ix rfl (xv_name 0) (xv_int)))))) (xs_nil))
  (xs_one (xs_ret (xe_op opr_add vop_add (xe_op opr_add vop_add (xe_v (xv_op opr_add vop_add (xv_ix rfl (xv_name 0) (xv_int)) (xv_str))) (xe_sm F.slot_str_join F.type_str_join mt_join bmo_join (xe_v (xv_str)) (xa_cons (xe_lc (own := [("part", 2)]) rfl sc_shown_term.nd (blkOk_by (own := [("part", 2)]) (N := N_shown_term) (sc := defScope st_shown_term) (by decide +kernel)) (xi_q rfl (xe_v (xv_ix rfl (xv_name 0) (xv_int)))) (fun _ _ _ _ _ => xg_name 2 sc_shown_term.nd) (fun _ _ _ _ _ => xe_call' h_shown_term rfl hr (by omega) takes0 (xa_cons (xe_name 2) (xa_nil)) (saCons_len saNil_len))) (xa_nil)))) (xe_v (xv_str))))))))))))))
theorem a_shown_row {P : Program} {G : Gx} {mg : Str → Option Value} {base : Heap} {f : Addr} {fd : FuncData} (T : Tx G mg) (h_shown_term : FnA P G.w G mg base 73 "shown_term" 1 (F_shown_term 24)) (Ff : Fun G.K "shown_row" "shown_row" st_shown_row f fd) (hm : mg "shown_row" = some (.ref f)) : FnA P G.w G mg base 74 "shown_row" 1 F_shown_row :=
  fnA_mk [] Ff hm (Ff.binds (ps := ["row"]) (fun _ _ _ _ _ _ us hl => match us, hl with | [_], _ => rfl)) sc_shown_row rfl fun cdv A outer s H E hr tk hp =>
  xs_cons (xs_if (xb_cmpv (op_eqP hr.units) vop_eq (xv_ix rfl (xv_name 0) (xv_int)) (xv_str) (nomark _)) (xs_one (xs_ret (xe_op opr_add vop_add (xe_v (xv_op opr_add vop_add (xv_op opr_add vop_add (xv_op opr_add vop_add (xv_op opr_add vop_add (xv_str) (xv_ix rfl (xv_name 0) (xv_int))) (xv_str)) (xv_sm F.slot_str_join F.type_str_join mt_join bmo_join (xv_str) (xva_cons (xv_ix rfl (xv_name 0) (xv_int)) (xva_nil)))) (xv_str))) (xe_call' h_shown_term rfl hr (by decide) tk (xa_cons (xe_v (xv_ix rfl (xv_name 0) (xv_int))) (xa_nil)) (saCons_len saNil_len))))) (xs_nil))
  (xs_cons (xs_if (xb_cmpv (op_eqP hr.units) vop_eq (xv_ix rfl (xv_name 0) (xv_int)) (xv_str) (nomark _)) (xs_one (xs_ret (xe_op opr_add vop_add (xe_v (xv_op opr_add vop_add (xv_op opr_add vop_add (xv_str) (xv_ix rfl (xv_name 0) (xv_int))) (xv_str))) (xe_call' h_shown_term rfl hr (by decide) tk (xa_cons (xe_v (xv_ix rfl (xv_name 0) (xv_int))) (xa_nil)) (saCons_len saNil_len))))) (xs_nil))
  (xs_cons (xs_if (xb_cmpv (op_eqP hr.units) vop_eq (xv_ix rfl (xv_name 0) (xv_int)) (xv_str) (nomark _)) (xs_one (xs_ret (xe_op opr_add vop_add (xe_v (xv_op opr_add vop_add (xv_op opr_add vop_add (xv_op opr_add vop_add (xv_op opr_add vop_add (xv_str) (xv_ty bop_strA cr_strA T.z_str (by decide +kernel) (xva_cons (xv_ix rfl (xv_name 0) (xv_int)) (xva_nil)))) (xv_str)) (xv_ix rfl (xv_name 0) (xv_int))) (xv_str))) (xe_call' h_shown_term rfl hr (by decide) tk (xa_cons (xe_v (xv_ix rfl (xv_name 0) (xv_int))) (xa_nil)) (saCons_len saNil_len))))) (xs_nil))
  (xs_one (xs_ret (xe_op opr_add vop_add (xe_v (xv_op opr_add vop_add (xv_ix rfl (xv_name 0) (xv_int)) (xv_str))) (xe_call' h_shown_term rfl hr (by decide) tk (xa_cons (xe_v (xv_ix rfl (xv_name 0) (xv_int))) (xa_nil)) (saCons_len saNil_len)))))))
theorem a_shown {P : Program} {G : Gx} {mg : Str → Option Value} {base : Heap} {f : Addr} {fd : FuncData} (T : Tx G mg) (h_shown_row : FnA P G.w G mg base 74 "shown_row" 1 F_shown_row) (Ff : Fun G.K "shown" "shown" st_shown f fd) (hm : mg "shown" = some (.ref f)) : FnA P G.w G mg base 75 "shown" 1 F_shown :=
  fnA_mk [] Ff hm (Ff.binds (ps := ["program"]) (fun _ _ _ _ _ _ us hl => match us, hl with | [_], _ => rfl)) sc_shown rfl fun cdv A outer s H E hr tk hp =>
  xs_one (xs_ret (xe_sm F.slot_str_join F.type_str_join mt_join bmo_join (xe_v (xv_str)) (xa_cons (xe_lcW (own := [("row", 1)]) rfl sc_shown.nd (blkOk_by (own := [("row", 1)]) (N := N_shown) (sc := defScope st_shown) (by decide +kernel)) (xw_name 0 rfl) (fun _ _ _ _ _ => xg_name 1 sc_shown.nd) (fun _ _ _ _ _ => xe_call' h_shown_row rfl hr (by decide) takes0 (xa_cons (xe_name 1) (xa_nil)) (saCons_len saNil_len))) (xa_nil))))
theorem a__law_stream {P : Program} {G : Gx} {mg : Str → Option Value} {base : Heap} {f : Addr} {fd : FuncData} (T : Tx G mg) (Ff : Fun G.K "_law_stream" "_law_stream" st__law_stream f fd) (hm : mg "_law_stream" = some (.ref f)) : FnA P G.w G mg base 1 "_law_stream" 2 F__law_stream :=
  fnA_mk [] Ff hm (Ff.binds (ps := ["_law_cell", "_law_many"]) (fun _ _ _ _ _ _ us hl => match us, hl with | [_, _], _ => rfl)) sc__law_stream rfl fun cdv A outer s H E hr tk hp =>
  xs_cons (xs_set 2 sc__law_stream.nd (xe_lst (xa_nil)))
  (xs_cons (xs_set 3 sc__law_stream.nd (xe_v (xv_op opr_add vop_add (xv_op op_modG vop_mod (xv_name 0) (xv_int)) (xv_int))))
  (xs_cons (xs_for hp rfl (xi_range1 T.z_range (xa_cons (xe_name 1) (xa_nil))) (xg_name 4 sc__law_stream.nd) (xs_cons (xs_set 3 sc__law_stream.nd (xe_v (xv_op op_modG vop_mod (xv_op opr_add vop_add (xv_op opr_add vop_add (xv_op opr_mul vop_mul (xv_name 3) (xv_name 3)) (xv_op opr_mul vop_mul (xv_int) (xv_name 3))) (xv_op opr_mul vop_mul (xv_name 4) (xv_name 4))) (xv_int))))
  (xs_one (xs_expr (xe_meth 2 rfl F.plainAttrs_list F.slot_list_append F.type_list_append mt_append mm_append ty_lst (xa_cons (xe_name 3) (xa_nil)))))))
  (xs_one (xs_ret (xe_take 2)))))
theorem a__law_name {P : Program} {G : Gx} {mg : Str → Option Value} {base : Heap} {f : Addr} {fd : FuncData} (T : Tx G mg) (Ff : Fun G.K "_law_name" "_law_name" st__law_name f fd) (hm : mg "_law_name" = some (.ref f)) : FnA P G.w G mg base 1 "_law_name" 1 F__law_name :=
  fnA_mk [] Ff hm (Ff.binds (ps := ["_law_more"]) (fun _ _ _ _ _ _ us hl => match us, hl with | [_], _ => rfl)) sc__law_name rfl fun cdv A outer s H E hr tk hp =>
  xs_cons (xs_set 1 sc__law_name.nd (xe_v (xv_str)))
  (xs_cons (xs_for hp rfl (xi_range1 T.z_range (xa_cons (xe_v (xv_op opr_add vop_add (xv_int) (xv_op op_modG vop_mod (xv_name 0) (xv_int)))) (xa_nil))) (xg_name 2 sc__law_name.nd) (xs_cons (xs_set 3 sc__law_name.nd (xe_v (xv_op op_modG vop_mod (xv_op opr_mul vop_mul (xv_op opr_add vop_add (xv_op op_fdivG vop_fdiv (xv_name 0) (xv_int)) (xv_name 2)) (xv_op opr_add vop_add (xv_op opr_mul vop_mul (xv_int) (xv_name 2)) (xv_int))) (xv_int))))
  (xs_one (xs_set 1 sc__law_name.nd (xe_v (xv_op opr_add vop_add (xv_name 1) (xv_ix rfl (xv_str) (xv_name 3))))))))
  (xs_cons (xs_if (xb_cmpN 1 opr_in vop_in (xe_tup (xa_cons (xe_v (xv_str)) (xa_cons (xe_v (xv_str)) (xa_cons (xe_v (xv_str)) (xa_cons (xe_v (xv_str)) (xa_nil)))))) (by with_unfolding_all rfl)) (xs_one (xs_ret (xe_v (xv_str)))) (xs_nil))
  (xs_one (xs_ret (xe_take 1)))))
theorem a__law_leaf {P : Program} {G : Gx} {mg : Str → Option Value} {base : Heap} {f : Addr} {fd : FuncData} (T : Tx G mg) (h__law_name : FnA P G.w G mg base 1 "_law_name" 1 F__law_name) (Ff : Fun G.K "_law_leaf" "_law_leaf" st__law_leaf f fd) (hm : mg "_law_leaf" = some (.ref f)) : FnA P G.w G mg base 2 "_law_leaf" 1 F__law_leaf :=
  fnA_mk [0] Ff hm (Ff.binds (ps := ["_law_more"]) (fun _ _ _ _ _ _ us hl => match us, hl with | [_], _ => rfl)) sc__law_leaf rfl fun cdv A outer s H E hr tk hp =>
  xs_cons (xs_set 1 sc__law_leaf.nd (xe_v (xv_op op_modG vop_mod (xv_name 0) (xv_int))))
  (xs_cons (xs_set 0 sc__law_leaf.nd (xe_v (xv_op op_fdivG vop_fdiv (xv_name 0) (xv_int))))
  (xs_cons (xs_if (xb_cmpv (op_eqP hr.units) vop_eq (xv_name 1) (xv_int) (nomark _)) (xs_one (xs_ret (xe_tup (xa_cons (xe_v (xv_str)) (xa_cons (xe_v (xv_op op_modG vop_mod (xv_op opr_mul vop_mul (xv_name 0) (xv_int)) (xv_op opr_pow vop_pow (xv_int) (xv_int)))) (xa_nil)))))) (xs_nil))
  (xs_cons (xs_if (xb_cmpv (op_eqP hr.units) vop_eq (xv_name 1) (xv_int) (nomark _)) (xs_cons (xs_set 2 sc__law_leaf.nd (xe_v (xv_op opr_add vop_add (xv_int) (xv_op op_modG vop_mod (xv_name 0) (xv_int)))))
  (xs_one (xs_ret (xe_tup (xa_cons (xe_v (xv_str)) (xa_cons (xe_name 2) (xa_cons (xe_v (xv_op opr_add vop_add (xv_op opr_add vop_add (xv_name 2) (xv_int)) (xv_op op_modG vop_mod (xv_op op_fdivG vop_fdiv (xv_name 0) (xv_int)) (xv_int)))) (xa_nil)))))))) (xs_nil))
  (xs_cons (xs_if (xb_cmpv (op_eqP hr.units) vop_eq (xv_name 1) (xv_int) (nomark _)) (xs_cons (xs_setLc (own := [("_law_k", 4)]) 3 rfl sc__law_leaf.nd (blkOk_by (own := [("_law_k", 4)]) (N := N__law_leaf) (sc := defScope st__law_leaf) (by decide +kernel)) (xi_range1 T.z_range (xa_cons (xe_v (xv_op opr_add vop_add (xv_int) (xv_op op_modG vop_mod (xv_name 0) (xv_int)))) (xa_nil))) (fun _ _ _ _ _ => xg_name 4 sc__law_leaf.nd) (fun _ _ _ _ _ => xe_tup (xa_cons (xe_v (xv_op opr_add vop_add (xv_op op_modG vop_mod (xv_name 0) (xv_int)) (xv_op opr_mul vop_mul (xv_int) (xv_name 4)))) (xa_cons (xe_v (xv_op opr_add vop_add (xv_int) (xv_op op_modG vop_mod (xv_op op_fdivG vop_fdiv (xv_name 0) (xv_op opr_add vop_add (xv_name 4) (xv_int))) (xv_op opr_pow vop_pow (xv_int) (xv_int))))) (xa_nil)))) (sw_true rfl rfl rfl (by decide +kernel)))
  (xs_one (xs_ret (xe_tup (xa_cons (xe_v (xv_str)) (xa_cons (xe_tupV rfl T.z_tuple (xv_name 3)) (xa_nil))))))) (xs_nil))
  (xs_one (xs_ret (xe_tup (xa_cons (xe_v (xv_str)) (xa_cons (xe_call' h__law_name rfl hr (by decide) tk (xa_cons (xe_name 0) (xa_nil)) (saCons_len saNil_len)) (xa_nil))))))))))
theorem a__law_made {P : Program} {G : Gx} {mg : Str → Option Value} {base : Heap} {f : Addr} {fd : FuncData} (T : Tx G mg) (h__law_name : FnA P G.w G mg base 1 "_law_name" 1 F__law_name) (Ff : Fun G.K "_law_made" "_law_made" st__law_made f fd) (hm : mg "_law_made" = some (.ref f)) : FnA P G.w G mg base 2 "_law_made" 3 F__law_made :=
  fnA_mk [] Ff hm (Ff.binds (ps := ["_law_kind", "_law_parts", "_law_more"]) (fun _ _ _ _ _ _ us hl => match us, hl with | [_, _, _], _ => rfl)) sc__law_made rfl fun cdv A outer s H E hr tk hp =>
  xs_cons (xs_if (xb_cmpv opr_lt vop_lt (xv_name 0) (xv_int) (nomark _)) (xs_one (xs_ret (xe_tup (xa_cons (xe_v (xv_str)) (xa_cons (xe_v (xv_ix rfl (xv_str) (xv_op op_modG vop_mod (xv_name 2) (xv_int)))) (xa_cons (xe_v (xv_ix rfl (xv_name 1) (xv_int))) (xa_cons (xe_v (xv_ix rfl (xv_name 1) (xv_int))) (xa_nil)))))))) (xs_nil))
  (xs_cons (xs_if (xb_cmpv (op_eqP hr.units) vop_eq (xv_name 0) (xv_int) (nomark _)) (xs_one (xs_ret (xe_tup (xa_cons (xe_v (xv_str)) (xa_cons (xe_v (xv_ix rfl (xv_name 1) (xv_int))) (xa_cons (xe_call' h__law_name rfl hr (by decide) tk (xa_cons (xe_name 2) (xa_nil)) (saCons_len saNil_len)) (xa_nil))))))) (xs_nil))
  (xs_cons (xs_if (xb_cmpv (op_eqP hr.units) vop_eq (xv_name 0) (xv_int) (nomark _)) (xs_one (xs_ret (xe_tup (xa_cons (xe_v (xv_str)) (xa_cons (xe_v (xv_ix rfl (xv_name 1) (xv_int))) (xa_cons (xe_v (xv_op opr_add vop_add (xv_int) (xv_op op_modG vop_mod (xv_op opr_mul vop_mul (xv_name 2) (xv_int)) (xv_op op_sub vop_sub (xv_op opr_pow vop_pow (xv_int) (xv_int)) (xv_int))))) (xa_nil))))))) (xs_nil))
  (xs_cons (xs_if (xb_cmpv (op_eqP hr.units) vop_eq (xv_name 0) (xv_int) (nomark _)) (xs_one (xs_ret (xe_tup (xa_cons (xe_v (xv_str)) (xa_cons (xe_v (xv_ix rfl (xv_name 1) (xv_int))) (xa_cons (xe_v (xv_ix rfl (xv_name 1) (xv_int))) (xa_cons (xe_v (xv_ix rfl (xv_name 1) (xv_int))) (xa_nil)))))))) (xs_nil))
  (xs_cons (xs_if (xb_cmpv (op_eqP hr.units) vop_eq (xv_name 0) (xv_int) (nomark _)) (xs_cons (xs_set 3 sc__law_made.nd (xe_slE rfl (xe_call' h__law_name rfl hr (by decide) tk (xa_cons (xe_name 2) (xa_nil)) (saCons_len saNil_len)) (xo_none) (xo_some (xv_int))))
  (xs_one (xs_ret (xe_tup (xa_cons (xe_v (xv_str)) (xa_cons (xe_tupOf rfl T.z_tuple (xe_lc (own := [("_law_k", 4)]) rfl sc__law_made.nd (blkOk_by (own := [("_law_k", 4)]) (N := N__law_made) (sc := defScope st__law_made) (by decide +kernel)) (xi_range1 T.z_range (xa_cons (xe_v (xv_bi bop_len call_len T.z_len (by decide +kernel) (xva_cons (xv_name 1) (xva_nil)))) (xa_nil))) (fun _ _ _ _ _ => xg_name 4 sc__law_made.nd) (fun _ _ _ _ _ => xe_tup (xa_cons (xe_v (xv_op opr_add vop_add (xv_name 3) (xv_ix rfl (xv_str) (xv_name 4)))) (xa_cons (xe_v (xv_ix rfl (xv_name 1) (xv_name 4))) (xa_nil)))))) (xa_nil))))))) (xs_nil))
  (xs_one (xs_ret (xe_tup (xa_cons (xe_v (xv_str)) (xa_cons (xe_call' h__law_name rfl hr (by decide) tk (xa_cons (xe_name 2) (xa_nil)) (saCons_len saNil_len)) (xa_cons (xe_tupV rfl T.z_tuple (xv_name 1)) (xa_nil)))))))))))
theorem a__law_put {P : Program} {G : Gx} {mg : Str → Option Value} {base : Heap} {f : Addr} {fd : FuncData} (T : Tx G mg) (h__law_leaf : FnA P G.w G mg base 2 "_law_leaf" 1 F__law_leaf) (h__law_made : FnA P G.w G mg base 2 "_law_made" 3 F__law_made) (Ff : Fun G.K "_law_put" "_law_put" st__law_put f fd) (hm : mg "_law_put" = some (.ref f)) : FnA P G.w G mg base 3 "_law_put" 2 F__law_put :=
  fnA_mk [] Ff hm (Ff.binds (ps := ["_law_held", "_law_number"]) (fun _ _ _ _ _ _ us hl => match us, hl with | [_, _], _ => rfl)) sc__law_put rfl fun cdv A outer s H E hr tk hp =>
  xs_cons (xs_set 2 sc__law_put.nd (xe_v (xv_op op_modG vop_mod (xv_name 1) (xv_int))))
  (xs_cons (xs_set 3 sc__law_put.nd (xe_v (xv_op op_fdivG vop_fdiv (xv_name 1) (xv_int))))
  (xs_cons (xs_if (xb_cmpv opr_lt vop_lt (xv_name 2) (xv_int) (nomark _)) (xs_cons (xs_expr (xe_meth 0 rfl F.plainAttrs_list F.slot_list_append F.type_list_append mt_append mm_append ty_lst (xa_cons (xe_call' h__law_leaf rfl hr (by decide) tk (xa_cons (xe_name 3) (xa_nil)) (saCons_len saNil_len)) (xa_nil))))
  (xs_one (xs_ret (xe_take 0)))) (xs_nil))
  (xs_cons (xs_set 4 sc__law_put.nd (xe_ixS ix_seq vop_ix (xe_lst (xa_cons (xe_v (xv_int)) (xa_cons (xe_v (xv_int)) (xa_cons (xe_v (xv_int)) (xa_cons (xe_v (xv_int)) (xa_cons (xe_v (xv_int)) (xa_cons (xe_v (xv_int)) (xa_cons (xe_v (xv_op opr_add vop_add (xv_int) (xv_op op_modG vop_mod (xv_name 3) (xv_int)))) (xa_cons (xe_v (xv_op op_modG vop_mod (xv_name 3) (xv_int))) (xa_nil)))))))))) (xv_op op_sub vop_sub (xv_name 2) (xv_int))))
  (xs_cons (xs_set 5 sc__law_put.nd (xe_lst (xa_nil)))
  (xs_cons (xs_for hp rfl (xi_range1 T.z_range (xa_cons (xe_name 4) (xa_nil))) (xg_name 6 sc__law_put.nd) (xs_one (xs_if (xb_cmpv opr_gt vop_gt (xv_bi bop_len call_len T.z_len (by decide +kernel) (xva_cons (xv_name 0) (xva_nil))) (xv_int) (nomark _)) (xs_one (xs_expr (xe_meth 5 rfl F.plainAttrs_list F.slot_list_append F.type_list_append mt_append mm_append ty_lst (xa_cons (xe_meth0 0 rfl F.plainAttrs_list F.slot_list_pop F.type_list_pop mt_pop mm_pop ty_lst) (xa_nil))))) (xs_one (xs_expr (xe_meth 5 rfl F.plainAttrs_list F.slot_list_append F.type_list_append mt_append mm_append ty_lst (xa_cons (xe_call' h__law_leaf rfl hr (by decide) tk (xa_cons (xe_v (xv_op op_fdivG vop_fdiv (xv_name 3) (xv_op opr_add vop_add (xv_name 6) (xv_int)))) (xa_nil)) (saCons_len saNil_len)) (xa_nil))))))))
  (xs_cons (xs_expr (xe_meth 0 rfl F.plainAttrs_list F.slot_list_append F.type_list_append mt_append mm_append ty_lst (xa_cons (xe_call' h__law_made rfl hr (by decide) tk (xa_cons (xe_name 2) (xa_lend 5 (xa_cons (xe_name 3) (xa_nil)))) (saCons_len (saCons_len (saCons_len saNil_len)))) (xa_nil))))
  (xs_one (xs_ret (xe_take 0)))))))))
theorem a__law_inner {P : Program} {G : Gx} {mg : Str → Option Value} {base : Heap} {f : Addr} {fd : FuncData} (T : Tx G mg) (Ff : Fun G.K "_law_inner" "_law_inner" st__law_inner f fd) (hm : mg "_law_inner" = some (.ref f)) : FnA P G.w G mg base 1 "_law_inner" 1 F__law_inner :=
  fnA_mk [] Ff hm (Ff.binds (ps := ["_law_found"]) (fun _ _ _ _ _ _ us hl => match us, hl with | [_], _ => rfl)) sc__law_inner rfl fun cdv A outer s H E hr tk hp =>
  xs_cons (xs_set 1 sc__law_inner.nd (xe_v (xv_ix rfl (xv_name 0) (xv_int))))
  (xs_cons (xs_if (xb_cmpv (op_eqP hr.units) vop_eq (xv_name 1) (xv_str) (nomark _)) (xs_one (xs_ret (xe_listOf rfl T.z_list (xe_sl rfl (xv_name 0) (xo_some (xv_int)) (xo_none))))) (xs_nil))
  (xs_cons (xs_if (xb_cmpv (op_eqP hr.units) vop_eq (xv_name 1) (xv_str) (nomark _)) (xs_one (xs_ret (xe_listOf rfl T.z_list (xe_sl rfl (xv_name 0) (xo_some (xv_int)) (xo_none))))) (xs_nil))
  (xs_cons (xs_if ((xw_or (xb_cmpv (op_eqP hr.units) vop_eq (xv_name 1) (xv_str) (nomark _)) (xw_or1 (xb_cmpv (op_eqP hr.units) vop_eq (xv_name 1) (xv_str) (nomark _)))).pb) (xs_one (xs_ret (xe_lst (xa_cons (xe_v (xv_ix rfl (xv_name 0) (xv_int))) (xa_nil))))) (xs_nil))
  (xs_cons (xs_if (xb_cmpv (op_eqP hr.units) vop_eq (xv_name 1) (xv_str) (nomark _)) (xs_one (xs_ret (xe_lc (own := [("_law_one", 2)]) rfl sc__law_inner.nd (blkOk_by (own := [("_law_one", 2)]) (N := N__law_inner) (sc := defScope st__law_inner) (by decide +kernel)) (xi_q rfl (xe_v (xv_ix rfl (xv_name 0) (xv_int)))) (fun _ _ _ _ _ => xg_name 2 sc__law_inner.nd) (fun _ _ _ _ _ => xe_v (xv_ix rfl (xv_name 2) (xv_int)))))) (xs_nil))
  (xs_cons (xs_if (xb_cmpv (op_eqP hr.units) vop_eq (xv_name 1) (xv_str) (nomark _)) (xs_one (xs_ret (xe_listV rfl T.z_list (xv_ix rfl (xv_name 0) (xv_int))))) (xs_nil))
  (xs_one (xs_ret (xe_lst (xa_nil)))))))))
theorem a__law_size {P : Program} {G : Gx} {mg : Str → Option Value} {base : Heap} {f : Addr} {fd : FuncData} (T : Tx G mg) (h__law_inner : FnA P G.w G mg base 1 "_law_inner" 1 F__law_inner) (Ff : Fun G.K "_law_size" "_law_size" st__law_size f fd) (hm : mg "_law_size" = some (.ref f)) : ∀ n : Nat, FnA P G.w G mg base (1 + n) "_law_size" 1 (F__law_size n) := by
  intro n
  induction n with
  | zero => exact fnA_bad Ff hm (Ff.binds (ps := ["_law_found"]) (fun _ _ _ _ _ _ us hl => match us, hl with | [_], _ => rfl)) sc__law_size rfl (by decide)
  | succ n h__law_size =>
    show FnA P G.w G mg base ((1 + n) + 1) "_law_size" 1 (runF 2 1 [] (b__law_size (F__law_size n)))
    exact fnA_mk [] Ff hm (Ff.binds (ps := ["_law_found"]) (fun _ _ _ _ _ _ us hl => match us, hl with | [_], _ => rfl)) sc__law_size rfl fun cdv A outer s H E hr tk hp =>
  (xs_cons (xs_if (xb_cmpv (op_eqP hr.units) vop_eq (xv_ix rfl (xv_name 0) (xv_int)) (xv_str) (nomark _)) (xs_one (xs_ret (xe_v (xv_op opr_add vop_add (xv_int) (xv_op opr_mul vop_mul (xv_int) (xv_bi bop_len call_len T.z_len (by decide +kernel) (xva_cons (xv_ix rfl (xv_name 0) (xv_int)) (xva_nil)))))))) (xs_nil))
  (xs_cons (xs_if ((xw_or (xb_cmpv (op_eqP hr.units) vop_eq (xv_ix rfl (xv_name 0) (xv_int)) (xv_str) (nomark _)) (xw_or1 (xb_cmpv (op_eqP hr.units) vop_eq (xv_ix rfl (xv_name 0) (xv_int)) (xv_str) (nomark _)))).pb) (xs_one (xs_ret (xe_v (xv_int)))) (xs_nil))
  (xs_cons (xs_if (xb_cmpv (op_eqP hr.units) vop_eq (xv_ix rfl (xv_name 0) (xv_int)) (xv_str) (nomark _)) (xs_one (xs_ret (xe_op opr_add vop_add (xe_v (xv_int)) (xe_bi bop_sum (cr_sum rfl) T.z_sum (by decide +kernel) (xa_cons (xe_lc (own := [("_law_part", 1)]) rfl sc__law_size.nd (blkOk_by (own := [("_law_part", 1)]) (N := N__law_size) (sc := defScope st__law_size) (by decide +kernel)) (xi_q rfl (xe_call' h__law_inner rfl hr (by omega) tk (xa_cons (xe_name 0) (xa_nil)) (saCons_len saNil_len))) (fun _ _ _ _ _ => xg_name 1 sc__law_size.nd) (fun _ _ _ _ _ => xe_op opr_add vop_add (xe_v (xv_int)) (xe_call' h__law_size rfl hr (by omega) takes0 (xa_cons (xe_name 1) (xa_nil)) (saCons_len saNil_len)))) (xa_nil)))))) (xs_nil))
  (xs_one (xs_ret (xe_op opr_add vop_add (xe_v (xv_int)) (xe_bi bop_sum (cr_sum rfl) T.z_sum (by decide +kernel) (xa_cons (xe_lc (own := [("_law_part", 1)]) rfl sc__law_size.nd (blkOk_by (own := [("_law_part", 1)]) (N := N__law_size) (sc := defScope st__law_size) (by decide +kernel)) (xi_q rfl (xe_call' h__law_inner rfl hr (by omega) tk (xa_cons (xe_name 0) (xa_nil)) (saCons_len saNil_len))) (fun _ _ _ _ _ => xg_name 1 sc__law_size.nd) (fun _ _ _ _ _ => xe_op opr_add vop_add (xe_v (xv_int)) (xe_call' h__law_size rfl hr (by omega) takes0 (xa_cons (xe_name 1) (xa_nil)) (saCons_len saNil_len)))) (xa_nil)))))))))
theorem a__law_grown {P : Program} {G : Gx} {mg : Str → Option Value} {base : Heap} {f : Addr} {fd : FuncData} (T : Tx G mg) (h__law_leaf : FnA P G.w G mg base 2 "_law_leaf" 1 F__law_leaf) (h__law_put : FnA P G.w G mg base 3 "_law_put" 2 F__law_put) (h__law_size : FnA P G.w G mg base 25 "_law_size" 1 (F__law_size 24)) (h__law_stream : FnA P G.w G mg base 1 "_law_stream" 2 F__law_stream) (Ff : Fun G.K "_law_grown" "_law_grown" st__law_grown f fd) (hm : mg "_law_grown" = some (.ref f)) : FnA P G.w G mg base 26 "_law_grown" 2 F__law_grown :=
  fnA_mk [] Ff hm (Ff.binds (ps := ["_law_cell", "_law_most"]) (fun _ _ _ _ _ _ us hl => match us, hl with | [_, _], _ => rfl)) sc__law_grown rfl fun cdv A outer s H E hr tk hp =>
  xs_cons (xs_set 2 sc__law_grown.nd (xe_call' h__law_stream rfl hr (by decide) tk (xa_cons (xe_name 0) (xa_cons (xe_v (xv_op opr_add vop_add (xv_int) (xv_op op_modG vop_mod (xv_op op_modG vop_mod (xv_op opr_mul vop_mul (xv_name 0) (xv_int)) (xv_int)) (xv_op opr_add vop_add (xv_name 1) (xv_int))))) (xa_nil))) (saCons_len (saCons_len saNil_len))))
  (xs_cons (xs_set 3 sc__law_grown.nd (xe_lst (xa_cons (xe_call' h__law_leaf rfl hr (by decide) tk (xa_cons (xe_v (xv_ix rfl (xv_name 2) (xv_int))) (xa_nil)) (saCons_len saNil_len)) (xa_nil))))
  (xs_cons (xs_for hp rfl (xi_q rfl (xe_sl rfl (xv_name 2) (xo_some (xv_int)) (xo_none))) (xg_name 4 sc__law_grown.nd) (xs_one (xs_set 3 sc__law_grown.nd (xe_call' h__law_put rfl hr (by decide) tk (xa_lend 3 (xa_cons (xe_name 4) (xa_nil))) (saCons_len (saCons_len saNil_len))))))
  (xs_cons (xs_while hp (xb_cmpv opr_gt vop_gt (xv_bi bop_len call_len T.z_len (by decide +kernel) (xva_cons (xv_name 3) (xva_nil))) (xv_int) (nomark _)) (xs_cons (xs_set 5 sc__law_grown.nd (xe_meth0 3 rfl F.plainAttrs_list F.slot_list_pop F.type_list_pop mt_pop mm_pop ty_lst))
  (xs_one (xs_expr (xe_meth 3 rfl F.plainAttrs_list F.slot_list_append F.type_list_append mt_append mm_append ty_lst (xa_cons (xe_tup (xa_cons (xe_v (xv_str)) (xa_cons (xe_v (xv_ix rfl (xv_str) (xv_op op_modG vop_mod (xv_bi bop_len call_len T.z_len (by decide +kernel) (xva_cons (xv_name 3) (xva_nil))) (xv_int)))) (xa_cons (xe_meth0 3 rfl F.plainAttrs_list F.slot_list_pop F.type_list_pop mt_pop mm_pop ty_lst) (xa_cons (xe_name 5) (xa_nil)))))) (xa_nil)))))))
  (xs_cons (xs_if (xb_cmpV opr_gt vop_gt (xe_call' h__law_size rfl hr (by decide) tk (xa_cons (xe_v (xv_ix rfl (xv_name 3) (xv_int))) (xa_nil)) (saCons_len saNil_len)) (xv_int) (nomark _)) (xs_one (xs_ret (xe_call' h__law_leaf rfl hr (by decide) tk (xa_cons (xe_v (xv_ix rfl (xv_name 2) (xv_int))) (xa_nil)) (saCons_len saNil_len)))) (xs_nil))
  (xs_one (xs_ret (xe_v (xv_ix rfl (xv_name 3) (xv_int)))))))))
theorem a__law_row {P : Program} {G : Gx} {mg : Str → Option Value} {base : Heap} {f : Addr} {fd : FuncData} (T : Tx G mg) (h__law_grown : FnA P G.w G mg base 26 "_law_grown" 2 F__law_grown) (h__law_name : FnA P G.w G mg base 1 "_law_name" 1 F__law_name) (Ff : Fun G.K "_law_row" "_law_row" st__law_row f fd) (hm : mg "_law_row" = some (.ref f)) : FnA P G.w G mg base 27 "_law_row" 2 F__law_row :=
  fnA_mk [] Ff hm (Ff.binds (ps := ["_law_number", "_law_most"]) (fun _ _ _ _ _ _ us hl => match us, hl with | [_, _], _ => rfl)) sc__law_row rfl fun cdv A outer s H E hr tk hp =>
  xs_cons (xs_set 2 sc__law_row.nd (xe_call' h__law_grown rfl hr (by decide) tk (xa_cons (xe_v (xv_op op_fdivG vop_fdiv (xv_name 0) (xv_int))) (xa_cons (xe_name 1) (xa_nil))) (saCons_len (saCons_len saNil_len))))
  (xs_cons (xs_set 3 sc__law_row.nd (xe_call' h__law_name rfl hr (by decide) tk (xa_cons (xe_v (xv_op op_modG vop_mod (xv_op opr_mul vop_mul (xv_name 0) (xv_int)) (xv_int))) (xa_nil)) (saCons_len saNil_len)))
  (xs_cons (xs_set 4 sc__law_row.nd (xe_v (xv_op op_modG vop_mod (xv_name 0) (xv_int))))
  (xs_cons (xs_if (xb_cmpv (op_eqP hr.units) vop_eq (xv_name 4) (xv_int) (nomark _)) (xs_one (xs_ret (xe_tup (xa_cons (xe_v (xv_str)) (xa_cons (xe_name 2) (xa_nil)))))) (xs_nil))
  (xs_cons (xs_if (xb_cmpv (op_eqP hr.units) vop_eq (xv_name 4) (xv_int) (nomark _)) (xs_one (xs_ret (xe_tup (xa_cons (xe_v (xv_str)) (xa_cons (xe_v (xv_op op_modG vop_mod (xv_op op_fdivG vop_fdiv (xv_name 0) (xv_int)) (xv_int))) (xa_cons (xe_name 3) (xa_cons (xe_name 2) (xa_nil)))))))) (xs_nil))
  (xs_cons (xs_if (xb_cmpv (op_eqP hr.units) vop_eq (xv_name 4) (xv_int) (nomark _)) (xs_cons (xs_setLc (own := [("_law_k", 6)]) 5 rfl sc__law_row.nd (blkOk_by (own := [("_law_k", 6)]) (N := N__law_row) (sc := defScope st__law_row) (by decide +kernel)) (xi_range1 T.z_range (xa_cons (xe_v (xv_op op_modG vop_mod (xv_op op_fdivG vop_fdiv (xv_name 0) (xv_int)) (xv_int))) (xa_nil))) (fun _ _ _ _ _ => xg_name 6 sc__law_row.nd) (fun _ _ _ _ _ => xe_op opr_add vop_add (xe_sl rfl (xv_name 3) (xo_none) (xo_some (xv_int))) (xe_v (xv_ix rfl (xv_str) (xv_name 6)))) (sw_true rfl rfl rfl (by decide +kernel)))
  (xs_one (xs_ret (xe_tup (xa_cons (xe_v (xv_str)) (xa_cons (xe_call' h__law_name rfl hr (by decide) tk (xa_cons (xe_v (xv_op op_modG vop_mod (xv_op opr_mul vop_mul (xv_name 0) (xv_int)) (xv_int))) (xa_nil)) (saCons_len saNil_len)) (xa_cons (xe_tupV rfl T.z_tuple (xv_name 5)) (xa_cons (xe_name 2) (xa_nil))))))))) (xs_nil))
  (xs_one (xs_ret (xe_tup (xa_cons (xe_v (xv_str)) (xa_cons (xe_name 3) (xa_cons (xe_name 2) (xa_nil))))))))))))
theorem a__law_program {P : Program} {G : Gx} {mg : Str → Option Value} {base : Heap} {f : Addr} {fd : FuncData} (T : Tx G mg) (h__law_grown : FnA P G.w G mg base 26 "_law_grown" 2 F__law_grown) (h__law_row : FnA P G.w G mg base 27 "_law_row" 2 F__law_row) (Ff : Fun G.K "_law_program" "_law_program" st__law_program f fd) (hm : mg "_law_program" = some (.ref f)) : FnA P G.w G mg base 28 "_law_program" 2 F__law_program :=
  fnA_mk [] Ff hm (Ff.binds (ps := ["_law_script", "_law_most"]) (fun _ _ _ _ _ _ us hl => match us, hl with | [_, _], _ => rfl)) sc__law_program rfl fun cdv A outer s H E hr tk hp =>
  xs_cons (xs_setLc (own := [("_law_k", 4), ("_law_cell", 5)]) 2 rfl sc__law_program.nd (blkOk_by (own := [("_law_k", 4), ("_law_cell", 5)]) (N := N__law_program) (sc := defScope st__law_program) (by decide +kernel)) (xi_enum rfl T.z_enumerate (xa_cons (xe_sl rfl (xv_name 0) (xo_none) (xo_some (xv_int))) (xa_nil))) (fun _ _ _ _ _ => xg_tup rfl rfl (xgs_cons (xg_name 4 sc__law_program.nd) (xgs_cons (xg_name 5 sc__law_program.nd) (xgs_nil)))) (fun _ _ _ _ _ => xe_call' h__law_row rfl hr (by decide) takes0 (xa_cons (xe_v (xv_op opr_add vop_add (xv_op op_modG vop_mod (xv_name 5) (xv_op opr_pow vop_pow (xv_int) (xv_int))) (xv_op opr_mul vop_mul (xv_op opr_mul vop_mul (xv_int) (xv_name 4)) (xv_name 4)))) (xa_cons (xe_name 1) (xa_nil))) (saCons_len (saCons_len saNil_len))) (sw_true rfl rfl rfl (by decide +kernel)))
  (xs_cons (xs_set 3 sc__law_program.nd (xe_v (xv_int)))
  (xs_cons (xs_if (xb_cmpv opr_gt vop_gt (xv_bi bop_len call_len T.z_len (by decide +kernel) (xva_cons (xv_name 0) (xva_nil))) (xv_int) (nomark _)) (xs_one (xs_set 3 sc__law_program.nd (xe_v (xv_op op_modG vop_mod (xv_ix rfl (xv_name 0) (xv_neg (xv_int))) (xv_op opr_pow vop_pow (xv_int) (xv_int)))))) (xs_nil))
  (xs_cons (xs_expr (xe_meth 2 rfl F.plainAttrs_list F.slot_list_append F.type_list_append mt_append mm_append ty_lst (xa_cons (xe_tup (xa_cons (xe_v (xv_str)) (xa_cons (xe_call' h__law_grown rfl hr (by decide) tk (xa_cons (xe_v (xv_op opr_add vop_add (xv_name 3) (xv_bi bop_len call_len T.z_len (by decide +kernel) (xva_cons (xv_name 0) (xva_nil))))) (xa_cons (xe_name 1) (xa_nil))) (saCons_len (saCons_len saNil_len))) (xa_nil)))) (xa_nil))))
  (xs_one (xs_ret (xe_take 2))))))
theorem a__law_level {P : Program} {G : Gx} {mg : Str → Option Value} {base : Heap} {f : Addr} {fd : FuncData} (T : Tx G mg) (Ff : Fun G.K "_law_level" "_law_level" st__law_level f fd) (hm : mg "_law_level" = some (.ref f)) : FnA P G.w G mg base 1 "_law_level" 1 F__law_level :=
  fnA_mk [] Ff hm (Ff.binds (ps := ["_law_found"]) (fun _ _ _ _ _ _ us hl => match us, hl with | [_], _ => rfl)) sc__law_level rfl fun cdv A outer s H E hr tk hp =>
  xs_cons (xs_if (xb_cmpv (op_neP hr.units) vop_ne (xv_ix rfl (xv_name 0) (xv_int)) (xv_str) (nomark _)) (xs_one (xs_ret (xe_v (xv_int)))) (xs_nil))
  (xs_one (xs_ret (xe_ixS ix_seq vop_ix (xe_lst (xa_cons (xe_v (xv_int)) (xa_cons (xe_v (xv_int)) (xa_cons (xe_v (xv_int)) (xa_cons (xe_v (xv_int)) (xa_cons (xe_v (xv_int)) (xa_nil))))))) (xv_sm F.slot_str_find F.type_str_find mt_find bmo_find (xv_str) (xva_cons (xv_ix rfl (xv_name 0) (xv_int)) (xva_nil))))))
theorem a__law_op {P : Program} {G : Gx} {mg : Str → Option Value} {base : Heap} {f : Addr} {fd : FuncData} (T : Tx G mg) (h__law_level : FnA P G.w G mg base 1 "_law_level" 1 F__law_level) {K : Nat} {rF : FS} (hK : 1 ≤ K) (h__law_text : FnA P G.w G mg base K "_law_text" 2 rF) (Ff : Fun G.K "_law_op" "_law_op" st__law_op f fd) (hm : mg "_law_op" = some (.ref f)) : FnA P G.w G mg base (K + 1) "_law_op" 1 (F__law_op rF) :=
  fnA_mk (k := K + 0) [] Ff hm (Ff.binds (ps := ["_law_found"]) (fun _ _ _ _ _ _ us hl => match us, hl with | [_], _ => rfl)) sc__law_op rfl fun cdv A outer s H E hr tk hp =>
  xs_cons (xs_set 1 sc__law_op.nd (xe_call' h__law_level rfl hr (by omega) tk (xa_cons (xe_name 0) (xa_nil)) (saCons_len saNil_len)))
  (xs_one (xs_ret (xe_op opr_add vop_add (xe_op opr_add vop_add (xe_op opr_add vop_add (xe_op opr_add vop_add (xe_call' h__law_text rfl hr (by omega) tk (xa_cons (xe_v (xv_ix rfl (xv_name 0) (xv_int))) (xa_cons (xe_v (xv_bi bop_max2 (call_max2 rfl) T.z_max (by decide +kernel) (xva_cons (xv_int) (xva_cons (xv_name 1) xva_nil)))) (xa_nil))) (saCons_len (saCons_len saNil_len))) (xe_v (xv_str))) (xe_v (xv_ix rfl (xv_name 0) (xv_int)))) (xe_v (xv_str))) (xe_call' h__law_text rfl hr (by omega) tk (xa_cons (xe_v (xv_ix rfl (xv_name 0) (xv_int))) (xa_cons (xe_v (xv_op opr_add vop_add (xv_name 1) (xv_int))) (xa_nil))) (saCons_len (saCons_len saNil_len))))))
theorem a__law_text {P : Program} {G : Gx} {mg : Str → Option Value} {base : Heap} {f : Addr} {fd : FuncData} (T : Tx G mg) (h__law_inner : FnA P G.w G mg base 1 "_law_inner" 1 F__law_inner) (h__law_level : FnA P G.w G mg base 1 "_law_level" 1 F__law_level) {f__law_op : Addr} {fd__law_op : FuncData} (Ff__law_op : Fun G.K "_law_op" "_law_op" st__law_op f__law_op fd__law_op) (hm__law_op : mg "_law_op" = some (.ref f__law_op)) (Ff : Fun G.K "_law_text" "_law_text" st__law_text f fd) (hm : mg "_law_text" = some (.ref f)) : ∀ n : Nat, FnA P G.w G mg base (1 + 2 * n) "_law_text" 2 (F__law_text n) := by
  intro n
  induction n with
  | zero => exact fnA_bad Ff hm (Ff.binds (ps := ["_law_found", "_law_least"]) (fun _ _ _ _ _ _ us hl => match us, hl with | [_, _], _ => rfl)) sc__law_text rfl (by decide)
  | succ n h__law_text =>
    have h__law_op := a__law_op T h__law_level (K := 1 + 2 * n) (by omega) h__law_text Ff__law_op hm__law_op
    show FnA P G.w G mg base ((1 + 2 * n + 1) + 1) "_law_text" 2 (runF 6 2 [] (b__law_text (F__law_text n)))
    exact fnA_mk [] Ff hm (Ff.binds (ps := ["_law_found", "_law_least"]) (fun _ _ _ _ _ _ us hl => match us, hl with | [_, _], _ => rfl)) sc__law_text rfl fun cdv A outer s H E hr tk hp =>
  (xs_cons (xs_set 2 sc__law_text.nd (xe_v (xv_ix rfl (xv_name 0) (xv_int))))
  (xs_cons (xs_if (xb_cmpV opr_lt vop_lt (xe_call' h__law_level rfl hr (by omega) tk (xa_cons (xe_name 0) (xa_nil)) (saCons_len saNil_len)) (xv_name 1) (nomark _)) (xs_one (xs_ret (xe_op opr_add vop_add (xe_op opr_add vop_add (xe_v (xv_str)) (xe_call' h__law_text rfl hr (by omega) tk (xa_cons (xe_name 0) (xa_cons (xe_v (xv_int)) (xa_nil))) (saCons_len (saCons_len saNil_len)))) (xe_v (xv_str))))) (xs_nil))
  (xs_cons (xs_if (xb_cmpv (op_eqP hr.units) vop_eq (xv_name 2) (xv_str) (nomark _)) (xs_one (xs_ret (xe_call' h__law_op rfl hr (by omega) tk (xa_cons (xe_name 0) (xa_nil)) (saCons_len saNil_len)))) (xs_nil))
  (xs_cons (xs_if ((xw_or (xb_cmpv (op_eqP hr.units) vop_eq (xv_name 2) (xv_str) (nomark _)) (xw_or1 (xb_cmpv (op_eqP hr.units) vop_eq (xv_name 2) (xv_str) (nomark _)))).pb) (xs_one (xs_ret (xe_v (xv_ty bop_strA cr_strA T.z_str (by decide +kernel) (xva_cons (xv_ix rfl (xv_name 0) (xv_int)) (xva_nil)))))) (xs_nil))
  (xs_cons (xs_if (xb_cmpv (op_eqP hr.units) vop_eq (xv_name 2) (xv_str) (nomark _)) (xs_one (xs_ret (xe_v (xv_op opr_add vop_add (xv_op opr_add vop_add (xv_op opr_add vop_add (xv_op opr_add vop_add (xv_str) (xv_ty bop_strA cr_strA T.z_str (by decide +kernel) (xva_cons (xv_ix rfl (xv_name 0) (xv_int)) (xva_nil)))) (xv_str)) (xv_ty bop_strA cr_strA T.z_str (by decide +kernel) (xva_cons (xv_ix rfl (xv_name 0) (xv_int)) (xva_nil)))) (xv_str))))) (xs_nil))
  (xs_cons (xs_if (xb_cmpv (op_eqP hr.units) vop_eq (xv_name 2) (xv_str) (nomark _)) (xs_one (xs_ret (xe_op opr_add vop_add (xe_op opr_add vop_add (xe_v (xv_str)) (xe_sm F.slot_str_join F.type_str_join mt_join bmo_join (xe_v (xv_str)) (xa_cons (xe_lc (own := [("_law_one", 5)]) rfl sc__law_text.nd (blkOk_by (own := [("_law_one", 5)]) (N := N__law_text) (sc := defScope st__law_text) (by decide +kernel)) (xi_q rfl (xe_v (xv_ix rfl (xv_name 0) (xv_int)))) (fun _ _ _ _ _ => xg_name 5 sc__law_text.nd) (fun _ _ _ _ _ => xe_v (xv_op opr_add vop_add (xv_op opr_add vop_add (xv_ty bop_strA cr_strA T.z_str (by decide +kernel) (xva_cons (xv_ix rfl (xv_name 5) (xv_int)) (xva_nil))) (xv_str)) (xv_ty bop_strA cr_strA T.z_str (by decide +kernel) (xva_cons (xv_ix rfl (xv_name 5) (xv_int)) (xva_nil)))))) (xa_nil)))) (xe_v (xv_str))))) (xs_nil))
  (xs_cons (xs_if (xb_cmpv (op_eqP hr.units) vop_eq (xv_name 2) (xv_str) (nomark _)) (xs_one (xs_ret (xe_op opr_add vop_add (xe_op opr_add vop_add (xe_call' h__law_text rfl hr (by omega) tk (xa_cons (xe_v (xv_ix rfl (xv_name 0) (xv_int))) (xa_cons (xe_v (xv_int)) (xa_nil))) (saCons_len (saCons_len saNil_len))) (xe_v (xv_str))) (xe_v (xv_ix rfl (xv_name 0) (xv_int)))))) (xs_nil))
  (xs_cons (xs_if (xb_cmpv (op_eqP hr.units) vop_eq (xv_name 2) (xv_str) (nomark _)) (xs_one (xs_ret (xe_op opr_add vop_add (xe_op opr_add vop_add (xe_op opr_add vop_add (xe_op opr_add vop_add (xe_v (xv_str)) (xe_call' h__law_text rfl hr (by omega) tk (xa_cons (xe_v (xv_ix rfl (xv_name 0) (xv_int))) (xa_cons (xe_v (xv_int)) (xa_nil))) (saCons_len (saCons_len saNil_len)))) (xe_v (xv_str))) (xe_v (xv_ty bop_strA cr_strA T.z_str (by decide +kernel) (xva_cons (xv_ix rfl (xv_name 0) (xv_int)) (xva_nil))))) (xe_v (xv_str))))) (xs_nil))
  (xs_cons (xs_if (xb_cmpv (op_eqP hr.units) vop_eq (xv_name 2) (xv_str) (nomark _)) (xs_one (xs_ret (xe_op opr_add vop_add (xe_op opr_add vop_add (xe_v (xv_str)) (xe_sm F.slot_str_join F.type_str_join mt_join bmo_join (xe_v (xv_str)) (xa_cons (xe_lc (own := [("_law_one", 5)]) rfl sc__law_text.nd (blkOk_by (own := [("_law_one", 5)]) (N := N__law_text) (sc := defScope st__law_text) (by decide +kernel)) (xi_q rfl (xe_v (xv_ix rfl (xv_name 0) (xv_int)))) (fun _ _ _ _ _ => xg_name 5 sc__law_text.nd) (fun _ _ _ _ _ => xe_op opr_add vop_add (xe_v (xv_op opr_add vop_add (xv_ix rfl (xv_name 5) (xv_int)) (xv_str))) (xe_call' h__law_text rfl hr (by omega) takes0 (xa_cons (xe_v (xv_ix rfl (xv_name 5) (xv_int))) (xa_cons (xe_v (xv_int)) (xa_nil))) (saCons_len (saCons_len saNil_len))))) (xa_nil)))) (xe_v (xv_str))))) (xs_nil))
  (xs_cons (xs_set 3 sc__law_text.nd (xe_sm F.slot_str_join F.type_str_join mt_join bmo_join (xe_v (xv_str)) (xa_cons (xe_lc (own := [("_law_part", 4)]) rfl sc__law_text.nd (blkOk_by (own := [("_law_part", 4)]) (N := N__law_text) (sc := defScope st__law_text) (by decide +kernel)) (xi_q rfl (xe_call' h__law_inner rfl hr (by omega) tk (xa_cons (xe_name 0) (xa_nil)) (saCons_len saNil_len))) (fun _ _ _ _ _ => xg_name 4 sc__law_text.nd) (fun _ _ _ _ _ => xe_call' h__law_text rfl hr (by omega) takes0 (xa_cons (xe_name 4) (xa_cons (xe_v (xv_int)) (xa_nil))) (saCons_len (saCons_len saNil_len)))) (xa_nil))))
  (xs_cons (xs_if (xb_cmpv (op_eqP hr.units) vop_eq (xv_name 2) (xv_str) (nomark _)) (xs_one (xs_ret (xe_v (xv_op opr_add vop_add (xv_op opr_add vop_add (xv_str) (xv_name 3)) (xv_str))))) (xs_nil))
  (xs_one (xs_ret (xe_v (xv_op opr_add vop_add (xv_op opr_add vop_add (xv_op opr_add vop_add (xv_ix rfl (xv_name 0) (xv_int)) (xv_str)) (xv_name 3)) (xv_str))))))))))))))))
theorem a__law_line {P : Program} {G : Gx} {mg : Str → Option Value} {base : Heap} {f : Addr} {fd : FuncData} (T : Tx G mg) (h__law_text : FnA P G.w G mg base 97 "_law_text" 2 (F__law_text 48)) (Ff : Fun G.K "_law_line" "_law_line" st__law_line f fd) (hm : mg "_law_line" = some (.ref f)) : FnA P G.w G mg base 98 "_law_line" 1 F__law_line :=
  fnA_mk [] Ff hm (Ff.binds (ps := ["_law_row_here"]) (fun _ _ _ _ _ _ us hl => match us, hl with | [_], _ => rfl)) sc__law_line rfl fun cdv A outer s H E hr tk hp =>
  xs_cons (xs_set 1 sc__law_line.nd (xe_call' h__law_text rfl hr (by decide) tk (xa_cons (xe_v (xv_ix rfl (xv_name 0) (xv_neg (xv_int)))) (xa_cons (xe_v (xv_int)) (xa_nil))) (saCons_len (saCons_len saNil_len))))
  (xs_cons (xs_if (xb_cmpv (op_eqP hr.units) vop_eq (xv_ix rfl (xv_name 0) (xv_int)) (xv_str) (nomark _)) (xs_one (xs_ret (xe_v (xv_op opr_add vop_add (xv_op opr_add vop_add (xv_op opr_add vop_add (xv_op opr_add vop_add (xv_op opr_add vop_add (xv_str) (xv_ix rfl (xv_name 0) (xv_int))) (xv_str)) (xv_sm F.slot_str_join F.type_str_join mt_join bmo_join (xv_str) (xva_cons (xv_ix rfl (xv_name 0) (xv_int)) (xva_nil)))) (xv_str)) (xv_name 1))))) (xs_nil))
  (xs_cons (xs_if (xb_cmpv (op_eqP hr.units) vop_eq (xv_ix rfl (xv_name 0) (xv_int)) (xv_str) (nomark _)) (xs_one (xs_ret (xe_v (xv_op opr_add vop_add (xv_op opr_add vop_add (xv_op opr_add vop_add (xv_op opr_add vop_add (xv_op opr_add vop_add (xv_str) (xv_ty bop_strA cr_strA T.z_str (by decide +kernel) (xva_cons (xv_ix rfl (xv_name 0) (xv_int)) (xva_nil)))) (xv_str)) (xv_ix rfl (xv_name 0) (xv_int))) (xv_str)) (xv_name 1))))) (xs_nil))
  (xs_cons (xs_if (xb_cmpv (op_eqP hr.units) vop_eq (xv_ix rfl (xv_name 0) (xv_int)) (xv_str) (nomark _)) (xs_one (xs_ret (xe_v (xv_op opr_add vop_add (xv_op opr_add vop_add (xv_op opr_add vop_add (xv_str) (xv_ix rfl (xv_name 0) (xv_int))) (xv_str)) (xv_name 1))))) (xs_nil))
  (xs_one (xs_ret (xe_v (xv_op opr_add vop_add (xv_op opr_add vop_add (xv_ix rfl (xv_name 0) (xv_int)) (xv_str)) (xv_name 1))))))))
theorem a_law {P : Program} {G : Gx} {mg : Str → Option Value} {base : Heap} {f : Addr} {fd : FuncData} (T : Tx G mg) (h__law_line : FnA P G.w G mg base 98 "_law_line" 1 F__law_line) (h__law_program : FnA P G.w G mg base 28 "_law_program" 2 F__law_program) (h__law_text : FnA P G.w G mg base 97 "_law_text" 2 (F__law_text 48)) (h_shown : FnA P G.w G mg base 75 "shown" 1 F_shown) (h_shown_term : FnA P G.w G mg base 73 "shown_term" 1 (F_shown_term 24)) (Ff : Fun G.K "law" "law" st_law f fd) : FnOk P G.w G.K mg base (L2.CX P G.w) 99 f fd ["_law_script"] (spF G 1 F_law) :=
  fn_ok [] Ff sc_law rfl fun cdv A outer s H E hr tk hp =>
  xs_cons (xs_set 1 sc_law.nd (xe_call' h__law_program rfl hr (by decide) tk (xa_cons (xe_name 0) (xa_cons (xe_v (xv_int)) (xa_nil))) (saCons_len (saCons_len saNil_len))))
  (xs_cons (xs_set 2 sc_law.nd (xe_listV rfl T.z_list (xv_name 1)))
  (xs_cons (xs_set 3 sc_law.nd (xe_call' h_shown rfl hr (by decide) tk (xa_cons (xe_name 2) (xa_nil)) (saCons_len saNil_len)))
  (xs_cons (xs_if ((xw_or (xb_not (xb_e (xe_v (xv_isi "str" rfl T.z_isinstance T.z_str (xv_name 3) (by decide +kernel))))) (xw_or1 (xb_cmpN 3 (op_neP hr.units) vop_ne (xe_sm F.slot_str_join F.type_str_join mt_join bmo_join (xe_v (xv_str)) (xa_cons (xe_lcW (own := [("_law_row_here", 4)]) rfl sc_law.nd (blkOk_by (own := [("_law_row_here", 4)]) (N := N_law) (sc := defScope st_law) (by decide +kernel)) (xw_name 1 rfl) (fun _ _ _ _ _ => xg_name 4 sc_law.nd) (fun _ _ _ _ _ => xe_call' h__law_line rfl hr (by decide) takes0 (xa_cons (xe_name 4) (xa_nil)) (saCons_len saNil_len))) (xa_nil))) (nomark _)))).pb) (xs_one (xs_ret (xe_v (xv_bl)))) (xs_nil))
  (xs_cons (xs_forW hp rfl (xw_name 1 rfl) (xg_name 4 sc_law.nd) (xs_cons (xs_set 5 sc_law.nd (xe_call' h_shown_term rfl hr (by decide) tk (xa_cons (xe_v (xv_ix rfl (xv_name 4) (xv_neg (xv_int)))) (xa_nil)) (saCons_len saNil_len)))
  (xs_one (xs_if ((xw_or (xb_not (xb_e (xe_v (xv_isi "str" rfl T.z_isinstance T.z_str (xv_name 5) (by decide +kernel))))) (xw_or1 (xb_cmpN 5 (op_neP hr.units) vop_ne (xe_call' h__law_text rfl hr (by decide) tk (xa_cons (xe_v (xv_ix rfl (xv_name 4) (xv_neg (xv_int)))) (xa_cons (xe_v (xv_int)) (xa_nil))) (saCons_len (saCons_len saNil_len))) (nomark _)))).pb) (xs_one (xs_ret (xe_v (xv_bl)))) (xs_nil)))))
  (xs_one (xs_ret (xe_v (xv_cmp (op_eqP hr.units) vop_eq (xv_name 2) (xv_name 1) (nomark _)))))))))

set_option maxHeartbeats 1000000
set_option exponentiation.threshold 10000
open PySem L2 FL Classical
/-! ### texts -/
theorem map_inj : ∀ (a b : List Char), a.map Char.toNat = b.map Char.toNat → a = b
  | [], [], _ => rfl
  | [], _ :: _, h => by simp at h
  | _ :: _, [], h => by simp at h
  | x :: a, y :: b, h => by
    simp only [List.map_cons, List.cons.injEq] at h
    rw [map_inj a b h.2, Char.ext (UInt32.toNat.inj h.1)]
theorem ofStr_eq (a b : String) : (Str.ofString a == Str.ofString b) = decide (a = b) := by
  by_cases h : a = b
  · subst h; simp
  · have h2 : Str.ofString a ≠ Str.ofString b := fun z => h (by
      rw [slOf, slOf] at z
      have := sl_inj z
      exact String.toList_inj.mp (map_inj _ _ this))
    simp [h, h2]
theorem oEq_of (a b : String) : oEq (.d (.str (Str.ofString a))) (.d (.str (Str.ofString b))) = .ok (.bl (decide (a = b))) := by
  rw [oEq_pl (pl_flat rfl) (pl_flat rfl)]
  simp [eqD, fz, toPy, PyData.eqv, ofStr_eq]
theorem oNe_of (a b : String) : oNe (.d (.str (Str.ofString a))) (.d (.str (Str.ofString b))) = .ok (.bl (!decide (a = b))) := by
  rw [oNe_pl (pl_flat rfl) (pl_flat rfl)]
  simp [eqD, fz, toPy, PyData.eqv, ofStr_eq]
theorem oNe_self (a : Str) : oNe (.d (.str a)) (.d (.str a)) = .ok (.bl false) := by
  rw [oNe_pl (pl_flat rfl) (pl_flat rfl)]
  simp [eqD, fz, toPy, PyData.eqv]
theorem add_str {a b : Str} (h : a.length + b.length ≤ 1000000) : oAdd (.d (.str a)) (.d (.str b)) = .ok (.str (a ++ b)) := by
  have h' : a.length + b.length ≤ sizeLine := by rw [sizeLine_eq]; omega
  simp only [oAdd, dOr, dI, dS, if_pos h']
theorem len_app (a b : Str) : (a ++ b).length = a.length + b.length := Str.length_append a b
theorem len_of (s : String) : (Str.ofString s).length = s.length := by rw [slOf, sl_len, List.length_map, String.length_toList]
theorem len_int {i : Int} (h : i.natAbs < 10 ^ 13) : (Str.ofString (toString i)).length ≤ 14 := by
  rw [len_of]
  exact int_text_length_le10 (by decide) h
theorem str_int {i : Int} (h : i.natAbs < 10 ^ 13) : bStrA [.d (.int i)] = .ok (.str (toString i)) := by
  have : i.natAbs.log2 < 1920 := by
    by_cases h0 : i.natAbs = 0
    · rw [h0]; decide
    · refine (Nat.log2_lt h0).mpr (Nat.lt_trans h ?_)
      exact Nat.lt_of_lt_of_le (show 10 ^ 13 < 2 ^ 50 by decide) (Nat.pow_le_pow_right (by decide) (by decide))
  simp only [bStrA, if_pos this]
theorem str_str (a : Str) : bStrA [.d (.str a)] = .ok (.str a) := rfl
theorem strsOf_map : ∀ ws : List Str, strsOf (ws.map fun w => M.d (.str w)) = some ws
  | [] => rfl
  | w :: ws => by
    rw [List.map_cons, strsOf, strsOf_map ws]
    rfl
theorem join_eq {a : Str} {ws : List Str} (h : (ws.map (·.length)).sum + ws.length * a.length ≤ 16777216) : bJoin [.d (.str a), .lst (ws.map fun w => .d (.str w))] = .ok (.str (Txt.join a ws)) := by
  simp only [bJoin, M.seq, strsOf_map, if_pos h]
theorem join_eqT {a : Str} {ws : List Str} (h : (ws.map (·.length)).sum + ws.length * a.length ≤ 16777216) : bJoin [.d (.str a), .d (.tup (ws.map D.str))] = .ok (.str (Txt.join a ws)) := by
  have : (ws.map D.str).map M.d = ws.map fun w => M.d (.str w) := by rw [List.map_map]; rfl
  simp only [bJoin, M.seq, this, strsOf_map, if_pos h]
theorem sjoin_len (a : Str) : ∀ ws : List Str, (Str.join a ws).length ≤ (ws.map (·.length)).sum + ws.length * a.length
  | [] => by simp [Str.join, Str.length, Str.empty]
  | [w] => by
    have e : Str.join a [w] = w := rfl
    rw [e]
    simp
  | w :: v :: vs => by
    have ih := sjoin_len a (v :: vs)
    have e : Str.join a (w :: v :: vs) = w ++ a ++ Str.join a (v :: vs) := rfl
    rw [e, len_app, len_app, List.map_cons, List.sum_cons, List.length_cons, Nat.add_mul, Nat.one_mul]
    omega
theorem join_len (a : Str) (ws : List Str) : (Txt.join a ws).length ≤ (ws.map (·.length)).sum + ws.length * a.length := by
  have e : Txt.join a ws = Str.join a ws := StrLaws.glued_eq_join a ws
  rw [e]
  exact sjoin_len a ws
/-! ### terms -/
abbrev S_ (s : String) : D := .str (Str.ofString s)
abbrev numD (i : Int) : D := .tup [S_ "num", .int i]
abbrev nameD (w : Str) : D := .tup [S_ "name", .str w]
abbrev flipD (a b : Int) : D := .tup [S_ "flip", .int a, .int b]
abbrev prD (p : Int × Int) : D := .tup [.int p.1, .int p.2]
abbrev pickD (ps : List (Int × Int)) : D := .tup [S_ "pick", .tup (ps.map prD)]
abbrev opD (s : String) (a b : D) : D := .tup [S_ "op", S_ s, a, b]
abbrev fieldD (a : D) (w : Str) : D := .tup [S_ "field", a, .str w]
abbrev restD (a : D) (i : Int) : D := .tup [S_ "rest", a, .int i]
abbrev iffD (a b c : D) : D := .tup [S_ "if", a, b, c]
abbrev fdD (p : Str × D) : D := .tup [.str p.1, p.2]
abbrev recD (fs : List (Str × D)) : D := .tup [S_ "record", .tup (fs.map fdD)]
abbrev callD (w : Str) (xs : List D) : D := .tup [S_ "call", .str w, .tup xs]
def sm (i : Int) : Prop := i.natAbs < 10 ^ 13
inductive Sg : String → Nat → Prop
  | eq : Sg "=" 0
  | lt : Sg "<" 0
  | pl : Sg "+" 1
  | mi : Sg "-" 1
  | ti : Sg "*" 2
inductive Tm : Nat → D → Prop
  | num {n : Nat} {i : Int} : sm i → Tm n (numD i)
  | name {n : Nat} {w : Str} : w.length ≤ 9 → Tm n (nameD w)
  | flip {n : Nat} {a b : Int} : sm a → sm b → Tm n (flipD a b)
  | pick {n : Nat} {ps : List (Int × Int)} : ps.length ≤ 6 → (∀ p ∈ ps, sm p.1 ∧ sm p.2) → Tm n (pickD ps)
  | op {n : Nat} {s : String} {l : Nat} {a b : D} : Sg s l → Tm n a → Tm n b → Tm (n + 1) (opD s a b)
  | field {n : Nat} {a : D} {w : Str} : w.length ≤ 9 → Tm n a → Tm (n + 1) (fieldD a w)
  | rest {n : Nat} {a : D} {i : Int} : sm i → Tm n a → Tm (n + 1) (restD a i)
  | iff {n : Nat} {a b c : D} : Tm n a → Tm n b → Tm n c → Tm (n + 1) (iffD a b c)
  | rcd {n : Nat} {fs : List (Str × D)} : fs.length ≤ 6 → (∀ p ∈ fs, p.1.length ≤ 9) → (∀ p ∈ fs, Tm n p.2) → Tm (n + 1) (recD fs)
  | call {n : Nat} {w : Str} {xs : List D} : xs.length ≤ 6 → w.length ≤ 9 → (∀ y ∈ xs, Tm n y) → Tm (n + 1) (callD w xs)
theorem Tm.up {n : Nat} {x : D} (h : Tm n x) : Tm (n + 1) x := by
  induction h with
  | num h => exact .num h
  | name h => exact .name h
  | flip h h' => exact .flip h h'
  | pick h h' => exact .pick h h'
  | op h _ _ i j => exact .op h i j
  | field h _ i => exact .field h i
  | rest h _ i => exact .rest h i
  | iff _ _ _ i j k => exact .iff i j k
  | rcd h h' _ i => exact .rcd h h' i
  | call h h' _ i => exact .call h h' i
theorem Tm.mono {n m : Nat} {x : D} (h : Tm n x) (hm : n ≤ m) : Tm m x := by
  obtain ⟨k, rfl⟩ : ∃ k, m = n + k := ⟨m - n, by omega⟩
  clear hm
  induction k with
  | zero => exact h
  | succ k ih => exact ih.up
/-! ### parts of a tuple -/
theorem ix_0 (a : D) (xs : List D) : mIdx (.d (.tup (a :: xs))) (.d (.int 0)) = .ok (.d a) := by
  have e : atI ((a :: xs).map M.d) 0 = some (.d a) := by rw [atI_pos (by decide) (by simp only [List.length_map, List.length_cons]; omega)]; rfl
  simp only [mIdx, M.seq, e]
theorem ix_1 (a b : D) (xs : List D) : mIdx (.d (.tup (a :: b :: xs))) (.d (.int 1)) = .ok (.d b) := by
  have e : atI ((a :: b :: xs).map M.d) 1 = some (.d b) := by rw [atI_pos (by decide) (by simp only [List.length_map, List.length_cons]; omega)]; rfl
  simp only [mIdx, M.seq, e]
theorem ix_2 (a b c : D) (xs : List D) : mIdx (.d (.tup (a :: b :: c :: xs))) (.d (.int 2)) = .ok (.d c) := by
  have e : atI ((a :: b :: c :: xs).map M.d) 2 = some (.d c) := by rw [atI_pos (by decide) (by simp only [List.length_map, List.length_cons]; omega)]; rfl
  simp only [mIdx, M.seq, e]
theorem ix_3 (a b c d : D) (xs : List D) : mIdx (.d (.tup (a :: b :: c :: d :: xs))) (.d (.int 3)) = .ok (.d d) := by
  have e : atI ((a :: b :: c :: d :: xs).map M.d) 3 = some (.d d) := by rw [atI_pos (by decide) (by simp only [List.length_map, List.length_cons]; omega)]; rfl
  simp only [mIdx, M.seq, e]
/-! ### what is known of a term -/
def brk (lv least : Nat) (w : Str) : Str := if lv < least then Str.ofString "(" ++ w ++ Str.ofString ")" else w
theorem brk_len (lv least : Nat) (w : Str) : (brk lv least w).length ≤ w.length + 2 := by
  unfold brk
  split
  · rw [len_app, len_app, len_of, len_of]
    have h1 : "(".length = 1 := rfl
    have h2 : ")".length = 1 := rfl
    omega
  · omega
structure TX (n : Nat) (x : D) (z : Nat) (w : Str) (lv : Nat) : Prop where
  z1 : 1 ≤ z
  wl : w.length ≤ 40 * z
  sz : ∀ m, n < m → ∃ e, F__law_size m [.d x] = .ok (.d (.int (z : Int)), e)
  sh : z ≤ 1000 → ∀ m, n < m → ∃ e, F_shown_term m [.d x] = .ok (.d (.str w), e)
  tx : z ≤ 1000 → ∀ m, 2 * n < m → ∀ l : Nat, l ≤ lv → ∃ e, F__law_text m [.d x, .d (.int (l : Int))] = .ok (.d (.str w), e)
  lev : ∃ e, F__law_level [.d x] = .ok (.d (.int (lv : Int)), e)
  hd : (∃ k xs, x = .tup (S_ k :: xs) ∧ k ≠ "op" ∧ lv = 3) ∨ ∃ s a b, x = opD s a b ∧ Sg s lv
/-- the signs by which a part is put in brackets -/
def sgs : Nat → D
  | 0 => .tup []
  | 1 => .tup [S_ "=", S_ "<"]
  | 2 => .tup [S_ "=", S_ "<", S_ "+", S_ "-"]
  | _ => .tup [S_ "=", S_ "<", S_ "+", S_ "-", S_ "*"]
theorem level_op {s : String} {l : Nat} (h : Sg s l) (a b : D) : ∃ e, F__law_level [.d (opD s a b)] = .ok (.d (.int (l : Int)), e) := by
  have f0 : Txt.find (Str.ofString "=<+-*") (Str.ofString "=") = 0 := by decide +kernel
  have f1 : Txt.find (Str.ofString "=<+-*") (Str.ofString "<") = 1 := by decide +kernel
  have f2 : Txt.find (Str.ofString "=<+-*") (Str.ofString "+") = 2 := by decide +kernel
  have f3 : Txt.find (Str.ofString "=<+-*") (Str.ofString "-") = 3 := by decide +kernel
  have f4 : Txt.find (Str.ofString "=<+-*") (Str.ofString "*") = 4 := by decide +kernel
  refine ⟨_, runF_ret (m := .d (.int (l : Int))) (e := [some (.d (opD s a b))]) ?_⟩
  unfold b__law_level
  cases h <;> simp [ssSeq, ssIf, sbE, sV, v2, vIx, vN, vC, getE, ix_0, ix_1, oNe_of, ssNil, ssRet, s2v, sLst, saCons, saNil, vSm, vaCons, vaNil, bFind, f0, f1, f2, f3, f4, sizeLine_eq, oIdx, mIdx, M.seq, atI, ixN]
theorem level_no {k : String} {xs : List D} (h : k ≠ "op") : ∃ e, F__law_level [.d (.tup (S_ k :: xs))] = .ok (.d (.int 3), e) := by
  refine ⟨_, runF_ret (m := .d (.int 3)) (e := [some (.d (.tup (S_ k :: xs)))]) ?_⟩
  unfold b__law_level
  simp [ssSeq, ssIf, sbE, sV, v2, vIx, vN, vC, getE, ix_0, oNe_of, ssRet, h]
theorem brk_no {lv l : Nat} {w : Str} (h : l ≤ lv) : brk lv l w = w := if_neg (by omega)
theorem brk_yes {lv l : Nat} {w : Str} (h : lv < l) : brk lv l w = Str.ofString "(" ++ w ++ Str.ofString ")" := if_pos h
theorem l1 (s : String) (h : s.length ≤ 20) : (Str.ofString s).length ≤ 20 := by rw [len_of]; exact h
theorem wrap {w : Str} (h : w.length ≤ 50000) (f : SE) {env e1 : FL.Env} (hf : f env = .ok (.d (.str w), e1)) : s2 oAdd (s2 oAdd (sV (vC (S_ "("))) f) (sV (vC (S_ ")"))) env = .ok (.d (.str (Str.ofString "(" ++ w ++ Str.ofString ")")), e1) := by
  have a1 := l1 "(" (by decide)
  have a2 := l1 ")" (by decide)
  refine s2_eq (s2_eq rfl hf (add_str (by omega))) rfl (add_str ?_)
  rw [len_app]
  omega
theorem TX.text {n : Nat} {x : D} {z : Nat} {w : Str} {lv : Nat} (t : TX n x z w lv) (hz : z ≤ 1000) : ∀ m, 2 * n + 1 < m → ∀ l : Nat, ∃ e, F__law_text m [.d x, .d (.int (l : Int))] = .ok (.d (.str (brk lv l w)), e) := by
  intro m hm l
  rcases Nat.lt_or_ge lv l with q | q
  · obtain ⟨m, rfl⟩ : ∃ k, m = k + 1 := ⟨m - 1, by omega⟩
    obtain ⟨e1, h1⟩ := t.tx hz m (by omega) 0 (by omega)
    obtain ⟨e2, h2⟩ := t.lev
    rw [brk_yes q]
    have hwl := t.wl
    obtain ⟨k, xs, hx⟩ : ∃ k xs, x = .tup (S_ k :: xs) := by
      rcases t.hd with ⟨k, xs, h, _⟩ | ⟨s, a, b, h, _⟩
      · exact ⟨k, xs, h⟩
      · exact ⟨_, _, h⟩
    obtain ⟨E, hE⟩ : ∃ E : FL.Env, E = [some (.d x), some (.d (.int (l : Int))), some (.d (S_ k)), none, none, none] := ⟨_, rfl⟩
    refine ⟨_, runF_ret (m := .d (.str (Str.ofString "(" ++ w ++ Str.ofString ")"))) (e := E) ?_⟩
    unfold b__law_text
    rw [ssSeq_nx (e := E) (by
      rw [hE, hx]
      simp only [ssSet, sV, vIx, vN, vC, getE, List.map_cons, List.map_nil, List.cons_append, List.nil_append, List.getElem?_cons_zero, List.getElem?_cons_succ, ix_0]
      rfl)]
    refine ssSeq_ret ?_
    have n0 : sN 0 E = .ok (.d x, E) := by rw [hE]; rfl
    have hc : sbE (s2v oLt (sCall F__law_level [none] (saCons (sN 0) (saNil))) (vN 1)) E = .ok (true, E) := by
      refine sbE_eq (s2v_eq (m2 := .d (.int (l : Int))) (sCall_n (bk := [none]) (by decide) (sa1_eq n0) h2) (by rw [hE]; rfl) ?_)
      rw [oLt_int, decide_eq_true (by omega)]
    rw [ssIf_t hc]
    exact ssRet_eq (wrap (by omega) _ (sCall_n (bk := [none, none]) (by decide) (sa2_eq n0 rfl) h1))
  · rw [brk_no q]
    exact t.tx hz m (by omega) l q
theorem in_sgs {s : String} {lv : Nat} (h : Sg s lv) {l : Nat} (hl : l = 1 ∨ l = 2 ∨ l = 3) : oIn (.d (S_ s)) (.d (sgs l)) = .ok (.bl (decide (lv < l))) := by
  cases h <;> rcases hl with rfl | rfl | rfl <;> simp [oIn, inM, M.seq, sgs, flatM, flatD, M.V, D.V, inV, eqV, ofStr_eq]
theorem TX.brac {n : Nat} {x : D} {z : Nat} {w : Str} {lv : Nat} (t : TX n x z w lv) (hz : z ≤ 1000) : ∀ m, n < m → ∀ l : Nat, (l = 1 ∨ l = 2 ∨ l = 3) → ∃ e, F_bracketed (F_shown_term m) [.d x, .d (sgs l)] = .ok (.d (.str (brk lv l w)), e) := by
  intro m hm l hl
  obtain ⟨e1, h1⟩ := t.sh hz m hm
  have hwl := t.wl
  obtain ⟨E, hE⟩ : ∃ E : FL.Env, E = [some (.d x), some (.d (sgs l))] := ⟨_, rfl⟩
  have n0 : sN 0 E = .ok (.d x, E) := by rw [hE]; rfl
  have hcall := sCall_n (bk := [none]) (by decide) (sa1_eq n0) h1
  refine ⟨_, runF_ret (m := .d (.str (brk lv l w))) (e := E) ?_⟩
  show b_bracketed _ [some (.d x), some (.d (sgs l))] = _
  rw [← hE]
  unfold b_bracketed
  rcases t.hd with ⟨k, xs, hx, hk, rfl⟩ | ⟨s, a, b, hx, hs⟩
  · have hc : sbAnd (sbE (sV (v2 oEq (vIx (vN 0) (vC (.int 0))) (vC (.str (Str.ofString "op")))))) (sbE (sV (v2 oIn (vIx (vN 0) (vC (.int 1))) (vN 1)))) E = .ok (false, E) := by
      rw [hE, hx]
      simp only [sbAnd, sbE, sV, v2, vIx, vN, vC, getE, List.getElem?_cons_zero, List.getElem?_cons_succ, ix_0, oEq_of, decide_eq_false hk]
    rw [ssSeq_nx ((ssIf_f hc).trans rfl), brk_no (by omega)]
    exact ssRet_eq hcall
  · have hc : sbAnd (sbE (sV (v2 oEq (vIx (vN 0) (vC (.int 0))) (vC (.str (Str.ofString "op")))))) (sbE (sV (v2 oIn (vIx (vN 0) (vC (.int 1))) (vN 1)))) E = .ok (decide (lv < l), E) := by
      rw [hE, hx]
      simp only [sbAnd, sbE, sV, v2, vIx, vN, vC, getE, List.getElem?_cons_zero, List.getElem?_cons_succ, ix_0, ix_1, oEq_of, decide_true, in_sgs hs hl]
    by_cases q : lv < l
    · rw [decide_eq_true q] at hc
      rw [brk_yes q]
      exact ssSeq_ret ((ssIf_t hc).trans (ssRet_eq (wrap (by omega) _ hcall)))
    · rw [decide_eq_false q] at hc
      rw [ssSeq_nx ((ssIf_f hc).trans rfl), brk_no (by omega)]
      exact ssRet_eq hcall
theorem if_skip {c : SB} {f rest : SS} {env : FL.Env} (h : c env = .ok (false, env)) : ssSeq (ssIf c f ssNil) rest env = rest env := ssSeq_nx ((ssIf_f h).trans rfl)
theorem if_take {c : SB} {f rest : SS} {env e : FL.Env} {m : M} (h : c env = .ok (true, env)) (hr : f env = .ok (.ret m, e)) : ssSeq (ssIf c f ssNil) rest env = .ok (.ret m, e) := ssSeq_ret ((ssIf_t h).trans hr)
theorem or_ff {c d : SB} {env : FL.Env} (h : c env = .ok (false, env)) (h2 : d env = .ok (false, env)) : sbOr c d env = .ok (false, env) := by simp only [sbOr, h, h2]
theorem or_t {c d : SB} {env : FL.Env} (h : c env = .ok (true, env)) : sbOr c d env = .ok (true, env) := by simp only [sbOr, h]
theorem or_ft {c d : SB} {env : FL.Env} (h : c env = .ok (false, env)) (h2 : d env = .ok (true, env)) : sbOr c d env = .ok (true, env) := by simp only [sbOr, h, h2]
/-- a test on the kind in a slot -/
theorem kn {i : Nat} {k q : String} {env : FL.Env} (hg : getE env i = .ok (.d (S_ k))) (h : k ≠ q) : sbE (sV (v2 oEq (vN i) (vC (.str (Str.ofString q))))) env = .ok (false, env) := by
  simp only [sbE, sV, v2, vN, vC, hg, oEq_of, decide_eq_false h]
theorem ky {i : Nat} {k q : String} {env : FL.Env} (hg : getE env i = .ok (.d (S_ k))) (h : k = q) : sbE (sV (v2 oEq (vN i) (vC (.str (Str.ofString q))))) env = .ok (true, env) := by
  simp only [sbE, sV, v2, vN, vC, hg, oEq_of, decide_eq_true h]
theorem hn {i : Nat} {k q : String} {xs : List D} {env : FL.Env} (hg : getE env i = .ok (.d (.tup (S_ k :: xs)))) (h : k ≠ q) : sbE (sV (v2 oEq (vIx (vN i) (vC (.int 0))) (vC (.str (Str.ofString q))))) env = .ok (false, env) := by
  simp only [sbE, sV, v2, vIx, vN, vC, hg, ix_0, oEq_of, decide_eq_false h]
theorem hy {i : Nat} {k q : String} {xs : List D} {env : FL.Env} (hg : getE env i = .ok (.d (.tup (S_ k :: xs)))) (h : k = q) : sbE (sV (v2 oEq (vIx (vN i) (vC (.int 0))) (vC (.str (Str.ofString q))))) env = .ok (true, env) := by
  simp only [sbE, sV, v2, vIx, vN, vC, hg, ix_0, oEq_of, decide_eq_true h]
/-! ### the children -/
theorem inner_start {k : String} {xs : List D} (rest : SS) : ssSeq (ssSet 1 (sV (vIx (vN 0) (vC (.int 0))))) rest [some (.d (.tup (S_ k :: xs))), none, none] = rest [some (.d (.tup (S_ k :: xs))), some (.d (S_ k)), none] := by
  refine ssSeq_nx ?_
  simp only [ssSet, sV, vIx, vN, vC, getE, List.getElem?_cons_zero, ix_0]
  rfl
theorem inner_if (a b c : D) : ∃ e, F__law_inner [.d (iffD a b c)] = .ok (.lst ([a, b, c].map .d), e) := by
  obtain ⟨E, hE⟩ : ∃ E : FL.Env, E = [some (.d (iffD a b c)), some (.d (S_ "if")), none] := ⟨_, rfl⟩
  have g : getE E 1 = .ok (.d (S_ "if")) := by rw [hE]; rfl
  refine ⟨_, runF_ret (m := .lst ([a, b, c].map .d)) (e := E) ?_⟩
  show b__law_inner [some (.d (iffD a b c)), none, none] = _
  unfold b__law_inner
  rw [inner_start, ← hE]
  refine if_take (ky g rfl) (ssRet_eq ?_)
  rw [hE]
  rfl
theorem inner_op (s : String) (a b : D) : ∃ e, F__law_inner [.d (opD s a b)] = .ok (.lst ([a, b].map .d), e) := by
  obtain ⟨E, hE⟩ : ∃ E : FL.Env, E = [some (.d (opD s a b)), some (.d (S_ "op")), none] := ⟨_, rfl⟩
  have g : getE E 1 = .ok (.d (S_ "op")) := by rw [hE]; rfl
  refine ⟨_, runF_ret (m := .lst ([a, b].map .d)) (e := E) ?_⟩
  show b__law_inner [some (.d (opD s a b)), none, none] = _
  unfold b__law_inner
  rw [inner_start, ← hE, if_skip (kn g (by decide))]
  refine if_take (ky g rfl) (ssRet_eq ?_)
  rw [hE]
  rfl
theorem inner_1 {k : String} (hk : k = "rest" ∨ k = "field") (a y : D) : ∃ e, F__law_inner [.d (.tup [S_ k, a, y])] = .ok (.lst ([a].map .d), e) := by
  obtain ⟨E, hE⟩ : ∃ E : FL.Env, E = [some (.d (.tup [S_ k, a, y])), some (.d (S_ k)), none] := ⟨_, rfl⟩
  have g : getE E 1 = .ok (.d (S_ k)) := by rw [hE]; rfl
  refine ⟨_, runF_ret (m := .lst ([a].map .d)) (e := E) ?_⟩
  show b__law_inner [some (.d (.tup [S_ k, a, y])), none, none] = _
  unfold b__law_inner
  rw [inner_start, ← hE, if_skip (kn g (by rcases hk with rfl | rfl <;> decide)), if_skip (kn g (by rcases hk with rfl | rfl <;> decide))]
  refine if_take ?_ (ssRet_eq ?_)
  · rcases hk with rfl | rfl
    · exact or_t (ky g rfl)
    · exact or_ft (kn g (by decide)) (ky g rfl)
  · rw [hE]
    simp [sLst, saCons, saNil, sV, vIx, vN, vC, getE, ix_1, sizeLine_eq]
theorem inner_rec {fs : List (Str × D)} (h : fs.length ≤ 100) : ∃ e, F__law_inner [.d (recD fs)] = .ok (.lst ((fs.map Prod.snd).map .d), e) := by
  obtain ⟨E, hE⟩ : ∃ E : FL.Env, E = [some (.d (recD fs)), some (.d (S_ "record")), none] := ⟨_, rfl⟩
  have g : getE E 1 = .ok (.d (S_ "record")) := by rw [hE]; rfl
  refine ⟨_, runF_ret (m := .lst ((fs.map Prod.snd).map .d)) (e := E) ?_⟩
  show b__law_inner [some (.d (recD fs)), none, none] = _
  unfold b__law_inner
  rw [inner_start, ← hE, if_skip (kn g (by decide)), if_skip (kn g (by decide)), if_skip (or_ff (kn g (by decide)) (kn g (by decide)))]
  refine if_take (ky g rfl) (ssRet_eq ?_)
  have hi : siQ (sV (vIx (vN 0) (vC (.int 1)))) E = .ok (fs.map fdD, E) := by
    rw [hE]; simp only [siQ, sV, vIx, vN, vC, getE, List.getElem?_cons_zero, ix_1, fz, itemsD]
  have hk : killAll [2] E = E := by rw [hE]; rfl
  have hm := lcl_map (own := [2]) (g := sgN 2) (c := sbYes) (f := sV (vIx (vN 2) (vC (.int 1)))) (env := E) fdD (fun p => M.d p.2) fs [] (fun p hp => by
    rw [hE]
    refine ⟨[some (.d (recD fs)), some (.d (S_ "record")), some (.d (fdD p))], _, [some (.d (recD fs)), some (.d (S_ "record")), some (.d (fdD p))], rfl, rfl, ?_, rfl⟩
    simp only [sV, vIx, vN, vC, getE, List.getElem?_cons_zero, List.getElem?_cons_succ, ix_1])
  have := sLc_eq hi (by rw [sizeLine_eq, List.length_map]; omega) (by rw [hk]; exact hm)
  rw [this, List.map_map]
  rfl
theorem inner_call (w : Str) (xs : List D) : ∃ e, F__law_inner [.d (callD w xs)] = .ok (.lst (xs.map .d), e) := by
  obtain ⟨E, hE⟩ : ∃ E : FL.Env, E = [some (.d (callD w xs)), some (.d (S_ "call")), none] := ⟨_, rfl⟩
  have g : getE E 1 = .ok (.d (S_ "call")) := by rw [hE]; rfl
  refine ⟨_, runF_ret (m := .lst (xs.map .d)) (e := E) ?_⟩
  show b__law_inner [some (.d (callD w xs)), none, none] = _
  unfold b__law_inner
  rw [inner_start, ← hE, if_skip (kn g (by decide)), if_skip (kn g (by decide)), if_skip (or_ff (kn g (by decide)) (kn g (by decide))), if_skip (kn g (by decide))]
  refine if_take (ky g rfl) (ssRet_eq ?_)
  rw [hE]
  simp only [sListV, vIx, vN, vC, getE, List.getElem?_cons_zero, ix_2, brw, itemsLT]
theorem inner_flip (a b : Int) : ∃ e, F__law_inner [.d (flipD a b)] = .ok (.lst (([] : List D).map .d), e) := by
  obtain ⟨E, hE⟩ : ∃ E : FL.Env, E = [some (.d (flipD a b)), some (.d (S_ "flip")), none] := ⟨_, rfl⟩
  have g : getE E 1 = .ok (.d (S_ "flip")) := by rw [hE]; rfl
  refine ⟨_, runF_ret (m := .lst []) (e := E) ?_⟩
  show b__law_inner [some (.d (flipD a b)), none, none] = _
  unfold b__law_inner
  rw [inner_start, ← hE, if_skip (kn g (by decide)), if_skip (kn g (by decide)), if_skip (or_ff (kn g (by decide)) (kn g (by decide))), if_skip (kn g (by decide)), if_skip (kn g (by decide))]
  exact ssRet_eq (by simp [sLst, saNil])
/-! ### sizes -/
theorem intsOf_map {α : Type} (f : α → Int) : ∀ xs : List α, intsOf (xs.map fun x => M.d (.int (f x))) = some (xs.map f)
  | [] => rfl
  | x :: xs => by simp [intsOf, intsOf_map f xs]
theorem kids_sum {x : D} {xs : List D} {zf : D → Nat} {c : Nat} {rF : FS} (hin : ∃ e, F__law_inner [.d x] = .ok (.lst (xs.map .d), e)) (hl : xs.length ≤ 100) (h : ∀ y ∈ xs, ∃ e, rF [.d y] = .ok (.d (.int (zf y : Int)), e)) :
    sB bSum (saCons (sLc [1] (siQ (sCall F__law_inner [none] (saCons (sN 0) (saNil)))) (sgN 1) sbYes (s2 oAdd (sV (vC (.int (c : Int)))) (sCall rF [none] (saCons (sN 1) (saNil))))) (saNil)) [some (.d x), none] = .ok (.d (.int (((xs.map fun y => c + zf y).sum : Nat) : Int)), [some (.d x), none]) := by
  obtain ⟨E, hE⟩ : ∃ E : FL.Env, E = [some (.d x), none] := ⟨_, rfl⟩
  obtain ⟨e, hin⟩ := hin
  rw [← hE]
  have n0 : sN 0 E = .ok (.d x, E) := by rw [hE]; rfl
  have hi : siQ (sCall F__law_inner [none] (saCons (sN 0) (saNil))) E = .ok (xs, E) := by
    simp only [siQ, sCall_n (bk := [none]) (by decide) (sa1_eq n0) hin, fz, fzs_d, itemsD]
  have hk : killAll [1] E = E := by rw [hE]; rfl
  have hm := lcl_map (own := [1]) (g := sgN 1) (c := sbYes) (f := s2 oAdd (sV (vC (.int (c : Int)))) (sCall rF [none] (saCons (sN 1) (saNil)))) (env := E) (fun y : D => y) (fun y => M.d (.int ((c + zf y : Nat) : Int))) xs [] (fun y hy => by
    obtain ⟨e, h1⟩ := h y hy
    obtain ⟨E1, hE1⟩ : ∃ E1 : FL.Env, E1 = [some (.d x), some (.d y)] := ⟨_, rfl⟩
    have n1 : sN 1 E1 = .ok (.d y, E1) := by rw [hE1]; rfl
    refine ⟨E1, E1, E1, by rw [hE, hE1]; rfl, rfl, ?_, by rw [hE, hE1]; rfl⟩
    refine s2_eq rfl (sCall_n (bk := [none]) (by decide) (sa1_eq n1) h1) ?_
    rw [oAdd_int]
    congr 2)
  rw [List.map_id'] at hm
  have h2 := sLc_eq hi (by rw [sizeLine_eq]; omega) (by rw [hk]; exact hm)
  refine sB_eq (sa1_eq h2) ?_
  rw [List.nil_append]
  simp only [bSum, M.seq, intsOf_map]
  congr 2
  clear hi hm h2 h hin hl
  induction xs with
  | nil => rfl
  | cons y ys ih =>
    rw [List.map_cons, List.sum_cons, ih, List.map_cons, List.sum_cons]
    omega
theorem size_last {k : String} {ys xs : List D} {zf : D → Nat} {m : Nat} (hk : k ≠ "pick" ∧ k ≠ "num" ∧ k ≠ "name" ∧ k ≠ "record") (hin : ∃ e, F__law_inner [.d (.tup (S_ k :: ys))] = .ok (.lst (xs.map .d), e)) (hl : xs.length ≤ 100) (h : ∀ y ∈ xs, ∃ e, F__law_size m [.d y] = .ok (.d (.int (zf y : Int)), e)) :
    ∃ e, F__law_size (m + 1) [.d (.tup (S_ k :: ys))] = .ok (.d (.int ((6 + (xs.map fun y => 2 + zf y).sum : Nat) : Int)), e) := by
  have hs := kids_sum (c := 2) hin hl h
  obtain ⟨E, hE⟩ : ∃ E : FL.Env, E = [some (.d (.tup (S_ k :: ys))), none] := ⟨_, rfl⟩
  rw [← hE] at hs
  have g : getE E 0 = .ok (.d (.tup (S_ k :: ys))) := by rw [hE]; rfl
  refine ⟨_, runF_ret (m := .d (.int ((6 + (xs.map fun y => 2 + zf y).sum : Nat) : Int))) (e := E) ?_⟩
  show b__law_size _ [some (.d (.tup (S_ k :: ys))), none] = _
  unfold b__law_size
  rw [← hE, if_skip (hn g hk.1), if_skip (or_ff (hn g hk.2.1) (hn g hk.2.2.1)), if_skip (hn g hk.2.2.2)]
  refine ssRet_eq (s2_eq rfl hs ?_)
  rw [oAdd_int]
  congr 2
theorem size_rec {fs : List (Str × D)} {zf : D → Nat} {m : Nat} (hl : fs.length ≤ 100) (h : ∀ p ∈ fs, ∃ e, F__law_size m [.d p.2] = .ok (.d (.int (zf p.2 : Int)), e)) :
    ∃ e, F__law_size (m + 1) [.d (recD fs)] = .ok (.d (.int ((2 + (fs.map fun p => 3 + zf p.2).sum : Nat) : Int)), e) := by
  have hs := kids_sum (c := 3) (inner_rec hl) (by rw [List.length_map]; exact hl) (fun y hy => by obtain ⟨p, hp, rfl⟩ := List.mem_map.mp hy; exact h p hp)
  obtain ⟨E, hE⟩ : ∃ E : FL.Env, E = [some (.d (recD fs)), none] := ⟨_, rfl⟩
  rw [← hE, List.map_map] at hs
  have g : getE E 0 = .ok (.d (recD fs)) := by rw [hE]; rfl
  refine ⟨_, runF_ret (m := .d (.int ((2 + (fs.map fun p => 3 + zf p.2).sum : Nat) : Int))) (e := E) ?_⟩
  show b__law_size _ [some (.d (recD fs)), none] = _
  unfold b__law_size
  rw [← hE, if_skip (hn g (by decide)), if_skip (or_ff (hn g (by decide)) (hn g (by decide)))]
  refine if_take (hy g rfl) (ssRet_eq (s2_eq rfl hs ?_))
  rw [oAdd_int]
  congr 2
theorem vcat {ga gb : VE} {env : FL.Env} {a b : Str} (h1 : ga env = .ok (.d (.str a))) (h2 : gb env = .ok (.d (.str b))) (hl : a.length + b.length ≤ 1000000) : v2 oAdd ga gb env = .ok (.d (.str (a ++ b))) := by
  simp only [v2, h1, h2, add_str hl]
theorem scat {fa fb : SE} {env e1 e2 : FL.Env} {a b : Str} (h1 : fa env = .ok (.d (.str a), e1)) (h2 : fb e1 = .ok (.d (.str b), e2)) (hl : a.length + b.length ≤ 1000000) : s2 oAdd fa fb env = .ok (.d (.str (a ++ b)), e2) := s2_eq h1 h2 (add_str hl)
theorem sV_eq {g : VE} {env : FL.Env} {x : D} (h : g env = .ok (.d x)) : sV g env = .ok (.d x, env) := by simp only [sV, h]
theorem vstr_int {g : VE} {env : FL.Env} {i : Int} (h : g env = .ok (.d (.int i))) (hi : sm i) : vB bStrA (vaCons g vaNil) env = .ok (.d (.str (toString i))) := by
  simp only [vB, vaCons, vaNil, h, str_int hi]
theorem vix_1 {i : Nat} {a b : D} {xs : List D} {env : FL.Env} (hg : getE env i = .ok (.d (.tup (a :: b :: xs)))) : vIx (vN i) (vC (.int 1)) env = .ok (.d b) := by
  simp only [vIx, vN, vC, hg, ix_1]
theorem vix_0 {i : Nat} {a : D} {xs : List D} {env : FL.Env} (hg : getE env i = .ok (.d (.tup (a :: xs)))) : vIx (vN i) (vC (.int 0)) env = .ok (.d a) := by
  simp only [vIx, vN, vC, hg, ix_0]
theorem vix_2 {i : Nat} {a b c : D} {xs : List D} {env : FL.Env} (hg : getE env i = .ok (.d (.tup (a :: b :: c :: xs)))) : vIx (vN i) (vC (.int 2)) env = .ok (.d c) := by
  simp only [vIx, vN, vC, hg, ix_2]
theorem vix_3 {i : Nat} {a b c d : D} {xs : List D} {env : FL.Env} (hg : getE env i = .ok (.d (.tup (a :: b :: c :: d :: xs)))) : vIx (vN i) (vC (.int 3)) env = .ok (.d d) := by
  simp only [vIx, vN, vC, hg, ix_3]
theorem lI {i : Int} (h : sm i) : (Str.ofString (toString i)).length ≤ 14 := len_int h
abbrev tE (x : D) (l : Nat) (k : String) : FL.Env := [some (.d x), some (.d (.int (l : Int))), some (.d (S_ k)), none, none, none]
theorem tx_start {k : String} {xs : List D} {l lv : Nat} {c rest : SS} (hlev : ∃ e, F__law_level [.d (.tup (S_ k :: xs))] = .ok (.d (.int (lv : Int)), e)) (hl : l ≤ lv) :
    ssSeq (ssSet 2 (sV (vIx (vN 0) (vC (.int 0))))) (ssSeq (ssIf (sbE (s2v oLt (sCall F__law_level [none] (saCons (sN 0) (saNil))) (vN 1))) c (ssNil)) rest) [some (.d (.tup (S_ k :: xs))), some (.d (.int (l : Int))), none, none, none, none] = rest (tE (.tup (S_ k :: xs)) l k) := by
  rw [ssSeq_nx (e := tE (.tup (S_ k :: xs)) l k) (by
    simp only [ssSet, sV, vIx, vN, vC, getE, List.getElem?_cons_zero, ix_0]
    rfl)]
  obtain ⟨e, hlev⟩ := hlev
  obtain ⟨E, hE⟩ : ∃ E, E = tE (.tup (S_ k :: xs)) l k := ⟨_, rfl⟩
  rw [← hE]
  have n0 : sN 0 E = .ok (.d (.tup (S_ k :: xs)), E) := by rw [hE]; rfl
  refine if_skip (sbE_eq (s2v_eq (m2 := .d (.int (l : Int))) (sCall_n (bk := [none]) (by decide) (sa1_eq n0) hlev) (by rw [hE]; rfl) ?_))
  rw [oLt_int, decide_eq_false (by omega)]
theorem sum_le_n : ∀ {ws : List Str} {B : Nat}, (∀ w ∈ ws, w.length ≤ B) → (ws.map (·.length)).sum ≤ ws.length * B
  | [], _, _ => by simp
  | w :: ws, B, h => by
    have h1 := h w (by simp)
    have h2 := sum_le_n (ws := ws) fun x hx => h x (by simp [hx])
    rw [List.map_cons, List.sum_cons, List.length_cons, Nat.add_mul, Nat.one_mul]
    omega
/-! ### leaves -/
theorem tx_num {n : Nat} {i : Int} (hi : sm i) : TX n (numD i) 1 (toString i) 3 := by
  have hl := lI hi
  refine ⟨by omega, by omega, fun m hm => ?_, fun _ m hm => ?_, fun _ m hm l hl' => ?_, level_no (by decide), .inl ⟨_, _, rfl, by decide, rfl⟩⟩
  · obtain ⟨m, rfl⟩ : ∃ k, m = k + 1 := ⟨m - 1, by omega⟩
    obtain ⟨E, hE⟩ : ∃ E : FL.Env, E = [some (.d (numD i)), none] := ⟨_, rfl⟩
    have g : getE E 0 = .ok (.d (numD i)) := by rw [hE]; rfl
    refine ⟨_, runF_ret (m := .d (.int 1)) (e := E) ?_⟩
    show b__law_size _ [some (.d (numD i)), none] = _
    unfold b__law_size
    rw [← hE, if_skip (hn g (by decide))]
    exact if_take (or_t (hy g rfl)) (ssRet_eq rfl)
  · obtain ⟨m, rfl⟩ : ∃ k, m = k + 1 := ⟨m - 1, by omega⟩
    obtain ⟨E, hE⟩ : ∃ E : FL.Env, E = [some (.d (numD i)), some (.d (S_ "num")), none] := ⟨_, rfl⟩
    have g : getE E 1 = .ok (.d (S_ "num")) := by rw [hE]; rfl
    have g0 : getE E 0 = .ok (.d (numD i)) := by rw [hE]; rfl
    refine ⟨_, runF_ret (m := .d (.str (toString i))) (e := E) ?_⟩
    show b_shown_term _ [some (.d (numD i)), none, none] = _
    unfold b_shown_term
    rw [inner_start, ← hE]
    exact if_take (ky g rfl) (ssRet_eq (sV_eq (vstr_int (vix_1 g0) hi)))
  · obtain ⟨m, rfl⟩ : ∃ k, m = k + 1 := ⟨m - 1, by omega⟩
    obtain ⟨E, hE⟩ : ∃ E : FL.Env, E = tE (numD i) l "num" := ⟨_, rfl⟩
    have g : getE E 2 = .ok (.d (S_ "num")) := by rw [hE]; rfl
    have g0 : getE E 0 = .ok (.d (numD i)) := by rw [hE]; rfl
    refine ⟨_, runF_ret (m := .d (.str (toString i))) (e := E) ?_⟩
    show b__law_text _ [some (.d (numD i)), some (.d (.int (l : Int))), none, none, none, none] = _
    unfold b__law_text
    rw [tx_start (level_no (by decide)) hl', ← hE, if_skip (kn g (by decide))]
    exact if_take (or_t (ky g rfl)) (ssRet_eq (sV_eq (vstr_int (vix_1 g0) hi)))
theorem tx_name {n : Nat} {w : Str} (hw : w.length ≤ 9) : TX n (nameD w) 1 w 3 := by
  refine ⟨by omega, by omega, fun m hm => ?_, fun _ m hm => ?_, fun _ m hm l hl' => ?_, level_no (by decide), .inl ⟨_, _, rfl, by decide, rfl⟩⟩
  · obtain ⟨m, rfl⟩ : ∃ k, m = k + 1 := ⟨m - 1, by omega⟩
    obtain ⟨E, hE⟩ : ∃ E : FL.Env, E = [some (.d (nameD w)), none] := ⟨_, rfl⟩
    have g : getE E 0 = .ok (.d (nameD w)) := by rw [hE]; rfl
    refine ⟨_, runF_ret (m := .d (.int 1)) (e := E) ?_⟩
    show b__law_size _ [some (.d (nameD w)), none] = _
    unfold b__law_size
    rw [← hE, if_skip (hn g (by decide))]
    exact if_take (or_ft (hn g (by decide)) (hy g rfl)) (ssRet_eq rfl)
  · obtain ⟨m, rfl⟩ : ∃ k, m = k + 1 := ⟨m - 1, by omega⟩
    obtain ⟨E, hE⟩ : ∃ E : FL.Env, E = [some (.d (nameD w)), some (.d (S_ "name")), none] := ⟨_, rfl⟩
    have g : getE E 1 = .ok (.d (S_ "name")) := by rw [hE]; rfl
    have g0 : getE E 0 = .ok (.d (nameD w)) := by rw [hE]; rfl
    refine ⟨_, runF_ret (m := .d (.str w)) (e := E) ?_⟩
    show b_shown_term _ [some (.d (nameD w)), none, none] = _
    unfold b_shown_term
    rw [inner_start, ← hE, if_skip (kn g (by decide))]
    exact if_take (ky g rfl) (ssRet_eq (sV_eq (vix_1 g0)))
  · obtain ⟨m, rfl⟩ : ∃ k, m = k + 1 := ⟨m - 1, by omega⟩
    obtain ⟨E, hE⟩ : ∃ E : FL.Env, E = tE (nameD w) l "name" := ⟨_, rfl⟩
    have g : getE E 2 = .ok (.d (S_ "name")) := by rw [hE]; rfl
    have g0 : getE E 0 = .ok (.d (nameD w)) := by rw [hE]; rfl
    refine ⟨_, runF_ret (m := .d (.str w)) (e := E) ?_⟩
    show b__law_text _ [some (.d (nameD w)), some (.d (.int (l : Int))), none, none, none, none] = _
    unfold b__law_text
    rw [tx_start (level_no (by decide)) hl', ← hE, if_skip (kn g (by decide))]
    refine if_take (or_ft (kn g (by decide)) (ky g rfl)) (ssRet_eq (sV_eq ?_))
    simp only [vB, vaCons, vaNil, vix_1 g0, str_str]
def flipT (a b : Int) : Str := Str.ofString "flip(" ++ toString a ++ Str.ofString "/" ++ toString b ++ Str.ofString ")"
theorem flip_v {a b : Int} (ha : sm a) (hb : sm b) {E : FL.Env} (g0 : getE E 0 = .ok (.d (flipD a b))) :
    v2 oAdd (v2 oAdd (v2 oAdd (v2 oAdd (vC (.str (Str.ofString "flip("))) (vB bStrA (vaCons (vIx (vN 0) (vC (.int 1))) (vaNil)))) (vC (.str (Str.ofString "/")))) (vB bStrA (vaCons (vIx (vN 0) (vC (.int 2))) (vaNil)))) (vC (.str (Str.ofString ")"))) E = .ok (.d (.str (flipT a b))) ∧ (flipT a b).length ≤ 100 := by
  have l1' := lI ha
  have l2' := lI hb
  have a1 := l1 "flip(" (by decide)
  have a2 := l1 "/" (by decide)
  have a3 := l1 ")" (by decide)
  refine ⟨vcat (vcat (vcat (vcat rfl (vstr_int (vix_1 g0) ha) ?_) rfl ?_) (vstr_int (vix_2 g0) hb) ?_) rfl ?_, ?_⟩
  all_goals ((try unfold flipT); (try simp only [len_app]); omega)
theorem tx_flip {n : Nat} {a b : Int} (ha : sm a) (hb : sm b) : TX n (flipD a b) 6 (flipT a b) 3 := by
  have hlen : (flipT a b).length ≤ 100 := (flip_v ha hb (E := [some (.d (flipD a b))]) rfl).2
  refine ⟨by omega, by omega, fun m hm => ?_, fun _ m hm => ?_, fun _ m hm l hl' => ?_, level_no (by decide), .inl ⟨_, _, rfl, by decide, rfl⟩⟩
  · obtain ⟨m, rfl⟩ : ∃ k, m = k + 1 := ⟨m - 1, by omega⟩
    exact size_last (xs := []) (zf := fun _ => 0) ⟨by decide, by decide, by decide, by decide⟩ (inner_flip a b) (by simp) fun y hy => nomatch hy
  · obtain ⟨m, rfl⟩ : ∃ k, m = k + 1 := ⟨m - 1, by omega⟩
    obtain ⟨E, hE⟩ : ∃ E : FL.Env, E = [some (.d (flipD a b)), some (.d (S_ "flip")), none] := ⟨_, rfl⟩
    have g : getE E 1 = .ok (.d (S_ "flip")) := by rw [hE]; rfl
    have n0 : sN 0 E = .ok (.d (flipD a b), E) := by rw [hE]; rfl
    obtain ⟨E2, hE2⟩ : ∃ E : FL.Env, E = [some (.d (flipD a b)), none, none, none] := ⟨_, rfl⟩
    have g2 : getE E2 0 = .ok (.d (flipD a b)) := by rw [hE2]; rfl
    have hd : F_shown_draw [.d (flipD a b)] = .ok (.d (.str (flipT a b)), (killAll [] E2).take 1) := by
      refine runF_ret ?_
      show b_shown_draw [some (.d (flipD a b)), none, none, none] = _
      unfold b_shown_draw
      rw [← hE2]
      exact if_take (hy g2 rfl) (ssRet_eq (sV_eq (flip_v ha hb g2).1))
    refine ⟨_, runF_ret (m := .d (.str (flipT a b))) (e := E) ?_⟩
    show b_shown_term _ [some (.d (flipD a b)), none, none] = _
    unfold b_shown_term
    rw [inner_start, ← hE, if_skip (kn g (by decide)), if_skip (kn g (by decide))]
    exact if_take (or_t (ky g rfl)) (ssRet_eq (sCall_n (bk := [none]) (by decide) (sa1_eq n0) hd))
  · obtain ⟨m, rfl⟩ : ∃ k, m = k + 1 := ⟨m - 1, by omega⟩
    obtain ⟨E, hE⟩ : ∃ E : FL.Env, E = tE (flipD a b) l "flip" := ⟨_, rfl⟩
    have g : getE E 2 = .ok (.d (S_ "flip")) := by rw [hE]; rfl
    have g0 : getE E 0 = .ok (.d (flipD a b)) := by rw [hE]; rfl
    refine ⟨_, runF_ret (m := .d (.str (flipT a b))) (e := E) ?_⟩
    show b__law_text _ [some (.d (flipD a b)), some (.d (.int (l : Int))), none, none, none, none] = _
    unfold b__law_text
    rw [tx_start (level_no (by decide)) hl', ← hE, if_skip (kn g (by decide)), if_skip (or_ff (kn g (by decide)) (kn g (by decide)))]
    exact if_take (ky g rfl) (ssRet_eq (sV_eq (flip_v ha hb g0).1))
theorem sSm_eq {op : LOp} {f : SE} {fs : SA} {env e1 e2 : FL.Env} {a : Str} {ms : List M} {x : D} (h : f env = .ok (.d (.str a), e1)) (h2 : fs e1 = .ok (ms, e2)) (h3 : op (.d (.str a) :: ms) = .ok x) : sSm op f fs env = .ok (.d x, e2) := by
  simp only [sSm, h, h2, h3]
def prT (p : Int × Int) : Str := toString p.1 ++ Str.ofString ":" ++ toString p.2
def pickT (ps : List (Int × Int)) : Str := Str.ofString "pick(" ++ Txt.join (Str.ofString ", ") (ps.map prT) ++ Str.ofString ")"
theorem pr_v {ga gb : VE} {p : Int × Int} (ha : sm p.1) (hb : sm p.2) {E : FL.Env} (h1 : ga E = .ok (.d (.int p.1))) (h2 : gb E = .ok (.d (.int p.2))) :
    v2 oAdd (v2 oAdd (vB bStrA (vaCons ga vaNil)) (vC (.str (Str.ofString ":")))) (vB bStrA (vaCons gb vaNil)) E = .ok (.d (.str (prT p))) := by
  have l1' := lI ha
  have l2' := lI hb
  have a1 := l1 ":" (by decide)
  refine vcat (vcat (vstr_int h1 ha) rfl ?_) (vstr_int h2 hb) ?_
  all_goals ((try simp only [len_app]); omega)
theorem pr_len {p : Int × Int} (ha : sm p.1) (hb : sm p.2) : (prT p).length ≤ 48 := by
  have l1' := lI ha
  have l2' := lI hb
  have a1 := l1 ":" (by decide)
  unfold prT
  simp only [len_app]
  omega
theorem pick_len {ps : List (Int × Int)} (h : ∀ p ∈ ps, sm p.1 ∧ sm p.2) : ((ps.map prT).map (·.length)).sum ≤ ps.length * 48 ∧ (pickT ps).length ≤ 7 + ps.length * 50 := by
  have h1 := sum_le_n (ws := ps.map prT) (B := 48) fun w hw => by obtain ⟨p, hp, rfl⟩ := List.mem_map.mp hw; exact pr_len (h p hp).1 (h p hp).2
  rw [List.length_map] at h1
  refine ⟨h1, ?_⟩
  have h2 := join_len (Str.ofString ", ") (ps.map prT)
  have a1 : (Str.ofString ", ").length = 2 := len_of _
  have a2 : (Str.ofString "pick(").length = 5 := len_of _
  have a3 : (Str.ofString ")").length = 1 := len_of _
  rw [List.length_map, a1] at h2
  unfold pickT
  rw [len_app, len_app]
  omega
theorem tx_pick {n : Nat} {ps : List (Int × Int)} (hl : ps.length ≤ 6) (h : ∀ p ∈ ps, sm p.1 ∧ sm p.2) : TX n (pickD ps) (2 + 4 * ps.length) (pickT ps) 3 := by
  obtain ⟨hs, hp⟩ := pick_len h
  have a1 : (Str.ofString ", ").length = 2 := len_of _
  have a2 : (Str.ofString "pick(").length = 5 := len_of _
  have a3 : (Str.ofString ")").length = 1 := len_of _
  have hj : bJoin [.d (.str (Str.ofString ", ")), .lst ((ps.map prT).map fun w => .d (.str w))] = .ok (.str (Txt.join (Str.ofString ", ") (ps.map prT))) := join_eq (by rw [a1, List.length_map]; omega)
  have hjl := join_len (Str.ofString ", ") (ps.map prT)
  rw [a1, List.length_map] at hjl
  refine ⟨by omega, by omega, fun m hm => ?_, fun _ m hm => ?_, fun _ m hm l hl' => ?_, level_no (by decide), .inl ⟨_, _, rfl, by decide, rfl⟩⟩
  · obtain ⟨m, rfl⟩ : ∃ k, m = k + 1 := ⟨m - 1, by omega⟩
    obtain ⟨E, hE⟩ : ∃ E : FL.Env, E = [some (.d (pickD ps)), none] := ⟨_, rfl⟩
    have g : getE E 0 = .ok (.d (pickD ps)) := by rw [hE]; rfl
    refine ⟨_, runF_ret (m := .d (.int ((2 + 4 * ps.length : Nat) : Int))) (e := E) ?_⟩
    show b__law_size _ [some (.d (pickD ps)), none] = _
    unfold b__law_size
    rw [← hE]
    refine if_take (hy g rfl) (ssRet_eq (sV_eq ?_))
    have hb : bLen [.d (.tup (ps.map prD))] = .ok (.int ps.length) := by simp [bLen, M.seq]
    have c1 : CMulD 4 (ps.length : Int) := mulD (a := 8) (b := 8) (by omega) (by omega)
    simp only [v2, vB, vaCons, vaNil, vC, vix_1 g, hb, oMul_int c1, oAdd_int]
    congr 3
  · obtain ⟨m, rfl⟩ : ∃ k, m = k + 1 := ⟨m - 1, by omega⟩
    obtain ⟨E, hE⟩ : ∃ E : FL.Env, E = [some (.d (pickD ps)), some (.d (S_ "pick")), none] := ⟨_, rfl⟩
    have g : getE E 1 = .ok (.d (S_ "pick")) := by rw [hE]; rfl
    have n0 : sN 0 E = .ok (.d (pickD ps), E) := by rw [hE]; rfl
    obtain ⟨E2, hE2⟩ : ∃ E : FL.Env, E = [some (.d (pickD ps)), none, none, none] := ⟨_, rfl⟩
    have g2 : getE E2 0 = .ok (.d (pickD ps)) := by rw [hE2]; rfl
    obtain ⟨L, hL⟩ : ∃ L : M, L = .lst ((ps.map prT).map fun w => .d (.str w)) := ⟨_, rfl⟩
    obtain ⟨E3, hE3⟩ : ∃ E : FL.Env, E = [some (.d (pickD ps)), some L, none, none] := ⟨_, rfl⟩
    have hd : F_shown_draw [.d (pickD ps)] = .ok (.d (.str (pickT ps)), (killAll [] E3).take 1) := by
      refine runF_ret ?_
      show b_shown_draw [some (.d (pickD ps)), none, none, none] = _
      unfold b_shown_draw
      rw [← hE2, if_skip (hn g2 (by decide))]
      have hi : siQ (sV (vIx (vN 0) (vC (.int 1)))) E2 = .ok (ps.map prD, E2) := by
        simp only [siQ, sV_eq (vix_1 g2), fz, itemsD]
      have hk : killAll [2, 3] E2 = E2 := by rw [hE2]; rfl
      have hm := lcl_map (own := [2, 3]) (g := sgTup 2 (sgCons (sgN 2) (sgCons (sgN 3) (sgNil)))) (c := sbYes) (f := sV (v2 oAdd (v2 oAdd (vB bStrA (vaCons (vN 2) (vaNil))) (vC (.str (Str.ofString ":")))) (vB bStrA (vaCons (vN 3) (vaNil))))) (env := E2) prD (fun p => M.d (.str (prT p))) ps [] (fun p hp => by
        obtain ⟨F, hF⟩ : ∃ F : FL.Env, F = [some (.d (pickD ps)), none, some (.d (.int p.1)), some (.d (.int p.2))] := ⟨_, rfl⟩
        refine ⟨F, F, F, by rw [hE2, hF]; rfl, rfl, ?_, by rw [hE2, hF]; rfl⟩
        exact sV_eq (pr_v (h p hp).1 (h p hp).2 (by rw [hF]; rfl) (by rw [hF]; rfl)))
      have h2 := sLc_eq hi (by rw [sizeLine_eq, List.length_map]; omega) (by rw [hk]; exact hm)
      have e1 : M.lst ([] ++ ps.map fun p => M.d (.str (prT p))) = L := by rw [hL, List.map_map]; rfl
      rw [e1] at h2
      rw [ssSeq_nx (ssSet_eq (i := 1) h2 (by rw [hE2]; show (1:Nat) < 4; decide)), hE2]
      show ssRet _ [some (.d (pickD ps)), some L, none, none] = _
      rw [← hE3]
      refine ssRet_eq (sV_eq (vcat (vcat (b := Txt.join (Str.ofString ", ") (ps.map prT)) rfl ?_ ?_) rfl ?_))
      · have gL : vN 1 E3 = .ok L := by rw [hE3]; rfl
        rw [← hL] at hj
        simp only [vSm, vC, vaCons, vaNil, gL, hj]
      · omega
      · rw [len_app]; omega
    refine ⟨_, runF_ret (m := .d (.str (pickT ps))) (e := E) ?_⟩
    show b_shown_term _ [some (.d (pickD ps)), none, none] = _
    unfold b_shown_term
    rw [inner_start, ← hE, if_skip (kn g (by decide)), if_skip (kn g (by decide))]
    exact if_take (or_ft (kn g (by decide)) (ky g rfl)) (ssRet_eq (sCall_n (bk := [none]) (by decide) (sa1_eq n0) hd))
  · obtain ⟨m, rfl⟩ : ∃ k, m = k + 1 := ⟨m - 1, by omega⟩
    obtain ⟨E, hE⟩ : ∃ E : FL.Env, E = tE (pickD ps) l "pick" := ⟨_, rfl⟩
    have g : getE E 2 = .ok (.d (S_ "pick")) := by rw [hE]; rfl
    have g0 : getE E 0 = .ok (.d (pickD ps)) := by rw [hE]; rfl
    refine ⟨_, runF_ret (m := .d (.str (pickT ps))) (e := E) ?_⟩
    show b__law_text _ [some (.d (pickD ps)), some (.d (.int (l : Int))), none, none, none, none] = _
    unfold b__law_text
    rw [tx_start (level_no (by decide)) hl', ← hE, if_skip (kn g (by decide)), if_skip (or_ff (kn g (by decide)) (kn g (by decide))), if_skip (kn g (by decide))]
    have hi : siQ (sV (vIx (vN 0) (vC (.int 1)))) E = .ok (ps.map prD, E) := by
      simp only [siQ, sV_eq (vix_1 g0), fz, itemsD]
    have hk : killAll [5] E = E := by rw [hE]; rfl
    have hm := lcl_map (own := [5]) (g := sgN 5) (c := sbYes) (f := sV (v2 oAdd (v2 oAdd (vB bStrA (vaCons (vIx (vN 5) (vC (.int 0))) (vaNil))) (vC (.str (Str.ofString ":")))) (vB bStrA (vaCons (vIx (vN 5) (vC (.int 1))) (vaNil))))) (env := E) prD (fun p => M.d (.str (prT p))) ps [] (fun p hp => by
      obtain ⟨F, hF⟩ : ∃ F : FL.Env, F = [some (.d (pickD ps)), some (.d (.int (l : Int))), some (.d (S_ "pick")), none, none, some (.d (prD p))] := ⟨_, rfl⟩
      have gF : getE F 5 = .ok (.d (prD p)) := by rw [hF]; rfl
      refine ⟨F, F, F, by rw [hE, hF]; rfl, rfl, ?_, by rw [hE, hF]; rfl⟩
      exact sV_eq (pr_v (h p hp).1 (h p hp).2 (vix_0 gF) (vix_1 gF)))
    have h2 := sLc_eq hi (by rw [sizeLine_eq, List.length_map]; omega) (by rw [hk]; exact hm)
    have e1 : M.lst ([] ++ ps.map fun p => M.d (.str (prT p))) = .lst ((ps.map prT).map fun w => .d (.str w)) := by rw [List.map_map]; rfl
    rw [e1] at h2
    refine if_take (ky g rfl) (ssRet_eq (scat (scat rfl (sSm_eq rfl (sa1_eq h2) hj) ?_) rfl ?_))
    · omega
    · rw [len_app]; omega
def opT (s : String) (lv : Nat) (wa : Str) (la : Nat) (wb : Str) (lb : Nat) : Str := brk la (max 1 lv) wa ++ Str.ofString " " ++ Str.ofString s ++ Str.ofString " " ++ brk lb (lv + 1) wb
theorem Sg.len {s : String} {lv : Nat} (h : Sg s lv) : (Str.ofString s).length = 1 ∧ lv ≤ 2 := by cases h <;> exact ⟨len_of _, by decide⟩
theorem op_len {s : String} {lv : Nat} {wa : Str} {la : Nat} {wb : Str} {lb : Nat} (h : Sg s lv) : (opT s lv wa la wb lb).length ≤ wa.length + wb.length + 7 := by
  have a1 : (Str.ofString " ").length = 1 := len_of _
  have h1 := h.len.1
  have b1 := brk_len la (max 1 lv) wa
  have b2 := brk_len lb (lv + 1) wb
  unfold opT
  simp only [len_app]
  omega
theorem op_cat {s : String} {lv : Nat} {wa : Str} {la : Nat} {wb : Str} {lb : Nat} (h : Sg s lv) (hwa : wa.length ≤ 50000) (hwb : wb.length ≤ 50000) {fa fs fb : SE} {E E1 E2 E3 : FL.Env}
    (h1 : fa E = .ok (.d (.str (brk la (max 1 lv) wa)), E1)) (h2 : fs E1 = .ok (.d (S_ s), E2)) (h3 : fb E2 = .ok (.d (.str (brk lb (lv + 1) wb)), E3)) :
    s2 oAdd (s2 oAdd (s2 oAdd (s2 oAdd fa (sV (vC (.str (Str.ofString " "))))) fs) (sV (vC (.str (Str.ofString " "))))) fb E = .ok (.d (.str (opT s lv wa la wb lb)), E3) := by
  have a1 : (Str.ofString " ").length = 1 := len_of _
  have q1 := h.len.1
  have b1 := brk_len la (max 1 lv) wa
  have b2 := brk_len lb (lv + 1) wb
  refine scat (scat (scat (scat h1 rfl ?_) h2 ?_) rfl ?_) h3 ?_
  all_goals ((try simp only [len_app]); omega)
theorem sop_start {s : String} {lv : Nat} (h : Sg s lv) (a b : D) (R : SS) :
    ssSeq (ssSet 3 (sTup (saCons (sV (vC (.str (Str.ofString "=")))) (saCons (sV (vC (.str (Str.ofString "<")))) (saNil)))))
  (ssSeq (ssSet 4 (sTup (saCons (sV (vC (.str (Str.ofString "=")))) (saCons (sV (vC (.str (Str.ofString "<")))) (saNil)))))
  (ssSeq (ssIf (sbOr (sbE (sV (v2 oEq (vN 0) (vC (.str (Str.ofString "+")))))) (sbE (sV (v2 oEq (vN 0) (vC (.str (Str.ofString "-"))))))) (ssSet 4 (sV (vC g_LOOSE))) (ssNil))
  (ssSeq (ssIf (sbE (sV (v2 oEq (vN 0) (vC (.str (Str.ofString "*")))))) (ssSeq (ssSet 3 (sV (vC g_LOOSE)))
  (ssSet 4 (s2m mAdd (sV (vC g_LOOSE)) (sTup (saCons (sV (vC (.str (Str.ofString "*")))) (saNil)))))) (ssNil)) R))) [some (.d (S_ s)), some (.d a), some (.d b), none, none] =
    R [some (.d (S_ s)), some (.d a), some (.d b), some (.d (sgs (max 1 lv))), some (.d (sgs (lv + 1)))] := by
  rw [ssSeq_nx (e := [some (.d (S_ s)), some (.d a), some (.d b), some (.d (sgs 1)), none]) (by simp [ssSet, sTup, saCons, saNil, sV, vC, sizeLine_eq, mTup, isD, unD, sgs])]
  rw [ssSeq_nx (e := [some (.d (S_ s)), some (.d a), some (.d b), some (.d (sgs 1)), some (.d (sgs 1))]) (by simp [ssSet, sTup, saCons, saNil, sV, vC, sizeLine_eq, mTup, isD, unD, sgs])]
  have g0 : ∀ z3 z4, getE [some (.d (S_ s)), some (.d a), some (.d b), z3, z4] 0 = .ok (.d (S_ s)) := fun _ _ => rfl
  cases h with
  | eq => rw [if_skip (or_ff (kn (g0 _ _) (by decide)) (kn (g0 _ _) (by decide))), if_skip (kn (g0 _ _) (by decide))]; rfl
  | lt => rw [if_skip (or_ff (kn (g0 _ _) (by decide)) (kn (g0 _ _) (by decide))), if_skip (kn (g0 _ _) (by decide))]; rfl
  | pl => rw [ssSeq_nx (e := [some (.d (S_ "+")), some (.d a), some (.d b), some (.d (sgs 1)), some (.d (sgs 2))]) ((ssIf_t (or_t (ky (g0 _ _) rfl))).trans rfl), if_skip (kn (g0 _ _) (by decide))]; rfl
  | mi => rw [ssSeq_nx (e := [some (.d (S_ "-")), some (.d a), some (.d b), some (.d (sgs 1)), some (.d (sgs 2))]) ((ssIf_t (or_ft (kn (g0 _ _) (by decide)) (ky (g0 _ _) rfl))).trans rfl), if_skip (kn (g0 _ _) (by decide))]; rfl
  | ti =>
    rw [if_skip (or_ff (kn (g0 _ _) (by decide)) (kn (g0 _ _) (by decide)))]
    rw [ssSeq_nx (e := [some (.d (S_ "*")), some (.d a), some (.d b), some (.d (sgs 2)), some (.d (sgs 3))]) ?_]
    · rfl
    rw [ssIf_t (ky (g0 _ _) rfl)]
    simp [ssSeq, ssSet, sTup, saCons, saNil, sV, vC, sizeLine_eq, mTup, isD, unD, sgs, s2m, mAdd, mOr, oAdd, dOr, dI, dS, mCatL, lstItems, mCatT, g_LOOSE]
theorem tx_op {n : Nat} {s : String} {lv : Nat} {a b : D} {zf : D → Nat} {wf : D → Str} {lf : D → Nat} (h : Sg s lv) (ha : TX n a (zf a) (wf a) (lf a)) (hb : TX n b (zf b) (wf b) (lf b)) :
    TX (n + 1) (opD s a b) (6 + ([a, b].map fun y => 2 + zf y).sum) (opT s lv (wf a) (lf a) (wf b) (lf b)) lv := by
  have hsum : ([a, b].map fun y => 2 + zf y).sum = 4 + zf a + zf b := by simp; omega
  have ol := op_len (wa := wf a) (la := lf a) (wb := wf b) (lb := lf b) h
  have wla := ha.wl
  have wlb := hb.wl
  have hlv := h.len.2
  refine ⟨by omega, by omega, fun m hm => ?_, fun hz m hm => ?_, fun hz m hm l hl' => ?_, level_op h a b, .inr ⟨s, a, b, rfl, h⟩⟩
  · obtain ⟨m, rfl⟩ : ∃ k, m = k + 1 := ⟨m - 1, by omega⟩
    refine size_last (xs := [a, b]) ⟨by decide, by decide, by decide, by decide⟩ (inner_op s a b) (by simp) fun y hy => ?_
    simp only [List.mem_cons, List.not_mem_nil, or_false] at hy
    rcases hy with rfl | rfl
    · exact ha.sz m (by omega)
    · exact hb.sz m (by omega)
  · obtain ⟨m, rfl⟩ : ∃ k, m = k + 1 := ⟨m - 1, by omega⟩
    obtain ⟨ea, qa⟩ := ha.brac (by omega) m (by omega) (max 1 lv) (by omega)
    obtain ⟨eb, qb⟩ := hb.brac (by omega) m (by omega) (lv + 1) (by omega)
    obtain ⟨E, hE⟩ : ∃ E : FL.Env, E = [some (.d (opD s a b)), some (.d (S_ "op")), none] := ⟨_, rfl⟩
    have g : getE E 1 = .ok (.d (S_ "op")) := by rw [hE]; rfl
    have g0 : getE E 0 = .ok (.d (opD s a b)) := by rw [hE]; rfl
    obtain ⟨F, hF⟩ : ∃ F : FL.Env, F = [some (.d (S_ s)), some (.d a), some (.d b), some (.d (sgs (max 1 lv))), some (.d (sgs (lv + 1)))] := ⟨_, rfl⟩
    have hop : F_shown_op (F_shown_term m) [.d (S_ s), .d a, .d b] = .ok (.d (.str (opT s lv (wf a) (lf a) (wf b) (lf b))), (killAll [] F).take 3) := by
      refine runF_ret ?_
      show b_shown_op _ [some (.d (S_ s)), some (.d a), some (.d b), none, none] = _
      unfold b_shown_op
      rw [sop_start h, ← hF]
      have n0 : sN 0 F = .ok (.d (S_ s), F) := by rw [hF]; rfl
      have n1 : sN 1 F = .ok (.d a, F) := by rw [hF]; rfl
      have n2 : sN 2 F = .ok (.d b, F) := by rw [hF]; rfl
      have n3 : sN 3 F = .ok (.d (sgs (max 1 lv)), F) := by rw [hF]; rfl
      have n4 : sN 4 F = .ok (.d (sgs (lv + 1)), F) := by rw [hF]; rfl
      exact ssRet_eq (op_cat h (by omega) (by omega) (sCall_n (bk := [none, none]) (by decide) (sa2_eq n1 n3) qa) n0 (sCall_n (bk := [none, none]) (by decide) (sa2_eq n2 n4) qb))
    refine ⟨_, runF_ret (m := .d (.str (opT s lv (wf a) (lf a) (wf b) (lf b)))) (e := E) ?_⟩
    show b_shown_term _ [some (.d (opD s a b)), none, none] = _
    unfold b_shown_term
    rw [inner_start, ← hE, if_skip (kn g (by decide)), if_skip (kn g (by decide)), if_skip (or_ff (kn g (by decide)) (kn g (by decide)))]
    exact if_take (ky g rfl) (ssRet_eq (sCall_n (bk := [none, none, none]) (by decide) (sa3_eq (sV_eq (vix_1 g0)) (sV_eq (vix_2 g0)) (sV_eq (vix_3 g0))) hop))
  · obtain ⟨m, rfl⟩ : ∃ k, m = k + 1 := ⟨m - 1, by omega⟩
    obtain ⟨ea, qa⟩ := ha.text (by omega) m (by omega) (max 1 lv)
    obtain ⟨eb, qb⟩ := hb.text (by omega) m (by omega) (lv + 1)
    obtain ⟨el, ql⟩ := level_op h a b
    obtain ⟨E, hE⟩ : ∃ E : FL.Env, E = tE (opD s a b) l "op" := ⟨_, rfl⟩
    have g : getE E 2 = .ok (.d (S_ "op")) := by rw [hE]; rfl
    have n0 : sN 0 E = .ok (.d (opD s a b), E) := by rw [hE]; rfl
    obtain ⟨F0, hF0⟩ : ∃ F : FL.Env, F = [some (.d (opD s a b)), none] := ⟨_, rfl⟩
    obtain ⟨F, hF⟩ : ∃ F : FL.Env, F = [some (.d (opD s a b)), some (.d (.int (lv : Int)))] := ⟨_, rfl⟩
    have hop : F__law_op (F__law_text m) [.d (opD s a b)] = .ok (.d (.str (opT s lv (wf a) (lf a) (wf b) (lf b))), (killAll [] F).take 1) := by
      refine runF_ret ?_
      show b__law_op _ [some (.d (opD s a b)), none] = _
      unfold b__law_op
      have m0 : sN 0 F0 = .ok (.d (opD s a b), F0) := by rw [hF0]; rfl
      rw [← hF0, ssSeq_nx (ssSet_eq (i := 1) (sCall_n (bk := [none]) (by decide) (sa1_eq m0) ql) (by rw [hF0]; show (1:Nat) < 2; decide)), hF0]
      show ssRet _ [some (.d (opD s a b)), some (.d (.int (lv : Int)))] = _
      rw [← hF]
      have g0 : getE F 0 = .ok (.d (opD s a b)) := by rw [hF]; rfl
      have g1 : getE F 1 = .ok (.d (.int (lv : Int))) := by rw [hF]; rfl
      have v1 : vB bMax2 (vaCons (vC (.int 1)) (vaCons (vN 1) vaNil)) F = .ok (.d (.int ((max 1 lv : Nat) : Int))) := by
        simp only [vB, vaCons, vaNil, vC, vN, g1, bMax2, b2I]
        congr 3
        by_cases q : lv ≤ 1
        · rw [if_neg (by omega)]; omega
        · rw [if_pos (by omega)]; omega
      have v2' : v2 oAdd (vN 1) (vC (.int 1)) F = .ok (.d (.int ((lv + 1 : Nat) : Int))) := by
        simp only [v2, vC, vN, g1, oAdd_int]
        congr 3
      exact ssRet_eq (op_cat h (by omega) (by omega) (sCall_n (bk := [none, none]) (by decide) (sa2_eq (sV_eq (vix_2 g0)) (sV_eq v1)) qa) (sV_eq (vix_1 g0)) (sCall_n (bk := [none, none]) (by decide) (sa2_eq (sV_eq (vix_3 g0)) (sV_eq v2')) qb))
    refine ⟨_, runF_ret (m := .d (.str (opT s lv (wf a) (lf a) (wf b) (lf b)))) (e := E) ?_⟩
    show b__law_text _ [some (.d (opD s a b)), some (.d (.int (l : Int))), none, none, none, none] = _
    unfold b__law_text
    rw [tx_start ⟨el, ql⟩ hl', ← hE]
    exact if_take (ky g rfl) (ssRet_eq (sCall_n (bk := [none]) (by decide) (sa1_eq n0) hop))
def fieldT (wa : Str) (la : Nat) (w : Str) : Str := brk la 3 wa ++ Str.ofString "." ++ w
theorem tx_field {n : Nat} {a : D} {w : Str} {zf : D → Nat} {wf : D → Str} {lf : D → Nat} (hw : w.length ≤ 9) (ha : TX n a (zf a) (wf a) (lf a)) :
    TX (n + 1) (fieldD a w) (6 + ([a].map fun y => 2 + zf y).sum) (fieldT (wf a) (lf a) w) 3 := by
  have hsum : ([a].map fun y => 2 + zf y).sum = 2 + zf a := by simp
  have a1 : (Str.ofString ".").length = 1 := len_of _
  have b1 := brk_len (lf a) 3 (wf a)
  have wla := ha.wl
  have hlen : (fieldT (wf a) (lf a) w).length ≤ (wf a).length + 12 := by
    unfold fieldT
    simp only [len_app]
    omega
  refine ⟨by omega, by omega, fun m hm => ?_, fun hz m hm => ?_, fun hz m hm l hl' => ?_, level_no (by decide), .inl ⟨_, _, rfl, by decide, rfl⟩⟩
  · obtain ⟨m, rfl⟩ : ∃ k, m = k + 1 := ⟨m - 1, by omega⟩
    refine size_last (xs := [a]) ⟨by decide, by decide, by decide, by decide⟩ (inner_1 (.inr rfl) a _) (by simp) fun y hy => ?_
    simp only [List.mem_cons, List.not_mem_nil, or_false] at hy
    subst hy
    exact ha.sz m (by omega)
  · obtain ⟨m, rfl⟩ : ∃ k, m = k + 1 := ⟨m - 1, by omega⟩
    obtain ⟨ea, qa⟩ := ha.brac (by omega) m (by omega) 3 (by omega)
    obtain ⟨E, hE⟩ : ∃ E : FL.Env, E = [some (.d (fieldD a w)), some (.d (S_ "field")), none] := ⟨_, rfl⟩
    have g : getE E 1 = .ok (.d (S_ "field")) := by rw [hE]; rfl
    have g0 : getE E 0 = .ok (.d (fieldD a w)) := by rw [hE]; rfl
    refine ⟨_, runF_ret (m := .d (.str (fieldT (wf a) (lf a) w))) (e := E) ?_⟩
    show b_shown_term _ [some (.d (fieldD a w)), none, none] = _
    unfold b_shown_term
    rw [inner_start, ← hE, if_skip (kn g (by decide)), if_skip (kn g (by decide)), if_skip (or_ff (kn g (by decide)) (kn g (by decide))), if_skip (kn g (by decide)), if_skip (kn g (by decide)), if_skip (kn g (by decide)), if_skip (kn g (by decide))]
    have hadd : s2m mAdd (sV (vC g_LOOSE)) (sTup (saCons (sV (vC (.str (Str.ofString "*")))) (saNil))) E = .ok (.d (sgs 3), E) := by
      simp [sTup, saCons, saNil, sV, vC, sizeLine_eq, mTup, isD, unD, sgs, s2m, mAdd, mOr, oAdd, dOr, dI, dS, mCatL, lstItems, mCatT, g_LOOSE]
    refine if_take (ky g rfl) (ssRet_eq (scat (scat (sCall_n (bk := [none, none]) (by decide) (sa2_eq (sV_eq (vix_1 g0)) hadd) qa) rfl ?_) (sV_eq (vix_2 g0)) ?_))
    all_goals ((try simp only [len_app]); omega)
  · obtain ⟨m, rfl⟩ : ∃ k, m = k + 1 := ⟨m - 1, by omega⟩
    obtain ⟨ea, qa⟩ := ha.text (by omega) m (by omega) 3
    obtain ⟨E, hE⟩ : ∃ E : FL.Env, E = tE (fieldD a w) l "field" := ⟨_, rfl⟩
    have g : getE E 2 = .ok (.d (S_ "field")) := by rw [hE]; rfl
    have g0 : getE E 0 = .ok (.d (fieldD a w)) := by rw [hE]; rfl
    refine ⟨_, runF_ret (m := .d (.str (fieldT (wf a) (lf a) w))) (e := E) ?_⟩
    show b__law_text _ [some (.d (fieldD a w)), some (.d (.int (l : Int))), none, none, none, none] = _
    unfold b__law_text
    rw [tx_start (level_no (by decide)) hl', ← hE, if_skip (kn g (by decide)), if_skip (or_ff (kn g (by decide)) (kn g (by decide))), if_skip (kn g (by decide)), if_skip (kn g (by decide))]
    refine if_take (ky g rfl) (ssRet_eq (scat (scat (sCall_n (bk := [none, none]) (by decide) (sa2_eq (sV_eq (vix_1 g0)) rfl) qa) rfl ?_) (sV_eq (vix_2 g0)) ?_))
    all_goals ((try simp only [len_app]); omega)
def restT (wa : Str) (i : Int) : Str := Str.ofString "rest(" ++ wa ++ Str.ofString ", " ++ toString i ++ Str.ofString ")"
theorem tx_rest {n : Nat} {a : D} {i : Int} {zf : D → Nat} {wf : D → Str} {lf : D → Nat} (hi : sm i) (ha : TX n a (zf a) (wf a) (lf a)) :
    TX (n + 1) (restD a i) (6 + ([a].map fun y => 2 + zf y).sum) (restT (wf a) i) 3 := by
  have hsum : ([a].map fun y => 2 + zf y).sum = 2 + zf a := by simp
  have a1 : (Str.ofString "rest(").length = 5 := len_of _
  have a2 : (Str.ofString ", ").length = 2 := len_of _
  have a3 : (Str.ofString ")").length = 1 := len_of _
  have l1' := lI hi
  have wla := ha.wl
  have hlen : (restT (wf a) i).length ≤ (wf a).length + 22 := by
    unfold restT
    simp only [len_app]
    omega
  refine ⟨by omega, by omega, fun m hm => ?_, fun hz m hm => ?_, fun hz m hm l hl' => ?_, level_no (by decide), .inl ⟨_, _, rfl, by decide, rfl⟩⟩
  · obtain ⟨m, rfl⟩ : ∃ k, m = k + 1 := ⟨m - 1, by omega⟩
    refine size_last (xs := [a]) ⟨by decide, by decide, by decide, by decide⟩ (inner_1 (.inl rfl) a _) (by simp) fun y hy => ?_
    simp only [List.mem_cons, List.not_mem_nil, or_false] at hy
    subst hy
    exact ha.sz m (by omega)
  · obtain ⟨m, rfl⟩ : ∃ k, m = k + 1 := ⟨m - 1, by omega⟩
    obtain ⟨ea, qa⟩ := ha.sh (by omega) m (by omega)
    obtain ⟨E, hE⟩ : ∃ E : FL.Env, E = [some (.d (restD a i)), some (.d (S_ "rest")), none] := ⟨_, rfl⟩
    have g : getE E 1 = .ok (.d (S_ "rest")) := by rw [hE]; rfl
    have g0 : getE E 0 = .ok (.d (restD a i)) := by rw [hE]; rfl
    refine ⟨_, runF_ret (m := .d (.str (restT (wf a) i))) (e := E) ?_⟩
    show b_shown_term _ [some (.d (restD a i)), none, none] = _
    unfold b_shown_term
    rw [inner_start, ← hE, if_skip (kn g (by decide)), if_skip (kn g (by decide)), if_skip (or_ff (kn g (by decide)) (kn g (by decide))), if_skip (kn g (by decide)), if_skip (kn g (by decide))]
    refine if_take (ky g rfl) (ssRet_eq (scat (scat (scat (scat rfl (sCall_n (bk := [none]) (by decide) (sa1_eq (sV_eq (vix_1 g0))) qa) ?_) rfl ?_) (sV_eq (vstr_int (vix_2 g0) hi)) ?_) rfl ?_))
    all_goals ((try simp only [len_app]); omega)
  · obtain ⟨m, rfl⟩ : ∃ k, m = k + 1 := ⟨m - 1, by omega⟩
    obtain ⟨ea, qa⟩ := ha.tx (by omega) m (by omega) 0 (by omega)
    obtain ⟨E, hE⟩ : ∃ E : FL.Env, E = tE (restD a i) l "rest" := ⟨_, rfl⟩
    have g : getE E 2 = .ok (.d (S_ "rest")) := by rw [hE]; rfl
    have g0 : getE E 0 = .ok (.d (restD a i)) := by rw [hE]; rfl
    refine ⟨_, runF_ret (m := .d (.str (restT (wf a) i))) (e := E) ?_⟩
    show b__law_text _ [some (.d (restD a i)), some (.d (.int (l : Int))), none, none, none, none] = _
    unfold b__law_text
    rw [tx_start (level_no (by decide)) hl', ← hE, if_skip (kn g (by decide)), if_skip (or_ff (kn g (by decide)) (kn g (by decide))), if_skip (kn g (by decide)), if_skip (kn g (by decide)), if_skip (kn g (by decide))]
    refine if_take (ky g rfl) (ssRet_eq (scat (scat (scat (scat rfl (sCall_n (bk := [none, none]) (by decide) (sa2_eq (sV_eq (vix_1 g0)) rfl) qa) ?_) rfl ?_) (sV_eq (vstr_int (vix_2 g0) hi)) ?_) rfl ?_))
    all_goals ((try simp only [len_app]); omega)
/-! ### rows of parts -/
theorem kids_sh {x : D} {k : String} {xs : List D} {wf : D → Str} {rF : FS} {fi : SI} (hi : fi [some (.d x), some (.d (S_ k)), none] = .ok (xs, [some (.d x), some (.d (S_ k)), none])) (hl : xs.length ≤ 100) (h : ∀ y ∈ xs, ∃ e, rF [.d y] = .ok (.d (.str (wf y)), e)) :
    sLc [2] fi (sgN 2) sbYes (sCall rF [none] (saCons (sN 2) (saNil))) [some (.d x), some (.d (S_ k)), none] = .ok (.lst ((xs.map wf).map fun w => .d (.str w)), [some (.d x), some (.d (S_ k)), none]) := by
  obtain ⟨E, hE⟩ : ∃ E : FL.Env, E = [some (.d x), some (.d (S_ k)), none] := ⟨_, rfl⟩
  rw [← hE] at hi ⊢
  have hk : killAll [2] E = E := by rw [hE]; rfl
  have hm := lcl_map (own := [2]) (g := sgN 2) (c := sbYes) (f := sCall rF [none] (saCons (sN 2) (saNil))) (env := E) (fun y : D => y) (fun y => M.d (.str (wf y))) xs [] (fun y hy => by
    obtain ⟨e, h1⟩ := h y hy
    obtain ⟨E1, hE1⟩ : ∃ E1 : FL.Env, E1 = [some (.d x), some (.d (S_ k)), some (.d y)] := ⟨_, rfl⟩
    have n1 : sN 2 E1 = .ok (.d y, E1) := by rw [hE1]; rfl
    exact ⟨E1, E1, E1, by rw [hE, hE1]; rfl, rfl, sCall_n (bk := [none]) (by decide) (sa1_eq n1) h1, by rw [hE, hE1]; rfl⟩)
  rw [List.map_id'] at hm
  have h2 := sLc_eq hi (by rw [sizeLine_eq]; omega) (by rw [hk]; exact hm)
  rw [h2, List.map_map]
  rfl
theorem kids_tx {x : D} {l : Nat} {k : String} {xs : List D} {wf : D → Str} {rF : FS} (hin : ∃ e, F__law_inner [.d x] = .ok (.lst (xs.map .d), e)) (hl : xs.length ≤ 100) (h : ∀ y ∈ xs, ∃ e, rF [.d y, .d (.int 0)] = .ok (.d (.str (wf y)), e)) :
    sLc [4] (siQ (sCall F__law_inner [none] (saCons (sN 0) (saNil)))) (sgN 4) sbYes (sCall rF [none, none] (saCons (sN 4) (saCons (sV (vC (.int 0))) (saNil)))) (tE x l k) = .ok (.lst ((xs.map wf).map fun w => .d (.str w)), tE x l k) := by
  obtain ⟨E, hE⟩ : ∃ E : FL.Env, E = tE x l k := ⟨_, rfl⟩
  obtain ⟨e, hin⟩ := hin
  rw [← hE]
  have n0 : sN 0 E = .ok (.d x, E) := by rw [hE]; rfl
  have hi : siQ (sCall F__law_inner [none] (saCons (sN 0) (saNil))) E = .ok (xs, E) := by
    simp only [siQ, sCall_n (bk := [none]) (by decide) (sa1_eq n0) hin, fz, fzs_d, itemsD]
  have hk : killAll [4] E = E := by rw [hE]; rfl
  have hm := lcl_map (own := [4]) (g := sgN 4) (c := sbYes) (f := sCall rF [none, none] (saCons (sN 4) (saCons (sV (vC (.int 0))) (saNil)))) (env := E) (fun y : D => y) (fun y => M.d (.str (wf y))) xs [] (fun y hy => by
    obtain ⟨e, h1⟩ := h y hy
    obtain ⟨E1, hE1⟩ : ∃ E1 : FL.Env, E1 = [some (.d x), some (.d (.int (l : Int))), some (.d (S_ k)), none, some (.d y), none] := ⟨_, rfl⟩
    have n1 : sN 4 E1 = .ok (.d y, E1) := by rw [hE1]; rfl
    exact ⟨E1, E1, E1, by rw [hE, hE1]; rfl, rfl, sCall_n (bk := [none, none]) (by decide) (sa2_eq n1 rfl) h1, by rw [hE, hE1]; rfl⟩)
  rw [List.map_id'] at hm
  have h2 := sLc_eq hi (by rw [sizeLine_eq]; omega) (by rw [hk]; exact hm)
  rw [h2, List.map_map]
  rfl
theorem kids_len {n : Nat} {xs : List D} {zf : D → Nat} {wf : D → Str} {lf : D → Nat} (h : ∀ y ∈ xs, TX n y (zf y) (wf y) (lf y)) : ((xs.map wf).map (·.length)).sum + 2 * xs.length ≤ 40 * (xs.map fun y => 2 + zf y).sum := by
  induction xs with
  | nil => simp
  | cons y ys ih =>
    have h1 := (h y (by simp)).wl
    have h2 := ih fun z hz => h z (by simp [hz])
    simp only [List.map_cons, List.sum_cons, List.length_cons]
    omega
theorem kids_z {xs : List D} {zf : D → Nat} : ∀ {y : D}, y ∈ xs → zf y ≤ (xs.map fun y => 2 + zf y).sum := by
  induction xs with
  | nil => intro y h; cases h
  | cons x xs ih =>
    intro y h
    simp only [List.map_cons, List.sum_cons]
    rcases List.mem_cons.mp h with rfl | h
    · omega
    · have := ih h; omega
def parT (hd : Str) (ws : List Str) : Str := hd ++ Txt.join (Str.ofString ", ") ws ++ Str.ofString ")"
theorem par_len {n : Nat} {hd : Str} {xs : List D} {zf : D → Nat} {wf : D → Str} {lf : D → Nat} (h : ∀ y ∈ xs, TX n y (zf y) (wf y) (lf y)) (hh : hd.length ≤ 20) :
    ((xs.map wf).map (·.length)).sum + (xs.map wf).length * (Str.ofString ", ").length ≤ 40 * (xs.map fun y => 2 + zf y).sum ∧ (Txt.join (Str.ofString ", ") (xs.map wf)).length ≤ 40 * (xs.map fun y => 2 + zf y).sum ∧ (parT hd (xs.map wf)).length ≤ 40 * (6 + (xs.map fun y => 2 + zf y).sum) := by
  have h1 := kids_len h
  have a1 : (Str.ofString ", ").length = 2 := len_of _
  have a3 : (Str.ofString ")").length = 1 := len_of _
  have h2 := join_len (Str.ofString ", ") (xs.map wf)
  rw [List.length_map, a1] at h2
  refine ⟨by rw [List.length_map, a1]; omega, by omega, ?_⟩
  unfold parT
  simp only [len_app]
  omega
theorem tx_if {n : Nat} {a b c : D} {zf : D → Nat} {wf : D → Str} {lf : D → Nat} (h : ∀ y ∈ [a, b, c], TX n y (zf y) (wf y) (lf y)) :
    TX (n + 1) (iffD a b c) (6 + ([a, b, c].map fun y => 2 + zf y).sum) (parT (Str.ofString "if(") ([a, b, c].map wf)) 3 := by
  have a2 : (Str.ofString "if(").length = 3 := len_of _
  have a3 : (Str.ofString ")").length = 1 := len_of _
  obtain ⟨p1, p2, p3⟩ := par_len (hd := Str.ofString "if(") h (by omega)
  obtain ⟨xs, hxs⟩ : ∃ xs, xs = [a, b, c] := ⟨_, rfl⟩
  have hin := inner_if a b c
  have hxl : xs.length ≤ 100 := by rw [hxs]; simp
  rw [← hxs] at h p1 p2 p3 hin ⊢
  have hz1 := fun (y : D) (hy : y ∈ xs) => kids_z (zf := zf) hy
  refine ⟨by omega, p3, fun m hm => ?_, fun hz m hm => ?_, fun hz m hm l hl' => ?_, level_no (by decide), .inl ⟨_, _, rfl, by decide, rfl⟩⟩
  · obtain ⟨m, rfl⟩ : ∃ k, m = k + 1 := ⟨m - 1, by omega⟩
    exact size_last ⟨by decide, by decide, by decide, by decide⟩ hin hxl fun y hy => (h y hy).sz m (by omega)
  · obtain ⟨m, rfl⟩ : ∃ k, m = k + 1 := ⟨m - 1, by omega⟩
    have hi : siQ (sSl (vN 0) (voI (vC (.int 1))) (voNo)) [some (.d (iffD a b c)), some (.d (S_ "if")), none] = .ok (xs, [some (.d (iffD a b c)), some (.d (S_ "if")), none]) := by
      rw [hxs]; rfl
    have hk := kids_sh (wf := wf) hi hxl fun y hy => (h y hy).sh (by have := hz1 y hy; omega) m (by omega)
    obtain ⟨E, hE⟩ : ∃ E : FL.Env, E = [some (.d (iffD a b c)), some (.d (S_ "if")), none] := ⟨_, rfl⟩
    rw [← hE] at hk
    have g : getE E 1 = .ok (.d (S_ "if")) := by rw [hE]; rfl
    refine ⟨_, runF_ret (m := .d (.str (parT (Str.ofString "if(") (xs.map wf)))) (e := E) ?_⟩
    show b_shown_term _ [some (.d (iffD a b c)), none, none] = _
    unfold b_shown_term
    rw [inner_start, ← hE, if_skip (kn g (by decide)), if_skip (kn g (by decide)), if_skip (or_ff (kn g (by decide)) (kn g (by decide))), if_skip (kn g (by decide))]
    refine if_take (ky g rfl) (ssRet_eq (scat (scat rfl (sSm_eq rfl (sa1_eq hk) (join_eq (by omega))) ?_) rfl ?_))
    all_goals ((try simp only [len_app]); omega)
  · obtain ⟨m, rfl⟩ : ∃ k, m = k + 1 := ⟨m - 1, by omega⟩
    have hk := kids_tx (x := iffD a b c) (l := l) (k := "if") (wf := wf) hin hxl fun y hy => (h y hy).tx (by have := hz1 y hy; omega) m (by omega) 0 (by omega)
    obtain ⟨E, hE⟩ : ∃ E : FL.Env, E = tE (iffD a b c) l "if" := ⟨_, rfl⟩
    have g : getE E 2 = .ok (.d (S_ "if")) := by rw [hE]; rfl
    obtain ⟨J, hJ⟩ : ∃ J, J = Txt.join (Str.ofString ", ") (xs.map wf) := ⟨_, rfl⟩
    obtain ⟨F, hF⟩ : ∃ F : FL.Env, F = [some (.d (iffD a b c)), some (.d (.int (l : Int))), some (.d (S_ "if")), some (.d (.str J)), none, none] := ⟨_, rfl⟩
    have gF : getE F 2 = .ok (.d (S_ "if")) := by rw [hF]; rfl
    have g3 : vN 3 F = .ok (.d (.str J)) := by rw [hF]; rfl
    refine ⟨_, runF_ret (m := .d (.str (parT (Str.ofString "if(") (xs.map wf)))) (e := F) ?_⟩
    show b__law_text _ [some (.d (iffD a b c)), some (.d (.int (l : Int))), none, none, none, none] = _
    unfold b__law_text
    rw [tx_start (level_no (by decide)) hl', ← hE, if_skip (kn g (by decide)), if_skip (or_ff (kn g (by decide)) (kn g (by decide))), if_skip (kn g (by decide)), if_skip (kn g (by decide)), if_skip (kn g (by decide)), if_skip (kn g (by decide)), if_skip (kn g (by decide))]
    have hj := sSm_eq (op := bJoin) (a := Str.ofString ", ") (f := sV (vC (.str (Str.ofString ", ")))) rfl (sa1_eq hk) (join_eq (by omega))
    rw [← hE, ← hJ] at hj
    rw [ssSeq_nx (e := F) (by rw [ssSet_eq (i := 3) hj (by rw [hE]; show (3:Nat) < 6; decide), hE, hF]; rfl)]
    rw [← hJ] at p2
    unfold parT
    rw [← hJ]
    refine if_take (ky gF rfl) (ssRet_eq (sV_eq (vcat (vcat rfl g3 ?_) rfl ?_)))
    all_goals ((try simp only [len_app]); omega)
theorem tx_call {n : Nat} {w : Str} {xs : List D} {zf : D → Nat} {wf : D → Str} {lf : D → Nat} (hxl : xs.length ≤ 6) (hw : w.length ≤ 9) (h : ∀ y ∈ xs, TX n y (zf y) (wf y) (lf y)) :
    TX (n + 1) (callD w xs) (6 + (xs.map fun y => 2 + zf y).sum) (parT (w ++ Str.ofString "(") (xs.map wf)) 3 := by
  have a2 : (Str.ofString "(").length = 1 := len_of _
  have a3 : (Str.ofString ")").length = 1 := len_of _
  obtain ⟨p1, p2, p3⟩ := par_len (hd := w ++ Str.ofString "(") h (by rw [len_app]; omega)
  have hin := inner_call w xs
  have hz1 := fun (y : D) (hy : y ∈ xs) => kids_z (zf := zf) hy
  refine ⟨by omega, p3, fun m hm => ?_, fun hz m hm => ?_, fun hz m hm l hl' => ?_, level_no (by decide), .inl ⟨_, _, rfl, by decide, rfl⟩⟩
  · obtain ⟨m, rfl⟩ : ∃ k, m = k + 1 := ⟨m - 1, by omega⟩
    exact size_last ⟨by decide, by decide, by decide, by decide⟩ hin (by omega) fun y hy => (h y hy).sz m (by omega)
  · obtain ⟨m, rfl⟩ : ∃ k, m = k + 1 := ⟨m - 1, by omega⟩
    have hi : siQ (sV (vIx (vN 0) (vC (.int 2)))) [some (.d (callD w xs)), some (.d (S_ "call")), none] = .ok (xs, [some (.d (callD w xs)), some (.d (S_ "call")), none]) := by
      simp only [siQ, sV_eq (vix_2 (i := 0) (env := [some (.d (callD w xs)), some (.d (S_ "call")), none]) rfl), fz, itemsD]
    have hk := kids_sh (wf := wf) hi (by omega) fun y hy => (h y hy).sh (by have := hz1 y hy; omega) m (by omega)
    obtain ⟨E, hE⟩ : ∃ E : FL.Env, E = [some (.d (callD w xs)), some (.d (S_ "call")), none] := ⟨_, rfl⟩
    rw [← hE] at hk
    have g : getE E 1 = .ok (.d (S_ "call")) := by rw [hE]; rfl
    have g0 : getE E 0 = .ok (.d (callD w xs)) := by rw [hE]; rfl
    refine ⟨_, runF_ret (m := .d (.str (parT (w ++ Str.ofString "(") (xs.map wf)))) (e := E) ?_⟩
    show b_shown_term _ [some (.d (callD w xs)), none, none] = _
    unfold b_shown_term
    rw [inner_start, ← hE, if_skip (kn g (by decide)), if_skip (kn g (by decide)), if_skip (or_ff (kn g (by decide)) (kn g (by decide))), if_skip (kn g (by decide)), if_skip (kn g (by decide)), if_skip (kn g (by decide)), if_skip (kn g (by decide)), if_skip (kn g (by decide))]
    refine ssRet_eq (scat (scat (sV_eq (vcat (vix_1 g0) rfl ?_)) (sSm_eq rfl (sa1_eq hk) (join_eq (by omega))) ?_) rfl ?_)
    all_goals ((try simp only [len_app]); omega)
  · obtain ⟨m, rfl⟩ : ∃ k, m = k + 1 := ⟨m - 1, by omega⟩
    have hk := kids_tx (x := callD w xs) (l := l) (k := "call") (wf := wf) hin (by omega) fun y hy => (h y hy).tx (by have := hz1 y hy; omega) m (by omega) 0 (by omega)
    obtain ⟨E, hE⟩ : ∃ E : FL.Env, E = tE (callD w xs) l "call" := ⟨_, rfl⟩
    have g : getE E 2 = .ok (.d (S_ "call")) := by rw [hE]; rfl
    obtain ⟨J, hJ⟩ : ∃ J, J = Txt.join (Str.ofString ", ") (xs.map wf) := ⟨_, rfl⟩
    obtain ⟨F, hF⟩ : ∃ F : FL.Env, F = [some (.d (callD w xs)), some (.d (.int (l : Int))), some (.d (S_ "call")), some (.d (.str J)), none, none] := ⟨_, rfl⟩
    have gF : getE F 2 = .ok (.d (S_ "call")) := by rw [hF]; rfl
    have gF0 : getE F 0 = .ok (.d (callD w xs)) := by rw [hF]; rfl
    have g3 : vN 3 F = .ok (.d (.str J)) := by rw [hF]; rfl
    refine ⟨_, runF_ret (m := .d (.str (parT (w ++ Str.ofString "(") (xs.map wf)))) (e := F) ?_⟩
    show b__law_text _ [some (.d (callD w xs)), some (.d (.int (l : Int))), none, none, none, none] = _
    unfold b__law_text
    rw [tx_start (level_no (by decide)) hl', ← hE, if_skip (kn g (by decide)), if_skip (or_ff (kn g (by decide)) (kn g (by decide))), if_skip (kn g (by decide)), if_skip (kn g (by decide)), if_skip (kn g (by decide)), if_skip (kn g (by decide)), if_skip (kn g (by decide))]
    have hj := sSm_eq (op := bJoin) (a := Str.ofString ", ") (f := sV (vC (.str (Str.ofString ", ")))) rfl (sa1_eq hk) (join_eq (by omega))
    rw [← hE, ← hJ] at hj
    rw [ssSeq_nx (e := F) (by rw [ssSet_eq (i := 3) hj (by rw [hE]; show (3:Nat) < 6; decide), hE, hF]; rfl)]
    rw [← hJ] at p2
    unfold parT
    rw [← hJ, if_skip (kn gF (by decide))]
    refine ssRet_eq (sV_eq (vcat (vcat (vcat (vix_1 gF0) rfl ?_) g3 ?_) rfl ?_))
    all_goals ((try simp only [len_app]); omega)
/-! ### records -/
def fdT (wf : D → Str) (p : Str × D) : Str := p.1 ++ Str.ofString ": " ++ wf p.2
def rcT (wf : D → Str) (fs : List (Str × D)) : Str := Str.ofString "{" ++ Txt.join (Str.ofString ", ") (fs.map (fdT wf)) ++ Str.ofString "}"
theorem rc_len {n : Nat} {fs : List (Str × D)} {zf : D → Nat} {wf : D → Str} {lf : D → Nat} (hw : ∀ p ∈ fs, p.1.length ≤ 9) (h : ∀ p ∈ fs, TX n p.2 (zf p.2) (wf p.2) (lf p.2)) :
    ((fs.map (fdT wf)).map (·.length)).sum + 2 * fs.length ≤ 40 * (fs.map fun p => 3 + zf p.2).sum ∧ ∀ p ∈ fs, zf p.2 ≤ (fs.map fun p => 3 + zf p.2).sum := by
  induction fs with
  | nil => exact ⟨by simp, fun p h => nomatch h⟩
  | cons q fs ih =>
    have h1 := (h q (by simp)).wl
    have h3 := hw q (by simp)
    obtain ⟨h2, h4⟩ := ih (fun p hp => hw p (by simp [hp])) fun p hp => h p (by simp [hp])
    have a1 : (Str.ofString ": ").length = 2 := len_of _
    have h5 : (fdT wf q).length = q.1.length + 2 + (wf q.2).length := by unfold fdT; simp only [len_app]; omega
    refine ⟨?_, fun p hp => ?_⟩
    · simp only [List.map_cons, List.sum_cons, List.length_cons]
      omega
    · simp only [List.map_cons, List.sum_cons]
      rcases List.mem_cons.mp hp with rfl | hp
      · omega
      · have := h4 p hp; omega
theorem tx_rec {n : Nat} {fs : List (Str × D)} {zf : D → Nat} {wf : D → Str} {lf : D → Nat} (hl : fs.length ≤ 6) (hw : ∀ p ∈ fs, p.1.length ≤ 9) (h : ∀ p ∈ fs, TX n p.2 (zf p.2) (wf p.2) (lf p.2)) :
    TX (n + 1) (recD fs) (2 + (fs.map fun p => 3 + zf p.2).sum) (rcT wf fs) 3 := by
  have a1 : (Str.ofString ", ").length = 2 := len_of _
  have a2 : (Str.ofString "{").length = 1 := len_of _
  have a3 : (Str.ofString "}").length = 1 := len_of _
  have a4 : (Str.ofString ": ").length = 2 := len_of _
  obtain ⟨p1, hz1⟩ := rc_len hw h
  have p2 := join_len (Str.ofString ", ") (fs.map (fdT wf))
  rw [List.length_map, a1] at p2
  have p3 : (rcT wf fs).length ≤ 40 * (2 + (fs.map fun p => 3 + zf p.2).sum) := by
    unfold rcT
    simp only [len_app]
    omega
  have hjn : ((fs.map (fdT wf)).map (·.length)).sum + (fs.map (fdT wf)).length * (Str.ofString ", ").length ≤ 40 * (fs.map fun p => 3 + zf p.2).sum := by rw [List.length_map, a1]; omega
  refine ⟨by omega, p3, fun m hm => ?_, fun hz m hm => ?_, fun hz m hm l hl' => ?_, level_no (by decide), .inl ⟨_, _, rfl, by decide, rfl⟩⟩
  · obtain ⟨m, rfl⟩ : ∃ k, m = k + 1 := ⟨m - 1, by omega⟩
    exact size_rec (by omega) fun p hp => (h p hp).sz m (by omega)
  · obtain ⟨m, rfl⟩ : ∃ k, m = k + 1 := ⟨m - 1, by omega⟩
    obtain ⟨F, hF⟩ : ∃ F : FL.Env, F = [some (.d (.tup (fs.map fdD))), none, none] := ⟨_, rfl⟩
    have hkF : killAll [1, 2] F = F := by rw [hF]; rfl
    have hm := lclw_map (own := [1, 2]) (ws := [0]) (env0 := F) (g := sgTup 2 (sgCons (sgN 1) (sgCons (sgN 2) (sgNil)))) (c := sbYes) (f := s2 oAdd (sV (v2 oAdd (vN 1) (vC (.str (Str.ofString ": "))))) (sCall (F_shown_term m) [none] (saCons (sN 2) (saNil)))) (env := F) fdD (fun p => M.d (.str (fdT wf p))) (fun _ _ => rfl) fs [] (fun p hp => by
      obtain ⟨e, h1⟩ := (h p hp).sh (by have := hz1 p hp; omega) m (by omega)
      have h5 := (h p hp).wl
      have h6 := hz1 p hp
      have h7 := hw p hp
      obtain ⟨E1, hE1⟩ : ∃ E1 : FL.Env, E1 = [some (.d (.tup (fs.map fdD))), some (.d (.str p.1)), some (.d p.2)] := ⟨_, rfl⟩
      have n2 : sN 2 E1 = .ok (.d p.2, E1) := by rw [hE1]; rfl
      refine ⟨E1, E1, E1, by rw [hF, hE1]; rfl, rfl, scat (sV_eq (vcat (by rw [hE1]; rfl) rfl ?_)) (sCall_n (bk := [none]) (by decide) (sa1_eq n2) h1) ?_, by rw [hF, hE1]; rfl⟩
      all_goals ((try simp only [len_app]); omega))
    have h2 := sLcW_eq (own := [1, 2]) (ws := [0]) (fi := iwN 0) (env := F) (xs := fs.map fdD) (by rw [hF]; rfl) (by rw [sizeLine_eq, List.length_map]; omega) (by decide) (by rw [hkF]; exact hm)
    have e1 : M.lst ([] ++ fs.map fun p => M.d (.str (fdT wf p))) = .lst ((fs.map (fdT wf)).map fun w => .d (.str w)) := by rw [List.map_map]; rfl
    rw [e1] at h2
    have hr : F_shown_record (F_shown_term m) [.d (.tup (fs.map fdD))] = .ok (.d (.str (rcT wf fs)), (killAll [] F).take 1) := by
      refine runF_ret ?_
      show b_shown_record _ [some (.d (.tup (fs.map fdD))), none, none] = _
      unfold b_shown_record
      rw [← hF]
      refine ssRet_eq (scat (scat rfl (sSm_eq rfl (sa1_eq h2) (join_eq (by omega))) ?_) rfl ?_)
      all_goals ((try simp only [len_app]); omega)
    obtain ⟨E, hE⟩ : ∃ E : FL.Env, E = [some (.d (recD fs)), some (.d (S_ "record")), none] := ⟨_, rfl⟩
    have g : getE E 1 = .ok (.d (S_ "record")) := by rw [hE]; rfl
    have g0 : getE E 0 = .ok (.d (recD fs)) := by rw [hE]; rfl
    refine ⟨_, runF_ret (m := .d (.str (rcT wf fs))) (e := E) ?_⟩
    show b_shown_term _ [some (.d (recD fs)), none, none] = _
    unfold b_shown_term
    rw [inner_start, ← hE, if_skip (kn g (by decide)), if_skip (kn g (by decide)), if_skip (or_ff (kn g (by decide)) (kn g (by decide))), if_skip (kn g (by decide)), if_skip (kn g (by decide)), if_skip (kn g (by decide))]
    exact if_take (ky g rfl) (ssRet_eq (sCall_n (bk := [none]) (by decide) (sa1_eq (sV_eq (vix_1 g0))) hr))
  · obtain ⟨m, rfl⟩ : ∃ k, m = k + 1 := ⟨m - 1, by omega⟩
    obtain ⟨E, hE⟩ : ∃ E : FL.Env, E = tE (recD fs) l "record" := ⟨_, rfl⟩
    have g : getE E 2 = .ok (.d (S_ "record")) := by rw [hE]; rfl
    have g0 : getE E 0 = .ok (.d (recD fs)) := by rw [hE]; rfl
    have hi : siQ (sV (vIx (vN 0) (vC (.int 1)))) E = .ok (fs.map fdD, E) := by
      simp only [siQ, sV_eq (vix_1 g0), fz, itemsD]
    have hk : killAll [5] E = E := by rw [hE]; rfl
    have hm := lcl_map (own := [5]) (g := sgN 5) (c := sbYes) (f := s2 oAdd (sV (v2 oAdd (vIx (vN 5) (vC (.int 0))) (vC (.str (Str.ofString ": "))))) (sCall (F__law_text m) [none, none] (saCons (sV (vIx (vN 5) (vC (.int 1)))) (saCons (sV (vC (.int 0))) (saNil))))) (env := E) fdD (fun p => M.d (.str (fdT wf p))) fs [] (fun p hp => by
      obtain ⟨e, h1⟩ := (h p hp).tx (by have := hz1 p hp; omega) m (by omega) 0 (by omega)
      have h5 := (h p hp).wl
      have h6 := hz1 p hp
      have h7 := hw p hp
      obtain ⟨E1, hE1⟩ : ∃ E1 : FL.Env, E1 = [some (.d (recD fs)), some (.d (.int (l : Int))), some (.d (S_ "record")), none, none, some (.d (fdD p))] := ⟨_, rfl⟩
      have gF : getE E1 5 = .ok (.d (fdD p)) := by rw [hE1]; rfl
      refine ⟨E1, E1, E1, by rw [hE, hE1]; rfl, rfl, scat (sV_eq (vcat (vix_0 gF) rfl ?_)) (sCall_n (bk := [none, none]) (by decide) (sa2_eq (sV_eq (vix_1 gF)) rfl) h1) ?_, by rw [hE, hE1]; rfl⟩
      all_goals ((try simp only [len_app]); omega))
    have h2 := sLc_eq hi (by rw [sizeLine_eq, List.length_map]; omega) (by rw [hk]; exact hm)
    have e1 : M.lst ([] ++ fs.map fun p => M.d (.str (fdT wf p))) = .lst ((fs.map (fdT wf)).map fun w => .d (.str w)) := by rw [List.map_map]; rfl
    rw [e1] at h2
    refine ⟨_, runF_ret (m := .d (.str (rcT wf fs))) (e := E) ?_⟩
    show b__law_text _ [some (.d (recD fs)), some (.d (.int (l : Int))), none, none, none, none] = _
    unfold b__law_text
    rw [tx_start (level_no (by decide)) hl', ← hE, if_skip (kn g (by decide)), if_skip (or_ff (kn g (by decide)) (kn g (by decide))), if_skip (kn g (by decide)), if_skip (kn g (by decide)), if_skip (kn g (by decide)), if_skip (kn g (by decide))]
    refine if_take (ky g rfl) (ssRet_eq (scat (scat rfl (sSm_eq rfl (sa1_eq h2) (join_eq (by omega))) ?_) rfl ?_))
    all_goals ((try simp only [len_app]); omega)
/-! ### every term -/
theorem tx_all : ∀ (n : Nat) (x : D), Tm n x → ∃ z w lv, TX n x z w lv
  | n, x, h => by
    induction n generalizing x with
    | zero =>
      cases h with
      | num h => exact ⟨_, _, _, tx_num h⟩
      | name h => exact ⟨_, _, _, tx_name h⟩
      | flip h h' => exact ⟨_, _, _, tx_flip h h'⟩
      | pick h h' => exact ⟨_, _, _, tx_pick h h'⟩
    | succ n ih =>
      have hc : ∀ y, ∃ t : Nat × Str × Nat, Tm n y → TX n y t.1 t.2.1 t.2.2 := fun y => by
        by_cases q : Tm n y
        · obtain ⟨z, w, lv, t⟩ := ih y q
          exact ⟨(z, w, lv), fun _ => t⟩
        · exact ⟨(0, Str.empty, 0), fun z => absurd z q⟩
      obtain ⟨f, hf⟩ := Classical.axiomOfChoice hc
      cases h with
      | num h => exact ⟨_, _, _, tx_num h⟩
      | name h => exact ⟨_, _, _, tx_name h⟩
      | flip h h' => exact ⟨_, _, _, tx_flip h h'⟩
      | pick h h' => exact ⟨_, _, _, tx_pick h h'⟩
      | op h ha hb => exact ⟨_, _, _, tx_op (zf := fun y => (f y).1) (wf := fun y => (f y).2.1) (lf := fun y => (f y).2.2) h (hf _ ha) (hf _ hb)⟩
      | field h ha => exact ⟨_, _, _, tx_field (zf := fun y => (f y).1) (wf := fun y => (f y).2.1) (lf := fun y => (f y).2.2) h (hf _ ha)⟩
      | rest h ha => exact ⟨_, _, _, tx_rest (zf := fun y => (f y).1) (wf := fun y => (f y).2.1) (lf := fun y => (f y).2.2) h (hf _ ha)⟩
      | iff ha hb hc => exact ⟨_, _, _, tx_if (zf := fun y => (f y).1) (wf := fun y => (f y).2.1) (lf := fun y => (f y).2.2) fun y hy => by
          simp only [List.mem_cons, List.not_mem_nil, or_false] at hy
          rcases hy with rfl | rfl | rfl
          · exact hf _ ha
          · exact hf _ hb
          · exact hf _ hc⟩
      | rcd h h' hx => exact ⟨_, _, _, tx_rec (zf := fun y => (f y).1) (wf := fun y => (f y).2.1) (lf := fun y => (f y).2.2) h h' fun p hp => hf _ (hx p hp)⟩
      | call h h' hx => exact ⟨_, _, _, tx_call (zf := fun y => (f y).1) (wf := fun y => (f y).2.1) (lf := fun y => (f y).2.2) h h' fun y hy => hf _ (hx y hy)⟩
theorem range_D (n : Nat) : (List.range n).map (fun (i : Nat) => D.int (0 + (i : Int))) = ((List.range n).map fun (i : Nat) => (i : Int)).map D.int := by
  rw [List.map_map]
  congr 1
  funext i
  simp
theorem range_in {n : Nat} : ∀ j ∈ (List.range n).map fun (i : Nat) => (i : Int), 0 ≤ j ∧ j < n := fun j hj => by
  obtain ⟨i, hi, rfl⟩ := List.mem_map.mp hj
  have := List.mem_range.mp hi
  omega
/-! ### names -/
theorem abc : Str.ofString "abcdefghijklmnopqrstuvwxyz" = sl [97,98,99,100,101,102,103,104,105,106,107,108,109,110,111,112,113,114,115,116,117,118,119,120,121,122] := by rw [slOf]; congr 1
theorem e_nil : Str.ofString "" = sl [] := by rw [slOf]; congr 1
def abcL : List Nat := [97,98,99,100,101,102,103,104,105,106,107,108,109,110,111,112,113,114,115,116,117,118,119,120,121,122]
theorem str_at {l : List Nat} {i : Int} (hl : l.length ≤ 1000) (h0 : 0 ≤ i) (h : i < l.length) : ∃ c, mIdx (.d (.str (sl l))) (.d (.int i)) = .ok (.d (.str (sl [c]))) := by
  obtain ⟨c, hc⟩ : ∃ c, l[i.toNat]? = some c := ⟨_, List.getElem?_eq_getElem (by omega)⟩
  exact ⟨c, mIdx_str (by omega) (by rw [atI_pos h0 h]; exact hc)⟩
theorem name_step {f k : Int} {w : List Nat} {z3 : Option M} (hf : 0 ≤ f ∧ f < 2 ^ 62) (hk : 0 ≤ k ∧ k < 8) (hw : w.length ≤ 100) :
    ∃ c z3', fb__law_name_1 [some (.d (.int f)), some (.d (.str (sl w))), some (.d (.int k)), z3] = .ok (.nx, [some (.d (.int f)), some (.d (.str (sl (w ++ [c])))), some (.d (.int k)), z3']) := by
  have c8 : CFdiv f 8 := fdivD (b := 10) (by decide) (by decide)
  have c1 : CMulD 2 k := mulD (a := 8) (b := 8) (by omega) (by omega)
  have c2 : CMulD (f / 8 + k) (2 * k + 3) := mulD (a := 64) (b := 8) (by omega) (by omega)
  obtain ⟨v, hv⟩ : ∃ v, v = (f / 8 + k) * (2 * k + 3) % 26 := ⟨_, rfl⟩
  have v0 := Int.emod_nonneg ((f / 8 + k) * (2 * k + 3)) (show (26:Int) ≠ 0 by decide)
  have v1 := Int.emod_lt_of_pos ((f / 8 + k) * (2 * k + 3)) (show (0:Int) < 26 by decide)
  rw [← hv] at v0 v1
  obtain ⟨c, hc⟩ := str_at (l := abcL) (i := v) (by decide) v0 v1
  have habc : Str.ofString "abcdefghijklmnopqrstuvwxyz" = sl abcL := abc
  refine ⟨c, some (.d (.int v)), ?_⟩
  unfold fb__law_name_1
  rw [ssSeq_nx (e := [some (.d (.int f)), some (.d (.str (sl w))), some (.d (.int k)), some (.d (.int v))]) (by
    simp only [ssSet, sV, v2, vC, vN, getE, List.getElem?_cons_succ, List.getElem?_cons_zero, oFdiv_int c8, fdivI_pos (show (0:Int) < 8 by decide), oAdd_int, oMul_int c1, oMul_int c2, oMod_int (show (26:Int) ≠ 0 by decide), modI_pos (show (0:Int) < 26 by decide), ← hv]
    rfl)]
  have ha : oAdd (.d (.str (sl w))) (.d (.str (sl [c]))) = .ok (.str (sl (w ++ [c]))) := oAdd_str (by simp; omega)
  simp only [ssSet, sV, v2, vC, vN, vIx, getE, List.getElem?_cons_succ, List.getElem?_cons_zero, habc, hc, ha]
  rfl
theorem name_int {f : Int} (hf : 0 ≤ f ∧ f < 2 ^ 62) : ∃ w : List Nat, w.length ≤ 8 ∧ ∃ e, F__law_name [.d (.int f)] = .ok (.d (.str (sl w)), e) := by
  obtain ⟨e', h1, w, z2, z3, ⟨hwl, _⟩, rfl⟩ := fl_all (g := fg__law_name_1) (b := fb__law_name_1) D.int (fun ks env => ∃ w z2 z3, (w.length + ks.length ≤ 8 ∧ ∀ k ∈ ks, 0 ≤ k ∧ k < 8) ∧ env = [some (.d (.int f)), some (.d (.str (sl w))), z2, z3])
    (fun k rest env hI => by
      obtain ⟨w, z2, z3, ⟨hl, hk⟩, rfl⟩ := hI
      simp only [List.length_cons] at hl
      obtain ⟨c, z3', hb⟩ := name_step (w := w) (z3 := z3) hf (hk k (by simp)) (by omega)
      exact ⟨[some (.d (.int f)), some (.d (.str (sl w))), some (.d (.int k)), z3], _, .nx, rfl, hb, .inl rfl, _, _, _, ⟨by simp; omega, fun i hi => hk i (by simp [hi])⟩, rfl⟩)
    ((List.range (1 + f % 8).toNat).map fun (i : Nat) => (i : Int)) [some (.d (.int f)), some (.d (.str (sl []))), none, none] ⟨[], none, none, ⟨by simp; omega, fun j hj => by have := range_in j hj; omega⟩, rfl⟩
  simp only [List.length_nil, Nat.add_zero] at hwl
  have hr : C62 (1 + f % 8) := ⟨by omega, by omega⟩
  have hr1 : siR1 (saCons (sV (v2 oAdd (vC (.int 1)) (v2 oMod (vN 0) (vC (.int 8))))) (saNil)) [some (.d (.int f)), some (.d (.str (sl []))), none, none] = .ok (((List.range (1 + f % 8).toNat).map fun (i : Nat) => (i : Int)).map D.int, [some (.d (.int f)), some (.d (.str (sl []))), none, none]) := by
    simp only [siR1, saCons, saNil, sV, v2, vC, vN, getE, List.getElem?_cons_zero, oMod_int (show (8:Int) ≠ 0 by decide), modI_pos (show (0:Int) < 8 by decide), oAdd_int, if_pos hr, range_D]
  obtain ⟨E, hE⟩ : ∃ E : FL.Env, E = [some (.d (.int f)), some (.d (.str (sl w))), z2, z3] := ⟨_, rfl⟩
  have hin : ∃ b, oIn (.d (.str (sl w))) (.d (.tup [S_ "flip", S_ "pick", S_ "if", S_ "rest"])) = .ok (.bl b) := by
    simp [oIn, inM, M.seq, flatM, flatD]
  obtain ⟨b, hin⟩ := hin
  have hc : sbE (s2n oIn 1 (sTup (saCons (sV (vC (.str (Str.ofString "flip")))) (saCons (sV (vC (.str (Str.ofString "pick")))) (saCons (sV (vC (.str (Str.ofString "if")))) (saCons (sV (vC (.str (Str.ofString "rest")))) (saNil))))))) E = .ok (b, E) := by
    have g1 : getE E 1 = .ok (.d (.str (sl w))) := by rw [hE]; rfl
    have ht : sTup (saCons (sV (vC (.str (Str.ofString "flip")))) (saCons (sV (vC (.str (Str.ofString "pick")))) (saCons (sV (vC (.str (Str.ofString "if")))) (saCons (sV (vC (.str (Str.ofString "rest")))) (saNil))))) E = .ok (.d (.tup [S_ "flip", S_ "pick", S_ "if", S_ "rest"]), E) := by
      simp [sTup, saCons, saNil, sV, vC, sizeLine_eq, mTup, isD, unD]
    refine sbE_eq ?_
    unfold s2n
    rw [g1]
    simp only []
    rw [ht]
    simp only [g1, hin]
  have hstart : ∀ R : SS, b__law_name = ssSeq (ssSet 1 (sV (vC (.str (Str.ofString ""))))) (ssSeq (ssFor (siR1 (saCons (sV (v2 oAdd (vC (.int 1)) (v2 oMod (vN 0) (vC (.int 8))))) (saNil))) fg__law_name_1 fb__law_name_1) R) → b__law_name [some (.d (.int f)), none, none, none] = R E := fun R hR => by
    rw [hR, ssSeq_nx (e := [some (.d (.int f)), some (.d (.str (sl []))), none, none]) (by rw [e_nil]; rfl), ssSeq_nx ((ssFor_eq hr1).trans h1), hE]
  have hrests : Str.ofString "rests" = sl [114, 101, 115, 116, 115] := by rw [slOf]; congr 1
  cases b with
  | true =>
    refine ⟨[114, 101, 115, 116, 115], by decide, _, runF_ret (m := .d (.str (sl [114, 101, 115, 116, 115]))) (e := E) ?_⟩
    refine (hstart _ rfl).trans ?_
    exact if_take hc (ssRet_eq (by rw [← hrests]; rfl))
  | false =>
    refine ⟨w, hwl, _, runF_ret (m := .d (.str (sl w))) (e := [some (.d (.int f)), none, z2, z3]) ?_⟩
    refine (hstart _ rfl).trans ?_
    rw [if_skip hc]
    exact ssRet_eq (by rw [hE]; rfl)
/-! ### leaves -/
theorem leaf_int {f : Int} (hf : 0 ≤ f ∧ f < 2 ^ 40) : ∃ x, (∀ n, Tm n x) ∧ ∃ e, F__law_leaf [.d (.int f)] = .ok (.d x, e) := by
  have c5 : CFdiv f 5 := fdivD (b := 10) (by decide) (by decide)
  obtain ⟨k, hk⟩ : ∃ k, k = f % 5 := ⟨_, rfl⟩
  obtain ⟨g, hg⟩ : ∃ g, g = f / 5 := ⟨_, rfl⟩
  have hg0 : 0 ≤ g ∧ g < 2 ^ 40 := by omega
  obtain ⟨E, hE⟩ : ∃ E : FL.Env, E = [some (.d (.int g)), some (.d (.int k)), none, none, none] := ⟨_, rfl⟩
  have hstart : ∀ R : SS, b__law_leaf = ssSeq (ssSet 1 (sV (v2 oMod (vN 0) (vC (.int 5))))) (ssSeq (ssSet 0 (sV (v2 oFdiv (vN 0) (vC (.int 5))))) R) → b__law_leaf [some (.d (.int f)), none, none, none, none] = R E := fun R hR => by
    rw [hR, ssSeq_nx (e := [some (.d (.int f)), some (.d (.int k)), none, none, none]) (by
      simp only [ssSet, sV, v2, vC, vN, getE, List.getElem?_cons_zero, oMod_int (show (5:Int) ≠ 0 by decide), modI_pos (show (0:Int) < 5 by decide), ← hk]
      rfl), ssSeq_nx (e := E) (by
      simp only [ssSet, sV, v2, vC, vN, getE, List.getElem?_cons_zero, oFdiv_int c5, fdivI_pos (show (0:Int) < 5 by decide), ← hg]
      rw [hE]
      rfl)]
  have g0 : vN 0 E = .ok (.d (.int g)) := by rw [hE]; rfl
  have g1 : vN 1 E = .ok (.d (.int k)) := by rw [hE]; rfl
  have kq : ∀ q : Int, sbE (sV (v2 oEq (vN 1) (vC (.int q)))) E = .ok (decide (k = q), E) := fun q => by
    simp only [sbE, sV, v2, vC, g1, oEq_int]
  have p12 : CPowD 10 12 := by decide
  have p6 : CPowD 10 6 := by decide
  by_cases k0 : k = 0
  · have c1 : CMulD g 2741 := mulD (a := 41) (b := 13) (by omega) (by omega)
    obtain ⟨v, hv⟩ : ∃ v, v = g * 2741 % 1000000000000 := ⟨_, rfl⟩
    refine ⟨numD v, fun n => .num (show v.natAbs < 10 ^ 13 by omega), _, runF_ret (m := .d (numD v)) (e := E) ?_⟩
    refine (hstart _ rfl).trans ?_
    refine if_take ((kq 0).trans (by rw [decide_eq_true k0])) (ssRet_eq ?_)
    have n2 : sV (v2 oMod (v2 oMul (vN 0) (vC (.int 2741))) (v2 oPow (vC (.int 10)) (vC (.int 12)))) E = .ok (.d (.int v), E) := by
      simp only [sV, v2, vC, g0, oMul_int c1, oPow_int p12, oMod_int (show (1000000000000:Int) ≠ 0 by decide)]
      rw [hv]
      simp [oMod_int, modI_pos]
    unfold sTup
    rw [sa2_eq rfl n2]
    simp [sizeLine_eq, mTup, isD, unD]
  by_cases k1 : k = 1
  · obtain ⟨lo, hlo⟩ : ∃ v, v = 1 + g % 999 := ⟨_, rfl⟩
    obtain ⟨hi, hhi⟩ : ∃ v, v = lo + 1 + g / 999 % 999000 := ⟨_, rfl⟩
    have c9 : CFdiv g 999 := fdivD (b := 10) (by decide) (by decide)
    obtain ⟨E2, hE2⟩ : ∃ E : FL.Env, E = [some (.d (.int g)), some (.d (.int k)), some (.d (.int lo)), none, none] := ⟨_, rfl⟩
    refine ⟨flipD lo hi, fun n => .flip (show lo.natAbs < 10 ^ 13 by omega) (show hi.natAbs < 10 ^ 13 by omega), _, runF_ret (m := .d (flipD lo hi)) (e := E2) ?_⟩
    refine (hstart _ rfl).trans ?_
    rw [if_skip ((kq 0).trans (by rw [decide_eq_false k0]))]
    refine if_take ((kq 1).trans (by rw [decide_eq_true k1])) ?_
    rw [ssSeq_nx (e := E2) (by
      simp only [ssSet, sV, v2, vC, g0, oMod_int (show (999:Int) ≠ 0 by decide), modI_pos (show (0:Int) < 999 by decide), oAdd_int, ← hlo]
      rw [hE, hE2]
      rfl)]
    have q0 : vN 0 E2 = .ok (.d (.int g)) := by rw [hE2]; rfl
    have q2 : vN 2 E2 = .ok (.d (.int lo)) := by rw [hE2]; rfl
    have n2 : sN 2 E2 = .ok (.d (.int lo), E2) := by rw [hE2]; rfl
    have n3 : sV (v2 oAdd (v2 oAdd (vN 2) (vC (.int 1))) (v2 oMod (v2 oFdiv (vN 0) (vC (.int 999))) (vC (.int 999000)))) E2 = .ok (.d (.int hi), E2) := by
      simp only [sV, v2, vC, q0, q2, oAdd_int, oFdiv_int c9, fdivI_pos (show (0:Int) < 999 by decide), oMod_int (show (999000:Int) ≠ 0 by decide), modI_pos (show (0:Int) < 999000 by decide), ← hhi]
    refine ssRet_eq ?_
    unfold sTup
    rw [sa3_eq rfl n2 n3]
    simp [sizeLine_eq, mTup, isD, unD]
  by_cases k2 : k = 2
  · obtain ⟨ps, hps⟩ : ∃ ps, ps = ((List.range (1 + g % 6).toNat).map fun (i : Nat) => (i : Int)).map fun j => (g % 1000 + 1000 * j, 1 + g / (j + 1) % 1000000) := ⟨_, rfl⟩
    have hr : C62 (1 + g % 6) := ⟨by omega, by omega⟩
    have hr1 : siR1 (saCons (sV (v2 oAdd (vC (.int 1)) (v2 oMod (vN 0) (vC (.int 6))))) (saNil)) E = .ok (((List.range (1 + g % 6).toNat).map fun (i : Nat) => (i : Int)).map D.int, E) := by
      simp only [siR1, saCons, saNil, sV, v2, vC, g0, oMod_int (show (6:Int) ≠ 0 by decide), modI_pos (show (0:Int) < 6 by decide), oAdd_int, if_pos hr, range_D]
    have hk4 : killAll [4] E = E := by rw [hE]; rfl
    have hm := lcl_map (own := [4]) (g := sgN 4) (c := sbYes) (f := sTup (saCons (sV (v2 oAdd (v2 oMod (vN 0) (vC (.int 1000))) (v2 oMul (vC (.int 1000)) (vN 4)))) (saCons (sV (v2 oAdd (vC (.int 1)) (v2 oMod (v2 oFdiv (vN 0) (v2 oAdd (vN 4) (vC (.int 1)))) (v2 oPow (vC (.int 10)) (vC (.int 6)))))) (saNil)))) (env := E) D.int (fun j => M.d (prD (g % 1000 + 1000 * j, 1 + g / (j + 1) % 1000000))) ((List.range (1 + g % 6).toNat).map fun (i : Nat) => (i : Int)) [] (fun j hj => by
      have hj' := range_in j hj
      obtain ⟨F, hF⟩ : ∃ F : FL.Env, F = [some (.d (.int g)), some (.d (.int k)), none, none, some (.d (.int j))] := ⟨_, rfl⟩
      have q0 : vN 0 F = .ok (.d (.int g)) := by rw [hF]; rfl
      have q4 : vN 4 F = .ok (.d (.int j)) := by rw [hF]; rfl
      have cm : CMulD 1000 j := mulD (a := 11) (b := 5) (by decide) (by omega)
      have cd : CFdiv g (j + 1) := fdivD (b := 10) (by omega) (by omega)
      refine ⟨F, F, F, by rw [hE, hF]; rfl, rfl, ?_, by rw [hE, hF]; rfl⟩
      have n1 : sV (v2 oAdd (v2 oMod (vN 0) (vC (.int 1000))) (v2 oMul (vC (.int 1000)) (vN 4))) F = .ok (.d (.int (g % 1000 + 1000 * j)), F) := by
        simp only [sV, v2, vC, q0, q4, oMul_int cm, oAdd_int, oMod_int (show (1000:Int) ≠ 0 by decide), modI_pos (show (0:Int) < 1000 by decide)]
      have n2 : sV (v2 oAdd (vC (.int 1)) (v2 oMod (v2 oFdiv (vN 0) (v2 oAdd (vN 4) (vC (.int 1)))) (v2 oPow (vC (.int 10)) (vC (.int 6))))) F = .ok (.d (.int (1 + g / (j + 1) % 1000000)), F) := by
        simp only [sV, v2, vC, q0, q4, oAdd_int, oFdiv_int cd, fdivI_pos (show (0:Int) < j + 1 by omega), oPow_int p6]
        simp [oMod_int, modI_pos, oAdd_int]
      unfold sTup
      rw [sa2_eq n1 n2]
      simp [sizeLine_eq, mTup, isD, unD])
    have h2 := sLc_eq hr1 (by rw [sizeLine_eq, List.length_map, List.length_map, List.length_range]; omega) (by rw [hk4]; exact hm)
    obtain ⟨L, hL⟩ : ∃ L : M, L = .lst (ps.map fun p => .d (prD p)) := ⟨_, rfl⟩
    have e1 : M.lst ([] ++ ((List.range (1 + g % 6).toNat).map fun (i : Nat) => (i : Int)).map fun j => M.d (prD (g % 1000 + 1000 * j, 1 + g / (j + 1) % 1000000))) = L := by
      rw [hL, hps]
      simp only [List.nil_append, List.map_map]
      rfl
    rw [e1] at h2
    obtain ⟨E2, hE2⟩ : ∃ E : FL.Env, E = [some (.d (.int g)), some (.d (.int k)), none, some L, none] := ⟨_, rfl⟩
    refine ⟨pickD ps, fun n => .pick (by rw [hps, List.length_map, List.length_map, List.length_range]; omega) (fun p hp => by
      rw [hps] at hp
      obtain ⟨j, hj, rfl⟩ := List.mem_map.mp hp
      have hj' := range_in j hj
      exact ⟨show (g % 1000 + 1000 * j).natAbs < 10 ^ 13 by omega, show (1 + g / (j + 1) % 1000000).natAbs < 10 ^ 13 by omega⟩), _, runF_ret (m := .d (pickD ps)) (e := E2) ?_⟩
    refine (hstart _ rfl).trans ?_
    rw [if_skip ((kq 0).trans (by rw [decide_eq_false k0])), if_skip ((kq 1).trans (by rw [decide_eq_false k1]))]
    refine if_take ((kq 2).trans (by rw [decide_eq_true k2])) ?_
    rw [ssSeq_nx (e := E2) (by rw [ssSet_eq (i := 3) h2 (by rw [hE]; show (3:Nat) < 5; decide), hE, hE2]; rfl)]
    have g3 : vN 3 E2 = .ok L := by rw [hE2]; rfl
    have hb : brw L = some (false, ps.map prD) := by
      rw [hL]
      show (if (ps.map fun p => M.d (prD p)).all isD = true then some (false, (ps.map fun p => M.d (prD p)).map unD) else none) = _
      rw [if_pos (by simp [isD]), List.map_map]
      rfl
    have nt : sTupV (vN 3) E2 = .ok (.d (.tup (ps.map prD)), E2) := by simp only [sTupV, g3, hb]
    refine ssRet_eq ?_
    unfold sTup
    rw [sa2_eq rfl nt]
    simp [sizeLine_eq, mTup, isD, unD]
  · obtain ⟨w, hw, e, hn⟩ := name_int (f := g) (by omega)
    refine ⟨nameD (sl w), fun n => .name (by rw [sl_len]; omega), _, runF_ret (m := .d (nameD (sl w))) (e := E) ?_⟩
    refine (hstart _ rfl).trans ?_
    rw [if_skip ((kq 0).trans (by rw [decide_eq_false k0])), if_skip ((kq 1).trans (by rw [decide_eq_false k1])), if_skip ((kq 2).trans (by rw [decide_eq_false k2]))]
    have n0 : sN 0 E = .ok (.d (.int g), E) := by rw [hE]; rfl
    refine ssRet_eq ?_
    unfold sTup
    rw [sa2_eq rfl (sCall_n (bk := [none]) (by decide) (sa1_eq n0) hn)]
    simp [sizeLine_eq, mTup, isD, unD]
theorem sTup_eq {fs : SA} {env e : FL.Env} {ms : List M} {x : D} (h : fs env = .ok (ms, e)) (hl : ms.length ≤ 100) (hm : mTup ms = .d x) : sTup fs env = .ok (.d x, e) := by
  unfold sTup
  rw [h]
  simp only []
  rw [if_pos (by rw [sizeLine_eq]; omega), hm]
theorem cutS_len (z : Str) (l h : Option Int) : (cutS z l h).length ≤ z.length := by
  unfold cutS
  simp only [Str.length, List.size_toArray, List.length_take, List.length_drop, Array.length_toList]
  omega
theorem str_at' {l : List Nat} {i : Nat} (hl : l.length ≤ 1000) (h : i < l.length) : mIdx (.d (.str (sl l))) (.d (.int (i : Int))) = .ok (.d (.str (sl [l.getD i 0]))) := by
  refine mIdx_str (by omega) ?_
  rw [atI_nat h, List.getElem?_eq_getElem h, List.getD_eq_getElem?_getD, List.getElem?_eq_getElem h]
  rfl
abbrev lM (ys : List D) : M := .lst (ys.map .d)
def Lk (kd : Int) (n : Nat) : Prop := (kd < 7 → n = 2) ∧ (kd = 7 → n = 1) ∧ (kd = 8 → n = 1) ∧ (kd = 9 → n = 3) ∧ (kd = 10 → n ≤ 6) ∧ (10 < kd → n ≤ 6)
theorem sign5 {t : Str} {a b c d e : Nat} (ht : t = sl [a, b, c, d, e]) {j : Int} (hj : 0 ≤ j ∧ j < 5) : mIdx (.d (.str t)) (.d (.int j)) = .ok (.d (.str (sl [[a, b, c, d, e].getD j.toNat 0]))) := by
  obtain ⟨i, rfl⟩ : ∃ i : Nat, j = (i : Int) := ⟨j.toNat, by omega⟩
  rw [ht]
  exact str_at' (by simp) (by simp; omega)
theorem sg_sl {s : String} {c : Nat} (h : s.toList.map Char.toNat = [c]) : Str.ofString s = sl [c] := by rw [slOf, h]
theorem sg5 {j : Int} (hj : 0 ≤ j ∧ j < 5) : ∃ s lv, Sg s lv ∧ mIdx (.d (.str (Str.ofString "+-*=<"))) (.d (.int j)) = .ok (.d (S_ s)) := by
  have ht : Str.ofString "+-*=<" = sl [43, 45, 42, 61, 60] := by rw [slOf]; congr 1
  have h := sign5 ht hj
  rcases (show j = 0 ∨ j = 1 ∨ j = 2 ∨ j = 3 ∨ j = 4 by omega) with rfl | rfl | rfl | rfl | rfl
  · exact ⟨"+", 1, .pl, by rw [h, S_, sg_sl (s := "+") (c := 43) rfl]; rfl⟩
  · exact ⟨"-", 1, .mi, by rw [h, S_, sg_sl (s := "-") (c := 45) rfl]; rfl⟩
  · exact ⟨"*", 2, .ti, by rw [h, S_, sg_sl (s := "*") (c := 42) rfl]; rfl⟩
  · exact ⟨"=", 0, .eq, by rw [h, S_, sg_sl (s := "=") (c := 61) rfl]; rfl⟩
  · exact ⟨"<", 0, .lt, by rw [h, S_, sg_sl (s := "<") (c := 60) rfl]; rfl⟩
theorem sg5' {j : Int} (hj : 0 ≤ j ∧ j < 5) : ∃ s lv, Sg s lv ∧ mIdx (.d (.str (Str.ofString "*-+<="))) (.d (.int j)) = .ok (.d (S_ s)) := by
  have ht : Str.ofString "*-+<=" = sl [42, 45, 43, 60, 61] := by rw [slOf]; congr 1
  have h := sign5 ht hj
  rcases (show j = 0 ∨ j = 1 ∨ j = 2 ∨ j = 3 ∨ j = 4 by omega) with rfl | rfl | rfl | rfl | rfl
  · exact ⟨"*", 2, .ti, by rw [h, S_, sg_sl (s := "*") (c := 42) rfl]; rfl⟩
  · exact ⟨"-", 1, .mi, by rw [h, S_, sg_sl (s := "-") (c := 45) rfl]; rfl⟩
  · exact ⟨"+", 1, .pl, by rw [h, S_, sg_sl (s := "+") (c := 43) rfl]; rfl⟩
  · exact ⟨"<", 0, .lt, by rw [h, S_, sg_sl (s := "<") (c := 60) rfl]; rfl⟩
  · exact ⟨"=", 0, .eq, by rw [h, S_, sg_sl (s := "=") (c := 61) rfl]; rfl⟩
theorem made_int {n : Nat} {kd f : Int} {ys : List D} (hy : ∀ y ∈ ys, Tm n y) (hl : Lk kd ys.length) (hk : 4 ≤ kd ∧ kd < 12) (hf : 0 ≤ f ∧ f < 2 ^ 40) :
    ∃ x, Tm (n + 1) x ∧ F__law_made [.d (.int kd), lM ys, .d (.int f)] = .ok (.d x, [some (.d (.int kd)), some (lM ys), some (.d (.int f))]) := by
  obtain ⟨L, hL⟩ : ∃ L, L = lM ys := ⟨_, rfl⟩
  obtain ⟨E, hE⟩ : ∃ E : FL.Env, E = [some (.d (.int kd)), some L, some (.d (.int f)), none, none] := ⟨_, rfl⟩
  have g0 : vN 0 E = .ok (.d (.int kd)) := by rw [hE]; rfl
  have g1 : vN 1 E = .ok L := by rw [hE]; rfl
  have g2 : vN 2 E = .ok (.d (.int f)) := by rw [hE]; rfl
  have n2 : sN 2 E = .ok (.d (.int f), E) := by rw [hE]; rfl
  have kq : ∀ q : Int, sbE (sV (v2 oEq (vN 0) (vC (.int q)))) E = .ok (decide (kd = q), E) := fun q => by
    simp only [sbE, sV, v2, vC, g0, oEq_int]
  have kl : sbE (sV (v2 oLt (vN 0) (vC (.int 7)))) E = .ok (decide (kd < 7), E) := by
    simp only [sbE, sV, v2, vC, g0, oLt_int]
  obtain ⟨w, hw, en, hn⟩ := name_int (f := f) (by omega)
  have nn := sCall_n (bk := [none]) (by decide) (sa1_eq n2) hn
  have fin : ∀ {x : D} {E2 : FL.Env}, (killAll [] E2).take 3 = [some (.d (.int kd)), some L, some (.d (.int f))] → b__law_made E = .ok (.ret (.d x), E2) → F__law_made [.d (.int kd), L, .d (.int f)] = .ok (.d x, [some (.d (.int kd)), some L, some (.d (.int f))]) := fun h1 h2 => by
    rw [← h1]
    refine runF_ret ?_
    rw [← h2, hE]
    rfl
  have tk : (killAll [] E).take 3 = [some (.d (.int kd)), some L, some (.d (.int f))] := by rw [hE]; rfl
  have ixL : ∀ (j : Nat) (y : D), ys[j]? = some y → ∀ F : FL.Env, vN 1 F = .ok L → vIx (vN 1) (vC (.int (j : Int))) F = .ok (.d y) := fun j y h F hF => by
    have hj := (List.getElem?_eq_some_iff.mp h).1
    have e : atI (ys.map M.d) (j : Int) = some (.d y) := by rw [atI_nat (by rw [List.length_map]; exact hj), List.getElem?_map, h]; rfl
    simp only [vIx, vC, hF, hL, mIdx, M.seq, e]
  have kS : ∀ (t : String) (F : FL.Env), sV (vC (.str (Str.ofString t))) F = .ok (.d (S_ t), F) := fun _ _ => rfl
  rw [← hL]
  by_cases k7 : kd < 7
  · obtain ⟨s, lv, hs, hi⟩ := sg5 (j := f % 5) (by omega)
    have h2 := hl.1 k7
    obtain ⟨a, b, rfl⟩ : ∃ a b, ys = [a, b] := by
      match ys, h2 with
      | [a, b], _ => exact ⟨a, b, rfl⟩
    refine ⟨opD s a b, .op hs (hy a (by simp)) (hy b (by simp)), fin tk ?_⟩
    unfold b__law_made
    refine if_take (kl.trans (by rw [decide_eq_true k7])) (ssRet_eq ?_)
    have q1 : sV (vIx (vC (.str (Str.ofString "+-*=<"))) (v2 oMod (vN 2) (vC (.int 5)))) E = .ok (.d (S_ s), E) := by
      refine sV_eq ?_
      simp only [vIx, vC, v2, g2, oMod_int (show (5:Int) ≠ 0 by decide), modI_pos (show (0:Int) < 5 by decide), hi]
    unfold sTup
    have a0 : sV (vIx (vN 1) (vC (.int 0))) E = .ok (.d a, E) := sV_eq (ixL 0 a rfl E g1)
    have a1 : sV (vIx (vN 1) (vC (.int 1))) E = .ok (.d b, E) := sV_eq (ixL 1 b rfl E g1)
    rw [saCons_eq (kS "op" E) (sa3_eq q1 a0 a1)]
    simp [sizeLine_eq, mTup, isD, unD]
  have c7 : sbE (sV (v2 oLt (vN 0) (vC (.int 7)))) E = .ok (false, E) := kl.trans (by rw [decide_eq_false k7])
  by_cases k7' : kd = 7
  · obtain ⟨a, rfl⟩ : ∃ a, ys = [a] := by
      have h2 := hl.2.1 k7'
      match ys, h2 with
      | [a], _ => exact ⟨a, rfl⟩
    refine ⟨fieldD a (sl w), .field (by rw [sl_len]; omega) (hy a (by simp)), fin tk ?_⟩
    unfold b__law_made
    rw [if_skip c7]
    refine if_take ((kq 7).trans (by rw [decide_eq_true k7'])) (ssRet_eq ?_)
    unfold sTup
    have a0 : sV (vIx (vN 1) (vC (.int 0))) E = .ok (.d a, E) := sV_eq (ixL 0 a rfl E g1)
    rw [sa3_eq (kS "field" E) a0 nn]
    simp [sizeLine_eq, mTup, isD, unD]
  have c8 : sbE (sV (v2 oEq (vN 0) (vC (.int 7)))) E = .ok (false, E) := (kq 7).trans (by rw [decide_eq_false k7'])
  by_cases k8 : kd = 8
  · obtain ⟨a, rfl⟩ : ∃ a, ys = [a] := by
      have h2 := hl.2.2.1 k8
      match ys, h2 with
      | [a], _ => exact ⟨a, rfl⟩
    obtain ⟨v, hv⟩ : ∃ v, v = 1 + f * 3001 % 999999999999 := ⟨_, rfl⟩
    have c1 : CMulD f 3001 := mulD (a := 41) (b := 13) (by omega) (by omega)
    have p12 : CPowD 10 12 := by decide
    refine ⟨restD a v, .rest (show v.natAbs < 10 ^ 13 by omega) (hy a (by simp)), fin tk ?_⟩
    unfold b__law_made
    rw [if_skip c7, if_skip c8]
    refine if_take ((kq 8).trans (by rw [decide_eq_true k8])) (ssRet_eq ?_)
    have q1 : sV (v2 oAdd (vC (.int 1)) (v2 oMod (v2 oMul (vN 2) (vC (.int 3001))) (v2 oSub (v2 oPow (vC (.int 10)) (vC (.int 12))) (vC (.int 1))))) E = .ok (.d (.int v), E) := by
      simp only [sV, v2, vC, g2, oMul_int c1, oPow_int p12, oSub_int]
      simp [oMod_int, modI_pos, oAdd_int, ← hv]
    unfold sTup
    have a0 : sV (vIx (vN 1) (vC (.int 0))) E = .ok (.d a, E) := sV_eq (ixL 0 a rfl E g1)
    rw [sa3_eq (kS "rest" E) a0 q1]
    simp [sizeLine_eq, mTup, isD, unD]
  have c9 : sbE (sV (v2 oEq (vN 0) (vC (.int 8)))) E = .ok (false, E) := (kq 8).trans (by rw [decide_eq_false k8])
  by_cases k9 : kd = 9
  · obtain ⟨a, b, c, rfl⟩ : ∃ a b c, ys = [a, b, c] := by
      have h2 := hl.2.2.2.1 k9
      match ys, h2 with
      | [a, b, c], _ => exact ⟨a, b, c, rfl⟩
    refine ⟨iffD a b c, .iff (hy a (by simp)) (hy b (by simp)) (hy c (by simp)), fin tk ?_⟩
    unfold b__law_made
    rw [if_skip c7, if_skip c8, if_skip c9]
    refine if_take ((kq 9).trans (by rw [decide_eq_true k9])) (ssRet_eq ?_)
    unfold sTup
    have a0 : sV (vIx (vN 1) (vC (.int 0))) E = .ok (.d a, E) := sV_eq (ixL 0 a rfl E g1)
    have a1 : sV (vIx (vN 1) (vC (.int 1))) E = .ok (.d b, E) := sV_eq (ixL 1 b rfl E g1)
    have a2 : sV (vIx (vN 1) (vC (.int 2))) E = .ok (.d c, E) := sV_eq (ixL 2 c rfl E g1)
    rw [saCons_eq (kS "if" E) (sa3_eq a0 a1 a2)]
    simp [sizeLine_eq, mTup, isD, unD]
  have c10 : sbE (sV (v2 oEq (vN 0) (vC (.int 9)))) E = .ok (false, E) := (kq 9).trans (by rw [decide_eq_false k9])
  by_cases k10 : kd = 10
  · have hyl := hl.2.2.2.2.1 k10
    obtain ⟨v, hv⟩ : ∃ v, v = cutS (sl w) none (some 7) := ⟨_, rfl⟩
    have hvl : v.length ≤ 8 := by rw [hv]; have := cutS_len (sl w) none (some 7); rw [sl_len] at this; omega
    obtain ⟨E2, hE2⟩ : ∃ E : FL.Env, E = [some (.d (.int kd)), some L, some (.d (.int f)), some (.d (.str v)), none] := ⟨_, rfl⟩
    obtain ⟨fs, hfs⟩ : ∃ fs : List (Str × D), fs = (List.range ys.length).map fun j => (v ++ sl [[98, 99, 97, 101, 100, 103].getD j 0], ys.getD j .non) := ⟨_, rfl⟩
    have hbc : Str.ofString "bcaedg" = sl [98, 99, 97, 101, 100, 103] := by rw [slOf]; congr 1
    refine ⟨recD fs, .rcd (by rw [hfs, List.length_map, List.length_range]; exact hyl) (fun p hp => ?_) (fun p hp => ?_), fin (E2 := E2) (by rw [hE2]; rfl) ?_⟩
    · rw [hfs] at hp
      obtain ⟨j, _, rfl⟩ := List.mem_map.mp hp
      show (v ++ sl [_]).length ≤ 9
      rw [len_app, sl_len, List.length_singleton]
      omega
    · rw [hfs] at hp
      obtain ⟨j, hj, rfl⟩ := List.mem_map.mp hp
      have := List.mem_range.mp hj
      show Tm n (ys.getD j .non)
      rw [List.getD_eq_getElem?_getD, List.getElem?_eq_getElem this]
      exact hy _ (List.getElem_mem this)
    unfold b__law_made
    rw [if_skip c7, if_skip c8, if_skip c9, if_skip c10]
    refine if_take ((kq 10).trans (by rw [decide_eq_true k10])) ?_
    have q1 : sSlE (sCall F__law_name [none] (saCons (sN 2) (saNil))) (voNo) (voI (vC (.int 7))) E = .ok (.d (.str v), E) := by
      have hsz : (sl w).length ≤ sizeLine := by rw [sl_len, sizeLine_eq]; omega
      unfold sSlE
      rw [nn]
      simp only [voNo, voI, vC, if_pos hsz, hv]
    rw [ssSeq_nx (e := E2) (by rw [ssSet_eq (i := 3) q1 (by rw [hE]; show (3:Nat) < 5; decide), hE, hE2]; rfl)]
    have g1' : vN 1 E2 = .ok L := by rw [hE2]; rfl
    have hb : bLen [L] = .ok (.int ys.length) := by rw [hL]; simp [bLen, M.seq]
    have hr : C62 (ys.length : Int) := ⟨by omega, by omega⟩
    have hr1 : siR1 (saCons (sV (vB bLen (vaCons (vN 1) (vaNil)))) (saNil)) E2 = .ok ((List.range ys.length).map fun (i : Nat) => D.int (0 + (i : Int)), E2) := by
      simp only [siR1, saCons, saNil, sV, vB, vaCons, vaNil, g1', hb, if_pos hr, Int.toNat_natCast]
    have hk4 : killAll [4] E2 = E2 := by rw [hE2]; rfl
    have hm := lcl_map (own := [4]) (g := sgN 4) (c := sbYes) (f := sTup (saCons (sV (v2 oAdd (vN 3) (vIx (vC (.str (Str.ofString "bcaedg"))) (vN 4)))) (saCons (sV (vIx (vN 1) (vN 4))) (saNil)))) (env := E2) (fun (i : Nat) => D.int (0 + (i : Int))) (fun j => M.d (fdD (v ++ sl [[98, 99, 97, 101, 100, 103].getD j 0], ys.getD j .non))) (List.range ys.length) [] (fun j hj => by
      have hj' := List.mem_range.mp hj
      have hz : (0 : Int) + (j : Int) = (j : Int) := Int.zero_add _
      rw [hz]
      obtain ⟨F, hF⟩ : ∃ E : FL.Env, E = [some (.d (.int kd)), some L, some (.d (.int f)), some (.d (.str v)), some (.d (.int (j : Int)))] := ⟨_, rfl⟩
      have q3 : vN 3 F = .ok (.d (.str v)) := by rw [hF]; rfl
      have q4 : vN 4 F = .ok (.d (.int (j : Int))) := by rw [hF]; rfl
      have q1 : vN 1 F = .ok L := by rw [hF]; rfl
      have hyj : ys[j]? = some (ys.getD j .non) := by rw [List.getD_eq_getElem?_getD, List.getElem?_eq_getElem hj']; rfl
      refine ⟨F, F, F, by rw [hE2, hF]; rfl, rfl, ?_, by rw [hE2, hF]; rfl⟩
      have r1 : sV (v2 oAdd (vN 3) (vIx (vC (.str (Str.ofString "bcaedg"))) (vN 4))) F = .ok (.d (.str (v ++ sl [[98, 99, 97, 101, 100, 103].getD j 0])), F) := by
        refine sV_eq (vcat q3 ?_ (by rw [sl_len, List.length_singleton]; omega))
        simp only [vIx, vC, q4, hbc]
        exact str_at' (by simp) (by simp; omega)
      have r2 : sV (vIx (vN 1) (vN 4)) F = .ok (.d (ys.getD j .non), F) := by
        have := ixL j _ hyj F q1
        simp only [vIx, vC, q1] at this
        refine sV_eq ?_
        simp only [vIx, q1, q4]
        exact this
      unfold sTup
      rw [sa2_eq r1 r2]
      simp [sizeLine_eq, mTup, isD, unD])
    have h2 := sLc_eq hr1 (by rw [sizeLine_eq, List.length_map, List.length_range]; omega) (by rw [hk4]; exact hm)
    have h3 : sTupOf (sLc [4] (siR1 (saCons (sV (vB bLen (vaCons (vN 1) (vaNil)))) (saNil))) (sgN 4) sbYes (sTup (saCons (sV (v2 oAdd (vN 3) (vIx (vC (.str (Str.ofString "bcaedg"))) (vN 4)))) (saCons (sV (vIx (vN 1) (vN 4))) (saNil))))) E2 = .ok (.d (.tup (fs.map fdD)), E2) := by
      unfold sTupOf
      rw [h2]
      simp only [List.nil_append, fz, fzs_map_d, itemsLT]
      rw [hfs, List.map_map]
      rfl
    refine ssRet_eq ?_
    exact sTup_eq (sa2_eq (kS "record" E2) h3) (by simp) (by simp [mTup, isD, unD])
  · have hyl := hl.2.2.2.2.2 (by omega)
    refine ⟨callD (sl w) ys, .call hyl (by rw [sl_len]; omega) hy, fin tk ?_⟩
    unfold b__law_made
    rw [if_skip c7, if_skip c8, if_skip c9, if_skip c10, if_skip ((kq 10).trans (by rw [decide_eq_false k10]))]
    have hb : brw L = some (false, ys) := by
      rw [hL]
      show (if (ys.map M.d).all isD = true then some (false, (ys.map M.d).map unD) else none) = _
      rw [if_pos (by simp [isD]), List.map_map]
      simp [unD, Function.comp_def]
    have nt : sTupV (vN 1) E = .ok (.d (.tup ys), E) := by simp only [sTupV, g1, hb]
    refine ssRet_eq ?_
    unfold sTup
    rw [sa3_eq (kS "call" E) nn nt]
    simp [sizeLine_eq, mTup, isD, unD]
theorem app_l {ys : List D} {y : D} (h : ys.length < 1000) : mAppend (lM ys) [.d y] = .ok (.d .non, lM (ys ++ [y])) := by
  have h1 : (ys.map M.d).length < sizeLine := by rw [sizeLine_eq, List.length_map]; omega
  simp only [mAppend, if_pos h1]
  simp
theorem pop_l {ys : List D} {y : D} : mPop (lM (ys ++ [y])) [] = .ok (.d y, lM ys) := by
  simp [mPop, List.getLast?_append, List.dropLast_append]
theorem len_l (ys : List D) : bLen [lM ys] = .ok (.int ys.length) := by simp [bLen, M.seq]
theorem snoc {α : Type} {l : List α} (h : l ≠ []) : ∃ a y, l = a ++ [y] := ⟨l.dropLast, l.getLast h, (List.dropLast_concat_getLast h).symm⟩
abbrev pE (hs : List D) (N : Option M) (kd f : Int) (z4 : Option M) (ps : List D) (z6 : Option M) : FL.Env := [some (lM hs), N, some (.d (.int kd)), some (.d (.int f)), z4, some (lM ps), z6]
theorem put_step {n : Nat} {hs ps : List D} {N z4 : Option M} {kd f k : Int} (hh : ∀ h ∈ hs, Tm n h) (hp : ∀ h ∈ ps, Tm n h) (hf : 0 ≤ f ∧ f < 2 ^ 40) (hk : 0 ≤ k ∧ k < 10) (hpl : ps.length < 500) :
    ∃ hs' y, (∀ h ∈ hs', Tm n h) ∧ Tm n y ∧ hs'.length ≤ hs.length ∧ fb__law_put_1 (pE hs N kd f z4 ps (some (.d (.int k)))) = .ok (.nx, pE hs' N kd f z4 (ps ++ [y]) (some (.d (.int k)))) := by
  obtain ⟨L, hL⟩ : ∃ L, L = lM hs := ⟨_, rfl⟩
  obtain ⟨Q, hQ⟩ : ∃ Q, Q = lM ps := ⟨_, rfl⟩
  obtain ⟨E, hE⟩ : ∃ E : FL.Env, E = [some L, N, some (.d (.int kd)), some (.d (.int f)), z4, some Q, some (.d (.int k))] := ⟨_, rfl⟩
  have g0 : getE E 0 = .ok L := by rw [hE]; rfl
  have g5 : getE E 5 = .ok Q := by rw [hE]; rfl
  have hb : bLen [L] = .ok (.int hs.length) := by rw [hL]; exact len_l hs
  have hc : sbE (sV (v2 oGt (vB bLen (vaCons (vN 0) (vaNil))) (vC (.int 0)))) E = .ok (decide (0 < (hs.length : Int)), E) := by
    simp only [sbE, sV, v2, vB, vaCons, vaNil, vN, vC, g0, hb, oGt_int]
  have hiQ : isLst Q = true := by rw [hQ]; rfl
  have hiL : isLst L = true := by rw [hL]; rfl
  have hEE : pE hs N kd f z4 ps (some (.d (.int k))) = E := by rw [hE, hL, hQ]
  unfold fb__law_put_1
  rw [hEE]
  by_cases q : hs = []
  · subst q
    have c3 : CFdiv f (k + 3) := fdivD (b := 10) (by omega) (by omega)
    have hq : 0 ≤ f / (k + 3) ∧ f / (k + 3) < 2 ^ 40 := by
      refine ⟨Int.ediv_nonneg hf.1 (by omega), ?_⟩
      have := Int.ediv_le_self (k + 3) hf.1
      omega
    obtain ⟨x, hx, e, hl⟩ := leaf_int hq
    refine ⟨[], x, hh, hx n, Nat.le_refl _, ?_⟩
    rw [ssIf_f (by rw [hc, decide_eq_false (by simp)])]
    have n3 : sV (v2 oFdiv (vN 3) (v2 oAdd (vN 6) (vC (.int 3)))) E = .ok (.d (.int (f / (k + 3))), E) := by
      have a3 : vN 3 E = .ok (.d (.int f)) := by rw [hE]; rfl
      have a6 : vN 6 E = .ok (.d (.int k)) := by rw [hE]; rfl
      simp only [sV, v2, vC, a3, a6, oAdd_int, oFdiv_int c3, fdivI_pos (show (0:Int) < k + 3 by omega)]
    have hap : mAppend Q [.d x] = .ok (.d .non, lM (ps ++ [x])) := by rw [hQ]; exact app_l (by omega)
    rw [ssDrop_eq (sMeth_eq g5 hiQ (sa1_eq (sCall_n (bk := [none]) (by decide) (sa1_eq n3) hl)) g5 hap), hE, hL]
    rfl
  · obtain ⟨a, y, rfl⟩ := snoc q
    have hlp : 0 < ((a ++ [y]).length : Int) := by rw [List.length_append, List.length_singleton]; omega
    refine ⟨a, y, fun h hm => hh h (by simp [hm]), hh y (by simp), by simp, ?_⟩
    rw [ssIf_t (by rw [hc, decide_eq_true hlp])]
    obtain ⟨E1, hE1⟩ : ∃ E1 : FL.Env, E1 = [some (lM a), N, some (.d (.int kd)), some (.d (.int f)), z4, some Q, some (.d (.int k))] := ⟨_, rfl⟩
    have hpop : mPop L [] = .ok (.d y, lM a) := by rw [hL]; exact pop_l
    have npop : sMeth isLst 0 mPop saNil E = .ok (.d y, E1) := by
      rw [sMeth_eq g0 hiL (saNil_eq _) g0 hpop, hE, hE1]
      rfl
    have hap : mAppend Q [.d y] = .ok (.d .non, lM (ps ++ [y])) := by rw [hQ]; exact app_l (by omega)
    have g5' : getE E1 5 = .ok Q := by rw [hE1]; rfl
    rw [ssDrop_eq (sMeth_eq g5 hiQ (sa1_eq npop) g5' hap), hE1]
    rfl
theorem put_int {n : Nat} {hs : List D} {v : Int} (hh : ∀ h ∈ hs, Tm n h) (hv : 0 ≤ v ∧ v < 2 ^ 40) (hl : hs.length < 100) :
    ∃ hs', (∀ h ∈ hs', Tm (n + 1) h) ∧ 0 < hs'.length ∧ hs'.length ≤ hs.length + 1 ∧ F__law_put [lM hs, .d (.int v)] = .ok (lM hs', [none, some (.d (.int v))]) := by
  obtain ⟨kd, hkd⟩ : ∃ k, k = v % 12 := ⟨_, rfl⟩
  obtain ⟨f, hf⟩ : ∃ f, f = v / 12 := ⟨_, rfl⟩
  have c12 : CFdiv v 12 := fdivD (b := 10) (by decide) (by decide)
  have hf0 : 0 ≤ f ∧ f < 2 ^ 40 := by omega
  obtain ⟨L, hL⟩ : ∃ L, L = lM hs := ⟨_, rfl⟩
  have hiL : isLst L = true := by rw [hL]; rfl
  obtain ⟨E, hE⟩ : ∃ E : FL.Env, E = [some L, some (.d (.int v)), some (.d (.int kd)), some (.d (.int f)), none, none, none] := ⟨_, rfl⟩
  have hstart : ∀ R : SS, b__law_put = ssSeq (ssSet 2 (sV (v2 oMod (vN 1) (vC (.int 12))))) (ssSeq (ssSet 3 (sV (v2 oFdiv (vN 1) (vC (.int 12))))) R) → b__law_put [some L, some (.d (.int v)), none, none, none, none, none] = R E := fun R hR => by
    rw [hR, ssSeq_nx (e := [some L, some (.d (.int v)), some (.d (.int kd)), none, none, none, none]) (by
      simp only [ssSet, sV, v2, vC, vN, getE, List.getElem?_cons_succ, List.getElem?_cons_zero, oMod_int (show (12:Int) ≠ 0 by decide), modI_pos (show (0:Int) < 12 by decide), ← hkd]
      rfl), ssSeq_nx (e := E) (by
      simp only [ssSet, sV, v2, vC, vN, getE, List.getElem?_cons_succ, List.getElem?_cons_zero, oFdiv_int c12, fdivI_pos (show (0:Int) < 12 by decide), ← hf]
      rw [hE]
      rfl)]
  have g2 : vN 2 E = .ok (.d (.int kd)) := by rw [hE]; rfl
  have g3 : vN 3 E = .ok (.d (.int f)) := by rw [hE]; rfl
  have n3 : sN 3 E = .ok (.d (.int f), E) := by rw [hE]; rfl
  have gL : getE E 0 = .ok L := by rw [hE]; rfl
  have hc : sbE (sV (v2 oLt (vN 2) (vC (.int 4)))) E = .ok (decide (kd < 4), E) := by
    simp only [sbE, sV, v2, vC, g2, oLt_int]
  rw [← hL]
  by_cases k4 : kd < 4
  · obtain ⟨x, hx, e, hlf⟩ := leaf_int hf0
    refine ⟨hs ++ [x], fun h hm => ?_, by simp, by simp, ?_⟩
    · rcases List.mem_append.mp hm with hm | hm
      · exact (hh h hm).up
      · simp at hm; subst hm; exact hx _
    have hap : mAppend L [.d x] = .ok (.d .non, lM (hs ++ [x])) := by rw [hL]; exact app_l (by omega)
    obtain ⟨E2, hE2⟩ : ∃ E : FL.Env, E = [none, some (.d (.int v)), some (.d (.int kd)), some (.d (.int f)), none, none, none] := ⟨_, rfl⟩
    have e2 : (killAll [] E2).take 2 = [none, some (.d (.int v))] := by rw [hE2]; rfl
    rw [← e2]
    refine runF_ret ?_
    refine (hstart _ rfl).trans ?_
    refine if_take (hc.trans (by rw [decide_eq_true k4])) ?_
    obtain ⟨E1, hE1⟩ : ∃ E : FL.Env, E = [some (lM (hs ++ [x])), some (.d (.int v)), some (.d (.int kd)), some (.d (.int f)), none, none, none] := ⟨_, rfl⟩
    rw [ssSeq_nx (e := E1) (by
      rw [ssDrop_eq (sMeth_eq gL hiL (sa1_eq (sCall_n (bk := [none]) (by decide) (sa1_eq n3) hlf)) gL hap), hE, hE1]
      rfl)]
    refine ssRet_eq ?_
    rw [hE1, hE2]
    rfl
  · obtain ⟨mn, hmn, hmn6, hix⟩ : ∃ mn : Nat, Lk kd mn ∧ mn ≤ 6 ∧ s2v oIdx (sLst (saCons (sV (vC (.int 2))) (saCons (sV (vC (.int 2))) (saCons (sV (vC (.int 2))) (saCons (sV (vC (.int 1))) (saCons (sV (vC (.int 1))) (saCons (sV (vC (.int 3))) (saCons (sV (v2 oAdd (vC (.int 1)) (v2 oMod (vN 3) (vC (.int 6))))) (saCons (sV (v2 oMod (vN 3) (vC (.int 4)))) (saNil)))))))))) (v2 oSub (vN 2) (vC (.int 4))) E = .ok (.d (.int (mn : Int)), E) := by
      obtain ⟨a, ha⟩ : ∃ a : Nat, (a : Int) = 1 + f % 6 := ⟨(1 + f % 6).toNat, by omega⟩
      obtain ⟨b, hb⟩ : ∃ b : Nat, (b : Int) = f % 4 := ⟨(f % 4).toNat, by omega⟩
      have hl8 : sLst (saCons (sV (vC (.int 2))) (saCons (sV (vC (.int 2))) (saCons (sV (vC (.int 2))) (saCons (sV (vC (.int 1))) (saCons (sV (vC (.int 1))) (saCons (sV (vC (.int 3))) (saCons (sV (v2 oAdd (vC (.int 1)) (v2 oMod (vN 3) (vC (.int 6))))) (saCons (sV (v2 oMod (vN 3) (vC (.int 4)))) (saNil))))))))) E = .ok (.lst [.d (.int 2), .d (.int 2), .d (.int 2), .d (.int 1), .d (.int 1), .d (.int 3), .d (.int a), .d (.int b)], E) := by
        simp only [sLst, saCons, saNil, sV, v2, vC, g3, oMod_int (show (6:Int) ≠ 0 by decide), modI_pos (show (0:Int) < 6 by decide), oMod_int (show (4:Int) ≠ 0 by decide), modI_pos (show (0:Int) < 4 by decide), oAdd_int, ← ha, ← hb]
        simp [sizeLine_eq]
      have hsub : v2 oSub (vN 2) (vC (.int 4)) E = .ok (.d (.int (kd - 4))) := by simp only [v2, vC, g2, oSub_int]
      rcases (show kd = 4 ∨ kd = 5 ∨ kd = 6 ∨ kd = 7 ∨ kd = 8 ∨ kd = 9 ∨ kd = 10 ∨ kd = 11 by omega) with q | q | q | q | q | q | q | q
      · exact ⟨2, ⟨by omega, by omega, by omega, by omega, by omega, by omega⟩, by omega, s2v_eq hl8 hsub (by rw [q]; rfl)⟩
      · exact ⟨2, ⟨by omega, by omega, by omega, by omega, by omega, by omega⟩, by omega, s2v_eq hl8 hsub (by rw [q]; rfl)⟩
      · exact ⟨2, ⟨by omega, by omega, by omega, by omega, by omega, by omega⟩, by omega, s2v_eq hl8 hsub (by rw [q]; rfl)⟩
      · exact ⟨1, ⟨by omega, by omega, by omega, by omega, by omega, by omega⟩, by omega, s2v_eq hl8 hsub (by rw [q]; rfl)⟩
      · exact ⟨1, ⟨by omega, by omega, by omega, by omega, by omega, by omega⟩, by omega, s2v_eq hl8 hsub (by rw [q]; rfl)⟩
      · exact ⟨3, ⟨by omega, by omega, by omega, by omega, by omega, by omega⟩, by omega, s2v_eq hl8 hsub (by rw [q]; rfl)⟩
      · exact ⟨a, ⟨by omega, by omega, by omega, by omega, by omega, by omega⟩, by omega, s2v_eq hl8 hsub (by rw [q]; rfl)⟩
      · exact ⟨b, ⟨by omega, by omega, by omega, by omega, by omega, by omega⟩, by omega, s2v_eq hl8 hsub (by rw [q]; rfl)⟩
    obtain ⟨e', h1, hs', ps, z6, ⟨hh', hp', hlh, hlp, _⟩, rfl⟩ := fl_all (g := fg__law_put_1) (b := fb__law_put_1) D.int
      (fun ks env => ∃ hs' ps z6, ((∀ h ∈ hs', Tm n h) ∧ (∀ h ∈ ps, Tm n h) ∧ hs'.length ≤ hs.length ∧ ps.length + ks.length = mn ∧ ∀ k ∈ ks, 0 ≤ k ∧ k < 10) ∧ env = pE hs' (some (.d (.int v))) kd f (some (.d (.int (mn : Int)))) ps z6)
      (fun k rest env hI => by
        obtain ⟨hs', ps, z6, ⟨h1, h2, h3, h4, h5⟩, rfl⟩ := hI
        simp only [List.length_cons] at h4
        obtain ⟨hs2, y, q1, q2, q3, q4⟩ := put_step (N := some (.d (.int v))) (z4 := some (.d (.int (mn : Int)))) (kd := kd) h1 h2 hf0 (h5 k (by simp)) (by omega)
        refine ⟨pE hs' (some (.d (.int v))) kd f (some (.d (.int (mn : Int)))) ps (some (.d (.int k))), _, .nx, rfl, q4, .inl rfl, _, _, _, ⟨q1, fun h hm => ?_, by omega, by simp; omega, fun i hi => h5 i (by simp [hi])⟩, rfl⟩
        rcases List.mem_append.mp hm with hm | hm
        · exact h2 h hm
        · simp at hm; subst hm; exact q2)
      ((List.range mn).map fun (i : Nat) => (i : Int)) (pE hs (some (.d (.int v))) kd f (some (.d (.int (mn : Int)))) [] none) ⟨hs, [], none, ⟨hh, (fun h hm => nomatch hm), Nat.le_refl _, by simp, fun j hj => by have := range_in j hj; omega⟩, rfl⟩
    simp only [List.length_nil, Nat.add_zero] at hlp
    rw [← hlp] at hmn
    obtain ⟨x, hx, hmd⟩ := made_int (f := f) hp' hmn ⟨by omega, by omega⟩ hf0
    refine ⟨hs' ++ [x], fun h hm => ?_, by simp, by simp; omega, ?_⟩
    · rcases List.mem_append.mp hm with hm | hm
      · exact (hh' h hm).up
      · simp at hm; subst hm; exact hx
    obtain ⟨P, hP⟩ : ∃ P, P = lM ps := ⟨_, rfl⟩
    obtain ⟨E2, hE2⟩ : ∃ E : FL.Env, E = [none, some (.d (.int v)), some (.d (.int kd)), some (.d (.int f)), some (.d (.int (mn : Int))), some P, z6] := ⟨_, rfl⟩
    have e2 : (killAll [] E2).take 2 = [none, some (.d (.int v))] := by rw [hE2]; rfl
    rw [← e2]
    refine runF_ret ?_
    refine (hstart _ rfl).trans ?_
    rw [if_skip (hc.trans (by rw [decide_eq_false k4]))]
    rw [ssSeq_nx (ssSet_eq (i := 4) hix (by rw [hE]; show (4:Nat) < 7; decide)), hE]
    show ssSeq _ _ [some L, some (.d (.int v)), some (.d (.int kd)), some (.d (.int f)), some (.d (.int (mn : Int))), none, none] = _
    rw [ssSeq_nx (e := [some L, some (.d (.int v)), some (.d (.int kd)), some (.d (.int f)), some (.d (.int (mn : Int))), some (lM []), none]) (by simp [ssSet, sLst, saNil])]
    rw [hL]
    have hr : C62 (mn : Int) := ⟨by omega, by omega⟩
    have hr1 : siR1 (saCons (sN 4) (saNil)) (pE hs (some (.d (.int v))) kd f (some (.d (.int (mn : Int)))) [] none) = .ok (((List.range mn).map fun (i : Nat) => (i : Int)).map D.int, pE hs (some (.d (.int v))) kd f (some (.d (.int (mn : Int)))) [] none) := by
      simp only [siR1, saCons, saNil, sN, getE, List.getElem?_cons_succ, List.getElem?_cons_zero, fz, if_pos hr, Int.toNat_natCast, range_D]
    rw [ssSeq_nx ((ssFor_eq hr1).trans h1)]
    obtain ⟨H, hH⟩ : ∃ H, H = lM hs' := ⟨_, rfl⟩
    have hiH : isLst H = true := by rw [hH]; rfl
    obtain ⟨F, hF⟩ : ∃ E : FL.Env, E = [some H, some (.d (.int v)), some (.d (.int kd)), some (.d (.int f)), some (.d (.int (mn : Int))), some P, z6] := ⟨_, rfl⟩
    obtain ⟨F1, hF1⟩ : ∃ E : FL.Env, E = [some H, some (.d (.int v)), some (.d (.int kd)), some (.d (.int f)), some (.d (.int (mn : Int))), none, z6] := ⟨_, rfl⟩
    have hFF : pE hs' (some (.d (.int v))) kd f (some (.d (.int (mn : Int)))) ps z6 = F := by rw [hF, hH, hP]
    rw [hFF]
    rw [← hP] at hmd
    have m2 : sN 2 F = .ok (.d (.int kd), F) := by rw [hF]; rfl
    have m5 : sT 5 F = .ok (P, F1) := by rw [hF, hF1]; rfl
    have m3 : sN 3 F1 = .ok (.d (.int f), F1) := by rw [hF1]; rfl
    have hcall : sCall F__law_made [none, some 5, none] (saCons (sN 2) (saCons (sT 5) (saCons (sN 3) (saNil)))) F = .ok (.d x, F) := by
      rw [sCall_eq (sa3_eq m2 m5 m3) hmd, hF1, hF]
      rfl
    have gH : getE F 0 = .ok H := by rw [hF]; rfl
    have hap : mAppend H [.d x] = .ok (.d .non, lM (hs' ++ [x])) := by rw [hH]; exact app_l (by omega)
    rw [ssSeq_nx (ssDrop_eq (sMeth_eq gH hiH (sa1_eq hcall) gH hap)), hF]
    refine ssRet_eq ?_
    rw [hE2]
    rfl
abbrev iL (xs : List Int) : M := .lst (xs.map fun i => .d (.int i))
abbrev stE (c m : Int) (xs : List Int) (v : Int) (z : Option M) : FL.Env := [some (.d (.int c)), some (.d (.int m)), some (iL xs), some (.d (.int v)), z]
theorem stream_step {c m v k : Int} {xs : List Int} (hv : 0 ≤ v ∧ v < 2 ^ 32) (hk : 0 ≤ k ∧ k < 10) (hl : xs.length < 100) :
    ∃ v', (0 ≤ v' ∧ v' < 2147483647) ∧ fb__law_stream_1 (stE c m xs v (some (.d (.int k)))) = .ok (.nx, stE c m (xs ++ [v']) v' (some (.d (.int k)))) := by
  have c1 : CMulD v v := mulD (a := 33) (b := 33) (by omega) (by omega)
  have c2 : CMulD 48271 v := mulD (a := 17) (b := 33) (by decide) (by omega)
  have c3 : CMulD k k := mulD (a := 8) (b := 8) (by omega) (by omega)
  obtain ⟨v', hv'⟩ : ∃ v', v' = (v * v + 48271 * v + k * k) % 2147483647 := ⟨_, rfl⟩
  have p0 := Int.emod_nonneg (v * v + 48271 * v + k * k) (show (2147483647:Int) ≠ 0 by decide)
  have p1 := Int.emod_lt_of_pos (v * v + 48271 * v + k * k) (show (0:Int) < 2147483647 by decide)
  rw [← hv'] at p0 p1
  refine ⟨v', ⟨p0, p1⟩, ?_⟩
  unfold fb__law_stream_1
  obtain ⟨L, hL⟩ : ∃ L, L = iL xs := ⟨_, rfl⟩
  rw [ssSeq_nx (e := stE c m xs v' (some (.d (.int k)))) (by
    simp only [ssSet, sV, v2, vC, vN, getE, stE, List.getElem?_cons_succ, List.getElem?_cons_zero, oMul_int c1, oMul_int c2, oMul_int c3, oAdd_int, oMod_int (show (2147483647:Int) ≠ 0 by decide), modI_pos (show (0:Int) < 2147483647 by decide), ← hv']
    rfl)]
  obtain ⟨E, hE⟩ : ∃ E, E = stE c m xs v' (some (.d (.int k))) := ⟨_, rfl⟩
  have g2 : getE E 2 = .ok (iL xs) := by rw [hE]; rfl
  have n3 : sN 3 E = .ok (.d (.int v'), E) := by rw [hE]; rfl
  have hap : mAppend (iL xs) [.d (.int v')] = .ok (.d .non, iL (xs ++ [v'])) := by
    have h1 : (xs.map fun i => M.d (.int i)).length < sizeLine := by rw [sizeLine_eq, List.length_map]; omega
    simp only [mAppend, if_pos h1]
    simp
  rw [← hE, ssDrop_eq (sMeth_eq g2 rfl (sa1_eq n3) g2 hap), hE]
  rfl
theorem stream_int {c m : Int} (hm : 0 ≤ m ∧ m < 10) : ∃ xs : List Int, xs.length = m.toNat ∧ (∀ x ∈ xs, 0 ≤ x ∧ x < 2147483647) ∧ ∃ e, F__law_stream [.d (.int c), .d (.int m)] = .ok (iL xs, e) := by
  obtain ⟨v, hv⟩ : ∃ v, v = c % 2147483647 + 48271 := ⟨_, rfl⟩
  have hv0 : 0 ≤ v ∧ v < 2 ^ 32 := by omega
  obtain ⟨e', h1, xs, v', z4, ⟨hx, hl, _, _⟩, rfl⟩ := fl_all (g := fg__law_stream_1) (b := fb__law_stream_1) D.int
    (fun ks env => ∃ xs v' z4, ((∀ x ∈ xs, 0 ≤ x ∧ x < 2147483647) ∧ xs.length + ks.length = m.toNat ∧ (0 ≤ v' ∧ v' < 2 ^ 32) ∧ ∀ k ∈ ks, 0 ≤ k ∧ k < 10) ∧ env = stE c m xs v' z4)
    (fun k rest env hI => by
      obtain ⟨xs, v', z4, ⟨h1, h2, h3, h4⟩, rfl⟩ := hI
      simp only [List.length_cons] at h2
      obtain ⟨v2', q1, q2⟩ := stream_step (c := c) (m := m) (xs := xs) h3 (h4 k (by simp)) (by omega)
      refine ⟨stE c m xs v' (some (.d (.int k))), _, .nx, rfl, q2, .inl rfl, _, _, _, ⟨fun x hx => ?_, by simp; omega, by omega, fun i hi => h4 i (by simp [hi])⟩, rfl⟩
      rcases List.mem_append.mp hx with hx | hx
      · exact h1 x hx
      · simp at hx; subst hx; exact q1)
    ((List.range m.toNat).map fun (i : Nat) => (i : Int)) (stE c m [] v none) ⟨[], v, none, ⟨(fun x h => nomatch h), by simp, hv0, fun j hj => by have := range_in j hj; omega⟩, rfl⟩
  simp only [List.length_nil, Nat.add_zero] at hl
  refine ⟨xs, hl, hx, _, runF_ret (m := iL xs) (e := [some (.d (.int c)), some (.d (.int m)), none, some (.d (.int v')), z4]) ?_⟩
  unfold b__law_stream
  show ssSeq _ _ [some (.d (.int c)), some (.d (.int m)), none, none, none] = _
  rw [ssSeq_nx (e := [some (.d (.int c)), some (.d (.int m)), some (iL []), none, none]) (by simp [ssSet, sLst, saNil])]
  rw [ssSeq_nx (e := stE c m [] v none) (by
    simp only [ssSet, sV, v2, vC, vN, getE, List.getElem?_cons_succ, List.getElem?_cons_zero, oMod_int (show (2147483647:Int) ≠ 0 by decide), modI_pos (show (0:Int) < 2147483647 by decide), oAdd_int, ← hv]
    rfl)]
  have hr : C62 m := ⟨by omega, by omega⟩
  have hr1 : siR1 (saCons (sN 1) (saNil)) (stE c m [] v none) = .ok (((List.range m.toNat).map fun (i : Nat) => (i : Int)).map D.int, stE c m [] v none) := by
    simp only [siR1, saCons, saNil, sN, getE, stE, List.getElem?_cons_succ, List.getElem?_cons_zero, fz, if_pos hr, range_D]
  rw [ssSeq_nx ((ssFor_eq hr1).trans h1)]
  rfl
theorem tx_leaf {x : D} (h : Tm 0 x) : ∃ z w lv, (∀ n, TX n x z w lv) ∧ z ≤ 1000 := by
  cases h with
  | num h => exact ⟨_, _, _, fun n => tx_num h, by omega⟩
  | name h => exact ⟨_, _, _, fun n => tx_name h, by omega⟩
  | flip h h' => exact ⟨_, _, _, fun n => tx_flip h h', by omega⟩
  | pick h h' => exact ⟨_, _, _, fun n => tx_pick h h', by omega⟩
abbrev gE (c : Int) (X : M) (hs : List D) (z4 z5 : Option M) : FL.Env := [some (.d (.int c)), some (.d (.int 4)), some X, some (lM hs), z4, z5]
theorem grow_step {n : Nat} {c : Int} {X : M} {hs : List D} {v : Int} {z5 : Option M} (hh : ∀ h ∈ hs, Tm n h) (hv : 0 ≤ v ∧ v < 2147483647) (hl : hs.length < 100) :
    ∃ hs', (∀ h ∈ hs', Tm (n + 1) h) ∧ 0 < hs'.length ∧ hs'.length ≤ hs.length + 1 ∧ fb__law_grown_1 (gE c X hs (some (.d (.int v))) z5) = .ok (.nx, gE c X hs' (some (.d (.int v))) z5) := by
  obtain ⟨hs', h1, h2, h3, h4⟩ := put_int (v := v) hh ⟨hv.1, by omega⟩ hl
  refine ⟨hs', h1, h2, h3, ?_⟩
  obtain ⟨L, hL⟩ : ∃ L, L = lM hs := ⟨_, rfl⟩
  obtain ⟨E, hE⟩ : ∃ E : FL.Env, E = [some (.d (.int c)), some (.d (.int 4)), some X, some L, some (.d (.int v)), z5] := ⟨_, rfl⟩
  obtain ⟨E1, hE1⟩ : ∃ E : FL.Env, E = [some (.d (.int c)), some (.d (.int 4)), some X, none, some (.d (.int v)), z5] := ⟨_, rfl⟩
  have hEE : gE c X hs (some (.d (.int v))) z5 = E := by rw [hE, hL]
  rw [← hL] at h4
  have n3 : sT 3 E = .ok (L, E1) := by rw [hE, hE1]; rfl
  have n4 : sN 4 E1 = .ok (.d (.int v), E1) := by rw [hE1]; rfl
  have hcall : sCall F__law_put [some 3, none] (saCons (sT 3) (saCons (sN 4) (saNil))) E = .ok (lM hs', E1) := by
    rw [sCall_eq (sa2_eq n3 n4) h4, hE1]
    rfl
  unfold fb__law_grown_1
  rw [hEE, ssSet_eq (i := 3) hcall (by rw [hE1]; show (3:Nat) < 6; decide), hE1]
  rfl
theorem fold_loop {c : Int} {X : M} {z4 : Option M} : ∀ (k n : Nat) (hs : List D) (z5 : Option M), hs.length = k + 1 → hs.length < 100 → (∀ h ∈ hs, Tm n h) → ∃ x z5', Tm (n + k) x ∧ ssWhile wc__law_grown_2 wb__law_grown_2 (gE c X hs z4 z5) = .ok (.nx, gE c X [x] z4 z5')
  | 0, n, hs, z5, hl, _, hh => by
    obtain ⟨x, rfl⟩ : ∃ x, hs = [x] := by
      match hs, hl with
      | [x], _ => exact ⟨x, rfl⟩
    refine ⟨x, z5, hh x (by simp), ssWhile_end (e := gE c X [x] z4 z5) ?_⟩
    unfold wc__law_grown_2
    have g : vN 3 (gE c X [x] z4 z5) = .ok (lM [x]) := rfl
    have hb := len_l [x]
    simp only [sbE, sV, v2, vB, vaCons, vaNil, vC, g, hb, oGt_int]
    rfl
  | k + 1, n, hs, z5, hl, hl2, hh => by
    obtain ⟨a1, y, rfl⟩ := snoc (l := hs) (by intro h; rw [h] at hl; simp at hl)
    simp only [List.length_append, List.length_singleton] at hl
    obtain ⟨a, b, rfl⟩ := snoc (l := a1) (by intro h; rw [h] at hl; simp at hl)
    simp only [List.length_append, List.length_singleton] at hl
    obtain ⟨s, lv, hs, hix⟩ := sg5' (j := ((a ++ [b]).length : Int) % 5) (by omega)
    obtain ⟨x, z5', q1, q2⟩ := fold_loop (c := c) (X := X) (z4 := z4) k (n + 1) (a ++ [opD s b y]) (some (.d y)) (by simp; omega) (by simp at hl2 ⊢; omega) (fun h hm => by
      rcases List.mem_append.mp hm with hm | hm
      · exact (hh h (by simp [hm])).up
      · simp at hm; subst hm; exact .op hs (hh b (by simp)) (hh y (by simp)))
    refine ⟨x, z5', by rw [show n + (k + 1) = n + 1 + k by omega]; exact q1, ?_⟩
    obtain ⟨L, hL⟩ : ∃ L, L = lM (a ++ [b] ++ [y]) := ⟨_, rfl⟩
    obtain ⟨L1, hL1⟩ : ∃ L, L = lM (a ++ [b]) := ⟨_, rfl⟩
    obtain ⟨E, hE⟩ : ∃ E : FL.Env, E = [some (.d (.int c)), some (.d (.int 4)), some X, some L, z4, z5] := ⟨_, rfl⟩
    obtain ⟨E1, hE1⟩ : ∃ E : FL.Env, E = [some (.d (.int c)), some (.d (.int 4)), some X, some L1, z4, some (.d y)] := ⟨_, rfl⟩
    obtain ⟨E2, hE2⟩ : ∃ E : FL.Env, E = [some (.d (.int c)), some (.d (.int 4)), some X, some (lM a), z4, some (.d y)] := ⟨_, rfl⟩
    have hEE : gE c X (a ++ [b] ++ [y]) z4 z5 = E := by rw [hE, hL]
    have hiL : isLst L = true := by rw [hL]; rfl
    have hiL1 : isLst L1 = true := by rw [hL1]; rfl
    have g3 : getE E 3 = .ok L := by rw [hE]; rfl
    have g31 : getE E1 3 = .ok L1 := by rw [hE1]; rfl
    have p1 : mPop L [] = .ok (.d y, L1) := by rw [hL, hL1]; exact pop_l
    have p2 : mPop L1 [] = .ok (.d b, lM a) := by rw [hL1]; exact pop_l
    have hb : bLen [L] = .ok (.int ((a ++ [b] ++ [y]).length : Int)) := by rw [hL]; exact len_l _
    have hb1 : bLen [L1] = .ok (.int ((a ++ [b]).length : Int)) := by rw [hL1]; exact len_l _
    have hbody : wb__law_grown_2 E = .ok (.nx, gE c X (a ++ [opD s b y]) z4 (some (.d y))) := by
      unfold wb__law_grown_2
      rw [ssSeq_nx (e := E1) (by
        rw [ssSet_eq (i := 5) (sMeth_eq g3 hiL (saNil_eq _) g3 p1) (by rw [hE]; show (5:Nat) < 6; decide), hE, hE1]
        rfl)]
      have m1 : sV (vIx (vC (.str (Str.ofString "*-+<="))) (v2 oMod (vB bLen (vaCons (vN 3) (vaNil))) (vC (.int 5)))) E1 = .ok (.d (S_ s), E1) := by
        refine sV_eq ?_
        simp only [vIx, vC, v2, vB, vaCons, vaNil, vN, g31, hb1, oMod_int (show (5:Int) ≠ 0 by decide), modI_pos (show (0:Int) < 5 by decide), hix]
      have m2 : sMeth isLst 3 mPop saNil E1 = .ok (.d b, E2) := by
        rw [sMeth_eq g31 hiL1 (saNil_eq _) g31 p2, hE1, hE2]
        rfl
      have m3 : sN 5 E2 = .ok (.d y, E2) := by rw [hE2]; rfl
      have m0 : sV (vC (.str (Str.ofString "op"))) E1 = .ok (.d (S_ "op"), E1) := rfl
      have mt := sTup_eq (x := opD s b y) (saCons_eq m0 (sa3_eq m1 m2 m3)) (by simp) (by simp [mTup, isD, unD])
      have g32 : getE E2 3 = .ok (lM a) := by rw [hE2]; rfl
      have hap : mAppend (lM a) [.d (opD s b y)] = .ok (.d .non, lM (a ++ [opD s b y])) := app_l (by simp at hl2; omega)
      rw [ssDrop_eq (sMeth_eq g31 hiL1 (sa1_eq mt) g32 hap), hE2]
      rfl
    rw [hEE, ssWhile_go (e := E) (e2 := gE c X (a ++ [opD s b y]) z4 (some (.d y))) (fl := .nx) (by
      unfold wc__law_grown_2
      simp only [sbE, sV, v2, vB, vaCons, vaNil, vN, vC, g3, hb, oGt_int]
      rw [decide_eq_true (by simp only [List.length_append, List.length_singleton]; omega)]) hbody (.inl rfl)]
    exact q2
/-! ### plain data -/
def Sm : Nat → D → Prop
  | 0, _ => False
  | n + 1, .tup xs => xs.length ≤ 1000 ∧ ∀ y ∈ xs, Sm n y
  | n + 1, .lst xs => xs.length ≤ 1000 ∧ ∀ y ∈ xs, Sm n y
  | _ + 1, .int _ => True
  | _ + 1, .non => True
  | _ + 1, .str _ => True
  | _ + 1, _ => False
theorem Sm.up : ∀ (n : Nat) (x : D), Sm n x → Sm (n + 1) x
  | 0, _, h => h.elim
  | n + 1, .tup xs, h => ⟨h.1, fun y hy => Sm.up n y (h.2 y hy)⟩
  | n + 1, .lst xs, h => ⟨h.1, fun y hy => Sm.up n y (h.2 y hy)⟩
  | n + 1, .int i, _ => trivial
  | n + 1, .non, _ => trivial
  | n + 1, .str x, h => h
theorem Sm.mono {n m : Nat} {x : D} (h : Sm n x) (hm : n ≤ m) : Sm m x := by
  obtain ⟨k, rfl⟩ : ∃ k, m = n + k := ⟨m - n, by omega⟩
  clear hm
  induction k with
  | zero => exact h
  | succ k ih => exact Sm.up _ _ ih
mutual
theorem Sm.pl : ∀ (n : Nat) (x : D), Sm n x → (toPy x).plain = true ∧ (toPy x).depth ≤ n ∧ PyData.eqv (toPy x) (toPy x) = true
  | 0, _, h => h.elim
  | n + 1, .tup xs, h => by
    obtain ⟨a, b, c⟩ := Sm.pls n xs h.2
    exact ⟨by simp only [toPy, PyData.plain]; exact a, by simp only [toPy, PyData.depth]; omega, by simp only [toPy, PyData.eqv]; exact c⟩
  | n + 1, .lst xs, h => by
    obtain ⟨a, b, c⟩ := Sm.pls n xs h.2
    exact ⟨by simp only [toPy, PyData.plain]; exact a, by simp only [toPy, PyData.depth]; omega, by simp only [toPy, PyData.eqv]; exact c⟩
  | n + 1, .int i, _ => ⟨rfl, by simp [toPy, PyData.depth], by simp [toPy, PyData.eqv]⟩
  | n + 1, .non, _ => ⟨rfl, by simp [toPy, PyData.depth], by simp [toPy, PyData.eqv]⟩
  | n + 1, .str x, _ => ⟨rfl, by simp [toPy, PyData.depth], by simp [toPy, PyData.eqv]⟩
theorem Sm.pls : ∀ (n : Nat) (xs : List D), (∀ y ∈ xs, Sm n y) → PyData.plainAll (toPys xs) = true ∧ PyData.depthAll (toPys xs) ≤ n ∧ PyData.eqvAll (toPys xs) (toPys xs) = true
  | n, [], _ => by simp [toPys, PyData.plainAll, PyData.depthAll, PyData.eqvAll]
  | n, x :: xs, h => by
    obtain ⟨a, b, c⟩ := Sm.pl n x (h x (by simp))
    obtain ⟨a', b', c'⟩ := Sm.pls n xs fun y hy => h y (by simp [hy])
    refine ⟨?_, ?_, ?_⟩
    · simp only [toPys, PyData.plainAll, a, a', Bool.and_self]
    · simp only [toPys, PyData.depthAll]; omega
    · simp only [toPys, PyData.eqvAll, c, c', Bool.and_self]
end
theorem sm_eq {n : Nat} {x : D} {m1 m2 : M} (h : Sm n x) (hn : n ≤ 60) (h1 : fz m1 = x) (h2 : fz m2 = x) : oEq m1 m2 = .ok (.bl true) := by
  obtain ⟨a, b, c⟩ := Sm.pl n x h
  unfold oEq
  rw [h1, h2, if_pos ⟨a, a, by omega⟩]
  simp [eqD, c]
theorem sm2 {n : Nat} {xs : List D} (hl : xs.length ≤ 1000) (h : ∀ y ∈ xs, Sm n y) : Sm (n + 1) (.tup xs) := ⟨hl, h⟩
theorem tm_sm {n : Nat} {x : D} (h : Tm n x) : Sm (3 * n + 4) x := by
  have cs : ∀ {m : Nat} {a b : D}, Sm m a → Sm m b → ∀ y ∈ [a, b], Sm m y := fun h1 h2 y hy => by
    simp only [List.mem_cons, List.not_mem_nil, or_false] at hy
    rcases hy with rfl | rfl <;> assumption
  induction h with
  | num _ => exact sm2 (by simp) (cs trivial trivial)
  | name _ => exact sm2 (by simp) (cs trivial trivial)
  | flip _ _ =>
    refine sm2 (by simp) fun y hy => ?_
    simp only [List.mem_cons, List.not_mem_nil, or_false] at hy
    rcases hy with rfl | rfl | rfl <;> trivial
  | pick hl _ =>
    refine sm2 (by simp) (cs trivial ?_)
    refine ⟨by rw [List.length_map]; omega, fun y hy => ?_⟩
    obtain ⟨p, _, rfl⟩ := List.mem_map.mp hy
    exact ⟨by simp, cs trivial trivial⟩
  | @op m s l a b _ _ _ i j =>
    have i' := i.mono (m := 3 * (m + 1) + 3) (by omega)
    have j' := j.mono (m := 3 * (m + 1) + 3) (by omega)
    refine sm2 (by simp) fun y hy => ?_
    simp only [List.mem_cons, List.not_mem_nil, or_false] at hy
    rcases hy with rfl | rfl | rfl | rfl
    · trivial
    · trivial
    · exact i'
    · exact j'
  | @field m a w _ _ i =>
    have i' := i.mono (m := 3 * (m + 1) + 3) (by omega)
    refine sm2 (by simp) fun y hy => ?_
    simp only [List.mem_cons, List.not_mem_nil, or_false] at hy
    rcases hy with rfl | rfl | rfl
    · trivial
    · exact i'
    · trivial
  | @rest m a v _ _ i =>
    have i' := i.mono (m := 3 * (m + 1) + 3) (by omega)
    refine sm2 (by simp) fun y hy => ?_
    simp only [List.mem_cons, List.not_mem_nil, or_false] at hy
    rcases hy with rfl | rfl | rfl
    · trivial
    · exact i'
    · trivial
  | @iff m a b c _ _ _ i j k =>
    have i' := i.mono (m := 3 * (m + 1) + 3) (by omega)
    have j' := j.mono (m := 3 * (m + 1) + 3) (by omega)
    have k' := k.mono (m := 3 * (m + 1) + 3) (by omega)
    refine sm2 (by simp) fun y hy => ?_
    simp only [List.mem_cons, List.not_mem_nil, or_false] at hy
    rcases hy with rfl | rfl | rfl | rfl
    · trivial
    · exact i'
    · exact j'
    · exact k'
  | @rcd m fs hl _ _ i =>
    refine sm2 (by simp) (cs trivial ?_)
    refine ⟨by rw [List.length_map]; omega, fun y hy => ?_⟩
    obtain ⟨p, hp, rfl⟩ := List.mem_map.mp hy
    exact ⟨by simp, cs trivial (i p hp)⟩
  | @call m w xs hl _ _ i =>
    refine sm2 (by simp) fun y hy => ?_
    simp only [List.mem_cons, List.not_mem_nil, or_false] at hy
    rcases hy with rfl | rfl | rfl
    · trivial
    · trivial
    · exact ⟨by omega, fun y hy => (i y hy).mono (by omega)⟩
/-! ### a body -/
structure GB (x : D) : Prop where
  tm : Tm 8 x
  tx : ∃ z w lv, TX 8 x z w lv ∧ z ≤ 1000
theorem grown_int {c : Int} (hc : 0 ≤ c ∧ c < 2 ^ 60) : ∃ x, GB x ∧ ∃ e, F__law_grown [.d (.int c), .d (.int 4)] = .ok (.d x, e) := by
  have c1 : CMulD c 69621 := mulD (a := 61) (b := 17) (by omega) (by decide)
  obtain ⟨mn, hmn⟩ : ∃ v, v = 1 + c * 69621 % 2147483629 % 5 := ⟨_, rfl⟩
  have hm0 : 1 ≤ mn ∧ mn < 6 := by omega
  obtain ⟨xs, hxl, hxs, es, hst⟩ := stream_int (c := c) (m := mn) (by omega)
  obtain ⟨x0, xr, rfl⟩ : ∃ a r, xs = a :: r := by
    match xs, hxl with
    | [], h => simp at h; omega
    | a :: r, _ => exact ⟨a, r, rfl⟩
  simp only [List.length_cons] at hxl
  have h0 := hxs x0 (by simp)
  obtain ⟨lf, hlf, el, hle⟩ := leaf_int (f := x0) ⟨h0.1, by omega⟩
  obtain ⟨X, hX⟩ : ∃ X, X = iL (x0 :: xr) := ⟨_, rfl⟩
  rw [← hX] at hst
  have hix0 : mIdx X (.d (.int 0)) = .ok (.d (.int x0)) := by
    rw [hX]
    have e : atI ((x0 :: xr).map fun i => M.d (.int i)) 0 = some (.d (.int x0)) := by
      rw [atI_pos (by decide) (by simp only [List.length_map, List.length_cons]; omega)]
      rfl
    simp only [mIdx, M.seq, e]
  obtain ⟨e', h1, t, hs, z4, ⟨q1, q2, q3, q4, _⟩, rfl⟩ := fl_all (g := fg__law_grown_1) (b := fb__law_grown_1) D.int
    (fun ks env => ∃ t hs z4, ((∀ h ∈ hs, Tm t h) ∧ 0 < hs.length ∧ hs.length ≤ t + 1 ∧ t + ks.length ≤ 4 ∧ ∀ k ∈ ks, 0 ≤ k ∧ k < 2147483647) ∧ env = gE c X hs z4 none)
    (fun k rest env hI => by
      obtain ⟨t, hs, z4, ⟨q1, q2, q3, q4, q5⟩, rfl⟩ := hI
      simp only [List.length_cons] at q4
      obtain ⟨hs', r1, r2, r3, r4⟩ := grow_step (c := c) (X := X) (z5 := none) q1 (q5 k (by simp)) (by omega)
      exact ⟨gE c X hs (some (.d (.int k))) none, _, .nx, rfl, r4, .inl rfl, t + 1, hs', _, ⟨r1, r2, by omega, by omega, fun i hi => q5 i (by simp [hi])⟩, rfl⟩)
    xr (gE c X [lf] none none) ⟨0, [lf], none, ⟨fun h hm => by simp at hm; subst hm; exact hlf 0, by simp, by simp, by omega, fun i hi => hxs i (by simp [hi])⟩, rfl⟩
  simp only [List.length_nil, Nat.add_zero] at q4
  obtain ⟨x, z5', r1, r2⟩ := fold_loop (c := c) (X := X) (z4 := z4) (hs.length - 1) t hs none (by omega) (by omega) q1
  have hx8 : Tm 8 x := r1.mono (by omega)
  obtain ⟨z, w, lv, ht⟩ := tx_all 8 x hx8
  obtain ⟨esz, hsz⟩ := ht.sz 24 (by omega)
  obtain ⟨E, hE⟩ : ∃ E : FL.Env, E = [some (.d (.int c)), some (.d (.int 4)), some X, some (lM [x]), z4, z5'] := ⟨_, rfl⟩
  have hc4 : sbE (s2v oGt (sCall (F__law_size 24) [none] (saCons (sV (vIx (vN 3) (vC (.int 0)))) (saNil))) (vC (.int 44))) E = .ok (decide ((44 : Int) < (z : Int)), E) := by
    have n3 : sV (vIx (vN 3) (vC (.int 0))) E = .ok (.d x, E) := by rw [hE]; rfl
    exact sbE_eq (s2v_eq (m2 := .d (.int 44)) (sCall_n (bk := [none]) (by decide) (sa1_eq n3) hsz) rfl (oGt_int _ _))
  have hstart : ∀ R : SS, b__law_grown = ssSeq (ssSet 2 (sCall F__law_stream [none, none] (saCons (sN 0) (saCons (sV (v2 oAdd (vC (.int 1)) (v2 oMod (v2 oMod (v2 oMul (vN 0) (vC (.int 69621))) (vC (.int 2147483629))) (v2 oAdd (vN 1) (vC (.int 1)))))) (saNil)))))
      (ssSeq (ssSet 3 (sLst (saCons (sCall F__law_leaf [none] (saCons (sV (vIx (vN 2) (vC (.int 0)))) (saNil))) (saNil))))
      (ssSeq (ssFor (siQ (sSl (vN 2) (voI (vC (.int 1))) (voNo))) fg__law_grown_1 fb__law_grown_1)
      (ssSeq (ssWhile wc__law_grown_2 wb__law_grown_2) R))) → b__law_grown [some (.d (.int c)), some (.d (.int 4)), none, none, none, none] = R E := fun R hR => by
    rw [hR]
    obtain ⟨E0, hE0⟩ : ∃ E : FL.Env, E = [some (.d (.int c)), some (.d (.int 4)), none, none, none, none] := ⟨_, rfl⟩
    have n0 : sN 0 E0 = .ok (.d (.int c), E0) := by rw [hE0]; rfl
    have n1 : sV (v2 oAdd (vC (.int 1)) (v2 oMod (v2 oMod (v2 oMul (vN 0) (vC (.int 69621))) (vC (.int 2147483629))) (v2 oAdd (vN 1) (vC (.int 1))))) E0 = .ok (.d (.int mn), E0) := by
      have a0 : vN 0 E0 = .ok (.d (.int c)) := by rw [hE0]; rfl
      have a1 : vN 1 E0 = .ok (.d (.int 4)) := by rw [hE0]; rfl
      simp only [sV, v2, vC, a0, a1, oMul_int c1, oMod_int (show (2147483629:Int) ≠ 0 by decide), modI_pos (show (0:Int) < 2147483629 by decide), oAdd_int, oMod_int (show ((4:Int) + 1) ≠ 0 by decide), modI_pos (show (0:Int) < 4 + 1 by decide)]
      rw [hmn]
      rfl
    rw [← hE0, ssSeq_nx (ssSet_eq (i := 2) (sCall_n (bk := [none, none]) (by decide) (sa2_eq n0 n1) hst) (by rw [hE0]; show (2:Nat) < 6; decide)), hE0]
    show ssSeq _ _ [some (.d (.int c)), some (.d (.int 4)), some X, none, none, none] = _
    obtain ⟨E1, hE1⟩ : ∃ E : FL.Env, E = [some (.d (.int c)), some (.d (.int 4)), some X, none, none, none] := ⟨_, rfl⟩
    have n2 : sV (vIx (vN 2) (vC (.int 0))) E1 = .ok (.d (.int x0), E1) := by
      have gX : vN 2 E1 = .ok X := by rw [hE1]; rfl
      exact sV_eq (by simp only [vIx, vC, gX, hix0])
    have nl : sLst (saCons (sCall F__law_leaf [none] (saCons (sV (vIx (vN 2) (vC (.int 0)))) (saNil))) (saNil)) E1 = .ok (lM [lf], E1) := by
      unfold sLst
      rw [sa1_eq (sCall_n (bk := [none]) (by decide) (sa1_eq n2) hle)]
      simp [sizeLine_eq]
    rw [← hE1, ssSeq_nx (ssSet_eq (i := 3) nl (by rw [hE1]; show (3:Nat) < 6; decide)), hE1]
    show ssSeq _ _ (gE c X [lf] none none) = _
    have hi : siQ (sSl (vN 2) (voI (vC (.int 1))) (voNo)) (gE c X [lf] none none) = .ok (xr.map D.int, gE c X [lf] none none) := by
      have gX : vN 2 (gE c X [lf] none none) = .ok X := rfl
      have hall : ((x0 :: xr).map fun i => M.d (.int i)).all isD = true := by simp [isD]
      have hcut : cutL (((x0 :: xr).map fun i => M.d (.int i)).map unD) (some 1) none = xr.map D.int := by
        rw [cutL_drop _ (by decide), List.map_map]
        simp [unD, Function.comp_def]
      have hsl : slM X (some 1) none = .ok (.lst ((xr.map D.int).map .d)) := by
        rw [hX]
        show (match M.seq (iL (x0 :: xr)) with | some (false, ms) => if ms.all isD = true then Res.ok (M.lst ((cutL (ms.map unD) (some 1) none).map M.d)) else .bad | _ => .bad) = _
        show (if ((x0 :: xr).map fun i => M.d (.int i)).all isD = true then Res.ok (M.lst ((cutL (((x0 :: xr).map fun i => M.d (.int i)).map unD) (some 1) none).map M.d)) else .bad) = _
        rw [if_pos hall, hcut]
      simp only [siQ, sSl, gX, voI, voNo, vC, hsl, fz, fzs_d, itemsD]
    rw [ssSeq_nx ((ssFor_eq hi).trans h1), ssSeq_nx r2, hE]
  by_cases hz : (44 : Int) < (z : Int)
  · obtain ⟨z', w', lv', h8, hz'⟩ := tx_leaf (hlf 0)
    refine ⟨lf, ⟨hlf 8, z', w', lv', h8 8, hz'⟩, _, runF_ret (m := .d lf) (e := E) ?_⟩
    refine (hstart _ rfl).trans ?_
    have n2 : sV (vIx (vN 2) (vC (.int 0))) E = .ok (.d (.int x0), E) := by
      have gX : vN 2 E = .ok X := by rw [hE]; rfl
      exact sV_eq (by simp only [vIx, vC, gX, hix0])
    exact if_take (hc4.trans (by rw [decide_eq_true hz])) (ssRet_eq (sCall_n (bk := [none]) (by decide) (sa1_eq n2) hle))
  · refine ⟨x, ⟨hx8, z, w, lv, ht, by omega⟩, _, runF_ret (m := .d x) (e := E) ?_⟩
    refine (hstart _ rfl).trans ?_
    rw [if_skip (hc4.trans (by rw [decide_eq_false hz]))]
    exact ssRet_eq (by rw [hE]; rfl)
structure RT (r : D) (w : Str) (body : D) : Prop where
  wl : w.length ≤ 100000
  sh : ∃ e, F_shown_row [.d r] = .ok (.d (.str w), e)
  ln : ∃ e, F__law_line [.d r] = .ok (.d (.str w), e)
  ix : mIdx (.d r) (.d (.int (-1))) = .ok (.d body)
  gb : GB body
  sm : Sm 40 r
theorem ix_last (xs : List D) (y : D) : mIdx (.d (.tup (xs ++ [y]))) (.d (.int (-1))) = .ok (.d y) := by
  have e : atI ((xs ++ [y]).map M.d) (-1) = some (.d y) := by rw [List.map_append]; exact atI_last
  simp only [mIdx, M.seq, e]
theorem line_start {r body : D} {t : Str} (hix : mIdx (.d r) (.d (.int (-1))) = .ok (.d body)) (ht : ∃ e, F__law_text 48 [.d body, .d (.int 0)] = .ok (.d (.str t), e)) (R : SS) :
    ssSeq (ssSet 1 (sCall (F__law_text 48) [none, none] (saCons (sV (vIx (vN 0) (vNeg (vC (.int 1))))) (saCons (sV (vC (.int 0))) (saNil))))) R [some (.d r), none] = R [some (.d r), some (.d (.str t))] := by
  obtain ⟨e, ht⟩ := ht
  obtain ⟨E, hE⟩ : ∃ E : FL.Env, E = [some (.d r), none] := ⟨_, rfl⟩
  have g0 : vN 0 E = .ok (.d r) := by rw [hE]; rfl
  have n1 : sV (vIx (vN 0) (vNeg (vC (.int 1)))) E = .ok (.d body, E) := sV_eq (by simp only [vIx, vNeg, vC, g0, hix])
  rw [← hE, ssSeq_nx (ssSet_eq (i := 1) (sCall_n (bk := [none, none]) (by decide) (sa2_eq n1 rfl) ht) (by rw [hE]; show (1:Nat) < 2; decide)), hE]
  rfl
theorem GB.told {x : D} (g : GB x) : ∃ t : Str, t.length ≤ 40000 ∧ (∃ e, F_shown_term 24 [.d x] = .ok (.d (.str t), e)) ∧ ∃ e, F__law_text 48 [.d x, .d (.int 0)] = .ok (.d (.str t), e) := by
  obtain ⟨z, w, lv, h, hz⟩ := g.tx
  have := h.wl
  exact ⟨w, by omega, h.sh hz 24 (by omega), h.tx hz 48 (by omega) 0 (by omega)⟩
theorem GB.smn {x : D} (g : GB x) : Sm 39 x := (tm_sm g.tm).mono (by omega)
theorem gE0 (r : D) (z : Option M) : getE [some (.d r), z] 0 = .ok (.d r) := rfl
theorem rt_2 {k : String} {x : D} (hk : k ≠ "def" ∧ k ≠ "let" ∧ k ≠ "again") (hkl : k.length ≤ 20) (g : GB x) : ∃ w, RT (.tup [S_ k, x]) w x := by
  obtain ⟨t, htl, ⟨e1, hs⟩, htx⟩ := g.told
  have a1 := l1 k hkl
  have a2 : (Str.ofString " ").length = 1 := len_of _
  have hix : mIdx (.d (.tup [S_ k, x])) (.d (.int (-1))) = .ok (.d x) := ix_last [S_ k] x
  refine ⟨Str.ofString k ++ Str.ofString " " ++ t, by simp only [len_app]; omega, ?_, ?_, hix, g, ?_⟩
  · obtain ⟨E, hE⟩ : ∃ E : FL.Env, E = [some (.d (.tup [S_ k, x]))] := ⟨_, rfl⟩
    have g0 : getE E 0 = .ok (.d (.tup [S_ k, x])) := by rw [hE]; rfl
    refine ⟨_, runF_ret (m := .d (.str (Str.ofString k ++ Str.ofString " " ++ t))) (e := E) ?_⟩
    show b_shown_row [some (.d (.tup [S_ k, x]))] = _
    unfold b_shown_row
    rw [← hE, if_skip (hn g0 hk.1), if_skip (hn g0 hk.2.1), if_skip (hn g0 hk.2.2)]
    refine ssRet_eq (scat (sV_eq (vcat (vix_0 g0) rfl ?_)) (sCall_n (bk := [none]) (by decide) (sa1_eq (sV_eq (vix_1 g0))) hs) ?_)
    all_goals ((try simp only [len_app]); omega)
  · obtain ⟨E, hE⟩ : ∃ E : FL.Env, E = [some (.d (.tup [S_ k, x])), some (.d (.str t))] := ⟨_, rfl⟩
    have g0 : getE E 0 = .ok (.d (.tup [S_ k, x])) := by rw [hE]; rfl
    refine ⟨_, runF_ret (m := .d (.str (Str.ofString k ++ Str.ofString " " ++ t))) (e := E) ?_⟩
    show b__law_line [some (.d (.tup [S_ k, x])), none] = _
    unfold b__law_line
    rw [line_start hix htx, ← hE, if_skip (hn g0 hk.1), if_skip (hn g0 hk.2.2), if_skip (hn g0 hk.2.1)]
    refine ssRet_eq (sV_eq (vcat (vcat (vix_0 g0) rfl ?_) (by rw [hE]; rfl) ?_))
    all_goals ((try simp only [len_app]); omega)
  · refine sm2 (by simp) fun y hy => ?_
    simp only [List.mem_cons, List.not_mem_nil, or_false] at hy
    rcases hy with rfl | rfl
    · trivial
    · exact g.smn
theorem rt_let {v : Str} {x : D} (hv : v.length ≤ 8) (g : GB x) : ∃ w, RT (.tup [S_ "let", .str v, x]) w x := by
  obtain ⟨t, htl, ⟨e1, hs⟩, htx⟩ := g.told
  have a1 : (Str.ofString "let ").length = 4 := len_of _
  have a2 : (Str.ofString " = ").length = 3 := len_of _
  have hix : mIdx (.d (.tup [S_ "let", .str v, x])) (.d (.int (-1))) = .ok (.d x) := ix_last [S_ "let", .str v] x
  refine ⟨Str.ofString "let " ++ v ++ Str.ofString " = " ++ t, by simp only [len_app]; omega, ?_, ?_, hix, g, ?_⟩
  · obtain ⟨E, hE⟩ : ∃ E : FL.Env, E = [some (.d (.tup [S_ "let", .str v, x]))] := ⟨_, rfl⟩
    have g0 : getE E 0 = .ok (.d (.tup [S_ "let", .str v, x])) := by rw [hE]; rfl
    refine ⟨_, runF_ret (m := .d (.str (Str.ofString "let " ++ v ++ Str.ofString " = " ++ t))) (e := E) ?_⟩
    show b_shown_row [some (.d (.tup [S_ "let", .str v, x]))] = _
    unfold b_shown_row
    rw [← hE, if_skip (hn g0 (by decide))]
    refine if_take (hy g0 rfl) (ssRet_eq (scat (sV_eq (vcat (vcat rfl (vix_1 g0) ?_) rfl ?_)) (sCall_n (bk := [none]) (by decide) (sa1_eq (sV_eq (vix_2 g0))) hs) ?_))
    all_goals ((try simp only [len_app]); omega)
  · obtain ⟨E, hE⟩ : ∃ E : FL.Env, E = [some (.d (.tup [S_ "let", .str v, x])), some (.d (.str t))] := ⟨_, rfl⟩
    have g0 : getE E 0 = .ok (.d (.tup [S_ "let", .str v, x])) := by rw [hE]; rfl
    refine ⟨_, runF_ret (m := .d (.str (Str.ofString "let " ++ v ++ Str.ofString " = " ++ t))) (e := E) ?_⟩
    show b__law_line [some (.d (.tup [S_ "let", .str v, x])), none] = _
    unfold b__law_line
    rw [line_start hix htx, ← hE, if_skip (hn g0 (by decide)), if_skip (hn g0 (by decide))]
    refine if_take (hy g0 rfl) (ssRet_eq (sV_eq (vcat (vcat (vcat rfl (vix_1 g0) ?_) rfl ?_) (by rw [hE]; rfl) ?_)))
    all_goals ((try simp only [len_app]); omega)
  · refine sm2 (by simp) fun y hy => ?_
    simp only [List.mem_cons, List.not_mem_nil, or_false] at hy
    rcases hy with rfl | rfl | rfl
    · trivial
    · trivial
    · exact g.smn
theorem rt_again {i : Int} {v : Str} {x : D} (hi : sm i) (hv : v.length ≤ 8) (g : GB x) : ∃ w, RT (.tup [S_ "again", .int i, .str v, x]) w x := by
  obtain ⟨t, htl, ⟨e1, hs⟩, htx⟩ := g.told
  have a1 : (Str.ofString "again ").length = 6 := len_of _
  have a2 : (Str.ofString " = ").length = 3 := len_of _
  have a3 : (Str.ofString " ").length = 1 := len_of _
  have li := lI hi
  have hix : mIdx (.d (.tup [S_ "again", .int i, .str v, x])) (.d (.int (-1))) = .ok (.d x) := ix_last [S_ "again", .int i, .str v] x
  refine ⟨Str.ofString "again " ++ toString i ++ Str.ofString " " ++ v ++ Str.ofString " = " ++ t, by simp only [len_app]; omega, ?_, ?_, hix, g, ?_⟩
  · obtain ⟨E, hE⟩ : ∃ E : FL.Env, E = [some (.d (.tup [S_ "again", .int i, .str v, x]))] := ⟨_, rfl⟩
    have g0 : getE E 0 = .ok (.d (.tup [S_ "again", .int i, .str v, x])) := by rw [hE]; rfl
    refine ⟨_, runF_ret (m := .d (.str (Str.ofString "again " ++ toString i ++ Str.ofString " " ++ v ++ Str.ofString " = " ++ t))) (e := E) ?_⟩
    show b_shown_row [some (.d (.tup [S_ "again", .int i, .str v, x]))] = _
    unfold b_shown_row
    rw [← hE, if_skip (hn g0 (by decide)), if_skip (hn g0 (by decide))]
    refine if_take (hy g0 rfl) (ssRet_eq (scat (sV_eq (vcat (vcat (vcat (vcat rfl (vstr_int (vix_1 g0) hi) ?_) rfl ?_) (vix_2 g0) ?_) rfl ?_)) (sCall_n (bk := [none]) (by decide) (sa1_eq (sV_eq (vix_3 g0))) hs) ?_))
    all_goals ((try simp only [len_app]); omega)
  · obtain ⟨E, hE⟩ : ∃ E : FL.Env, E = [some (.d (.tup [S_ "again", .int i, .str v, x])), some (.d (.str t))] := ⟨_, rfl⟩
    have g0 : getE E 0 = .ok (.d (.tup [S_ "again", .int i, .str v, x])) := by rw [hE]; rfl
    refine ⟨_, runF_ret (m := .d (.str (Str.ofString "again " ++ toString i ++ Str.ofString " " ++ v ++ Str.ofString " = " ++ t))) (e := E) ?_⟩
    show b__law_line [some (.d (.tup [S_ "again", .int i, .str v, x])), none] = _
    unfold b__law_line
    rw [line_start hix htx, ← hE, if_skip (hn g0 (by decide))]
    refine if_take (hy g0 rfl) (ssRet_eq (sV_eq (vcat (vcat (vcat (vcat (vcat rfl (vstr_int (vix_1 g0) hi) ?_) rfl ?_) (vix_2 g0) ?_) rfl ?_) (by rw [hE]; rfl) ?_)))
    all_goals ((try simp only [len_app]); omega)
  · refine sm2 (by simp) fun y hy => ?_
    simp only [List.mem_cons, List.not_mem_nil, or_false] at hy
    rcases hy with rfl | rfl | rfl | rfl
    · trivial
    · trivial
    · trivial
    · exact g.smn
theorem rt_def {v : Str} {ns : List Str} {x : D} (hv : v.length ≤ 8) (hn' : ns.length ≤ 6) (hns : ∀ s ∈ ns, s.length ≤ 9) (g : GB x) : ∃ w, RT (.tup [S_ "def", .str v, .tup (ns.map D.str), x]) w x := by
  obtain ⟨t, htl, ⟨e1, hs⟩, htx⟩ := g.told
  have a1 : (Str.ofString "def ").length = 4 := len_of _
  have a2 : (Str.ofString "(").length = 1 := len_of _
  have a3 : (Str.ofString ") = ").length = 4 := len_of _
  have a4 : (Str.ofString ", ").length = 2 := len_of _
  have s1 := sum_le_n hns
  have j1 := join_len (Str.ofString ", ") ns
  rw [a4] at j1
  obtain ⟨J, hJ⟩ : ∃ J, J = Txt.join (Str.ofString ", ") ns := ⟨_, rfl⟩
  have hj : bJoin [.d (.str (Str.ofString ", ")), .d (.tup (ns.map D.str))] = .ok (.str J) := by rw [hJ]; exact join_eqT (by rw [a4]; omega)
  rw [← hJ] at j1
  have hix : mIdx (.d (.tup [S_ "def", .str v, .tup (ns.map D.str), x])) (.d (.int (-1))) = .ok (.d x) := ix_last [S_ "def", .str v, .tup (ns.map D.str)] x
  refine ⟨Str.ofString "def " ++ v ++ Str.ofString "(" ++ J ++ Str.ofString ") = " ++ t, by simp only [len_app]; omega, ?_, ?_, hix, g, ?_⟩
  · obtain ⟨E, hE⟩ : ∃ E : FL.Env, E = [some (.d (.tup [S_ "def", .str v, .tup (ns.map D.str), x]))] := ⟨_, rfl⟩
    have g0 : getE E 0 = .ok (.d (.tup [S_ "def", .str v, .tup (ns.map D.str), x])) := by rw [hE]; rfl
    have vj : vSm bJoin (vC (.str (Str.ofString ", "))) (vaCons (vIx (vN 0) (vC (.int 2))) (vaNil)) E = .ok (.d (.str J)) := by
      simp only [vSm, vaCons, vaNil, vC, vix_2 g0, hj]
    refine ⟨_, runF_ret (m := .d (.str (Str.ofString "def " ++ v ++ Str.ofString "(" ++ J ++ Str.ofString ") = " ++ t))) (e := E) ?_⟩
    show b_shown_row [some (.d (.tup [S_ "def", .str v, .tup (ns.map D.str), x]))] = _
    unfold b_shown_row
    rw [← hE]
    refine if_take (hy g0 rfl) (ssRet_eq (scat (sV_eq (vcat (vcat (vcat (vcat rfl (vix_1 g0) ?_) rfl ?_) vj ?_) rfl ?_)) (sCall_n (bk := [none]) (by decide) (sa1_eq (sV_eq (vix_3 g0))) hs) ?_))
    all_goals ((try simp only [len_app]); omega)
  · obtain ⟨E, hE⟩ : ∃ E : FL.Env, E = [some (.d (.tup [S_ "def", .str v, .tup (ns.map D.str), x])), some (.d (.str t))] := ⟨_, rfl⟩
    have g0 : getE E 0 = .ok (.d (.tup [S_ "def", .str v, .tup (ns.map D.str), x])) := by rw [hE]; rfl
    have vj : vSm bJoin (vC (.str (Str.ofString ", "))) (vaCons (vIx (vN 0) (vC (.int 2))) (vaNil)) E = .ok (.d (.str J)) := by
      simp only [vSm, vaCons, vaNil, vC, vix_2 g0, hj]
    refine ⟨_, runF_ret (m := .d (.str (Str.ofString "def " ++ v ++ Str.ofString "(" ++ J ++ Str.ofString ") = " ++ t))) (e := E) ?_⟩
    show b__law_line [some (.d (.tup [S_ "def", .str v, .tup (ns.map D.str), x])), none] = _
    unfold b__law_line
    rw [line_start hix htx, ← hE]
    refine if_take (hy g0 rfl) (ssRet_eq (sV_eq (vcat (vcat (vcat (vcat (vcat rfl (vix_1 g0) ?_) rfl ?_) vj ?_) rfl ?_) (by rw [hE]; rfl) ?_)))
    all_goals ((try simp only [len_app]); omega)
  · refine sm2 (by simp) fun y hy => ?_
    simp only [List.mem_cons, List.not_mem_nil, or_false] at hy
    rcases hy with rfl | rfl | rfl | rfl
    · trivial
    · trivial
    · refine ⟨by rw [List.length_map]; omega, fun y hy => ?_⟩
      obtain ⟨s, _, rfl⟩ := List.mem_map.mp hy
      trivial
    · exact g.smn
theorem row_int {v : Int} (hv : 0 ≤ v ∧ v < 2 ^ 51) : ∃ r w x, RT r w x ∧ ∃ e, F__law_row [.d (.int v), .d (.int 4)] = .ok (.d r, e) := by
  have c5 : CFdiv v 5 := fdivD (b := 10) (by decide) (by decide)
  have cm : CMulD v 40692 := mulD (a := 52) (b := 17) (by omega) (by decide)
  have cm2 : CMulD v 69621 := mulD (a := 52) (b := 18) (by omega) (by decide)
  obtain ⟨x, gx, e1, hg⟩ := grown_int (c := v / 5) (by omega)
  obtain ⟨f, hf⟩ : ∃ f, f = v * 40692 % 2147483399 := ⟨_, rfl⟩
  have f0 := Int.emod_nonneg (v * 40692) (show (2147483399:Int) ≠ 0 by decide)
  have f1 := Int.emod_lt_of_pos (v * 40692) (show (0:Int) < 2147483399 by decide)
  rw [← hf] at f0 f1
  obtain ⟨wd, hwd, e2, hnm⟩ := name_int (f := f) (by omega)
  obtain ⟨f', hf'⟩ : ∃ f, f = v * 69621 % 2147483629 := ⟨_, rfl⟩
  have f0' := Int.emod_nonneg (v * 69621) (show (2147483629:Int) ≠ 0 by decide)
  have f1' := Int.emod_lt_of_pos (v * 69621) (show (0:Int) < 2147483629 by decide)
  rw [← hf'] at f0' f1'
  obtain ⟨wd', hwd', e3, hnm'⟩ := name_int (f := f') (by omega)
  obtain ⟨k, hk⟩ : ∃ k, k = v % 5 := ⟨_, rfl⟩
  obtain ⟨E, hE⟩ : ∃ E : FL.Env, E = [some (.d (.int v)), some (.d (.int 4)), some (.d x), some (.d (.str (sl wd))), some (.d (.int k)), none, none] := ⟨_, rfl⟩
  have hlw : (sl wd).length ≤ 8 := by rw [sl_len]; exact hwd
  have hlw' : (sl wd').length ≤ 8 := by rw [sl_len]; exact hwd'
  have hstart : ∀ R : SS, b__law_row = ssSeq (ssSet 2 (sCall F__law_grown [none, none] (saCons (sV (v2 oFdiv (vN 0) (vC (.int 5)))) (saCons (sN 1) (saNil)))))
      (ssSeq (ssSet 3 (sCall F__law_name [none] (saCons (sV (v2 oMod (v2 oMul (vN 0) (vC (.int 40692))) (vC (.int 2147483399)))) (saNil))))
      (ssSeq (ssSet 4 (sV (v2 oMod (vN 0) (vC (.int 5))))) R)) → b__law_row [some (.d (.int v)), some (.d (.int 4)), none, none, none, none, none] = R E := fun R hR => by
    rw [hR]
    obtain ⟨E0, hE0⟩ : ∃ E : FL.Env, E = [some (.d (.int v)), some (.d (.int 4)), none, none, none, none, none] := ⟨_, rfl⟩
    have a0 : vN 0 E0 = .ok (.d (.int v)) := by rw [hE0]; rfl
    have n0 : sV (v2 oFdiv (vN 0) (vC (.int 5))) E0 = .ok (.d (.int (v / 5)), E0) := sV_eq (by simp only [v2, vC, a0, oFdiv_int c5, fdivI_pos (show (0:Int) < 5 by decide)])
    have n1 : sN 1 E0 = .ok (.d (.int 4), E0) := by rw [hE0]; rfl
    rw [← hE0, ssSeq_nx (ssSet_eq (i := 2) (sCall_n (bk := [none, none]) (by decide) (sa2_eq n0 n1) hg) (by rw [hE0]; show (2:Nat) < 7; decide)), hE0]
    show ssSeq _ _ [some (.d (.int v)), some (.d (.int 4)), some (.d x), none, none, none, none] = _
    obtain ⟨E1, hE1⟩ : ∃ E : FL.Env, E = [some (.d (.int v)), some (.d (.int 4)), some (.d x), none, none, none, none] := ⟨_, rfl⟩
    have a0 : vN 0 E1 = .ok (.d (.int v)) := by rw [hE1]; rfl
    have n0 : sV (v2 oMod (v2 oMul (vN 0) (vC (.int 40692))) (vC (.int 2147483399))) E1 = .ok (.d (.int f), E1) := sV_eq (by simp only [v2, vC, a0, oMul_int cm, oMod_int (show (2147483399:Int) ≠ 0 by decide), modI_pos (show (0:Int) < 2147483399 by decide), ← hf])
    rw [← hE1, ssSeq_nx (ssSet_eq (i := 3) (sCall_n (bk := [none]) (by decide) (sa1_eq n0) hnm) (by rw [hE1]; show (3:Nat) < 7; decide)), hE1]
    show ssSeq _ _ [some (.d (.int v)), some (.d (.int 4)), some (.d x), some (.d (.str (sl wd))), none, none, none] = _
    rw [ssSeq_nx (e := E) (by
      simp only [ssSet, sV, v2, vC, vN, getE, List.getElem?_cons_zero, oMod_int (show (5:Int) ≠ 0 by decide), modI_pos (show (0:Int) < 5 by decide), ← hk]
      rw [hE]
      rfl)]
  have g4 : vN 4 E = .ok (.d (.int k)) := by rw [hE]; rfl
  have n2 : sN 2 E = .ok (.d x, E) := by rw [hE]; rfl
  have n3 : sN 3 E = .ok (.d (.str (sl wd)), E) := by rw [hE]; rfl
  have kq : ∀ q : Int, sbE (sV (v2 oEq (vN 4) (vC (.int q)))) E = .ok (decide (k = q), E) := fun q => by
    simp only [sbE, sV, v2, vC, g4, oEq_int]
  have kS : ∀ (t : String) (F : FL.Env), sV (vC (.str (Str.ofString t))) F = .ok (.d (S_ t), F) := fun _ _ => rfl
  by_cases k0 : k = 0
  · obtain ⟨w, h⟩ := rt_2 (k := "see") ⟨by decide, by decide, by decide⟩ (by decide) gx
    refine ⟨_, w, x, h, _, runF_ret (m := .d (.tup [S_ "see", x])) (e := E) ?_⟩
    refine (hstart _ rfl).trans ?_
    exact if_take ((kq 0).trans (by rw [decide_eq_true k0])) (ssRet_eq (sTup_eq (sa2_eq (kS "see" E) n2) (by simp) (by simp [mTup, isD, unD])))
  have c0 : sbE (sV (v2 oEq (vN 4) (vC (.int 0)))) E = .ok (false, E) := (kq 0).trans (by rw [decide_eq_false k0])
  have g0 : vN 0 E = .ok (.d (.int v)) := by rw [hE]; rfl
  by_cases k1 : k = 1
  · obtain ⟨a, ha⟩ : ∃ a, a = v / 5 % 31 := ⟨_, rfl⟩
    obtain ⟨w, h⟩ := rt_again (i := a) (show a.natAbs < 10 ^ 13 by omega) hlw gx
    refine ⟨_, w, x, h, _, runF_ret (m := .d (.tup [S_ "again", .int a, .str (sl wd), x])) (e := E) ?_⟩
    refine (hstart _ rfl).trans ?_
    rw [if_skip c0]
    have na : sV (v2 oMod (v2 oFdiv (vN 0) (vC (.int 5))) (vC (.int 31))) E = .ok (.d (.int a), E) := sV_eq (by simp only [v2, vC, g0, oFdiv_int c5, fdivI_pos (show (0:Int) < 5 by decide), oMod_int (show (31:Int) ≠ 0 by decide), modI_pos (show (0:Int) < 31 by decide), ← ha])
    exact if_take ((kq 1).trans (by rw [decide_eq_true k1])) (ssRet_eq (sTup_eq (saCons_eq (kS "again" E) (sa3_eq na n3 n2)) (by simp) (by simp [mTup, isD, unD])))
  have c1 : sbE (sV (v2 oEq (vN 4) (vC (.int 1)))) E = .ok (false, E) := (kq 1).trans (by rw [decide_eq_false k1])
  by_cases k2 : k = 2
  · obtain ⟨mn, hmn, hmn4⟩ : ∃ mn : Nat, v / 5 % 4 = (mn : Int) ∧ mn < 4 := ⟨(v / 5 % 4).toNat, by omega, by omega⟩
    obtain ⟨cw, hcw⟩ : ∃ cw, cw = cutS (sl wd) none (some 7) := ⟨_, rfl⟩
    have hcl : cw.length ≤ 8 := by rw [hcw]; have := cutS_len (sl wd) none (some 7); omega
    have habc : Str.ofString "abc" = sl [97, 98, 99] := by rw [slOf]; congr 1
    obtain ⟨nf, hnf⟩ : ∃ nf : Nat → Str, nf = fun j => cw ++ sl [[97, 98, 99].getD j 0] := ⟨_, rfl⟩
    have hnl : ∀ j, (nf j).length ≤ 9 := fun j => by rw [hnf]; show (cw ++ sl [_]).length ≤ 9; rw [len_app, sl_len, List.length_singleton]; omega
    obtain ⟨w, h⟩ := rt_def (ns := (List.range mn).map nf) hlw' (by rw [List.length_map, List.length_range]; omega) (fun s hs => by obtain ⟨j, _, rfl⟩ := List.mem_map.mp hs; exact hnl j) gx
    have hr : C62 (mn : Int) := ⟨by omega, by omega⟩
    have hr1 : siR1 (saCons (sV (v2 oMod (v2 oFdiv (vN 0) (vC (.int 5))) (vC (.int 4)))) (saNil)) E = .ok ((List.range mn).map fun (i : Nat) => D.int (0 + (i : Int)), E) := by
      simp only [siR1, saCons, saNil, sV, v2, vC, g0, oFdiv_int c5, fdivI_pos (show (0:Int) < 5 by decide), oMod_int (show (4:Int) ≠ 0 by decide), modI_pos (show (0:Int) < 4 by decide), hmn, if_pos hr, Int.toNat_natCast]
    have hk6 : killAll [6] E = E := by rw [hE]; rfl
    have hm := lcl_map (own := [6]) (g := sgN 6) (c := sbYes) (f := s2 oAdd (sSl (vN 3) (voNo) (voI (vC (.int 7)))) (sV (vIx (vC (.str (Str.ofString "abc"))) (vN 6)))) (env := E) (fun (i : Nat) => D.int (0 + (i : Int))) (fun j => M.d (.str (nf j))) (List.range mn) [] (fun j hj => by
      have hj' := List.mem_range.mp hj
      have hz : (0 : Int) + (j : Int) = (j : Int) := Int.zero_add _
      rw [hz]
      obtain ⟨F, hF⟩ : ∃ E : FL.Env, E = [some (.d (.int v)), some (.d (.int 4)), some (.d x), some (.d (.str (sl wd))), some (.d (.int k)), none, some (.d (.int (j : Int)))] := ⟨_, rfl⟩
      have q3 : vN 3 F = .ok (.d (.str (sl wd))) := by rw [hF]; rfl
      have q6 : vN 6 F = .ok (.d (.int (j : Int))) := by rw [hF]; rfl
      have hsz : (sl wd).length ≤ sizeLine := by rw [sizeLine_eq]; omega
      refine ⟨F, F, F, by rw [hE, hF]; rfl, rfl, ?_, by rw [hE, hF]; rfl⟩
      have r1 : sSl (vN 3) (voNo) (voI (vC (.int 7))) F = .ok (.d (.str cw), F) := by
        simp only [sSl, q3, voNo, voI, vC, slM, if_pos hsz, hcw]
      have r2 : sV (vIx (vC (.str (Str.ofString "abc"))) (vN 6)) F = .ok (.d (.str (sl [[97, 98, 99].getD j 0])), F) := by
        refine sV_eq ?_
        simp only [vIx, vC, q6, habc]
        exact str_at' (by simp) (by simp; omega)
      rw [hnf]
      exact scat r1 r2 (by rw [sl_len, List.length_singleton]; omega))
    have h2 := sLc_eq hr1 (by rw [sizeLine_eq, List.length_map, List.length_range]; omega) (by rw [hk6]; exact hm)
    obtain ⟨L, hL⟩ : ∃ L : M, L = .lst ([] ++ (List.range mn).map fun j => M.d (.str (nf j))) := ⟨_, rfl⟩
    rw [← hL] at h2
    obtain ⟨E2, hE2⟩ : ∃ E : FL.Env, E = [some (.d (.int v)), some (.d (.int 4)), some (.d x), some (.d (.str (sl wd))), some (.d (.int k)), some L, none] := ⟨_, rfl⟩
    refine ⟨_, w, x, h, _, runF_ret (m := .d (.tup [S_ "def", .str (sl wd'), .tup (((List.range mn).map nf).map D.str), x])) (e := E2) ?_⟩
    refine (hstart _ rfl).trans ?_
    rw [if_skip c0, if_skip c1]
    refine if_take ((kq 2).trans (by rw [decide_eq_true k2])) ?_
    rw [ssSeq_nx (e := E2) (by rw [ssSet_eq (i := 5) h2 (by rw [hE]; show (5:Nat) < 7; decide), hE, hE2]; rfl)]
    have g5 : vN 5 E2 = .ok L := by rw [hE2]; rfl
    have g0' : vN 0 E2 = .ok (.d (.int v)) := by rw [hE2]; rfl
    have m2 : sN 2 E2 = .ok (.d x, E2) := by rw [hE2]; rfl
    have hb : brw L = some (false, ((List.range mn).map nf).map D.str) := by
      rw [hL, List.nil_append]
      show (if ((List.range mn).map fun j => M.d (.str (nf j))).all isD = true then some (false, ((List.range mn).map fun j => M.d (.str (nf j))).map unD) else none) = _
      rw [if_pos (by simp [isD]), List.map_map, List.map_map]
      rfl
    have nt : sTupV (vN 5) E2 = .ok (.d (.tup (((List.range mn).map nf).map D.str)), E2) := by simp only [sTupV, g5, hb]
    have nn : sV (v2 oMod (v2 oMul (vN 0) (vC (.int 69621))) (vC (.int 2147483629))) E2 = .ok (.d (.int f'), E2) := sV_eq (by simp only [v2, vC, g0', oMul_int cm2, oMod_int (show (2147483629:Int) ≠ 0 by decide), modI_pos (show (0:Int) < 2147483629 by decide), ← hf'])
    exact ssRet_eq (sTup_eq (saCons_eq (kS "def" E2) (sa3_eq (sCall_n (bk := [none]) (by decide) (sa1_eq nn) hnm') nt m2)) (by simp) (by simp [mTup, isD, unD]))
  · obtain ⟨w, h⟩ := rt_let hlw gx
    refine ⟨_, w, x, h, _, runF_ret (m := .d (.tup [S_ "let", .str (sl wd), x])) (e := E) ?_⟩
    refine (hstart _ rfl).trans ?_
    rw [if_skip c0, if_skip c1, if_skip ((kq 2).trans (by rw [decide_eq_false k2]))]
    exact ssRet_eq (sTup_eq (sa3_eq (kS "let" E) n3 n2) (by simp) (by simp [mTup, isD, unD]))
/-! ### the program -/
theorem enum_zip : ∀ (xs : List Int) (n : Nat), enumD n (xs.map D.int) = (xs.zipIdx n).map fun p => .tup [.int (p.2 : Int), .int p.1]
  | [], _ => rfl
  | x :: xs, n => by
    simp only [List.map_cons, enumD, List.zipIdx_cons, enum_zip xs (n + 1)]
theorem zip_lt {xs : List Int} : ∀ {n : Nat} {p : Int × Nat}, p ∈ xs.zipIdx n → p.2 < n + xs.length := by
  induction xs with
  | nil => intro n p h; cases h
  | cons x xs ih =>
    intro n p h
    rw [List.zipIdx_cons] at h
    rcases List.mem_cons.mp h with rfl | h
    · simp
    · have := ih h
      simp only [List.length_cons]
      omega
theorem program_int {ns : List Int} (hn : ns.length ≤ 63) : ∃ R : List D, (∀ r ∈ R, ∃ w x, RT r w x) ∧ R.length ≤ 40 ∧ ∃ e, F__law_program [.d (.scr (ns.map D.int)), .d (.int 4)] = .ok (lM R, e) := by
  obtain ⟨S, hS⟩ : ∃ S : M, S = .d (.scr (ns.map D.int)) := ⟨_, rfl⟩
  have hc : ∀ p : Int × Nat, ∃ r : D, p.2 < 39 → (∃ w x, RT r w x) ∧ ∃ e, F__law_row [.d (.int (p.1 % 1000000000000000 + 104729 * (p.2 : Int) * (p.2 : Int))), .d (.int 4)] = .ok (.d r, e) := fun p => by
    by_cases q : p.2 < 39
    · have h1 : 0 ≤ 104729 * (p.2 : Int) * (p.2 : Int) ∧ 104729 * (p.2 : Int) * (p.2 : Int) ≤ 104729 * 38 * 38 := by
        have a1 : (0 : Int) ≤ (p.2 : Int) := by omega
        have a2 : (p.2 : Int) ≤ 38 := by omega
        refine ⟨Int.mul_nonneg (by omega) a1, Int.mul_le_mul (by omega) a2 a1 (by omega)⟩
      obtain ⟨r, w, x, h, e⟩ := row_int (v := p.1 % 1000000000000000 + 104729 * (p.2 : Int) * (p.2 : Int)) (by omega)
      exact ⟨r, fun _ => ⟨⟨w, x, h⟩, e⟩⟩
    · exact ⟨.non, fun z => absurd z q⟩
  obtain ⟨rf, hrf⟩ := Classical.axiomOfChoice hc
  obtain ⟨zs, hzs⟩ : ∃ zs, zs = (ns.take 39).zipIdx 0 := ⟨_, rfl⟩
  have hzl : zs.length ≤ 39 := by rw [hzs, List.length_zipIdx, List.length_take]; omega
  have hz2 : ∀ p ∈ zs, p.2 < 39 := fun p hp => by
    rw [hzs] at hp
    have := zip_lt hp
    rw [List.length_take] at this
    omega
  obtain ⟨E, hE⟩ : ∃ E : FL.Env, E = [some S, some (.d (.int 4)), none, none, none, none] := ⟨_, rfl⟩
  have gS : vN 0 E = .ok S := by rw [hE]; rfl
  have hsl : sSl (vN 0) (voNo) (voI (vC (.int 39))) E = .ok (.lst (((ns.take 39).map D.int).map .d), E) := by
    have hall : ((ns.map D.int).map M.d).all isD = true := by simp [isD]
    have hcut : cutL (((ns.map D.int).map M.d).map unD) none (some 39) = (ns.take 39).map D.int := by
      rw [cutL_take _ (by decide), List.map_map, List.map_map]
      show List.take 39 (List.map D.int ns) = _
      rw [List.map_take]
    have h1 : slM S none (some 39) = .ok (.lst (((ns.take 39).map D.int).map .d)) := by
      rw [hS]
      show (if ((ns.map D.int).map M.d).all isD = true then Res.ok (M.lst ((cutL (((ns.map D.int).map M.d).map unD) none (some 39)).map M.d)) else .bad) = _
      rw [if_pos hall, hcut]
    simp only [sSl, gS, voNo, voI, vC, h1]
  have hi : siEnum (saCons (sSl (vN 0) (voNo) (voI (vC (.int 39)))) (saNil)) E = .ok (zs.map fun p => .tup [.int (p.2 : Int), .int p.1], E) := by
    simp only [siEnum, sa1_eq hsl, fz, fzs_d, itemsLT, enum_zip, hzs]
  have hk : killAll [4, 5] E = E := by rw [hE]; rfl
  have p15 : CPowD 10 15 := by decide
  have hm := lcl_map (own := [4, 5]) (g := sgTup 2 (sgCons (sgN 4) (sgCons (sgN 5) (sgNil)))) (c := sbYes) (f := sCall F__law_row [none, none] (saCons (sV (v2 oAdd (v2 oMod (vN 5) (v2 oPow (vC (.int 10)) (vC (.int 15)))) (v2 oMul (v2 oMul (vC (.int 104729)) (vN 4)) (vN 4)))) (saCons (sN 1) (saNil)))) (env := E) (fun p : Int × Nat => D.tup [.int (p.2 : Int), .int p.1]) (fun p => M.d (rf p)) zs [] (fun p hp => by
    have hp2 := hz2 p hp
    obtain ⟨_, e, hrow⟩ := hrf p hp2
    have cm1 : CMulD 104729 (p.2 : Int) := mulD (a := 18) (b := 8) (by decide) (by omega)
    have hb1 : 0 ≤ 104729 * (p.2 : Int) ∧ 104729 * (p.2 : Int) ≤ 104729 * 38 := by omega
    have cm2 : CMulD (104729 * (p.2 : Int)) (p.2 : Int) := mulD (a := 40) (b := 8) (by omega) (by omega)
    obtain ⟨F, hF⟩ : ∃ F : FL.Env, F = [some S, some (.d (.int 4)), none, none, some (.d (.int (p.2 : Int))), some (.d (.int p.1))] := ⟨_, rfl⟩
    have q4 : vN 4 F = .ok (.d (.int (p.2 : Int))) := by rw [hF]; rfl
    have q5 : vN 5 F = .ok (.d (.int p.1)) := by rw [hF]; rfl
    have n1 : sN 1 F = .ok (.d (.int 4), F) := by rw [hF]; rfl
    have n0 : sV (v2 oAdd (v2 oMod (vN 5) (v2 oPow (vC (.int 10)) (vC (.int 15)))) (v2 oMul (v2 oMul (vC (.int 104729)) (vN 4)) (vN 4))) F = .ok (.d (.int (p.1 % 1000000000000000 + 104729 * (p.2 : Int) * (p.2 : Int))), F) := by
      refine sV_eq ?_
      simp only [v2, vC, q4, q5, oPow_int p15, oMul_int cm1, oMul_int cm2]
      simp [oMod_int, modI_pos, oAdd_int]
    exact ⟨F, F, F, by rw [hE, hF]; rfl, rfl, sCall_n (bk := [none, none]) (by decide) (sa2_eq n0 n1) hrow, by rw [hE, hF]; rfl⟩)
  have h2 := sLc_eq hi (by rw [sizeLine_eq, List.length_map]; omega) (by rw [hk]; exact hm)
  obtain ⟨R0, hR0⟩ : ∃ R0, R0 = zs.map rf := ⟨_, rfl⟩
  have e1 : M.lst ([] ++ zs.map fun p => M.d (rf p)) = lM R0 := by
    rw [hR0, List.nil_append]
    show _ = M.lst ((zs.map rf).map M.d)
    rw [List.map_map]
    rfl
  rw [e1] at h2
  have hR0w : ∀ r ∈ R0, ∃ w x, RT r w x := fun r hr => by
    rw [hR0] at hr
    obtain ⟨p, hp, rfl⟩ := List.mem_map.mp hr
    exact (hrf p (hz2 p hp)).1
  have hR0l : R0.length ≤ 39 := by rw [hR0, List.length_map]; exact hzl
  have hbS : bLen [S] = .ok (.int ns.length) := by rw [hS]; simp [bLen, M.seq]
  obtain ⟨L, hL⟩ : ∃ L, L = lM R0 := ⟨_, rfl⟩
  obtain ⟨a, ha, hset⟩ : ∃ a : Int, (0 ≤ a ∧ a < 1000000000000) ∧ ssIf (sbE (sV (v2 oGt (vB bLen (vaCons (vN 0) (vaNil))) (vC (.int 0))))) (ssSet 3 (sV (v2 oMod (vIx (vN 0) (vNeg (vC (.int 1)))) (v2 oPow (vC (.int 10)) (vC (.int 12)))))) (ssNil) [some S, some (.d (.int 4)), some L, some (.d (.int 0)), none, none] = .ok (.nx, [some S, some (.d (.int 4)), some L, some (.d (.int a)), none, none]) := by
    obtain ⟨F, hF⟩ : ∃ F : FL.Env, F = [some S, some (.d (.int 4)), some L, some (.d (.int 0)), none, none] := ⟨_, rfl⟩
    have gF : vN 0 F = .ok S := by rw [hF]; rfl
    have hcd : sbE (sV (v2 oGt (vB bLen (vaCons (vN 0) (vaNil))) (vC (.int 0)))) F = .ok (decide (0 < (ns.length : Int)), F) := by
      simp only [sbE, sV, v2, vB, vaCons, vaNil, vC, gF, hbS, oGt_int]
    rw [← hF]
    by_cases q : ns = []
    · refine ⟨0, by omega, ?_⟩
      rw [ssIf_f (hcd.trans (by rw [q]; rfl)), hF]
      rfl
    · obtain ⟨is, z, rfl⟩ := snoc q
      have p12 : CPowD 10 12 := by decide
      have hix : mIdx S (.d (.int (-1))) = .ok (.d (.int z)) := by
        have e : atI (((is ++ [z]).map D.int).map M.d) (-1) = some (.d (.int z)) := by
          rw [List.map_append, List.map_append]
          exact atI_last
        rw [hS]
        simp only [mIdx, M.seq, e]
      refine ⟨z % 1000000000000, ⟨Int.emod_nonneg _ (by decide), Int.emod_lt_of_pos _ (by decide)⟩, ?_⟩
      have nv : sV (v2 oMod (vIx (vN 0) (vNeg (vC (.int 1)))) (v2 oPow (vC (.int 10)) (vC (.int 12)))) F = .ok (.d (.int (z % 1000000000000)), F) := by
        refine sV_eq ?_
        simp only [v2, vIx, vNeg, vC, gF, hix, oPow_int p12]
        simp [oMod_int, modI_pos]
      rw [ssIf_t (hcd.trans (by rw [decide_eq_true (by simp only [List.length_append, List.length_singleton]; omega)])), ssSet_eq (i := 3) nv (by rw [hF]; show (3:Nat) < 6; decide), hF]
      rfl
  obtain ⟨x, gx, eg, hg⟩ := grown_int (c := a + (ns.length : Int)) (by omega)
  obtain ⟨w, hw⟩ := rt_2 (k := "ask") ⟨by decide, by decide, by decide⟩ (by decide) gx
  obtain ⟨Q, hQ⟩ : ∃ Q : D, Q = .tup [S_ "ask", x] := ⟨_, rfl⟩
  rw [← hQ] at hw
  refine ⟨R0 ++ [Q], fun r hr => ?_, by rw [List.length_append, List.length_singleton]; omega, ?_⟩
  · rcases List.mem_append.mp hr with hr | hr
    · exact hR0w r hr
    · rw [List.mem_singleton.mp hr]; exact ⟨w, x, hw⟩
  unfold F__law_program
  refine ⟨_, runF_ret (m := lM (R0 ++ [Q])) (e := [some S, some (.d (.int 4)), none, some (.d (.int a)), none, none]) ?_⟩
  unfold b__law_program
  show ssSeq _ _ [some (.d (.scr (ns.map D.int))), some (.d (.int 4)), none, none, none, none] = _
  rw [← hS, ← hE, ssSeq_nx (ssSet_eq (i := 2) h2 (by rw [hE]; show (2:Nat) < 6; decide)), hE, ← hL]
  show ssSeq _ _ [some S, some (.d (.int 4)), some L, none, none, none] = _
  rw [ssSeq_nx (e := [some S, some (.d (.int 4)), some L, some (.d (.int 0)), none, none]) rfl, ssSeq_nx hset]
  obtain ⟨F, hF⟩ : ∃ F : FL.Env, F = [some S, some (.d (.int 4)), some L, some (.d (.int a)), none, none] := ⟨_, rfl⟩
  have gF0 : vN 0 F = .ok S := by rw [hF]; rfl
  have gF3 : vN 3 F = .ok (.d (.int a)) := by rw [hF]; rfl
  have gF2 : getE F 2 = .ok L := by rw [hF]; rfl
  have n1 : sN 1 F = .ok (.d (.int 4), F) := by rw [hF]; rfl
  have n3 : sV (v2 oAdd (vN 3) (vB bLen (vaCons (vN 0) (vaNil)))) F = .ok (.d (.int (a + (ns.length : Int))), F) := sV_eq (by simp only [v2, vB, vaCons, vaNil, gF0, gF3, hbS, oAdd_int])
  have nt : sTup (saCons (sV (vC (.str (Str.ofString "ask")))) (saCons (sCall F__law_grown [none, none] (saCons (sV (v2 oAdd (vN 3) (vB bLen (vaCons (vN 0) (vaNil))))) (saCons (sN 1) (saNil)))) (saNil))) F = .ok (.d Q, F) := by
    rw [hQ]
    have k0 : sV (vC (.str (Str.ofString "ask"))) F = .ok (.d (S_ "ask"), F) := rfl
    exact sTup_eq (sa2_eq k0 (sCall_n (bk := [none, none]) (by decide) (sa2_eq n3 n1) hg)) (by simp) (by simp [mTup, isD, unD])
  have hiL : isLst L = true := by rw [hL]; rfl
  have hap : mAppend L [.d Q] = .ok (.d .non, lM (R0 ++ [Q])) := by rw [hL]; exact app_l (by omega)
  rw [← hF, ssSeq_nx (ssDrop_eq (sMeth_eq gF2 hiL (sa1_eq nt) gF2 hap)), hF]
  rfl
theorem law_true (ns : List Int) (hn : ns.length ≤ 63) (hz : ∀ z ∈ ns, z.natAbs.log2 < 1048576) : ∃ ms', F_law [.d (.scr (ns.map D.int))] = .ok (.d (.bl true), ms') := by
  obtain ⟨R, hR, hRl, ep, hp⟩ := program_int hn
  have hc : ∀ r : D, ∃ w : Str, ∃ x : D, r ∈ R → RT r w x := fun r => by
    by_cases q : r ∈ R
    · obtain ⟨w, x, h⟩ := hR r q
      exact ⟨w, x, fun _ => h⟩
    · exact ⟨Str.empty, .non, fun z => absurd z q⟩
  obtain ⟨wf, hwf⟩ := Classical.axiomOfChoice hc
  obtain ⟨xf, hxf⟩ := Classical.axiomOfChoice hwf
  have hlen : ((R.map wf).map (·.length)).sum + (R.map wf).length * (Str.ofString "\n").length ≤ 16777216 := by
    have h1 := sum_le_n (ws := R.map wf) (B := 100000) fun w hw => by obtain ⟨r, hr, rfl⟩ := List.mem_map.mp hw; exact (hxf r hr).wl
    rw [List.length_map] at h1 ⊢
    have a1 : (Str.ofString "\n").length = 1 := len_of _
    rw [a1]
    omega
  obtain ⟨J, hJ⟩ : ∃ J, J = Txt.join (Str.ofString "\n") (R.map wf) := ⟨_, rfl⟩
  have hjn : bJoin [.d (.str (Str.ofString "\n")), .lst ((R.map wf).map fun w => .d (.str w))] = .ok (.str J) := by rw [hJ]; exact join_eq hlen
  have e1 : M.lst ([] ++ R.map fun r => M.d (.str (wf r))) = .lst ((R.map wf).map fun w => .d (.str w)) := by rw [List.nil_append, List.map_map]; rfl
  -- shown
  obtain ⟨F, hF⟩ : ∃ F : FL.Env, F = [some (.d (.lst R)), none] := ⟨_, rfl⟩
  have hsh : F_shown [.d (.lst R)] = .ok (.d (.str J), (killAll [] F).take 1) := by
    refine runF_ret ?_
    show b_shown [some (.d (.lst R)), none] = _
    unfold b_shown
    rw [← hF]
    have hk : killAll [1] F = F := by rw [hF]; rfl
    have hm := lclw_map (own := [1]) (ws := [0]) (env0 := F) (g := sgN 1) (c := sbYes) (f := sCall F_shown_row [none] (saCons (sN 1) (saNil))) (env := F) (fun r : D => r) (fun r => M.d (.str (wf r))) (fun _ _ => rfl) R [] (fun r hr => by
      obtain ⟨e, h1⟩ := (hxf r hr).sh
      obtain ⟨F1, hF1⟩ : ∃ F : FL.Env, F = [some (.d (.lst R)), some (.d r)] := ⟨_, rfl⟩
      have n1 : sN 1 F1 = .ok (.d r, F1) := by rw [hF1]; rfl
      exact ⟨F1, F1, F1, by rw [hF, hF1]; rfl, rfl, sCall_n (bk := [none]) (by decide) (sa1_eq n1) h1, by rw [hF, hF1]; rfl⟩)
    rw [List.map_id'] at hm
    have h2 := sLcW_eq (own := [1]) (ws := [0]) (fi := iwN 0) (env := F) (xs := R) (by rw [hF]; rfl) (by rw [sizeLine_eq]; omega) (by decide) (by rw [hk]; exact hm)
    rw [e1] at h2
    exact ssRet_eq (sSm_eq rfl (sa1_eq h2) hjn)
  -- the law
  obtain ⟨S, hS⟩ : ∃ S : M, S = .d (.scr (ns.map D.int)) := ⟨_, rfl⟩
  obtain ⟨L, hL⟩ : ∃ L, L = lM R := ⟨_, rfl⟩
  have hbr : brw L = some (false, R) := by
    rw [hL]
    show (if (R.map M.d).all isD = true then some (false, (R.map M.d).map unD) else none) = _
    rw [if_pos (by simp [isD]), List.map_map]
    simp [unD, Function.comp_def]
  have fzL : fz L = .lst R := by rw [hL]; simp only [fz, fzs_d]
  obtain ⟨P, hP⟩ : ∃ P : M, P = .d (.lst R) := ⟨_, rfl⟩
  rw [← hS, ← hL] at hp
  obtain ⟨E3, hE3⟩ : ∃ E : FL.Env, E = [some S, some L, some P, some (.d (.str J)), none, none] := ⟨_, rfl⟩
  have hloop : ∀ z4 z5, ∃ e' z4' z5', ssForW [1] (iwN 1) fg_law_1 fb_law_1 [some S, some L, some P, some (.d (.str J)), z4, z5] = .ok (.nx, e') ∧ e' = [some S, some L, some P, some (.d (.str J)), z4', z5'] := fun z4 z5 => by
    obtain ⟨e', h1, z4', z5', _, h2⟩ := flw_all (ws := [1]) (env0 := [some S, some L, some P, some (.d (.str J)), z4, z5]) (g := fg_law_1) (b := fb_law_1) (fun r : D => r)
      (fun rest env => ∃ z4 z5, (∀ r ∈ rest, r ∈ R) ∧ env = [some S, some L, some P, some (.d (.str J)), z4, z5])
      (fun xs env ⟨z4, z5, _, h⟩ => by subst h; intro i hi; simp at hi; subst hi; rfl)
      (fun r rest env ⟨z4, z5, hr, h⟩ => by
        subst h
        have hr0 := hxf r (hr r (by simp))
        obtain ⟨t, htl, ⟨e1, hs⟩, ⟨e2, htx⟩⟩ := hr0.gb.told
        obtain ⟨F1, hF1⟩ : ∃ F : FL.Env, F = [some S, some L, some P, some (.d (.str J)), some (.d r), z5] := ⟨_, rfl⟩
        obtain ⟨F2, hF2⟩ : ∃ F : FL.Env, F = [some S, some L, some P, some (.d (.str J)), some (.d r), some (.d (.str t))] := ⟨_, rfl⟩
        have vx : ∀ G : FL.Env, vN 4 G = .ok (.d r) → sV (vIx (vN 4) (vNeg (vC (.int 1)))) G = .ok (.d (xf r), G) := fun G g => sV_eq (by simp only [vIx, vNeg, vC, g, hr0.ix])
        have hb : fb_law_1 F1 = .ok (.nx, F2) := by
          unfold fb_law_1
          have n1 := vx F1 (by rw [hF1]; rfl)
          rw [ssSeq_nx (e := F2) (by rw [ssSet_eq (i := 5) (sCall_n (bk := [none]) (by decide) (sa1_eq n1) hs) (by rw [hF1]; show (5:Nat) < 6; decide), hF1, hF2]; rfl)]
          have n2 := vx F2 (by rw [hF2]; rfl)
          have g5 : getE F2 5 = .ok (.d (.str t)) := by rw [hF2]; rfl
          have q1 : sbNot (sbE (sV (vIsi "str" (vN 5)))) F2 = .ok (false, F2) := by rw [hF2]; rfl
          have q2 : sbE (s2n oNe 5 (sCall (F__law_text 48) [none, none] (saCons (sV (vIx (vN 4) (vNeg (vC (.int 1))))) (saCons (sV (vC (.int 0))) (saNil))))) F2 = .ok (false, F2) := by
            refine sbE_eq ?_
            unfold s2n
            rw [g5]
            simp only []
            rw [sCall_n (bk := [none, none]) (by decide) (sa2_eq n2 rfl) htx]
            simp only [g5, oNe_self]
          rw [ssIf_f (or_ff q1 q2)]
          rfl
        exact ⟨F1, F2, .nx, by rw [hF1]; rfl, hb, .inl rfl, some (.d r), some (.d (.str t)), fun x hx => hr x (by simp [hx]), hF2⟩)
      R [some S, some L, some P, some (.d (.str J)), z4, z5] ⟨z4, z5, fun r hr => hr, rfl⟩
    rw [List.map_id'] at h1
    have hi : iwN 1 [some S, some L, some P, some (.d (.str J)), z4, z5] = .ok R := by
      have g : getE [some S, some L, some P, some (.d (.str J)), z4, z5] 1 = .ok L := rfl
      simp only [iwN, g, hbr]
    exact ⟨e', z4', z5', (ssForW_eq hi).trans h1, h2⟩
  obtain ⟨e', z4', z5', hlp, rfl⟩ := hloop none none
  unfold F_law
  refine ⟨_, runF_ret (m := .d (.bl true)) (e := [some S, some L, some P, some (.d (.str J)), z4', z5']) ?_⟩
  unfold b_law
  show ssSeq _ _ [some (.d (.scr (ns.map D.int))), none, none, none, none, none] = _
  rw [← hS]
  obtain ⟨E0, hE0⟩ : ∃ E : FL.Env, E = [some S, none, none, none, none, none] := ⟨_, rfl⟩
  have n0 : sN 0 E0 = .ok (S, E0) := by rw [hE0, hS]; rfl
  rw [← hE0, ssSeq_nx (ssSet_eq (i := 1) (sCall_n (bk := [none, none]) (by decide) (sa2_eq n0 rfl) hp) (by rw [hE0]; show (1:Nat) < 6; decide)), hE0]
  show ssSeq _ _ [some S, some L, none, none, none, none] = _
  have g1 : vN 1 [some S, some L, none, none, none, none] = .ok L := rfl
  have hlv : sListV (vN 1) [some S, some L, none, none, none, none] = .ok (L, [some S, some L, none, none, none, none]) := by
    simp only [sListV, g1, hbr]
    rw [hL]
  rw [ssSeq_nx (ssSet_eq (i := 2) hlv (show (2:Nat) < 6 by decide))]
  show ssSeq _ _ [some S, some L, some L, none, none, none] = _
  have n2 : sN 2 [some S, some L, some L, none, none, none] = .ok (P, [some S, some L, some P, none, none, none]) := by
    have hPL : P = .d (fz L) := by rw [hP, fzL]
    rw [hPL, hL]
    rfl
  rw [← hP] at hsh
  rw [ssSeq_nx (ssSet_eq (i := 3) (sCall_n (bk := [none]) (by decide) (sa1_eq n2) hsh) (show (3:Nat) < 6 by decide))]
  show ssSeq _ _ [some S, some L, some P, some (.d (.str J)), none, none] = _
  rw [← hE3]
  have g3 : getE E3 3 = .ok (.d (.str J)) := by rw [hE3]; rfl
  have q1 : sbNot (sbE (sV (vIsi "str" (vN 3)))) E3 = .ok (false, E3) := by rw [hE3]; rfl
  have q2 : sbE (s2n oNe 3 (sSm bJoin (sV (vC (.str (Str.ofString "\n")))) (saCons (sLcW [4] [1] (iwN 1) (sgN 4) sbYes (sCall F__law_line [none] (saCons (sN 4) (saNil)))) (saNil)))) E3 = .ok (false, E3) := by
    have hk : killAll [4] E3 = E3 := by rw [hE3]; rfl
    have hm := lclw_map (own := [4]) (ws := [1]) (env0 := E3) (g := sgN 4) (c := sbYes) (f := sCall F__law_line [none] (saCons (sN 4) (saNil))) (env := E3) (fun r : D => r) (fun r => M.d (.str (wf r))) (fun _ _ => rfl) R [] (fun r hr => by
      obtain ⟨e, h1⟩ := (hxf r hr).ln
      obtain ⟨F1, hF1⟩ : ∃ F : FL.Env, F = [some S, some L, some P, some (.d (.str J)), some (.d r), none] := ⟨_, rfl⟩
      have n1 : sN 4 F1 = .ok (.d r, F1) := by rw [hF1]; rfl
      exact ⟨F1, F1, F1, by rw [hE3, hF1]; rfl, rfl, sCall_n (bk := [none]) (by decide) (sa1_eq n1) h1, by rw [hE3, hF1]; rfl⟩)
    rw [List.map_id'] at hm
    have hi : iwN 1 E3 = .ok R := by
      have g : getE E3 1 = .ok L := by rw [hE3]; rfl
      simp only [iwN, g, hbr]
    have h2 := sLcW_eq (own := [4]) (ws := [1]) (fi := iwN 1) (env := E3) (xs := R) hi (by rw [sizeLine_eq]; omega) (by decide) (by rw [hk]; exact hm)
    rw [e1] at h2
    refine sbE_eq ?_
    unfold s2n
    rw [g3]
    simp only []
    rw [sSm_eq (op := bJoin) (a := Str.ofString "\n") (f := sV (vC (.str (Str.ofString "\n")))) rfl (sa1_eq h2) hjn]
    simp only [g3, oNe_self]
  rw [if_skip (or_ff q1 q2), hE3, ssSeq_nx hlp]
  have hsm : Sm 41 (.lst R) := ⟨by omega, fun r hr => (hxf r hr).sm⟩
  have heq : oEq P L = .ok (.bl true) := sm_eq hsm (by decide) (by rw [hP]; rfl) fzL
  refine ssRet_eq (sV_eq ?_)
  have g2 : vN 2 [some S, some L, some P, some (.d (.str J)), z4', z5'] = .ok P := rfl
  have g1' : vN 1 [some S, some L, some P, some (.d (.str J)), z4', z5'] = .ok L := rfl
  simp only [v2, g2, g1', heq]

theorem all_mk {l : PySem.W.OpenLaw} {w : World} {K : PySem.W.Frag} {h : Heap} {mg : Str → Option Value} {fa f_law f_bracketed f_shown_op f_shown_draw f_shown_record f_shown_term f_shown_row f_shown f__law_stream f__law_name f__law_leaf f__law_made f__law_put f__law_inner f__law_size f__law_grown f__law_row f__law_program f__law_level f__law_op f__law_text f__law_line  : Addr} (X : K.In h) (G0 : h.Ns mainGlobals mg) (hfa : mg "law" = some (.ref fa))
    {od_bracketed an_bracketed : Option Addr} {sl_bracketed : Array (Option Value)} {oc_bracketed kV_bracketed dc_bracketed pm_bracketed cd_bracketed ct_bracketed : Value}
    (a_bracketed : PySem.W.nsIn K mainGlobals "bracketed" = some (some (.ref f_bracketed))) (l_bracketed : K.lookup f_bracketed = some ⟨oc_bracketed, od_bracketed, .func (PySem.W.fnOf "bracketed" "bracketed" (defArgs st_bracketed) (defBody st_bracketed) (defScope st_bracketed) .none kV_bracketed dc_bracketed pm_bracketed an_bracketed cd_bracketed ct_bracketed), sl_bracketed⟩) (c_bracketed : PySem.W.codeIn K cd_bracketed "bracketed" = true) (k_bracketed : PySem.W.keepIn K (.ref f_bracketed) = true)
    {od_shown_op an_shown_op : Option Addr} {sl_shown_op : Array (Option Value)} {oc_shown_op kV_shown_op dc_shown_op pm_shown_op cd_shown_op ct_shown_op : Value}
    (a_shown_op : PySem.W.nsIn K mainGlobals "shown_op" = some (some (.ref f_shown_op))) (l_shown_op : K.lookup f_shown_op = some ⟨oc_shown_op, od_shown_op, .func (PySem.W.fnOf "shown_op" "shown_op" (defArgs st_shown_op) (defBody st_shown_op) (defScope st_shown_op) .none kV_shown_op dc_shown_op pm_shown_op an_shown_op cd_shown_op ct_shown_op), sl_shown_op⟩) (c_shown_op : PySem.W.codeIn K cd_shown_op "shown_op" = true) (k_shown_op : PySem.W.keepIn K (.ref f_shown_op) = true)
    {od_shown_draw an_shown_draw : Option Addr} {sl_shown_draw : Array (Option Value)} {oc_shown_draw kV_shown_draw dc_shown_draw pm_shown_draw cd_shown_draw ct_shown_draw : Value}
    (a_shown_draw : PySem.W.nsIn K mainGlobals "shown_draw" = some (some (.ref f_shown_draw))) (l_shown_draw : K.lookup f_shown_draw = some ⟨oc_shown_draw, od_shown_draw, .func (PySem.W.fnOf "shown_draw" "shown_draw" (defArgs st_shown_draw) (defBody st_shown_draw) (defScope st_shown_draw) .none kV_shown_draw dc_shown_draw pm_shown_draw an_shown_draw cd_shown_draw ct_shown_draw), sl_shown_draw⟩) (c_shown_draw : PySem.W.codeIn K cd_shown_draw "shown_draw" = true) (k_shown_draw : PySem.W.keepIn K (.ref f_shown_draw) = true)
    {od_shown_record an_shown_record : Option Addr} {sl_shown_record : Array (Option Value)} {oc_shown_record kV_shown_record dc_shown_record pm_shown_record cd_shown_record ct_shown_record : Value}
    (a_shown_record : PySem.W.nsIn K mainGlobals "shown_record" = some (some (.ref f_shown_record))) (l_shown_record : K.lookup f_shown_record = some ⟨oc_shown_record, od_shown_record, .func (PySem.W.fnOf "shown_record" "shown_record" (defArgs st_shown_record) (defBody st_shown_record) (defScope st_shown_record) .none kV_shown_record dc_shown_record pm_shown_record an_shown_record cd_shown_record ct_shown_record), sl_shown_record⟩) (c_shown_record : PySem.W.codeIn K cd_shown_record "shown_record" = true) (k_shown_record : PySem.W.keepIn K (.ref f_shown_record) = true)
    {od_shown_term an_shown_term : Option Addr} {sl_shown_term : Array (Option Value)} {oc_shown_term kV_shown_term dc_shown_term pm_shown_term cd_shown_term ct_shown_term : Value}
    (a_shown_term : PySem.W.nsIn K mainGlobals "shown_term" = some (some (.ref f_shown_term))) (l_shown_term : K.lookup f_shown_term = some ⟨oc_shown_term, od_shown_term, .func (PySem.W.fnOf "shown_term" "shown_term" (defArgs st_shown_term) (defBody st_shown_term) (defScope st_shown_term) .none kV_shown_term dc_shown_term pm_shown_term an_shown_term cd_shown_term ct_shown_term), sl_shown_term⟩) (c_shown_term : PySem.W.codeIn K cd_shown_term "shown_term" = true) (k_shown_term : PySem.W.keepIn K (.ref f_shown_term) = true)
    {od_shown_row an_shown_row : Option Addr} {sl_shown_row : Array (Option Value)} {oc_shown_row kV_shown_row dc_shown_row pm_shown_row cd_shown_row ct_shown_row : Value}
    (a_shown_row : PySem.W.nsIn K mainGlobals "shown_row" = some (some (.ref f_shown_row))) (l_shown_row : K.lookup f_shown_row = some ⟨oc_shown_row, od_shown_row, .func (PySem.W.fnOf "shown_row" "shown_row" (defArgs st_shown_row) (defBody st_shown_row) (defScope st_shown_row) .none kV_shown_row dc_shown_row pm_shown_row an_shown_row cd_shown_row ct_shown_row), sl_shown_row⟩) (c_shown_row : PySem.W.codeIn K cd_shown_row "shown_row" = true) (k_shown_row : PySem.W.keepIn K (.ref f_shown_row) = true)
    {od_shown an_shown : Option Addr} {sl_shown : Array (Option Value)} {oc_shown kV_shown dc_shown pm_shown cd_shown ct_shown : Value}
    (a_shown : PySem.W.nsIn K mainGlobals "shown" = some (some (.ref f_shown))) (l_shown : K.lookup f_shown = some ⟨oc_shown, od_shown, .func (PySem.W.fnOf "shown" "shown" (defArgs st_shown) (defBody st_shown) (defScope st_shown) .none kV_shown dc_shown pm_shown an_shown cd_shown ct_shown), sl_shown⟩) (c_shown : PySem.W.codeIn K cd_shown "shown" = true) (k_shown : PySem.W.keepIn K (.ref f_shown) = true)
    {od__law_stream an__law_stream : Option Addr} {sl__law_stream : Array (Option Value)} {oc__law_stream kV__law_stream dc__law_stream pm__law_stream cd__law_stream ct__law_stream : Value}
    (a__law_stream : PySem.W.nsIn K mainGlobals "_law_stream" = some (some (.ref f__law_stream))) (l__law_stream : K.lookup f__law_stream = some ⟨oc__law_stream, od__law_stream, .func (PySem.W.fnOf "_law_stream" "_law_stream" (defArgs st__law_stream) (defBody st__law_stream) (defScope st__law_stream) .none kV__law_stream dc__law_stream pm__law_stream an__law_stream cd__law_stream ct__law_stream), sl__law_stream⟩) (c__law_stream : PySem.W.codeIn K cd__law_stream "_law_stream" = true) (k__law_stream : PySem.W.keepIn K (.ref f__law_stream) = true)
    {od__law_name an__law_name : Option Addr} {sl__law_name : Array (Option Value)} {oc__law_name kV__law_name dc__law_name pm__law_name cd__law_name ct__law_name : Value}
    (a__law_name : PySem.W.nsIn K mainGlobals "_law_name" = some (some (.ref f__law_name))) (l__law_name : K.lookup f__law_name = some ⟨oc__law_name, od__law_name, .func (PySem.W.fnOf "_law_name" "_law_name" (defArgs st__law_name) (defBody st__law_name) (defScope st__law_name) .none kV__law_name dc__law_name pm__law_name an__law_name cd__law_name ct__law_name), sl__law_name⟩) (c__law_name : PySem.W.codeIn K cd__law_name "_law_name" = true) (k__law_name : PySem.W.keepIn K (.ref f__law_name) = true)
    {od__law_leaf an__law_leaf : Option Addr} {sl__law_leaf : Array (Option Value)} {oc__law_leaf kV__law_leaf dc__law_leaf pm__law_leaf cd__law_leaf ct__law_leaf : Value}
    (a__law_leaf : PySem.W.nsIn K mainGlobals "_law_leaf" = some (some (.ref f__law_leaf))) (l__law_leaf : K.lookup f__law_leaf = some ⟨oc__law_leaf, od__law_leaf, .func (PySem.W.fnOf "_law_leaf" "_law_leaf" (defArgs st__law_leaf) (defBody st__law_leaf) (defScope st__law_leaf) .none kV__law_leaf dc__law_leaf pm__law_leaf an__law_leaf cd__law_leaf ct__law_leaf), sl__law_leaf⟩) (c__law_leaf : PySem.W.codeIn K cd__law_leaf "_law_leaf" = true) (k__law_leaf : PySem.W.keepIn K (.ref f__law_leaf) = true)
    {od__law_made an__law_made : Option Addr} {sl__law_made : Array (Option Value)} {oc__law_made kV__law_made dc__law_made pm__law_made cd__law_made ct__law_made : Value}
    (a__law_made : PySem.W.nsIn K mainGlobals "_law_made" = some (some (.ref f__law_made))) (l__law_made : K.lookup f__law_made = some ⟨oc__law_made, od__law_made, .func (PySem.W.fnOf "_law_made" "_law_made" (defArgs st__law_made) (defBody st__law_made) (defScope st__law_made) .none kV__law_made dc__law_made pm__law_made an__law_made cd__law_made ct__law_made), sl__law_made⟩) (c__law_made : PySem.W.codeIn K cd__law_made "_law_made" = true) (k__law_made : PySem.W.keepIn K (.ref f__law_made) = true)
    {od__law_put an__law_put : Option Addr} {sl__law_put : Array (Option Value)} {oc__law_put kV__law_put dc__law_put pm__law_put cd__law_put ct__law_put : Value}
    (a__law_put : PySem.W.nsIn K mainGlobals "_law_put" = some (some (.ref f__law_put))) (l__law_put : K.lookup f__law_put = some ⟨oc__law_put, od__law_put, .func (PySem.W.fnOf "_law_put" "_law_put" (defArgs st__law_put) (defBody st__law_put) (defScope st__law_put) .none kV__law_put dc__law_put pm__law_put an__law_put cd__law_put ct__law_put), sl__law_put⟩) (c__law_put : PySem.W.codeIn K cd__law_put "_law_put" = true) (k__law_put : PySem.W.keepIn K (.ref f__law_put) = true)
    {od__law_inner an__law_inner : Option Addr} {sl__law_inner : Array (Option Value)} {oc__law_inner kV__law_inner dc__law_inner pm__law_inner cd__law_inner ct__law_inner : Value}
    (a__law_inner : PySem.W.nsIn K mainGlobals "_law_inner" = some (some (.ref f__law_inner))) (l__law_inner : K.lookup f__law_inner = some ⟨oc__law_inner, od__law_inner, .func (PySem.W.fnOf "_law_inner" "_law_inner" (defArgs st__law_inner) (defBody st__law_inner) (defScope st__law_inner) .none kV__law_inner dc__law_inner pm__law_inner an__law_inner cd__law_inner ct__law_inner), sl__law_inner⟩) (c__law_inner : PySem.W.codeIn K cd__law_inner "_law_inner" = true) (k__law_inner : PySem.W.keepIn K (.ref f__law_inner) = true)
    {od__law_size an__law_size : Option Addr} {sl__law_size : Array (Option Value)} {oc__law_size kV__law_size dc__law_size pm__law_size cd__law_size ct__law_size : Value}
    (a__law_size : PySem.W.nsIn K mainGlobals "_law_size" = some (some (.ref f__law_size))) (l__law_size : K.lookup f__law_size = some ⟨oc__law_size, od__law_size, .func (PySem.W.fnOf "_law_size" "_law_size" (defArgs st__law_size) (defBody st__law_size) (defScope st__law_size) .none kV__law_size dc__law_size pm__law_size an__law_size cd__law_size ct__law_size), sl__law_size⟩) (c__law_size : PySem.W.codeIn K cd__law_size "_law_size" = true) (k__law_size : PySem.W.keepIn K (.ref f__law_size) = true)
    {od__law_grown an__law_grown : Option Addr} {sl__law_grown : Array (Option Value)} {oc__law_grown kV__law_grown dc__law_grown pm__law_grown cd__law_grown ct__law_grown : Value}
    (a__law_grown : PySem.W.nsIn K mainGlobals "_law_grown" = some (some (.ref f__law_grown))) (l__law_grown : K.lookup f__law_grown = some ⟨oc__law_grown, od__law_grown, .func (PySem.W.fnOf "_law_grown" "_law_grown" (defArgs st__law_grown) (defBody st__law_grown) (defScope st__law_grown) .none kV__law_grown dc__law_grown pm__law_grown an__law_grown cd__law_grown ct__law_grown), sl__law_grown⟩) (c__law_grown : PySem.W.codeIn K cd__law_grown "_law_grown" = true) (k__law_grown : PySem.W.keepIn K (.ref f__law_grown) = true)
    {od__law_row an__law_row : Option Addr} {sl__law_row : Array (Option Value)} {oc__law_row kV__law_row dc__law_row pm__law_row cd__law_row ct__law_row : Value}
    (a__law_row : PySem.W.nsIn K mainGlobals "_law_row" = some (some (.ref f__law_row))) (l__law_row : K.lookup f__law_row = some ⟨oc__law_row, od__law_row, .func (PySem.W.fnOf "_law_row" "_law_row" (defArgs st__law_row) (defBody st__law_row) (defScope st__law_row) .none kV__law_row dc__law_row pm__law_row an__law_row cd__law_row ct__law_row), sl__law_row⟩) (c__law_row : PySem.W.codeIn K cd__law_row "_law_row" = true) (k__law_row : PySem.W.keepIn K (.ref f__law_row) = true)
    {od__law_program an__law_program : Option Addr} {sl__law_program : Array (Option Value)} {oc__law_program kV__law_program dc__law_program pm__law_program cd__law_program ct__law_program : Value}
    (a__law_program : PySem.W.nsIn K mainGlobals "_law_program" = some (some (.ref f__law_program))) (l__law_program : K.lookup f__law_program = some ⟨oc__law_program, od__law_program, .func (PySem.W.fnOf "_law_program" "_law_program" (defArgs st__law_program) (defBody st__law_program) (defScope st__law_program) .none kV__law_program dc__law_program pm__law_program an__law_program cd__law_program ct__law_program), sl__law_program⟩) (c__law_program : PySem.W.codeIn K cd__law_program "_law_program" = true) (k__law_program : PySem.W.keepIn K (.ref f__law_program) = true)
    {od__law_level an__law_level : Option Addr} {sl__law_level : Array (Option Value)} {oc__law_level kV__law_level dc__law_level pm__law_level cd__law_level ct__law_level : Value}
    (a__law_level : PySem.W.nsIn K mainGlobals "_law_level" = some (some (.ref f__law_level))) (l__law_level : K.lookup f__law_level = some ⟨oc__law_level, od__law_level, .func (PySem.W.fnOf "_law_level" "_law_level" (defArgs st__law_level) (defBody st__law_level) (defScope st__law_level) .none kV__law_level dc__law_level pm__law_level an__law_level cd__law_level ct__law_level), sl__law_level⟩) (c__law_level : PySem.W.codeIn K cd__law_level "_law_level" = true) (k__law_level : PySem.W.keepIn K (.ref f__law_level) = true)
    {od__law_op an__law_op : Option Addr} {sl__law_op : Array (Option Value)} {oc__law_op kV__law_op dc__law_op pm__law_op cd__law_op ct__law_op : Value}
    (a__law_op : PySem.W.nsIn K mainGlobals "_law_op" = some (some (.ref f__law_op))) (l__law_op : K.lookup f__law_op = some ⟨oc__law_op, od__law_op, .func (PySem.W.fnOf "_law_op" "_law_op" (defArgs st__law_op) (defBody st__law_op) (defScope st__law_op) .none kV__law_op dc__law_op pm__law_op an__law_op cd__law_op ct__law_op), sl__law_op⟩) (c__law_op : PySem.W.codeIn K cd__law_op "_law_op" = true) (k__law_op : PySem.W.keepIn K (.ref f__law_op) = true)
    {od__law_text an__law_text : Option Addr} {sl__law_text : Array (Option Value)} {oc__law_text kV__law_text dc__law_text pm__law_text cd__law_text ct__law_text : Value}
    (a__law_text : PySem.W.nsIn K mainGlobals "_law_text" = some (some (.ref f__law_text))) (l__law_text : K.lookup f__law_text = some ⟨oc__law_text, od__law_text, .func (PySem.W.fnOf "_law_text" "_law_text" (defArgs st__law_text) (defBody st__law_text) (defScope st__law_text) .none kV__law_text dc__law_text pm__law_text an__law_text cd__law_text ct__law_text), sl__law_text⟩) (c__law_text : PySem.W.codeIn K cd__law_text "_law_text" = true) (k__law_text : PySem.W.keepIn K (.ref f__law_text) = true)
    {od__law_line an__law_line : Option Addr} {sl__law_line : Array (Option Value)} {oc__law_line kV__law_line dc__law_line pm__law_line cd__law_line ct__law_line : Value}
    (a__law_line : PySem.W.nsIn K mainGlobals "_law_line" = some (some (.ref f__law_line))) (l__law_line : K.lookup f__law_line = some ⟨oc__law_line, od__law_line, .func (PySem.W.fnOf "_law_line" "_law_line" (defArgs st__law_line) (defBody st__law_line) (defScope st__law_line) .none kV__law_line dc__law_line pm__law_line an__law_line cd__law_line ct__law_line), sl__law_line⟩) (c__law_line : PySem.W.codeIn K cd__law_line "_law_line" = true) (k__law_line : PySem.W.keepIn K (.ref f__law_line) = true)
    {od_law an_law : Option Addr} {sl_law : Array (Option Value)} {oc_law kV_law dc_law pm_law cd_law ct_law : Value}
    (a_law : PySem.W.nsIn K mainGlobals "law" = some (some (.ref f_law))) (l_law : K.lookup f_law = some ⟨oc_law, od_law, .func (PySem.W.fnOf "law" "law" (defArgs st_law) (defBody st_law) (defScope st_law) .none kV_law dc_law pm_law an_law cd_law ct_law), sl_law⟩) (c_law : PySem.W.codeIn K cd_law "law" = true) (k_law : PySem.W.keepIn K (.ref f_law) = true)
    (z_enumerate : PySem.W.nsIn K mainGlobals "enumerate" = some none)
    (z_isinstance : PySem.W.nsIn K mainGlobals "isinstance" = some none)
    (z_len : PySem.W.nsIn K mainGlobals "len" = some none)
    (z_list : PySem.W.nsIn K mainGlobals "list" = some none)
    (z_max : PySem.W.nsIn K mainGlobals "max" = some none)
    (z_range : PySem.W.nsIn K mainGlobals "range" = some none)
    (z_str : PySem.W.nsIn K mainGlobals "str" = some none)
    (z_sum : PySem.W.nsIn K mainGlobals "sum" = some none)
    (z_tuple : PySem.W.nsIn K mainGlobals "tuple" = some none)
    {t_LOOSE_0 t_LOOSE_1 t_LOOSE_2 t_LOOSE_3 : Tok} {a_g_LOOSE : Addr} {d_g_LOOSE : Option Addr} {n_g_LOOSE : Nat} {sl_g_LOOSE : Array (Option Value)} (gg_LOOSE : PySem.W.nsIn K mainGlobals "LOOSE" = some (some (.ref a_g_LOOSE))) (gl_LOOSE : K.lookup a_g_LOOSE = some ⟨.type "tuple", d_g_LOOSE, .seq #[.str (Str.ofString "=") t_LOOSE_0, .str (Str.ofString "<") t_LOOSE_1, .str (Str.ofString "+") t_LOOSE_2, .str (Str.ofString "-") t_LOOSE_3] n_g_LOOSE, sl_g_LOOSE⟩)
    (hlaw : ∀ ns : List Int, ns.length ≤ 63 → (∀ z ∈ ns, z.natAbs.log2 < 1048576) → ∃ ms', F_law [.d (.scr (ns.map D.int))] = .ok (.d (.bl true), ms')) :
    ∃ (G : Gx) (fd : FuncData) (F : FS), G.K.In h ∧ (∀ (s : Shared) (u : Value), BindsTo s fd ⟨[u], []⟩ [("_law_script", u)]) ∧
        (∀ ns : List Int, ns.length ≤ 63 → (∀ z ∈ ns, z.natAbs.log2 < 1048576) → ∃ ms', F [.d (.scr (ns.map D.int))] = .ok (.d (.bl true), ms')) ∧
        ∀ base : Heap, G.K.In base → base.Ns mainGlobals mg → FnOk l.prog w G.K mg base (L2.CX l.prog w) 99 fa fd ["_law_script"] (spF G 1 F) := by
  have e := hfa.symm.trans (PySem.W.mg_of X G0 a_law)
  cases e
  let G : Gx := ⟨K, fun s => fa, w⟩
  have T : Tx G mg := ⟨PySem.W.mg_none_of X G0 z_len, PySem.W.mg_none_of X G0 z_enumerate, PySem.W.mg_none_of X G0 z_isinstance, PySem.W.mg_none_of X G0 z_list, PySem.W.mg_none_of X G0 z_max, PySem.W.mg_none_of X G0 z_range, PySem.W.mg_none_of X G0 z_str, PySem.W.mg_none_of X G0 z_sum, PySem.W.mg_none_of X G0 z_tuple, ⟨_, .ref a_g_LOOSE, PySem.W.mg_of X G0 gg_LOOSE, rfl, fun Z => by simp only [RepD, g_LOOSE, RepDs]; exact ⟨a_g_LOOSE, [.str (Str.ofString "="), .str (Str.ofString "<"), .str (Str.ofString "+"), .str (Str.ofString "-")], rfl, .inr ⟨_, _, _, gl_LOOSE, rfl, rfl, (by show 4 ≤ sizeLine; decide), .cons (⟨_, rfl⟩) (.cons (⟨_, rfl⟩) (.cons (⟨_, rfl⟩) (.cons (⟨_, rfl⟩) (.nil))))⟩, ⟨_, _, rfl, by simp [RepD], ⟨_, _, rfl, by simp [RepD], ⟨_, _, rfl, by simp [RepD], ⟨_, _, rfl, by simp [RepD], rfl⟩⟩⟩⟩⟩⟩⟩
  have F_bracketed_ : Fun G.K "bracketed" "bracketed" st_bracketed f_bracketed _ := fun_mk (st := st_bracketed) l_bracketed c_bracketed k_bracketed
  have F_shown_op_ : Fun G.K "shown_op" "shown_op" st_shown_op f_shown_op _ := fun_mk (st := st_shown_op) l_shown_op c_shown_op k_shown_op
  have F_shown_draw_ : Fun G.K "shown_draw" "shown_draw" st_shown_draw f_shown_draw _ := fun_mk (st := st_shown_draw) l_shown_draw c_shown_draw k_shown_draw
  have F_shown_record_ : Fun G.K "shown_record" "shown_record" st_shown_record f_shown_record _ := fun_mk (st := st_shown_record) l_shown_record c_shown_record k_shown_record
  have F_shown_term_ : Fun G.K "shown_term" "shown_term" st_shown_term f_shown_term _ := fun_mk (st := st_shown_term) l_shown_term c_shown_term k_shown_term
  have F_shown_row_ : Fun G.K "shown_row" "shown_row" st_shown_row f_shown_row _ := fun_mk (st := st_shown_row) l_shown_row c_shown_row k_shown_row
  have F_shown_ : Fun G.K "shown" "shown" st_shown f_shown _ := fun_mk (st := st_shown) l_shown c_shown k_shown
  have F__law_stream_ : Fun G.K "_law_stream" "_law_stream" st__law_stream f__law_stream _ := fun_mk (st := st__law_stream) l__law_stream c__law_stream k__law_stream
  have F__law_name_ : Fun G.K "_law_name" "_law_name" st__law_name f__law_name _ := fun_mk (st := st__law_name) l__law_name c__law_name k__law_name
  have F__law_leaf_ : Fun G.K "_law_leaf" "_law_leaf" st__law_leaf f__law_leaf _ := fun_mk (st := st__law_leaf) l__law_leaf c__law_leaf k__law_leaf
  have F__law_made_ : Fun G.K "_law_made" "_law_made" st__law_made f__law_made _ := fun_mk (st := st__law_made) l__law_made c__law_made k__law_made
  have F__law_put_ : Fun G.K "_law_put" "_law_put" st__law_put f__law_put _ := fun_mk (st := st__law_put) l__law_put c__law_put k__law_put
  have F__law_inner_ : Fun G.K "_law_inner" "_law_inner" st__law_inner f__law_inner _ := fun_mk (st := st__law_inner) l__law_inner c__law_inner k__law_inner
  have F__law_size_ : Fun G.K "_law_size" "_law_size" st__law_size f__law_size _ := fun_mk (st := st__law_size) l__law_size c__law_size k__law_size
  have F__law_grown_ : Fun G.K "_law_grown" "_law_grown" st__law_grown f__law_grown _ := fun_mk (st := st__law_grown) l__law_grown c__law_grown k__law_grown
  have F__law_row_ : Fun G.K "_law_row" "_law_row" st__law_row f__law_row _ := fun_mk (st := st__law_row) l__law_row c__law_row k__law_row
  have F__law_program_ : Fun G.K "_law_program" "_law_program" st__law_program f__law_program _ := fun_mk (st := st__law_program) l__law_program c__law_program k__law_program
  have F__law_level_ : Fun G.K "_law_level" "_law_level" st__law_level f__law_level _ := fun_mk (st := st__law_level) l__law_level c__law_level k__law_level
  have F__law_op_ : Fun G.K "_law_op" "_law_op" st__law_op f__law_op _ := fun_mk (st := st__law_op) l__law_op c__law_op k__law_op
  have F__law_text_ : Fun G.K "_law_text" "_law_text" st__law_text f__law_text _ := fun_mk (st := st__law_text) l__law_text c__law_text k__law_text
  have F__law_line_ : Fun G.K "_law_line" "_law_line" st__law_line f__law_line _ := fun_mk (st := st__law_line) l__law_line c__law_line k__law_line
  have F_law_ : Fun G.K "law" "law" st_law fa _ := fun_mk (st := st_law) l_law c_law k_law
  refine ⟨G, PySem.W.fnOf "law" "law" (defArgs st_law) (defBody st_law) (defScope st_law) .none kV_law dc_law pm_law an_law cd_law ct_law, F_law, X, fun s v => .of_eq rfl, hlaw, fun base _ _ => ?_⟩
  have h_shown_draw := K16.a_shown_draw (P := l.prog) (base := base) T F_shown_draw_ (PySem.W.mg_of X G0 a_shown_draw)
  have h_shown_term : FnA l.prog w G mg base 73 "shown_term" 1 (F_shown_term 24) := K16.a_shown_term (P := l.prog) (base := base) T h_shown_draw F_bracketed_ (PySem.W.mg_of X G0 a_bracketed) F_shown_op_ (PySem.W.mg_of X G0 a_shown_op) F_shown_record_ (PySem.W.mg_of X G0 a_shown_record) F_shown_term_ (PySem.W.mg_of X G0 a_shown_term) 24
  have h_shown_row := K16.a_shown_row (P := l.prog) (base := base) T h_shown_term F_shown_row_ (PySem.W.mg_of X G0 a_shown_row)
  have h_shown := K16.a_shown (P := l.prog) (base := base) T h_shown_row F_shown_ (PySem.W.mg_of X G0 a_shown)
  have h__law_stream := K16.a__law_stream (P := l.prog) (base := base) T F__law_stream_ (PySem.W.mg_of X G0 a__law_stream)
  have h__law_name := K16.a__law_name (P := l.prog) (base := base) T F__law_name_ (PySem.W.mg_of X G0 a__law_name)
  have h__law_leaf := K16.a__law_leaf (P := l.prog) (base := base) T h__law_name F__law_leaf_ (PySem.W.mg_of X G0 a__law_leaf)
  have h__law_made := K16.a__law_made (P := l.prog) (base := base) T h__law_name F__law_made_ (PySem.W.mg_of X G0 a__law_made)
  have h__law_put := K16.a__law_put (P := l.prog) (base := base) T h__law_leaf h__law_made F__law_put_ (PySem.W.mg_of X G0 a__law_put)
  have h__law_inner := K16.a__law_inner (P := l.prog) (base := base) T F__law_inner_ (PySem.W.mg_of X G0 a__law_inner)
  have h__law_size : FnA l.prog w G mg base 25 "_law_size" 1 (F__law_size 24) := K16.a__law_size (P := l.prog) (base := base) T h__law_inner F__law_size_ (PySem.W.mg_of X G0 a__law_size) 24
  have h__law_grown := K16.a__law_grown (P := l.prog) (base := base) T h__law_leaf h__law_put h__law_size h__law_stream F__law_grown_ (PySem.W.mg_of X G0 a__law_grown)
  have h__law_row := K16.a__law_row (P := l.prog) (base := base) T h__law_grown h__law_name F__law_row_ (PySem.W.mg_of X G0 a__law_row)
  have h__law_program := K16.a__law_program (P := l.prog) (base := base) T h__law_grown h__law_row F__law_program_ (PySem.W.mg_of X G0 a__law_program)
  have h__law_level := K16.a__law_level (P := l.prog) (base := base) T F__law_level_ (PySem.W.mg_of X G0 a__law_level)
  have h__law_text : FnA l.prog w G mg base 97 "_law_text" 2 (F__law_text 48) := K16.a__law_text (P := l.prog) (base := base) T h__law_inner h__law_level F__law_op_ (PySem.W.mg_of X G0 a__law_op) F__law_text_ (PySem.W.mg_of X G0 a__law_text) 48
  have h__law_line := K16.a__law_line (P := l.prog) (base := base) T h__law_text F__law_line_ (PySem.W.mg_of X G0 a__law_line)
  exact K16.a_law T h__law_line h__law_program h__law_text h_shown h_shown_term F_law_
theorem walk {l : PySem.W.OpenLaw} {q : Program} {loose : List Str} {XP : (Str → Option Value) → Heap → Prop} {YP : World → Heap → Prop} {d : DefRec} (hn : l.most = some 63) (hdf : d.params.defaults = [])
    (F : ∀ (w : World) (mg : Str → Option Value) (fa : Addr) (h : Heap), YP w h → h.Ns mainGlobals mg → mg d.name = some (.ref fa) →
      ∃ (G : Gx) (fd : FuncData) (F : FS), G.K.In h ∧ (∀ (s : Shared) (u : Value), BindsTo s fd ⟨[u], []⟩ [("_law_script", u)]) ∧
        (∀ ns : List Int, ns.length ≤ 63 → (∀ z ∈ ns, z.natAbs.log2 < 1048576) → ∃ ms', F [.d (.scr (ns.map D.int))] = .ok (.d (.bl true), ms')) ∧
        ∀ base : Heap, G.K.In base → base.Ns mainGlobals mg → FnOk l.prog w G.K mg base (L2.CX l.prog w) 99 fa fd ["_law_script"] (spF G 1 F)) :
    PySem.W.WalkO q loose XP YP l.row.toRowW d [] (fun f vs => PySem.call f vs) := FL.walk (x := "_law_script") (k := 99) hn hdf ⟨rfl, by decide, by decide⟩ F
end K16
open PySem PySem.W PyProof.Rows
set_option maxRecDepth 100000 in
set_option maxHeartbeats 0 in
theorem PySem.Challenge.cw_flipwright_k16_shown_holds : PySem.Challenge.rw_flipwright_k16_shown.Holds := by
  w_on; o_law; k_head; (case hw => w_witness2)
  k_fill
  refine K16.walk (l := PySem.Challenge.rw_flipwright_k16_shown) rfl rfl ?F
  case F =>
    intro w mg fa h Y G hmg
    refine' K16.all_mk (PySem.W.kIn_of Y) G hmg ?a_bracketed ?l_bracketed ?c_bracketed ?k_bracketed ?a_shown_op ?l_shown_op ?c_shown_op ?k_shown_op ?a_shown_draw ?l_shown_draw ?c_shown_draw ?k_shown_draw ?a_shown_record ?l_shown_record ?c_shown_record ?k_shown_record ?a_shown_term ?l_shown_term ?c_shown_term ?k_shown_term ?a_shown_row ?l_shown_row ?c_shown_row ?k_shown_row ?a_shown ?l_shown ?c_shown ?k_shown ?a__law_stream ?l__law_stream ?c__law_stream ?k__law_stream ?a__law_name ?l__law_name ?c__law_name ?k__law_name ?a__law_leaf ?l__law_leaf ?c__law_leaf ?k__law_leaf ?a__law_made ?l__law_made ?c__law_made ?k__law_made ?a__law_put ?l__law_put ?c__law_put ?k__law_put ?a__law_inner ?l__law_inner ?c__law_inner ?k__law_inner ?a__law_size ?l__law_size ?c__law_size ?k__law_size ?a__law_grown ?l__law_grown ?c__law_grown ?k__law_grown ?a__law_row ?l__law_row ?c__law_row ?k__law_row ?a__law_program ?l__law_program ?c__law_program ?k__law_program ?a__law_level ?l__law_level ?c__law_level ?k__law_level ?a__law_op ?l__law_op ?c__law_op ?k__law_op ?a__law_text ?l__law_text ?c__law_text ?k__law_text ?a__law_line ?l__law_line ?c__law_line ?k__law_line ?a_law ?l_law ?c_law ?k_law ?z_enumerate ?z_isinstance ?z_len ?z_list ?z_max ?z_range ?z_str ?z_sum ?z_tuple ?gg_LOOSE ?gl_LOOSE K16.law_true
    (case a_bracketed => k_is); (case l_bracketed => k_is); (case c_bracketed => k_is); (case k_bracketed => k_is)
    (case a_shown_op => k_is); (case l_shown_op => k_is); (case c_shown_op => k_is); (case k_shown_op => k_is)
    (case a_shown_draw => k_is); (case l_shown_draw => k_is); (case c_shown_draw => k_is); (case k_shown_draw => k_is)
    (case a_shown_record => k_is); (case l_shown_record => k_is); (case c_shown_record => k_is); (case k_shown_record => k_is)
    (case a_shown_term => k_is); (case l_shown_term => k_is); (case c_shown_term => k_is); (case k_shown_term => k_is)
    (case a_shown_row => k_is); (case l_shown_row => k_is); (case c_shown_row => k_is); (case k_shown_row => k_is)
    (case a_shown => k_is); (case l_shown => k_is); (case c_shown => k_is); (case k_shown => k_is)
    (case a__law_stream => k_is); (case l__law_stream => k_is); (case c__law_stream => k_is); (case k__law_stream => k_is)
    (case a__law_name => k_is); (case l__law_name => k_is); (case c__law_name => k_is); (case k__law_name => k_is)
    (case a__law_leaf => k_is); (case l__law_leaf => k_is); (case c__law_leaf => k_is); (case k__law_leaf => k_is)
    (case a__law_made => k_is); (case l__law_made => k_is); (case c__law_made => k_is); (case k__law_made => k_is)
    (case a__law_put => k_is); (case l__law_put => k_is); (case c__law_put => k_is); (case k__law_put => k_is)
    (case a__law_inner => k_is); (case l__law_inner => k_is); (case c__law_inner => k_is); (case k__law_inner => k_is)
    (case a__law_size => k_is); (case l__law_size => k_is); (case c__law_size => k_is); (case k__law_size => k_is)
    (case a__law_grown => k_is); (case l__law_grown => k_is); (case c__law_grown => k_is); (case k__law_grown => k_is)
    (case a__law_row => k_is); (case l__law_row => k_is); (case c__law_row => k_is); (case k__law_row => k_is)
    (case a__law_program => k_is); (case l__law_program => k_is); (case c__law_program => k_is); (case k__law_program => k_is)
    (case a__law_level => k_is); (case l__law_level => k_is); (case c__law_level => k_is); (case k__law_level => k_is)
    (case a__law_op => k_is); (case l__law_op => k_is); (case c__law_op => k_is); (case k__law_op => k_is)
    (case a__law_text => k_is); (case l__law_text => k_is); (case c__law_text => k_is); (case k__law_text => k_is)
    (case a__law_line => k_is); (case l__law_line => k_is); (case c__law_line => k_is); (case k__law_line => k_is)
    (case a_law => k_is); (case l_law => k_is); (case c_law => k_is); (case k_law => k_is)
    (case z_enumerate => k_is); (case z_isinstance => k_is); (case z_len => k_is); (case z_list => k_is)
    (case z_max => k_is); (case z_range => k_is); (case z_str => k_is); (case z_sum => k_is)
    (case z_tuple => k_is); (case gg_LOOSE => k_is); (case gl_LOOSE => k_is)
