import PyProof.Rows.All
import Wide.All
import OpenK.AllK
import Wide.FinOn
import KE.KStateDown
import Lean
import HandS.Base
import HandS.Call
import HandS.Ends
import HandS.Defaults
import HandS.Head0
import HandS.Head1
import HandS.Head2
import HandS.HeadEnd
import HandS.HeadHook1
import HandS.HeadHook2
import HandS.ForMost
import HandS.IsInst
import HandS.SortInts
import HandS.Wide
import HandS.WideBits
import HandS.Flow
import HandS.Zip
import HandS.Conv
import HandS.Walk
import HandS.Deep
import HandS.More
import HandS.Style
import HandS.Star
import PyProof.ReprRoads
import HandS.Dict
import HandS.SetFor
import HandS.Comp
import HandS.DictComp
import HandS.Text
import PyProof.SumWalkG
import HandS.ExcValue
import HandS.NoneIn
import KE.SortData
import KE.DataMinMax
import HandS.TupSets
import HandS.TupLen
import KE.KDictPairs
import HandS.Gcd
import HandS.Head3
import PySem.Challenge.RW_suretricks_k62_whole_counting_on
set_option Elab.async false
set_option linter.all false
set_option maxRecDepth 100000
set_option maxHeartbeats 4000000

namespace DL
open PySem PySem.Spec PyProof.Rows L2
/-! the plain layer: values without addresses, what represents them, the transfer of readings -/

/-- plain data; ref: a thing at an address that is looked up in the table of mutable things -/
inductive D where
  | non | bl (b : Bool) | int (i : Int) | str (x : Str) | ref (a : Addr) | ty (n : String)
  | lst (xs : List D) | tup (xs : List D) | dct (ks : List Key) (xs : List D)
  /-- the law's own list: read, never written -/
  | scr (K : PySem.W.Frag) (xs : List D)
mutual
/-- v stands for d in the heap F -/
def Rp (F : Hp) : D → V → Prop
  | .non, v => v = .non
  | .bl b, v => v = .bl b
  | .int i, v => v = .int i
  | .str x, v => v = .str x
  | .ref a, v => v = .ref a
  | .ty n, v => v = .ty n
  | .lst xs, v => ∃ a vs, v = .ref a ∧ F a = some (.lst vs) ∧ RpL F xs vs
  | .tup xs, v => ∃ a vs, v = .ref a ∧ F a = some (.tup vs) ∧ RpL F xs vs
  | .dct ks xs, v => ∃ a kvs, v = .ref a ∧ F a = some (.dK kvs) ∧ kvs.map (·.1) = ks ∧ RpL F xs (kvs.map (·.2))
  | .scr K xs, v => ∃ a vs, v = .ref a ∧ SqL K F a vs ∧ RpL F xs vs
def RpL (F : Hp) : List D → List V → Prop
  | [], vs => vs = []
  | x :: xs, vs => ∃ v r, vs = v :: r ∧ Rp F x v ∧ RpL F xs r
end
mutual
theorem Rp.mono {F F' : Hp} (s : Same F F') : ∀ (d : D) (v : V), Rp F d v → Rp F' d v
  | .non, _, h => h
  | .bl _, _, h => h
  | .int _, _, h => h
  | .str _, _, h => h
  | .ref _, _, h => h
  | .ty _, _, h => h
  | .lst xs, _, ⟨a, vs, e, f, r⟩ => ⟨a, vs, e, s _ _ f, RpL.mono s xs vs r⟩
  | .tup xs, _, ⟨a, vs, e, f, r⟩ => ⟨a, vs, e, s _ _ f, RpL.mono s xs vs r⟩
  | .dct ks xs, _, ⟨a, vs, e, f, k, r⟩ => ⟨a, vs, e, s _ _ f, k, RpL.mono s xs _ r⟩
  | .scr K xs, _, ⟨a, vs, e, f, r⟩ => ⟨a, vs, e, s.seq f, RpL.mono s xs vs r⟩
theorem RpL.mono {F F' : Hp} (s : Same F F') : ∀ (xs : List D) (vs : List V), RpL F xs vs → RpL F' xs vs
  | [], _, h => h
  | x :: xs, _, ⟨v, r, e, h1, h2⟩ => ⟨v, r, e, Rp.mono s x v h1, RpL.mono s xs r h2⟩
end
theorem RpL.length {F : Hp} : ∀ {xs : List D} {vs : List V}, RpL F xs vs → vs.length = xs.length
  | [], _, h => by cases h; rfl
  | x :: xs, _, ⟨v, r, e, h1, h2⟩ => by subst e; simp [RpL.length h2]
theorem RpL.append {F : Hp} : ∀ {xs ys : List D} {vs ws : List V}, RpL F xs vs → RpL F ys ws → RpL F (xs ++ ys) (vs ++ ws)
  | [], _, _, _, h, h' => by cases h; exact h'
  | x :: xs, _, _, _, ⟨v, r, e, h1, h2⟩, h' => by subst e; exact ⟨v, _, rfl, h1, RpL.append h2 h'⟩
theorem RpL.get {F : Hp} : ∀ {xs : List D} {vs : List V} {i : Nat} {x : D}, RpL F xs vs → xs[i]? = some x → ∃ v, vs[i]? = some v ∧ Rp F x v
  | x :: xs, _, 0, y, ⟨v, r, e, h1, h2⟩, h => by subst e; simp at h; subst h; exact ⟨v, rfl, h1⟩
  | x :: xs, _, i + 1, y, ⟨v, r, e, h1, h2⟩, h => by subst e; simp at h; simpa using RpL.get h2 h
theorem RpL.get' {F : Hp} : ∀ {xs : List D} {vs : List V} {i : Nat} {v : V}, RpL F xs vs → vs[i]? = some v → ∃ x, xs[i]? = some x ∧ Rp F x v
  | [], _, _, _, h, h' => by cases h; simp at h'
  | x :: xs, _, 0, w, ⟨v, r, e, h1, h2⟩, h => by subst e; simp at h; subst h; exact ⟨x, rfl, h1⟩
  | x :: xs, _, i + 1, w, ⟨v, r, e, h1, h2⟩, h => by subst e; simp at h; simpa using RpL.get' h2 h
theorem RpL.take {F : Hp} : ∀ {xs : List D} {vs : List V} (n : Nat), RpL F xs vs → RpL F (xs.take n) (vs.take n)
  | _, _, 0, _ => rfl
  | [], _, n + 1, h => by cases h; rfl
  | x :: xs, _, n + 1, ⟨v, r, e, h1, h2⟩ => by subst e; exact ⟨v, _, rfl, h1, RpL.take n h2⟩
theorem RpL.drop {F : Hp} : ∀ {xs : List D} {vs : List V} (n : Nat), RpL F xs vs → RpL F (xs.drop n) (vs.drop n)
  | _, _, 0, h => h
  | [], _, n + 1, h => by cases h; rfl
  | x :: xs, _, n + 1, ⟨v, r, e, h1, h2⟩ => by subst e; exact RpL.drop n h2
theorem RpL.set {F : Hp} {d : D} {u : V} (h0 : Rp F d u) : ∀ {xs : List D} {vs : List V} (i : Nat), RpL F xs vs → RpL F (xs.set i d) (vs.set i u)
  | [], _, _, h => by cases h; rfl
  | x :: xs, _, 0, ⟨v, r, e, h1, h2⟩ => by subst e; exact ⟨u, r, rfl, h0, h2⟩
  | x :: xs, _, i + 1, ⟨v, r, e, h1, h2⟩ => by subst e; exact ⟨v, _, rfl, h1, RpL.set h0 i h2⟩
theorem RpL.one {F : Hp} {d : D} {u : V} (h0 : Rp F d u) : RpL F [d] [u] := ⟨u, [], rfl, h0, rfl⟩
theorem RpL.reverse {F : Hp} : ∀ {xs : List D} {vs : List V}, RpL F xs vs → RpL F xs.reverse vs.reverse
  | [], _, h => by cases h; rfl
  | x :: xs, _, ⟨v, r, e, h1, h2⟩ => by subst e; simp only [List.reverse_cons]; exact RpL.append (RpL.reverse h2) (RpL.one h1)
theorem RpL.dropLast {F : Hp} {xs : List D} {vs : List V} (h : RpL F xs vs) : RpL F xs.dropLast vs.dropLast := by
  rw [List.dropLast_eq_take, List.dropLast_eq_take, h.length]; exact h.take _
theorem RpL.rep {F : Hp} {xs : List D} {vs : List V} (h : RpL F xs vs) : ∀ n : Nat, RpL F (List.replicate n xs).flatten (List.replicate n vs).flatten
  | 0 => rfl
  | n + 1 => by simp only [List.replicate_succ, List.flatten_cons]; exact RpL.append h (RpL.rep h n)
theorem RpL.ints {F : Hp} : ∀ {ns : List Int} {vs : List V}, RpL F (ns.map D.int) vs → vs = ns.map V.int
  | [], _, h => h
  | n :: ns, _, ⟨v, r, e, h1, h2⟩ => by subst e; cases h1; rw [RpL.ints h2]; rfl
theorem RpL.of_ints {F : Hp} : ∀ {ns : List Int}, RpL F (ns.map D.int) (ns.map V.int)
  | [] => rfl
  | n :: ns => ⟨.int n, _, rfl, rfl, RpL.of_ints⟩
theorem RpL.bls {F : Hp} : ∀ {ns : List Bool} {vs : List V}, RpL F (ns.map D.bl) vs → vs = ns.map V.bl
  | [], _, h => h
  | n :: ns, _, ⟨v, r, e, h1, h2⟩ => by subst e; cases h1; rw [RpL.bls h2]; rfl

/-! ### mutable things -/
inductive MO where
  | lst (xs : List D)
  | dK (ks : List Key) (xs : List D)
  | raw (o : HO)
abbrev Mp := Addr → Option MO
def Mp.set (M : Mp) (a : Addr) (m : MO) : Mp := fun b => if b = a then some m else M b
def Mp.del (M : Mp) (a : Addr) : Mp := fun b => if b = a then none else M b
theorem Mp.set_same {M : Mp} {a : Addr} {m : MO} : (M.set a m) a = some m := if_pos rfl
theorem Mp.set_ne {M : Mp} {a b : Addr} {m : MO} (h : b ≠ a) : (M.set a m) b = M b := if_neg h
theorem Mp.del_same {M : Mp} {a : Addr} : (M.del a) a = none := if_pos rfl
theorem Mp.del_ne {M : Mp} {a b : Addr} (h : b ≠ a) : (M.del a) b = M b := if_neg h
theorem Mp.set_set {M : Mp} {a : Addr} {m m' : MO} : (M.set a m).set a m' = M.set a m' := by
  funext b; unfold Mp.set; split <;> rfl
theorem Mp.set_del {M : Mp} {a : Addr} {m : MO} (h : M a = none) : (M.set a m).del a = M := by
  funext b; unfold Mp.set Mp.del
  by_cases e : b = a
  · simp [e, h]
  · simp [e]
theorem Mp.set_self {M : Mp} {a : Addr} {m : MO} (h : M a = some m) : M.set a m = M := by
  funext b; unfold Mp.set; split
  · rename_i e; rw [e, h]
  · rfl
theorem Mp.set_comm {M : Mp} {a b : Addr} {m m' : MO} (h : a ≠ b) : (M.set a m).set b m' = (M.set b m').set a m := by
  funext c; unfold Mp.set
  by_cases h1 : c = a
  · subst h1; simp [h]
  · simp [h1]
def MRp (F : Hp) : MO → HO → Prop
  | .lst xs, o => ∃ vs, o = .lst vs ∧ RpL F xs vs
  | .dK ks xs, o => ∃ kvs, o = .dK kvs ∧ kvs.map (·.1) = ks ∧ RpL F xs (kvs.map (·.2))
  | .raw o', o => o = o' ∧ ∀ xs, o' ≠ .tup xs
theorem MRp.mono {F F' : Hp} (s : Same F F') {m : MO} {o : HO} (h : MRp F m o) : MRp F' m o := by
  cases m with
  | lst xs => obtain ⟨vs, e, r⟩ := h; exact ⟨vs, e, RpL.mono s _ _ r⟩
  | dK ks xs => obtain ⟨vs, e, k, r⟩ := h; exact ⟨vs, e, k, RpL.mono s _ _ r⟩
  | raw o' => exact h
structure Mem (M : Mp) (H F : Hp) : Prop where
  same : Same F H
  mem : ∀ a m, M a = some m → F a = none ∧ ∃ o, H a = some o ∧ MRp F m o
structure Ext (M : Mp) (H F : Hp) (M' : Mp) (H' F' : Hp) : Prop where
  fs : Same F F'
  keep : ∀ a o, H a = some o → M a = none → H' a = some o
  new : ∀ a, M' a ≠ none → M a ≠ none ∨ H a = none
  fnew : ∀ a, F' a ≠ none → F a ≠ none ∨ M a ≠ none ∨ H a = none ∨ ∃ xs, H a = some (.tup xs)
theorem Ext.refl {M : Mp} {H F : Hp} : Ext M H F M H F := ⟨.refl _, fun _ _ h _ => h, fun _ h => .inl h, fun _ h => .inl h⟩
theorem Ext.trans {M M1 M2 : Mp} {H H1 H2 F F1 F2 : Hp} (a : Ext M H F M1 H1 F1) (b : Ext M1 H1 F1 M2 H2 F2) : Ext M H F M2 H2 F2 := by
  refine ⟨a.fs.trans b.fs, fun x o h m => ?_, fun x h => ?_, fun x h => ?_⟩
  · have h1 := a.keep x o h m
    refine b.keep x o h1 ?_
    cases e : M1 x with
    | none => rfl
    | some q =>
      rcases a.new x (by rw [e]; exact fun z => nomatch z) with z | z
      · exact absurd m z
      · rw [h] at z; cases z
  · rcases b.new x h with z | z
    · exact a.new x z
    · by_cases q : M x = none
      · right
        cases e : H x with
        | none => rfl
        | some o =>
          have := a.keep x o e q
          rw [z] at this; cases this
      · exact .inl q
  · rcases b.fnew x h with z | z | z | ⟨xs, z⟩
    · exact a.fnew x z
    · rcases a.new x z with z | z
      · exact .inr (.inl z)
      · exact .inr (.inr (.inl z))
    · by_cases q : M x = none
      · right; right; left
        cases e : H x with
        | none => rfl
        | some o =>
          have := a.keep x o e q
          rw [z] at this; cases this
      · exact .inr (.inl q)
    · by_cases q : M x = none
      · right; right
        cases e : H x with
        | none => exact .inl rfl
        | some o =>
          have := a.keep x o e q
          rw [z] at this; cases this
          exact .inr ⟨xs, rfl⟩
      · exact .inr (.inl q)
theorem Mem.fresh {M : Mp} {H F : Hp} (m : Mem M H F) {p : Addr} (h : H p = none) : F p = none ∧ M p = none := by
  refine ⟨m.same.free h, ?_⟩
  cases e : M p with
  | none => rfl
  | some q =>
    obtain ⟨_, o, ho, _⟩ := m.mem p q e
    rw [h] at ho; cases ho
theorem same_upd {H : Hp} {p : Addr} {o : HO} (h : H p = none) : Same H (upd H p o) := fun b x e => by
  rw [upd_ne (ne_of_none e h)]; exact e
theorem same_upd2 {F H : Hp} {p : Addr} {o : HO} (s : Same F H) (h : F p = none) : Same F (upd H p o) := fun b x e => by
  rw [upd_ne (ne_of_none e h)]; exact s b x e
/-- a new object, frozen at once -/
theorem Mem.frz {M : Mp} {H F : Hp} (m : Mem M H F) {p : Addr} (h : H p = none) (o : HO) : Mem M (upd H p o) (upd F p o) ∧ Ext M H F M (upd H p o) (upd F p o) := by
  obtain ⟨f, mm⟩ := m.fresh h
  refine ⟨⟨fun b x e => ?_, fun a q e => ?_⟩, ⟨same_upd f, fun a x e _ => by rw [upd_ne (ne_of_none e h)]; exact e, fun a e => .inl e, fun a e => ?_⟩⟩
  · by_cases hb : b = p
    · subst hb; rw [upd_same] at e ⊢; exact e
    · rw [upd_ne hb] at e ⊢; exact m.same b x e
  · obtain ⟨h1, x, h2, h3⟩ := m.mem a q e
    have ne : a ≠ p := ne_of_none h2 h
    exact ⟨by rw [upd_ne ne]; exact h1, x, by rw [upd_ne ne]; exact h2, h3.mono (same_upd f)⟩
  · by_cases ha : a = p
    · subst ha; exact .inr (.inr (.inl h))
    · rw [upd_ne ha] at e; exact .inl e
/-- a new object, kept mutable -/
theorem Mem.mut {M : Mp} {H F : Hp} (m : Mem M H F) {p : Addr} (h : H p = none) {o : HO} {q : MO} (r : MRp F q o) : Mem (M.set p q) (upd H p o) F ∧ Ext M H F (M.set p q) (upd H p o) F := by
  obtain ⟨f, mm⟩ := m.fresh h
  refine ⟨⟨same_upd2 m.same f, fun a q' e => ?_⟩, ⟨.refl _, fun a x e _ => by rw [upd_ne (ne_of_none e h)]; exact e, fun a e => ?_, fun a e => .inl e⟩⟩
  · by_cases ha : a = p
    · subst ha
      rw [Mp.set_same] at e; cases e
      exact ⟨f, o, upd_same, r⟩
    · rw [Mp.set_ne ha] at e
      obtain ⟨h1, x, h2, h3⟩ := m.mem a q' e
      exact ⟨h1, x, by rw [upd_ne ha]; exact h2, h3⟩
  · by_cases ha : a = p
    · subst ha; exact .inr h
    · rw [Mp.set_ne ha] at e; exact .inl e
/-- a mutable thing is changed -/
theorem Mem.chg {M : Mp} {H F : Hp} (m : Mem M H F) {p : Addr} {q0 : MO} (h : M p = some q0) {o : HO} {q : MO} (r : MRp F q o) : Mem (M.set p q) (upd H p o) F ∧ Ext M H F (M.set p q) (upd H p o) F := by
  obtain ⟨f, _, hp, _⟩ := m.mem p q0 h
  refine ⟨⟨same_upd2 m.same f, fun a q' e => ?_⟩, ⟨.refl _, fun a x e z => by rw [upd_ne (fun w => by subst w; rw [h] at z; cases z)]; exact e, fun a e => ?_, fun a e => .inl e⟩⟩
  · by_cases ha : a = p
    · subst ha
      rw [Mp.set_same] at e; cases e
      exact ⟨f, o, upd_same, r⟩
    · rw [Mp.set_ne ha] at e
      obtain ⟨h1, x, h2, h3⟩ := m.mem a q' e
      exact ⟨h1, x, by rw [upd_ne ha]; exact h2, h3⟩
  · by_cases ha : a = p
    · subst ha; exact .inl (by rw [h]; exact fun z => nomatch z)
    · rw [Mp.set_ne ha] at e; exact .inl e
/-- a mutable list is frozen -/
theorem Mem.freeze {M : Mp} {H F : Hp} (m : Mem M H F) {p : Addr} {xs : List D} (h : M p = some (.lst xs)) : ∃ F', Mem (M.del p) H F' ∧ Ext M H F (M.del p) H F' ∧ Rp F' (.lst xs) (.ref p) := by
  obtain ⟨f, o, hp, vs, rfl, r⟩ := m.mem p _ h
  refine ⟨upd F p (.lst vs), ⟨fun b x e => ?_, fun a q e => ?_⟩, ⟨same_upd f, fun a x e _ => e, fun a e => ?_, fun a e => ?_⟩, p, vs, rfl, upd_same, RpL.mono (same_upd f) _ _ r⟩
  · by_cases hb : b = p
    · subst hb; rw [upd_same] at e; cases e; exact hp
    · rw [upd_ne hb] at e; exact m.same b x e
  · by_cases ha : a = p
    · subst ha; rw [Mp.del_same] at e; cases e
    · rw [Mp.del_ne ha] at e
      obtain ⟨h1, x, h2, h3⟩ := m.mem a q e
      exact ⟨by rw [upd_ne ha]; exact h1, x, h2, h3.mono (same_upd f)⟩
  · by_cases ha : a = p
    · subst ha; rw [Mp.del_same] at e; exact absurd rfl e
    · rw [Mp.del_ne ha] at e; exact .inl e
  · by_cases ha : a = p
    · subst ha; exact .inr (.inl (by rw [h]; exact fun z => nomatch z))
    · rw [upd_ne ha] at e; exact .inl e

/-! ### how a value looks now -/
/-- a mutable thing read as plain data -/
def nrmA (M : Mp) (a : Addr) : D := match M a with
  | some (.lst xs) => .lst xs
  | some (.dK ks xs) => .dct ks xs
  | _ => .ref a
def nrm (M : Mp) : D → D
  | .ref a => nrmA M a
  | d => d
/-- v looks like d in H, its parts in F -/
def Vw (H F : Hp) : D → V → Prop
  | .lst xs, v => ∃ a vs, v = .ref a ∧ H a = some (.lst vs) ∧ RpL F xs vs
  | .tup xs, v => ∃ a vs, v = .ref a ∧ H a = some (.tup vs) ∧ RpL F xs vs
  | .dct ks xs, v => ∃ a kvs, v = .ref a ∧ H a = some (.dK kvs) ∧ kvs.map (·.1) = ks ∧ RpL F xs (kvs.map (·.2))
  | .non, v => v = .non
  | .bl b, v => v = .bl b
  | .int i, v => v = .int i
  | .str x, v => v = .str x
  | .ref a, v => v = .ref a
  | .ty n, v => v = .ty n
  | .scr K xs, v => ∃ a vs, v = .ref a ∧ SqL K H a vs ∧ RpL F xs vs
theorem Mem.view {M : Mp} {H F : Hp} (m : Mem M H F) : ∀ {d : D} {v : V}, Rp F d v → Vw H F (nrm M d) v
  | .non, _, r => r
  | .bl _, _, r => r
  | .int _, _, r => r
  | .str _, _, r => r
  | .ty _, _, r => r
  | .lst xs, _, ⟨a, vs, e, f, r⟩ => ⟨a, vs, e, m.same _ _ f, r⟩
  | .tup xs, _, ⟨a, vs, e, f, r⟩ => ⟨a, vs, e, m.same _ _ f, r⟩
  | .dct ks xs, _, ⟨a, vs, e, f, k, r⟩ => ⟨a, vs, e, m.same _ _ f, k, r⟩
  | .scr K xs, _, ⟨a, vs, e, f, r⟩ => ⟨a, vs, e, m.same.seq f, r⟩
  | .ref a, v, r => by
    show Vw H F (nrmA M a) v
    unfold nrmA
    have r : v = .ref a := r
    subst r
    split
    · rename_i xs e
      obtain ⟨_, o, ho, vs, rfl, rr⟩ := m.mem a _ e
      exact ⟨a, vs, rfl, ho, rr⟩
    · rename_i ks xs e
      obtain ⟨_, o, ho, vs, rfl, k, rr⟩ := m.mem a _ e
      exact ⟨a, vs, rfl, ho, k, rr⟩
    · exact rfl
/-! ### the transfer -/
abbrev DEnv := List (Option D)
abbrev DK := D → Mp → Prop
abbrev DE := DEnv → Mp → DK → Prop
abbrev DT := DEnv → Mp → (Bool → Mp → Prop) → Prop
abbrev DA := DEnv → Mp → (List D → Mp → Prop) → Prop
structure EnvR (F : Hp) (ρ : DEnv) (σ : L2.St) : Prop where
  len : σ.length = ρ.length
  at_ : ∀ (i : Nat) (d : D), ρ[i]? = some (some d) → ∃ v, σ[i]? = some (some v) ∧ Rp F d v
theorem EnvR.mono {F F' : Hp} {ρ : DEnv} {σ : L2.St} (h : EnvR F ρ σ) (s : Same F F') : EnvR F' ρ σ :=
  ⟨h.len, fun i d e => let ⟨v, a, b⟩ := h.at_ i d e; ⟨v, a, Rp.mono s d v b⟩⟩
theorem EnvR.set {F : Hp} {ρ : DEnv} {σ : L2.St} (h : EnvR F ρ σ) (i : Nat) {d : D} {v : V} (r : Rp F d v) : EnvR F (ρ.set i (some d)) (σ.set i (some v)) := by
  refine ⟨by simp [h.len], fun j e q => ?_⟩
  by_cases hj : i = j
  · subst hj
    by_cases hi : i < ρ.length
    · rw [List.getElem?_set_self hi] at q
      cases q
      exact ⟨v, List.getElem?_set_self (by rw [h.len]; exact hi), r⟩
    · rw [List.getElem?_eq_none (by simp; omega)] at q; cases q
  · rw [List.getElem?_set_ne hj] at q ⊢
    exact h.at_ j e q
/-- what is wanted behind, by the plain wish Q -/
abbrev Fin (Q : DK) (Qv : VK) (M : Mp) (H F : Hp) : Prop := ∀ d v M' H' F', Mem M' H' F' → Ext M H F M' H' F' → Rp F' d v → Q d M' → Qv v H'
theorem Fin.ext {Q : DK} {Qv : VK} {M M1 : Mp} {H F H1 F1 : Hp} (f : Fin Q Qv M H F) (e : Ext M H F M1 H1 F1) : Fin Q Qv M1 H1 F1 := fun d v M' H' F' m x r q => f d v M' H' F' m (e.trans x) r q
theorem Fin.here {Q : DK} {Qv : VK} {M : Mp} {H F : Hp} (f : Fin Q Qv M H F) (m : Mem M H F) {d : D} {v : V} (r : Rp F d v) (q : Q d M) : Qv v H := f d v M H F m .refl r q
def Tr (t : TE) (w : DE) : Prop := ∀ (ρ : DEnv) (M : Mp) (σ : L2.St) (H F : Hp) (Q : DK) (Qv : VK), EnvR F ρ σ → Mem M H F → w ρ M Q → Fin Q Qv M H F → t σ H Qv
def TrT (t : TT) (w : DT) : Prop := ∀ (ρ : DEnv) (M : Mp) (σ : L2.St) (H F : Hp) (Q : Bool → Mp → Prop) (Qv : Bool → Hp → Prop), EnvR F ρ σ → Mem M H F → w ρ M Q →
  (∀ b M' H' F', Mem M' H' F' → Ext M H F M' H' F' → Q b M' → Qv b H') → t σ H Qv
def TrA (t : TA) (w : DA) : Prop := ∀ (ρ : DEnv) (M : Mp) (σ : L2.St) (H F : Hp) (Q : List D → Mp → Prop) (Qv : List V → Hp → Prop), EnvR F ρ σ → Mem M H F → w ρ M Q →
  (∀ ds vs M' H' F', Mem M' H' F' → Ext M H F M' H' F' → RpL F' ds vs → Q ds M' → Qv vs H') → t σ H Qv

/-- a new list: frozen, or mutable -/
inductive Md where | frz | own
def wNew : Md → List D → Mp → DK → Prop
  | .frz, xs, M, Q => Q (.lst xs) M
  | .own, xs, M, Q => ∀ p, M p = none → Q (.ref p) (M.set p (.lst xs))
theorem new_lst {md : Md} {xs : List D} {vs : List V} {Q : DK} {Qv : VK} {M : Mp} {H F : Hp} (m : Mem M H F) (r : RpL F xs vs) (h : wNew md xs M Q) (f : Fin Q Qv M H F) : ∀ p, H p = none → Qv (.ref p) (L2.upd H p (.lst vs)) := by
  intro p hp
  cases md with
  | frz =>
    obtain ⟨m', e⟩ := m.frz hp (.lst vs)
    exact f (.lst xs) _ _ _ _ m' e ⟨p, vs, rfl, upd_same, RpL.mono e.fs _ _ r⟩ h
  | own =>
    obtain ⟨m', e⟩ := m.mut hp (o := .lst vs) (q := .lst xs) ⟨vs, rfl, r⟩
    exact f (.ref p) _ _ _ _ m' e rfl (h p (m.fresh hp).2)
theorem new_tup {xs : List D} {vs : List V} {Q : DK} {Qv : VK} {M : Mp} {H F : Hp} (m : Mem M H F) (r : RpL F xs vs) (h : Q (.tup xs) M) (f : Fin Q Qv M H F) : ∀ p, H p = none → Qv (.ref p) (L2.upd H p (.tup vs)) := by
  intro p hp
  obtain ⟨m', e⟩ := m.frz hp (.tup vs)
  exact f (.tup xs) _ _ _ _ m' e ⟨p, vs, rfl, upd_same, RpL.mono e.fs _ _ r⟩ h

abbrev Sz (n : Nat) : Prop := n ≤ 16777216
theorem Sz.line {n : Nat} (h : Sz n) : n ≤ sizeLine := by rw [sizeLine_eq]; exact h

/-! ### names, constants -/
def wVar (i : Nat) : DE := fun ρ M Q => match ρ[i]? with
  | some (some d) => Q d M
  | _ => False
theorem tr_var {i : Nat} : Tr (tVar i) (wVar i) := by
  intro ρ M σ H F Q Qv er m h f
  unfold wVar at h
  split at h
  · rename_i d e
    obtain ⟨v, e1, r⟩ := er.at_ i d e
    exact ⟨v, e1, f.here m r h⟩
  · exact h.elim
def wC (d : D) : DE := fun _ M Q => Q d M
theorem tr_int {i : Int} : Tr (tC (.int i)) (wC (.int i)) := fun ρ M σ H F Q Qv er m h f => f.here (d := .int i) m rfl h
theorem tr_bl {b : Bool} : Tr (tC (.bl b)) (wC (.bl b)) := fun ρ M σ H F Q Qv er m h f => f.here (d := .bl b) m rfl h
theorem tr_non : Tr (tC .non) (wC .non) := fun ρ M σ H F Q Qv er m h f => f.here (d := .non) m rfl h
theorem tr_str {x : Str} : Tr (tC (.str x)) (wC (.str x)) := fun ρ M σ H F Q Qv er m h f => f.here (d := .str x) m rfl h
theorem tr_ty {n : String} : Tr (tC (.ty n)) (wC (.ty n)) := fun ρ M σ H F Q Qv er m h f => f.here (d := .ty n) m rfl h
theorem tr_ref {a : Addr} : Tr (tC (.ref a)) (wC (.ref a)) := fun ρ M σ H F Q Qv er m h f => f.here (d := .ref a) m rfl h
/-- a mutable list is given away -/
def wFrzK (Q : DK) : DK := fun d M => match d with
  | .ref a => match M a with
    | some (.lst xs) => Q (.lst xs) (M.del a)
    | _ => Q (.ref a) M
  | d => Q d M
def wFrz (w : DE) : DE := fun ρ M Q => w ρ M (wFrzK Q)
theorem Fin.frz {Q : DK} {Qv : VK} {M : Mp} {H F : Hp} (f : Fin Q Qv M H F) : Fin (wFrzK Q) Qv M H F := by
  intro d v M' H' F' m e r q
  unfold wFrzK at q
  split at q
  · rename_i a
    have r : v = .ref a := r
    subst r
    split at q
    · rename_i xs e1
      obtain ⟨F2, m2, e2, r2⟩ := m.freeze e1
      exact f _ _ _ _ _ m2 (e.trans e2) r2 q
    · exact f (.ref a) _ _ _ _ m e rfl q
  · exact f _ _ _ _ _ m e r q
theorem tr_frz {t : TE} {w : DE} (h : Tr t w) : Tr t (wFrz w) := fun ρ M σ H F Q Qv er m q f => h ρ M σ H F _ _ er m q f.frz

/-! ### operators -/
abbrev DO := D → D → Mp → DK → Prop
def OpT (r : R2) (wr : DO) : Prop := ∀ (M : Mp) (H F : Hp) (d1 d2 : D) (v1 v2 : V) (Q : DK) (Qv : VK), Mem M H F → Rp F d1 v1 → Rp F d2 v2 → wr d1 d2 M Q → Fin Q Qv M H F → r v1 v2 H Qv
def wOp (wr : DO) (wa wb : DE) : DE := fun ρ M Q => wa ρ M fun x M1 => wb ρ M1 fun y M2 => wr x y M2 Q
theorem tr_op {r : R2} {wr : DO} {ta tb : TE} {wa wb : DE} (ho : OpT r wr) (ha : Tr ta wa) (hb : Tr tb wb) : Tr (tOp r ta tb) (wOp wr wa wb) := by
  intro ρ M σ H F Q Qv er m h f
  refine ha ρ M σ H F _ _ er m h fun d1 v1 M1 H1 F1 m1 e1 r1 q1 => ?_
  refine hb ρ M1 σ H1 F1 _ _ (er.mono e1.fs) m1 q1 fun d2 v2 M2 H2 F2 m2 e2 r2 q2 => ?_
  exact ho M2 H2 F2 d1 d2 v1 v2 Q Qv m2 (Rp.mono e2.fs _ _ r1) r2 q2 (f.ext (e1.trans e2))
/-- by how both look -/
theorem OpT.byView {r : R2} {wr : DO} {wn : DO} (hw : ∀ d1 d2 M Q, wr d1 d2 M Q = wn (nrm M d1) (nrm M d2) M Q)
    (h : ∀ (M : Mp) (H F : Hp) (n1 n2 : D) (v1 v2 : V) (Q : DK) (Qv : VK), Mem M H F → Vw H F n1 v1 → Vw H F n2 v2 → wn n1 n2 M Q → Fin Q Qv M H F → r v1 v2 H Qv) : OpT r wr :=
  fun M H F d1 d2 v1 v2 Q Qv m r1 r2 q f => h M H F _ _ v1 v2 Q Qv m (m.view r1) (m.view r2) (by rw [← hw]; exact q) f

/-- + of ints, lists, texts, tuples -/
def rAddA (K : PySem.W.Frag) : R2 := fun x y H Q => rI0 (fun i j => .int (i + j)) x y H Q ∨ (rCat x y H Q ∨ ∃ i j, x = .str i ∧ y = .str j ∧ i.length + j.length ≤ sizeLine ∧ Q (.str (i ++ j)) H)
theorem op_addA {X : Cx} : OpR X (binaryOp .Add) (rAddA X.K) := op_add.or (op_cat.or op_add_str)
def nAdd (md : Md) : DO := fun x y M Q => match x, y with
  | .int i, .int j => Q (.int (i + j)) M
  | .lst xs, .lst ys => Sz (xs.length + ys.length) ∧ wNew md (xs ++ ys) M Q
  | .str x, .str y => Sz (x.length + y.length) ∧ Q (.str (x ++ y)) M
  | _, _ => False
def wAdd (md : Md) : DO := fun x y M Q => nAdd md (nrm M x) (nrm M y) M Q
theorem ot_add {K : PySem.W.Frag} {md : Md} : OpT (rAddA K) (wAdd md) := OpT.byView (fun _ _ _ _ => rfl) fun M H F n1 n2 v1 v2 Q Qv m r1 r2 q f => by
  unfold nAdd at q
  split at q
  · cases r1; cases r2
    exact .inl ⟨_, _, rfl, rfl, f.here (d := .int _) m rfl q⟩
  · obtain ⟨a, vs, rfl, ha, ra⟩ := r1
    obtain ⟨b, ws, rfl, hb, rb⟩ := r2
    exact .inr (.inl ⟨a, b, vs, ws, rfl, rfl, ha, hb, by rw [ra.length, rb.length]; exact q.1.line, new_lst m (ra.append rb) q.2 f⟩)
  · cases r1; cases r2
    exact .inr (.inr ⟨_, _, rfl, rfl, q.1.line, f.here (d := .str _) m rfl q.2⟩)
  · exact q.elim
/-- ints in, a value without address out -/
inductive Flat : D → V → Prop
  | int (i : Int) : Flat (.int i) (.int i)
  | bl (b : Bool) : Flat (.bl b) (.bl b)
theorem Flat.rp {F : Hp} {d : D} {v : V} (h : Flat d v) : Rp F d v := by cases h <;> rfl
def nI (C : Int → Int → Prop) (g : Int → Int → D) : DO := fun x y M Q => match x, y with
  | .int i, .int j => C i j ∧ Q (g i j) M
  | _, _ => False
def nI0 (g : Int → Int → D) : DO := fun x y M Q => match x, y with
  | .int i, .int j => Q (g i j) M
  | _, _ => False
theorem ot_I {C C' : Int → Int → Prop} {g : Int → Int → V} {g' : Int → Int → D} (hc : ∀ i j, C' i j → C i j) (hg : ∀ i j, Flat (g' i j) (g i j)) : OpT (rI C g) (nI C' g') := by
  intro M H F d1 d2 v1 v2 Q Qv m r1 r2 q f
  unfold nI at q
  split at q
  · cases r1; cases r2
    exact ⟨_, _, rfl, rfl, hc _ _ q.1, f.here m (hg _ _).rp q.2⟩
  · exact q.elim
theorem ot_I0 {g : Int → Int → V} {g' : Int → Int → D} (hg : ∀ i j, Flat (g' i j) (g i j)) : OpT (rI0 g) (nI0 g') := by
  intro M H F d1 d2 v1 v2 Q Qv m r1 r2 q f
  unfold nI0 at q
  split at q
  · cases r1; cases r2
    exact ⟨_, _, rfl, rfl, f.here m (hg _ _).rp q⟩
  · exact q.elim
abbrev wSub : DO := nI0 fun i j => .int (i - j)
theorem ot_sub : OpT (rI0 fun i j => .int (i - j)) wSub := ot_I0 fun _ _ => .int _
abbrev wLt : DO := nI0 fun i j => .bl (decide (i < j))
theorem ot_lt : OpT (rI0 fun i j => .bl (decide (i < j))) wLt := ot_I0 fun _ _ => .bl _
abbrev wLe : DO := nI0 fun i j => .bl (decide (i ≤ j))
theorem ot_le : OpT (rI0 fun i j => .bl (decide (i ≤ j))) wLe := ot_I0 fun _ _ => .bl _
abbrev wGt : DO := nI0 fun i j => .bl (decide (j < i))
theorem ot_gt : OpT (rI0 fun i j => .bl (decide (j < i))) wGt := ot_I0 fun _ _ => .bl _
abbrev wGe : DO := nI0 fun i j => .bl (decide (j ≤ i))
theorem ot_ge : OpT (rI0 fun i j => .bl (decide (j ≤ i))) wGe := ot_I0 fun _ _ => .bl _
def CDv (_ j : Int) : Prop := 0 < j ∧ (j < 2 ^ 64 ∨ j.natAbs.log2 < 9000)
theorem CDv.w {i j : Int} (h : CDv i j) : CDivW i j := by
  obtain ⟨h0, h | h⟩ := h
  · exact wide_div h0 (b := 64) (by omega) (by decide) (by decide)
  · exact ⟨h0, h⟩
abbrev wDiv : DO := nI CDv fun i j => .int (i / j)
theorem ot_div : OpT (rI CDivW fun i j => .int (i / j)) wDiv := ot_I (fun _ _ h => h.w) fun _ _ => .int _
abbrev wMod : DO := nI (fun _ j => 0 < j) fun i j => .int (i % j)
theorem ot_mod : OpT (rI (fun _ j => 0 < j) fun i j => .int (i % j)) wMod := ot_I (fun _ _ h => h) fun _ _ => .int _
/-- powers -/
def CPowW (i j : Int) : Prop := 0 ≤ j ∧ (Builtin.Int.intBits i : Int) * j ≤ 2 ^ 27
theorem op_powW {X : Cx} : OpR X (binaryOp .Pow) (rI CPowW fun i j => .int (i ^ j.toNat)) := opI fun _ _ _ _ _ _ _ hc q => pow_int hc.1 hc.2 q
abbrev wPow : DO := nI CPowW fun i j => .int (i ^ j.toNat)
theorem ot_pow : OpT (rI CPowW fun i j => .int (i ^ j.toNat)) wPow := ot_I (fun _ _ h => h) fun _ _ => .int _
abbrev wShl : DO := nI CPow fun i j => .int (i * 2 ^ j.toNat)
theorem ot_shl : OpT (rI CPow fun i j => .int (i * 2 ^ j.toNat)) wShl := ot_I (fun _ _ h => h) fun _ _ => .int _
/-- * of ints; a list so often -/
def CMl (i j : Int) : Prop := i.natAbs < 2 ^ 64 ∨ j.natAbs < 2 ^ 64 ∨ CMulW i j
def rMulA : R2 := fun x y H Q => rI CMul (fun i j => .int (i * j)) x y H Q ∨ (rI CMulW (fun i j => .int (i * j)) x y H Q ∨ rRep x y H Q)
theorem op_mulA {X : Cx} : OpR X (binaryOp .Mult) rMulA := op_mul.or (op_mulW.or op_rep)
def nMul (md : Md) : DO := fun x y M Q => match x, y with
  | .int i, .int j => CMl i j ∧ Q (.int (i * j)) M
  | .lst xs, .int k => (k < 2 ^ 63 ∧ -(2 ^ 63) ≤ k ∧ Sz (xs.length * k.toNat)) ∧ wNew md (List.replicate k.toNat xs).flatten M Q
  | _, _ => False
def wMul (md : Md) : DO := fun x y M Q => nMul md (nrm M x) (nrm M y) M Q
theorem ot_mul {md : Md} : OpT rMulA (wMul md) := OpT.byView (fun _ _ _ _ => rfl) fun M H F n1 n2 v1 v2 Q Qv m r1 r2 q f => by
  unfold nMul at q
  split at q
  · cases r1; cases r2
    rename_i i j
    rcases q.1 with h | h | h
    · exact .inl ⟨_, _, rfl, rfl, .inl ⟨by omega, by omega⟩, f.here (d := .int _) m rfl q.2⟩
    · exact .inl ⟨_, _, rfl, rfl, .inr ⟨by omega, by omega⟩, f.here (d := .int _) m rfl q.2⟩
    · exact .inr (.inl ⟨_, _, rfl, rfl, h, f.here (d := .int _) m rfl q.2⟩)
  · obtain ⟨a, vs, rfl, ha, ra⟩ := r1
    cases r2
    exact .inr (.inr ⟨a, _, vs, rfl, rfl, ha, q.1.2.1, q.1.1, by rw [ra.length]; exact q.1.2.2.line, new_lst m (ra.rep _) q.2 f⟩)
  · exact q.elim
/-- -a -/
def wNeg (wa : DE) : DE := fun ρ M Q => wa ρ M fun x M1 => match x with
  | .int i => Q (.int (-i)) M1
  | _ => False
theorem tr_neg {ta : TE} {wa : DE} (ha : Tr ta wa) : Tr (tUn (rU fun i => .int (-i)) ta) (wNeg wa) := by
  intro ρ M σ H F Q Qv er m h f
  refine ha ρ M σ H F _ _ er m h fun d1 v1 M1 H1 F1 m1 e1 r1 q1 => ?_
  split at q1
  · cases r1
    exact ⟨_, rfl, f (.int _) _ _ _ _ m1 e1 rfl q1⟩
  · exact q1.elim

/-! ### == and != -/
mutual
def toPD : D → PyData
  | .non => .none
  | .bl b => .bool b
  | .int i => .int i
  | .str x => .str x
  | .ref _ => .dict []
  | .ty _ => .dict []
  | .lst xs => .list (toPDs xs)
  | .tup xs => .tuple (toPDs xs)
  | .dct _ _ => .dict []
  | .scr _ _ => .dict []
def toPDs : List D → List PyData
  | [] => []
  | x :: xs => toPD x :: toPDs xs
end
/-- plain data through and through -/
def pdOk (d : D) : Bool := SeqAt.shaped (toPD d)
def deq (a b : D) : Bool := PyData.eqv (toPD a) (toPD b)
mutual
theorem rp_dp {K : PySem.W.Frag} {F H : Hp} (s : Same F H) : ∀ (d : D) (v : V), Rp F d v → (toPD d).canLay0 = true → Dp K H v (toPD d)
  | .non, _, r, _ => by cases r; exact .non
  | .bl b, _, r, _ => by cases r; exact .bl b
  | .int i, _, r, _ => by cases r; exact .int i
  | .str x, _, r, _ => by cases r; exact .str x
  | .ref a, _, _, h => by simp [toPD, PyData.canLay0] at h
  | .ty a, _, _, h => by simp [toPD, PyData.canLay0] at h
  | .dct a b, _, _, h => by simp [toPD, PyData.canLay0] at h
  | .scr a b, _, _, h => by simp [toPD, PyData.canLay0] at h
  | .lst xs, _, ⟨a, vs, e, f, r⟩, h => by
    subst e
    exact .lst (.of (s _ _ f)) (rp_dps s xs vs r (by simpa [toPD, PyData.canLay0] using h))
  | .tup xs, _, ⟨a, vs, e, f, r⟩, h => by
    subst e
    exact .tup (.of (s _ _ f)) (rp_dps s xs vs r (by simpa [toPD, PyData.canLay0] using h))
theorem rp_dps {K : PySem.W.Frag} {F H : Hp} (s : Same F H) : ∀ (xs : List D) (vs : List V), RpL F xs vs → PyData.canLayAll0 (toPDs xs) = true → DpAll K H vs (toPDs xs)
  | [], _, r, _ => by cases r; exact .nil
  | x :: xs, _, ⟨v, r, e, h1, h2⟩, h => by
    subst e
    simp only [toPDs, PyData.canLayAll0, Bool.and_eq_true] at h
    exact .cons (rp_dp s x v h1 h.1) (rp_dps s xs r h2 h.2)
end
theorem vw_dp {K : PySem.W.Frag} {F H : Hp} (s : Same F H) {d : D} {v : V} (r : Vw H F d v) (h : pdOk d = true) : Dp K H v (toPD d) := by
  have h := SeqAt.canLay_of_shaped h
  cases d with
  | lst xs => obtain ⟨a, vs, rfl, f, r⟩ := r; exact .lst (.of f) (rp_dps s xs vs r (by simpa [toPD, PyData.canLay0] using h))
  | tup xs => obtain ⟨a, vs, rfl, f, r⟩ := r; exact .tup (.of f) (rp_dps s xs vs r (by simpa [toPD, PyData.canLay0] using h))
  | dct _ _ => simp [toPD, PyData.canLay0] at h
  | scr _ _ => simp [toPD, PyData.canLay0] at h
  | ref _ => simp [toPD, PyData.canLay0] at h
  | ty _ => simp [toPD, PyData.canLay0] at h
  | non => exact rp_dp s .non v r h
  | bl b => exact rp_dp s (.bl b) v r h
  | int b => exact rp_dp s (.int b) v r h
  | str b => exact rp_dp s (.str b) v r h
def nEq (neg : Bool) : DO := fun x y M Q => match x, y with
  | .int i, .int j => Q (.bl (if neg then !decide (i = j) else decide (i = j))) M
  | x, y => (pdOk x = true ∧ pdOk y = true) ∧ Q (.bl (if neg then !deq x y else deq x y)) M
def wEq (neg : Bool) : DO := fun x y M Q => nEq neg (nrm M x) (nrm M y) M Q
theorem deq_int (i j : Int) : deq (.int i) (.int j) = decide (i = j) := by
  simp only [deq, toPD, PyData.eqv]; exact Bool.beq_eq_decide_eq i j
theorem pdOk_int (i : Int) : pdOk (.int i) = true := by simp [pdOk, toPD, SeqAt.shaped, PyData.canLay0, PyData.depth]
theorem ot_eq {K : PySem.W.Frag} : OpT (rEqD K) (wEq false) := OpT.byView (fun _ _ _ _ => rfl) fun M H F n1 n2 v1 v2 Q Qv m r1 r2 q f => by
  unfold nEq at q
  split at q
  · rename_i i j
    refine ⟨_, _, vw_dp m.same r1 (pdOk_int i), vw_dp m.same r2 (pdOk_int j), pdOk_int i, pdOk_int j, ?_⟩
    refine f.here (d := .bl _) m rfl ?_
    have e := deq_int i j
    unfold deq at e
    rw [e]; exact q
  · exact ⟨_, _, vw_dp m.same r1 q.1.1, vw_dp m.same r2 q.1.2, q.1.1, q.1.2, f.here (d := .bl _) m rfl q.2⟩
theorem ot_ne {K : PySem.W.Frag} : OpT (rNeD K) (wEq true) := OpT.byView (fun _ _ _ _ => rfl) fun M H F n1 n2 v1 v2 Q Qv m r1 r2 q f => by
  unfold nEq at q
  split at q
  · rename_i i j
    refine ⟨_, _, vw_dp m.same r1 (pdOk_int i), vw_dp m.same r2 (pdOk_int j), pdOk_int i, pdOk_int j, ?_⟩
    refine f.here (d := .bl _) m rfl ?_
    have e := deq_int i j
    unfold deq at e
    rw [e]; exact q
  · exact ⟨_, _, vw_dp m.same r1 q.1.1, vw_dp m.same r2 q.1.2, q.1.1, q.1.2, f.here (d := .bl _) m rfl q.2⟩
/-- is None -/
def wIsN (neg : Bool) (wa : DE) : DE := fun ρ M Q => wa ρ M fun x M1 => Q (.bl (match x with | .non => !neg | _ => neg)) M1
theorem rp_non {F : Hp} {d : D} {v : V} (r : Rp F d v) : decide (v = V.non) = (match d with | .non => true | _ => false) := by
  cases d with
  | non => cases r; rfl
  | bl _ => cases r; rfl
  | int _ => cases r; rfl
  | str _ => cases r; rfl
  | ref _ => cases r; rfl
  | ty _ => cases r; rfl
  | lst xs => obtain ⟨a, vs, rfl, _⟩ := r; rfl
  | tup xs => obtain ⟨a, vs, rfl, _⟩ := r; rfl
  | dct _ xs => obtain ⟨a, vs, rfl, _⟩ := r; rfl
  | scr _ xs => obtain ⟨a, vs, rfl, _⟩ := r; rfl
theorem tr_isN {ta : TE} {wa : DE} (ha : Tr ta wa) : Tr (tIsN ta) (wIsN false wa) := by
  intro ρ M σ H F Q Qv er m h f
  refine ha ρ M σ H F _ _ er m h fun d1 v1 M1 H1 F1 m1 e1 r1 q1 => ?_
  rw [rp_non r1]
  refine f (.bl _) _ _ _ _ m1 e1 rfl ?_
  cases d1 <;> exact q1
theorem tr_notN {ta : TE} {wa : DE} (ha : Tr ta wa) : Tr (tNotN ta) (wIsN true wa) := by
  intro ρ M σ H F Q Qv er m h f
  refine ha ρ M σ H F _ _ er m h fun d1 v1 M1 H1 F1 m1 e1 r1 q1 => ?_
  show Qv (.bl (!decide (v1 = V.non))) H1
  rw [rp_non r1]
  refine f (.bl _) _ _ _ _ m1 e1 rfl ?_
  cases d1 <;> exact q1

/-! ### tests, and, or, not -/
def wB (w : DE) : DT := fun ρ M Q => w ρ M fun x M1 => match x with
  | .bl b => Q b M1
  | _ => False
theorem tt_B {t : TE} {w : DE} (h : Tr t w) : TrT (tB t) (wB w) := by
  intro ρ M σ H F Q Qv er m q f
  refine h ρ M σ H F _ _ er m q fun d1 v1 M1 H1 F1 m1 e1 r1 q1 => ?_
  split at q1
  · cases r1
    exact ⟨_, rfl, f _ _ _ _ m1 e1 q1⟩
  · exact q1.elim
theorem tt_test {t : TE} {w : DE} (h : Tr t w) : TrT (tTest t) (wB w) := tt_B h
def wAndT (a b : DT) : DT := fun ρ M Q => a ρ M fun c M1 => if c = true then b ρ M1 Q else Q false M1
def wOrT (a b : DT) : DT := fun ρ M Q => a ρ M fun c M1 => if c = true then Q true M1 else b ρ M1 Q
def wNotT (a : DT) : DT := fun ρ M Q => a ρ M fun c M1 => Q (!c) M1
theorem tt_and {t u : TT} {a b : DT} (ha : TrT t a) (hb : TrT u b) : TrT (tAnd t u) (wAndT a b) := by
  intro ρ M σ H F Q Qv er m q f
  refine ha ρ M σ H F _ _ er m q fun c M1 H1 F1 m1 e1 q1 => ?_
  cases c with
  | true => exact hb ρ M1 σ H1 F1 _ _ (er.mono e1.fs) m1 q1 fun b' M2 H2 F2 m2 e2 q2 => f _ _ _ _ m2 (e1.trans e2) q2
  | false => exact f _ _ _ _ m1 e1 q1
theorem tt_or {t u : TT} {a b : DT} (ha : TrT t a) (hb : TrT u b) : TrT (tOr t u) (wOrT a b) := by
  intro ρ M σ H F Q Qv er m q f
  refine ha ρ M σ H F _ _ er m q fun c M1 H1 F1 m1 e1 q1 => ?_
  cases c with
  | false => exact hb ρ M1 σ H1 F1 _ _ (er.mono e1.fs) m1 q1 fun b' M2 H2 F2 m2 e2 q2 => f _ _ _ _ m2 (e1.trans e2) q2
  | true => exact f _ _ _ _ m1 e1 q1
theorem tt_not {t : TT} {a : DT} (ha : TrT t a) : TrT (tNot t) (wNotT a) := by
  intro ρ M σ H F Q Qv er m q f
  exact ha ρ M σ H F _ _ er m q fun c M1 H1 F1 m1 e1 q1 => f _ _ _ _ m1 e1 q1
/-- .. as values -/
def wAndV (a b : DE) : DE := fun ρ M Q => a ρ M fun x M1 => match x with
  | .bl true => b ρ M1 Q
  | .bl false => Q (.bl false) M1
  | _ => False
def wOrV (a b : DE) : DE := fun ρ M Q => a ρ M fun x M1 => match x with
  | .bl false => b ρ M1 Q
  | .bl true => Q (.bl true) M1
  | _ => False
def wNotV (a : DE) : DE := fun ρ M Q => a ρ M fun x M1 => match x with
  | .bl b => Q (.bl (!b)) M1
  | _ => False
theorem tr_and {ta tb : TE} {a b : DE} (ha : Tr ta a) (hb : Tr tb b) : Tr (tAndV ta tb) (wAndV a b) := by
  intro ρ M σ H F Q Qv er m q f
  refine ha ρ M σ H F _ _ er m q fun d1 v1 M1 H1 F1 m1 e1 r1 q1 => ?_
  split at q1
  · cases r1
    exact ⟨true, rfl, hb ρ M1 σ H1 F1 _ _ (er.mono e1.fs) m1 q1 (f.ext e1)⟩
  · cases r1
    exact ⟨false, rfl, f (.bl false) _ _ _ _ m1 e1 rfl q1⟩
  · exact q1.elim
theorem tr_or {ta tb : TE} {a b : DE} (ha : Tr ta a) (hb : Tr tb b) : Tr (tOrV ta tb) (wOrV a b) := by
  intro ρ M σ H F Q Qv er m q f
  refine ha ρ M σ H F _ _ er m q fun d1 v1 M1 H1 F1 m1 e1 r1 q1 => ?_
  split at q1
  · cases r1
    exact ⟨false, rfl, hb ρ M1 σ H1 F1 _ _ (er.mono e1.fs) m1 q1 (f.ext e1)⟩
  · cases r1
    exact ⟨true, rfl, f (.bl true) _ _ _ _ m1 e1 rfl q1⟩
  · exact q1.elim
theorem tr_not {ta : TE} {a : DE} (ha : Tr ta a) : Tr (tNotV ta) (wNotV a) := by
  intro ρ M σ H F Q Qv er m q f
  refine ha ρ M σ H F _ _ er m q fun d1 v1 M1 H1 F1 m1 e1 r1 q1 => ?_
  split at q1
  · cases r1
    exact ⟨_, rfl, f (.bl _) _ _ _ _ m1 e1 rfl q1⟩
  · exact q1.elim
def wIfE (c : DT) (a b : DE) : DE := fun ρ M Q => c ρ M fun k M1 => if k = true then a ρ M1 Q else b ρ M1 Q
theorem tr_if {tc : TT} {ta tb : TE} {c : DT} {a b : DE} (hc : TrT tc c) (ha : Tr ta a) (hb : Tr tb b) : Tr (tIf tc ta tb) (wIfE c a b) := by
  intro ρ M σ H F Q Qv er m q f
  refine hc ρ M σ H F _ _ er m q fun k M1 H1 F1 m1 e1 q1 => ?_
  cases k with
  | true => exact ha ρ M1 σ H1 F1 _ _ (er.mono e1.fs) m1 q1 (f.ext e1)
  | false => exact hb ρ M1 σ H1 F1 _ _ (er.mono e1.fs) m1 q1 (f.ext e1)
/-- a op b op' c -/
def wChain (r r' : DO) (a b c : DE) : DE := fun ρ M Q => a ρ M fun x M1 => b ρ M1 fun y M2 => r x y M2 fun z M3 => match z with
  | .bl true => c ρ M3 fun u M4 => r' y u M4 Q
  | .bl false => Q (.bl false) M3
  | _ => False
theorem tr_chain {r r' : R2} {w w' : DO} {ta tb tc : TE} {a b c : DE} (ho : OpT r w) (ho' : OpT r' w') (ha : Tr ta a) (hb : Tr tb b) (hc : Tr tc c) : Tr (tChain r r' ta tb tc) (wChain w w' a b c) := by
  intro ρ M σ H F Q Qv er m h f
  refine ha ρ M σ H F _ _ er m h fun d1 v1 M1 H1 F1 m1 e1 r1 q1 => ?_
  refine hb ρ M1 σ H1 F1 _ _ (er.mono e1.fs) m1 q1 fun d2 v2 M2 H2 F2 m2 e2 r2 q2 => ?_
  refine ho M2 H2 F2 d1 d2 v1 v2 _ _ m2 (Rp.mono e2.fs _ _ r1) r2 q2 fun d3 v3 M3 H3 F3 m3 e3 r3 q3 => ?_
  split at q3
  · cases r3
    refine ⟨true, rfl, ?_⟩
    rw [if_pos rfl]
    refine hc ρ M3 σ H3 F3 _ _ (er.mono (e1.fs.trans (e2.fs.trans e3.fs))) m3 q3 fun d4 v4 M4 H4 F4 m4 e4 r4 q4 => ?_
    exact ho' M4 H4 F4 d2 d4 v2 v4 Q Qv m4 (Rp.mono (e3.fs.trans e4.fs) _ _ r2) r4 q4 (f.ext (e1.trans (e2.trans (e3.trans e4))))
  · cases r3
    refine ⟨false, rfl, ?_⟩
    rw [if_neg Bool.false_ne_true]
    exact f (.bl false) _ _ _ _ m3 (e1.trans (e2.trans e3)) rfl q3
  · exact q3.elim

/-! ### displays, argument lists -/
def aNil : DA := fun _ M Q => Q [] M
def aCons (a : DE) (r : DA) : DA := fun ρ M Q => a ρ M fun x M1 => r ρ M1 fun xs M2 => Q (x :: xs) M2
theorem ta_nil : TrA tNil aNil := fun ρ M σ H F Q Qv er m h f => f [] [] _ _ _ m .refl rfl h
theorem ta_cons {ta : TE} {t : TA} {a : DE} {r : DA} (ha : Tr ta a) (hr : TrA t r) : TrA (tCons ta t) (aCons a r) := by
  intro ρ M σ H F Q Qv er m h f
  refine ha ρ M σ H F _ _ er m h fun d1 v1 M1 H1 F1 m1 e1 r1 q1 => ?_
  refine hr ρ M1 σ H1 F1 _ _ (er.mono e1.fs) m1 q1 fun ds vs M2 H2 F2 m2 e2 r2 q2 => ?_
  exact f (d1 :: ds) _ _ _ _ m2 (e1.trans e2) ⟨v1, vs, rfl, Rp.mono e2.fs _ _ r1, r2⟩ q2
def wLst (md : Md) (a : DA) : DE := fun ρ M Q => a ρ M fun xs M1 => Sz xs.length ∧ wNew md xs M1 Q
def wTup (a : DA) : DE := fun ρ M Q => a ρ M fun xs M1 => Sz xs.length ∧ Q (.tup xs) M1
theorem tr_lst {md : Md} {t : TA} {a : DA} (h : TrA t a) : Tr (tLst t) (wLst md a) := by
  intro ρ M σ H F Q Qv er m q f
  refine h ρ M σ H F _ _ er m q fun ds vs M1 H1 F1 m1 e1 r1 q1 => ?_
  exact ⟨by rw [r1.length]; exact q1.1.line, new_lst m1 r1 q1.2 (f.ext e1)⟩
theorem tr_tup {t : TA} {a : DA} (h : TrA t a) : Tr (tTup t) (wTup a) := by
  intro ρ M σ H F Q Qv er m q f
  refine h ρ M σ H F _ _ er m q fun ds vs M1 H1 F1 m1 e1 r1 q1 => ?_
  exact ⟨by rw [r1.length]; exact q1.1.line, new_tup m1 r1 q1.2 (f.ext e1)⟩

/-! ### items, slices -/
def nIx : DO := fun x y M Q => match x, y with
  | .lst xs, .int i => match atI xs i with
    | some d => Q d M
    | none => False
  | .tup xs, .int i => match atI xs i with
    | some d => Q d M
    | none => False
  | .str z, .int i => match atI z.cps.toList i with
    | some c => Sz z.length ∧ Q (.str ⟨#[c]⟩) M
    | none => False
  | _, _ => False
def wIx : DO := fun x y M Q => nIx (nrm M x) (nrm M y) M Q
theorem atI_rp {F : Hp} {xs : List D} {vs : List V} {i : Int} {d : D} (r : RpL F xs vs) (h : atI xs i = some d) : ∃ v, atI vs i = some v ∧ Rp F d v := by
  unfold atI at h ⊢
  rw [← r.length] at h
  cases e : ixN vs.length i with
  | none => rw [e] at h; cases h
  | some j => rw [e] at h; exact r.get h
theorem ot_ix {K : PySem.W.Frag} : OpT (rIx K) wIx := OpT.byView (fun _ _ _ _ => rfl) fun M H F n1 n2 v1 v2 Q Qv m r1 r2 q f => by
  unfold nIx at q
  split at q
  · obtain ⟨a, vs, rfl, ha, ra⟩ := r1
    cases r2
    split at q
    · rename_i d e
      obtain ⟨v, e1, rv⟩ := atI_rp ra e
      exact .inl ⟨_, _, _, _, rfl, rfl, .of ha, e1, f.here m rv q⟩
    · exact q.elim
  · obtain ⟨a, vs, rfl, ha, ra⟩ := r1
    cases r2
    split at q
    · rename_i d e
      obtain ⟨v, e1, rv⟩ := atI_rp ra e
      exact .inr (.inl ⟨_, _, _, _, rfl, rfl, .of ha, e1, f.here m rv q⟩)
    · exact q.elim
  · cases r1; cases r2
    split at q
    · rename_i c e
      exact .inr (.inr ⟨_, _, _, rfl, rfl, q.1.line, e, f.here (d := .str _) m rfl q.2⟩)
    · exact q.elim
  · exact q.elim
/-- a part of a slice -/
abbrev DP := DEnv → Mp → (Option Int → Mp → Prop) → Prop
def TrP (t : TO) (w : DP) : Prop := ∀ (ρ : DEnv) (M : Mp) (σ : L2.St) (H F : Hp) (Q : Option Int → Mp → Prop) (Qv : Option Int → Hp → Prop), EnvR F ρ σ → Mem M H F → w ρ M Q →
  (∀ b M' H' F', Mem M' H' F' → Ext M H F M' H' F' → Q b M' → Qv b H') → t σ H Qv
def pNo : DP := fun _ M Q => Q none M
def pSo (a : DE) : DP := fun ρ M Q => a ρ M fun x M1 => match x with
  | .int i => Q (some i) M1
  | _ => False
theorem tp_no : TrP tNoPart pNo := fun ρ M σ H F Q Qv er m q f => f _ _ _ _ m .refl q
theorem tp_so {t : TE} {a : DE} (h : Tr t a) : TrP (tPart t) (pSo a) := by
  intro ρ M σ H F Q Qv er m q f
  refine h ρ M σ H F _ _ er m q fun d1 v1 M1 H1 F1 m1 e1 r1 q1 => ?_
  split at q1
  · cases r1
    exact ⟨_, rfl, f _ _ _ _ m1 e1 q1⟩
  · exact q1.elim
def cutD {α : Type} (xs : List α) (lo hi : Option Int) : List α := (xs.drop (HT.sIx xs.length 0 lo)).take (HT.sIx xs.length xs.length hi - HT.sIx xs.length 0 lo)
def wSl (K : PySem.W.Frag) (md : Md) (a : DE) (lo hi : DP) : DE := fun ρ M Q => a ρ M fun x M1 => lo ρ M1 fun l M2 => hi ρ M2 fun u M3 => match nrm M3 x with
  | .lst xs => wNew md (cutD xs l u) M3 Q
  | .scr K' xs => K' = K ∧ wNew md (cutD xs l u) M3 Q
  | _ => False
theorem tr_sl {K : PySem.W.Frag} {md : Md} {t : TE} {tl th : TO} {a : DE} {lo hi : DP} (h : Tr t a) (hl : TrP tl lo) (hh : TrP th hi) : Tr (tSl (rSlL K) t tl th) (wSl K md a lo hi) := by
  intro ρ M σ H F Q Qv er m q f
  refine h ρ M σ H F _ _ er m q fun d1 v1 M1 H1 F1 m1 e1 r1 q1 => ?_
  refine hl ρ M1 σ H1 F1 _ _ (er.mono e1.fs) m1 q1 fun l M2 H2 F2 m2 e2 q2 => ?_
  refine hh ρ M2 σ H2 F2 _ _ (er.mono (e1.fs.trans e2.fs)) m2 q2 fun u M3 H3 F3 m3 e3 q3 => ?_
  have rv := m3.view (Rp.mono (e2.fs.trans e3.fs) _ _ r1)
  split at q3
  · rename_i xs e
    rw [e] at rv
    obtain ⟨b, vs, rfl, hb, rb⟩ := rv
    refine ⟨b, vs, rfl, .of hb, new_lst m3 ?_ q3 (f.ext (e1.trans (e2.trans e3)))⟩
    unfold cutV cutD
    rw [rb.length]
    exact (rb.drop _).take _
  · rename_i K' xs e
    rw [e] at rv
    obtain ⟨b, vs, rfl, hb, rb⟩ := rv
    obtain ⟨rfl, q3⟩ := q3
    refine ⟨b, vs, rfl, hb, new_lst m3 ?_ q3 (f.ext (e1.trans (e2.trans e3)))⟩
    unfold cutV cutD
    rw [rb.length]
    exact (rb.drop _).take _
  · exact q3.elim


/-! ### statements -/
structure DEnds where
  nx : DEnv → Mp → Prop
  rt : DK
  bk : DEnv → Mp → Prop := fun _ _ => False
  ct : DEnv → Mp → Prop := fun _ _ => False
abbrev DS := DEnds → DEnv → Mp → Prop
structure EndsR (M : Mp) (H F : Hp) (Dd : DEnds) (De : Ends) : Prop where
  nx : ∀ ρ' M' σ' H' F', EnvR F' ρ' σ' → Mem M' H' F' → Ext M H F M' H' F' → Dd.nx ρ' M' → De.nx σ' H'
  rt : ∀ d v M' H' F', Mem M' H' F' → Ext M H F M' H' F' → Rp F' d v → Dd.rt d M' → De.rt v H'
  bk : ∀ ρ' M' σ' H' F', EnvR F' ρ' σ' → Mem M' H' F' → Ext M H F M' H' F' → Dd.bk ρ' M' → De.bk σ' H'
  ct : ∀ ρ' M' σ' H' F', EnvR F' ρ' σ' → Mem M' H' F' → Ext M H F M' H' F' → Dd.ct ρ' M' → De.ct σ' H'
theorem EndsR.ext {M M1 : Mp} {H F H1 F1 : Hp} {Dd : DEnds} {De : Ends} (r : EndsR M H F Dd De) (e : Ext M H F M1 H1 F1) : EndsR M1 H1 F1 Dd De :=
  ⟨fun a b c d f g h i => r.nx a b c d f g h (e.trans i), fun a b c d f g h => r.rt a b c d f g (e.trans h), fun a b c d f g h i => r.bk a b c d f g h (e.trans i), fun a b c d f g h i => r.ct a b c d f g h (e.trans i)⟩
def TrS (t : TS) (w : DS) : Prop := ∀ (ρ : DEnv) (M : Mp) (σ : L2.St) (H F : Hp) (Dd : DEnds) (De : Ends), EnvR F ρ σ → Mem M H F → w Dd ρ M → EndsR M H F Dd De → t De σ H
def sNext : DS := fun Dd ρ M => Dd.nx ρ M
theorem ts_next : TrS tNext sNext := fun ρ M σ H F Dd De er m h r => r.nx _ _ _ _ _ er m .refl h
def sBreak : DS := fun Dd ρ M => Dd.bk ρ M
theorem ts_break : TrS tBreak sBreak := fun ρ M σ H F Dd De er m h r => r.bk _ _ _ _ _ er m .refl h
def sCont : DS := fun Dd ρ M => Dd.ct ρ M
theorem ts_cont : TrS tCont sCont := fun ρ M σ H F Dd De er m h r => r.ct _ _ _ _ _ er m .refl h
def sNever : DS := fun _ _ _ => False
theorem ts_never : TrS tNever sNever := fun ρ M σ H F Dd De er m h r => h.elim
def sSeq (a b : DS) : DS := fun Dd ρ M => a { Dd with nx := b Dd } ρ M
theorem ts_seq {t u : TS} {a b : DS} (ha : TrS t a) (hb : TrS u b) : TrS (tSeq t u) (sSeq a b) := by
  intro ρ M σ H F Dd De er m h r
  exact ha ρ M σ H F _ _ er m h ⟨fun ρ' M' σ' H' F' er' m' e' q => hb ρ' M' σ' H' F' Dd De er' m' q (r.ext e'), r.rt, r.bk, r.ct⟩
def sDrop (a : DE) : DS := fun Dd ρ M => a ρ M fun _ M1 => Dd.nx ρ M1
theorem ts_drop {t : TE} {a : DE} (h : Tr t a) : TrS (tDrop t) (sDrop a) := by
  intro ρ M σ H F Dd De er m q r
  exact h ρ M σ H F _ _ er m q fun d v M' H' F' m' e' _ q' => r.nx _ _ _ _ _ (er.mono e'.fs) m' e' q'
def sRet (a : DE) : DS := fun Dd ρ M => a ρ M Dd.rt
theorem ts_ret {t : TE} {a : DE} (h : Tr t a) : TrS (tRet t) (sRet a) := by
  intro ρ M σ H F Dd De er m q r
  exact h ρ M σ H F _ _ er m q fun d v M' H' F' m' e' r' q' => r.rt _ _ _ _ _ m' e' r' q'
def sRetN : DS := fun Dd _ M => Dd.rt .non M
theorem ts_retN : TrS tRetN sRetN := fun ρ M σ H F Dd De er m q r => r.rt .non .non _ _ _ m .refl rfl q
def sIf (c : DT) (a b : DS) : DS := fun Dd ρ M => c ρ M fun k M1 => if k = true then a Dd ρ M1 else b Dd ρ M1
theorem ts_if {tc : TT} {t u : TS} {c : DT} {a b : DS} (hc : TrT tc c) (ha : TrS t a) (hb : TrS u b) : TrS (tIfS tc t u) (sIf c a b) := by
  intro ρ M σ H F Dd De er m q r
  refine hc ρ M σ H F _ _ er m q fun k M1 H1 F1 m1 e1 q1 => ?_
  cases k with
  | true => exact ha ρ M1 σ H1 F1 _ _ (er.mono e1.fs) m1 q1 (r.ext e1)
  | false => exact hb ρ M1 σ H1 F1 _ _ (er.mono e1.fs) m1 q1 (r.ext e1)

/-! ### targets -/
abbrev DG := D → DEnv → Mp → (DEnv → Mp → Prop) → Prop
def TrG (g : TG) (w : DG) : Prop := ∀ (d : D) (v : V) (ρ : DEnv) (M : Mp) (σ : L2.St) (H F : Hp) (Q : DEnv → Mp → Prop) (Qs : L2.St → Hp → Prop), EnvR F ρ σ → Mem M H F → Rp F d v → w d ρ M Q →
  (∀ ρ' M' σ' H' F', EnvR F' ρ' σ' → Mem M' H' F' → Ext M H F M' H' F' → Q ρ' M' → Qs σ' H') → g v σ H Qs
def dName (i : Nat) : DG := fun d ρ M Q => Q (ρ.set i (some d)) M
theorem tg_name {i : Nat} : TrG (gName i) (dName i) := fun d v ρ M σ H F Q Qs er m r q f => f _ _ _ _ _ (er.set i r) m .refl q
abbrev DGs := List D → DEnv → Mp → (DEnv → Mp → Prop) → Prop
def TrGs (g : TGs) (w : DGs) : Prop := ∀ (ds : List D) (vs : List V) (ρ : DEnv) (M : Mp) (σ : L2.St) (H F : Hp) (Q : DEnv → Mp → Prop) (Qs : L2.St → Hp → Prop), EnvR F ρ σ → Mem M H F → RpL F ds vs → w ds ρ M Q →
  (∀ ρ' M' σ' H' F', EnvR F' ρ' σ' → Mem M' H' F' → Ext M H F M' H' F' → Q ρ' M' → Qs σ' H') → g vs σ H Qs
def dNil : DGs := fun ds ρ M Q => match ds with
  | [] => Q ρ M
  | _ => False
def dCons (g : DG) (r : DGs) : DGs := fun ds ρ M Q => match ds with
  | d :: ds => g d ρ M fun ρ1 M1 => r ds ρ1 M1 Q
  | [] => False
theorem tgs_nil : TrGs gNil dNil := by
  intro ds vs ρ M σ H F Q Qs er m r q f
  unfold dNil at q
  split at q
  · cases r; exact ⟨rfl, f _ _ _ _ _ er m .refl q⟩
  · exact q.elim
theorem tgs_cons {g : TG} {r : TGs} {w : DG} {u : DGs} (hg : TrG g w) (hr : TrGs r u) : TrGs (gCons g r) (dCons w u) := by
  intro ds vs ρ M σ H F Q Qs er m r q f
  unfold dCons at q
  split at q
  · obtain ⟨v, vr, rfl, h1, h2⟩ := r
    refine ⟨v, vr, rfl, hg _ v ρ M σ H F _ _ er m h1 q fun ρ1 M1 σ1 H1 F1 er1 m1 e1 q1 => ?_⟩
    exact hr _ vr ρ1 M1 σ1 H1 F1 _ _ er1 m1 (RpL.mono e1.fs _ _ h2) q1 fun a b c d e f1 f2 f3 f4 => f a b c d e f1 f2 (e1.trans f3) f4
  · exact q.elim
def dTup (n : Nat) (g : DGs) : DG := fun d ρ M Q => match d with
  | .tup xs => xs.length = n ∧ g xs ρ M Q
  | _ => False
theorem tg_tup {K : PySem.W.Frag} {n : Nat} {g : TGs} {w : DGs} (h : TrGs g w) : TrG (gTup K n g) (dTup n w) := by
  intro d v ρ M σ H F Q Qs er m r q f
  unfold dTup at q
  split at q
  · obtain ⟨a, vs, rfl, ha, ra⟩ := r
    exact ⟨a, vs, rfl, .of (m.same _ _ ha), by rw [ra.length]; exact q.1, h _ vs ρ M σ H F Q Qs er m ra q.2 f⟩
  · exact q.elim
/-- o[i] = .. -/
abbrev DSet := D → D → D → Mp → (Mp → Prop) → Prop
def TrSet (t : TSet) (w : DSet) : Prop := ∀ (o i d : D) (ov iv v : V) (M : Mp) (H F : Hp) (Q : Mp → Prop) (Qs : Hp → Prop), Mem M H F → Rp F o ov → Rp F i iv → Rp F d v → w o i d M Q →
  (∀ M' H' F', Mem M' H' F' → Ext M H F M' H' F' → Q M' → Qs H') → t ov iv v H Qs
def dSub (o i : DE) (s : DSet) : DG := fun d ρ M Q => o ρ M fun x M1 => i ρ M1 fun y M2 => s x y d M2 fun M3 => Q ρ M3
theorem tg_sub {to ti : TE} {o i : DE} {t : TSet} {s : DSet} (ho : Tr to o) (hi : Tr ti i) (hs : TrSet t s) : TrG (gSub to ti t) (dSub o i s) := by
  intro d v ρ M σ H F Q Qs er m r q f
  refine ho ρ M σ H F _ _ er m q fun x ov M1 H1 F1 m1 e1 r1 q1 => ?_
  refine hi ρ M1 σ H1 F1 _ _ (er.mono e1.fs) m1 q1 fun y iv M2 H2 F2 m2 e2 r2 q2 => ?_
  refine hs x y d ov iv v M2 H2 F2 _ _ m2 (Rp.mono e2.fs _ _ r1) r2 (Rp.mono (e1.fs.trans e2.fs) _ _ r) q2 fun M3 H3 F3 m3 e3 q3 => ?_
  have e := e1.trans (e2.trans e3)
  exact f _ _ _ _ _ (er.mono e.fs) m3 e q3
/-- a list's item is set -/
def sSetL : DSet := fun o i d M Q => match o, i with
  | .ref a, .int k => match M a with
    | some (.lst xs) => match ixN xs.length k with
      | some j => Q (M.set a (.lst (xs.set j d)))
      | none => False
    | _ => False
  | _, _ => False
theorem tset_list : TrSet rSetL sSetL := by
  intro o i d ov iv v M H F Q Qs m ro ri rd q f
  unfold sSetL at q
  split at q
  · rename_i a k
    split at q
    · rename_i xs e
      obtain ⟨hf, ob, ha, vs, rfl, ra⟩ := m.mem a _ e
      split at q
      · rename_i j ej
        have ro : ov = .ref a := ro
        have ri : iv = .int k := ri
        subst ro; subst ri
        obtain ⟨m', e'⟩ := m.chg e (o := .lst (vs.set j v)) (q := .lst (xs.set j d)) ⟨_, rfl, ra.set rd j⟩
        exact ⟨a, vs, k, j, rfl, rfl, ha, by rw [ra.length]; exact ej, f _ _ _ m' e' q⟩
      · exact q.elim
    · exact q.elim
  · exact q.elim
def sAsg (a : DE) (g : DG) : DS := fun Dd ρ M => a ρ M fun x M1 => g x ρ M1 Dd.nx
theorem ts_asg {t : TE} {g : TG} {a : DE} {w : DG} (h : Tr t a) (hg : TrG g w) : TrS (tAsg t g) (sAsg a w) := by
  intro ρ M σ H F Dd De er m q r
  refine h ρ M σ H F _ _ er m q fun d v M1 H1 F1 m1 e1 r1 q1 => ?_
  exact hg d v ρ M1 σ H1 F1 _ _ (er.mono e1.fs) m1 r1 q1 fun a b c d e f1 f2 f3 f4 => r.nx a b c d e f1 f2 (e1.trans f3) f4
/-- a, b = x, y -/
def sPar (i j : Nat) (a : DA) : DS := fun Dd ρ M => a ρ M fun ds M1 => match ds with
  | [x, y] => Dd.nx ((ρ.set i (some x)).set j (some y)) M1
  | _ => False
theorem ts_par {i j : Nat} {t : TA} {a : DA} (h : TrA t a) : TrS (tPar i j t) (sPar i j a) := by
  intro ρ M σ H F Dd De er m q r
  refine h ρ M σ H F _ _ er m q fun ds vs M1 H1 F1 m1 e1 r1 q1 => ?_
  split at q1
  · obtain ⟨v, vr, rfl, h1, w, wr, rfl, h2, h3⟩ := r1
    cases h3
    exact ⟨v, w, rfl, r.nx _ _ _ _ _ (((er.mono e1.fs).set i h1).set j h2) m1 e1 q1⟩
  · exact q1.elim
/-- x op= e, by an operator's in-place rule -/
def sAug (i : Nat) (a : DE) (o : DO) : DS := fun Dd ρ M => match ρ[i]? with
  | some (some x) => a ρ M fun y M1 => o x y M1 fun z M2 => Dd.nx (ρ.set i (some z)) M2
  | _ => False
theorem ts_aug {i : Nat} {t : TE} {a : DE} {r : R2} {o : DO} (h : Tr t a) (ho : OpT r o) : TrS (tAug i t r) (sAug i a o) := by
  intro ρ M σ H F Dd De er m q r
  unfold sAug at q
  split at q
  · rename_i x e
    obtain ⟨v, e1, rx⟩ := er.at_ i x e
    refine ⟨v, e1, h ρ M σ H F _ _ er m q fun y u M1 H1 F1 m1 x1 r1 q1 => ?_⟩
    refine ho M1 H1 F1 x y v u _ _ m1 (Rp.mono x1.fs _ _ rx) r1 q1 fun z w M2 H2 F2 m2 x2 r2 q2 => ?_
    exact r.nx _ _ _ _ _ ((er.mono (x1.trans x2).fs).set i r2) m2 (x1.trans x2) q2
  · exact q.elim

/-! ### what is walked -/
abbrev DI := DEnv → Mp → (List D → (Mp → Prop) → Mp → Prop) → Prop
/-- the walk J gives xs, one after another -/
def DWk (J : It) (xs : List D) (P : Mp → Prop) (F1 : Hp) : Prop := ∃ (G : Hp → Prop) (Y : Nat → Hp → V → Hp → Prop), Walk J xs.length G Y ∧
  (∀ M H F, Mem M H F → Same F1 F → P M → G H) ∧ ∀ i x H H' M F, i < xs.length → Mem M H F → Same F1 F → P M → Y i H x H' → ∃ F' d, Mem M H' F' ∧ Ext M H F M H' F' ∧ xs[i]? = some d ∧ Rp F' d x
def TrI (t : TI) (w : DI) : Prop := ∀ (ρ : DEnv) (M : Mp) (σ : L2.St) (H F : Hp) (Q : List D → (Mp → Prop) → Mp → Prop) (R : It → Hp → Prop), EnvR F ρ σ → Mem M H F → w ρ M Q →
  (∀ xs P J M' H' F', Mem M' H' F' → Ext M H F M' H' F' → DWk J xs P F' → Q xs P M' → R J H') → t σ H R
/-- list or mutable list -/
def nIt (K : PySem.W.Frag) (x : D) (M : Mp) (Q : List D → (Mp → Prop) → Mp → Prop) : Prop := match nrm M x with
  | .lst xs => Q xs (fun M' => nrm M' x = .lst xs) M
  | .scr K' xs => K' = K ∧ Q xs (fun M' => nrm M' x = .scr K' xs) M
  | _ => False
def iLst (K : PySem.W.Frag) (w : DE) : DI := fun ρ M Q => w ρ M fun x M1 => nIt K x M1 Q
theorem dwk_list {K : PySem.W.Frag} {a : Addr} {xs : List D} {P : Mp → Prop} {F1 : Hp} (h : ∀ M H F, Mem M H F → Same F1 F → P M → ∃ vs, RpL F xs vs ∧ SqL K H a vs) : DWk (Itl K a) xs P F1 := by
  refine ⟨fun H => ∃ vs : List V, vs.length = xs.length ∧ SqL K H a vs, fun i H x H' => H' = H ∧ ∀ ys, SqL K H a ys → ys[i]? = some x, ⟨fun i H hi q => ?_, fun H q => ?_, fun i H x H' _ _ y => y⟩, fun M H F m s p => ?_, fun i x H H' M F hi m s p y => ?_⟩
  · obtain ⟨vs, e, q⟩ := q
    exact ⟨vs, vs[i]'(by omega), q, by simp [show i < vs.length by omega]⟩
  · obtain ⟨vs, e, q⟩ := q
    exact ⟨vs, q, by omega⟩
  · obtain ⟨vs, r, q⟩ := h M H F m s p
    exact ⟨vs, r.length, q⟩
  · obtain ⟨vs, r, q⟩ := h M H F m s p
    obtain ⟨rfl, y⟩ := y
    obtain ⟨d, e, rd⟩ := r.get' (y vs q)
    exact ⟨F, d, m, .refl, e, rd⟩
theorem ti_list {K : PySem.W.Frag} {t : TE} {w : DE} (h : Tr t w) : TrI (iList K t) (iLst K w) := by
  intro ρ M σ H F Q R er m q f
  refine h ρ M σ H F _ _ er m q fun d v M1 H1 F1 m1 e1 r1 q1 => ?_
  unfold nIt at q1
  have vw := m1.view r1
  split at q1
  · rename_i xs e
    rw [e] at vw
    obtain ⟨a, vs, rfl, ha, ra⟩ := vw
    refine ⟨a, rfl, ⟨vs, .of ha⟩, f _ _ _ _ _ _ m1 e1 (dwk_list fun M H F m s p => ?_) q1⟩
    have vw := m.view (Rp.mono s _ _ r1)
    rw [show nrm M d = .lst xs from p] at vw
    obtain ⟨a2, vs2, ea, ha2, ra2⟩ := vw
    cases ea
    exact ⟨vs2, ra2, .of ha2⟩
  · rename_i K' xs e
    obtain ⟨rfl, q1⟩ := q1
    rw [e] at vw
    obtain ⟨a, vs, rfl, ha, ra⟩ := vw
    refine ⟨a, rfl, ⟨vs, ha⟩, f _ _ _ _ _ _ m1 e1 (dwk_list fun M H F m s p => ?_) q1⟩
    have vw := m.view (Rp.mono s _ _ r1)
    rw [show nrm M d = .scr _ xs from p] at vw
    obtain ⟨a2, vs2, ea, ha2, ra2⟩ := vw
    cases ea
    exact ⟨vs2, ra2, ha2⟩
  · exact q1.elim
/-- a tuple -/
def iTp (w : DE) : DI := fun ρ M Q => w ρ M fun x M1 => match x with
  | .tup xs => Q xs (fun _ => True) M1
  | _ => False
theorem ti_tup {K : PySem.W.Frag} {t : TE} {w : DE} (h : Tr t w) : TrI (iTup K t) (iTp w) := by
  intro ρ M σ H F Q R er m q f
  refine h ρ M σ H F _ _ er m q fun d v M1 H1 F1 m1 e1 r1 q1 => ?_
  split at q1
  · obtain ⟨a, vs, rfl, ha, ra⟩ := r1
    refine ⟨a, rfl, ⟨vs, .of (m1.same _ _ ha)⟩, f _ _ _ _ _ _ m1 e1 ⟨_, _, ra.length ▸ (walk_tup (xs := vs)), fun M H F m s _ => .of (m.same _ _ (s _ _ ha)), fun i x H H' M F hi m s _ y => ?_⟩ q1⟩
    obtain ⟨rfl, hx⟩ := y
    obtain ⟨d, e, rd⟩ := (RpL.mono s _ _ ra).get' hx
    exact ⟨F, d, m, .refl, e, rd⟩
  · exact q1.elim
/-- lo, lo + c, .. -/
def rngD (lo c : Int) (n : Nat) : List D := (List.range n).map fun i => .int (lo + (i : Nat) * c)
theorem rngD_length {lo c : Int} {n : Nat} : (rngD lo c n).length = n := by simp [rngD]
theorem rngD_get {lo c : Int} {n i : Nat} (h : i < n) : (rngD lo c n)[i]? = some (.int (lo + (i : Nat) * c)) := by simp [rngD, h]
def Rg (i : Int) : Prop := -(2 ^ 62) ≤ i ∧ i < 2 ^ 62
def iRn1 (a : DA) : DI := fun ρ M Q => a ρ M fun ds M1 => match ds with
  | [.int j] => Rg j ∧ Q (rngD 0 1 j.toNat) (fun _ => True) M1
  | _ => False
def iRn2 (a : DA) : DI := fun ρ M Q => a ρ M fun ds M1 => match ds with
  | [.int i, .int j] => (Rg i ∧ Rg j) ∧ Q (rngD i 1 (j - i).toNat) (fun _ => True) M1
  | _ => False
/-- how many a range with a step has -/
def rngN (i j c : Int) : Nat := (Builtin.Range.rangeSize i j c).toNat
def Stp (c : Int) : Prop := c ≠ 0 ∧ c.natAbs < 1073741824
def iRn3 (a : DA) : DI := fun ρ M Q => a ρ M fun ds M1 => match ds with
  | [.int i, .int j, .int c] => (Rg i ∧ Rg j ∧ Stp c) ∧ Q (rngD i c (rngN i j c)) (fun _ => True) M1
  | _ => False
theorem size_nn (i j c : Int) : 0 ≤ Builtin.Range.rangeSize i j c := by
  unfold Builtin.Range.rangeSize
  split
  · split
    · have : 0 ≤ (j - i - 1) / c := Int.ediv_nonneg (by omega) (by omega)
      omega
    · omega
  · split
    · by_cases h : c = 0
      · subst h; simp
      · have : 0 ≤ (i - j - 1) / -c := Int.ediv_nonneg (by omega) (by omega)
        omega
    · omega
theorem ediv_le_self' {a c : Int} (ha : 0 ≤ a) (hc : 0 < c) : a / c ≤ a := by
  have := Int.ediv_le_self c ha
  exact this
theorem rgC_of {i j c : Int} (hi : Rg i) (hj : Rg j) (hc : Stp c) : RgC i j c (rngN i j c) := by
  obtain ⟨c0, c1⟩ := hc
  have n0 := size_nn i j c
  have n1 : Builtin.Range.rangeSize i j c < 2 ^ 63 := by
    unfold Builtin.Range.rangeSize
    obtain ⟨a1, a2⟩ := hi
    obtain ⟨b1, b2⟩ := hj
    split
    · split
      · have : (j - i - 1) / c ≤ j - i - 1 := ediv_le_self' (by omega) (by omega)
        omega
      · omega
    · split
      · have : (i - j - 1) / -c ≤ i - j - 1 := ediv_le_self' (by omega) (by omega)
        omega
      · omega
  refine ⟨c0, c1, ?_, by unfold rngN; omega⟩
  obtain ⟨a1, a2⟩ := hi
  obtain ⟨b1, b2⟩ := hj
  have fit : ∀ x : Int, -(2 ^ 63) ≤ x → x < 2 ^ 63 → Builtin.Range.rangeFitsLong x = true := fun x h1 h2 => by
    unfold Builtin.Range.rangeFitsLong
    simp only [Bool.and_eq_true, decide_eq_true_eq]
    omega
  unfold Builtin.Range.small
  rw [fit i (by omega) (by omega), fit j (by omega) (by omega), fit c (by omega) (by omega), fit _ (by omega) n1]
  have l1 := fit (j + (c - 1)) (by omega) (by omega)
  have l2 := fit (j + (c + 1)) (by omega) (by omega)
  rw [l1, l2]
  simp
theorem dwk_rng {lo c : Int} {n : Nat} {J : It} {P : Mp → Prop} {F1 : Hp} (h : Walk J n (fun _ => True) (YFn fun i => .int (lo + (i : Nat) * c))) : DWk J (rngD lo c n) P F1 := by
  refine ⟨_, _, (rngD_length (lo := lo) (c := c) (n := n)).symm ▸ h, fun _ _ _ _ _ _ => trivial, fun i x H H' M F hi m s _ y => ?_⟩
  obtain ⟨rfl, rfl⟩ := y
  rw [rngD_length] at hi
  exact ⟨F, _, m, .refl, rngD_get hi, rfl⟩
theorem dwk_rng1 {lo : Int} {n : Nat} {P : Mp → Prop} {F1 : Hp} : DWk (Itr lo n) (rngD lo 1 n) P F1 := dwk_rng (walk_range.mono (fun _ h => h) fun i H x H' _ _ y => by simpa using y)
theorem ti_rng1 {t : TA} {a : DA} (h : TrA t a) : TrI (iRng1 t) (iRn1 a) := by
  intro ρ M σ H F Q R er m q f
  refine h ρ M σ H F _ _ er m q fun ds vs M1 H1 F1 m1 e1 r1 q1 => ?_
  split at q1
  · obtain ⟨v, r, rfl, h1, h2⟩ := r1
    cases h1; cases h2
    exact ⟨_, rfl, q1.1.1, q1.1.2, f _ _ _ _ _ _ m1 e1 dwk_rng1 q1.2⟩
  · exact q1.elim
theorem ti_rng2 {t : TA} {a : DA} (h : TrA t a) : TrI (iRng2 t) (iRn2 a) := by
  intro ρ M σ H F Q R er m q f
  refine h ρ M σ H F _ _ er m q fun ds vs M1 H1 F1 m1 e1 r1 q1 => ?_
  split at q1
  · obtain ⟨v, r, rfl, h1, w, r2, rfl, h2, h3⟩ := r1
    cases h1; cases h2; cases h3
    exact ⟨_, _, rfl, ⟨q1.1.1.1, q1.1.1.2, q1.1.2.1, q1.1.2.2⟩, f _ _ _ _ _ _ m1 e1 dwk_rng1 q1.2⟩
  · exact q1.elim
theorem ti_rng3 {t : TA} {a : DA} (h : TrA t a) : TrI (iRng3 t) (iRn3 a) := by
  intro ρ M σ H F Q R er m q f
  refine h ρ M σ H F _ _ er m q fun ds vs M1 H1 F1 m1 e1 r1 q1 => ?_
  split at q1
  · obtain ⟨v, r, rfl, h1, w, r2, rfl, h2, u, r3, rfl, h3, h4⟩ := r1
    cases h1; cases h2; cases h3; cases h4
    exact ⟨_, _, _, _, rfl, rgC_of q1.1.1 q1.1.2.1 q1.1.2.2, f _ _ _ _ _ _ m1 e1 (dwk_rng walk_rangeC) q1.2⟩
  · exact q1.elim
/-- pairs, each laid anew -/
theorem dwk_pair {J : It} {xs ys : List D} {zs : List D} {P : Mp → Prop} {F1 : Hp} {G : Hp → Prop} {f g : Nat → Option V} (w : Walk J zs.length G (YPair f g)) (hG : ∀ M H F, Mem M H F → Same F1 F → P M → G H)
    (hf : ∀ F i x, Same F1 F → f i = some x → ∃ d, xs[i]? = some d ∧ Rp F d x) (hg : ∀ F i x, Same F1 F → g i = some x → ∃ d, ys[i]? = some d ∧ Rp F d x)
    (hz : ∀ i a b, xs[i]? = some a → ys[i]? = some b → i < zs.length → zs[i]? = some (.tup [a, b])) : DWk J zs P F1 := by
  refine ⟨G, _, w, hG, fun i v H H' M F hi m s p y => ?_⟩
  obtain ⟨T, x, y, rfl, hT, rfl, e1, e2⟩ := y
  obtain ⟨d1, k1, r1⟩ := hf F i x s e1
  obtain ⟨d2, k2, r2⟩ := hg F i y s e2
  obtain ⟨m', e'⟩ := m.frz hT (.tup [x, y])
  exact ⟨_, .tup [d1, d2], m', e', hz i _ _ k1 k2 hi, T, [x, y], rfl, upd_same, x, [y], rfl, Rp.mono e'.fs _ _ r1, y, [], rfl, Rp.mono e'.fs _ _ r2, rfl⟩
def enumD (xs : List D) : List D := xs.zipIdx.map fun p => .tup [.int (p.2 : Nat), p.1]
theorem enumD_length (xs : List D) : (enumD xs).length = xs.length := by simp [enumD]
theorem enumD_get {xs : List D} {i : Nat} {d : D} (h : xs[i]? = some d) : (enumD xs)[i]? = some (.tup [.int (i : Nat), d]) := by simp [enumD, h]
/-- enumerate(list) -/
def iEn (a : DA) : DI := fun ρ M Q => a ρ M fun ds M1 => match ds with
  | [x] => match nrm M1 x with
    | .lst xs => Q (enumD xs) (fun M' => nrm M' x = .lst xs) M1
    | _ => False
  | _ => False
theorem ti_enum {K : PySem.W.Frag} {t : TA} {a : DA} (h : TrA t a) : TrI (iEnum K t) (iEn a) := by
  intro ρ M σ H F Q R er m q f
  refine h ρ M σ H F _ _ er m q fun ds vs M1 H1 F1 m1 e1 r1 q1 => ?_
  split at q1
  · rename_i x
    split at q1
    · rename_i xs e
      obtain ⟨v, r, rfl, h1, h2⟩ := r1
      cases h2
      have vw := m1.view h1
      rw [e] at vw
      obtain ⟨b, ws, rfl, hb, rb⟩ := vw
      refine ⟨b, ws, rfl, .of hb, f _ _ _ _ _ _ m1 e1 ?_ q1⟩
      -- at each turn the list stands
      have st : ∀ M H F, Mem M H F → Same F1 F → nrm M x = .lst xs → ∃ vs, RpL F xs vs ∧ SqL K H b vs := fun M H F m s p => by
        have vw := m.view (Rp.mono s _ _ h1)
        rw [p] at vw
        obtain ⟨b', ws', eb, hb', rb'⟩ := vw
        cases eb
        exact ⟨ws', rb', .of hb'⟩
      refine ⟨fun H => ∃ vs : List V, vs.length = xs.length ∧ SqL K H b vs, fun i H v H' => ∃ T x', v = .ref T ∧ H T = none ∧ H' = L2.upd H T (.tup [.int (i : Nat), x']) ∧ ∀ ys, SqL K H b ys → ys[i]? = some x',
        ⟨fun i H hi q => ?_, fun H q => ?_, fun i H x H' _ _ y => ?_⟩, fun M H F m s p => ?_, fun i v H H' M F hi m s p y => ?_⟩
      · obtain ⟨vs, e, q⟩ := q
        rw [enumD_length] at hi
        exact ⟨vs, vs[i]'(by omega), q, by simp [show i < vs.length by omega]⟩
      · obtain ⟨vs, e, q⟩ := q
        rw [enumD_length]
        exact ⟨vs, q, by omega⟩
      · obtain ⟨T, x, h1, h2, h3, h4⟩ := y
        exact ⟨T, x, h1, h2, h3, h4⟩
      · obtain ⟨vs, r, q⟩ := st M H F m s p
        exact ⟨vs, r.length, q⟩
      · obtain ⟨vs, r, q⟩ := st M H F m s p
        obtain ⟨T, x', rfl, hT, rfl, y⟩ := y
        obtain ⟨d, ed, rd⟩ := r.get' (y vs q)
        obtain ⟨m', e'⟩ := m.frz hT (.tup [.int (i : Nat), x'])
        exact ⟨_, _, m', e', enumD_get ed, T, _, rfl, upd_same, .int (i : Nat), [x'], rfl, rfl, x', [], rfl, Rp.mono e'.fs _ _ rd, rfl⟩
    · exact q1.elim
  · exact q1.elim
def zipD (xs ys : List D) : List D := (xs.zip ys).map fun p => .tup [p.1, p.2]
theorem zipD_length (xs ys : List D) : (zipD xs ys).length = min xs.length ys.length := by simp [zipD]
theorem zipD_get {xs ys : List D} {i : Nat} {a b : D} (h : xs[i]? = some a) (h' : ys[i]? = some b) : (zipD xs ys)[i]? = some (.tup [a, b]) := by
  have e : (xs.zip ys)[i]? = some (a, b) := List.getElem?_zip_eq_some.mpr ⟨h, h'⟩
  simp only [zipD, List.getElem?_map, e, Option.map_some]
/-- zip(list, list), zip(tuple, tuple) -/
def iZp (a : DA) : DI := fun ρ M Q => a ρ M fun ds M1 => match ds with
  | [.lst xs, .lst ys] => Q (zipD xs ys) (fun _ => True) M1
  | [.tup xs, .tup ys] => Q (zipD xs ys) (fun _ => True) M1
  | [x, y] => match nrm M1 x, nrm M1 y with
    | .lst xs, .lst ys => Q (zipD xs ys) (fun M' => nrm M' x = .lst xs ∧ nrm M' y = .lst ys) M1
    | _, _ => False
  | _ => False
theorem dwk_zip {K : PySem.W.Frag} {a b : Addr} {xs ys : List D} {P : Mp → Prop} {F1 : Hp} (h : ∀ M H F, Mem M H F → Same F1 F → P M → ∃ vs ws, RpL F xs vs ∧ RpL F ys ws ∧ SqL K H a vs ∧ SqL K H b ws) : DWk (Itz K a b) (zipD xs ys) P F1 := by
  refine ⟨fun H => ∃ vs ws : List V, vs.length = xs.length ∧ ws.length = ys.length ∧ SqL K H a vs ∧ SqL K H b ws, fun i H v H' => ∃ T x y, v = .ref T ∧ H T = none ∧ H' = L2.upd H T (.tup [x, y]) ∧ (∀ ys, SqL K H a ys → ys[i]? = some x) ∧ (∀ ys, SqL K H b ys → ys[i]? = some y),
    ⟨fun i H hi q => ?_, fun H q => ?_, fun i H x H' _ _ y => ?_⟩, fun M H F m s p => ?_, fun i v H H' M F hi m s p y => ?_⟩
  · obtain ⟨vs, ws, e1, e2, q1, q2⟩ := q
    rw [zipD_length] at hi
    exact ⟨vs, ws, vs[i]'(by omega), ws[i]'(by omega), q1, q2, by simp [show i < vs.length by omega], by simp [show i < ws.length by omega]⟩
  · obtain ⟨vs, ws, e1, e2, q1, q2⟩ := q
    rw [zipD_length]
    exact ⟨vs, ws, q1, q2, by omega⟩
  · obtain ⟨T, x, z, h1, h2, h3, h4, h5⟩ := y
    exact ⟨T, x, z, h1, h2, h3, h4, h5⟩
  · obtain ⟨vs, ws, r1, r2, q1, q2⟩ := h M H F m s p
    exact ⟨vs, ws, r1.length, r2.length, q1, q2⟩
  · obtain ⟨vs, ws, r1, r2, q1, q2⟩ := h M H F m s p
    obtain ⟨T, x', y', rfl, hT, rfl, y1, y2⟩ := y
    obtain ⟨d1, ed1, rd1⟩ := r1.get' (y1 vs q1)
    obtain ⟨d2, ed2, rd2⟩ := r2.get' (y2 ws q2)
    obtain ⟨m', e'⟩ := m.frz hT (.tup [x', y'])
    exact ⟨_, _, m', e', zipD_get ed1 ed2, T, _, rfl, upd_same, x', [y'], rfl, Rp.mono e'.fs _ _ rd1, y', [], rfl, Rp.mono e'.fs _ _ rd2, rfl⟩
theorem dwk_zipT {K : PySem.W.Frag} {a b : Addr} {xs ys : List D} {vs ws : List V} {P : Mp → Prop} {F1 : Hp} (ra : RpL F1 xs vs) (rb : RpL F1 ys ws) (ha : F1 a = some (.tup vs)) (hb : F1 b = some (.tup ws)) : DWk (RZ.ItzT K a b) (zipD xs ys) P F1 := by
  refine ⟨fun H => SqT K H a vs ∧ SqT K H b ws, fun i H v H' => ∃ T x y, v = .ref T ∧ H T = none ∧ H' = L2.upd H T (.tup [x, y]) ∧ (∀ ys, SqT K H a ys → ys[i]? = some x) ∧ (∀ ys, SqT K H b ys → ys[i]? = some y),
    ⟨fun i H hi q => ?_, fun H q => ?_, fun i H x H' _ _ y => ?_⟩, fun M H F m s p => ⟨.of (m.same _ _ (s _ _ ha)), .of (m.same _ _ (s _ _ hb))⟩, fun i v H H' M F hi m s p y => ?_⟩
  · rw [zipD_length, ← ra.length, ← rb.length] at hi
    exact ⟨vs, ws, vs[i]'(by omega), ws[i]'(by omega), q.1, q.2, by simp [show i < vs.length by omega], by simp [show i < ws.length by omega]⟩
  · rw [zipD_length, ← ra.length, ← rb.length]
    exact ⟨vs, ws, q.1, q.2, by omega⟩
  · obtain ⟨T, x, z, h1, h2, h3, h4, h5⟩ := y
    exact ⟨T, x, z, h1, h2, h3, h4, h5⟩
  · obtain ⟨T, x', y', rfl, hT, rfl, y1, y2⟩ := y
    obtain ⟨d1, ed1, rd1⟩ := (RpL.mono s _ _ ra).get' (y1 vs (.of (m.same _ _ (s _ _ ha))))
    obtain ⟨d2, ed2, rd2⟩ := (RpL.mono s _ _ rb).get' (y2 ws (.of (m.same _ _ (s _ _ hb))))
    obtain ⟨m', e'⟩ := m.frz hT (.tup [x', y'])
    exact ⟨_, _, m', e', zipD_get ed1 ed2, T, _, rfl, upd_same, x', [y'], rfl, Rp.mono e'.fs _ _ rd1, y', [], rfl, Rp.mono e'.fs _ _ rd2, rfl⟩
theorem ti_zip {K : PySem.W.Frag} {t : TA} {a : DA} (h : TrA t a) : TrI (RZ.iZipA K t) (iZp a) := by
  intro ρ M σ H F Q R er m q f
  refine h ρ M σ H F _ _ er m q fun ds vs M1 H1 F1 m1 e1 r1 q1 => ?_
  split at q1
  · obtain ⟨v, r, rfl, ⟨a, vs, rfl, ha, ra⟩, w, r2, rfl, ⟨b, ws, rfl, hb, rb⟩, h3⟩ := r1
    cases h3
    exact ⟨a, b, vs, ws, rfl, .inl ⟨.of (m1.same _ _ ha), .of (m1.same _ _ hb), f _ _ _ _ _ _ m1 e1 (dwk_zip fun M H F m s _ => ⟨vs, ws, RpL.mono s _ _ ra, RpL.mono s _ _ rb, .of (m.same _ _ (s _ _ ha)), .of (m.same _ _ (s _ _ hb))⟩) q1⟩⟩
  · obtain ⟨v, r, rfl, ⟨a, vs, rfl, ha, ra⟩, w, r2, rfl, ⟨b, ws, rfl, hb, rb⟩, h3⟩ := r1
    cases h3
    exact ⟨a, b, vs, ws, rfl, .inr ⟨.of (m1.same _ _ ha), .of (m1.same _ _ hb), f _ _ _ _ _ _ m1 e1 (dwk_zipT ra rb ha hb) q1⟩⟩
  · rename_i x y _ _
    split at q1
    · rename_i xs ys ex ey
      obtain ⟨v, r, rfl, h1, w, r2, rfl, h2, h3⟩ := r1
      cases h3
      have v1 := m1.view h1
      have v2 := m1.view h2
      rw [ex] at v1
      rw [ey] at v2
      obtain ⟨a, vs, rfl, ha, ra⟩ := v1
      obtain ⟨b, ws, rfl, hb, rb⟩ := v2
      refine ⟨a, b, vs, ws, rfl, .inl ⟨.of ha, .of hb, f _ _ _ _ _ _ m1 e1 (dwk_zip fun M H F m s p => ?_) q1⟩⟩
      have v1 := m.view (Rp.mono s _ _ h1)
      have v2 := m.view (Rp.mono s _ _ h2)
      rw [p.1] at v1
      rw [p.2] at v2
      obtain ⟨a', vs', ea, ha', ra'⟩ := v1
      obtain ⟨b', ws', eb, hb', rb'⟩ := v2
      cases ea; cases eb
      exact ⟨vs', ws', ra', rb', .of ha', .of hb'⟩
    · exact q1.elim
  · exact q1.elim
/-- a text's signs -/
def signsD (z : Str) : List D := z.cps.toList.map fun c => .str ⟨#[c]⟩
def iSt (w : DE) : DI := fun ρ M Q => w ρ M fun x M1 => match x with
  | .str z => Q (signsD z) (fun _ => True) M1
  | _ => False
theorem ti_str {t : TE} {w : DE} (h : Tr t w) : TrI (iStr t) (iSt w) := by
  intro ρ M σ H F Q R er m q f
  refine h ρ M σ H F _ _ er m q fun d v M1 H1 F1 m1 e1 r1 q1 => ?_
  split at q1
  · rename_i z
    cases r1
    have el : (signsD z).length = z.cps.size := by simp [signsD]
    refine ⟨z, rfl, f _ _ _ _ _ _ m1 e1 ⟨_, _, el ▸ walk_str, fun _ _ _ _ _ _ => trivial, fun i x H H' M F hi m s _ y => ?_⟩ q1⟩
    obtain ⟨rfl, c, hc, rfl⟩ := y
    exact ⟨F, .str ⟨#[c]⟩, m, .refl, by simp [signsD, hc], rfl⟩
  · exact q1.elim

/-! ### for, while -/
def sFor (wi : DI) (g : DG) (tb : DS) : DS := fun Dd ρ M => wi ρ M fun xs P M1 => ∃ W : Nat → DEnv → Mp → Prop, W 0 ρ M1 ∧ (∀ i ρ M, i ≤ xs.length → W i ρ M → P M) ∧
  (∀ i x ρ M, xs[i]? = some x → W i ρ M → g x ρ M fun ρ1 M1 => tb { Dd with nx := W (i + 1), ct := W (i + 1), bk := Dd.nx } ρ1 M1) ∧ ∀ ρ M, W xs.length ρ M → Dd.nx ρ M
theorem ts_for {wi : TI} {g : TG} {tb : TS} {di : DI} {dg : DG} {ds : DS} (hi : TrI wi di) (hg : TrG g dg) (hb : TrS tb ds) : TrS (tFor wi g tb) (sFor di dg ds) := by
  intro ρ M σ H F Dd De er m q r
  refine hi ρ M σ H F _ _ er m q fun xs P J M1 H1 F1 m1 e1 wk q1 => ?_
  obtain ⟨W, w0, wP, wt, we⟩ := q1
  obtain ⟨G, Y, wJ, hG, hY⟩ := wk
  refine for_it wJ (fun i σ H => ∃ ρ M F, EnvR F ρ σ ∧ Mem M H F ∧ Ext M1 H1 F1 M H F ∧ W i ρ M) ⟨ρ, M1, F1, er.mono e1.fs, m1, .refl, w0⟩ (fun i σ H hi ⟨ρ, M, F, er, m, e, w⟩ => hG M H F m e.fs (wP i ρ M hi w)) (fun i x σ H H' hi ⟨ρ, M, F, er, m, e, w⟩ y => ?_) fun σ H ⟨ρ, M, F, er, m, e, w⟩ => r.nx _ _ _ _ _ er m (e1.trans e) (we ρ M w)
  obtain ⟨F', d, m', e', hd, rd⟩ := hY i x H H' M F hi m e.fs (wP i ρ M (Nat.le_of_lt hi) w) y
  refine hg d x ρ M σ H' F' _ _ (er.mono e'.fs) m' rd (wt i d ρ M hd w) fun ρ2 M2 σ2 H2 F2 er2 m2 e2 q2 => ?_
  have ee := e.trans (e'.trans e2)
  refine hb ρ2 M2 σ2 H2 F2 _ _ er2 m2 q2 ⟨fun ρ3 M3 σ3 H3 F3 er3 m3 e3 q3 => ⟨ρ3, M3, F3, er3, m3, ee.trans e3, q3⟩, fun d v M3 H3 F3 m3 e3 r3 q3 => r.rt _ _ _ _ _ m3 (e1.trans (ee.trans e3)) r3 q3, fun ρ3 M3 σ3 H3 F3 er3 m3 e3 q3 => r.nx _ _ _ _ _ er3 m3 (e1.trans (ee.trans e3)) q3, fun ρ3 M3 σ3 H3 F3 er3 m3 e3 q3 => ⟨ρ3, M3, F3, er3, m3, ee.trans e3, q3⟩⟩
def sWhile (c : DT) (tb : DS) : DS := fun Dd ρ M => ∃ W : Nat → DEnv → Mp → Prop, (∃ n, W n ρ M) ∧ ∀ n ρ M, W n ρ M → c ρ M fun b M1 => if b = true then tb { Dd with nx := fun ρ' M' => ∃ n', n' < n ∧ W n' ρ' M', ct := fun ρ' M' => ∃ n', n' < n ∧ W n' ρ' M', bk := Dd.nx } ρ M1 else Dd.nx ρ M1
theorem ts_while {tc : TT} {tb : TS} {c : DT} {ds : DS} (hc : TrT tc c) (hb : TrS tb ds) : TrS (tWhile tc tb) (sWhile c ds) := by
  intro ρ M σ H F Dd De er m q r
  obtain ⟨W, ⟨n0, w0⟩, wt⟩ := q
  refine ⟨fun n σ' H' => ∃ ρ' M' F', EnvR F' ρ' σ' ∧ Mem M' H' F' ∧ Ext M H F M' H' F' ∧ W n ρ' M', ⟨n0, ρ, M, F, er, m, .refl, w0⟩, fun n σ' H' ⟨ρ', M', F', er', m', e', w'⟩ => ?_⟩
  refine hc ρ' M' σ' H' F' _ _ er' m' (wt n ρ' M' w') fun b M1 H1 F1 m1 e1 q1 => ?_
  cases b with
  | false => exact r.nx _ _ _ _ _ (er'.mono e1.fs) m1 (e'.trans e1) q1
  | true =>
    rw [if_pos rfl] at q1 ⊢
    refine ⟨fun σ2 H2 => ∃ n', n' < n ∧ ∃ ρ2 M2 F2, EnvR F2 ρ2 σ2 ∧ Mem M2 H2 F2 ∧ Ext M H F M2 H2 F2 ∧ W n' ρ2 M2, fun σ2 H2 z => z, ?_⟩
    have ee := e'.trans e1
    refine hb ρ' M1 σ' H1 F1 _ _ (er'.mono e1.fs) m1 q1 ⟨fun ρ3 M3 σ3 H3 F3 er3 m3 e3 q3 => ?_, fun d v M3 H3 F3 m3 e3 r3 q3 => r.rt _ _ _ _ _ m3 (ee.trans e3) r3 q3, fun ρ3 M3 σ3 H3 F3 er3 m3 e3 q3 => r.nx _ _ _ _ _ er3 m3 (ee.trans e3) q3, fun ρ3 M3 σ3 H3 F3 er3 m3 e3 q3 => ?_⟩
    · obtain ⟨n', l, w⟩ := q3
      exact ⟨n', l, ρ3, M3, F3, er3, m3, ee.trans e3, w⟩
    · obtain ⟨n', l, w⟩ := q3
      exact ⟨n', l, ρ3, M3, F3, er3, m3, ee.trans e3, w⟩

/-! ### comprehensions -/
theorem wipe_get {σ : L2.St} {j : Nat} : ∀ {vs : List Nat}, (wipe σ vs)[j]? = if j ∈ vs ∧ j < σ.length then some none else σ[j]?
  | [] => by simp [wipe]
  | v :: vs => by
    unfold wipe
    by_cases h : v = j
    · subst h
      by_cases hl : v < σ.length
      · rw [List.getElem?_set_self (by rw [wipe_length]; exact hl)]; simp [hl]
      · rw [List.getElem?_eq_none (by rw [List.length_set, wipe_length]; omega)]; simp [hl]
    · rw [List.getElem?_set_ne h, wipe_get (vs := vs)]
      have : j ≠ v := fun e => h e.symm
      simp [this]
theorem wipe_set {σ : L2.St} {i : Nat} {x : Option V} {vs : List Nat} (h : i ∈ vs) : wipe (σ.set i x) vs = wipe σ vs := by
  apply List.ext_getElem?
  intro j
  rw [wipe_get, wipe_get, List.length_set]
  by_cases hj : j ∈ vs ∧ j < σ.length
  · rw [if_pos hj, if_pos hj]
  · rw [if_neg hj, if_neg hj]
    by_cases e : i = j
    · subst e
      have hl : ¬ i < σ.length := fun z => hj ⟨h, z⟩
      rw [List.getElem?_eq_none (by rw [List.length_set]; omega), List.getElem?_eq_none (by omega)]
    · rw [List.getElem?_set_ne e]
theorem wipe_wipe {σ : L2.St} {vs : List Nat} : wipe (wipe σ vs) vs = wipe σ vs := by
  apply List.ext_getElem?
  intro j
  rw [wipe_get, wipe_length, wipe_get]
  split
  · rfl
  · rfl
def wipeD (ρ : DEnv) : List Nat → DEnv
  | [] => ρ
  | v :: vs => (wipeD ρ vs).set v none
theorem EnvR.wipe {F : Hp} {ρ : DEnv} {σ : L2.St} (h : EnvR F ρ σ) : ∀ vs, EnvR F (wipeD ρ vs) (L2.wipe σ vs)
  | [] => h
  | v :: vs => by
    have ih := EnvR.wipe h vs
    refine ⟨by unfold wipeD L2.wipe; rw [List.length_set, List.length_set, ih.len], fun j d q => ?_⟩
    unfold wipeD at q
    unfold L2.wipe
    by_cases e : v = j
    · subst e
      by_cases hl : v < (wipeD ρ vs).length
      · rw [List.getElem?_set_self hl] at q; cases q
      · rw [List.getElem?_eq_none (by rw [List.length_set]; omega)] at q; cases q
    · rw [List.getElem?_set_ne e] at q ⊢
      exact ih.at_ j d q
/-- a comprehension's target -/
def TrC (vs : List Nat) (g : TG) (w : DG) : Prop := ∀ (d : D) (v : V) (ρ : DEnv) (M : Mp) (σ : L2.St) (H F : Hp) (Q : DEnv → Mp → Prop) (Qs : L2.St → Hp → Prop), EnvR F ρ σ → Mem M H F → Rp F d v → w d ρ M Q →
  (∀ ρ' M' σ' H' F', EnvR F' ρ' σ' → Mem M' H' F' → Ext M H F M' H' F' → wipe σ' vs = wipe σ vs → Q ρ' M' → Qs σ' H') → g v σ H Qs
theorem tc_name {vs : List Nat} {i : Nat} (h : i ∈ vs) : TrC vs (gName i) (dName i) := fun d v ρ M σ H F Q Qs er m r q f => f _ _ _ _ _ (er.set i r) m .refl (wipe_set h) q
def TrCs (vs : List Nat) (g : TGs) (w : DGs) : Prop := ∀ (ds : List D) (us : List V) (ρ : DEnv) (M : Mp) (σ : L2.St) (H F : Hp) (Q : DEnv → Mp → Prop) (Qs : L2.St → Hp → Prop), EnvR F ρ σ → Mem M H F → RpL F ds us → w ds ρ M Q →
  (∀ ρ' M' σ' H' F', EnvR F' ρ' σ' → Mem M' H' F' → Ext M H F M' H' F' → wipe σ' vs = wipe σ vs → Q ρ' M' → Qs σ' H') → g us σ H Qs
theorem tcs_nil {vs : List Nat} : TrCs vs gNil dNil := by
  intro ds us ρ M σ H F Q Qs er m r q f
  unfold dNil at q
  split at q
  · cases r; exact ⟨rfl, f _ _ _ _ _ er m .refl rfl q⟩
  · exact q.elim
theorem tcs_cons {vs : List Nat} {g : TG} {r : TGs} {w : DG} {u : DGs} (hg : TrC vs g w) (hr : TrCs vs r u) : TrCs vs (gCons g r) (dCons w u) := by
  intro ds us ρ M σ H F Q Qs er m r q f
  unfold dCons at q
  split at q
  · obtain ⟨v, vr, rfl, h1, h2⟩ := r
    refine ⟨v, vr, rfl, hg _ v ρ M σ H F _ _ er m h1 q fun ρ1 M1 σ1 H1 F1 er1 m1 e1 z1 q1 => ?_⟩
    exact hr _ vr ρ1 M1 σ1 H1 F1 _ _ er1 m1 (RpL.mono e1.fs _ _ h2) q1 fun a b c d e f1 f2 f3 z2 f4 => f a b c d e f1 f2 (e1.trans f3) (z2.trans z1) f4
  · exact q.elim
theorem tc_tup {K : PySem.W.Frag} {vs : List Nat} {n : Nat} {g : TGs} {w : DGs} (h : TrCs vs g w) : TrC vs (gTup K n g) (dTup n w) := by
  intro d v ρ M σ H F Q Qs er m r q f
  unfold dTup at q
  split at q
  · obtain ⟨a, us, rfl, ha, ra⟩ := r
    exact ⟨a, us, rfl, .of (m.same _ _ ha), by rw [ra.length]; exact q.1, h _ us ρ M σ H F Q Qs er m ra q.2 f⟩
  · exact q.elim
def tYesD : DT := fun _ M Q => Q true M
theorem tt_yes : TrT tYes tYesD := fun ρ M σ H F Q Qv er m q f => f _ _ _ _ m .refl q
/-- dark changes: of a thing that is neither frozen nor in the table -/
theorem Mem.dark {M : Mp} {H F : Hp} (m : Mem M H F) {p : Addr} (hf : F p = none) (hm : M p = none) (o : HO) : Mem M (L2.upd H p o) F :=
  ⟨same_upd2 m.same hf, fun a q e => by
    obtain ⟨h1, x, h2, h3⟩ := m.mem a q e
    exact ⟨h1, x, by rw [upd_ne (fun z => by subst z; rw [hm] at e; cases e)]; exact h2, h3⟩⟩
theorem Ext.dark {M1 M : Mp} {H1 F1 H F : Hp} (e : Ext M1 H1 F1 M H F) {p : Addr} (h : H1 p = none) (o : HO) : Ext M1 H1 F1 M (L2.upd H p o) F :=
  ⟨e.fs, fun a x k z => by rw [upd_ne (ne_of_none k h)]; exact e.keep a x k z, e.new, e.fnew⟩
theorem Ext.still {M M' : Mp} {H F H' F' : Hp} (e : Ext M H F M' H' F') {p : Addr} {o : HO} (h : H p = some o) (hf : F p = none) (hm : M p = none) (nt : ∀ xs, o ≠ .tup xs := by nofun) : H' p = some o ∧ F' p = none ∧ M' p = none := by
  refine ⟨e.keep p o h hm, ?_, ?_⟩
  · cases q : F' p with
    | none => rfl
    | some x =>
      rcases e.fnew p (by rw [q]; exact fun z => nomatch z) with z | z | z | ⟨xs, z⟩
      · exact absurd hf z
      · exact absurd hm z
      · rw [h] at z; cases z
      · rw [h] at z; cases z; exact absurd rfl (nt xs)
  · cases q : M' p with
    | none => rfl
    | some x =>
      rcases e.new p (by rw [q]; exact fun z => nomatch z) with z | z
      · exact absurd hm z
      · rw [h] at z; cases z
/-- a dark list comes to light -/
theorem adopt {md : Md} {xs : List D} {vs : List V} {Q : DK} {Qv : VK} {M0 M : Mp} {H0 F0 H F : Hp} {p : Addr} (m : Mem M H F) (e : Ext M0 H0 F0 M H F) (h0 : H0 p = none) (hp : H p = some (.lst vs)) (hf : F p = none) (hm : M p = none) (r : RpL F xs vs) (h : wNew md xs M Q) (f : Fin Q Qv M0 H0 F0) : Qv (.ref p) H := by
  cases md with
  | frz =>
    refine f (.lst xs) _ M H (L2.upd F p (.lst vs)) ⟨fun b x q => ?_, fun a q w => ?_⟩ ⟨e.fs.trans (same_upd hf), e.keep, e.new, fun a w => ?_⟩ ⟨p, vs, rfl, upd_same, RpL.mono (same_upd hf) _ _ r⟩ h
    · by_cases hb : b = p
      · subst hb; rw [upd_same] at q; cases q; exact hp
      · rw [upd_ne hb] at q; exact m.same b x q
    · obtain ⟨h1, x, h2, h3⟩ := m.mem a q w
      have ne : a ≠ p := fun z => by subst z; rw [hm] at w; cases w
      exact ⟨by rw [upd_ne ne]; exact h1, x, h2, h3.mono (same_upd hf)⟩
    · by_cases ha : a = p
      · subst ha; exact .inr (.inr (.inl h0))
      · rw [upd_ne ha] at w; exact e.fnew a w
  | own =>
    refine f (.ref p) _ (M.set p (.lst xs)) H F ⟨m.same, fun a q w => ?_⟩ ⟨e.fs, e.keep, fun a w => ?_, e.fnew⟩ rfl (h p hm)
    · by_cases ha : a = p
      · subst ha; rw [Mp.set_same] at w; cases w; exact ⟨hf, _, hp, vs, rfl, r⟩
      · rw [Mp.set_ne ha] at w; exact m.mem a q w
    · by_cases ha : a = p
      · subst ha; exact .inr h0
      · rw [Mp.set_ne ha] at w; exact e.new a w
def wLc (md : Md) (wi : DI) (g : DG) (tt : DT) (te : DE) (vs : List Nat) : DE := fun ρ M Q => wi ρ M fun xs P M1 => Sz xs.length ∧ ∃ W : Nat → List D → Mp → Prop, W 0 [] M1 ∧ (∀ i acc M, i ≤ xs.length → W i acc M → P M) ∧
  (∀ i x acc M, xs[i]? = some x → W i acc M → g x (wipeD ρ vs) M fun ρ2 M2 => tt ρ2 M2 fun b M3 => if b = true then te ρ2 M3 fun y M4 => W (i + 1) (acc ++ [y]) M4 else W (i + 1) acc M3) ∧ ∀ acc M, W xs.length acc M → wNew md acc M Q
theorem tr_lc {md : Md} {wi : TI} {g : TG} {tt : TT} {te : TE} {vs : List Nat} {di : DI} {dg : DG} {dt : DT} {de : DE} (hi : TrI wi di) (hg : TrC vs g dg) (ht : TrT tt dt) (he : Tr te de) : Tr (tLc wi g tt te vs) (wLc md di dg dt de vs) := by
  intro ρ M σ H F Q Qv er m q f
  refine hi ρ M σ H F _ _ er m q fun xs P J M1 H1 F1 m1 e1 wk q1 D hD => ?_
  obtain ⟨hz, W, w0, wP, wt, we⟩ := q1
  obtain ⟨G, Y, wJ, hG, hY⟩ := wk
  obtain ⟨f1, mm1⟩ := m1.fresh hD
  have erw := (er.mono e1.fs).wipe vs
  refine lc_it wJ (fun i H => ∃ acc av M F, acc.length ≤ i ∧ Mem M H F ∧ Ext M1 H1 F1 M H F ∧ H D = some (.lst av) ∧ F D = none ∧ M D = none ∧ RpL F acc av ∧ W i acc M) ⟨[], [], M1, F1, Nat.le_refl _, m1.dark f1 mm1 _, Ext.refl.dark hD _, upd_same, f1, mm1, rfl, w0⟩
    (fun i H hi ⟨acc, av, M, F, l, m, e, h1, h2, h3, r, w⟩ => hG M H F m e.fs (wP i acc M hi w)) (fun i x H H' hi ⟨acc, av, M, F, l, m, e, h1, h2, h3, r, w⟩ y => ?_)
    fun H ⟨acc, av, M, F, l, m, e, h1, h2, h3, r, w⟩ => adopt m e hD h1 h2 h3 r (we acc M w) (f.ext e1)
  obtain ⟨F', d, m', e', hd, rd⟩ := hY i x H H' M F hi m e.fs (wP i acc M (Nat.le_of_lt hi) w) y
  refine hg d x (wipeD ρ vs) M (wipe σ vs) H' F' _ _ (erw.mono (e.trans e').fs) m' rd (wt i d acc M hd w) fun ρ2 M2 σ2 H2 F2 er2 m2 e2 z2 q2 => ⟨z2.trans wipe_wipe, ?_⟩
  refine ht ρ2 M2 σ2 H2 F2 _ _ er2 m2 q2 fun b M3 H3 F3 m3 e3 q3 => ?_
  have k1 := e'.still h1 h2 h3
  have k2 := e2.still k1.1 k1.2.1 k1.2.2
  have k3 := e3.still k2.1 k2.2.1 k2.2.2
  have ee := e.trans (e'.trans (e2.trans e3))
  cases b with
  | false => exact ⟨acc, av, M3, F3, by omega, m3, ee, k3.1, k3.2.1, k3.2.2, RpL.mono (e'.trans (e2.trans e3)).fs _ _ r, q3⟩
  | true =>
    refine he ρ2 M3 σ2 H3 F3 _ _ (er2.mono e3.fs) m3 q3 fun yd yv M4 H4 F4 m4 e4 r4 q4 => ?_
    have k4 := e4.still k3.1 k3.2.1 k3.2.2
    refine ⟨av, k4.1, by rw [r.length, sizeLine_eq]; unfold Sz at hz; omega, acc ++ [yd], av ++ [yv], M4, F4, by simp; omega, m4.dark k4.2.1 k4.2.2 _, (ee.trans e4).dark hD _, upd_same, k4.2.1, k4.2.2, (RpL.mono (e'.trans (e2.trans (e3.trans e4))).fs _ _ r).append (RpL.one r4), q4⟩


/-! ### calls of built-ins -/
abbrev DC := List D → Mp → DK → Prop
def CallT (r : List V → Hp → VK → Prop) (w : DC) : Prop := ∀ (M : Mp) (H F : Hp) (ds : List D) (vs : List V) (Q : DK) (Qv : VK), Mem M H F → RpL F ds vs → w ds M Q → Fin Q Qv M H F → r vs H Qv
def wCB (w : DC) (a : DA) : DE := fun ρ M Q => a ρ M fun ds M1 => w ds M1 Q
theorem tr_cb {r : List V → Hp → VK → Prop} {w : DC} {t : TA} {a : DA} (hc : CallT r w) (ha : TrA t a) : Tr (tCB r t) (wCB w a) := by
  intro ρ M σ H F Q Qv er m q f
  refine ha ρ M σ H F _ _ er m q fun ds vs M1 H1 F1 m1 e1 r1 q1 => ?_
  exact hc M1 H1 F1 ds vs Q Qv m1 r1 q1 (f.ext e1)
theorem rp1 {F : Hp} {d : D} {vs : List V} (r : RpL F [d] vs) : ∃ v, vs = [v] ∧ Rp F d v := by
  obtain ⟨v, w, rfl, h1, h2⟩ := r
  cases h2
  exact ⟨v, rfl, h1⟩
theorem rp2 {F : Hp} {d e : D} {vs : List V} (r : RpL F [d, e] vs) : ∃ v w, vs = [v, w] ∧ Rp F d v ∧ Rp F e w := by
  obtain ⟨v, r1, rfl, h1, w, r2, rfl, h2, h3⟩ := r
  cases h3
  exact ⟨v, w, rfl, h1, h2⟩
/-- len -/
def rLenA (K : PySem.W.Frag) : List V → Hp → VK → Prop := fun xs H Q => (∃ x n, xs = [x] ∧ LenV K x H n ∧ Q (.int n) H) ∨ ∃ a kvs, xs = [.ref a] ∧ H a = some (.dK kvs) ∧ Q (.int (kvs.length : Nat)) H
theorem call_lenA {X : Cx} : CallR X (.builtin "len") (rLenA X.K) := by
  refine CallR.or call_len ?_
  intro pins s σ H xs us Q I r h
  obtain ⟨a, kvs, rfl, hd, q⟩ := h
  exact call_lenD pins s σ H _ us Q I r ⟨a, kvs, rfl, hd, q⟩
def cLen (K : PySem.W.Frag) : DC := fun ds M Q => match ds with
  | [x] => match nrm M x with
    | .lst xs => Q (.int xs.length) M
    | .tup xs => Q (.int xs.length) M
    | .str z => Sz z.length ∧ Q (.int z.length) M
    | .dct ks _ => Q (.int ks.length) M
    | .scr K' xs => K' = K ∧ Q (.int xs.length) M
    | _ => False
  | _ => False
theorem ct_len {K : PySem.W.Frag} : CallT (rLenA K) (cLen K) := by
  intro M H F ds vs Q Qv m r q f
  unfold cLen at q
  split at q
  · obtain ⟨v, rfl, h1⟩ := rp1 r
    have vw := m.view h1
    split at q
    · rename_i x xs e
      rw [e] at vw
      obtain ⟨a, ws, rfl, ha, ra⟩ := vw
      exact .inl ⟨_, xs.length, rfl, .inl ⟨ws, .of ha, ra.length.symm⟩, f.here (d := .int _) m rfl q⟩
    · rename_i x xs e
      rw [e] at vw
      obtain ⟨a, ws, rfl, ha, ra⟩ := vw
      exact .inl ⟨_, xs.length, rfl, .inr ⟨ws, .of ha, ra.length.symm⟩, f.here (d := .int _) m rfl q⟩
    · rename_i x z e
      rw [e] at vw
      cases vw
      exact .inl ⟨_, z.length, rfl, ⟨q.1.line, rfl⟩, f.here (d := .int _) m rfl q.2⟩
    · rename_i x ks xs e
      rw [e] at vw
      obtain ⟨a, kvs, rfl, ha, hk, ra⟩ := vw
      exact .inr ⟨a, kvs, rfl, ha, f.here (d := .int _) m (by rw [← hk, List.length_map]; rfl) q⟩
    · rename_i x K' xs e
      rw [e] at vw
      obtain ⟨a, ws, rfl, ha, ra⟩ := vw
      obtain ⟨rfl, q⟩ := q
      exact .inl ⟨_, xs.length, rfl, .inl ⟨ws, ha, ra.length.symm⟩, f.here (d := .int _) m rfl q⟩
    · exact q.elim
  · exact q.elim
/-- all, any of a list of truth values -/
def bools : List D → Option (List Bool)
  | [] => some []
  | .bl b :: r => (bools r).map (b :: ·)
  | _ => none
theorem bools_eq : ∀ {xs : List D} {bs : List Bool}, bools xs = some bs → xs = bs.map D.bl
  | [], bs, h => by simp [bools] at h; subst h; rfl
  | x :: xs, bs, h => by
    cases x with
    | bl b =>
      simp only [bools, Option.map_eq_some_iff] at h
      obtain ⟨r, h1, rfl⟩ := h
      rw [bools_eq h1]; rfl
    | _ => simp [bools] at h
theorem bools_map {bs : List Bool} : bools (bs.map D.bl) = some bs := by
  induction bs with
  | nil => rfl
  | cons b r ih => simp [bools, ih]
def cAll (g : List Bool → Bool) : DC := fun ds M Q => match ds with
  | [x] => match nrm M x with
    | .lst xs => match bools xs with
      | some bs => Q (.bl (g bs)) M
      | none => False
    | _ => False
  | _ => False
theorem ct_allg {K : PySem.W.Frag} {g : List Bool → Bool} : CallT (fun vs H Q => ∃ (a : Addr) (bs : List Bool), vs = [V.ref a] ∧ SqL K H a (bs.map V.bl) ∧ Q (.bl (g bs)) H) (cAll g) := by
  intro M H F ds vs Q Qv m r q f
  unfold cAll at q
  split at q
  · obtain ⟨v, rfl, h1⟩ := rp1 r
    have vw := m.view h1
    split at q
    · rename_i x xs e
      rw [e] at vw
      obtain ⟨a, ws, rfl, ha, ra⟩ := vw
      split at q
      · rename_i bs eb
        have e2 := bools_eq eb
        subst e2
        rw [ra.bls] at ha
        exact ⟨a, bs, rfl, .of ha, f.here (d := .bl _) m rfl q⟩
      · exact q.elim
    · exact q.elim
  · exact q.elim
theorem ct_all {K : PySem.W.Frag} : CallT (rAll K) (cAll fun bs => bs.all id) := ct_allg
theorem ct_any {K : PySem.W.Frag} : CallT (rAny K) (cAll fun bs => bs.any id) := ct_allg
/-- lists of intsD -/
def intsD : List D → Option (List Int)
  | [] => some []
  | .int b :: r => (intsD r).map (b :: ·)
  | _ => none
theorem ints_eq : ∀ {xs : List D} {bs : List Int}, intsD xs = some bs → xs = bs.map D.int
  | [], bs, h => by simp [intsD] at h; subst h; rfl
  | x :: xs, bs, h => by
    cases x with
    | int b =>
      simp only [intsD, Option.map_eq_some_iff] at h
      obtain ⟨r, h1, rfl⟩ := h
      rw [ints_eq h1]; rfl
    | _ => simp [intsD] at h
theorem ints_map {bs : List Int} : intsD (bs.map D.int) = some bs := by
  induction bs with
  | nil => rfl
  | cons b r ih => simp [intsD, ih]
/-- sum -/
def cSum : DC := fun ds M Q => match ds with
  | [x] => match nrm M x with
    | .lst xs => match intsD xs with
      | some ns => Q (.int ns.sum) M
      | none => False
    | _ => False
  | _ => False
theorem ct_sum {K : PySem.W.Frag} : CallT (rSum K) cSum := by
  intro M H F ds vs Q Qv m r q f
  unfold cSum at q
  split at q
  · obtain ⟨v, rfl, h1⟩ := rp1 r
    have vw := m.view h1
    split at q
    · rename_i x xs e
      rw [e] at vw
      obtain ⟨a, ws, rfl, ha, ra⟩ := vw
      split at q
      · rename_i bs eb
        have e2 := ints_eq eb
        subst e2
        rw [ra.ints] at ha
        exact ⟨a, bs, rfl, .of ha, f.here (d := .int _) m rfl q⟩
      · exact q.elim
    · exact q.elim
  · exact q.elim
/-- max, min of two intsD; of a list of intsD -/
def rMaxA (K : PySem.W.Frag) : List V → Hp → VK → Prop := fun xs H Q => (∃ i j, xs = [.int i, .int j] ∧ Q (.int (if j > i then j else i)) H) ∨ rMax K xs H Q
def rMinA (K : PySem.W.Frag) : List V → Hp → VK → Prop := fun xs H Q => (∃ i j, xs = [.int i, .int j] ∧ Q (.int (if j < i then j else i)) H) ∨ rMin K xs H Q
theorem call_maxA {X : Cx} (hc : X.calm = true) : CallR X (.builtin "max") (rMaxA X.K) := CallR.or (call_max2 hc) (cr_max hc)
theorem call_minA {X : Cx} (hc : X.calm = true) : CallR X (.builtin "min") (rMinA X.K) := CallR.or (call_min2 hc) (cr_min hc)
def cMax : DC := fun ds M Q => match ds with
  | [.int i, .int j] => Q (.int (max i j)) M
  | [x] => match nrm M x with
    | .lst xs => match intsD xs with
      | some ns => ns ≠ [] ∧ ∀ k, k ∈ ns → (∀ y, y ∈ ns → y ≤ k) → Q (.int k) M
      | none => False
    | _ => False
  | _ => False
def cMin : DC := fun ds M Q => match ds with
  | [.int i, .int j] => Q (.int (min i j)) M
  | [x] => match nrm M x with
    | .lst xs => match intsD xs with
      | some ns => ns ≠ [] ∧ ∀ k, k ∈ ns → (∀ y, y ∈ ns → k ≤ y) → Q (.int k) M
      | none => False
    | _ => False
  | _ => False
theorem ct_max {K : PySem.W.Frag} : CallT (rMaxA K) cMax := by
  intro M H F ds vs Q Qv m r q f
  unfold cMax at q
  split at q
  · rename_i i j
    obtain ⟨v, w, rfl, h1, h2⟩ := rp2 r
    cases h1; cases h2
    refine .inl ⟨i, j, rfl, f.here (d := .int (max i j)) m ?_ q⟩
    show V.int _ = V.int _
    congr 1
    split <;> omega
  · obtain ⟨v, rfl, h1⟩ := rp1 r
    have vw := m.view h1
    split at q
    · rename_i x _ xs e
      rw [e] at vw
      obtain ⟨a, ws, rfl, ha, ra⟩ := vw
      split at q
      · rename_i bs eb
        have e2 := ints_eq eb
        subst e2
        rw [ra.ints] at ha
        exact .inr ⟨a, bs, rfl, .of ha, List.length_pos_iff.mpr q.1, fun k hk hy => f.here (d := .int k) m rfl (q.2 k hk hy)⟩
      · exact q.elim
    · exact q.elim
  · exact q.elim
theorem ct_min {K : PySem.W.Frag} : CallT (rMinA K) cMin := by
  intro M H F ds vs Q Qv m r q f
  unfold cMin at q
  split at q
  · rename_i i j
    obtain ⟨v, w, rfl, h1, h2⟩ := rp2 r
    cases h1; cases h2
    refine .inl ⟨i, j, rfl, f.here (d := .int (min i j)) m ?_ q⟩
    show V.int _ = V.int _
    congr 1
    split <;> omega
  · obtain ⟨v, rfl, h1⟩ := rp1 r
    have vw := m.view h1
    split at q
    · rename_i x _ xs e
      rw [e] at vw
      obtain ⟨a, ws, rfl, ha, ra⟩ := vw
      split at q
      · rename_i bs eb
        have e2 := ints_eq eb
        subst e2
        rw [ra.ints] at ha
        exact .inr ⟨a, bs, rfl, .of ha, List.length_pos_iff.mpr q.1, fun k hk hy => f.here (d := .int k) m rfl (q.2 k hk hy)⟩
      · exact q.elim
    · exact q.elim
  · exact q.elim
/-- sorted(intsD) -/
def cSorted (md : Md) : DC := fun ds M Q => match ds with
  | [x] => match nrm M x with
    | .lst xs => match intsD xs with
      | some ns => ∀ ns' : List Int, ns'.Perm ns → ns'.Pairwise (· ≤ ·) → wNew md (ns'.map D.int) M Q
      | none => False
    | _ => False
  | _ => False
theorem ct_sorted {K : PySem.W.Frag} {md : Md} : CallT (rSortedI K) (cSorted md) := by
  intro M H F ds vs Q Qv m r q f
  unfold cSorted at q
  split at q
  · obtain ⟨v, rfl, h1⟩ := rp1 r
    have vw := m.view h1
    split at q
    · rename_i x xs e
      rw [e] at vw
      obtain ⟨a, ws, rfl, ha, ra⟩ := vw
      split at q
      · rename_i bs eb
        have e2 := ints_eq eb
        subst e2
        rw [ra.ints] at ha
        exact ⟨a, bs, rfl, .of ha, fun ns' p h1 h2 hp => new_lst m RpL.of_ints (q ns' h1 h2) f p hp⟩
      · exact q.elim
    · exact q.elim
  · exact q.elim
/-- int(..) -/
def cInt : DC := fun ds M Q => match ds with
  | [.int i] => Q (.int i) M
  | [.bl b] => Q (.int (if b then 1 else 0)) M
  | _ => False
theorem ct_int : CallT (fun xs H Q => (∃ i, xs = [V.int i] ∧ Q (.int i) H) ∨ ∃ k, xs = [V.bl k] ∧ Q (.int (if k then 1 else 0)) H) cInt := by
  intro M H F ds vs Q Qv m r q f
  unfold cInt at q
  split at q
  · obtain ⟨v, rfl, h1⟩ := rp1 r
    cases h1
    exact .inl ⟨_, rfl, f.here (d := .int _) m rfl q⟩
  · obtain ⟨v, rfl, h1⟩ := rp1 r
    cases h1
    exact .inr ⟨_, rfl, f.here (d := .int _) m rfl q⟩
  · exact q.elim
/-- list(list), list(tuple) -/
def cList (md : Md) : DC := fun ds M Q => match ds with
  | [x] => match nrm M x with
    | .lst xs => wNew md xs M Q
    | .tup xs => wNew md xs M Q
    | _ => False
  | _ => False
theorem ct_list {K : PySem.W.Frag} {md : Md} : CallT (fun xs H Q => ∃ p ys, xs = [V.ref p] ∧ (SqL K H p ys ∨ SqT K H p ys) ∧ ∀ l, H l = none → Q (.ref l) (L2.upd H l (.lst ys))) (cList md) := by
  intro M H F ds vs Q Qv m r q f
  unfold cList at q
  split at q
  · obtain ⟨v, rfl, h1⟩ := rp1 r
    have vw := m.view h1
    split at q
    · rename_i x xs e
      rw [e] at vw
      obtain ⟨a, ws, rfl, ha, ra⟩ := vw
      exact ⟨a, ws, rfl, .inl (.of ha), new_lst m ra q f⟩
    · rename_i x xs e
      rw [e] at vw
      obtain ⟨a, ws, rfl, ha, ra⟩ := vw
      exact ⟨a, ws, rfl, .inr (.of ha), new_lst m ra q f⟩
    · exact q.elim
  · exact q.elim
/-- tuple(list), tuple(tuple) -/
def cTuple : DC := fun ds M Q => match ds with
  | [x] => match nrm M x with
    | .lst xs => Q (.tup xs) M
    | .tup xs => Q (.tup xs) M
    | _ => False
  | _ => False
theorem nrm_tup {M : Mp} {x : D} {xs : List D} (h : nrm M x = .tup xs) : x = .tup xs := by
  cases x with
  | ref a =>
    have h : nrmA M a = .tup xs := h
    unfold nrmA at h
    split at h <;> cases h
  | _ => exact h
theorem ct_tuple {K : PySem.W.Frag} : CallT (fun xs H Q => ∃ p ys, xs = [V.ref p] ∧ ((SqL K H p ys ∧ ∀ l, H l = none → Q (.ref l) (L2.upd H l (.tup ys))) ∨ (SqT K H p ys ∧ Q (.ref p) H))) cTuple := by
  intro M H F ds vs Q Qv m r q f
  unfold cTuple at q
  split at q
  · obtain ⟨v, rfl, h1⟩ := rp1 r
    have vw := m.view h1
    split at q
    · rename_i x xs e
      rw [e] at vw
      obtain ⟨a, ws, rfl, ha, ra⟩ := vw
      exact ⟨a, ws, rfl, .inl ⟨.of ha, new_tup m ra q f⟩⟩
    · rename_i x xs e
      rw [nrm_tup e] at h1
      rw [e] at vw
      obtain ⟨a, ws, rfl, ha, ra⟩ := vw
      exact ⟨a, ws, rfl, .inr ⟨.of ha, f.here m h1 q⟩⟩
    · exact q.elim
  · exact q.elim
/-- isinstance(x, T), isinstance(x, (T1, T2)) with built-in classes -/
def tyN : D → Option String
  | .non => some "NoneType"
  | .bl _ => some "bool"
  | .int _ => some "int"
  | .str _ => some "str"
  | .lst _ => some "list"
  | .tup _ => some "tuple"
  | .dct _ _ => some "dict"
  | _ => none
/-- .. and is it so? -/
def isA (a b : String) : Bool := a == b || (a == "bool" && b == "int")
def okT (b : String) : Bool := b == "int" || b == "bool" || b == "str" || b == "list" || b == "tuple" || b == "dict"
theorem kit_isA {a b : String} {d : D} (h : tyN d = some a) (hb : okT b = true) : kitB a b = some (isA a b) := by
  have hb' : b = "int" ∨ b = "bool" ∨ b = "str" ∨ b = "list" ∨ b = "tuple" ∨ b = "dict" := by
    simp only [okT, Bool.or_eq_true, beq_iff_eq] at hb
    rcases hb with ((((h | h) | h) | h) | h) | h <;> simp [h]
  cases d with
  | ref _ => simp [tyN] at h
  | ty _ => simp [tyN] at h
  | scr _ _ => simp [tyN] at h
  | non => simp only [tyN, Option.some.injEq] at h; subst h; rcases hb' with rfl | rfl | rfl | rfl | rfl | rfl <;> decide +kernel
  | bl _ => simp only [tyN, Option.some.injEq] at h; subst h; rcases hb' with rfl | rfl | rfl | rfl | rfl | rfl <;> decide +kernel
  | int _ => simp only [tyN, Option.some.injEq] at h; subst h; rcases hb' with rfl | rfl | rfl | rfl | rfl | rfl <;> decide +kernel
  | str _ => simp only [tyN, Option.some.injEq] at h; subst h; rcases hb' with rfl | rfl | rfl | rfl | rfl | rfl <;> decide +kernel
  | lst _ => simp only [tyN, Option.some.injEq] at h; subst h; rcases hb' with rfl | rfl | rfl | rfl | rfl | rfl <;> decide +kernel
  | tup _ => simp only [tyN, Option.some.injEq] at h; subst h; rcases hb' with rfl | rfl | rfl | rfl | rfl | rfl <;> decide +kernel
  | dct _ _ => simp only [tyN, Option.some.injEq] at h; subst h; rcases hb' with rfl | rfl | rfl | rfl | rfl | rfl <;> decide +kernel
theorem vw_ty {K : PySem.W.Frag} {H F : Hp} {d : D} {v : V} {a : String} (r : Vw H F d v) (h : tyN d = some a) : TyX K H v (.type a) := by
  cases d with
  | ref _ => simp [tyN] at h
  | ty _ => simp [tyN] at h
  | scr _ _ => simp [tyN] at h
  | non => simp only [tyN, Option.some.injEq] at h; subst h; cases r; exact .base .non
  | bl _ => simp only [tyN, Option.some.injEq] at h; subst h; cases r; exact .base (.bl _)
  | int _ => simp only [tyN, Option.some.injEq] at h; subst h; cases r; exact .base (.int _)
  | str _ => simp only [tyN, Option.some.injEq] at h; subst h; cases r; exact .base (.str _)
  | lst _ => simp only [tyN, Option.some.injEq] at h; subst h; obtain ⟨a, vs, rfl, ha, _⟩ := r; exact .base (.lst ha)
  | tup _ => simp only [tyN, Option.some.injEq] at h; subst h; obtain ⟨a, vs, rfl, ha, _⟩ := r; exact .base (.tup ha)
  | dct _ _ => simp only [tyN, Option.some.injEq] at h; subst h; obtain ⟨a, vs, rfl, ha, _⟩ := r; exact .base (.dK ha)
def tyNames : List D → Option (List String)
  | [] => some []
  | .ty n :: r => if okT n then (tyNames r).map (n :: ·) else none
  | _ => none
def rIsiA (K : PySem.W.Frag) : List V → Hp → VK → Prop := fun xs H Q => rIsi K xs H Q ∨ rIsiT K xs H Q
theorem call_isiA {X : Cx} : CallR X (.builtin "isinstance") (rIsiA X.K) := CallR.or call_isi call_isiT
def cIsi : DC := fun ds M Q => match ds with
  | [x, .ty n] => match tyN (nrm M x) with
    | some a => okT n = true ∧ Q (.bl (isA a n)) M
    | none => False
  | [x, .tup ts] => match tyN (nrm M x), tyNames ts with
    | some a, some ns => Q (.bl (ns.any (isA a))) M
    | _, _ => False
  | _ => False
theorem tyNames_ok {K : PySem.W.Frag} {F : Hp} {d : D} {a : String} (h : tyN d = some a) : ∀ {ts : List D} {vs : List V} {ns : List String}, RpL F ts vs → tyNames ts = some ns → ∃ us, Paired ClsV vs us ∧ PySem.W.kitAny K (.type a) us = some (ns.any (isA a))
  | [], _, ns, r, e => by
    cases r
    simp only [tyNames, Option.some.injEq] at e
    subst e
    exact ⟨[], .nil, kitAny_nil⟩
  | t :: ts, _, ns, ⟨v, r, e1, h1, h2⟩, e => by
    subst e1
    cases t with
    | ty n =>
      simp only [tyNames] at e
      split at e
      · rename_i ok
        obtain ⟨ms, e2, rfl⟩ := Option.map_eq_some_iff.mp e
        obtain ⟨us, p, k⟩ := tyNames_ok h h2 e2
        cases h1
        refine ⟨.type n :: us, .cons (.ty n) p, ?_⟩
        refine kitAny_cons (kit_ty (kit_isA h ok)) (fun z => ?_) (fun z => ?_)
        · rw [List.any_cons, z, Bool.false_or]; exact k
        · rw [List.any_cons, z, Bool.true_or]
      · cases e
    | _ => simp [tyNames] at e
theorem ct_isi {K : PySem.W.Frag} : CallT (rIsiA K) cIsi := by
  intro M H F ds vs Q Qv m r q f
  unfold cIsi at q
  split at q
  · obtain ⟨v, w, rfl, h1, h2⟩ := rp2 r
    cases h2
    split at q
    · rename_i a e
      exact .inl ⟨v, _, .type a, _, _, rfl, .ty _, vw_ty (m.view h1) e, kit_ty (kit_isA e q.1), f.here (d := .bl _) m rfl q.2⟩
    · exact q.elim
  · obtain ⟨v, w, rfl, h1, b, us, rfl, hb, rb⟩ := rp2 r
    split at q
    · rename_i a ns e1 e2
      obtain ⟨ws, p, k⟩ := tyNames_ok (K := K) e1 rb e2
      exact .inr ⟨v, b, us, .type a, ws, _, rfl, m.same _ _ hb, p, vw_ty (m.view h1) e1, k, f.here (d := .bl _) m rfl q⟩
    · exact q.elim
  · exact q.elim
/-- x.bit_length() -/
def wBits (a : DE) : DE := fun ρ M Q => a ρ M fun x M1 => match x with
  | .int i => Q (.int (Builtin.Int.intBits i : Nat)) M1
  | _ => False
theorem tr_bits {t : TE} {a : DE} (h : Tr t a) : Tr (tBits t) (wBits a) := by
  intro ρ M σ H F Q Qv er m q f
  refine h ρ M σ H F _ _ er m q fun d1 v1 M1 H1 F1 m1 e1 r1 q1 => ?_
  split at q1
  · cases r1
    exact ⟨_, rfl, f (.int _) _ _ _ _ m1 e1 rfl q1⟩
  · exact q1.elim

/-! ### list(range(..)) -/
abbrev DR := DEnv → Mp → (Int → Int → Int → Mp → Prop) → Prop
def PRgC (X : Cx) (e : Expr) (t : L2.St → Hp → (Int → Int → Int → Hp → Prop) → Prop) : Prop :=
  ∀ (pins : List (Addr × Obj)) (s : Shared) (σ : L2.St) (H : Hp) (Q : Int → Int → Int → Hp → Prop), Inv X pins σ H s → t σ H Q →
    wpAny (model X.prog X.w) X.A (eval e X.env) (fun x s' => ∃ r a b c t u v H', x = .ref r ∧ IsRange s'.heap r a b c t u v ∧ Inv X pins σ H' s' ∧ Q a b c H') X.xe s
def tRgA (ta : TA) : L2.St → Hp → (Int → Int → Int → Hp → Prop) → Prop := fun σ H Q => ta σ H fun vs H1 => (∃ j, vs = [.int j] ∧ Q 0 j 1 H1) ∨ (∃ i j, vs = [.int i, .int j] ∧ Q i j 1 H1) ∨ ∃ i j c, vs = [.int i, .int j, .int c] ∧ (c ≠ 0 ∧ c.natAbs < 1073741824) ∧ Q i j c H1
theorem prgA {X : Cx} {e : Expr} {es : List Expr} {ta : TA} {p pos : Pos} (hg : Gl X "range") (hm : X.mg "range" = none) (ha : PA X (e :: es) ta)
    (he : starEach (e :: es) X.env = (false, eval e X.env) :: starEach es X.env := by rfl) (hpl : (backTo pos (starEach es X.env)).any (·.1) = false := by rfl) : PRgC X (.Call (.Name "range" p) (e :: es) [] pos) (tRgA ta) := by
  intro pins s σ H Q I h
  refine Call_ (ld_blt I hg hm boot_range (PyProof.Rows.callWith_type1 (thn (ha.run pos pins s σ H _ I h) fun us s1 ⟨vs, H1, I1, r1, q1⟩ => ?_) he hpl))
  rcases q1 with ⟨j, rfl, q⟩ | ⟨i, j, rfl, q⟩ | ⟨i, j, c, rfl, hc, q⟩
  · obtain ⟨u, rfl, t, rfl⟩ := vals1 r1
    exact call_range_1 ⟨_, 0, j, 1, _, _, _, H1, rfl, IsRange.new _ _ _ _ _ _ _, I1.kept fun b u e => Heap.get?_push_of_some _ e, q⟩
  · obtain ⟨u, w', rfl, ⟨t, rfl⟩, ⟨t', rfl⟩⟩ := vals2 r1
    exact call_range_2 ⟨_, i, j, 1, _, _, _, H1, rfl, IsRange.new _ _ _ _ _ _ _, I1.kept fun b u e => Heap.get?_push_of_some _ e, q⟩
  · cases r1 with
    | cons r rr =>
      obtain ⟨w1, w2, rfl, ⟨t', rfl⟩, ⟨t'', rfl⟩⟩ := vals2 rr
      obtain ⟨t, rfl⟩ := r
      exact call_range_3 hc.1 ⟨_, i, j, c, _, _, _, H1, rfl, IsRange.new _ _ _ _ _ _ _, I1.kept fun b u e => Heap.get?_push_of_some _ e, q⟩ (.inl (PyProof.noPylong_small hc.2))
def rgVC (a c : Int) (n : Nat) : List V := (List.range n).map fun i => V.int (a + (i : Nat) * c)
theorem vals_rgC {a c : Int} {n : Nat} {acc : Array Value} (h : ItemsOf (fun i v => ∃ t, v = .int (a + i * c) t) acc n) : Vals (rgVC a c n) acc.toList := by
  have e : acc.toList.length = n := by rw [Array.length_toList]; exact h.1
  unfold rgVC
  rw [← e]
  refine vals_of_get acc.toList _ fun j u hj => ?_
  obtain ⟨t, rfl⟩ := h.2 j u (by rw [← hj, Array.getElem?_toList])
  exact ⟨t, rfl⟩
def tLstRgC (te : L2.St → Hp → (Int → Int → Int → Hp → Prop) → Prop) : TE := fun σ H Q => te σ H fun a b c H1 => ∃ n, RgC a b c n ∧ n ≤ 16777216 ∧ ∀ q, H1 q = none → Q (.ref q) (L2.upd H1 q (.lst (rgVC a c n)))
theorem pe_listRgC {X : Cx} {e : Expr} {te : L2.St → Hp → (Int → Int → Int → Hp → Prop) → Prop} {p pos : Pos} (hc : X.calm = true) (hg : Gl X "list") (hm : X.mg "list" = none) (he : PRgC X e te) (na : starEach [e] X.env = (false, eval e X.env) :: starEach [] X.env := by rfl) : PE X (.Call (.Name "list" p) [e] [] pos) (tLstRgC te) := by
  refine ⟨fun pins s σ H Q I h => ?_⟩
  refine Call_ (ld_blt I hg hm boot_list (PyProof.Rows.callWith_type1 (args_cons (thn (he pins s σ H _ I h) fun x s1 ⟨r, a, b, c, t, u, v, H1, ex, hr, I1, ok, q⟩ => args_nil ?_) na) na))
  subst ex
  obtain ⟨⟨b1, b2, b3, b4⟩, b5, q⟩ := q
  refine call_list_range (n := ok) (I1.ok.hd hc) hr b3 b4 (by omega) fun h' tk acc c' hk e' hi => ?_
  refine ⟨.ref s1.heap.objs.size, L2.upd H1 s1.heap.objs.size (.lst (rgVC a c ok)), I1.laid hk (Nat.le_refl _) (show ObjOk X.prog X.w _ _ _ (.lst (rgVC a c ok)) from ⟨?_, acc.toList, c', vals_rgC hi, ?_⟩), rfl, q _ (I1.hok.fresh (Nat.le_refl _))⟩
  · unfold rgVC; rw [List.length_map, List.length_range, sizeLine_eq]; omega
  · rw [Array.toArray_toList]; exact e'
def wLRg (md : Md) (a : DA) : DE := fun ρ M Q => a ρ M fun ds M1 => match ds with
  | [.int j] => (Rg j ∧ Sz j.toNat) ∧ wNew md (rngD 0 1 j.toNat) M1 Q
  | [.int i, .int j] => (Rg i ∧ Rg j ∧ Sz (j - i).toNat) ∧ wNew md (rngD i 1 (j - i).toNat) M1 Q
  | [.int i, .int j, .int c] => (Rg i ∧ Rg j ∧ Stp c ∧ Sz (rngN i j c)) ∧ wNew md (rngD i c (rngN i j c)) M1 Q
  | _ => False
theorem rng_rp {F : Hp} {lo c : Int} {n : Nat} : RpL F (rngD lo c n) (rgVC lo c n) := by
  have h : ∀ l : List Nat, RpL F (l.map fun i => D.int (lo + (i : Nat) * c)) (l.map fun i => V.int (lo + (i : Nat) * c)) := by
    intro l
    induction l with
    | nil => rfl
    | cons a r ih => exact ⟨_, _, rfl, rfl, ih⟩
  exact h _
theorem rgN1 (i j : Int) : rngN i j 1 = (j - i).toNat := by
  unfold rngN Builtin.Range.rangeSize
  rw [if_pos (by decide)]
  split
  · simp
  · omega
theorem tr_lrg {md : Md} {t : TA} {a : DA} (h : TrA t a) : Tr (tLstRgC (tRgA t)) (wLRg md a) := by
  intro ρ M σ H F Q Qv er m q f
  refine h ρ M σ H F _ _ er m q fun ds vs M1 H1 F1 m1 e1 r1 q1 => ?_
  have one : Stp 1 := ⟨by decide, by decide⟩
  split at q1
  · obtain ⟨v, rfl, h1⟩ := rp1 r1
    cases h1
    refine .inl ⟨_, rfl, _, ⟨?_, q1.1.2, new_lst m1 rng_rp q1.2 (f.ext e1)⟩⟩
    have := rgC_of (i := 0) (by constructor <;> decide) q1.1.1 one
    rw [rgN1, Int.sub_zero] at this; exact this
  · obtain ⟨v, w, rfl, h1, h2⟩ := rp2 r1
    cases h1; cases h2
    refine .inr (.inl ⟨_, _, rfl, _, ⟨?_, q1.1.2.2, new_lst m1 rng_rp q1.2 (f.ext e1)⟩⟩)
    have := rgC_of q1.1.1 q1.1.2.1 one
    rw [rgN1] at this; exact this
  · obtain ⟨v, r, rfl, h1, w, r2, rfl, h2, u, r3, rfl, h3, h4⟩ := r1
    cases h1; cases h2; cases h3; cases h4
    exact .inr (.inr ⟨_, _, _, rfl, q1.1.2.2.1, _, rgC_of q1.1.1 q1.1.2.1 q1.1.2.2.1, q1.1.2.2.2, new_lst m1 rng_rp q1.2 (f.ext e1)⟩)
  · exact q1.elim

/-! ### methods of lists -/
/-- a method: on what it is called, with what -/
abbrev DM := D → List D → Mp → DK → Prop
def MethT (r : V → List V → Hp → VK → Prop) (w : DM) : Prop := ∀ (M : Mp) (H F : Hp) (d : D) (v : V) (ds : List D) (vs : List V) (Q : DK) (Qv : VK), Mem M H F → Rp F d v → RpL F ds vs → w d ds M Q → Fin Q Qv M H F → r v vs H Qv
/-- it is a list, as the text's form has it -/
def isL (M : Mp) (d : D) : Bool := match nrm M d with
  | .lst _ => true
  | _ => false
theorem isL_ty {K : PySem.W.Frag} {M : Mp} {H F : Hp} (m : Mem M H F) {d : D} {v : V} (r : Rp F d v) (h : isL M d = true) : tyV K "list" v H := by
  have vw := m.view r
  unfold isL at h
  split at h
  · rename_i xs e
    rw [e] at vw
    obtain ⟨a, vs, rfl, ha, _⟩ := vw
    exact .inl ⟨rfl, vs, .of ha⟩
  · cases h
def wBM (w : DM) (o : DE) (a : DA) : DE := fun ρ M Q => o ρ M fun x M1 => isL M1 x = true ∧ a ρ M1 fun ds M2 => w x ds M2 Q
theorem tr_bm {K : PySem.W.Frag} {r : V → List V → Hp → VK → Prop} {w : DM} {to : TE} {t : TA} {o : DE} {a : DA} (hm : MethT r w) (ho : Tr to o) (ha : TrA t a) : Tr (tBM K "list" r to t) (wBM w o a) := by
  intro ρ M σ H F Q Qv er m q f
  refine ho ρ M σ H F _ _ er m q fun d v M1 H1 F1 m1 e1 r1 q1 => ⟨isL_ty m1 r1 q1.1, ?_⟩
  refine ha ρ M1 σ H1 F1 _ _ (er.mono e1.fs) m1 q1.2 fun ds vs M2 H2 F2 m2 e2 r2 q2 => ?_
  exact hm M2 H2 F2 d v ds vs Q Qv m2 (Rp.mono e2.fs _ _ r1) r2 q2 (f.ext (e1.trans e2))
def wBM0 (w : DM) (o : DE) : DE := fun ρ M Q => o ρ M fun x M1 => isL M1 x = true ∧ w x [] M1 Q
theorem tr_bm0 {K : PySem.W.Frag} {r : V → List V → Hp → VK → Prop} {w : DM} {to : TE} {o : DE} (hm : MethT r w) (ho : Tr to o) : Tr (tBM0 K "list" r to) (wBM0 w o) := by
  intro ρ M σ H F Q Qv er m q f
  refine ho ρ M σ H F _ _ er m q fun d v M1 H1 F1 m1 e1 r1 q1 => ⟨isL_ty m1 r1 q1.1, ?_⟩
  exact hm M1 H1 F1 d v [] [] Q Qv m1 r1 rfl q1.2 (f.ext e1)
/-- a mutable list's change: what it gives, what it is then -/
def mChg (g : List D → List D → Option (D × List D)) : DM := fun x ds M Q => match x with
  | .ref a => match M a with
    | some (.lst xs) => match g xs ds with
      | some (y, xs') => Q y (M.set a (.lst xs'))
      | none => False
    | _ => False
  | _ => False
theorem mChg_ok {g : List D → List D → Option (D × List D)} {r : V → List V → Hp → VK → Prop}
    (h : ∀ (F H : Hp) (a : Addr) (xs ds : List D) (ws vs : List V) (y : D) (xs' : List D) (Qv : VK), RpL F xs ws → RpL F ds vs → g xs ds = some (y, xs') → H a = some (.lst ws) → (∀ z ws', Rp F y z → RpL F xs' ws' → Qv z (L2.upd H a (.lst ws'))) → r (.ref a) vs H Qv) : MethT r (mChg g) := by
  intro M H F d v ds vs Q Qv m r1 r2 q f
  unfold mChg at q
  split at q
  · rename_i a
    have r1 : v = .ref a := r1
    subst r1
    split at q
    · rename_i xs e
      obtain ⟨_, o, ho, ws, rfl, rr⟩ := m.mem a _ e
      split at q
      · rename_i y xs' eg
        refine h F H a xs ds ws vs y xs' Qv rr r2 eg ho fun z ws' rz rws => ?_
        obtain ⟨m', e'⟩ := m.chg e (o := .lst ws') (q := .lst xs') ⟨_, rfl, rws⟩
        exact f y z _ _ _ m' e' rz q
      · exact q.elim
    · exact q.elim
  · exact q.elim
def gAppend : List D → List D → Option (D × List D) := fun xs ds => match ds with
  | [x] => if xs.length < 16777216 then some (.non, xs ++ [x]) else none
  | _ => none
theorem mt_appendD : MethT rAppend (mChg gAppend) := mChg_ok fun F H a xs ds ws vs y xs' Qv r1 r2 e ha f => by
  unfold gAppend at e
  split at e
  · split at e
    · rename_i hl
      simp only [Option.some.injEq, Prod.mk.injEq] at e
      obtain ⟨rfl, rfl⟩ := e
      obtain ⟨v, rfl, h1⟩ := rp1 r2
      exact ⟨a, ws, v, rfl, rfl, ha, by rw [r1.length, sizeLine_eq]; exact hl, f .non _ rfl (r1.append (RpL.one h1))⟩
    · cases e
  · cases e
def gInsert : List D → List D → Option (D × List D) := fun xs ds => match ds with
  | [.int i, x] => if xs.length < 16777216 ∧ 0 ≤ i ∧ i < 2 ^ 63 then some (.non, xs.take i.toNat ++ [x] ++ xs.drop i.toNat) else none
  | _ => none
def rInsert : V → List V → Hp → VK → Prop := fun x vs H Q => ∃ (l : Addr) (xs : List V) (i : Int) (y : V), x = .ref l ∧ vs = [.int i, y] ∧ H l = some (.lst xs) ∧ xs.length < sizeLine ∧ 0 ≤ i ∧ i < 2 ^ 63 ∧ Q .non (L2.upd H l (.lst (xs.take i.toNat ++ [y] ++ xs.drop i.toNat)))
theorem mt_insertR {X : Cx} : MtR X "list.insert" rInsert := mt_insert
theorem mt_insertD : MethT rInsert (mChg gInsert) := mChg_ok fun F H a xs ds ws vs y xs' Qv r1 r2 e ha f => by
  unfold gInsert at e
  split at e
  · split at e
    · rename_i hl
      simp only [Option.some.injEq, Prod.mk.injEq] at e
      obtain ⟨rfl, rfl⟩ := e
      obtain ⟨v, w, rfl, h1, h2⟩ := rp2 r2
      cases h1
      exact ⟨a, ws, _, w, rfl, rfl, ha, by rw [r1.length, sizeLine_eq]; exact hl.1, hl.2.1, hl.2.2, f .non _ rfl (((r1.take _).append (RpL.one h2)).append (r1.drop _))⟩
    · cases e
  · cases e
def gPop : List D → List D → Option (D × List D) := fun xs ds => match ds with
  | [] => (xs[xs.length - 1]?).map fun x => (x, xs.dropLast)
  | _ => none
theorem mt_popD : MethT rPop (mChg gPop) := mChg_ok fun F H a xs ds ws vs y xs' Qv r1 r2 e ha f => by
  unfold gPop at e
  split at e
  · obtain ⟨x, ex, e⟩ := Option.map_eq_some_iff.mp e
    cases e
    cases r2
    obtain ⟨v, ev, rv⟩ := r1.get ex
    exact ⟨a, ws, v, rfl, rfl, ha, by rw [r1.length]; exact ev, f v _ rv r1.dropLast⟩
  · cases e

/-! ### dicts with plain keys -/
def keyD : D → Option Key
  | .int i => some (.inl i)
  | .str x => some (.inr x)
  | _ => none
theorem keyD_rp {F : Hp} {d : D} {v : V} {k : Key} (r : Rp F d v) (h : keyD d = some k) : v = kV k := by
  cases d with
  | int i => simp only [keyD, Option.some.injEq] at h; subst h; exact r
  | str i => simp only [keyD, Option.some.injEq] at h; subst h; exact r
  | _ => simp [keyD] at h
/-- what a dict holds at a key -/
def look : List Key → List D → Key → Option D
  | k :: ks, x :: xs, y => if k = y then some x else look ks xs y
  | _, _, _ => none
theorem look_rp {F : Hp} {y : Key} : ∀ {ks : List Key} {xs : List D} {kvs : List (Key × V)}, kvs.map (·.1) = ks → RpL F xs (kvs.map (·.2)) →
    (∀ d, look ks xs y = some d → ∃ v, valV kvs y = some v ∧ Rp F d v) ∧ (look ks xs y = none → valV kvs y = none)
  | ks, xs, [], h1, h2 => by
    cases h1
    cases xs with
    | nil => exact ⟨fun d h => by simp [look] at h, fun _ => rfl⟩
    | cons x xs => obtain ⟨v, r, e, _⟩ := h2; cases e
  | ks, xs, (k, u) :: kvs, h1, h2 => by
    subst h1
    cases xs with
    | nil => cases h2
    | cons x xs =>
      obtain ⟨v, r, e, ra, rb⟩ := h2
      simp only [List.map_cons, List.cons.injEq] at e
      obtain ⟨rfl, rfl⟩ := e
      obtain ⟨i1, i2⟩ := look_rp (F := F) (y := y) (ks := kvs.map (·.1)) rfl rb
      simp only [List.map_cons, look, valV, List.find?_cons]
      by_cases hk : k = y
      · subst hk
        simp only [if_pos, decide_true]
        refine ⟨fun d h => ?_, fun h => by cases h⟩
        cases h
        exact ⟨u, rfl, ra⟩
      · simp only [if_neg hk, decide_eq_false hk]
        exact ⟨i1, i2⟩
/-- d[k] -/
def wDGet (o i : DE) : DE := fun ρ M Q => o ρ M fun x M1 => i ρ M1 fun y M2 => match nrm M2 x, keyD y with
  | .dct ks xs, some k => match look ks xs k with
    | some d => Q d M2
    | none => False
  | _, _ => False
theorem tr_dget {td ty : TE} {o i : DE} (ho : Tr td o) (hi : Tr ty i) : Tr (tDGet td ty) (wDGet o i) := by
  intro ρ M σ H F Q Qv er m q f
  refine ho ρ M σ H F _ _ er m q fun x v M1 H1 F1 m1 e1 r1 q1 => ?_
  refine hi ρ M1 σ H1 F1 _ _ (er.mono e1.fs) m1 q1 fun y w M2 H2 F2 m2 e2 r2 q2 => ?_
  have vw := m2.view (Rp.mono e2.fs _ _ r1)
  split at q2
  · rename_i ks xs k ex ek
    rw [ex] at vw
    obtain ⟨a, kvs, rfl, ha, hk, ra⟩ := vw
    have ew := keyD_rp r2 ek
    subst ew
    split at q2
    · rename_i d ed
      obtain ⟨u, eu, ru⟩ := (look_rp (y := k) hk ra).1 d ed
      exact ⟨a, u, rfl, by rw [← eu]; exact .k ha, f _ _ _ _ _ m2 (e1.trans e2) ru q2⟩
    · exact q2.elim
  · exact q2.elim
/-- k in d, k in list or tuple -/
def wDIn (neg : Bool) (i o : DE) : DE := fun ρ M Q => i ρ M fun y M1 => o ρ M1 fun x M2 => match nrm M2 x, keyD y with
  | .dct ks xs, some k => Q (.bl (if neg then !(look ks xs k).isSome else (look ks xs k).isSome)) M2
  | _, _ => False
theorem look_some {F : Hp} {y : Key} {ks : List Key} {xs : List D} {kvs : List (Key × V)} (h1 : kvs.map (·.1) = ks) (h2 : RpL F xs (kvs.map (·.2))) : (valV kvs y).isSome = (look ks xs y).isSome := by
  obtain ⟨i1, i2⟩ := look_rp (y := y) h1 h2
  cases e : look ks xs y with
  | none => rw [i2 e]; rfl
  | some d => obtain ⟨v, e1, _⟩ := i1 d e; rw [e1]; rfl
theorem tr_din {ty td : TE} {i o : DE} (hi : Tr ty i) (ho : Tr td o) : Tr (tDIn ty td) (wDIn false i o) := by
  intro ρ M σ H F Q Qv er m q f
  refine hi ρ M σ H F _ _ er m q fun y w M1 H1 F1 m1 e1 r1 q1 => ?_
  refine ho ρ M1 σ H1 F1 _ _ (er.mono e1.fs) m1 q1 fun x v M2 H2 F2 m2 e2 r2 q2 => ?_
  have vw := m2.view r2
  split at q2
  · rename_i ks xs k ex ek
    rw [ex] at vw
    obtain ⟨a, kvs, rfl, ha, hk, ra⟩ := vw
    have ew := keyD_rp (Rp.mono e2.fs _ _ r1) ek
    subst ew
    refine ⟨a, _, rfl, .k ha, f (.bl _) _ _ _ _ m2 (e1.trans e2) ?_ q2⟩
    show V.bl _ = V.bl _
    rw [look_some hk ra]; rfl
  · exact q2.elim
theorem tr_dnotin {ty td : TE} {i o : DE} (hi : Tr ty i) (ho : Tr td o) : Tr (tDNotIn ty td) (wDIn true i o) := by
  intro ρ M σ H F Q Qv er m q f
  refine hi ρ M σ H F _ _ er m q fun y w M1 H1 F1 m1 e1 r1 q1 => ?_
  refine ho ρ M1 σ H1 F1 _ _ (er.mono e1.fs) m1 q1 fun x v M2 H2 F2 m2 e2 r2 q2 => ?_
  have vw := m2.view r2
  split at q2
  · rename_i ks xs k ex ek
    rw [ex] at vw
    obtain ⟨a, kvs, rfl, ha, hk, ra⟩ := vw
    have ew := keyD_rp (Rp.mono e2.fs _ _ r1) ek
    subst ew
    refine ⟨a, _, rfl, .k ha, f (.bl _) _ _ _ _ m2 (e1.trans e2) ?_ q2⟩
    show V.bl _ = V.bl _
    rw [look_some hk ra]; rfl
  · exact q2.elim
/-- {} -/
def wDNew : DE := fun _ M Q => ∀ p, M p = none → Q (.ref p) (M.set p (.dK [] []))
theorem tr_dnew : Tr tDNewK wDNew := by
  intro ρ M σ H F Q Qv er m q f p hp
  obtain ⟨m', e'⟩ := m.mut hp (o := .dK []) (q := .dK [] []) ⟨[], rfl, rfl, rfl⟩
  exact f (.ref p) _ _ _ _ m' e' rfl (q p (m.fresh hp).2)
/-- a key's value is put -/
def putKs (ks : List Key) (k : Key) : List Key := if (ks.any fun j => decide (j = k)) = true then ks else ks ++ [k]
def putXs (ks : List Key) (xs : List D) (k : Key) (d : D) : List D := if (ks.any fun j => decide (j = k)) = true then List.zipWith (fun j x => if j = k then d else x) ks xs else xs ++ [d]
theorem put_map {F : Hp} {k : Key} {d : D} {v : V} (r : Rp F d v) : ∀ {kvs : List (Key × V)} {xs : List D}, RpL F xs (kvs.map (·.2)) →
    (kvs.map (fun kv => if kv.1 = k then (kv.1, v) else kv)).map (·.1) = kvs.map (·.1) ∧ RpL F (List.zipWith (fun j x => if j = k then d else x) (kvs.map (·.1)) xs) ((kvs.map (fun kv => if kv.1 = k then (kv.1, v) else kv)).map (·.2))
  | [], xs, h => by cases xs <;> exact ⟨rfl, rfl⟩
  | (j, u) :: kvs, [], h => by cases h
  | (j, u) :: kvs, x :: xs, h => by
    obtain ⟨v', r', e, ra, rb⟩ := h
    simp only [List.map_cons, List.cons.injEq] at e
    obtain ⟨rfl, rfl⟩ := e
    obtain ⟨i1, i2⟩ := put_map r (kvs := kvs) (xs := xs) rb
    simp only [List.map_cons, List.zipWith_cons_cons]
    by_cases hj : j = k
    · simp only [if_pos hj]
      exact ⟨by rw [i1], v, _, rfl, r, i2⟩
    · simp only [if_neg hj]
      exact ⟨by rw [i1], u, _, rfl, ra, i2⟩
theorem put_rp {F : Hp} {k : Key} {d : D} {v : V} {ks : List Key} {xs : List D} {kvs : List (Key × V)} (h1 : kvs.map (·.1) = ks) (h2 : RpL F xs (kvs.map (·.2))) (r : Rp F d v) :
    (putK kvs k v).map (·.1) = putKs ks k ∧ RpL F (putXs ks xs k d) ((putK kvs k v).map (·.2)) := by
  subst h1
  unfold putK putKs putXs
  have e : ((kvs.map (·.1)).any fun j => decide (j = k)) = (kvs.any fun kv => decide (kv.1 = k)) := by
    rw [List.any_map]; rfl
  rw [e]
  split
  · exact put_map r h2
  · refine ⟨by simp, ?_⟩
    rw [List.map_append]
    exact h2.append (RpL.one r)
def sDPutD (o i e : DE) : DS := fun Dd ρ M => e ρ M fun d M1 => o ρ M1 fun x M2 => i ρ M2 fun y M3 => match x with
  | .ref a => match M3 a, keyD y with
    | some (.dK ks xs), some k => ks.length < 16777216 ∧ Dd.nx ρ (M3.set a (.dK (putKs ks k) (putXs ks xs k d)))
    | _, _ => False
  | _ => False
theorem ts_dput {td ty tv : TE} {o i e : DE} (ho : Tr td o) (hi : Tr ty i) (he : Tr tv e) : TrS (sDPut td ty tv) (sDPutD o i e) := by
  intro ρ M σ H F Dd De er m q r
  refine he ρ M σ H F _ _ er m q fun d v M1 H1 F1 m1 e1 r1 q1 => ?_
  refine ho ρ M1 σ H1 F1 _ _ (er.mono e1.fs) m1 q1 fun x u M2 H2 F2 m2 e2 r2 q2 => ?_
  refine hi ρ M2 σ H2 F2 _ _ (er.mono (e1.fs.trans e2.fs)) m2 q2 fun y w M3 H3 F3 m3 e3 r3 q3 => ?_
  split at q3
  · rename_i a
    split at q3
    · rename_i ks xs k ea ek
      obtain ⟨_, o, ho, kvs, rfl, hk, rr⟩ := m3.mem a _ ea
      have r2 : u = .ref a := r2
      subst r2
      have ew := keyD_rp r3 ek
      subst ew
      have rv := Rp.mono (e2.fs.trans e3.fs) _ _ r1
      obtain ⟨p1, p2⟩ := put_rp (k := k) hk rr rv
      obtain ⟨m', e'⟩ := m3.chg ea (o := .dK (putK kvs k v)) (q := .dK (putKs ks k) (putXs ks xs k d)) ⟨_, rfl, p1, p2⟩
      have hl : kvs.length < sizeLine := by rw [sizeLine_eq, ← List.length_map (f := (·.1)) (as := kvs), hk]; exact q3.1
      have ee := e1.trans (e2.trans (e3.trans e'))
      exact ⟨a, _, rfl, .k ho hl, r.nx _ _ _ _ _ (er.mono ee.fs) m' ee q3.2⟩
    · exact q3.elim
  · exact q3.elim
/-- x in a list (deep), in a tuple of flat things -/
def flatD : D → Bool
  | .non => true
  | .bl _ => true
  | .int _ => true
  | .str _ => true
  | _ => false
theorem flat_v {F : Hp} {d : D} {v : V} (r : Rp F d v) (h : flatD d = true) : flatV v = true ∧ PyData.canLay0 (toPD d) = true ∨ flatV v = true := by
  cases d <;> first | (cases r; exact .inr rfl) | cases h
theorem flat_eq {F : Hp} {d e : D} {v w : V} (r : Rp F d v) (r' : Rp F e w) (h : flatD d = true) (h' : flatD e = true) : eqV v w = deq d e := by
  cases d <;> first | cases h | skip
  all_goals (cases r; cases e <;> first | cases h' | skip)
  all_goals (cases r'; simp [eqV, deq, toPD, PyData.eqv])
theorem flat_any {F : Hp} {d : D} {v : V} (r : Rp F d v) (h : flatD d = true) : ∀ {xs : List D} {vs : List V}, RpL F xs vs → xs.all flatD = true → vs.all flatV = true ∧ inV v vs = xs.any fun z => deq z d
  | [], _, e, _ => by cases e; exact ⟨rfl, rfl⟩
  | x :: xs, _, ⟨u, us, e, r1, r2⟩, ha => by
    subst e
    simp only [List.all_cons, Bool.and_eq_true] at ha
    obtain ⟨i1, i2⟩ := flat_any r h r2 ha.2
    refine ⟨?_, ?_⟩
    · rw [List.all_cons, i1, Bool.and_true]
      rcases flat_v r1 ha.1 with z | z
      · exact z.1
      · exact z
    · unfold inV at i2 ⊢
      rw [List.any_cons, List.any_cons, i2, flat_eq r1 r ha.1 h]
def nIn (neg : Bool) : DO := fun x y M Q => match y with
  | .lst ys => (pdOk x = true ∧ pdOk (.lst ys) = true) ∧ Q (.bl (if neg then !(ys.any fun z => deq z x) else ys.any fun z => deq z x)) M
  | .tup ys => (flatD x = true ∧ ys.all flatD = true) ∧ Q (.bl (if neg then !(ys.any fun z => deq z x) else ys.any fun z => deq z x)) M
  | _ => False
def wIn (neg : Bool) : DO := fun x y M Q => nIn neg (nrm M x) (nrm M y) M Q
def rInA (K : PySem.W.Frag) : R2 := fun x y H Q => rInD K x y H Q ∨ rIn K false x y H Q
def rNotInA (K : PySem.W.Frag) : R2 := fun x y H Q => rNotInD K x y H Q ∨ rIn K true x y H Q
theorem op_inA {X : Cx} (hu : X.A.units + 65 < cLine) : OpR X (compareOp .In) (rInA X.K) := (op_inD hu).or op_in_seq
theorem op_notInA {X : Cx} (hu : X.A.units + 65 < cLine) : OpR X (compareOp .NotIn) (rNotInA X.K) := (op_notInD hu).or op_notIn_seq
theorem toPDs_any {d : D} : ∀ {ys : List D}, ((toPDs ys).any fun z => PyData.eqv z (toPD d)) = ys.any fun z => deq z d
  | [] => rfl
  | y :: ys => by simp only [toPDs, List.any_cons, toPDs_any, deq]
theorem vw_flat {H F : Hp} {d : D} {v : V} (r : Vw H F d v) (h : flatD d = true) : Rp F d v := by
  cases d <;> first | exact r | cases h
theorem ot_in {K : PySem.W.Frag} : OpT (rInA K) (wIn false) := OpT.byView (fun _ _ _ _ => rfl) fun M H F n1 n2 v1 v2 Q Qv m r1 r2 q f => by
  unfold nIn at q
  split at q
  · rename_i ys
    refine .inl ⟨_, _, vw_dp m.same r1 q.1.1, vw_dp m.same r2 q.1.2, q.1.1, q.1.2, f.here (d := .bl _) m ?_ q.2⟩
    show V.bl _ = V.bl _
    rw [toPDs_any]; rfl
  · rename_i ys
    obtain ⟨a, vs, rfl, ha, ra⟩ := r2
    have rd := vw_flat r1 q.1.1
    obtain ⟨h1, h2⟩ := flat_any rd q.1.1 ra q.1.2
    refine .inr ⟨a, vs, rfl, .inr (.of ha), ?_, h1, f.here (d := .bl _) m ?_ q.2⟩
    · rcases flat_v rd q.1.1 with z | z
      · exact z.1
      · exact z
    · show V.bl _ = V.bl _
      rw [h2]
  · exact q.elim
theorem ot_notin {K : PySem.W.Frag} : OpT (rNotInA K) (wIn true) := OpT.byView (fun _ _ _ _ => rfl) fun M H F n1 n2 v1 v2 Q Qv m r1 r2 q f => by
  unfold nIn at q
  split at q
  · rename_i ys
    refine .inl ⟨_, _, vw_dp m.same r1 q.1.1, vw_dp m.same r2 q.1.2, q.1.1, q.1.2, f.here (d := .bl _) m ?_ q.2⟩
    show V.bl _ = V.bl _
    rw [toPDs_any]; rfl
  · rename_i ys
    obtain ⟨a, vs, rfl, ha, ra⟩ := r2
    have rd := vw_flat r1 q.1.1
    obtain ⟨h1, h2⟩ := flat_any rd q.1.1 ra q.1.2
    refine .inr ⟨a, vs, rfl, .inr (.of ha), ?_, h1, f.here (d := .bl _) m ?_ q.2⟩
    · rcases flat_v rd q.1.1 with z | z
      · exact z.1
      · exact z
    · show V.bl _ = V.bl _
      rw [h2]
  · exact q.elim


/-! ### defs -/
/-- a contract: the arguments, the table, what is wanted -/
abbrev Ct := List D → Mp → DK → Prop
def spD (R : Ct) : Sp := fun vs H Q _ => ∃ ds M F QD, Mem M H F ∧ RpL F ds vs ∧ R ds M QD ∧ Fin QD Q M H F
def startD (n : Nat) (ds : List D) : DEnv := ds.map some ++ List.replicate (n - ds.length) none
theorem env_start {F : Hp} {ds : List D} {vs : List V} {N : List Str} (r : RpL F ds vs) : EnvR F (startD N.length ds) (L2.start N vs) := by
  refine ⟨by simp [startD, L2.start, r.length], fun i d e => ?_⟩
  unfold startD at e
  unfold L2.start
  by_cases hi : i < ds.length
  · rw [List.getElem?_append_left (by simpa using hi), List.getElem?_map] at e
    obtain ⟨d', e1, e2⟩ := Option.map_eq_some_iff.mp e
    cases e2
    obtain ⟨v, e3, rv⟩ := r.get e1
    exact ⟨v, by rw [List.getElem?_append_left (by rw [List.length_map, r.length]; exact hi), List.getElem?_map, e3]; rfl, rv⟩
  · rw [List.getElem?_append_right (by simp; omega), List.getElem?_replicate] at e
    split at e <;> cases e
abbrev FnP (K : PySem.W.Frag) (x : Str) (st : Stmt) (dvs : List V) (f : Addr) (fd : FuncData) : Prop := FunD K x x (defArgs st) (defBody st) (defScope st) dvs [] f fd
/-- what a def promises wherever nothing is being shown (repr must know that) -/
structure FnG (P : Program) (w : World) (K : PySem.W.Frag) (mg : Str → Option Value) (base : Heap) (k : Nat) (f : Addr) (fd : FuncData) (ps : List Str) (sp : Sp) : Prop where
  len : ∀ {vs H Q E}, sp vs H Q E → vs.length = ps.length
  run : ∀ {A : Around} {outer : List Env} {s : Shared} {H : Hp} {as : Args} {us : List Value} {vs : List V} {Q : VK} {E : XK}, Room k A → A.guards = some [] → Env0 P w K mg base A outer s H → BindsTo s fd as (ps.zip us) → Vals vs us → sp vs H Q E →
    codeAny (model P w) A (.call (.ref f) as) (CR CX0 outer P w H s Q E) s
theorem FnG.mono {P : Program} {w : World} {K : PySem.W.Frag} {mg : Str → Option Value} {base : Heap} {j k : Nat} {f : Addr} {fd : FuncData} {ps : List Str} {sp : Sp} (F : FnG P w K mg base j f fd ps sp) (h : j ≤ k) : FnG P w K mg base k f fd ps sp :=
  ⟨F.len, fun hr => F.run (hr.mono h)⟩
section
variable {P : Program} {w : World} {K : PySem.W.Frag} {mg : Str → Option Value} {base : Heap}
/-- a def keeps its contract -/
theorem fnD {x : Str} {st : Stmt} {dvs : List V} {f : Addr} {fd : FuncData} {N ps : List Str} {k : Nat} {R : Ct} (F : FnP K x st dvs f fd) (S : FnScope N ps (defScope st)) (hl : ∀ ds M Q, R ds M Q → ds.length = ps.length)
    (hb : ∀ (cdv : Value) (A : Around) (outer : List Env) (s : Shared) (H : Hp) (E : XK), Room k (A.deeper (envOfC x (defScope st) s.heap.objs.size f cdv)) → A.guards = some [] →
      ∃ t w', PSs (cxOf CX0 P w K mg base N x (defScope st) f cdv A outer s H E).nox (defBody st) t ∧ TrS t w' ∧ ∀ ds M Q, R ds M Q → w' { nx := fun _ M' => Q .non M', rt := Q } (startD N.length ds) M) :
    FnG P w K mg base (k + 1) f fd ps (spD R) := by
  obtain ⟨clsV, dctA, dflV, kwV, docV, modV, annA, cdv, ctV, slots, rfl, found, isCode, -, -⟩ := F.ex
  have hlen : ∀ {vs : List V} {H : Hp} {Q : VK} {E : XK}, spD R vs H Q E → vs.length = ps.length := fun ⟨ds, M, F', QD, m, r, q, fin⟩ => by
    rw [r.length]; exact hl ds M QD q
  refine ⟨hlen, ?_⟩
  intro A outer s H as us vs Q E room quiet e0 bound r sp
  have e1 : ∀ b o, base.get? b = some o → s.heap.get? b = some o := fun b o e => (e0.bs b o e).1
  have inK : K.In s.heap := e0.mod.kin.keeps e1
  refine codeAny_call_function room.depth (inK _ _ found) rfl S.co S.gen rfl (PySem.W.codeRec_of inK isCode) (bound _ _ _ _ ?_)
  refine wpAny_newFunctionEnv_cells S.kind (fun y hy => ?_) fun env he s1 laid => ?_
  · rcases S.par y.1 (List.of_mem_zip (a := y.1) (b := y.2) hy).1 with q | q
    · exact Or.inl q
    · exact Or.inr ⟨q, PySem.W.cellsFrom_some _ _ _ (Or.inl q)⟩
  subst he
  refine ⟨(e0.mod.nolimit.keeps e1).keeps laid.toInCall.keep, codeAny_func ?_⟩
  have inv := inv_start (CX := CX0) (K := K) (E := E) S room.hd e0 (hlen sp) r laid
  obtain ⟨t, w', h1, h2, h3⟩ := hb cdv A outer s H E (room.deeper _) quiet
  obtain ⟨ds, M, F', QD, m, rr, q, fin⟩ := sp
  have go := h2 _ M _ H F' { nx := fun _ M' => QD .non M', rt := QD } { nx := fun _ H' => Q .non H', rt := Q } (env_start rr) m (h3 ds M QD q)
    ⟨fun ρ' M' σ' H' F2 er' m' e' q' => fin .non .non M' H' F2 m' e' rfl q', fun d v M' H' F2 m' e' r' q' => fin d v M' H' F2 m' e' r' q', fun _ _ _ _ _ _ _ _ q' => q', fun _ _ _ _ _ _ _ _ q' => q'⟩
  refine wpAny_mono ((PSs.nox h1).run [] s1 _ H _ inv go) (fun fl s' ends => ?_) fun _ _ ends => ends
  match fl, ends with
  | .ret _, ⟨v, _, H', J, rv, q⟩ => exact ⟨v, H', J.os, J.bare, J.base, J.hok, rv, q⟩
  | .next, ⟨_, H', J, q⟩ => exact ⟨V.non, H', J.os, J.bare, J.base, J.hok, rfl, q⟩
  | .brk, ⟨_, _, _, q⟩ => exact q.elim
  | .cont, ⟨_, _, _, q⟩ => exact q.elim
end
section
variable {X : Cx} {k : Nat} {f : Addr} {fd : FuncData} {ps : List Str} {sp : Sp}
/-- the callee runs -/
theorem goG {pins : List (Addr × Obj)} {σ : L2.St} {H : Hp} {s : Shared} {Q : VK} {us bs : List Value} {kw : List (Str × Value)} {vs : List V} (F : FnG X.prog X.w X.K X.mg X.base k f fd ps sp) (hr : Room k X.A) (quiet : X.A.guards = some [])
    (inv : Inv X pins σ H s) (bound : BindsTo s fd ⟨us, kw⟩ (ps.zip bs)) (r : Vals vs bs) (h : sp vs H Q E0) : wpAny (model X.prog X.w) X.A (call (.ref f) us kw) (EP X pins σ Q) X.xe s := by
  refine wpAny_call (codeAny_mono (F.run hr quiet inv.env0 bound r h) fun res s' out => ?_)
  match res, out with
  | .error e, out => exact False.elim out
  | .ok (.ret _), out => exact inv.after out
  | .ok .next, out => exact False.elim out
  | .ok .brk, out => exact False.elim out
  | .ok .cont, out => exact False.elim out
variable {x : Str} {p pos : Pos} {e : Expr} {es : List Expr} {t tk : TA} {dvs : List V} {ds : List Value} {ks : List Str} {kws : List Keyword} {g : List Value → List Value → List Value} {gV : List V → List V → List V}
/-- f(..) -/
theorem pe_callG (F : FnG X.prog X.w X.K X.mg X.base k f fd ps sp) (hr : Room k X.A) (quiet : X.A.guards = some []) (glob : Gl X x) (here : X.mg x = some (.ref f)) (kept : PySem.W.keepIn X.K (.ref f) = true) (hb : Binds X.K fd ps ds) (dv : Vals dvs ds)
    (args : PA X (e :: es) t) (notDebug : (x == ("__debug__" : Str)) = false := by decide) (first : starEach (e :: es) X.env = (false, eval e X.env) :: starEach es X.env := by rfl) (plain : (backTo pos (starEach es X.env)).any (·.1) = false := by rfl) :
    PE X (.Call (.Name x p) (e :: es) [] pos) (tCall sp dvs E0 t) := ⟨fun pins s σ H Q inv h => by
  refine wpAny_Call_Name_kw (ld_glob inv glob here ?_ notDebug)
  refine PySem.W.callWith_K (h₀ := X.base) inv.ok.mod.kin kept (thn (args.run pos pins s σ H _ inv h) fun us s1 ⟨vs, H1, inv1, r, q⟩ => ⟨inv1.kIn, ?_⟩) first plain
  have rr := r.append dv
  exact goG F hr quiet inv1 (hb s1 us inv1.kIn (by rw [← rr.length]; exact F.len q)) rr q⟩
theorem pe_callG0 (F : FnG X.prog X.w X.K X.mg X.base k f fd ps sp) (hr : Room k X.A) (quiet : X.A.guards = some []) (glob : Gl X x) (here : X.mg x = some (.ref f)) (kept : PySem.W.keepIn X.K (.ref f) = true) (hb : Binds X.K fd ps ds) (dv : Vals dvs ds)
    (notDebug : (x == ("__debug__" : Str)) = false := by decide) : PE X (.Call (.Name x p) [] [] pos) (tCall sp dvs E0 tNil) := ⟨fun pins s σ H Q inv h => by
  refine wpAny_Call_Name_kw (ld_glob inv glob here ?_ notDebug)
  have rr : Vals ([] ++ dvs) ([] ++ ds) := dv
  exact PySem.W.callWith_K0 inv.kIn kept (goG F hr quiet inv (hb s [] inv.kIn (by rw [← rr.length]; exact F.len h)) rr h)⟩
/-- f(.., k = v, ..) -/
theorem pe_callGK (F : FnG X.prog X.w X.K X.mg X.base k f fd ps sp) (hr : Room k X.A) (quiet : X.A.guards = some []) (glob : Gl X x) (here : X.mg x = some (.ref f)) (kept : PySem.W.keepIn X.K (.ref f) = true) (hb : KBinds X.K fd ps ks g gV)
    (args : PA X (e :: es) t) (named : PK X kws tk) (every : (backToKw pos (keywordEach kws X.env)).all (·.1.isSome) = true := by rfl) (names : (backToKw pos (keywordEach kws X.env)).filterMap (·.1) = ks := by rfl)
    (notDebug : (x == ("__debug__" : Str)) = false := by decide) (first : starEach (e :: es) X.env = (false, eval e X.env) :: starEach es X.env := by rfl)
    (plain : ((backTo pos (starEach (e :: es) X.env)).any (·.1) || (backToKw pos (keywordEach kws X.env)).any (·.1.isNone)) = false := by rfl) : PE X (.Call (.Name x p) (e :: es) kws pos) (tCallK sp gV E0 t tk) := ⟨fun pins s σ H Q inv h => by
  refine wpAny_Call_Name_kw (ld_glob inv glob here ?_ notDebug)
  refine PySem.W.callWith_KW (h₀ := X.base) inv.ok.mod.kin kept every (thn (args.run pos pins s σ H _ inv h) fun us s1 ⟨vs, H1, inv1, r, q⟩ => ?_) plain first
  refine thn (named.run pos pins s1 σ H1 _ inv1 q) fun ws s2 ⟨zs, H2, inv2, rz, q2⟩ => ⟨inv2.kIn, ?_⟩
  rw [names]
  have rr := hb.rel r rz
  exact goG F hr quiet inv2 (hb.to s2 us ws inv2.kIn (by rw [← rr.length]; exact F.len q2)) rr q2⟩
theorem pe_callGK0 (F : FnG X.prog X.w X.K X.mg X.base k f fd ps sp) (hr : Room k X.A) (quiet : X.A.guards = some []) (glob : Gl X x) (here : X.mg x = some (.ref f)) (kept : PySem.W.keepIn X.K (.ref f) = true) (hb : KBinds X.K fd ps ks g gV)
    (named : PK X kws tk) (every : (backToKw pos (keywordEach kws X.env)).all (·.1.isSome) = true := by rfl) (names : (backToKw pos (keywordEach kws X.env)).filterMap (·.1) = ks := by rfl)
    (notDebug : (x == ("__debug__" : Str)) = false := by decide)
    (plain : ((backTo pos (starEach [] X.env)).any (·.1) || (backToKw pos (keywordEach kws X.env)).any (·.1.isNone)) = false := by rfl) : PE X (.Call (.Name x p) [] kws pos) (tCallK sp gV E0 tNil tk) := ⟨fun pins s σ H Q inv h => by
  refine wpAny_Call_Name_kw (ld_glob inv glob here ?_ notDebug)
  refine PySem.W.callWith_KW0 (h₀ := X.base) inv.ok.mod.kin kept every (thn (named.run pos pins s σ H _ inv h) fun ws s2 ⟨zs, H2, inv2, rz, q2⟩ => ⟨inv2.kIn, ?_⟩) plain
  rw [names]
  have rr := hb.rel (vs := []) (us := []) .nil rz
  exact goG F hr quiet inv2 (hb.to s2 [] ws inv2.kIn (by rw [← rr.length]; exact F.len q2)) rr q2⟩
end
/-! ### a law's end -/
section
variable {P : Program} {w : World} {K : PySem.W.Frag} {mg mb : Str → Option Value} {k : Nat} {fa a : Addr} {fd : FuncData} {x : Str} {sp : Sp} {s : Shared} {vs : List Value} {ns : List Int}
abbrev TopEnd (s : Shared) : Result → Shared → Prop := fun r s' => r = .ok (.ret (.bool true)) ∧ OldK s.heap s'.heap ∧ s'.os = s.os ∧ AllBare s'.gens
/-- the law's def is called over an abstract heap that holds the script at most -/
theorem top_over {H : Hp} (inK : K.In s.heap) (glob : s.heap.Ns mainGlobals mg) (blt : s.heap.Ns builtinsNs mb) (booted : ∀ y : Str, y ≠ "__name__" → mb y = bootBuiltins y) (nolim : s.heap.NoLimit) (nogen : s.gens = #[])
    (scr : s.heap.get? a = some { cls := .type "list", data := .seq vs.toArray }) (room : Room k callerA) (F : ∀ base : Heap, K.In base → base.Ns mainGlobals mg → FnG P w K mg base k fa fd [x] sp)
    (bound : ∀ (s : Shared) (u : Value), BindsTo s fd ⟨[u], []⟩ [(x, u)]) (ask : sp [.ref a] H (fun v _ => v = .bl true) E0) (held : HOk P w H s.heap) (only : Only H) (alone : ∀ b u, H b = some u → b = a ∧ K.lookup a = none) :
    codeAny (model P w) callerA (.call (.ref fa) ⟨[.ref a], []⟩) (TopEnd s) s := by
  have noDict : ∀ {b : Addr} {o : Obj} {es : Array DictEntry} {ep : Nat}, s.heap.get? b = some o → o.data = .dict es ep → H b = none := by
    intro b o es ep hb hd
    match q : H b with
    | none => rfl
    | some u =>
      exfalso
      have e := (alone b u q).1
      subst e
      have eo := Option.some.inj (scr.symm.trans hb)
      subst eo
      cases hd
  have ns' : ∀ {b : Addr} {m : Str → Option Value}, s.heap.Ns b m → (hidT s.heap H).Ns b m := by
    rintro b m ⟨o, es, ep, hb, hd, r⟩
    exact ⟨o, es, ep, hidT_get hb (noDict hb hd), hd, r⟩
  have inB : K.In (hidT s.heap H) := by
    intro b o hb
    refine hidT_get (inK b o hb) ?_
    match q : H b with
    | none => rfl
    | some u =>
      exfalso
      obtain ⟨e, z⟩ := alone b u q
      subst e
      rw [hb] at z
      cases z
  obtain ⟨mc, lim1, lim2⟩ := nolim
  have env : Env0 P w K mg (hidT s.heap H) callerA [] s H :=
    ⟨rfl, ⟨inB, ns' glob, ⟨mb, ns' blt, booted⟩, ⟨mc, ns' lim1, lim2⟩⟩, fun _ _ => of_hidT, Nat.le_of_eq (hidT_size _ _), trivial, (fun b z => by cases (show b ∈ ([] : List Addr) from z)), held, .of_eq nogen⟩
  refine codeAny_mono ((F _ inB (ns' glob)).run (us := [.ref a]) (vs := [.ref a]) room rfl env (bound s _) (.cons rfl .nil) ask) fun r s' out => ?_
  match r, out with
  | .error _, out => exact False.elim out
  | .ok .next, out => exact False.elim out
  | .ok .brk, out => exact False.elim out
  | .ok .cont, out => exact False.elim out
  | .ok (.ret u), ⟨v, H', os, bare, un, held', rel, q⟩ =>
    have q : v = .bl true := q
    subst q
    have eu : u = Value.bool true := rel
    subst eu
    refine ⟨rfl, OldK.of_keep fun b o hb => ?_, os, bare⟩
    rcases only b with z | ⟨ob, xs, z⟩
    · exact un.keep b o hb z (fun y => by cases (show b ∈ ([] : List Addr) from y)) (fun y => by cases y)
    · have e1 := (held b _ z).1
      have e2 := (held' b _ (un.frzs b ob _ z)).1
      rw [← Option.some.inj (e1.symm.trans hb)]
      exact e2
theorem top_call (inK : K.In s.heap) (glob : s.heap.Ns mainGlobals mg) (blt : s.heap.Ns builtinsNs mb) (booted : ∀ y : Str, y ≠ "__name__" → mb y = bootBuiltins y) (nolim : s.heap.NoLimit) (nogen : s.gens = #[])
    (scr : s.heap.get? a = some { cls := .type "list", data := .seq vs.toArray }) (numbers : IntsAre vs ns) (few : ns.length ≤ sizeLine) (room : Room k callerA) (F : ∀ base : Heap, K.In base → base.Ns mainGlobals mg → FnG P w K mg base k fa fd [x] sp)
    (bound : ∀ (s : Shared) (u : Value), BindsTo s fd ⟨[u], []⟩ [(x, u)]) (ask : ∀ H : Hp, SqL K H a (ns.map V.int) → sp [.ref a] H (fun v _ => v = .bl true) E0) :
    codeAny (model P w) callerA (.call (.ref fa) ⟨[.ref a], []⟩) (TopEnd s) s := by
  have rel := vals_ints numbers
  have size := numbers.length
  match known : K.lookup a with
  | some o =>
    have eo := Option.some.inj ((inK a o known).symm.trans scr)
    subst eo
    refine top_over (H := fun _ => none) inK glob blt booted nolim nogen scr room F bound (ask _ (Or.inr ⟨_, vs.toArray, _, known, rfl, rfl, rfl, by simpa [size] using few, by simpa using rel⟩)) ?_ (fun _ => Or.inl rfl) ?_
    · intro b u z; cases z
    · intro b u z; cases z
  | none =>
    let o : Obj := { cls := .type "list", data := .seq vs.toArray }
    let H : Hp := fun b => if b = a then some (.frz o (.lst (ns.map V.int))) else none
    have here : H a = some (.frz o (.lst (ns.map V.int))) := if_pos rfl
    have there : ∀ {b u}, H b = some u → b = a := by
      intro b u z
      by_cases e : b = a
      · exact e
      · have : H b = none := if_neg e
        rw [this] at z; cases z
    refine top_over (H := H) inK glob blt booted nolim nogen scr room F bound (ask H (Or.inl (Or.inr ⟨o, here⟩))) ?_ ?_ fun b u z => ⟨there z, known⟩
    · intro b u z
      have e := there z
      subst e
      rw [here] at z
      cases z
      exact ⟨scr, by rw [List.length_map]; exact few, vs, _, rel, scr⟩
    · intro b
      by_cases e : b = a
      · subst e; exact Or.inr ⟨_, _, here⟩
      · exact Or.inl (if_neg e)
end
/-- .. as a head wants it -/
theorem walkG {l : PySem.W.OpenLaw} {n k : Nat} {q : Program} {loose : List Str} {XP : (Str → Option Value) → Heap → Prop} {YP : World → Heap → Prop} {d : DefRec} {x : Str} (most : l.most = some n) (few : n ≤ sizeLine) (noDfl : d.params.defaults = []) (room : Room k callerA)
    (F : ∀ (w : World) (mg : Str → Option Value) (fa : Addr) (h : Heap), YP w h → h.Ns mainGlobals mg → mg d.name = some (.ref fa) → ∃ (K : PySem.W.Frag) (fd : FuncData) (sp : Sp), K.In h ∧ (∀ (s : Shared) (u : Value), BindsTo s fd ⟨[u], []⟩ [(x, u)]) ∧
      (∀ (H : Hp) (a : Addr) (ns : List Int), ns.length ≤ n → SqL K H a (ns.map V.int) → sp [.ref a] H (fun v _ => v = .bl true) E0) ∧ ∀ base : Heap, K.In base → base.Ns mainGlobals mg → FnG l.prog w K mg base k fa fd [x] sp) :
    PySem.W.WalkO q loose XP YP l.row.toRowW d [] (fun f vs => PySem.call f vs) := by
  refine Att.attach_call most noDfl ?_
  intro w s₀ s₁ mg mb fa o pm cd doc a vs ns ground says _ _ _ named scr numbers len nogen
  obtain ⟨K, fd, sp, inK, bound, ask, made⟩ := F w mg fa _ says ground.T.g named
  exact top_call inK ground.T.g ground.T.b ground.T.builtins ground.T.nolimit nogen scr numbers (Nat.le_trans len few) room made bound fun H hS => ask H a ns len hS
/-- plain defaults -/
inductive FlatL : List D → List V → Prop
  | nil : FlatL [] []
  | cons {d : D} {v : V} {ds : List D} {vs : List V} (h : ∀ F, Rp F d v) (t : FlatL ds vs) : FlatL (d :: ds) (v :: vs)
theorem FlatL.rp {F : Hp} : ∀ {ds : List D} {vs : List V}, FlatL ds vs → RpL F ds vs
  | _, _, .nil => rfl
  | _, _, .cons h t => ⟨_, _, rfl, h F, t.rp⟩
/-- a call -/
def wCall (R : Ct) (dds : List D) (a : DA) : DE := fun ρ M Q => a ρ M fun ds M1 => R (ds ++ dds) M1 Q
theorem tr_call {R : Ct} {dds : List D} {dvs : List V} {t : TA} {a : DA} (ha : TrA t a) (hd : FlatL dds dvs := by exact .nil) : Tr (tCall (spD R) dvs E0 t) (wCall R dds a) := by
  intro ρ M σ H F Q Qv er m q f
  refine ha ρ M σ H F _ _ er m q fun ds vs M1 H1 F1 m1 e1 r1 q1 => ?_
  exact ⟨ds ++ dds, M1, F1, Q, m1, r1.append hd.rp, q1, f.ext e1⟩
/-- .. with keywords: g puts them in order -/
def wCallK (R : Ct) (g : List D → List D → List D) (a b : DA) : DE := fun ρ M Q => a ρ M fun ds M1 => b ρ M1 fun es M2 => R (g ds es) M2 Q
theorem tr_callK {R : Ct} {g : List D → List D → List D} {gV : List V → List V → List V} {t tk : TA} {a b : DA} (hg : ∀ F ds es vs ws, RpL F ds vs → RpL F es ws → RpL F (g ds es) (gV vs ws)) (ha : TrA t a) (hb : TrA tk b) : Tr (tCallK (spD R) gV E0 t tk) (wCallK R g a b) := by
  intro ρ M σ H F Q Qv er m q f
  refine ha ρ M σ H F _ _ er m q fun ds vs M1 H1 F1 m1 e1 r1 q1 => ?_
  refine hb ρ M1 σ H1 F1 _ _ (er.mono e1.fs) m1 q1 fun es ws M2 H2 F2 m2 e2 r2 q2 => ?_
  exact ⟨_, M2, F2, Q, m2, hg F2 ds es vs ws (RpL.mono e2.fs _ _ r1) r2, q2, f.ext (e1.trans e2)⟩

/-- a, b, c = x, y, z -/
def sPar3 (i j l : Nat) (a : DA) : DS := fun Dd ρ M => a ρ M fun ds M1 => match ds with
  | [x, y, z] => Dd.nx (((ρ.set i (some x)).set j (some y)).set l (some z)) M1
  | _ => False
theorem ts_par3 {i j l : Nat} {t : TA} {a : DA} (h : TrA t a) : TrS (tPar3 i j l t) (sPar3 i j l a) := by
  intro ρ M σ H F Dd De er m q r
  refine h ρ M σ H F _ _ er m q fun ds vs M1 H1 F1 m1 e1 r1 q1 => ?_
  split at q1
  · obtain ⟨v, vr, rfl, h1, w, wr, rfl, h2, u, ur, rfl, h3, h4⟩ := r1
    cases h4
    exact ⟨v, w, u, rfl, r.nx _ _ _ _ _ ((((er.mono e1.fs).set i h1).set j h2).set l h3) m1 e1 q1⟩
  · exact q1.elim
/-- xs[::-1] -/
def wRev (md : Md) (a : DE) : DE := fun ρ M Q => a ρ M fun x M1 => match nrm M1 x with
  | .lst xs => wNew md xs.reverse M1 Q
  | _ => False
theorem tr_rev {K : PySem.W.Frag} {md : Md} {t : TE} {a : DE} (h : Tr t a) : Tr (tRevL K t) (wRev md a) := by
  intro ρ M σ H F Q Qv er m q f
  refine h ρ M σ H F _ _ er m q fun d1 v1 M1 H1 F1 m1 e1 r1 q1 => ?_
  have vw := m1.view r1
  split at q1
  · rename_i xs e
    rw [e] at vw
    obtain ⟨a, vs, rfl, ha, ra⟩ := vw
    exact ⟨a, vs, rfl, .of ha, new_lst m1 ra.reverse q1 (f.ext e1)⟩
  · exact q1.elim
/-- is, is not of bools -/
def wIsB (neg : Bool) : DO := fun x y M Q => match x, y with
  | .bl a, .bl b => Q (.bl (if neg then !decide (a = b) else decide (a = b))) M
  | _, _ => False
theorem ot_isB : OpT rIsB (wIsB false) := by
  intro M H F d1 d2 v1 v2 Q Qv m r1 r2 q f
  unfold wIsB at q
  split at q
  · cases r1; cases r2
    exact ⟨_, _, rfl, rfl, f.here (d := .bl _) m rfl q⟩
  · exact q.elim
theorem ot_notB : OpT rNotB (wIsB true) := by
  intro M H F d1 d2 v1 v2 Q Qv m r1 r2 q f
  unfold wIsB at q
  split at q
  · cases r1; cases r2
    exact ⟨_, _, rfl, rfl, f.here (d := .bl _) m rfl q⟩
  · exact q.elim
/-- *xs in a display or a call -/
def aStar (a : DE) (r : DA) : DA := fun ρ M Q => a ρ M fun x M1 => match nrm M1 x with
  | .lst xs => r ρ M1 fun ys M2 => Q (xs ++ ys) M2
  | .tup xs => r ρ M1 fun ys M2 => Q (xs ++ ys) M2
  | _ => False
theorem ta_star {K : PySem.W.Frag} {te : TE} {t : TA} {a : DE} {r : DA} (ha : Tr te a) (hr : TrA t r) : TrA (StX.tStar K te t) (aStar a r) := by
  intro ρ M σ H F Q Qv er m q f
  refine ha ρ M σ H F _ _ er m q fun d1 v1 M1 H1 F1 m1 e1 r1 q1 => ?_
  have vw := m1.view r1
  split at q1
  · rename_i xs e
    rw [e] at vw
    obtain ⟨a, vs, rfl, ha, ra⟩ := vw
    refine ⟨a, vs, rfl, .inr (.of ha), hr ρ M1 σ H1 F1 _ _ (er.mono e1.fs) m1 q1 fun ds ws M2 H2 F2 m2 e2 r2 q2 => ?_⟩
    exact f (xs ++ ds) _ _ _ _ m2 (e1.trans e2) ((RpL.mono e2.fs _ _ ra).append r2) q2
  · rename_i xs e
    rw [e] at vw
    obtain ⟨a, vs, rfl, ha, ra⟩ := vw
    refine ⟨a, vs, rfl, .inl (.of ha), hr ρ M1 σ H1 F1 _ _ (er.mono e1.fs) m1 q1 fun ds ws M2 H2 F2 m2 e2 r2 q2 => ?_⟩
    exact f (xs ++ ds) _ _ _ _ m2 (e1.trans e2) ((RpL.mono e2.fs _ _ ra).append r2) q2
  · exact q1.elim
/-! ### what is known of a def -/
structure Kn (P : Program) (w : World) (K : PySem.W.Frag) (mg : Str → Option Value) (base : Heap) (x : Str) (ps : List Str) (R : Ct) (k : Nat) (dvs : List V) (ds : List Value) (f : Addr) (fd : FuncData) : Prop where
  ok : FnG P w K mg base k f fd ps (spD R)
  m : mg x = some (.ref f)
  kp : PySem.W.keepIn K (.ref f) = true
  b : Binds K fd ps ds
  dv : Vals dvs ds
/-- keyword calls: n by position, m by name; idx: who comes where -/
def pick {α : Type} (n m : Nat) (idx : List Nat) (us ws : List α) : List α := if us.length = n ∧ ws.length = m then idx.filterMap fun i => (us ++ ws)[i]? else []
theorem pick_vals {n m : Nat} {vs zs : List V} {us ws : List Value} (r : Vals vs us) (r' : Vals zs ws) : ∀ idx, Vals (pick n m idx vs zs) (pick n m idx us ws) := by
  intro idx
  unfold pick
  rw [r.length, r'.length]
  split
  · have rr := r.append r'
    induction idx with
    | nil => exact .nil
    | cons i idx ih =>
      simp only [List.filterMap_cons]
      cases e : (vs ++ zs)[i]? with
      | none => rw [rr.none_of e]; exact ih
      | some x => obtain ⟨u, e1, r1⟩ := rr.get e; rw [e1]; exact .cons r1 ih
  · exact .nil
theorem pick_rp {F : Hp} {n m : Nat} {vs zs : List V} {us ws : List D} (r : RpL F us vs) (r' : RpL F ws zs) : ∀ idx, RpL F (pick n m idx us ws) (pick n m idx vs zs) := by
  intro idx
  unfold pick
  rw [r.length, r'.length]
  split
  · have rr := r.append r'
    induction idx with
    | nil => rfl
    | cons i idx ih =>
      simp only [List.filterMap_cons]
      cases e : (us ++ ws)[i]? with
      | none =>
        have : (vs ++ zs)[i]? = none := by
          rw [List.getElem?_eq_none_iff] at e ⊢
          rw [rr.length]; exact e
        rw [this]; exact ih
      | some x => obtain ⟨u, e1, r1⟩ := rr.get e; rw [e1]; exact ⟨u, _, rfl, r1, ih⟩
  · rfl
theorem kb_of {K : PySem.W.Frag} {x : Str} {st : Stmt} {f : Addr} {fd : FuncData} {ps ks : List Str} (n m : Nat) (idx : List Nat) (F : FnP K x st [] f fd) (hp : ps ≠ [])
    (h : ∀ (kV doc pm : Value) (an : Option Addr) (cdv ct : Value) (us ws : List Value), us.length = n → ws.length = m → bindArgs (PySem.W.fnOf x x (defArgs st) (defBody st) (defScope st) .none kV doc pm an cdv ct) ⟨us, ks.zip ws⟩ = pure (ps.zip (pick n m idx us ws))) :
    KBinds K fd ps ks (pick n m idx) (pick n m idx) := by
  obtain ⟨oc, od, dV, kV, doc, pm, an, cdv, ct, osl, rfl, lk, hcd, hD, hK⟩ := F.ex
  rcases hD with ⟨_, rfl⟩ | ⟨e, _⟩
  · refine ⟨fun s us ws X hl => ?_, fun r r' => pick_vals r r' _⟩
    by_cases c : us.length = n ∧ ws.length = m
    · exact .of_eq (h kV doc pm an cdv ct us ws c.1 c.2)
    · exfalso
      unfold pick at hl
      rw [if_neg c] at hl
      exact hp (List.length_eq_zero_iff.mp hl.symm)
  · exact absurd rfl e
theorem tr_callP {R : Ct} {n m : Nat} {idx : List Nat} {t tk : TA} {a b : DA} (ha : TrA t a) (hb : TrA tk b) : Tr (tCallK (spD R) (pick n m idx) E0 t tk) (wCallK R (pick n m idx) a b) :=
  tr_callK (fun _ _ _ _ _ r r' => pick_rp r r' idx) ha hb
theorem room66 {k : Nat} {A : Around} (r : Room k A) : A.units + 66 < cLine := by have := r.un; omega
theorem room65 {k : Nat} {A : Around} (r : Room k A) : A.units + 65 < cLine := by have := r.un; omega
section
variable {M : Mp}
theorem nrm_non : nrm M .non = .non := rfl
theorem nrm_bl {b : Bool} : nrm M (.bl b) = .bl b := rfl
theorem nrm_int {i : Int} : nrm M (.int i) = .int i := rfl
theorem nrm_str {x : Str} : nrm M (.str x) = .str x := rfl
theorem nrm_ty {n : String} : nrm M (.ty n) = .ty n := rfl
theorem nrm_lst {xs : List D} : nrm M (.lst xs) = .lst xs := rfl
theorem nrm_tupC {xs : List D} : nrm M (.tup xs) = .tup xs := rfl
theorem nrm_dct {ks : List Key} {xs : List D} : nrm M (.dct ks xs) = .dct ks xs := rfl
theorem nrm_scr {K : PySem.W.Frag} {xs : List D} : nrm M (.scr K xs) = .scr K xs := rfl
theorem nrm_refL {a : Addr} {xs : List D} (h : M a = some (.lst xs)) : nrm M (.ref a) = .lst xs := by show nrmA M a = _; unfold nrmA; rw [h]
theorem nrm_refD {a : Addr} {ks : List Key} {xs : List D} (h : M a = some (.dK ks xs)) : nrm M (.ref a) = .dct ks xs := by show nrmA M a = _; unfold nrmA; rw [h]
theorem tyN_non : tyN .non = some "NoneType" := rfl
theorem tyN_bl {b : Bool} : tyN (.bl b) = some "bool" := rfl
theorem tyN_int {b : Int} : tyN (.int b) = some "int" := rfl
theorem tyN_str {b : Str} : tyN (.str b) = some "str" := rfl
theorem tyN_lst {b : List D} : tyN (.lst b) = some "list" := rfl
theorem tyN_tup {b : List D} : tyN (.tup b) = some "tuple" := rfl
theorem tyN_dct {k : List Key} {b : List D} : tyN (.dct k b) = some "dict" := rfl
end
/-- kinds that isinstance is asked of -/
theorem nrm_ne {M : Mp} {x : D} {p : Addr} {m : MO} (h : x ≠ .ref p) : nrm (M.set p m) x = nrm M x := by
  cases x with
  | ref a =>
    have : a ≠ p := fun e => h (by rw [e])
    show nrmA (M.set p m) a = nrmA M a
    unfold nrmA
    rw [Mp.set_ne this]
  | _ => rfl
theorem isL_lst {M : Mp} {a : Addr} {xs : List D} (h : M a = some (.lst xs)) : isL M (.ref a) = true := by unfold isL; rw [nrm_refL h]
/-! ### comprehensions that leave the table as it is -/
theorem lc_fm {md : Md} {di : DI} {g : DG} {tt : DT} {te : DE} {vs : List Nat} {ρ : DEnv} {M : Mp} {Q : DK} {xs : List D} {P : Mp → Prop} (p : D → Bool) (f : D → D) (hi : ∀ R, R xs P M → di ρ M R) (hP : P M) (hz : Sz xs.length)
    (hs : ∀ x ∈ xs, ∀ (C1 : DK) (C0 : Mp → Prop), (p x = true → C1 (f x) M) → (p x = false → C0 M) → g x (wipeD ρ vs) M fun ρ2 M2 => tt ρ2 M2 fun b M3 => if b = true then te ρ2 M3 C1 else C0 M3)
    (hq : wNew md ((xs.filter p).map f) M Q) : wLc md di g tt te vs ρ M Q := by
  refine hi _ ⟨hz, fun i acc M' => acc = ((xs.take i).filter p).map f ∧ M' = M, ⟨rfl, rfl⟩, fun i acc M' _ h => h.2 ▸ hP, fun i x acc M' hx h => ?_, fun acc M' h => ?_⟩
  · obtain ⟨rfl, rfl⟩ := h
    have et : xs.take (i + 1) = xs.take i ++ [x] := by rw [List.take_add_one, hx]; rfl
    refine hs x (List.mem_of_getElem? hx) _ _ (fun hp => ⟨?_, rfl⟩) (fun hp => ⟨?_, rfl⟩)
    · rw [et, List.filter_append, List.map_append]; simp [hp]
    · rw [et, List.filter_append, List.map_append]; simp [hp]
  · obtain ⟨rfl, rfl⟩ := h
    rw [List.take_length]; exact hq
theorem lc_map {md : Md} {di : DI} {g : DG} {te : DE} {vs : List Nat} {ρ : DEnv} {M : Mp} {Q : DK} {xs : List D} {P : Mp → Prop} (f : D → D) (hi : ∀ R, R xs P M → di ρ M R) (hP : P M) (hz : Sz xs.length)
    (hs : ∀ x ∈ xs, ∀ (C : DK), C (f x) M → g x (wipeD ρ vs) M fun ρ2 M2 => te ρ2 M2 C)
    (hq : wNew md (xs.map f) M Q) : wLc md di g tYesD te vs ρ M Q := by
  refine lc_fm (fun _ => true) f hi hP hz (fun x hx C1 C0 h1 _ => hs x hx C1 (h1 rfl)) ?_
  rw [List.filter_eq_self.mpr (by simp)]; exact hq
/-- .. of ints, by ints -/
theorem lc_ints {md : Md} {di : DI} {g : DG} {te : DE} {vs : List Nat} {ρ : DEnv} {M : Mp} {Q : DK} {ns : List Int} {P : Mp → Prop} (f : Int → Int) (hi : ∀ R, R (ns.map D.int) P M → di ρ M R) (hP : P M) (hz : Sz ns.length)
    (hs : ∀ n ∈ ns, ∀ (C : DK), C (.int (f n)) M → g (.int n) (wipeD ρ vs) M fun ρ2 M2 => te ρ2 M2 C)
    (hq : wNew md ((ns.map f).map D.int) M Q) : wLc md di g tYesD te vs ρ M Q := by
  refine lc_map (fun d => match d with | .int n => .int (f n) | d => d) hi hP (by simpa using hz) (fun x hx C h => ?_) ?_
  · obtain ⟨n, hn, rfl⟩ := List.mem_map.mp hx
    exact hs n hn C h
  · have e : (ns.map D.int).map (fun d => match d with | .int n => D.int (f n) | d => d) = (ns.map f).map D.int := by
      rw [List.map_map, List.map_map]; rfl
    rw [e]; exact hq
/-- lo, lo + c, .. as ints -/
def rngI (lo c : Int) (n : Nat) : List Int := (List.range n).map fun i => lo + (i : Nat) * c
theorem rngD_ints {lo c : Int} {n : Nat} : rngD lo c n = (rngI lo c n).map D.int := by simp [rngD, rngI]
theorem rngI_length {lo c : Int} {n : Nat} : (rngI lo c n).length = n := by simp [rngI]
theorem drop_cons_of {ns : List Int} {i : Nat} {k : Int} (h : ns[i]? = some k) : ns.drop i = k :: ns.drop (i + 1) := by
  obtain ⟨h1, h2⟩ := List.getElem?_eq_some_iff.mp h
  rw [List.drop_eq_getElem_cons h1, h2]
theorem mem_rngI {n : Nat} {x : Int} : x ∈ rngI 0 1 n ↔ 0 ≤ x ∧ x < n := by
  simp only [rngI, List.mem_map, List.mem_range]
  constructor
  · rintro ⟨i, h, rfl⟩; omega
  · rintro ⟨h0, h1⟩; exact ⟨x.toNat, by omega, by omega⟩
theorem rngI_sorted {n : Nat} : (rngI 0 1 n).Pairwise (· ≤ ·) := by
  unfold rngI
  rw [List.pairwise_map]
  exact List.pairwise_le_range.imp fun h => by omega
theorem rngI_nodup {n : Nat} : (rngI 0 1 n).Nodup := by
  unfold rngI
  rw [List.nodup_iff_pairwise_ne, List.pairwise_map]
  exact List.nodup_range.imp fun h e => h (by omega)
/-! ### == of lists of ints -/
theorem toPDs_ints : ∀ ns : List Int, toPDs (ns.map D.int) = ns.map PyData.int
  | [] => rfl
  | n :: ns => by simp [toPDs, toPD, toPDs_ints ns]
theorem deq_ints {a b : List Int} : deq (.lst (a.map D.int)) (.lst (b.map D.int)) = decide (a = b) := by
  simp only [deq, toPD, toPDs_ints, PyData.eqv]
  induction a generalizing b with
  | nil => cases b <;> simp [PyData.eqvAll]
  | cons x xs ih =>
    cases b with
    | nil => simp [PyData.eqvAll]
    | cons y ys =>
      simp only [List.map_cons, PyData.eqvAll, PyData.eqv, ih]
      rw [Bool.eq_iff_iff]; simp
theorem canLay_ints : ∀ ns : List Int, PyData.canLayAll0 (ns.map PyData.int) = true
  | [] => rfl
  | n :: ns => by simp [PyData.canLayAll0, PyData.canLay0, canLay_ints ns]
theorem depth_ints : ∀ ns : List Int, PyData.depthAll (ns.map PyData.int) ≤ 1
  | [] => by simp [PyData.depthAll]
  | n :: ns => by have := depth_ints ns; simp only [List.map_cons, PyData.depthAll, PyData.depth]; omega
theorem pdOk_ints {a : List Int} : pdOk (.lst (a.map D.int)) = true := by
  simp only [pdOk, toPD, toPDs_ints, SeqAt.shaped, PyData.canLay0, canLay_ints, Bool.true_and, PyData.depth, decide_eq_true_eq]
  have := depth_ints a
  omega

/-! ### the table read as plain data, for an expression that gives a flat value -/
mutual
inductive Rs (M : Mp) : D → D → Prop
  | same (d : D) : Rs M d d
  | ref {a : Addr} {xs ys : List D} (h : M a = some (.lst xs)) (r : RsL M xs ys) : Rs M (.ref a) (.lst ys)
  | refD {a : Addr} {ks : List Key} {xs ys : List D} (h : M a = some (.dK ks xs)) (r : RsL M xs ys) : Rs M (.ref a) (.dct ks ys)
  | lst {xs ys : List D} (r : RsL M xs ys) : Rs M (.lst xs) (.lst ys)
  | tup {xs ys : List D} (r : RsL M xs ys) : Rs M (.tup xs) (.tup ys)
inductive RsL (M : Mp) : List D → List D → Prop
  | same (xs : List D) : RsL M xs xs
  | cons {x y : D} {xs ys : List D} (h : Rs M x y) (r : RsL M xs ys) : RsL M (x :: xs) (y :: ys)
end
mutual
theorem Rs.rp {M : Mp} {H F : Hp} (m : Mem M H F) : ∀ {d d' : D} {v : V}, Rs M d d' → Rp F d v → Rp H d' v
  | _, _, _, .same d, r => Rp.mono m.same d _ r
  | _, _, v, .ref (a := a) h rl, r => by
    have r : v = .ref a := r
    subst r
    obtain ⟨_, o, ho, vs, rfl, rr⟩ := m.mem a _ h
    exact ⟨a, vs, rfl, ho, RsL.rp m rl rr⟩
  | _, _, v, .refD (a := a) h rl, r => by
    have r : v = .ref a := r
    subst r
    obtain ⟨_, o, ho, kvs, rfl, hk, rr⟩ := m.mem a _ h
    exact ⟨a, kvs, rfl, ho, hk, RsL.rp m rl rr⟩
  | _, _, _, .lst rl, ⟨a, vs, e, f, r⟩ => ⟨a, vs, e, m.same _ _ f, RsL.rp m rl r⟩
  | _, _, _, .tup rl, ⟨a, vs, e, f, r⟩ => ⟨a, vs, e, m.same _ _ f, RsL.rp m rl r⟩
theorem RsL.rp {M : Mp} {H F : Hp} (m : Mem M H F) : ∀ {d d' : List D} {v : List V}, RsL M d d' → RpL F d v → RpL H d' v
  | _, _, _, .same d, r => RpL.mono m.same d _ r
  | _, _, _, .cons h rl, ⟨v, r, e, h1, h2⟩ => ⟨v, r, e, Rs.rp m h h1, RsL.rp m rl h2⟩
end
inductive RsE (M : Mp) : DEnv → DEnv → Prop
  | same (ρ : DEnv) : RsE M ρ ρ
  | cons {x y : D} {ρ ρ' : DEnv} (h : Rs M x y) (r : RsE M ρ ρ') : RsE M (some x :: ρ) (some y :: ρ')
  | skip {x : Option D} {ρ ρ' : DEnv} (r : RsE M ρ ρ') : RsE M (x :: ρ) (x :: ρ')
theorem RsE.env {M : Mp} {H F : Hp} (m : Mem M H F) : ∀ {ρ ρ' : DEnv} {σ : L2.St}, RsE M ρ ρ' → EnvR F ρ σ → EnvR H ρ' σ
  | _, _, _, .same ρ, r => r.mono m.same
  | _, _, σ, .cons (x := x) (y := y) (ρ := ρ) (ρ' := ρ') h rl, r => by
    have hl : σ.length = ρ.length + 1 := by simpa using r.len
    obtain ⟨v, e1, r1⟩ := r.at_ 0 x rfl
    cases σ with
    | nil => simp at e1
    | cons s σ =>
      have tl : EnvR F ρ σ := ⟨by simpa using hl, fun i d e => by simpa using r.at_ (i + 1) d (by simpa using e)⟩
      have ih := RsE.env m rl tl
      refine ⟨by have := ih.len; simp [this], fun i d e => ?_⟩
      cases i with
      | zero =>
        simp only [List.getElem?_cons_zero, Option.some.injEq] at e e1
        subst e
        exact ⟨v, by simpa using e1, Rs.rp m h r1⟩
      | succ i => simpa using ih.at_ i d (by simpa using e)
  | _, _, σ, .skip (x := x) (ρ := ρ) (ρ' := ρ') rl, r => by
    have hl : σ.length = ρ.length + 1 := by simpa using r.len
    cases σ with
    | nil => simp at hl
    | cons s σ =>
      have tl : EnvR F ρ σ := ⟨by simpa using hl, fun i d e => by simpa using r.at_ (i + 1) d (by simpa using e)⟩
      have ih := RsE.env m rl tl
      refine ⟨by have := ih.len; simp [this], fun i d e => ?_⟩
      cases i with
      | zero =>
        obtain ⟨v, e1, r1⟩ := r.at_ 0 d e
        exact ⟨v, e1, Rp.mono m.same _ _ r1⟩
      | succ i => simpa using ih.at_ i d (by simpa using e)
def M0 : Mp := fun _ => none
theorem Mem.all (H : Hp) : Mem M0 H H := ⟨.refl H, fun _ _ e => nomatch e⟩
theorem Ext.back {M M2 : Mp} {H F H2 F2 : Hp} (m : Mem M H F) (e : Ext M0 H H M2 H2 F2) : Mem M H2 F ∧ Ext M H F M H2 F :=
  ⟨⟨fun b o h => e.keep b o (m.same b o h) rfl, fun a q h => let ⟨h1, o, h2, h3⟩ := m.mem a q h; ⟨h1, o, e.keep a o h2 rfl, h3⟩⟩, ⟨.refl _, fun a o h _ => e.keep a o h rfl, fun _ h => .inl h, fun _ h => .inl h⟩⟩
def wSnap (w : DE) : DE := fun ρ M Q => ∃ ρ', RsE M ρ ρ' ∧ w ρ' M0 fun d _ => flatD d = true ∧ Q d M
theorem tr_snap {t : TE} {w : DE} (h : Tr t w) : Tr t (wSnap w) := by
  intro ρ M σ H F Q Qv er m q f
  obtain ⟨ρ', rs, q⟩ := q
  refine h ρ' M0 σ H H _ _ (rs.env m er) (Mem.all H) q fun d v M' H' F' m' e' r' q' => ?_
  obtain ⟨mb, eb⟩ := e'.back m
  refine f d v M H' F mb eb ?_ q'.2
  cases d <;> first | exact r' | cases q'.1
def tSnap (w : DT) : DT := fun ρ M Q => ∃ ρ', RsE M ρ ρ' ∧ w ρ' M0 fun d _ => Q d M
theorem tt_snap {t : TT} {w : DT} (h : TrT t w) : TrT t (tSnap w) := by
  intro ρ M σ H F Q Qv er m q f
  obtain ⟨ρ', rs, q⟩ := q
  refine h ρ' M0 σ H H _ _ (rs.env m er) (Mem.all H) q fun d M' H' F' m' e' q' => ?_
  obtain ⟨mb, eb⟩ := e'.back m
  exact f d M H' F mb eb q'
section
variable {P : Program} {w : World} {K : PySem.W.Frag} {mg : Str → Option Value} {base : Heap}
/-- a contract that promises nothing -/
theorem fnNever {f : Addr} {fd : FuncData} {ps : List Str} {R : Ct} {k : Nat} (h : ∀ ds M Q, ¬ R ds M Q) : FnG P w K mg base k f fd ps (spD R) :=
  ⟨fun ⟨ds, M, _, QD, _, _, r, _⟩ => (h ds M QD r).elim, fun _ _ _ _ _ ⟨ds, M, _, QD, _, _, r, _⟩ => (h ds M QD r).elim⟩
end
/-! ### plain data for comparing -/
theorem pdOk_bl (b : Bool) : pdOk (.bl b) = true := by simp [pdOk, toPD, SeqAt.shaped, PyData.canLay0, PyData.depth]
theorem pdOk_non : pdOk .non = true := by simp [pdOk, toPD, SeqAt.shaped, PyData.canLay0, PyData.depth]
theorem deq_bl (a b : Bool) : deq (.bl a) (.bl b) = (a == b) := by simp [deq, toPD, PyData.eqv]
theorem deq_refl {d : D} (h : pdOk d = true) : deq d d = true := SeqAt.eqv_refl _ (SeqAt.canLay_of_shaped h)
mutual
/-- data of at most that depth, no list too long -/
def okD : Nat → D → Bool
  | n + 1, .lst xs => decide (xs.length ≤ 16777216) && okDs n xs
  | n + 1, .tup xs => decide (xs.length ≤ 16777216) && okDs n xs
  | _ + 1, .int _ => true
  | _ + 1, .bl _ => true
  | _ + 1, .non => true
  | _ + 1, .str x => PyData.canLay0 (.str x)
  | _, _ => false
def okDs : Nat → List D → Bool
  | _, [] => true
  | n, x :: xs => okD n x && okDs n xs
end
theorem okDs_mem {n : Nat} : ∀ {xs : List D}, okDs n xs = true → ∀ x ∈ xs, okD n x = true
  | [], _, x, h => nomatch h
  | y :: ys, h, x, hx => by
    simp only [okDs, Bool.and_eq_true] at h
    rcases List.mem_cons.mp hx with rfl | hx
    · exact h.1
    · exact okDs_mem h.2 x hx
theorem okDs_all {n : Nat} : ∀ {xs : List D}, (∀ x ∈ xs, okD n x = true) → okDs n xs = true
  | [], _ => by simp [okDs]
  | y :: ys, h => by
    simp only [okDs, Bool.and_eq_true]
    exact ⟨h y (by simp), okDs_all fun x hx => h x (by simp [hx])⟩
theorem okD_ints {n : Nat} {ns : List Int} (h : ns.length ≤ 16777216) : okD (n + 2) (.lst (ns.map D.int)) = true := by
  simp only [okD, List.length_map, Bool.and_eq_true, decide_eq_true_iff]
  refine ⟨h, okDs_all fun x hx => ?_⟩
  obtain ⟨i, _, rfl⟩ := List.mem_map.mp hx
  simp [okD]
/-! ### forgetting entries of the table -/
def MLe (M' M : Mp) : Prop := ∀ a m, M' a = some m → M a = some m
def wFgt (w : DE) : DE := fun ρ M Q => w ρ M fun d M1 => ∃ M2, MLe M2 M1 ∧ Q d M2
theorem Mem.less {M M' : Mp} {H F : Hp} (m : Mem M H F) (l : MLe M' M) : Mem M' H F ∧ Ext M H F M' H F :=
  ⟨⟨m.same, fun a q e => m.mem a q (l a q e)⟩, ⟨.refl _, fun a o h _ => h, fun a h => by
    cases e : M' a with
    | none => exact absurd e h
    | some q => exact .inl (by rw [l a q e]; exact fun z => nomatch z), fun a h => .inl h⟩⟩
theorem tr_fgt {t : TE} {w : DE} (h : Tr t w) : Tr t (wFgt w) := by
  intro ρ M σ H F Q Qv er m q f
  refine h ρ M σ H F _ _ er m q fun d v M' H' F' m' e' r' q' => ?_
  obtain ⟨M2, l, q2⟩ := q'
  obtain ⟨m2, e2⟩ := m'.less l
  exact f d v M2 H' F' m2 (e'.trans e2) r' q2
theorem MLe.refl (M : Mp) : MLe M M := fun _ _ h => h
theorem MLe.set {M : Mp} {p : Addr} {m : MO} (h : M p = none) : MLe M (M.set p m) := fun a q e => by
  rw [Mp.set_ne (fun z => by subst z; rw [h] at e; cases e)]; exact e
theorem MLe.trans {M1 M2 M3 : Mp} (a : MLe M1 M2) (b : MLe M2 M3) : MLe M1 M3 := fun p q e => b p q (a p q e)
theorem MLe.set2 {M M' : Mp} {p : Addr} {m : MO} (h : MLe M M') : MLe (M.set p m) (M'.set p m) := fun a q e => by
  by_cases ha : a = p
  · subst ha; rw [Mp.set_same] at e ⊢; exact e
  · rw [Mp.set_ne ha] at e ⊢; exact h a q e
/-- the elder of two new ones is forgotten -/
theorem MLe.swap {M : Mp} {p r : Addr} {m m' : MO} (h : M p = none) : MLe (M.set r m') ((M.set p m).set r m') := MLe.set2 (MLe.set h)
theorem nrm_setL {M : Mp} {p : Addr} {xs : List D} : nrm (M.set p (.lst xs)) (.ref p) = .lst xs := nrm_refL Mp.set_same
/-! ### comprehensions of ints with a test; ranges -/
theorem lc_intsF {md : Md} {di : DI} {g : DG} {tt : DT} {te : DE} {vs : List Nat} {ρ : DEnv} {M : Mp} {Q : DK} {ns : List Int} {P : Mp → Prop} (p : Int → Bool) (f : Int → Int) (hi : ∀ R, R (ns.map D.int) P M → di ρ M R) (hP : P M) (hz : Sz ns.length)
    (hs : ∀ n ∈ ns, ∀ (C1 : DK) (C0 : Mp → Prop), (p n = true → C1 (.int (f n)) M) → (p n = false → C0 M) → g (.int n) (wipeD ρ vs) M fun ρ2 M2 => tt ρ2 M2 fun b M3 => if b = true then te ρ2 M3 C1 else C0 M3)
    (hq : wNew md (((ns.filter p).map f).map D.int) M Q) : wLc md di g tt te vs ρ M Q := by
  refine lc_fm (fun d => match d with | .int n => p n | _ => false) (fun d => match d with | .int n => .int (f n) | d => d) hi hP (by simpa using hz) (fun x hx C1 C0 h1 h0 => ?_) ?_
  · obtain ⟨n, hn, rfl⟩ := List.mem_map.mp hx
    exact hs n hn C1 C0 h1 h0
  · have e : ((ns.map D.int).filter (fun d => match d with | .int n => p n | _ => false)).map (fun d => match d with | .int n => D.int (f n) | d => d) = ((ns.filter p).map f).map D.int := by
      rw [List.filter_map, List.map_map, List.map_map]; rfl
    rw [e]; exact hq
/-- a comprehension over things that look like data -/
theorem lc_gen {α : Type} {md : Md} {di : DI} {g : DG} {tt : DT} {te : DE} {vs : List Nat} {ρ : DEnv} {M : Mp} {Q : DK} {P : Mp → Prop} (l : List α) (G : α → D) (p : α → Bool) (f : α → D) (hi : ∀ R, R (l.map G) P M → di ρ M R) (hP : P M) (hz : Sz l.length)
    (hs : ∀ x ∈ l, ∀ (C1 : DK) (C0 : Mp → Prop), (p x = true → C1 (f x) M) → (p x = false → C0 M) → g (G x) (wipeD ρ vs) M fun ρ2 M2 => tt ρ2 M2 fun b M3 => if b = true then te ρ2 M3 C1 else C0 M3)
    (hq : wNew md ((l.filter p).map f) M Q) : wLc md di g tt te vs ρ M Q := by
  refine hi _ ⟨by simpa using hz, fun i acc M' => acc = ((l.take i).filter p).map f ∧ M' = M, ⟨rfl, rfl⟩, fun i acc M' _ h => h.2 ▸ hP, fun i d acc M' hd h => ?_, fun acc M' h => ?_⟩
  · obtain ⟨rfl, rfl⟩ := h
    rw [List.getElem?_map] at hd
    obtain ⟨x, hx, rfl⟩ := Option.map_eq_some_iff.mp hd
    have et : l.take (i + 1) = l.take i ++ [x] := by rw [List.take_add_one, hx]; rfl
    refine hs x (List.mem_of_getElem? hx) _ _ (fun hp => ⟨?_, rfl⟩) (fun hp => ⟨?_, rfl⟩)
    · rw [et, List.filter_append, List.map_append]; simp [hp]
    · rw [et, List.filter_append, List.map_append]; simp [hp]
  · obtain ⟨rfl, rfl⟩ := h
    rw [List.length_map, List.take_length]; exact hq
/-- .. whose walk is found already -/
theorem comp_gen {α : Type} {md : Md} {g : DG} {tt : DT} {te : DE} {vs : List Nat} {ρ : DEnv} {M : Mp} {Q : DK} {P : Mp → Prop} {xs : List D} (l : List α) (G : α → D) (p : α → Bool) (f : α → D) (hx : xs = l.map G) (hP : P M) (hz : Sz l.length)
    (hs : ∀ x ∈ l, ∀ (C1 : DK) (C0 : Mp → Prop), (p x = true → C1 (f x) M) → (p x = false → C0 M) → g (G x) (wipeD ρ vs) M fun ρ2 M2 => tt ρ2 M2 fun b M3 => if b = true then te ρ2 M3 C1 else C0 M3)
    (hq : wNew md ((l.filter p).map f) M Q) : Sz xs.length ∧ ∃ W : Nat → List D → Mp → Prop, W 0 [] M ∧ (∀ i acc M, i ≤ xs.length → W i acc M → P M) ∧
      (∀ i x acc M, xs[i]? = some x → W i acc M → g x (wipeD ρ vs) M fun ρ2 M2 => tt ρ2 M2 fun b M3 => if b = true then te ρ2 M3 fun y M4 => W (i + 1) (acc ++ [y]) M4 else W (i + 1) acc M3) ∧ ∀ acc M, W xs.length acc M → wNew md acc M Q := by
  subst hx
  exact lc_gen (di := fun _ M Q => Q (l.map G) P M) l G p f (fun R h => h) hP hz hs hq
theorem enumD_rng {ns : List Int} : enumD (ns.map D.int) = (rngI 0 1 ns.length).map fun i => .tup [.int i, .int (ns.getD i.toNat 0)] := by
  apply List.ext_getElem?
  intro i
  by_cases h : i < ns.length
  · rw [enumD_get (d := .int ns[i]) (by rw [List.getElem?_map, List.getElem?_eq_getElem h]; rfl)]
    have e : (rngI 0 1 ns.length)[i]? = some (i : Int) := by
      unfold rngI
      rw [List.getElem?_map, List.getElem?_range h]
      simp
    rw [List.getElem?_map, e]
    simp [List.getD_eq_getElem?_getD, List.getElem?_eq_getElem h]
  · rw [List.getElem?_eq_none (by rw [enumD_length, List.length_map]; omega), List.getElem?_eq_none (by rw [List.length_map, rngI_length]; omega)]
/-- a comprehension over ints, by what holds after so many -/
theorem wLc_ints {md : Md} {di : DI} {g : DG} {tt : DT} {te : DE} {vs : List Nat} {ρ : DEnv} {M : Mp} {Q : DK} {ns : List Int} {P : Mp → Prop} (W : Nat → List D → Mp → Prop) (hi : ∀ R, R (ns.map D.int) P M → di ρ M R) (hz : Sz ns.length) (h0 : W 0 [] M) (hP : ∀ i acc M', i ≤ ns.length → W i acc M' → P M')
    (hs : ∀ i n acc M', ns[i]? = some n → W i acc M' → g (.int n) (wipeD ρ vs) M' fun ρ2 M2 => tt ρ2 M2 fun b M3 => if b = true then te ρ2 M3 fun y M4 => W (i + 1) (acc ++ [y]) M4 else W (i + 1) acc M3)
    (hq : ∀ acc M', W ns.length acc M' → wNew md acc M' Q) : wLc md di g tt te vs ρ M Q := by
  refine hi _ ⟨by simpa using hz, W, h0, fun i acc M' hl h => hP i acc M' (by simpa using hl) h, fun i x acc M' hx h => ?_, fun acc M' h => hq acc M' (by simpa using h)⟩
  rw [List.getElem?_map] at hx
  obtain ⟨n, hn, rfl⟩ := Option.map_eq_some_iff.mp hx
  exact hs i n acc M' hn h
/-- a comprehension that takes none, for what its test does -/
theorem lc_skip {md : Md} {di : DI} {g : DG} {tt : DT} {te : DE} {vs : List Nat} {ρ : DEnv} {M : Mp} {Q : DK} {ns : List Int} {P : Mp → Prop} (W : Nat → Mp → Prop) (hi : ∀ R, R (ns.map D.int) P M → di ρ M R) (hz : Sz ns.length) (h0 : W 0 M) (hP : ∀ i M', i ≤ ns.length → W i M' → P M')
    (hs : ∀ i n M', ns[i]? = some n → W i M' → ∀ (C1 : DK) (C0 : Mp → Prop), (∀ M2, W (i + 1) M2 → C0 M2) → g (.int n) (wipeD ρ vs) M' fun ρ2 M2 => tt ρ2 M2 fun b M3 => if b = true then te ρ2 M3 C1 else C0 M3)
    (hq : ∀ M', W ns.length M' → wNew md [] M' Q) : wLc md di g tt te vs ρ M Q := by
  refine hi _ ⟨by simpa using hz, fun i acc M' => acc = [] ∧ W i M', ⟨rfl, h0⟩, fun i acc M' hl h => hP i M' (by simpa using hl) h.2, fun i x acc M' hx h => ?_, fun acc M' h => ?_⟩
  · obtain ⟨rfl, h⟩ := h
    rw [List.getElem?_map] at hx
    obtain ⟨n, hn, rfl⟩ := Option.map_eq_some_iff.mp hx
    exact hs i n M' hn h _ _ fun M2 h2 => ⟨rfl, h2⟩
  · obtain ⟨rfl, h⟩ := h
    exact hq M' (by simpa using h)
theorem rngN_neg {i j c : Int} (hc : c < 0) (h : j ≤ i) : rngN i j c ≤ (i - j).toNat := by
  unfold rngN Builtin.Range.rangeSize
  rw [if_neg (by omega)]
  split
  · have : (i - j - 1) / -c ≤ i - j - 1 := ediv_le_self' (by omega) (by omega)
    omega
  · omega
theorem rngN_pos {i j c : Int} (hc : 0 < c) (h : i ≤ j) : rngN i j c ≤ (j - i).toNat := by
  unfold rngN Builtin.Range.rangeSize
  rw [if_pos (by omega)]
  split
  · have : (j - i - 1) / c ≤ j - i - 1 := ediv_le_self' (by omega) (by omega)
    omega
  · omega
theorem filter_len {α : Type} (p : α → Bool) (l : List α) : (l.filter p).length ≤ l.length := List.length_filter_le p l
/-- a loop over ints, by what holds after so many -/
theorem for_ints {di : DI} {g : DG} {tb : DS} {Dd : DEnds} {ρ : DEnv} {M : Mp} {ns : List Int} {P : Mp → Prop} (W : Nat → DEnv → Mp → Prop) (hi : ∀ R, R (ns.map D.int) P M → di ρ M R) (h0 : W 0 ρ M) (hP : ∀ i ρ M, i ≤ ns.length → W i ρ M → P M)
    (hs : ∀ i n ρ M, ns[i]? = some n → W i ρ M → g (.int n) ρ M fun ρ1 M1 => tb { Dd with nx := W (i + 1), ct := W (i + 1), bk := Dd.nx } ρ1 M1) (he : ∀ ρ M, W ns.length ρ M → Dd.nx ρ M) : sFor di g tb Dd ρ M := by
  refine hi _ ⟨W, h0, fun i ρ M hi w => hP i ρ M (by simpa using hi) w, fun i x ρ M hx w => ?_, fun ρ M w => he ρ M (by simpa using w)⟩
  rw [List.getElem?_map] at hx
  obtain ⟨n, hn, rfl⟩ := Option.map_eq_some_iff.mp hx
  exact hs i n ρ M hn w
theorem for_of {di : DI} {g : DG} {tb : DS} {Dd : DEnds} {ρ : DEnv} {M : Mp} {xs : List D} {P : Mp → Prop} (W : Nat → DEnv → Mp → Prop) (hi : ∀ R, R xs P M → di ρ M R) (h0 : W 0 ρ M) (hP : ∀ i ρ M, i ≤ xs.length → W i ρ M → P M)
    (hs : ∀ i x ρ M, xs[i]? = some x → W i ρ M → g x ρ M fun ρ1 M1 => tb { Dd with nx := W (i + 1), ct := W (i + 1), bk := Dd.nx } ρ1 M1) (he : ∀ ρ M, W xs.length ρ M → Dd.nx ρ M) : sFor di g tb Dd ρ M := hi _ ⟨W, h0, hP, hs, he⟩
theorem rngI_get {lo c : Int} {n i : Nat} {x : Int} (h : (rngI lo c n)[i]? = some x) : i < n ∧ x = lo + (i : Nat) * c := by
  unfold rngI at h
  rw [List.getElem?_map] at h
  obtain ⟨j, hj, rfl⟩ := Option.map_eq_some_iff.mp h
  obtain ⟨h1, h2⟩ := List.getElem?_eq_some_iff.mp hj
  simp only [List.getElem_range] at h2
  subst h2
  exact ⟨by simpa using h1, rfl⟩
theorem MLe.put {M M' : Mp} {p : Addr} {m : MO} (l : MLe M M') (h : M p = none) : MLe M (M'.set p m) := fun a q e => by
  rw [Mp.set_ne (fun z => by subst z; rw [h] at e; cases e)]; exact l a q e
theorem MLe.del {M M' : Mp} {p : Addr} (l : MLe M M') (h : M p = none) : MLe M (M'.del p) := fun a q e => by
  rw [Mp.del_ne (fun z => by subst z; rw [h] at e; cases e)]; exact l a q e
theorem MLe.none {M M' : Mp} {p : Addr} (l : MLe M M') (h : M' p = none) : M p = none := by
  cases e : M p with
  | none => rfl
  | some q => rw [l p q e] at h; cases h
theorem Mp.swap {M : Mp} {p q : Addr} {a b : MO} (h : p ≠ q) : (M.set p a).set q b = (M.set q b).set p a := by
  funext x
  by_cases h1 : x = p
  · subst h1; rw [Mp.set_ne h, Mp.set_same, Mp.set_same]
  · rw [Mp.set_ne (M := M.set q b) h1]
    by_cases h2 : x = q
    · subst h2; rw [Mp.set_same, Mp.set_same]
    · rw [Mp.set_ne h2, Mp.set_ne h1, Mp.set_ne h2]
theorem Mp.set_in {M : Mp} {p q : Addr} {a b c : MO} (h : p ≠ q) : ((M.set p a).set q b).set p c = (M.set p c).set q b := by
  rw [Mp.swap h, Mp.set_set, Mp.swap h.symm]
theorem Mp.ne {M : Mp} {p q : Addr} {m : MO} (h : M p = none) (h' : M q = some m) : q ≠ p := fun z => by subst z; rw [h] at h'; cases h'
/-! ### lists -/
theorem nodup_sub {α : Type} [DecidableEq α] : ∀ {l m : List α}, l.Nodup → (∀ x ∈ l, x ∈ m) → l.length ≤ m.length
  | [], _, _, _ => Nat.zero_le _
  | x :: l, m, h, s => by
    have h1 := List.nodup_cons.mp h
    have hx := s x (by simp)
    have ih := nodup_sub (l := l) (m := m.erase x) h1.2 fun y hy => by
      have hne : y ≠ x := fun e => h1.1 (e ▸ hy)
      exact (List.mem_erase_of_ne hne).mpr (s y (by simp [hy]))
    rw [List.length_erase_of_mem hx] at ih
    have : 0 < m.length := List.length_pos_of_mem hx
    simp only [List.length_cons]
    omega
theorem nodup_below {n : Nat} {l : List Int} (h : l.Nodup) (b : ∀ x ∈ l, 0 ≤ x ∧ x < n) : l.length ≤ n := by
  have := nodup_sub (m := rngI 0 1 n) h fun x hx => mem_rngI.mpr (b x hx)
  rwa [rngI_length] at this
/-! ### dicts of ints -/
theorem look_isSome {k : Int} : ∀ {ks : List Int} {xs : List D}, xs.length = ks.length → (look (ks.map Sum.inl) xs (.inl k)).isSome = decide (k ∈ ks)
  | [], xs, h => by cases xs <;> simp [look]
  | j :: ks, [], h => by simp at h
  | j :: ks, x :: xs, h => by
    simp only [List.map_cons, look, List.mem_cons]
    by_cases e : j = k
    · subst e; simp
    · have : ¬ (Sum.inl j : Key) = .inl k := fun z => e (Sum.inl.inj z)
      rw [if_neg this, look_isSome (by simpa using h)]
      have e' : ¬ k = j := fun z => e z.symm
      simp [e']
theorem putKs_new {k : Int} {ks : List Int} (h : k ∉ ks) : putKs (ks.map Sum.inl) (.inl k) = (ks ++ [k]).map Sum.inl := by
  unfold putKs
  rw [if_neg]
  · simp
  · simp only [List.any_map, List.any_eq_true, not_exists, not_and]
    intro x hx
    simp only [Function.comp, decide_eq_true_eq]
    intro e; exact h (Sum.inl.inj e ▸ hx)
theorem putXs_new {k : Int} {ks : List Int} {xs : List D} {d : D} (h : k ∉ ks) : putXs (ks.map Sum.inl) xs (.inl k) d = xs ++ [d] := by
  unfold putXs
  rw [if_neg]
  simp only [List.any_map, List.any_eq_true, not_exists, not_and]
  intro x hx
  simp only [Function.comp, decide_eq_true_eq]
  intro e; exact h (Sum.inl.inj e ▸ hx)
theorem atI_int {ns : List Int} {i : Int} (h0 : 0 ≤ i) (h1 : i < ns.length) : atI (ns.map D.int) i = some (.int (ns.getD i.toNat 0)) := by
  unfold atI ixN
  rw [List.length_map, if_pos h0, if_pos h1]
  simp only [Option.bind_some]
  rw [List.getElem?_map, List.getD_eq_getElem?_getD, List.getElem?_eq_getElem (by omega)]
  rfl
theorem atI_last {ns : List Int} (h : 0 < ns.length) : atI (ns.map D.int) (-1) = some (.int (ns.getD (ns.length - 1) 0)) := by
  unfold atI ixN
  rw [List.length_map, if_neg (by omega), if_pos (by omega)]
  simp only [Option.bind_some]
  rw [List.getElem?_map, List.getD_eq_getElem?_getD, show (-1 + (ns.length : Int)).toNat = ns.length - 1 by omega, List.getElem?_eq_getElem (by omega)]
  rfl
theorem gAppend_ok {xs : List D} {x : D} (h : xs.length < 16777216) : gAppend xs [x] = some (.non, xs ++ [x]) := if_pos h
theorem gInsert_ok {xs : List D} {x : D} {i : Int} (h : xs.length < 16777216) (h0 : 0 ≤ i) (h1 : i < 2 ^ 63) : gInsert xs [.int i, x] = some (.non, xs.take i.toNat ++ [x] ++ xs.drop i.toNat) := if_pos ⟨h, h0, h1⟩
theorem asg_step {e : DE} {i : Nat} {rest : DS} {Dd : DEnds} {ρ : DEnv} {M M' : Mp} (v : D) (h : ∀ Q : DK, Q v M' → e ρ M Q) (k : rest Dd (ρ.set i (some v)) M') : sSeq (sAsg e (dName i)) rest Dd ρ M := h _ k
theorem seq_mid {a b : DS} {Dd : DEnds} {ρ : DEnv} {M : Mp} (W : DEnv → Mp → Prop) (key : ∀ nx : DEnv → Mp → Prop, (∀ ρ' M', W ρ' M' → nx ρ' M') → a { Dd with nx := nx } ρ M) (k : ∀ ρ' M', W ρ' M' → b Dd ρ' M') : sSeq a b Dd ρ M := key _ k
theorem frz_new {M : Mp} {p : Addr} {xs : List D} {C : DK} (h : M p = none) (c : C (.lst xs) M) : wFrzK C (.ref p) (M.set p (.lst xs)) := by
  simp only [wFrzK, Mp.set_same, Mp.set_del h]
  exact c
theorem keyD_int {i : Int} : keyD (.int i) = some (.inl i) := rfl
theorem keyD_str {i : Str} : keyD (.str i) = some (.inr i) := rfl
theorem pdOk_nil : pdOk (.lst []) = true := pdOk_ints (a := [])
theorem deq_nil {a : List Int} : deq (.lst (a.map D.int)) (.lst []) = decide (a = []) := deq_ints (b := [])
section
variable {α : Type} {x y z u : α} {xs : List α} {n : Nat}
theorem atI0 : atI (x :: xs) 0 = some x := atI_nat (j := 0) rfl
theorem atI1 : atI (x :: y :: xs) 1 = some y := atI_nat (j := 1) rfl
theorem atI2 : atI (x :: y :: z :: xs) 2 = some z := atI_nat (j := 2) rfl
theorem atI3 : atI (x :: y :: z :: u :: xs) 3 = some u := atI_nat (j := 3) rfl
theorem ixN0 : ixN (n + 1) 0 = some 0 := by unfold ixN; rw [if_pos (by omega), if_pos (by omega)]; rfl
theorem ixN1 : ixN (n + 2) 1 = some 1 := by unfold ixN; rw [if_pos (by omega), if_pos (by omega)]; rfl
theorem ixN2 : ixN (n + 3) 2 = some 2 := by unfold ixN; rw [if_pos (by omega), if_pos (by omega)]; rfl
theorem ixN3 : ixN (n + 4) 3 = some 3 := by unfold ixN; rw [if_pos (by omega), if_pos (by omega)]; rfl
end

def wholeD : D → Bool
  | .int _ => true
  | _ => false
def countD (l : Int) : D → Bool
  | .int i => decide (max l 0 ≤ i)
  | _ => false
/-- a list is a move of n cards -/
def isMoveD (n : Int) (xs : List D) : Bool := match intsD xs with
  | some ns => ns.isPerm (rngI 0 1 n.toNat) && decide (0 ≤ n)
  | none => false
theorem sorted_same {a b : List Int} (h : a.Perm b) (ha : a.Pairwise (· ≤ ·)) (hb : b.Pairwise (· ≤ ·)) : a = b :=
  h.eq_of_pairwise (fun x y _ _ h1 h2 => Int.le_antisymm h1 h2) ha hb
theorem counts_ints {l : Int} : ∀ {xs : List D}, xs.all (countD l) = true → ∃ ns : List Int, xs = ns.map D.int ∧ ∀ n ∈ ns, max l 0 ≤ n
  | [], _ => ⟨[], rfl, by simp⟩
  | x :: xs, h => by
    simp only [List.all_cons, Bool.and_eq_true] at h
    obtain ⟨ns, rfl, h2⟩ := counts_ints h.2
    cases x with
    | int i =>
      refine ⟨i :: ns, rfl, fun n hn => ?_⟩
      rcases List.mem_cons.mp hn with rfl | hn
      · exact of_decide_eq_true h.1
      · exact h2 n hn
    | _ => simp [countD] at h
/-- a purse: what is left of a great number, a seed, turns (at most B), a place -/
def PurseOk (B : Int) (xs : List D) : Prop := ∃ a b c e : Int, xs = [.int a, .int b, .int c, .int e] ∧ 0 ≤ a ∧ (0 ≤ b ∧ b < 2147483629) ∧ (0 ≤ c ∧ c ≤ B) ∧ (0 ≤ e ∧ e < 1000)
theorem PurseOk.mono {B C : Int} {xs : List D} (h : PurseOk B xs) (l : B ≤ C) : PurseOk C xs := by
  obtain ⟨a, b, c, e, h1, h2, h3, h4, h5⟩ := h
  exact ⟨a, b, c, e, h1, h2, h3, by omega, h5⟩
theorem cut_ints (ns : List Int) (a b : Option Int) : cutD (ns.map D.int) a b = (cutD ns a b).map D.int := by
  unfold cutD
  rw [List.length_map, List.map_take, List.map_drop]
theorem cut_mid {α : Type} {xs : List α} (h : 1 < xs.length) : (cutD xs (some 1) (some (-1))).length = xs.length - 2 := by
  have e1 : HT.sIx xs.length 0 (some 1) = 1 := by rw [show (some 1 : Option Int) = some ((1 : Nat) : Int) from rfl, HT.sIx_nat]; omega
  have e2 : HT.sIx xs.length xs.length (some (-1)) = xs.length - 1 := by show (if (-1 : Int) < 0 then ((-1 : Int) + (xs.length : Int)).toNat else min (-1 : Int).toNat xs.length) = _; rw [if_pos (by omega)]; omega
  unfold cutD
  rw [e1, e2, List.length_take, List.length_drop]
  omega
theorem okD_L {n : Nat} {xs : List D} (h : xs.length ≤ 16777216) (h2 : okDs n xs = true) : okD (n + 1) (.lst xs) = true := by
  simp only [okD, Bool.and_eq_true, decide_eq_true_iff]; exact ⟨h, h2⟩
theorem okD_T {n : Nat} {xs : List D} (h : xs.length ≤ 16777216) (h2 : okDs n xs = true) : okD (n + 1) (.tup xs) = true := by
  simp only [okD, Bool.and_eq_true, decide_eq_true_iff]; exact ⟨h, h2⟩
theorem okDs_nil {n : Nat} : okDs n [] = true := by simp [okDs]
theorem okDs_cons {n : Nat} {x : D} {xs : List D} (h : okD n x = true) (h2 : okDs n xs = true) : okDs n (x :: xs) = true := by
  simp only [okDs, Bool.and_eq_true]; exact ⟨h, h2⟩
/-- a law over its script -/
theorem law_end {K : PySem.W.Frag} {H : Hp} {a : Addr} {ns : List Int} {R : Ct} {E : XK} (hS : SqL K H a (ns.map V.int)) (hR : ∀ Q : DK, (∀ M', Q (.bl true) M') → R [.scr K (ns.map .int)] M0 Q) : spD R [.ref a] H (fun v _ => v = .bl true) E := by
  refine ⟨[.scr K (ns.map .int)], M0, H, fun d _ => d = .bl true, Mem.all H, ⟨_, _, rfl, ⟨a, _, rfl, hS, RpL.of_ints⟩, rfl⟩, hR _ (fun _ => rfl), ?_⟩
  intro d v M' H' F' m e r q
  subst q
  exact r
theorem tyN_ints {ms : List Int} : ∀ x ∈ ms.map D.int, (tyN x).isSome = true := by
  intro x hx
  obtain ⟨i, _, rfl⟩ := List.mem_map.mp hx
  rfl
theorem isMoveD_perm {ns : List Int} (h : ns.Perm (rngI 0 1 ns.length)) : isMoveD ns.length (ns.map .int) = true := by
  unfold isMoveD
  rw [ints_map]
  simp only [Bool.and_eq_true, List.isPerm_iff, decide_eq_true_iff]
  exact ⟨by simpa using h, by omega⟩
theorem zip_self (xs : List D) : zipD xs xs = xs.map fun x => .tup [x, x] := by
  induction xs with
  | nil => rfl
  | cons x xs ih => simpa [zipD] using ih
theorem bools_trues : ∀ xs : List D, bools (xs.map fun _ => .bl true) = some (xs.map fun _ => true)
  | [] => rfl
  | x :: xs => by simp [bools, bools_trues xs]
theorem pdOk_str {n : Nat} {x : Str} (h : okD (n + 1) (.str x) = true) : pdOk (.str x) = true := by
  have h : PyData.canLay0 (.str x) = true := h
  simp [pdOk, toPD, SeqAt.shaped, h, PyData.depth]
/-- a pack: unlike cards -/
def PackOk (ns : List Int) : Prop := (∀ n ∈ ns, 0 ≤ n) ∧ ns.Nodup ∧ ns.length ≤ 4000
def movedI (ns ms : List Int) : List Int := ms.map fun m => ns.getD m.toNat 0
theorem movedI_length {ns ms : List Int} : (movedI ns ms).length = ms.length := List.length_map ..
theorem cut_take {α : Type} {xs : List α} {b : Int} (h : 0 ≤ b) : cutD xs none (some b) = xs.take b.toNat := by
  obtain ⟨k, rfl⟩ := Int.eq_ofNat_of_zero_le h
  unfold cutD
  rw [HT.sIx_none, HT.sIx_nat]
  simp only [Nat.sub_zero, List.drop_zero]
  show xs.take (min k xs.length) = xs.take k
  rw [Nat.min_comm, ← List.take_take]
  exact List.take_of_length_le (by rw [List.length_take]; omega)
theorem cut_drop {α : Type} {xs : List α} {b : Int} (h : 0 ≤ b) : cutD xs (some b) none = xs.drop b.toNat := by
  obtain ⟨k, rfl⟩ := Int.eq_ofNat_of_zero_le h
  unfold cutD
  rw [HT.sIx_none, HT.sIx_nat]
  show (xs.drop (min k xs.length)).take (xs.length - min k xs.length) = xs.drop k
  rw [List.take_of_length_le (by rw [List.length_drop]; omega)]
  by_cases c : k ≤ xs.length
  · rw [Nat.min_eq_left c]
  · rw [Nat.min_eq_right (by omega), List.drop_length, List.drop_of_length_le (by omega)]
theorem rngI_getD {lo : Int} {n i : Nat} (h : i < n) : (rngI lo 1 n).getD i 0 = lo + i := by
  unfold rngI
  rw [List.getD_eq_getElem?_getD, List.getElem?_map, List.getElem?_range h]
  simp
theorem movedI_append {ns a b : List Int} : movedI ns (a ++ b) = movedI ns a ++ movedI ns b := List.map_append ..
theorem movedI_reverse {ns a : List Int} : movedI ns a.reverse = (movedI ns a).reverse := List.map_reverse ..
/-- places one after another -/
theorem movedI_rng {ns : List Int} {a k : Nat} (h : a + k ≤ ns.length) : movedI ns (rngI a 1 k) = (ns.drop a).take k := by
  apply List.ext_getElem
  · rw [movedI_length, rngI_length, List.length_take, List.length_drop]; omega
  · intro i h1 h2
    rw [movedI_length, rngI_length] at h1
    simp only [movedI, rngI, List.getElem_map, List.getElem_range, List.getElem_take, List.getElem_drop]
    rw [show ((a : Int) + (i : Nat) * 1).toNat = a + i by omega, List.getD_eq_getElem?_getD, List.getElem?_eq_getElem (by omega)]
    rfl
theorem cutI_def {n a : Nat} (h : a ≤ n) : rngI a 1 ((n : Int) - a).toNat ++ rngI 0 1 (a : Int).toNat = rngI a 1 (n - a) ++ rngI ((0 : Nat) : Int) 1 a := by
  rw [show ((n : Int) - a).toNat = n - a by omega]; rfl
theorem moved_cut {ns : List Int} {a : Nat} (h : a ≤ ns.length) : movedI ns (rngI a 1 ((ns.length : Int) - a).toNat ++ rngI 0 1 (a : Int).toNat) = ns.drop a ++ ns.take a := by
  rw [cutI_def h, movedI_append, movedI_rng (by omega), movedI_rng (by omega), List.drop_zero, List.take_of_length_le (by rw [List.length_drop]; omega)]
theorem moved_about {ns : List Int} {a : Nat} (h : a ≤ ns.length) : movedI ns ((rngI 0 1 (a : Int).toNat).reverse ++ rngI a 1 ((ns.length : Int) - a).toNat) = (ns.take a).reverse ++ ns.drop a := by
  rw [movedI_append, movedI_reverse, show ((ns.length : Int) - a).toNat = ns.length - a by omega, show rngI 0 1 (a : Int).toNat = rngI ((0 : Nat) : Int) 1 a from rfl, movedI_rng (by omega), movedI_rng (by omega), List.drop_zero, List.take_of_length_le (l := ns.drop a) (by rw [List.length_drop]; omega)]
theorem moved_rest {ns : List Int} {p : Int → Bool} {is : List Int} : movedI ns (is.filter p) = (is.filter p).map fun m => ns.getD m.toNat 0 := rfl
theorem any_int {zs : List Int} {e : Int} : (zs.map D.int).any (fun z => deq z (.int e)) = decide (e ∈ zs) := by
  rw [Bool.eq_iff_iff, List.any_map, List.any_eq_true, decide_eq_true_iff]
  constructor
  · rintro ⟨x, hx, h⟩
    have h : deq (.int x) (.int e) = true := h
    rw [deq_int, decide_eq_true_iff] at h
    exact h ▸ hx
  · intro h
    refine ⟨e, h, ?_⟩
    show deq (.int e) (.int e) = true
    rw [deq_int, decide_eq_true_iff]
theorem drop_facts {ps : List Addr} {i : Nat} {p : Addr} (hp : ps[i]? = some p) (hnd : ps.Nodup) : p ∈ ps.drop i ∧ ∀ r ∈ ps.drop (i + 1), r ∈ ps.drop i ∧ r ≠ p := by
  obtain ⟨h1, h2⟩ := List.getElem?_eq_some_iff.mp hp
  have hnd' := (List.drop_sublist i ps).nodup hnd
  rw [List.drop_eq_getElem_cons h1, h2] at hnd' ⊢
  refine ⟨by simp, fun r hr => ⟨List.mem_cons_of_mem _ hr, ?_⟩⟩
  rintro rfl
  exact (List.nodup_cons.mp hnd').1 hr
theorem flat_one {α : Type} (x : α) : ∀ n, (List.replicate n [x]).flatten = List.replicate n x
  | 0 => rfl
  | n + 1 => by rw [List.replicate_succ, List.flatten_cons, flat_one x n]; rfl
theorem zipD_ints {ns xs : List Int} : zipD (ns.map D.int) (xs.map D.int) = (ns.zip xs).map fun p => .tup [.int p.1, .int p.2] := by
  unfold zipD
  rw [List.zip_map, List.map_map]; rfl
theorem exists_max : ∀ {cs : List Int}, cs ≠ [] → ∃ k, k ∈ cs ∧ ∀ y ∈ cs, y ≤ k
  | [], h => absurd rfl h
  | [c], _ => ⟨c, by simp, by simp⟩
  | c :: d :: cs, _ => by
    obtain ⟨k, hk, hm⟩ := exists_max (cs := d :: cs) (by simp)
    by_cases h : c ≤ k
    · exact ⟨k, by simp only [List.mem_cons] at hk ⊢; exact .inr hk, fun y hy => by rcases List.mem_cons.mp hy with rfl | hy; exact h; exact hm y hy⟩
    · exact ⟨c, by simp, fun y hy => by rcases List.mem_cons.mp hy with rfl | hy; omega; have := hm y hy; omega⟩
theorem sum_le_of {cs : List Int} {k : Int} (h : ∀ y ∈ cs, y ≤ k) (hk : k ≤ 0) : cs.sum ≤ 0 := by
  induction cs with
  | nil => simp
  | cons c cs ih =>
    rw [List.sum_cons]
    have := h c (by simp)
    have := ih fun y hy => h y (by simp [hy])
    omega
theorem sum_range_one {n : Nat} {k : Int} (h0 : 0 ≤ k) (h1 : k < n) : ((List.range n).map fun b : Nat => if k = (b : Int) then (1 : Int) else 0).sum = 1 := by
  have key : ∀ m : Nat, ((List.range m).map fun b : Nat => if k = (b : Int) then (1 : Int) else 0).sum = if k < m then 1 else 0 := by
    intro m
    induction m with
    | zero => rw [if_neg (by omega)]; rfl
    | succ m ih =>
      rw [List.range_succ, List.map_append, List.sum_append, ih]
      simp only [List.map_cons, List.map_nil, List.sum_cons, List.sum_nil]
      by_cases c : k = m
      · rw [if_neg (by omega), if_pos c, if_pos (by omega)]; rfl
      · by_cases d : k < m
        · rw [if_pos d, if_neg c, if_pos (by omega)]; rfl
        · rw [if_neg d, if_neg c, if_neg (by omega)]; rfl
  rw [key, if_pos h1]
theorem sum_map_add {α : Type} (l : List α) (f g : α → Int) : (l.map fun x => f x + g x).sum = (l.map f).sum + (l.map g).sum := by
  induction l with
  | nil => rfl
  | cons x l ih => simp only [List.map_cons, List.sum_cons, ih]; omega
def lcut (ns : List Int) (k : Nat) : List Int := ns.drop k ++ ns.take k
theorem lcut_length {ns : List Int} {k : Nat} : (lcut ns k).length = ns.length := by
  unfold lcut
  rw [List.length_append, List.length_drop, List.length_take]; omega
theorem lcut_perm {ns : List Int} {k : Nat} : (lcut ns k).Perm ns := by
  unfold lcut
  refine List.perm_append_comm.trans ?_
  rw [List.take_append_drop]
theorem lcut_get {l : List Int} {i b : Nat} (hi : i < l.length) (hb : b ≤ l.length) : (lcut l b)[i]? = l[(i + b) % l.length]? := by
  unfold lcut
  by_cases h : i < l.length - b
  · rw [List.getElem?_append_left (by rw [List.length_drop]; omega), List.getElem?_drop, Nat.mod_eq_of_lt (by omega), Nat.add_comm]
  · rw [List.getElem?_append_right (by rw [List.length_drop]; omega), List.length_drop, List.getElem?_take, if_pos (by omega), Nat.mod_eq_sub_mod (by omega), Nat.mod_eq_of_lt (by omega)]
    congr 1
    omega
theorem lcut_lcut {l : List Int} {a u : Nat} (ha : a ≤ l.length) (hu : u < l.length) : lcut (lcut l a) u = lcut l ((a + u) % l.length) := by
  have h0 : 0 < l.length := by omega
  apply List.ext_getElem?
  intro i
  by_cases hi : i < l.length
  · rw [lcut_get (by rw [lcut_length]; exact hi) (by rw [lcut_length]; omega), lcut_length, lcut_get (Nat.mod_lt _ h0) ha, lcut_get hi (Nat.le_of_lt (Nat.mod_lt _ h0)), Nat.mod_add_mod, Nat.add_mod_mod]
    congr 2
    omega
  · rw [List.getElem?_eq_none (by rw [lcut_length, lcut_length]; omega), List.getElem?_eq_none (by rw [lcut_length]; omega)]
theorem lcut_out {l : List Int} {b : Nat} (hb : b < l.length) : lcut l b = l.getD b 0 :: lcut (l.take b ++ l.drop (b + 1)) b := by
  have h1 : (l.take b).length = b := by rw [List.length_take]; omega
  have e1 : (l.take b ++ l.drop (b + 1)).drop b = l.drop (b + 1) := by rw [List.drop_append_of_le_length (by omega), List.drop_of_length_le (by omega), List.nil_append]
  have e2 : (l.take b ++ l.drop (b + 1)).take b = l.take b := by rw [List.take_append_of_le_length (by omega), List.take_of_length_le (by omega)]
  unfold lcut
  rw [e1, e2, List.drop_eq_getElem_cons hb, List.getD_eq_getElem?_getD, List.getElem?_eq_getElem hb]
  rfl
theorem sz0 : Sz 0 := by unfold Sz; omega
theorem bits_le {m : Int} (h0 : 0 < m) (h1 : m < 2 ^ 83) : Builtin.Int.intBits m ≤ 83 := PyProof.Rows.intBits_le (show m.natAbs < 2 ^ 83 by omega)
theorem log_le {m : Int} (h0 : 0 < m) (h1 : m < 2 ^ 83) : m.natAbs.log2 < 9000 := by
  have : m.natAbs.log2 < 83 := (Nat.log2_lt (by omega)).mpr (by omega)
  omega

/-! ### len(set(xs)): unlike ints -/
def wLenSet (a : DE) : DE := fun ρ M Q => a ρ M fun x M1 => match nrm M1 x with
  | .lst xs => match intsD xs with
    | some ns => (ns.Nodup ∧ ns.length ≤ 4000) ∧ Q (.int ns.length) M1
    | none => False
  | _ => False
theorem tr_lenSet {K : PySem.W.Frag} {t : TE} {a : DE} (h : Tr t a) : Tr (RZ.tLenSetI K t) (wLenSet a) := by
  intro ρ M σ H F Q Qv er m q f
  refine h ρ M σ H F _ _ er m q fun d1 v1 M1 H1 F1 m1 e1 r1 q1 => ?_
  have vw := m1.view r1
  split at q1
  · rename_i xs e
    rw [e] at vw
    obtain ⟨a, ws, rfl, ha, ra⟩ := vw
    split at q1
    · rename_i bs eb
      have e2 := ints_eq eb
      subst e2
      rw [ra.ints] at ha
      exact ⟨a, bs, rfl, .of ha, q1.1.1, q1.1.2, f (.int _) _ _ _ _ m1 e1 rfl q1.2⟩
    · exact q1.elim
  · exact q1.elim
/-! ### repr -/
/-- data that can be shown -/
def repOk (d : D) : Bool := pdOk d && ((toPD d).showable && decide ((toPD d).shown.length ≤ sizeLine))
def isRefV : V → Bool
  | .ref _ => true
  | _ => false
def rReprD (K : PySem.W.Frag) : List V → Hp → VK → Prop := fun xs H Q => ∃ (a : Addr) (d : PyData), xs = [.ref a] ∧ Dp K H (.ref a) d ∧ SeqAt.shaped d = true ∧ d.showable = true ∧ d.shown.length ≤ sizeLine ∧ Q (.str d.shown) H
theorem call_reprD {X : Cx} (hu : X.A.units + 66 < cLine) (hg : X.A.guards = some []) : CallR X (.builtin "repr") (rReprD X.K) := by
  intro pins s σ H xs us Q I r h
  obtain ⟨a, d, rfl, hd, hs, h1, h2, q⟩ := h
  obtain ⟨u, rfl, rv⟩ := vals1 r
  cases rv
  obtain ⟨as, rd⟩ := Dp.reads I d _ _ hd rfl
  have hc := SeqAt.canLay_of_shaped hs
  have hdp : d.depth ≤ 64 := by
    have : (d.canLay0 && decide (d.depth ≤ 64)) = true := hs
    rw [Bool.and_eq_true, decide_eq_true_iff] at this
    exact this.2
  exact repr_of_reads' rd h1 (PyData.noDict_hsm (PyData.hasDict_of_canLay d hc)) hg (by omega) (fun _ _ e => e) (fun h' u tk k => ⟨.str d.shown, H, I.kept (h' := h') (t' := tk) k, ⟨_, rfl⟩, q⟩) h2
def cRepr : DC := fun ds M Q => match ds with
  | [x] => match nrm M x with
    | .lst xs => repOk (.lst xs) = true ∧ Q (.str (toPD (.lst xs)).shown) M
    | .tup xs => repOk (.tup xs) = true ∧ Q (.str (toPD (.tup xs)).shown) M
    | _ => False
  | _ => False
theorem ct_repr {K : PySem.W.Frag} : CallT (rReprD K) cRepr := by
  intro M H F ds vs Q Qv m r q f
  unfold cRepr at q
  split at q
  · obtain ⟨v, rfl, h1⟩ := rp1 r
    have vw := m.view h1
    split at q
    · rename_i x xs e
      rw [e] at vw
      have q1 := q.1
      unfold repOk at q1
      rw [Bool.and_eq_true, Bool.and_eq_true, decide_eq_true_iff] at q1
      have hd := vw_dp (K := K) m.same vw q1.1
      obtain ⟨a, ws, rfl, ha, ra⟩ := vw
      exact ⟨a, _, rfl, hd, q1.1, q1.2.1, q1.2.2, f.here (d := .str _) m rfl q.2⟩
    · rename_i x xs e
      rw [e] at vw
      have q1 := q.1
      unfold repOk at q1
      rw [Bool.and_eq_true, Bool.and_eq_true, decide_eq_true_iff] at q1
      have hd := vw_dp (K := K) m.same vw q1.1
      obtain ⟨a, ws, rfl, ha, ra⟩ := vw
      exact ⟨a, _, rfl, hd, q1.1, q1.2.1, q1.2.2, f.here (d := .str _) m rfl q.2⟩
    · exact q.elim
  · exact q.elim
/-! ### what a value is stays, when others change -/
def isRefD : D → Bool
  | .ref _ => true
  | _ => false
theorem nrm_set {M : Mp} {x : D} {d : D} {p : Addr} {m : MO} (h : nrm M x = d) (hd : isRefD d = false) (hp : M p = none) : nrm (M.set p m) x = d := by
  cases x with
  | ref a =>
    have : a ≠ p := by
      intro e
      subst e
      have h' : nrmA M a = d := h
      unfold nrmA at h'
      rw [hp] at h'
      subst h'
      cases hd
    show nrmA (M.set p m) a = d
    have h' : nrmA M a = d := h
    unfold nrmA at h' ⊢
    rw [Mp.set_ne this]
    exact h'
  | _ => exact h
/-! ### xs[::e], e being -1 -/
def tRevE (K : PySem.W.Frag) (te ts : TE) : TE := fun σ H Q => te σ H fun x H1 => tPart ts σ H1 fun o H2 => ∃ (a : Addr) (xs : List V), x = .ref a ∧ o = some (-1) ∧ SqL K H2 a xs ∧ ∀ p, H2 p = none → Q (.ref p) (L2.upd H2 p (.lst xs.reverse))
theorem pe_revE {X : Cx} {e st : Expr} {te ts : TE} {p3 pos : Pos} (he : PE X e te) (hs : PE X st ts) : PE X (.Subscript e (.Slice none none (some st) p3) pos) (tRevE X.K te ts) := ⟨fun pins s σ H Q inv h => by
  refine Subscript_ (thn (he.run pins s σ H _ inv h) fun v s1 ⟨x, H1, inv1, r1, q1⟩ => ?_)
  refine wpAny_Slice (thn (po_none.run pins s1 σ H1 (fun o H2 => o = none ∧ H2 = H1) inv1 ⟨rfl, rfl⟩) fun vl s2 ⟨l, H2, inv2, pl, el, e2⟩ => ?_)
  subst el e2
  refine thn (po_none.run pins s2 σ H2 (fun o H3 => o = none ∧ H3 = H2) inv2 ⟨rfl, rfl⟩) fun vu s3 ⟨u, H3, inv3, pu, eu, e3⟩ => ?_
  subst eu e3
  refine thn ((po_some hs).run pins s3 σ H3 _ inv3 q1) fun vs s4 ⟨o, H4, inv4, ps, a, xs, ex, eo, hx, q⟩ => ?_
  subst ex eo
  cases r1
  have inv5 : Inv X pins σ H4 { s4 with heap := s4.heap.push { cls := .type "slice", data := .fields #[vl, vu, vs] } } := inv4.kept (t' := s4.toks) fun _ _ old => Heap.get?_push_of_some _ old
  obtain ⟨its, rv, plain, size⟩ := inv5.list hx
  have same := rv.length
  show wpAny (model X.prog X.w) X.A (subscriptTail e (.Slice none none (some st) p3) (.ref a) (.ref s4.heap.objs.size)) (EP X pins σ Q) X.xe { s4 with heap := s4.heap.push { cls := .type "slice", data := .fields #[vl, vu, vs] } }
  refine tail_any (ops := [.ref a, .ref s4.heap.objs.size]) plain.isList.typeIs (PySem.slot_list_getitem.lookup) ?_ (by with_unfolding_all rfl)
  refine wpAny_getItem_list_slice plain.isList (Heap.IsSliceOf.new _ vl vu vs) pl pu ps (by decide) ?_ (by rw [List.size_toArray]; omega)
  rw [PySem.W.krv_pick]
  exact ⟨.ref _, _, inv5.laid (t' := s4.toks) (o := .lst xs.reverse) (fun _ _ old => Heap.get?_push_of_some _ old) (Nat.le_refl _) ⟨by rw [List.length_reverse]; exact size, _, 0, rv.reverse, Heap.get?_push_size _ rfl⟩, rfl, q _ (inv5.hok.fresh (Nat.le_refl _))⟩⟩
def wRevE (md : Md) (a b : DE) : DE := fun ρ M Q => a ρ M fun x M1 => b ρ M1 fun y M2 => y = .int (-1) ∧ match nrm M2 x with
  | .lst xs => wNew md xs.reverse M2 Q
  | _ => False
theorem tr_revE {K : PySem.W.Frag} {md : Md} {t u : TE} {a b : DE} (h : Tr t a) (h' : Tr u b) : Tr (tRevE K t u) (wRevE md a b) := by
  intro ρ M σ H F Q Qv er m q f
  refine h ρ M σ H F _ _ er m q fun d1 v1 M1 H1 F1 m1 e1 r1 q1 => ?_
  refine h' ρ M1 σ H1 F1 _ _ (er.mono e1.fs) m1 q1 fun d2 v2 M2 H2 F2 m2 e2 r2 q2 => ?_
  obtain ⟨rfl, q2⟩ := q2
  have vw := m2.view (Rp.mono e2.fs _ _ r1)
  split at q2
  · rename_i xs e
    rw [e] at vw
    obtain ⟨a, vs, rfl, ha, ra⟩ := vw
    cases r2
    exact ⟨-1, rfl, a, vs, rfl, rfl, .of ha, new_lst m2 ra.reverse q2 (f.ext (e1.trans e2))⟩
  · exact q2.elim
/-! ### xs.index(x): the first place of an equal one -/
def mIndex : DM := fun x ds M Q => match nrm M x, ds with
  | .lst xs, [y] => match intsD xs, nrm M y with
    | some ns, .int k => k ∈ ns ∧ Q (.int (ns.idxOf k : Nat)) M
    | _, _ => False
  | _, _ => False
theorem toPDs_get {ns : List Int} {j : Nat} : (toPDs (ns.map D.int))[j]? = (ns[j]?).map PyData.int := by rw [toPDs_ints, List.getElem?_map]
theorem mt_indexI {K : PySem.W.Frag} : MethT (rIndexD K) mIndex := by
  intro M H F d v ds vs Q Qv m r1 r2 q f
  unfold mIndex at q
  have vw := m.view r1
  split at q
  · rename_i xs y e
    rw [e] at vw
    split at q
    · rename_i ns k en ek
      obtain ⟨hk, q⟩ := q
      have e2 := ints_eq en
      subst e2
      obtain ⟨w, rfl, h1⟩ := rp1 r2
      have vy := m.view h1
      rw [ek] at vy
      have hp := pdOk_ints (a := ns)
      have hd := vw_dp (K := K) m.same vw hp
      have hy := vw_dp (K := K) m.same vy (pdOk_int k)
      obtain ⟨a, us, rfl, ha, ra⟩ := vw
      have hlt := List.idxOf_lt_length_of_mem hk
      refine ⟨a, w, .int k, toPDs (ns.map D.int), ns.idxOf k, .int k, rfl, rfl, hd, hy, hp, pdOk_int k, ?_, ?_, fun j z hj hz => ?_, f.here (d := .int _) m rfl q⟩
      · rw [toPDs_get, List.getElem?_eq_getElem hlt, List.getElem_idxOf hlt]; rfl
      · simp [PyData.eqv]
      · rw [toPDs_get] at hz
        obtain ⟨i, hi, rfl⟩ := Option.map_eq_some_iff.mp hz
        have hne : i ≠ k := by
          rintro rfl
          have hn := List.not_of_lt_findIdx (p := (· == i)) (show j < ns.findIdx (· == i) from hj)
          obtain ⟨h1, h2⟩ := List.getElem?_eq_some_iff.mp hi
          rw [h2] at hn
          simp at hn
        simp [PyData.eqv, hne]
    · exact q.elim
  · exact q.elim

/-! ### sorted(d), d a dict with keys of ints -/
section
variable {prog : Program} {w : World} {A : Around} {E : Value → Shared → Prop} {s : Shared} {T : String} {r d : Addr} {n : Nat} {P : Nat → Value → Prop} {OK : Heap → Prop}
theorem collect_src {Q : List Value → Shared → Prop} (K : PySem.W.KdlSrc prog w T r d n P OK) (hh : A.handled = none) (hok : OK s.heap) (hn : n ≤ sizeLine)
    (hQ : ∀ (h' : Heap) (tk : Nat) (acc : Array Value), (∀ b o, s.heap.get? b = some o → h'.get? b = some o) → ItemsOf P acc n → s.heap.objs.size ≤ h'.objs.size → Q acc.toList { s with heap := h', toks := tk }) :
    wpAny (model prog w) A (collect (.ref r)) Q E s := by
  have there := K.there _ hok
  unfold collect
  refine wpAny_bind (wpAny_runValue (codeAny_builtin PySem.F.entry_proto_collect ?_))
  rw [Around.under_plainId PySem.F.plain_proto_collect _]
  show wpAny _ A.in1 (newList [] >>= fun l => again (.builtin "list.__iadd__" ⟨[l, .ref r], []⟩)) _ _ s
  refine wpAny_bind (wpAny_newObj_type ?_)
  refine wpAny_pure ⟨plainId_quiet PySem.F.plain_list_iadd _, codeAny_builtin PySem.F.entry_list_iadd ?_⟩
  rw [Around.under_plainId PySem.F.plain_list_iadd _]
  show wpAny _ A.in1 (Builtin.List.listExtendWith (.ref s.heap.objs.size) (.ref r) (.ref s.heap.objs.size)) _ _ _
  have new : (s.heap.push { cls := .type "list", data := .seq ([] : List Value).toArray }).get? s.heap.objs.size = some { cls := .type "list", data := .seq #[] 0 } := Heap.get?_push_size _ rfl
  refine wpAny_mono (PySem.W.kdl_extend (A := A) (R := fun rr s' => rr = .ok (.ret (.ref s.heap.objs.size)) ∧ ∃ (h' : Heap) (tk : Nat) (acc : Array Value) (c' : Nat), s' = { s with heap := h', toks := tk } ∧
      (∀ b o, s.heap.get? b = some o → h'.get? b = some o) ∧ h'.get? s.heap.objs.size = some { cls := .type "list", dict := none, data := .seq acc c', slots := #[] } ∧ ItemsOf P acc n)
    (s := { s with heap := s.heap.push { cls := .type "list", data := .seq ([] : List Value).toArray } }) K hh (K.keep _ _ hok fun b _ o e => Heap.get?_push_of_some _ e) _ (Nat.ne_of_gt there.1) (Nat.ne_of_gt there.2) _ 0 new
    (fun h' tk acc c' hk e hi => ⟨rfl, h', tk, acc, c', rfl, fun b o q => hk b o (Nat.ne_of_lt (Heap.lt_size q)) (Heap.get?_push_of_some _ q), e, hi⟩) hn) (fun fin s' h => ?_) (fun e s' h => ?_)
  · cases fin with
    | done f =>
      obtain ⟨e, h', tk, acc, c', rfl, hk, found, hi⟩ := h
      cases e
      show wpAny _ A (load s.heap.objs.size >>= _) _ _ _
      exact wpAny_bind (wpAny_load found (wpAny_pure (hQ h' tk acc hk hi (Nat.le_of_lt (Heap.lt_size found)))))
    | again c' =>
      refine ⟨h.1, codeAny_mono h.2 fun rr s'' hr' => ?_⟩
      obtain ⟨rfl, h', tk, acc, c', rfl, hk, found, hi⟩ := hr'
      show wpAny _ A (load s.heap.objs.size >>= _) _ _ _
      exact wpAny_bind (wpAny_load found (wpAny_pure (hQ h' tk acc hk hi (Nat.le_of_lt (Heap.lt_size found)))))
  · exact absurd h.1 (by simp)
theorem sorted_src {Q : Value → Shared → Prop} (K : PySem.W.KdlSrc prog w T r d n P OK) (hh : A.handled = none) (hok : OK s.heap) (hn : n ≤ sizeLine)
    (numbers : ∀ acc : Array Value, ItemsOf P acc n → ∃ ns : List Int, IntsAre acc.toList ns)
    (hQ : ∀ (h' : Heap) (tk : Nat) (p : Addr) (out : Array Value) (c : Nat) (acc : Array Value) (ns ns' : List Int), ItemsOf P acc n → IntsAre acc.toList ns → IntsAre out.toList ns' → ns'.Perm ns → ns'.Pairwise (· ≤ ·) → (∀ b o, s.heap.get? b = some o → h'.get? b = some o) →
      s.heap.objs.size ≤ p → h'.get? p = some (seqObj "list" out c) → Q (.ref p) { s with heap := h', toks := tk }) :
    wpAny (model prog w) A (call (.builtin "sorted") [.ref r]) Q E s := by
  refine Calls.call_function_entry kind_sorted plain_sorted entry_sorted (args_sorted1 _) ?_
  unfold Builtin.«sorted»
  refine wpAny_bind (m := checkCount "sorted" 1 1 _) (wpAny_pure ?_)
  refine wpAny_bind (collect_src (A := A.in1) K hh hok hn fun h1 tk acc keep items le => ?_)
  obtain ⟨ns, hns⟩ := numbers acc items
  have size : acc.toList.length ≤ sizeLine := by rw [Array.length_toList, items.1]; exact hn
  refine wpAny_bind (wpAny_newList ?_ size)
  have here : (h1.push (seqObj "list" acc.toList.toArray 0)).get? h1.objs.size = some (seqObj "list" acc.toList.toArray 0) := Heap.get?_push_size _ rfl
  refine wpAny_bind (wpAny_holding (wpAny_call_entry slot_list_sort ⟨_, here, rfl⟩ entry_list_sort (SrtO.list_sort_ord SrtO.swo_int here size (fun h2 => SrtO.ints_sortable hns h2) fun out a1 a2 => ⟨_, rfl, ?_⟩) (args_list_sort _)))
  obtain ⟨k1, k2, k3⟩ := SrtO.ints_out hns a1 a2
  obtain ⟨c, hc⟩ := sortedHeap_at (vs := acc.toList) (out := out.toArray) here
  refine wpAny_pure ⟨_, rfl, hQ _ tk h1.objs.size out.toArray c acc ns _ items hns k1 k2 k3 (fun b o q => ?_) le hc⟩
  have q1 := keep b o q
  have lt := Heap.lt_size q1
  show (sortedHeap (h1.push (seqObj "list" acc.toList.toArray 0)) h1.objs.size acc.toList out.toArray).get? b = some o
  rw [sortedHeap_old (Nat.ne_of_lt lt) (by rw [size_push']; exact Nat.lt_succ_of_lt lt)]
  exact Heap.get?_push_of_some _ q1
end
theorem intsAre_uniq : ∀ {vs : List Value} {a b : List Int}, IntsAre vs a → IntsAre vs b → a = b
  | _, _, _, .nil, .nil => rfl
  | _, _, _, .cons _ _ h, .cons _ _ h' => by rw [intsAre_uniq h h']
def rSortedD : List V → Hp → VK → Prop := fun xs H Q => ∃ (p : Addr) (kvs : List (Key × V)) (ns : List Int), xs = [.ref p] ∧ H p = some (.dK kvs) ∧ kvs.map (·.1) = ns.map Sum.inl ∧
  ∀ (ns' : List Int) (q : Addr), ns'.Perm ns → ns'.Pairwise (· ≤ ·) → H q = none → Q (.ref q) (L2.upd H q (.lst (ns'.map V.int)))
theorem call_sortedD {X : Cx} (hc : X.calm = true) : CallR X (.builtin "sorted") rSortedD := by
  intro pins s σ H xs us Q I r h
  obtain ⟨p, kvs, ns, e, hk, hn, q⟩ := h
  subst e
  obtain ⟨u, eu, rx⟩ := vals1 r
  subst eu
  obtain rfl : u = Value.ref p := rx
  obtain ⟨z, lo, vs, rk, hd⟩ := (show ObjOk X.prog X.w H s.heap p (.dK kvs) from I.hok p _ hk)
  obtain ⟨ep, hat⟩ := hd.dictAt
  have hl : kvs.length = vs.length := Paired.length rk
  have hln : ns.length = vs.length := by
    have e := congrArg List.length hn
    rw [List.length_map, List.length_map] at e
    omega
  have hv : ∀ acc : Array Value, ItemsOf (fun i v => ∃ k x, vs[i]? = some (k, x) ∧ (mixKind X.prog X.w).is k v = true) acc vs.length → Vals (ns.map V.int) acc.toList := by
    intro acc it
    refine vals_of_at ((List.length_map _).trans (hln.trans (it.1.symm.trans Array.length_toList.symm))) fun j x w h1 h2 => ?_
    obtain ⟨k, y, hky, hi⟩ := it.2 j w (by rw [← Array.getElem?_toList]; exact h2)
    have e1 : (kvs.map (·.1))[j]? = some k := by
      rw [KV.keys rk, List.getElem?_map, hky] <;> rfl
    rw [hn, List.getElem?_map] at e1
    rw [List.getElem?_map] at h1
    obtain ⟨n, en, e2⟩ := Option.map_eq_some_iff.mp e1
    rw [en] at h1
    cases h1
    subst e2
    exact keyIs_rel (k := .inl n) hi
  refine sorted_src (PySem.W.kdl_dict (knd := mixKind X.prog X.w) (kvs := vs) (ep := ep) lo) (I.ok.hd hc) hat (by rw [← hl]; exact z) (fun acc it => ⟨ns, (hv acc it).ints⟩) fun h' tk q' out c acc ns0 ns' it ia io perm pw keep le hp => ?_
  have e0 : ns0 = ns := intsAre_uniq ia (hv acc it).ints
  subst e0
  have hlen : (ns'.map V.int).length ≤ sizeLine := by rw [List.length_map, perm.length_eq, hln, ← hl]; exact z
  exact ⟨.ref q', L2.upd H q' (.lst (ns'.map V.int)), I.laid (t' := tk) keep le ⟨hlen, out.toList, c, vals_of_ints io, by rw [Array.toArray_toList]; exact hp⟩, rfl, q _ _ perm pw (I.hok.fresh le)⟩
def intsK : List Key → Option (List Int)
  | [] => some []
  | .inl i :: r => (intsK r).map (i :: ·)
  | _ => none
theorem intsK_eq : ∀ {ks : List Key} {ns : List Int}, intsK ks = some ns → ks = ns.map Sum.inl
  | [], ns, h => by cases h; rfl
  | .inl i :: r, ns, h => by
    obtain ⟨m, h1, h2⟩ := Option.map_eq_some_iff.mp (show (intsK r).map (i :: ·) = some ns from h)
    subst h2
    rw [intsK_eq h1]; rfl
  | .inr i :: r, ns, h => nomatch h
theorem intsK_map : ∀ ns : List Int, intsK (ns.map Sum.inl) = some ns
  | [] => rfl
  | n :: r => by show (intsK (r.map Sum.inl)).map (n :: ·) = _; rw [intsK_map r]; rfl
/-- sorted(x): ints, or a dict with keys of ints -/
def cSortedA (md : Md) : DC := fun ds M Q => match ds with
  | [x] => match nrm M x with
    | .lst xs => match intsD xs with
      | some ns => ∀ ns' : List Int, ns'.Perm ns → ns'.Pairwise (· ≤ ·) → wNew md (ns'.map D.int) M Q
      | none => False
    | .dct ks _ => match intsK ks with
      | some ns => ∀ ns' : List Int, ns'.Perm ns → ns'.Pairwise (· ≤ ·) → wNew md (ns'.map D.int) M Q
      | none => False
    | _ => False
  | _ => False
theorem ct_sortedA {K : PySem.W.Frag} {md : Md} : CallT (fun xs H Q => rSortedI K xs H Q ∨ rSortedD xs H Q) (cSortedA md) := by
  intro M H F ds vs Q Qv m r q f
  unfold cSortedA at q
  split at q
  · rename_i x
    cases hx : nrm M x with
    | lst xs =>
      simp only [hx] at q
      refine .inl (ct_sorted (md := md) M H F [x] vs Q Qv m r ?_ f)
      show match nrm M x with | .lst xs => _ | _ => _
      rw [hx]; exact q
    | dct ks xs =>
      simp only [hx] at q
      obtain ⟨v, rfl, h1⟩ := rp1 r
      have vw := m.view h1
      rw [hx] at vw
      obtain ⟨a, kvs, rfl, ha, hk, ra⟩ := vw
      split at q
      · rename_i ns en
        exact .inr ⟨a, kvs, ns, rfl, ha, hk.trans (intsK_eq en), fun ns' p h1 h2 hp => new_lst m RpL.of_ints (q ns' h1 h2) f p hp⟩
      · exact q.elim
    | _ => simp only [hx] at q
  · exact q.elim
/-! ### dict(xs), xs a list of pairs -/
def pairD : D → Option (Key × D)
  | .tup [k, x] => (keyD k).map fun k => (k, x)
  | _ => none
def pairsD : List D → Option (List (Key × D))
  | [] => some []
  | x :: r => match pairD x, pairsD r with
    | some p, some ps => some (p :: ps)
    | _, _ => none
/-- the dict of pairs -/
def mrgD (acc : List Key × List D) (ps : List (Key × D)) : List Key × List D := ps.foldl (fun acc p => (putKs acc.1 p.1, putXs acc.1 acc.2 p.1 p.2)) acc
def wNewD : Md → List Key → List D → Mp → DK → Prop
  | .frz, ks, xs, M, Q => Q (.dct ks xs) M
  | .own, ks, xs, M, Q => ∀ p, M p = none → Q (.ref p) (M.set p (.dK ks xs))
theorem new_dct {md : Md} {ks : List Key} {xs : List D} {kvs : List (Key × V)} {Q : DK} {Qv : VK} {M : Mp} {H F : Hp} (m : Mem M H F) (hk : kvs.map (·.1) = ks) (r : RpL F xs (kvs.map (·.2))) (h : wNewD md ks xs M Q) (f : Fin Q Qv M H F) : ∀ p, H p = none → Qv (.ref p) (L2.upd H p (.dK kvs)) := by
  intro p hp
  cases md with
  | frz =>
    obtain ⟨m', e'⟩ := m.frz hp (.dK kvs)
    exact f (.dct ks xs) _ _ _ _ m' e' ⟨p, kvs, rfl, upd_same, hk, RpL.mono e'.fs _ _ r⟩ h
  | own =>
    obtain ⟨m', e'⟩ := m.mut hp (o := .dK kvs) (q := .dK ks xs) ⟨kvs, rfl, hk, r⟩
    exact f (.ref p) _ _ _ _ m' e' rfl (h p (m.fresh hp).2)
def cDictP (md : Md) : DC := fun ds M Q => match ds with
  | [x] => match nrm M x with
    | .lst xs => match pairsD xs with
      | some ps => wNewD md (mrgD ([], []) ps).1 (mrgD ([], []) ps).2 M Q
      | none => False
    | _ => False
  | _ => False
def rDictP (K : PySem.W.Frag) : List V → Hp → VK → Prop := fun xs H Q => ∃ (a : Addr) (ps : List Addr) (kvs : List (Key × V)), xs = [.ref a] ∧ SqL K H a (ps.map V.ref) ∧ Paired (fun p kv => SqT K H p [kV kv.1, kv.2]) ps kvs ∧
    ∀ p, H p = none → Q (.ref p) (L2.upd H p (.dK (mergeK [] kvs)))
theorem call_dictPK {X : Cx} (hc : X.calm = true) : CallR X (.type "dict") (rDictP X.K) := call_dictP hc
theorem pairs_rp {K : PySem.W.Frag} {F H : Hp} (s : Same F H) : ∀ {xs : List D} {vs : List V} {ps : List (Key × D)}, RpL F xs vs → pairsD xs = some ps →
    ∃ (as : List Addr) (kvs : List (Key × V)), vs = as.map V.ref ∧ Paired (fun p kv => SqT K H p [kV kv.1, kv.2]) as kvs ∧ Paired (fun (p : Key × D) (kv : Key × V) => p.1 = kv.1 ∧ Rp F p.2 kv.2) ps kvs
  | [], vs, ps, r, e => by cases r; cases e; exact ⟨[], [], rfl, .nil, .nil⟩
  | x :: xs, vs, ps, ⟨v, r, e, h1, h2⟩, hp => by
    subst e
    unfold pairsD at hp
    split at hp
    · rename_i p ps' e1 e2
      cases hp
      obtain ⟨as, kvs, ea, pa, pb⟩ := pairs_rp s h2 e2
      unfold pairD at e1
      split at e1
      · rename_i k y
        obtain ⟨k', ek, rfl⟩ := Option.map_eq_some_iff.mp e1
        obtain ⟨a, ws, rfl, ha, ra⟩ := h1
        obtain ⟨u1, u2, rfl, r1, r2⟩ := rp2 ra
        have := keyD_rp r1 ek
        subst this
        exact ⟨a :: as, (k', u2) :: kvs, by rw [ea]; rfl, .cons (.of (s _ _ ha)) pa, .cons ⟨rfl, r2⟩ pb⟩
      · cases e1
    · cases hp
theorem mrg_rp {F : Hp} : ∀ {ps : List (Key × D)} {kvs : List (Key × V)} {acc : List Key × List D} {akv : List (Key × V)}, Paired (fun (p : Key × D) (kv : Key × V) => p.1 = kv.1 ∧ Rp F p.2 kv.2) ps kvs →
    akv.map (·.1) = acc.1 → RpL F acc.2 (akv.map (·.2)) → (mergeK akv kvs).map (·.1) = (mrgD acc ps).1 ∧ RpL F (mrgD acc ps).2 ((mergeK akv kvs).map (·.2))
  | _, _, acc, akv, .nil, h1, h2 => ⟨h1, h2⟩
  | _, _, acc, akv, .cons (a := p) (b := kv) h t, h1, h2 => by
    obtain ⟨e, r⟩ := h
    obtain ⟨i1, i2⟩ := put_rp (k := kv.1) h1 h2 r
    refine mrg_rp (acc := (putKs acc.1 p.1, putXs acc.1 acc.2 p.1 p.2)) (akv := putK akv kv.1 kv.2) t ?_ ?_
    · rw [e]; exact i1
    · rw [e]; exact i2
theorem ct_dictP {K : PySem.W.Frag} {md : Md} : CallT (rDictP K) (cDictP md) := by
  intro M H F ds vs Q Qv m r q f
  unfold cDictP at q
  split at q
  · rename_i x
    obtain ⟨v, rfl, h1⟩ := rp1 r
    have vw := m.view h1
    split at q
    · rename_i xs hx
      rw [hx] at vw
      obtain ⟨a, ws, rfl, ha, ra⟩ := vw
      split at q
      · rename_i ps ep
        obtain ⟨as, kvs, ea, pa, pb⟩ := pairs_rp (K := K) m.same ra ep
        subst ea
        obtain ⟨g1, g2⟩ := mrg_rp (acc := ([], [])) (akv := []) pb rfl rfl
        exact ⟨a, as, kvs, rfl, .of ha, pa, new_dct m g1 g2 q f⟩
      · exact q.elim
    · exact q.elim
  · exact q.elim
/-! what comes of pairs with int keys -/
theorem pairsD_map {α : Type} (k : α → Int) (v : α → D) : ∀ l : List α, pairsD (l.map fun a => .tup [.int (k a), v a]) = some (l.map fun a => (Sum.inl (k a), v a))
  | [] => rfl
  | a :: l => by
    show (match pairD (.tup [.int (k a), v a]), pairsD (l.map fun a => .tup [.int (k a), v a]) with | some p, some ps => some (p :: ps) | _, _ => none) = _
    rw [pairsD_map k v l]; rfl
theorem mrg_keys {α : Type} (k : α → Int) (v : α → D) : ∀ (l : List α) (ns : List Int) (xs : List D), ns.Nodup → ∃ ms : List Int, (mrgD (ns.map Sum.inl, xs) (l.map fun a => (Sum.inl (k a), v a))).1 = ms.map Sum.inl ∧ ms.Nodup ∧ (∀ m, m ∈ ms ↔ m ∈ ns ∨ ∃ a ∈ l, k a = m) ∧ ms.length ≤ ns.length + l.length
  | [], ns, xs, h => ⟨ns, rfl, h, by simp, by simp⟩
  | a :: l, ns, xs, h => by
    show ∃ ms : List Int, (mrgD (putKs (ns.map Sum.inl) (.inl (k a)), putXs (ns.map Sum.inl) xs (.inl (k a)) (v a)) (l.map fun a => (Sum.inl (k a), v a))).1 = _ ∧ _
    have e : ∃ ns2 : List Int, putKs (ns.map Sum.inl) (.inl (k a)) = ns2.map Sum.inl ∧ ns2.Nodup ∧ (∀ m, m ∈ ns2 ↔ m ∈ ns ∨ m = k a) ∧ ns2.length ≤ ns.length + 1 := by
      by_cases hm : k a ∈ ns
      · refine ⟨ns, ?_, h, fun m => ⟨.inl, fun z => z.elim id fun z => z ▸ hm⟩, by omega⟩
        unfold putKs
        rw [if_pos]
        rw [List.any_eq_true]
        exact ⟨.inl (k a), List.mem_map_of_mem hm, decide_eq_true rfl⟩
      · refine ⟨ns ++ [k a], putKs_new hm, ?_, fun m => by simp, by simp⟩
        rw [List.nodup_append]
        exact ⟨h, by simp, by rintro x hx y hy rfl; simp at hy; subst hy; exact hm hx⟩
    obtain ⟨ns2, e1, e2, e3, e4⟩ := e
    rw [e1]
    obtain ⟨ms, f1, f2, f3, f4⟩ := mrg_keys k v l ns2 _ e2
    refine ⟨ms, f1, f2, fun m => ?_, by rw [List.length_cons]; omega⟩
    rw [f3, e3]
    constructor
    · rintro ((h | rfl) | ⟨b, hb, rfl⟩)
      · exact .inl h
      · exact .inr ⟨a, List.mem_cons_self, rfl⟩
      · exact .inr ⟨b, List.mem_cons_of_mem _ hb, rfl⟩
    · rintro (h | ⟨b, hb, rfl⟩)
      · exact .inl (.inl h)
      · rcases List.mem_cons.mp hb with rfl | hb
        · exact .inl (.inr rfl)
        · exact .inr ⟨b, hb, rfl⟩
/-! ### what can be shown: small data -/
mutual
def cst : D → Nat
  | .int _ => 41
  | .lst xs => csts xs
  | .tup xs => csts xs
  | _ => 0
def csts : List D → Nat
  | [] => 0
  | x :: xs => cst x + 1 + csts xs
end
mutual
def sml : Nat → D → Bool
  | _, .int i => decide (i.natAbs < 10 ^ 12)
  | _, .bl _ => true
  | _, .non => true
  | n + 1, .lst xs => smls n xs
  | n + 1, .tup xs => smls n xs
  | _, _ => false
def smls : Nat → List D → Bool
  | _, [] => true
  | n, x :: xs => sml n x && smls n xs
end
theorem log2_small {n : Nat} (h : n < 10 ^ 12) : n.log2 < 40 := by
  by_cases h0 : n = 0
  · subst h0; decide
  · rw [Nat.log2_lt h0]
    exact Nat.lt_trans h (by decide)
mutual
theorem sml_ok : ∀ (n : Nat) (d : D), sml n d = true → (toPD d).canLay0 = true ∧ (toPD d).depth ≤ n ∧ (toPD d).showable = true ∧ (toPD d).leavesShort 13 = true ∧ (toPD d).weight ≤ cst d
  | _, .int i, h => by
    have h1 : i.natAbs < 10 ^ 12 := by simpa [sml] using h
    have h2 := log2_small h1
    refine ⟨by simp [toPD, PyData.canLay0], by simp [toPD, PyData.depth], ?_, ?_, ?_⟩
    · simp only [toPD, PyData.showable, decide_eq_true_eq]; omega
    · simp only [toPD, PyData.leavesShort, decide_eq_true_eq]; exact PyData.shown_int_le h1
    · simp only [toPD, PyData.weight, cst]; split <;> omega
  | _, .bl b, _ => ⟨by simp [toPD, PyData.canLay0], by simp [toPD, PyData.depth], by simp [toPD, PyData.showable], by simp [toPD, PyData.leavesShort], by simp [toPD, PyData.weight]⟩
  | _, .non, _ => ⟨by simp [toPD, PyData.canLay0], by simp [toPD, PyData.depth], by simp [toPD, PyData.showable], by simp [toPD, PyData.leavesShort], by simp [toPD, PyData.weight]⟩
  | n + 1, .lst xs, h => by
    obtain ⟨h1, h2, h3, h4, h5⟩ := smls_ok n xs (by simpa [sml] using h)
    exact ⟨by simpa [toPD, PyData.canLay0] using h1, by simp only [toPD, PyData.depth]; omega, by simpa [toPD, PyData.showable] using h3, by simpa [toPD, PyData.leavesShort] using h4, by simpa [toPD, PyData.weight, cst] using h5⟩
  | n + 1, .tup xs, h => by
    obtain ⟨h1, h2, h3, h4, h5⟩ := smls_ok n xs (by simpa [sml] using h)
    exact ⟨by simpa [toPD, PyData.canLay0] using h1, by simp only [toPD, PyData.depth]; omega, by simpa [toPD, PyData.showable] using h3, by simpa [toPD, PyData.leavesShort] using h4, by simpa [toPD, PyData.weight, cst] using h5⟩
  | 0, .lst xs, h => by simp [sml] at h
  | 0, .tup xs, h => by simp [sml] at h
  | _, .str _, h => by simp [sml] at h
  | _, .ref _, h => by simp [sml] at h
  | _, .ty _, h => by simp [sml] at h
  | _, .dct _ _, h => by simp [sml] at h
  | _, .scr _ _, h => by simp [sml] at h
theorem smls_ok : ∀ (n : Nat) (ds : List D), smls n ds = true → PyData.canLayAll0 (toPDs ds) = true ∧ PyData.depthAll (toPDs ds) ≤ n ∧ PyData.showableAll (toPDs ds) = true ∧ PyData.leavesShortAll 13 (toPDs ds) = true ∧ PyData.weightAll (toPDs ds) ≤ csts ds
  | _, [], _ => ⟨by simp [toPDs, PyData.canLayAll0], by simp [toPDs, PyData.depthAll], by simp [toPDs, PyData.showableAll], by simp [toPDs, PyData.leavesShortAll], by simp [toPDs, PyData.weightAll]⟩
  | n, x :: xs, h => by
    have hh : sml n x = true ∧ smls n xs = true := by simpa [smls] using h
    obtain ⟨a1, a2, a3, a4, a5⟩ := sml_ok n x hh.1
    obtain ⟨b1, b2, b3, b4, b5⟩ := smls_ok n xs hh.2
    refine ⟨by simp [toPDs, PyData.canLayAll0, a1, b1], by simp only [toPDs, PyData.depthAll]; omega, by simp [toPDs, PyData.showableAll, a3, b3], by simp [toPDs, PyData.leavesShortAll, a4, b4], by simp only [toPDs, PyData.weightAll, csts]; omega⟩
end
theorem repOk_of {n : Nat} {d : D} (h : sml n d = true) (hn : n ≤ 60) (c : cst d ≤ 1000000) : repOk d = true := by
  obtain ⟨h1, h2, h3, h4, h5⟩ := sml_ok n d h
  unfold repOk pdOk SeqAt.shaped
  simp only [Bool.and_eq_true, decide_eq_true_eq]
  exact ⟨⟨h1, by omega⟩, h3, PyData.shown_fits (B := 13) (by decide) (by decide) h4 (by omega)⟩
theorem csts_ints : ∀ ns : List Int, csts (ns.map .int) = 42 * ns.length
  | [] => rfl
  | n :: r => by simp only [List.map_cons, csts, cst, csts_ints r, List.length_cons]; omega
theorem smls_ints {n : Nat} : ∀ {ns : List Int}, (∀ x ∈ ns, x.natAbs < 10 ^ 12) → smls n (ns.map .int) = true
  | [], _ => rfl
  | x :: r, h => by
    simp only [List.map_cons, smls, sml, Bool.and_eq_true, decide_eq_true_eq]
    exact ⟨h x List.mem_cons_self, smls_ints fun y hy => h y (List.mem_cons_of_mem _ hy)⟩
theorem repOk_ints {ns : List Int} (h : ∀ x ∈ ns, x.natAbs < 10 ^ 12) (l : ns.length ≤ 20000) : repOk (.lst (ns.map .int)) = true :=
  repOk_of (n := 1) (by simp only [sml]; exact smls_ints h) (by decide) (by simp only [cst, csts_ints]; omega)
/-! ### lists in order with the same members are one -/
theorem srt_ext : ∀ {a b : List Int}, a.Pairwise (· < ·) → b.Pairwise (· < ·) → (∀ x, x ∈ a ↔ x ∈ b) → a = b
  | [], [], _, _, _ => rfl
  | [], y :: b, _, _, h => by have := (h y).mpr List.mem_cons_self; simp at this
  | x :: a, [], _, _, h => by have := (h x).mp List.mem_cons_self; simp at this
  | x :: a, y :: b, ha, hb, h => by
    obtain ⟨ha1, ha2⟩ := List.pairwise_cons.mp ha
    obtain ⟨hb1, hb2⟩ := List.pairwise_cons.mp hb
    have e : x = y := by
      rcases List.mem_cons.mp ((h x).mp List.mem_cons_self) with e | e
      · exact e
      · rcases List.mem_cons.mp ((h y).mpr List.mem_cons_self) with e2 | e2
        · exact e2.symm
        · have := ha1 y e2; have := hb1 x e; omega
    subst e
    rw [srt_ext ha2 hb2 fun z => ?_]
    constructor
    · intro hz
      rcases List.mem_cons.mp ((h z).mp (List.mem_cons_of_mem _ hz)) with e | e
      · subst e; have := ha1 z hz; omega
      · exact e
    · intro hz
      rcases List.mem_cons.mp ((h z).mpr (List.mem_cons_of_mem _ hz)) with e | e
      · subst e; have := hb1 z hz; omega
      · exact e
/-- ordered lists of the same things -/
theorem srt_perm : ∀ {a b : List Int}, a.Pairwise (· ≤ ·) → b.Pairwise (· ≤ ·) → a.Perm b → a = b
  | [], b, _, _, h => (h.symm.eq_nil).symm
  | x :: a, [], _, _, h => by have := h.length_eq; simp at this
  | x :: a, y :: b, ha, hb, h => by
    obtain ⟨ha1, ha2⟩ := List.pairwise_cons.mp ha
    obtain ⟨hb1, hb2⟩ := List.pairwise_cons.mp hb
    have e : x = y := by
      have m1 := h.mem_iff.mp (List.mem_cons_self (a := x) (l := a))
      have m2 := h.mem_iff.mpr (List.mem_cons_self (a := y) (l := b))
      rcases List.mem_cons.mp m1 with e | e
      · exact e
      · rcases List.mem_cons.mp m2 with e2 | e2
        · exact e2.symm
        · have := ha1 y e2; have := hb1 x e; omega
    subst e
    rw [srt_perm ha2 hb2 (List.Perm.cons_inv h)]
/-! ### found[place] = card, card by card -/
def putAll (acc : List Int) (ps : List (Int × Int)) : List Int := ps.foldl (fun acc p => acc.set p.2.toNat p.1) acc
theorem putAll_length : ∀ (ps : List (Int × Int)) (acc : List Int), (putAll acc ps).length = acc.length
  | [], _ => rfl
  | p :: ps, acc => by show (putAll (acc.set p.2.toNat p.1) ps).length = _; rw [putAll_length ps, List.length_set]
theorem putAll_snoc {acc : List Int} {ps : List (Int × Int)} {p : Int × Int} : putAll acc (ps ++ [p]) = (putAll acc ps).set p.2.toNat p.1 := by unfold putAll; rw [List.foldl_append]; rfl
theorem putAll_other {k : Nat} : ∀ (ps : List (Int × Int)) (acc : List Int), (∀ p ∈ ps, p.2.toNat ≠ k) → (putAll acc ps)[k]? = acc[k]?
  | [], _, _ => rfl
  | p :: ps, acc, h => by
    show (putAll (acc.set p.2.toNat p.1) ps)[k]? = _
    rw [putAll_other ps _ fun q hq => h q (List.mem_cons_of_mem _ hq), List.getElem?_set_ne (h p List.mem_cons_self)]
theorem putAll_at : ∀ (ns os acc : List Int), ns.length = os.length → os.Nodup → (∀ o ∈ os, 0 ≤ o ∧ o < acc.length) → os.map (fun o => (putAll acc (ns.zip os)).getD o.toNat 0) = ns
  | [], [], _, _, _, _ => rfl
  | n :: ns, o :: os, acc, hl, hn, hb => by
    obtain ⟨h1, h2⟩ := List.nodup_cons.mp hn
    have ho := hb o List.mem_cons_self
    have ih := putAll_at ns os (acc.set o.toNat n) (by simpa using hl) h2 (fun x hx => by rw [List.length_set]; exact hb x (List.mem_cons_of_mem _ hx))
    show (putAll (acc.set o.toNat n) (ns.zip os)).getD o.toNat 0 :: os.map (fun o' => (putAll (acc.set o.toNat n) (ns.zip os)).getD o'.toNat 0) = n :: ns
    rw [ih, List.getD_eq_getElem?_getD, putAll_other _ _ fun p hp => ?_, List.getElem?_set_self (by omega)]
    · rfl
    · have hm := (List.of_mem_zip hp).2
      have := hb p.2 (List.mem_cons_of_mem _ hm)
      intro e
      have e2 : p.2 = o := by omega
      exact h1 (e2 ▸ hm)
theorem map_getD_rng (fs : List Int) : (rngI 0 1 fs.length).map (fun o => fs.getD o.toNat 0) = fs := by
  apply List.ext_getElem?
  intro i
  simp only [rngI, List.map_map, List.getElem?_map]
  by_cases h : i < fs.length
  · rw [List.getElem?_range h, List.getElem?_eq_getElem h]
    simp [h]
  · rw [List.getElem?_eq_none (by simpa using h), List.getElem?_eq_none (by omega)]; rfl
theorem putAll_perm {ns os acc : List Int} (hl : ns.length = acc.length) (hp : os.Perm (rngI 0 1 acc.length)) :
    os.map (fun o => (putAll acc (ns.zip os)).getD o.toNat 0) = ns ∧ (putAll acc (ns.zip os)).Perm ns := by
  have h1 := hp.length_eq
  rw [rngI_length] at h1
  have e := putAll_at ns os acc (by omega) (hp.nodup_iff.mpr rngI_nodup) fun o ho => by
    have := mem_rngI.mp (hp.mem_iff.mp ho); omega
  refine ⟨e, ?_⟩
  have h2 := (hp.map (fun o => (putAll acc (ns.zip os)).getD o.toNat 0))
  rw [e] at h2
  have h3 := map_getD_rng (putAll acc (ns.zip os))
  rw [putAll_length] at h3
  rw [h3] at h2
  exact h2.symm
/-! ### zip(x, y), x and y being lists somewhere -/
def zpP (x y : D) (xs ys : List D) : Mp → Prop := fun M' => match x, y with
  | .lst _, .lst _ => True
  | x, y => nrm M' x = .lst xs ∧ nrm M' y = .lst ys
theorem zpP_of {x y : D} {xs ys : List D} {M : Mp} (hx : nrm M x = .lst xs) (hy : nrm M y = .lst ys) : zpP x y xs ys M := by
  unfold zpP
  split
  · trivial
  · exact ⟨hx, hy⟩
theorem zip_hi {x y : D} {xs ys : List D} {ρ : DEnv} {M : Mp} {R : List D → (Mp → Prop) → Mp → Prop} (hx : nrm M x = .lst xs) (hy : nrm M y = .lst ys) (h : R (zipD xs ys) (zpP x y xs ys) M) : iZp (fun _ M Q => Q [x, y] M) ρ M R := by
  cases x with
  | lst xs' =>
    obtain rfl : xs' = xs := by cases hx; rfl
    cases y with
    | lst ys' =>
      obtain rfl : ys' = ys := by cases hy; rfl
      exact h
    | ref b =>
      have h2 : R (zipD xs' ys) (fun M' => nrm M' (.lst xs') = .lst xs' ∧ nrm M' (.ref b) = .lst ys) M := h
      show match nrm M (.lst xs'), nrm M (.ref b) with | .lst xs, .lst ys => R (zipD xs ys) (fun M' => nrm M' (.lst xs') = .lst xs ∧ nrm M' (.ref b) = .lst ys) M | _, _ => False
      rw [hy]
      exact h2
    | _ => cases hy
  | ref a =>
    have h2 : R (zipD xs ys) (fun M' => nrm M' (.ref a) = .lst xs ∧ nrm M' y = .lst ys) M := h
    show match nrm M (.ref a), nrm M y with | .lst xs, .lst ys => R (zipD xs ys) (fun M' => nrm M' (.ref a) = .lst xs ∧ nrm M' y = .lst ys) M | _, _ => False
    rw [hx, hy]
    exact h2
  | _ => cases hx
/-! ### == of texts -/
def nEqS (neg : Bool) : DO := fun x y M Q => match x, y with
  | .str i, .str j => Q (.bl (if neg then !decide (i = j) else decide (i = j))) M
  | x, y => nEq neg x y M Q
def wEqS (neg : Bool) : DO := fun x y M Q => nEqS neg (nrm M x) (nrm M y) M Q
theorem ot_eqS {K : PySem.W.Frag} : OpT (fun x y H Q => rEqD K x y H Q ∨ rEq x y H Q) (wEqS false) := by
  intro M H F d1 d2 v1 v2 Q Qv m r1 r2 q f
  unfold wEqS nEqS at q
  split at q
  · rename_i i j e1 e2
    have w1 := m.view r1
    have w2 := m.view r2
    rw [e1] at w1
    rw [e2] at w2
    obtain rfl : v1 = V.str i := w1
    obtain rfl : v2 = V.str j := w2
    refine .inr ⟨rfl, f.here (d := .bl _) m ?_ q⟩
    show V.bl _ = V.bl _
    simp
  · exact .inl (ot_eq M H F d1 d2 v1 v2 Q Qv m r1 r2 q f)
theorem ot_neS {K : PySem.W.Frag} : OpT (fun x y H Q => rNeD K x y H Q ∨ rNe x y H Q) (wEqS true) := by
  intro M H F d1 d2 v1 v2 Q Qv m r1 r2 q f
  unfold wEqS nEqS at q
  split at q
  · rename_i i j e1 e2
    have w1 := m.view r1
    have w2 := m.view r2
    rw [e1] at w1
    rw [e2] at w2
    obtain rfl : v1 = V.str i := w1
    obtain rfl : v2 = V.str j := w2
    refine .inr ⟨rfl, f.here (d := .bl _) m ?_ q⟩
    show V.bl _ = V.bl _
    simp
  · exact .inl (ot_ne M H F d1 d2 v1 v2 Q Qv m r1 r2 q f)
/-! ### a value with lists in it is given away: what is not kept is frozen -/
mutual
inductive Fz (M M2 : Mp) : D → D → Prop
  | same (d : D) : Fz M M2 d d
  | ref {a : Addr} {xs ys : List D} (h : M a = some (.lst xs)) (h2 : M2 a = none) (r : FzL M M2 xs ys) : Fz M M2 (.ref a) (.lst ys)
  | lst {xs ys : List D} (r : FzL M M2 xs ys) : Fz M M2 (.lst xs) (.lst ys)
  | tup {xs ys : List D} (r : FzL M M2 xs ys) : Fz M M2 (.tup xs) (.tup ys)
inductive FzL (M M2 : Mp) : List D → List D → Prop
  | same (xs : List D) : FzL M M2 xs xs
  | cons {x y : D} {xs ys : List D} (h : Fz M M2 x y) (r : FzL M M2 xs ys) : FzL M M2 (x :: xs) (y :: ys)
end
/-- what is frozen when the table shrinks -/
noncomputable def frzF (M M2 : Mp) (H F : Hp) : Hp := fun b => open Classical in if M b ≠ none ∧ M2 b = none then H b else F b
theorem frzF_same {M M2 : Mp} {H F : Hp} (m : Mem M H F) : Same F (frzF M M2 H F) := fun b o e => by
  unfold frzF
  rw [if_neg]
  · exact e
  · rintro ⟨h, _⟩
    cases hb : M b with
    | none => exact h hb
    | some q => have := (m.mem b q hb).1; rw [e] at this; cases this
theorem frzF_at {M M2 : Mp} {H F : Hp} {a : Addr} {q : MO} (h : M a = some q) (h2 : M2 a = none) : frzF M M2 H F a = H a := by
  unfold frzF
  have hn : M a ≠ none := by rw [h]; exact fun z => nomatch z
  rw [if_pos ⟨hn, h2⟩]
mutual
theorem Fz.rp {M M2 : Mp} {H F : Hp} (m : Mem M H F) : ∀ {d d' : D} {v : V}, Fz M M2 d d' → Rp F d v → Rp (frzF M M2 H F) d' v
  | _, _, _, .same d, r => Rp.mono (frzF_same m) d _ r
  | _, _, v, .ref (a := a) h h2 rl, r => by
    have r : v = .ref a := r
    subst r
    obtain ⟨_, o, ho, vs, rfl, rr⟩ := m.mem a _ h
    exact ⟨a, vs, rfl, (frzF_at h h2).trans ho, FzL.rp m rl rr⟩
  | _, _, _, .lst rl, ⟨a, vs, e, f, r⟩ => ⟨a, vs, e, frzF_same m _ _ f, FzL.rp m rl r⟩
  | _, _, _, .tup rl, ⟨a, vs, e, f, r⟩ => ⟨a, vs, e, frzF_same m _ _ f, FzL.rp m rl r⟩
theorem FzL.rp {M M2 : Mp} {H F : Hp} (m : Mem M H F) : ∀ {d d' : List D} {v : List V}, FzL M M2 d d' → RpL F d v → RpL (frzF M M2 H F) d' v
  | _, _, _, .same d, r => RpL.mono (frzF_same m) d _ r
  | _, _, _, .cons h rl, ⟨v, r, e, h1, h2⟩ => ⟨v, r, e, Fz.rp m h h1, FzL.rp m rl h2⟩
end
theorem Mem.freezes {M M2 : Mp} {H F : Hp} (m : Mem M H F) (l : MLe M2 M) : Mem M2 H (frzF M M2 H F) ∧ Ext M H F M2 H (frzF M M2 H F) := by
  refine ⟨⟨fun b o e => ?_, fun a q e => ?_⟩, frzF_same m, fun _ _ e _ => e, fun a e => ?_, fun a e => ?_⟩
  · unfold frzF at e
    split at e
    · exact e
    · exact m.same _ _ e
  · obtain ⟨h1, o, h2, h3⟩ := m.mem a q (l a q e)
    refine ⟨?_, o, h2, h3.mono (frzF_same m)⟩
    unfold frzF
    rw [if_neg (by rintro ⟨_, z⟩; rw [e] at z; cases z)]
    exact h1
  · left
    cases h : M2 a with
    | none => exact absurd h e
    | some q => rw [l a q h]; exact fun z => nomatch z
  · unfold frzF at e
    split at e
    · rename_i h; exact .inr (.inl h.1)
    · exact .inl e
def wFrzTK (Q : DK) : DK := fun d M => ∃ d' M2, MLe M2 M ∧ Fz M M2 d d' ∧ Q d' M2
def wFrzT (w : DE) : DE := fun ρ M Q => w ρ M (wFrzTK Q)
theorem tr_frzT {t : TE} {w : DE} (h : Tr t w) : Tr t (wFrzT w) := fun ρ M σ H F Q Qv er m q f => h ρ M σ H F _ _ er m q fun d v M' H' F' m' e r ⟨d', M2, l, z, q⟩ =>
  let ⟨m2, e2⟩ := m'.freezes l
  f _ _ _ _ _ m2 (e.trans e2) (z.rp m' r) q
theorem frzT_two {M : Mp} {p q : Addr} {xs ys : List D} {C : DK} (hp : M p = none) (hq : M q = none) (hpq : p ≠ q) (c : C (.tup [.lst xs, .lst ys]) M) : wFrzTK C (.tup [.ref p, .ref q]) ((M.set p (.lst xs)).set q (.lst ys)) :=
  ⟨_, M, ((MLe.refl M).put hp).put hq, .tup (.cons (.ref (by rw [Mp.set_ne hpq, Mp.set_same]) hp (.same _)) (.cons (.ref Mp.set_same hq (.same _)) (.same _))), c⟩

/-! ### xs.extend(ys), xs.count(k) -/
def mExt : DM := fun x ds M Q => match x, ds with
  | .ref a, [y] => match M a, nrm M y with
    | some (.lst xs), .lst zs => Sz (xs.length + zs.length) ∧ Q .non (M.set a (.lst (xs ++ zs)))
    | _, _ => False
  | _, _ => False
theorem mt_extendR {X : Cx} : MtR X "list.extend" rExtend := mt_extend
theorem mt_extendD : MethT rExtend mExt := by
  intro M H F d v ds vs Q Qv m r1 r2 q f
  unfold mExt at q
  split at q
  · rename_i a y
    have r1 : v = .ref a := r1
    subst r1
    obtain ⟨u, rfl, h1⟩ := rp1 r2
    have vy := m.view h1
    split at q
    · rename_i xs zs e ey
      rw [ey] at vy
      obtain ⟨b, ws, rfl, hb, rb⟩ := vy
      obtain ⟨_, o, ho, vs, rfl, rr⟩ := m.mem a _ e
      obtain ⟨m', e'⟩ := m.chg e (o := .lst (vs ++ ws)) (q := .lst (xs ++ zs)) ⟨_, rfl, rr.append rb⟩
      refine ⟨a, b, vs, ws, rfl, rfl, ho, hb, ?_, f .non _ _ _ _ m' e' rfl q.2⟩
      rw [rr.length, rb.length]; exact q.1.line
    · exact q.elim
  · exact q.elim
def mCnt : DM := fun x ds M Q => match nrm M x, ds with
  | .lst xs, [.int k] => match intsD xs with
    | some ns => Q (.int (ns.count k : Nat)) M
    | none => False
  | _, _ => False
theorem mt_countD {K : PySem.W.Frag} : MethT (rCntI K) mCnt := by
  intro M H F d v ds vs Q Qv m r1 r2 q f
  unfold mCnt at q
  have vw := m.view r1
  split at q
  · rename_i xs k e
    rw [e] at vw
    obtain ⟨a, ws, rfl, ha, ra⟩ := vw
    obtain ⟨u, rfl, h1⟩ := rp1 r2
    cases h1
    split at q
    · rename_i ns en
      have e2 := ints_eq en
      subst e2
      rw [ra.ints] at ha
      exact ⟨a, ns, k, rfl, rfl, .of ha, f.here (d := .int _) m rfl q⟩
    · exact q.elim
  · exact q.elim
/-! ### xs[i] op= e -/
theorem pget_list {X : Cx} : PGet X (rIxL X.K) := by
  intro pins s σ H x y v u Q I rx ry h
  obtain ⟨p, xs, i, z, rfl, rfl, hq, he, q⟩ := h
  cases rx
  obtain ⟨t, rfl⟩ := ry
  obtain ⟨its, r, pl, hz⟩ := I.list hq
  obtain ⟨j, h1, h2, h3, h4, h5⟩ := atI_get he
  obtain ⟨w, ew, rw'⟩ := r.get h2
  have hl := r.length
  have hn := line63
  have fin : EP X pins σ Q w s := ⟨z, H, I, rw', q⟩
  by_cases h0 : 0 ≤ i
  · have hj : i.toNat = j := by
      rw [seqIndex_of h0 h5] at h1
      exact Option.some.inj h1
    exact wpAny_getItem_list pl.isList h0 (by omega) (by rw [hj]; simpa using ew) fin
  · have hj : (i + (its.toArray.size : Int)).toNat = j := by
      rw [seqIndex_neg (by omega) h4] at h1
      rw [List.size_toArray, ← hl]
      exact Option.some.inj h1
    exact wpAny_getItem_list_neg pl.isList (by omega) (by rw [List.size_toArray] <;> omega) (by omega) (by rw [hj]; simpa using ew) fin
def nIxL : DO := fun x y M Q => match nrm M x, y with
  | .lst xs, .int i => match atI xs i with
    | some d => Q d M
    | none => False
  | _, _ => False
def sAugS (o i e : DE) (op : DO) (st : DSet) : DS := fun Dd ρ M => o ρ M fun x M1 => i ρ M1 fun y M2 => nIxL x y M2 fun z M3 => e ρ M3 fun v M4 => op z v M4 fun u M5 => st x y u M5 fun M6 => Dd.nx ρ M6
theorem ts_augS {K : PySem.W.Frag} {to ti te : TE} {o i e : DE} {r : R2} {op : DO} {t : TSet} {st : DSet} (ho : Tr to o) (hi : Tr ti i) (he : Tr te e) (hop : OpT r op) (hs : TrSet t st) : TrS (tAugS to ti te (rIxL K) r t) (sAugS o i e op st) := by
  intro ρ M σ H F Dd De er m q f
  refine ho ρ M σ H F _ _ er m q fun x ov M1 H1 F1 m1 e1 r1 q1 => ?_
  refine hi ρ M1 σ H1 F1 _ _ (er.mono e1.fs) m1 q1 fun y iv M2 H2 F2 m2 e2 r2 q2 => ?_
  have r1' := Rp.mono e2.fs _ _ r1
  have vw := m2.view r1'
  unfold nIxL at q2
  split at q2
  · rename_i xs k ex
    rw [ex] at vw
    obtain ⟨a, vs, rfl, ha, ra⟩ := vw
    have r2' : iv = .int k := r2
    subst r2'
    split at q2
    · rename_i d ed
      obtain ⟨w, ew, rw'⟩ := atI_rp ra ed
      refine ⟨a, vs, k, w, rfl, rfl, .of ha, ew, ?_⟩
      refine he ρ M2 σ H2 F2 _ _ (er.mono (e1.trans e2).fs) m2 q2 fun v4 u4 M4 H4 F4 m4 e4 r4 q4 => ?_
      refine hop M4 H4 F4 d v4 w u4 _ _ m4 (Rp.mono e4.fs _ _ rw') r4 q4 fun v5 u5 M5 H5 F5 m5 e5 r5 q5 => ?_
      refine hs x (.int k) v5 (.ref a) (.int k) u5 M5 H5 F5 _ _ m5 (Rp.mono (e4.trans e5).fs _ _ r1') rfl r5 q5 fun M6 H6 F6 m6 e6 q6 => ?_
      have ee := e1.trans (e2.trans (e4.trans (e5.trans e6)))
      exact f.nx _ _ _ _ _ (er.mono ee.fs) m6 ee q6
    · exact q2.elim
  · exact q2.elim
/-! ### [e for x in a if c for y in b if d] -/
theorem it_gen {J : It} {n : Nat} {G : Hp → Prop} {Y : Nat → Hp → V → Hp → Prop} (w : Walk J n G Y) {H0 : Hp} {Qd : Hp → Prop} {B : (Hp → Prop) → V → Hp → Prop} (Pv : Nat → Hp → Prop) (h0 : Pv 0 H0) (hG : ∀ i H, i ≤ n → Pv i H → G H)
    (hs : ∀ i x H H', i < n → Pv i H → Y i H x H' → B (Pv (i + 1)) x H') (hd : ∀ H, Pv n H → Qd H) :
    ∃ W : Nat → Nat → Hp → Prop, (∃ m, W 0 m H0) ∧ ∀ i m H, W i m H →
      (J.stop i H ∧ Qd H) ∨ (J.go i H ∧ ∃ Nx : Hp → Prop, (∀ H', Nx H' → ∃ m', m' < m ∧ W (i + 1) m' H') ∧ ∀ x H', J.yld i H x H' → B Nx x H') := by
  refine ⟨fun i m H => m = n - i ∧ i ≤ n ∧ Pv i H, ⟨n, by simp, Nat.zero_le _, h0⟩, ?_⟩
  rintro i m H ⟨rfl, hi, p⟩
  have q := hG i H hi p
  by_cases hlt : i < n
  · refine .inr ⟨w.goes i H hlt q, Pv (i + 1), fun H' p' => ⟨n - (i + 1), by omega, rfl, hlt, p'⟩, fun x H' y => hs i x H H' hlt p (w.yields i H x H' hlt q y)⟩
  · have e : i = n := by omega
    subst e
    exact .inl ⟨w.stops H q, hd H p⟩
def wLc2 (md : Md) (wi : DI) (g : DG) (tt : DT) (wi1 : DI) (g1 : DG) (tt1 : DT) (te : DE) (vs vs1 : List Nat) : DE := fun ρ M Q => wi ρ M fun xs P M1 => ∃ W : Nat → List D → Mp → Prop, W 0 [] M1 ∧ (∀ i acc M, i ≤ xs.length → W i acc M → P M) ∧
  (∀ i x acc M, xs[i]? = some x → W i acc M → g x (wipeD ρ vs) M fun ρ2 M2 => tt ρ2 M2 fun b M3 => if b = true then wi1 ρ2 M3 fun ys P1 M4 => ∃ W1 : Nat → List D → Mp → Prop, W1 0 acc M4 ∧ (∀ j acc M, j ≤ ys.length → W1 j acc M → P1 M) ∧
    (∀ j y acc M, ys[j]? = some y → W1 j acc M → g1 y (wipeD ρ2 vs1) M fun ρ3 M5 => tt1 ρ3 M5 fun b M6 => if b = true then te ρ3 M6 fun z M7 => acc.length < 16777216 ∧ W1 (j + 1) (acc ++ [z]) M7 else W1 (j + 1) acc M6) ∧ ∀ acc M, W1 ys.length acc M → W (i + 1) acc M
    else W (i + 1) acc M3) ∧ ∀ acc M, W xs.length acc M → wNew md acc M Q
theorem tr_lc2 {md : Md} {wi wi1 : TI} {g g1 : TG} {tt tt1 : TT} {te : TE} {vs vs1 : List Nat} {di di1 : DI} {dg dg1 : DG} {dt dt1 : DT} {de : DE} (hi : TrI wi di) (hg : TrC vs g dg) (ht : TrT tt dt) (hi1 : TrI wi1 di1) (hg1 : TrC vs1 g1 dg1) (ht1 : TrT tt1 dt1) (he : Tr te de) :
    Tr (tLc2 wi g tt wi1 g1 tt1 te vs vs1) (wLc2 md di dg dt di1 dg1 dt1 de vs vs1) := by
  intro ρ M σ H F Q Qv er m q f
  refine hi ρ M σ H F _ _ er m q fun xs P J M1 H1 F1 m1 e1 wk q1 D hD => ?_
  obtain ⟨W, w0, wP, wt, we⟩ := q1
  obtain ⟨G, Y, wJ, hG, hY⟩ := wk
  obtain ⟨f1, mm1⟩ := m1.fresh hD
  have erw := (er.mono e1.fs).wipe vs
  refine it_gen wJ (fun i H => ∃ acc av M F, Mem M H F ∧ Ext M1 H1 F1 M H F ∧ H D = some (.lst av) ∧ F D = none ∧ M D = none ∧ RpL F acc av ∧ W i acc M) ⟨[], [], M1, F1, m1.dark f1 mm1 _, Ext.refl.dark hD _, upd_same, f1, mm1, rfl, w0⟩
    (fun i H hi ⟨acc, av, M, F, m, e, h1, h2, h3, r, w⟩ => hG M H F m e.fs (wP i acc M hi w)) (fun i x H H' hi ⟨acc, av, M, F, m, e, h1, h2, h3, r, w⟩ y => ?_)
    fun H ⟨acc, av, M, F, m, e, h1, h2, h3, r, w⟩ => adopt m e hD h1 h2 h3 r (we acc M w) (f.ext e1)
  obtain ⟨F', d, m', e', hd, rd⟩ := hY i x H H' M F hi m e.fs (wP i acc M (Nat.le_of_lt hi) w) y
  refine hg d x (wipeD ρ vs) M (wipe σ vs) H' F' _ _ (erw.mono (e.trans e').fs) m' rd (wt i d acc M hd w) fun ρ2 M2 σ2 H2 F2 er2 m2 e2 z2 q2 => ⟨z2.trans wipe_wipe, ?_⟩
  refine ht ρ2 M2 σ2 H2 F2 _ _ er2 m2 q2 fun b M3 H3 F3 m3 e3 q3 => ?_
  have k1 := e'.still h1 h2 h3
  have k2 := e2.still k1.1 k1.2.1 k1.2.2
  have k3 := e3.still k2.1 k2.2.1 k2.2.2
  have ee := e.trans (e'.trans (e2.trans e3))
  have ra := RpL.mono (e'.trans (e2.trans e3)).fs _ _ r
  cases b with
  | false => exact ⟨acc, av, M3, F3, m3, ee, k3.1, k3.2.1, k3.2.2, ra, q3⟩
  | true =>
    refine hi1 ρ2 M3 σ2 H3 F3 _ _ (er2.mono e3.fs) m3 q3 fun ys P1 J1 M4 H4 F4 m4 e4 wk1 q4 => ?_
    obtain ⟨W1, v0, vP, vt, ve⟩ := q4
    obtain ⟨G1, Y1, wJ1, hG1, hY1⟩ := wk1
    have k4 := e4.still k3.1 k3.2.1 k3.2.2
    have ee4 := ee.trans e4
    have erv := ((er2.mono e3.fs).mono e4.fs).wipe vs1
    refine it_gen wJ1 (fun j H => ∃ acc av M F, Mem M H F ∧ Same F4 F ∧ H D = some (.lst av) ∧ F D = none ∧ M D = none ∧ Ext M1 H1 F1 M H F ∧ RpL F acc av ∧ W1 j acc M) ⟨acc, av, M4, F4, m4, .refl _, k4.1, k4.2.1, k4.2.2, ee4, RpL.mono e4.fs _ _ ra, v0⟩
      (fun j H hj ⟨acc, av, M, F, m, e, h1, h2, h3, e0, r, w⟩ => hG1 M H F m e (vP j acc M hj w)) (fun j x1 H5 H6 hj ⟨acc, av, M5, F5, m5, e5, h1, h2, h3, e0, r5, w5⟩ y1 => ?_)
      fun H ⟨acc, av, M, F, m, e, h1, h2, h3, e0, r, w⟩ => ⟨acc, av, M, F, m, e0, h1, h2, h3, r, ve acc M w⟩
    obtain ⟨F6, d1, m6, e6, hd1, rd1⟩ := hY1 j x1 H5 H6 M5 F5 hj m5 e5 (vP j acc M5 (Nat.le_of_lt hj) w5) y1
    refine hg1 d1 x1 (wipeD ρ2 vs1) M5 (wipe σ2 vs1) H6 F6 _ _ (erv.mono (e5.trans e6.fs)) m6 rd1 (vt j d1 acc M5 hd1 w5) fun ρ3 M7 σ3 H7 F7 er3 m7 e7 z3 q7 => ⟨z3.trans wipe_wipe, ?_⟩
    refine ht1 ρ3 M7 σ3 H7 F7 _ _ er3 m7 q7 fun b M8 H8 F8 m8 e8 q8 => ?_
    have j1 := e6.still h1 h2 h3
    have j2 := e7.still j1.1 j1.2.1 j1.2.2
    have j3 := e8.still j2.1 j2.2.1 j2.2.2
    have eu := e6.trans (e7.trans e8)
    cases b with
    | false => exact ⟨acc, av, M8, F8, m8, e5.trans eu.fs, j3.1, j3.2.1, j3.2.2, e0.trans eu, RpL.mono eu.fs _ _ r5, q8⟩
    | true =>
      refine he ρ3 M8 σ3 H8 F8 _ _ (er3.mono e8.fs) m8 q8 fun yd yv M9 H9 F9 m9 e9 r9 q9 => ?_
      have j4 := e9.still j3.1 j3.2.1 j3.2.2
      have ev := eu.trans e9
      exact ⟨av, j4.1, by rw [r5.length, sizeLine_eq]; exact q9.1, acc ++ [yd], av ++ [yv], M9, F9, m9.dark j4.2.1 j4.2.2 _, e5.trans ev.fs, upd_same, j4.2.1, j4.2.2, (e0.trans ev).dark hD _, (RpL.mono ev.fs _ _ r5).append (RpL.one r9), q9.2⟩
theorem cut_ab {α : Type} {xs : List α} {a b : Int} (h0 : 0 ≤ a) (h1 : a ≤ b) : cutD xs (some a) (some b) = (xs.drop a.toNat).take (b.toNat - a.toNat) := by
  obtain ⟨i, rfl⟩ := Int.eq_ofNat_of_zero_le h0
  obtain ⟨j, rfl⟩ := Int.eq_ofNat_of_zero_le (show 0 ≤ b by omega)
  unfold cutD
  rw [HT.sIx_nat, HT.sIx_nat]
  show (xs.drop (min i xs.length)).take (min j xs.length - min i xs.length) = (xs.drop i).take (j - i)
  by_cases c : i ≤ xs.length
  · rw [Nat.min_eq_left c]
    by_cases d : j ≤ xs.length
    · rw [Nat.min_eq_left d]
    · rw [Nat.min_eq_right (by omega), List.take_of_length_le (by rw [List.length_drop]; omega), List.take_of_length_le (by rw [List.length_drop]; omega)]
  · rw [List.drop_of_length_le (by omega), List.drop_of_length_le (by omega), List.take_nil, List.take_nil]
/-- the two kinds of perfect shuffles -/
def kindS (out : Bool) : Str := if out then "out" else "in"
/-! ### xs[lo:hi:step] -/
def pickL {α : Type} (xs : List α) (lo hi st : Option Int) : List α := (sliceRange (sliceBounds lo hi st xs.length).1 (sliceBounds lo hi st xs.length).2.1 (sliceBounds lo hi st xs.length).2.2).filterMap (xs[·]?)
theorem slicePick_eq (its : List Value) (lo hi st : Option Int) : slicePick its.toArray lo hi st = (pickL its lo hi st).toArray := by
  unfold slicePick pickL
  rw [List.size_toArray]
  congr 1
  simp only [List.getElem?_toArray]
theorem pickL_map {α β : Type} (f : α → β) (xs : List α) (lo hi st : Option Int) : pickL (xs.map f) lo hi st = (pickL xs lo hi st).map f := by
  unfold pickL
  rw [List.length_map, List.map_filterMap]
  congr 1
  funext i
  rw [List.getElem?_map]
theorem fm_vals {xs : List V} {us : List Value} (r : Vals xs us) : ∀ is : List Nat, Vals (is.filterMap (xs[·]?)) (is.filterMap (us[·]?))
  | [] => .nil
  | i :: is => by
    have ih := fm_vals r is
    simp only [List.filterMap_cons]
    cases e : xs[i]? with
    | none => rw [r.none_of e]; exact ih
    | some x => obtain ⟨u, e1, r1⟩ := r.get e; rw [e1]; exact .cons r1 ih
theorem fm_rp {F : Hp} {xs : List D} {vs : List V} (r : RpL F xs vs) : ∀ is : List Nat, RpL F (is.filterMap (xs[·]?)) (is.filterMap (vs[·]?))
  | [] => rfl
  | i :: is => by
    have ih := fm_rp r is
    simp only [List.filterMap_cons]
    cases e : xs[i]? with
    | none =>
      have : vs[i]? = none := by
        rw [List.getElem?_eq_none_iff] at e ⊢
        rw [r.length]; exact e
      rw [this]; exact ih
    | some x => obtain ⟨u, e1, r1⟩ := r.get e; rw [e1]; exact ⟨u, _, rfl, r1, ih⟩
theorem pick_vals' {xs : List V} {us : List Value} (r : Vals xs us) (lo hi st : Option Int) : Vals (pickL xs lo hi st) (pickL us lo hi st) := by
  unfold pickL; rw [r.length]; exact fm_vals r _
theorem pick_rp' {F : Hp} {xs : List D} {vs : List V} (r : RpL F xs vs) (lo hi st : Option Int) : RpL F (pickL xs lo hi st) (pickL vs lo hi st) := by
  unfold pickL; rw [r.length]; exact fm_rp r _
def tSlS (K : PySem.W.Frag) (te : TE) (tl th ts : TO) : TE := fun σ H Q => te σ H fun x H1 => tl σ H1 fun l H2 => th σ H2 fun u H3 => ts σ H3 fun o H4 => ∃ (a : Addr) (xs : List V), x = .ref a ∧ o ≠ some 0 ∧ SqL K H4 a xs ∧ (pickL xs l u o).length ≤ sizeLine ∧ ∀ p, H4 p = none → Q (.ref p) (L2.upd H4 p (.lst (pickL xs l u o)))
theorem pe_slS {X : Cx} {e : Expr} {lo hi st : Option Expr} {te : TE} {tl th ts : TO} {p3 pos : Pos} (he : PE X e te) (hl : PO X lo tl) (hu : PO X hi th) (hs : PO X st ts) (hsub : ∀ a b, subscripted (.Slice lo hi st p3) false a b = operate [a, b] (getItem a b)) : PE X (.Subscript e (.Slice lo hi st p3) pos) (tSlS X.K te tl th ts) := ⟨fun pins s σ H Q inv h => by
  refine Subscript_ (thn (he.run pins s σ H _ inv h) fun v s1 ⟨x, H1, inv1, r1, q1⟩ => ?_)
  refine wpAny_Slice (thn (hl.run pins s1 σ H1 _ inv1 q1) fun vl s2 ⟨l, H2, inv2, pl, q2⟩ => ?_)
  refine thn (hu.run pins s2 σ H2 _ inv2 q2) fun vu s3 ⟨u, H3, inv3, pu, q3⟩ => ?_
  refine thn (hs.run pins s3 σ H3 _ inv3 q3) fun vs s4 ⟨o, H4, inv4, ps, a, xs, ex, eo, hx, hz, q⟩ => ?_
  subst ex
  cases r1
  have inv5 : Inv X pins σ H4 { s4 with heap := s4.heap.push { cls := .type "slice", data := .fields #[vl, vu, vs] } } := inv4.kept (t' := s4.toks) fun _ _ old => Heap.get?_push_of_some _ old
  obtain ⟨its, rv, plain, size⟩ := inv5.list hx
  have same := rv.length
  show wpAny (model X.prog X.w) X.A (subscriptTail e (.Slice lo hi st p3) (.ref a) (.ref s4.heap.objs.size)) (EP X pins σ Q) X.xe { s4 with heap := s4.heap.push { cls := .type "slice", data := .fields #[vl, vu, vs] } }
  refine tail_any (ops := [.ref a, .ref s4.heap.objs.size]) plain.isList.typeIs (PySem.slot_list_getitem.lookup) ?_ (hsub _ _)
  refine wpAny_getItem_list_slice plain.isList (Heap.IsSliceOf.new _ vl vu vs) pl pu ps eo ?_ (by rw [List.size_toArray]; omega)
  rw [slicePick_eq]
  exact ⟨.ref _, _, inv5.laid (t' := s4.toks) (o := .lst (pickL xs l u o)) (fun _ _ old => Heap.get?_push_of_some _ old) (Nat.le_refl _) ⟨hz, _, 0, pick_vals' rv l u o, Heap.get?_push_size _ rfl⟩, rfl, q _ (inv5.hok.fresh (Nat.le_refl _))⟩⟩
def wSlS (md : Md) (a : DE) (lo hi st : DP) : DE := fun ρ M Q => a ρ M fun x M1 => lo ρ M1 fun l M2 => hi ρ M2 fun u M3 => st ρ M3 fun o M4 => o ≠ some 0 ∧ match nrm M4 x with
  | .lst xs => Sz (pickL xs l u o).length ∧ wNew md (pickL xs l u o) M4 Q
  | _ => False
theorem tr_slS {K : PySem.W.Frag} {md : Md} {t : TE} {tl th ts : TO} {a : DE} {lo hi st : DP} (h : Tr t a) (hl : TrP tl lo) (hh : TrP th hi) (hs : TrP ts st) : Tr (tSlS K t tl th ts) (wSlS md a lo hi st) := by
  intro ρ M σ H F Q Qv er m q f
  refine h ρ M σ H F _ _ er m q fun x v M1 H1 F1 m1 e1 r1 q1 => ?_
  refine hl ρ M1 σ H1 F1 _ _ (er.mono e1.fs) m1 q1 fun l M2 H2 F2 m2 e2 q2 => ?_
  refine hh ρ M2 σ H2 F2 _ _ (er.mono (e1.trans e2).fs) m2 q2 fun u M3 H3 F3 m3 e3 q3 => ?_
  refine hs ρ M3 σ H3 F3 _ _ (er.mono (e1.trans (e2.trans e3)).fs) m3 q3 fun o M4 H4 F4 m4 e4 q4 => ?_
  have ee := e2.trans (e3.trans e4)
  obtain ⟨q5, q4⟩ := q4
  have vw := m4.view (Rp.mono ee.fs _ _ r1)
  split at q4
  · rename_i xs e
    rw [e] at vw
    obtain ⟨a, vs, rfl, ha, ra⟩ := vw
    have rr := pick_rp' ra l u o
    exact ⟨a, vs, rfl, q5, .of ha, by rw [rr.length]; exact q4.1.line, new_lst m4 rr q4.2 (f.ext (e1.trans ee))⟩
  · exact q4.elim
/-! ### a list of lists that can be changed -/
theorem MLe.put1 {M M' : Mp} {s : Addr} {a : MO} (h : MLe M M') (hs : M' s = some a) : MLe (M.set s a) M' := fun x q e => by
  by_cases h2 : x = s
  · subst h2; rw [Mp.set_same] at e; cases e; exact hs
  · rw [Mp.set_ne h2] at e; exact h x q e
def RowsAt (M : Mp) (as : List Addr) (xss : List (List D)) : Prop := as.length = xss.length ∧ ∀ (i : Nat) (a : Addr) (xs : List D), as[i]? = some a → xss[i]? = some xs → M a = some (.lst xs)
theorem RowsAt.nil {M : Mp} : RowsAt M [] [] := ⟨rfl, fun i a xs h => by simp at h⟩
theorem RowsAt.tail {M : Mp} {a : Addr} {as : List Addr} {xs : List D} {xss : List (List D)} (h : RowsAt M (a :: as) (xs :: xss)) : M a = some (.lst xs) ∧ RowsAt M as xss :=
  ⟨h.2 0 a xs rfl rfl, by simpa using h.1, fun i b ys h1 h2 => h.2 (i + 1) b ys (by simpa using h1) (by simpa using h2)⟩
theorem RowsAt.rs {M : Mp} : ∀ {as : List Addr} {xss : List (List D)}, RowsAt M as xss → RsL M (as.map D.ref) (xss.map D.lst)
  | [], [], _ => .same _
  | [], _ :: _, h => by have := h.1; simp at this
  | _ :: _, [], h => by have := h.1; simp at this
  | a :: as, xs :: xss, h => .cons (.ref h.tail.1 (.same _)) (RowsAt.rs h.tail.2)
theorem RowsAt.fz {M M2 : Mp} : ∀ {as : List Addr} {xss : List (List D)}, RowsAt M as xss → (∀ a ∈ as, M2 a = none) → FzL M M2 (as.map D.ref) (xss.map D.lst)
  | [], [], _, _ => .same _
  | [], _ :: _, h, _ => by have := h.1; simp at this
  | _ :: _, [], h, _ => by have := h.1; simp at this
  | a :: as, xs :: xss, h, hn => .cons (.ref h.tail.1 (hn a (by simp)) (.same _)) (RowsAt.fz h.tail.2 fun b hb => hn b (by simp [hb]))
theorem RowsAt.mono {M M' : Mp} {as : List Addr} {xss : List (List D)} (h : RowsAt M as xss) (k : ∀ a ∈ as, M' a = M a) : RowsAt M' as xss :=
  ⟨h.1, fun i a xs h1 h2 => by rw [k a (List.mem_of_getElem? h1)]; exact h.2 i a xs h1 h2⟩
theorem RowsAt.some {M : Mp} {as : List Addr} {xss : List (List D)} (h : RowsAt M as xss) {a : Addr} (ha : a ∈ as) : ∃ xs, M a = some (.lst xs) := by
  obtain ⟨i, hi⟩ := List.getElem?_of_mem ha
  have hl := (List.getElem?_eq_some_iff.mp hi).1
  exact ⟨_, h.2 i a _ hi (List.getElem?_eq_getElem (by rw [← h.1]; exact hl))⟩
theorem RowsAt.put {M : Mp} {as : List Addr} {xss : List (List D)} (h : RowsAt M as xss) {p : Addr} {m : MO} (hp : p ∉ as) : RowsAt (M.set p m) as xss :=
  h.mono fun a ha => Mp.set_ne fun e => hp (e ▸ ha)
theorem RowsAt.snoc {M : Mp} {as : List Addr} {xss : List (List D)} (h : RowsAt M as xss) {a : Addr} {xs : List D} (ha : M a = .some (.lst xs)) : RowsAt M (as ++ [a]) (xss ++ [xs]) := by
  refine ⟨by simp [h.1], fun i b ys h1 h2 => ?_⟩
  by_cases hi : i < as.length
  · rw [List.getElem?_append_left hi] at h1
    rw [List.getElem?_append_left (by rw [← h.1]; exact hi)] at h2
    exact h.2 i b ys h1 h2
  · rw [List.getElem?_append_right (by omega)] at h1
    rw [List.getElem?_append_right (by rw [← h.1]; omega), ← h.1] at h2
    obtain ⟨k, hk⟩ : ∃ k, i - as.length = k := ⟨_, rfl⟩
    rw [hk] at h1 h2
    cases k with
    | zero => simp at h1 h2; subst h1; subst h2; exact ha
    | succ k => simp at h1
theorem RowsAt.setAt {M : Mp} {as : List Addr} {xss : List (List D)} (h : RowsAt M as xss) (hn : as.Nodup) {i : Nat} {a : Addr} (hi : as[i]? = .some a) (ys : List D) : RowsAt (M.set a (.lst ys)) as (xss.set i ys) := by
  refine ⟨by rw [List.length_set]; exact h.1, fun j b zs h1 h2 => ?_⟩
  by_cases hj : j = i
  · subst hj
    have hl := (List.getElem?_eq_some_iff.mp hi).1
    rw [hi] at h1; cases h1
    rw [List.getElem?_set_self (by rw [← h.1]; exact hl)] at h2; cases h2
    exact Mp.set_same
  · rw [List.getElem?_set_ne (Ne.symm hj)] at h2
    have hl := (List.getElem?_eq_some_iff.mp h1).1
    have hne : b ≠ a := fun e => by subst e; exact hj ((List.getElem?_inj hl hn).mp (h1.trans hi.symm))
    rw [Mp.set_ne hne]
    exact h.2 j b zs h1 h2
theorem atI_last_ref {as : List Addr} {a : Addr} : atI ((as ++ [a]).map D.ref) (-1) = some (.ref a) := by
  unfold atI ixN
  rw [List.length_map, List.length_append, List.length_singleton, if_neg (by decide), if_pos (by omega)]
  simp only [Option.bind_some]
  rw [show (-1 + ((as.length + 1 : Nat) : Int)).toNat = as.length by omega, List.map_append, List.getElem?_append_right (by simp)]
  simp
theorem pdOk_rows {xss : List (List Int)} : pdOk (.lst (xss.map fun l => D.lst (l.map D.int))) = true := by
  have h1 : ∀ xss : List (List Int), PyData.canLayAll0 (toPDs (xss.map fun l => D.lst (l.map D.int))) = true ∧ PyData.depthAll (toPDs (xss.map fun l => D.lst (l.map D.int))) ≤ 2 := by
    intro xss
    induction xss with
    | nil => simp [toPDs, PyData.canLayAll0, PyData.depthAll]
    | cons x xs ih =>
      have := depth_ints x
      refine ⟨by simp [toPDs, toPD, toPDs_ints, PyData.canLayAll0, PyData.canLay0, canLay_ints, ih.1], ?_⟩
      simp only [List.map_cons, toPDs, toPD, toPDs_ints, PyData.depthAll, PyData.depth]
      omega
  obtain ⟨a, b⟩ := h1 xss
  unfold pdOk SeqAt.shaped
  simp only [toPD, PyData.canLay0, a, PyData.depth, Bool.true_and, decide_eq_true_eq]
  omega
theorem deq_lnil {xs : List D} : deq (.lst xs) (.lst []) = xs.isEmpty := by
  cases xs <;> simp [deq, toPD, toPDs, PyData.eqv, PyData.eqvAll]
theorem atI_lastL {xs : List D} {d : D} : atI (xs ++ [d]) (-1) = some d := by
  unfold atI ixN
  rw [List.length_append, List.length_singleton, if_neg (by decide), if_pos (by omega)]
  simp only [Option.bind_some]
  rw [show (-1 + ((xs.length + 1 : Nat) : Int)).toNat = xs.length by omega, List.getElem?_append_right (by simp)]
  simp

/-! ### {k: v for target in iter if ..} -/
theorem adoptD {md : Md} {ks : List Key} {xs : List D} {kvs : List (Key × V)} {Q : DK} {Qv : VK} {M0 M : Mp} {H0 F0 H F : Hp} {p : Addr} (m : Mem M H F) (e : Ext M0 H0 F0 M H F) (h0 : H0 p = none) (hp : H p = some (.dK kvs)) (hf : F p = none) (hm : M p = none) (hk : kvs.map (·.1) = ks) (r : RpL F xs (kvs.map (·.2))) (h : wNewD md ks xs M Q) (f : Fin Q Qv M0 H0 F0) : Qv (.ref p) H := by
  cases md with
  | frz =>
    refine f (.dct ks xs) _ M H (L2.upd F p (.dK kvs)) ⟨fun b x q => ?_, fun a q w => ?_⟩ ⟨e.fs.trans (same_upd hf), e.keep, e.new, fun a w => ?_⟩ ⟨p, kvs, rfl, upd_same, hk, RpL.mono (same_upd hf) _ _ r⟩ h
    · by_cases hb : b = p
      · subst hb; rw [upd_same] at q; cases q; exact hp
      · rw [upd_ne hb] at q; exact m.same b x q
    · obtain ⟨h1, x, h2, h3⟩ := m.mem a q w
      have ne : a ≠ p := fun z => by subst z; rw [hm] at w; cases w
      exact ⟨by rw [upd_ne ne]; exact h1, x, h2, h3.mono (same_upd hf)⟩
    · by_cases ha : a = p
      · subst ha; exact .inr (.inr (.inl h0))
      · rw [upd_ne ha] at w; exact e.fnew a w
  | own =>
    refine f (.ref p) _ (M.set p (.dK ks xs)) H F ⟨m.same, fun a q w => ?_⟩ ⟨e.fs, e.keep, fun a w => ?_, e.fnew⟩ rfl (h p hm)
    · by_cases ha : a = p
      · subst ha; rw [Mp.set_same] at w; cases w; exact ⟨hf, _, hp, kvs, rfl, hk, r⟩
      · rw [Mp.set_ne ha] at w; exact m.mem a q w
    · by_cases ha : a = p
      · subst ha; exact .inr h0
      · rw [Mp.set_ne ha] at w; exact e.new a w
def wDc (md : Md) (wi : DI) (g : DG) (tt : DT) (tk tv : DE) (vs : List Nat) : DE := fun ρ M Q => wi ρ M fun xs P M1 => Sz xs.length ∧ ∃ W : Nat → List Key → List D → Mp → Prop, W 0 [] [] M1 ∧ (∀ i ks ys M, i ≤ xs.length → W i ks ys M → P M) ∧
  (∀ i x ks ys M, xs[i]? = some x → W i ks ys M → g x (wipeD ρ vs) M fun ρ2 M2 => tt ρ2 M2 fun b M3 => if b = true then tk ρ2 M3 fun y M4 => tv ρ2 M4 fun z M5 => (match keyD y with | some k => W (i + 1) (putKs ks k) (putXs ks ys k z) M5 | none => False) else W (i + 1) ks ys M3) ∧ ∀ ks ys M, W xs.length ks ys M → wNewD md ks ys M Q
theorem tr_dc {md : Md} {wi : TI} {g : TG} {tt : TT} {tk tv : TE} {vs : List Nat} {di : DI} {dg : DG} {dt : DT} {dk dv : DE} (hi : TrI wi di) (hg : TrC vs g dg) (ht : TrT tt dt) (hk : Tr tk dk) (hv : Tr tv dv) : Tr (tDc wi g tt tk tv vs) (wDc md di dg dt dk dv vs) := by
  intro ρ M σ H F Q Qv er m q f
  refine hi ρ M σ H F _ _ er m q fun xs P J M1 H1 F1 m1 e1 wk q1 D hD => ?_
  obtain ⟨hz, W, w0, wP, wt, we⟩ := q1
  obtain ⟨G, Y, wJ, hG, hY⟩ := wk
  obtain ⟨f1, mm1⟩ := m1.fresh hD
  have erw := (er.mono e1.fs).wipe vs
  refine it_gen wJ (fun i H => ∃ (kvs : List (Key × V)) (ys : List DL.D) (M : Mp) (F : Hp), kvs.length ≤ i ∧ Mem M H F ∧ Ext M1 H1 F1 M H F ∧ H D = some (.dK kvs) ∧ F D = none ∧ M D = none ∧ RpL F ys (kvs.map (·.2)) ∧ W i (kvs.map (·.1)) ys M) ⟨[], [], M1, F1, Nat.le_refl _, m1.dark f1 mm1 _, Ext.refl.dark hD _, upd_same, f1, mm1, rfl, w0⟩
    (fun i H hi ⟨kvs, ys, M, F, l, m, e, h1, h2, h3, r, w⟩ => hG M H F m e.fs (wP i _ _ M hi w)) (fun i x H H' hi ⟨kvs, ys, M, F, l, m, e, h1, h2, h3, r, w⟩ y => ?_)
    fun H ⟨kvs, ys, M, F, l, m, e, h1, h2, h3, r, w⟩ => adoptD m e hD h1 h2 h3 rfl r (we _ _ M w) (f.ext e1)
  obtain ⟨F', d, m', e', hd, rd⟩ := hY i x H H' M F hi m e.fs (wP i _ _ M (Nat.le_of_lt hi) w) y
  refine hg d x (wipeD ρ vs) M (wipe σ vs) H' F' _ _ (erw.mono (e.trans e').fs) m' rd (wt i d _ _ M hd w) fun ρ2 M2 σ2 H2 F2 er2 m2 e2 z2 q2 => ⟨z2.trans wipe_wipe, ?_⟩
  refine ht ρ2 M2 σ2 H2 F2 _ _ er2 m2 q2 fun b M3 H3 F3 m3 e3 q3 => ?_
  have k1 := e'.still h1 h2 h3
  have k2 := e2.still k1.1 k1.2.1 k1.2.2
  have k3 := e3.still k2.1 k2.2.1 k2.2.2
  have ee := e.trans (e'.trans (e2.trans e3))
  cases b with
  | false => exact ⟨kvs, ys, M3, F3, by omega, m3, ee, k3.1, k3.2.1, k3.2.2, RpL.mono (e'.trans (e2.trans e3)).fs _ _ r, q3⟩
  | true =>
    refine hk ρ2 M3 σ2 H3 F3 _ _ (er2.mono e3.fs) m3 q3 fun yd yv M4 H4 F4 m4 e4 r4 q4 => ?_
    have k4 := e4.still k3.1 k3.2.1 k3.2.2
    refine hv ρ2 M4 σ2 H4 F4 _ _ ((er2.mono e3.fs).mono e4.fs) m4 q4 fun zd zv M5 H5 F5 m5 e5 r5 q5 => ?_
    have k5 := e5.still k4.1 k4.2.1 k4.2.2
    split at q5
    · rename_i k ek
      have ey := keyD_rp r4 ek
      have eu := e'.trans (e2.trans (e3.trans (e4.trans e5)))
      obtain ⟨g1, g2⟩ := put_rp (ks := kvs.map (·.1)) (kvs := kvs) (k := k) rfl (RpL.mono eu.fs _ _ r) r5
      have hl := length_putK kvs k zv
      rw [← g1] at q5
      exact ⟨kvs, k, ey, k5.1, by rw [sizeLine_eq]; unfold Sz at hz; omega, putK kvs k zv, _, M5, F5, by omega, m5.dark k5.2.1 k5.2.2 _, (e.trans eu).dark hD _, upd_same, k5.2.1, k5.2.2, g2, q5⟩
    · exact q5.elim
/-! ### sep.join(texts) -/
def strsD : List D → Option (List Str)
  | [] => some []
  | .str x :: r => (strsD r).map (x :: ·)
  | _ => none
theorem strsD_map : ∀ xs : List Str, strsD (xs.map D.str) = some xs
  | [] => rfl
  | x :: r => by show (strsD (r.map D.str)).map (x :: ·) = _; rw [strsD_map r]; rfl
theorem strs_rp {F : Hp} : ∀ {xs : List D} {vs : List V} {ys : List Str}, RpL F xs vs → strsD xs = some ys → vs = ys.map V.str
  | [], _, _, r, e => by cases r; cases e; rfl
  | .str x :: xs, _, ys, ⟨v, r, e, h1, h2⟩, h => by
    subst e
    obtain ⟨zs, h3, rfl⟩ := Option.map_eq_some_iff.mp (show (strsD xs).map (x :: ·) = some ys from h)
    cases h1
    rw [strs_rp h2 h3]; rfl
  | .non :: _, _, _, _, h => nomatch h
  | .bl _ :: _, _, _, _, h => nomatch h
  | .int _ :: _, _, _, _, h => nomatch h
  | .ref _ :: _, _, _, _, h => nomatch h
  | .ty _ :: _, _, _, _, h => nomatch h
  | .lst _ :: _, _, _, _, h => nomatch h
  | .tup _ :: _, _, _, _, h => nomatch h
  | .dct _ _ :: _, _, _, _, h => nomatch h
  | .scr _ _ :: _, _, _, _, h => nomatch h
def rJoin (K : PySem.W.Frag) : V → List V → Hp → VK → Prop := fun x xs H Q => ∃ a p, ∃ ys : List Str, x = .str a ∧ xs = [.ref p] ∧ (SqL K H p (ys.map V.str) ∨ SqT K H p (ys.map V.str)) ∧
      (ys.map (·.length)).sum + ys.length * a.length ≤ 16777216 ∧ Q (.str (Txt.join a ys)) H
def wJoin (a b : DE) : DE := fun ρ M Q => a ρ M fun x M1 => match x with
  | .str s => b ρ M1 fun y M2 => match nrm M2 y with
    | .lst xs => match strsD xs with
      | some ys => (ys.map (·.length)).sum + ys.length * s.length ≤ 16777216 ∧ Q (.str (Txt.join s ys)) M2
      | none => False
    | _ => False
  | _ => False
theorem tr_join {K : PySem.W.Frag} {t u : TE} {a b : DE} (ha : Tr t a) (hb : Tr u b) : Tr (tM1 (rJoin K) t u) (wJoin a b) := by
  intro ρ M σ H F Q Qv er m q f
  refine ha ρ M σ H F _ _ er m q fun d1 v1 M1 H1 F1 m1 e1 r1 q1 => ?_
  cases d1 with
  | str s =>
    refine ⟨⟨s, r1⟩, ?_⟩
    refine hb ρ M1 σ H1 F1 _ _ (er.mono e1.fs) m1 q1 fun d2 v2 M2 H2 F2 m2 e2 r2 q2 => ?_
    have vw := m2.view r2
    split at q2
    · rename_i xs ex
      rw [ex] at vw
      obtain ⟨p, vs, rfl, hp, ra⟩ := vw
      split at q2
      · rename_i ys ey
        have := strs_rp ra ey
        subst this
        exact ⟨s, p, ys, r1, rfl, .inl (.of hp), q2.1, f (.str _) _ _ _ _ m2 (e1.trans e2) rfl q2.2⟩
      · exact q2.elim
    · exact q2.elim
  | _ => exact q1.elim
/-! ### name = {k: v for ..} on one line -/
theorem ps_setDc {X : Cx} {i : Nat} {y : Str} {py : Pos} {kx vx tg iter : Expr} {ifs : List Expr} {scope : Scope} {own : List (Str × Nat)} {pos spos : Pos} {wi : TI} {g : TG} {tt : TT} {tk tv : TE} (hc : X.calm = true) (hN : X.N.Nodup) (hy : X.N[i]? = some y) (hyl : X.env.scope.names.lookup y = some .local)
    (hsw : swapsWith (.DictComp kx vx [⟨tg, iter, ifs, 0⟩] scope pos) (some (.Name y py)) spos.line X.env = pure true) (hi : PI X tg iter wi) (ok : BlkOk X.N X.env.scope scope own)
    (hg : ∀ (s : Shared) (H : Hp) (C : Addr) (cl : List (Str × Addr)) (fp : List Addr), PG (X.blk s H scope (compEnvC scope cl C X.env) fp) tg g) (ht : ∀ (s : Shared) (H : Hp) (C : Addr) (cl : List (Str × Addr)) (fp : List Addr), PTs (X.blk s H scope (compEnvC scope cl C X.env) fp) ifs tt)
    (hk : ∀ (s : Shared) (H : Hp) (C : Addr) (cl : List (Str × Addr)) (fp : List Addr), PE (X.blk s H scope (compEnvC scope cl C X.env) fp) kx tk)
    (he : ∀ (s : Shared) (H : Hp) (C : Addr) (cl : List (Str × Addr)) (fp : List Addr), PE (X.blk s H scope (compEnvC scope cl C X.env) fp) vx tv) (hs : ∀ x, foldedSetIterable iter X.env x = pure x := by intro _; rfl) :
    PS X (.Assign [.Name y py] (.DictComp kx vx [⟨tg, iter, ifs, 0⟩] scope pos) spos) (tAsg (tDc wi g tt tk tv (own.map (·.2))) (gName i)) := by
  refine ⟨fun pins s σ H D I h => ?_⟩
  rw [exec_Assign_Name_used _ _ _ _ hsw]
  refine wpAny_bind (wpAny_standAt (wpAny_bind ?_))
  show wpAny _ X.A (do let _ ← comprehension (.DictComp kx vx [⟨tg, iter, ifs, 0⟩] scope pos) scope X.env (firstIterPos [⟨tg, iter, ifs, 0⟩] pos) newDict false (eval iter X.env) (some (assign (.Name y py) X.env))) _ _ s
  have h : tDc wi g tt tk tv (own.map (·.2)) σ H (fun x H1 => gName i x σ H1 D.nx) := h
  refine wpAny_bind (thn (dc_core (Qf := fun _ s' => SP X pins D .next s') hc hN I hi ok hg ht hk he hs h fun L C s' m H' I' q hn f => ?_) fun _ s' hq => wpAny_pure (wpAny_pure hq))
  show wpAny _ _ (assign (.Name y py) X.env (.ref L)) _ _ _
  refine wpAny_assign_Name (store_ok2 (v := V.ref L) I' hN hy (.inl hyl) rfl (fun s2 I2 ⟨a, sb, ha⟩ => ?_) (.inr hyl))
  obtain ⟨f0, f1, f2, f3, f4, f5⟩ := f
  have haC : C ≠ a := by
    rcases ha with z | z
    · rw [z]; exact f1
    · exact fun e => f4 y a z e.symm
  refine ⟨m, hn.sameBut sb haC, fun h3 sb3 => ?_⟩
  exact ⟨_, H', I2.turned (t' := s2.toks) (fun b o hb e => (sb3.2 b hb).trans e) f0 f1 f3 f4 f5, q⟩
theorem swD_true {kx vx : Expr} {gs : List Comprehension} {scope : Scope} {pos py : Pos} {y : Str} {l : Nat} {env : Env} (hk : env.scope.kind = .function) (hy : env.scope.names.lookup y = some .local) (hl : (py.line == pos.line) = true)
    (ha : (scope.names.any fun (n, k) => n == y && (k == .local || k == .cell)) = false) : swapsWith (.DictComp kx vx gs scope pos) (some (.Name y py)) l env = pure true := by
  have ky : env.kindOf y = some .local := hy
  have hb : env.blockKind = .function := by unfold Env.blockKind; rw [hk]; rfl
  unfold swapsWith
  simp only [hb, ky, ha, Expr.pos, hl]
  rfl

/-! ### sum(lists, []) -/
section
open PySem
theorem args_sum2L (a b : Value) : argsOk "sum" ⟨[a, b], []⟩ := by unfold argsOk; kernel_rfl
section
variable {prog : Program} {w : World} {A : Around} {R : Result → Shared → Prop} {I ax : Addr} {items : Array Value}
theorem codeAny_sum_lists (hh : A.in1.handled = none) (hne : ax ≠ I) (h0 : Heap) (row : Nat → Addr) (val pre : Nat → List Value) (hit : ∀ i v, items[i]? = some v → v = Value.ref (row i))
    (hrow : ∀ i, i < items.size → ∃ c, h0.get? (row i) = some { cls := .type "list", data := .seq (val i).toArray c }) (S b : Addr) (hk0 : ∀ a o, h0.get? a = some o → a ≠ I ∧ a ≠ S)
    (hSI : S ≠ I) (hSx : S ≠ ax) (hpre : ∀ i, pre (i + 1) = pre i ++ val i) (hsz : ∀ i, i ≤ items.size → (pre i).length ≤ sizeLine) :
    ∀ (k i : Nat) (s : Shared) (a : Addr) (c ca : Nat), items.size - i = k → i ≤ items.size → (s.heap.IsListIter I ax i ∧ s.heap.IsList ax items) → s.heap.get? S = some { cls := .type "list", dict := none, data := .seq #[.ref a] c, slots := #[] } →
    (∀ x o, h0.get? x = some o → s.heap.get? x = some o) → s.heap.get? a = some { cls := .type "list", data := .seq (pre i).toArray ca } → (a ≠ I ∧ a ≠ S) → (i = 0 ∧ a = b ∨ 0 < i ∧ h0.get? a = none) →
    (∀ h' tk q cq, (items.size = 0 ∧ q = b ∨ 0 < items.size ∧ h0.get? q = none) → h'.get? q = some { cls := .type "list", data := .seq (pre items.size).toArray cq } → (∀ x o, h0.get? x = some o → h'.get? x = some o) → R (.ok (.ret (.ref q))) { s with heap := h', toks := tk }) →
    codeAny (model prog w) A (.builtin "sum.loop" ⟨[.ref I, .ref S, rawInt 2, rawInt 0], []⟩) R s := by
  have W := Walks.list (prog := prog) (w := w) (A := A.in1) hh I ax hne items
  intro k
  induction k with
  | zero =>
    intro i s a c ca hk hi hst hS h0k ha hne2 hq hR
    have hin : i = items.size := by omega
    subst hin
    refine codeAny_builtin F.entry_sum_loop ?_
    rw [Around.under_plainId F.plain_sum_loop _]
    show wpAny _ A.in1 (seqItems? (.ref S) >>= _) _ _ s
    refine wpAny_bind (wpAny_seqItems hS rfl ?_)
    show wpAny _ A.in1 (tryCatch (pyNext (.ref I)) _ >>= _) _ _ s
    refine wpAny_bind (wpAny_tryCatch (W.done s _ _ hst fun h' tk hk' => ?_))
    refine wpAny_pure (hR h' tk a ca hq (hk' a _ (by simpa using hne2.1) ha) fun x o e => hk' x o (by simpa using (hk0 x o e).1) (h0k x o e))
  | succ k ih =>
    intro i s a c ca hk hi hst hS h0k ha hne2 hq hR
    have hlt : i < items.size := by omega
    refine codeAny_builtin F.entry_sum_loop ?_
    rw [Around.under_plainId F.plain_sum_loop _]
    show wpAny _ A.in1 (seqItems? (.ref S) >>= _) _ _ s
    refine wpAny_bind (wpAny_seqItems hS rfl ?_)
    show wpAny _ A.in1 (tryCatch (pyNext (.ref I)) _ >>= _) _ _ s
    refine wpAny_bind (wpAny_tryCatch (W.item i s _ _ hlt hst fun v h' tk hP hst' hk' => ?_))
    have := hit i v hP
    subst this
    obtain ⟨cr, hr⟩ := hrow i hlt
    have hr1 := hk' (row i) _ (by simpa using (hk0 _ _ hr).1) (h0k _ _ hr)
    have ha1 := hk' a _ (by simpa using hne2.1) ha
    have hS' := hk' S _ (by simpa using hSI) hS
    have hs1 := hsz (i + 1) (by omega)
    rw [hpre, List.length_append] at hs1
    show wpAny _ A.in1 ((holding [Value.ref (row i)] (binaryOp .Add (.ref a) (.ref (row i)))).attempt >>= _) _ _ _
    refine wpAny_bind (wpAny_attempt (wpAny_holding (PySem.P.add_list ha1 hr1 ?_ (by simpa using hs1))))
    have epre : (pre i).toArray ++ (val i).toArray = (pre (i + 1)).toArray := by rw [hpre]; simp
    rw [epre]
    generalize hh2 : ({ cls := .type "list", data := .seq (pre (i + 1)).toArray } : Obj) = ob
    have hSp : (h'.push ob).get? S = _ := Heap.get?_push_of_some ob hS'
    have hap : (h'.push ob).get? h'.objs.size = some ob := Heap.get?_push_size _ (by subst hh2; rfl)
    have hS1 : S ≠ h'.objs.size := Nat.ne_of_lt (Heap.lt_size hS')
    have hI1 : I ≠ h'.objs.size := by obtain ⟨o, ho, _⟩ := hst'.1; exact Nat.ne_of_lt (Heap.lt_size ho)
    have hx1 : ax ≠ h'.objs.size := by obtain ⟨o, ho, _⟩ := hst'.2; exact Nat.ne_of_lt (Heap.lt_size ho)
    have h0s : h0.get? h'.objs.size = none := by
      cases z : h0.get? h'.objs.size with
      | none => rfl
      | some o => exact absurd (Heap.lt_size (hk' _ o (by simpa using (hk0 _ o z).1) (h0k _ o z))) (Nat.lt_irrefl _)
    show wpAny _ A.in1 (updateSeq S (fun _ => #[.ref h'.objs.size]) >>= _) _ _ _
    refine wpAny_bind ?_
    refine wpAny_updateSeq hSp rfl ?_
    have hS2 := Heap.get?_update_self (Obj.mapSeq fun _ => #[Value.ref h'.objs.size]) hSp rfl
    refine wpAny_bind (wpAny_letGo ?_)
    refine wpAny_bind ?_
    have keep : ∀ x o, x ≠ S → h'.get? x = some o → (((h'.push ob).update S (Obj.mapSeq fun _ => #[Value.ref h'.objs.size])).update S (Obj.mapSeq fun _ => #[Value.ref h'.objs.size])).get? x = some o := fun x o hx e =>
      (Heap.get?_update_other _ _ (Ne.symm hx)).trans ((Heap.get?_update_other _ _ (Ne.symm hx)).trans (Heap.get?_push_of_some _ e))
    have hap2 : (((h'.push ob).update S (Obj.mapSeq fun _ => #[Value.ref h'.objs.size])).update S (Obj.mapSeq fun _ => #[Value.ref h'.objs.size])).get? h'.objs.size = some ob := (Heap.get?_update_other _ _ hS1).trans ((Heap.get?_update_other _ _ hS1).trans hap)
    subst hh2
    refine wpAny_updateSeq hS2 rfl (wpAny_pure ⟨plainId_quiet F.plain_sum_loop _, ih (i + 1) _ h'.objs.size _ 0 (by omega) hlt (W.frame _ _ _ hst' fun x hx o e => keep x o ?_ e) (Heap.get?_update_self _ hS2 rfl) (fun x o e => keep x o (hk0 x o e).2 (hk' x o (by simpa using (hk0 x o e).1) (h0k x o e))) hap2 ⟨Ne.symm hI1, Ne.symm hS1⟩ (.inr ⟨by omega, h0s⟩) fun h'' tk'' q cq hq' hg hk'' => ?_⟩)
    · intro e2
      subst e2
      simp only [List.mem_cons, List.not_mem_nil, or_false] at hx
      rcases hx with hx | hx
      · exact hSI hx
      · exact hSx hx
    · exact hR h'' tk'' q cq hq' hg hk''
end
section
variable {prog : Program} {w : World} {A : Around} {E : Value → Shared → Prop} {s : Shared}
theorem call_sum_lists {l b : Addr} {items : Array Value} {row : Nat → Addr} {val pre : Nat → List Value} {c0 : Nat} {Q : Value → Shared → Prop} (hh : A.handled = none) (hl : s.heap.IsList l items) (hit : ∀ i v, items[i]? = some v → v = Value.ref (row i))
    (hrow : ∀ i, i < items.size → ∃ c, s.heap.get? (row i) = some { cls := .type "list", data := .seq (val i).toArray c }) (hb : s.heap.get? b = some { cls := .type "list", data := .seq (pre 0).toArray c0 })
    (hpre : ∀ i, pre (i + 1) = pre i ++ val i) (hsz : ∀ i, i ≤ items.size → (pre i).length ≤ sizeLine)
    (h : ∀ h' tk q cq, (items.size = 0 ∧ q = b ∨ 0 < items.size ∧ s.heap.get? q = none) → h'.get? q = some { cls := .type "list", data := .seq (pre items.size).toArray cq } → (∀ x o, s.heap.get? x = some o → h'.get? x = some o) → Q (.ref q) { s with heap := h', toks := tk }) :
    wpAny (model prog w) A (call (.builtin "sum") [.ref l, .ref b]) Q E s := by
  have hlt : l < s.heap.objs.size := by obtain ⟨_, e, _⟩ := hl; exact Heap.lt_size e
  refine call_function_tree F.kind_sum F.plain_sum F.entry_sum (args_sum2L _ _) ?_
  unfold Builtin.«sum»
  simp only [List.length_cons, List.length_nil]
  rw [if_neg (by decide)]
  refine wpAny_bind (wpAny_of_eq (show Builtin.Builtins.bindParams "sum" ["start"] 0 { pos := [Value.ref b] } = pure [some (Value.ref b)] from rfl) ?_)
  refine wpAny_bind (wpAny_pyIter_list hl ?_)
  generalize hs2 : ({ s with heap := s.heap.push { cls := .type "list_iterator", data := .fields #[.ref l, .int 0 0] } } : Shared) = s₂
  have e2 : s₂.heap = s.heap.push { cls := .type "list_iterator", data := .fields #[.ref l, .int 0 0] } := by rw [← hs2]
  have k2 : ∀ x o, s.heap.get? x = some o → s₂.heap.get? x = some o := fun x o e => by rw [e2]; exact Heap.get?_push_of_some _ e
  have hb2 := k2 _ _ hb
  refine wpAny_bind (wpAny_pure ?_)
  simp only [List.forIn_cons, List.forIn_nil]
  refine wpAny_bind (wpAny_bind (wpAny_bind (wpAny_isInstance (T := "list") (b := false) ⟨_, hb2, rfl⟩ F.sub_list_str ?_)))
  simp only [Bool.false_eq_true, if_false]
  refine wpAny_pure (wpAny_bind (wpAny_bind (wpAny_isInstance (T := "list") (b := false) ⟨_, hb2, rfl⟩ F.sub_list_bytes ?_)))
  simp only [Bool.false_eq_true, if_false]
  refine wpAny_pure (wpAny_bind (wpAny_bind (wpAny_isInstance (T := "list") (b := false) ⟨_, hb2, rfl⟩ F.sub_list_bytearray ?_)))
  simp only [Bool.false_eq_true, if_false]
  refine wpAny_pure (wpAny_pure ?_)
  refine wpAny_bind (wpAny_newObj_type ?_)
  have szI : s.heap.objs.size < s₂.heap.objs.size := by rw [e2, Heap.size_push]; exact Nat.lt_succ_self _
  have hI : s₂.heap.IsListIter s.heap.objs.size l 0 := by rw [e2]; exact ⟨_, Heap.get?_push_size _ rfl, rfl, rfl⟩
  have hL : s₂.heap.IsList l items := by rw [e2]; exact hl.push _
  have W := Walks.list (prog := prog) (w := w) (A := A.in1) hh s.heap.objs.size l (Nat.ne_of_lt hlt) items
  refine wpAny_pure ⟨plainId_quiet F.plain_sum_loop _, codeAny_sum_lists hh (Nat.ne_of_lt hlt) s.heap row val pre hit hrow s₂.heap.objs.size b (fun a o e => ⟨Nat.ne_of_lt (Heap.lt_size e), Nat.ne_of_lt (Nat.lt_trans (Heap.lt_size e) szI)⟩)
    (Nat.ne_of_gt szI) (Nat.ne_of_gt (Nat.lt_trans hlt szI)) hpre hsz _ 0 _ b 0 c0 rfl (Nat.zero_le _) (W.frame _ _ _ ⟨hI, hL⟩ fun x _ o e => Heap.get?_push_of_some _ e) (Heap.get?_push_size _ rfl) (fun x o e => Heap.get?_push_of_some _ (k2 x o e)) (Heap.get?_push_of_some _ hb2)
    ⟨Nat.ne_of_lt (Heap.lt_size hb), Nat.ne_of_lt (Nat.lt_trans (Heap.lt_size hb) szI)⟩ (.inl ⟨rfl, rfl⟩) fun h' tk q cq hq hg hk => ?_⟩
  have := h h' tk q cq hq hg hk
  rw [← hs2]
  exact this
end
end
def rSumL : List V → Hp → VK → Prop := fun vs H Q => ∃ (a b : Addr) (ps : List (Addr × List V)), vs = [.ref a, .ref b] ∧ H a = some (.lst (ps.map fun p => V.ref p.1)) ∧ H b = some (.lst []) ∧ (∀ p ∈ ps, H p.1 = some (.lst p.2)) ∧ (ps.flatMap (·.2)).length ≤ sizeLine ∧
  (ps = [] → Q (.ref b) H) ∧ ∀ q, H q = none → Q (.ref q) (upd H q (.lst (ps.flatMap (·.2))))
theorem vals_app {xs ys : List V} {us ws : List Value} (h : Vals xs us) (h' : Vals ys ws) : Vals (xs ++ ys) (us ++ ws) := h.append h'
theorem call_sumL {X : Cx} (hc : X.calm = true) : CallR X (.builtin "sum") rSumL := by
  intro pins s σ H vs us Q I r h
  obtain ⟨a, b, ps, rfl, ha, hb, hp, hz, q0, q1⟩ := h
  obtain ⟨u1, us, rfl, r1, r2⟩ : ∃ u1 us', us = u1 :: us' ∧ RelV (.ref a) u1 ∧ Vals [.ref b] us' := by cases r with | cons h t => exact ⟨_, _, rfl, h, t⟩
  obtain ⟨u2, rfl, r3⟩ : ∃ u2, us = [u2] ∧ RelV (.ref b) u2 := by cases r2 with | cons h t => cases t with | nil => exact ⟨_, rfl, h⟩
  cases r1
  cases r3
  obtain ⟨z1, its, n1, v1, l1, e1⟩ := I.lstM ha
  obtain ⟨z2, its2, n2, v2, l2, e2⟩ := I.lstM hb
  have hi2 : its2 = [] := by cases v2; rfl
  subst hi2
  have hl : s.heap.IsList a its.toArray := ⟨_, e1, rfl, n1, rfl⟩
  have hsz : its.toArray.size = ps.length := by rw [List.size_toArray, ← l1, List.length_map]
  have key : ∀ i, ∃ (w : List Value) (c : Nat), i < ps.length → Vals (ps.getD i (0, [])).2 w ∧ s.heap.get? (ps.getD i (0, [])).1 = some { cls := .type "list", data := .seq w.toArray c } := fun i => by
    by_cases hi : i < ps.length
    · have hm : ps.getD i (0, []) ∈ ps := by rw [List.getD_eq_getElem?_getD, List.getElem?_eq_getElem hi]; exact List.getElem_mem hi
      obtain ⟨_, w, c, v, _, e⟩ := I.lstM (hp _ hm)
      exact ⟨w, c, fun _ => ⟨v, e⟩⟩
    · exact ⟨[], 0, fun h => absurd h hi⟩
  let val : Nat → List Value := fun i => Classical.choose (key i)
  have hval : ∀ i, i < ps.length → Vals (ps.getD i (0, [])).2 (val i) ∧ ∃ c, s.heap.get? (ps.getD i (0, [])).1 = some { cls := .type "list", data := .seq (val i).toArray c } := fun i hi => by
    obtain ⟨c, h⟩ := Classical.choose_spec (key i)
    exact ⟨(h hi).1, c, (h hi).2⟩
  have hpre : ∀ i, i ≤ ps.length → Vals ((ps.take i).flatMap (·.2)) ((List.range i).flatMap val) := fun i => by
    induction i with
    | zero => intro _; exact .nil
    | succ i ih =>
      intro hi
      rw [List.range_succ, List.flatMap_append, List.take_add_one, List.getElem?_eq_getElem (by omega), List.flatMap_append]
      refine (ih (by omega)).append ?_
      have := (hval i (by omega)).1
      rw [List.getD_eq_getElem?_getD, List.getElem?_eq_getElem (by omega)] at this
      simpa using this
  have hlen : ∀ i, i ≤ ps.length → ((List.range i).flatMap val).length ≤ sizeLine := fun i hi => by
    rw [← (hpre i hi).length]
    refine Nat.le_trans ?_ hz
    have e : ps.flatMap (·.2) = (ps.take i).flatMap (·.2) ++ (ps.drop i).flatMap (·.2) := by rw [← List.flatMap_append, List.take_append_drop]
    rw [e, List.length_append]
    exact Nat.le_add_right _ _
  refine call_sum_lists (items := its.toArray) (row := fun i => (ps.getD i (0, [])).1) (val := val) (pre := fun i => (List.range i).flatMap val) (I.ok.hd hc) hl (fun i v hv => ?_) (fun i hi => (hval i (by omega)).2) e2 (fun i => by rw [List.range_succ, List.flatMap_append]; simp) (fun i hi => hlen i (by omega)) fun h' tk q cq hq hg hk => ?_
  · have hv2 : its[i]? = some v := by simpa using hv
    have hi : i < ps.length := by have := (List.getElem?_eq_some_iff.mp hv2).1; rw [← hsz, List.size_toArray]; exact this
    have := L2.Vals.get v1 (i := i) (x := .ref (ps.getD i (0, [])).1) (by rw [List.getElem?_map, List.getElem?_eq_getElem hi, List.getD_eq_getElem?_getD, List.getElem?_eq_getElem hi]; rfl)
    obtain ⟨w, hw, rw1⟩ := this
    rw [hv2] at hw
    cases hw
    cases rw1
    rfl
  · by_cases h0 : ps = []
    · subst h0
      rcases hq with ⟨_, rfl⟩ | ⟨hq, _⟩
      · exact ⟨.ref q, H, I.kept hk, rfl, q0 rfl⟩
      · rw [hsz] at hq; exact absurd hq (Nat.lt_irrefl _)
    · rcases hq with ⟨hq, _⟩ | ⟨_, hq⟩
      · rw [hsz] at hq; exact absurd (List.length_eq_zero_iff.mp hq) h0
      · have hn : H q = none := I.hok.gone hq
        rw [hsz] at hg
        have hv := hpre ps.length (Nat.le_refl _)
        rw [List.take_length] at hv
        exact ⟨.ref q, _, I.laidN (o := .lst (ps.flatMap (·.2))) hk hq hn ⟨hz, _, cq, hv, hg⟩, rfl, q1 q hn⟩
def lstsD : List D → Option (List (List D))
  | [] => some []
  | .lst ys :: r => (lstsD r).map (ys :: ·)
  | _ => none
theorem lstsD_map {α : Type} (f : α → List D) : ∀ l : List α, lstsD (l.map fun a => D.lst (f a)) = some (l.map f)
  | [] => rfl
  | a :: l => by show (lstsD (l.map fun a => D.lst (f a))).map (f a :: ·) = _; rw [lstsD_map f l]; rfl
theorem rows_rp {F H : Hp} (sm : Same F H) : ∀ {xs : List D} {vs : List V} {yss : List (List D)}, RpL F xs vs → lstsD xs = some yss → ∃ ps : List (Addr × List V), vs = ps.map (fun p => V.ref p.1) ∧ (∀ p ∈ ps, H p.1 = some (.lst p.2)) ∧ RpL F yss.flatten (ps.flatMap (·.2)) ∧ (ps = [] ↔ yss = [])
  | [], _, _, r, e => by cases r; cases e; exact ⟨[], rfl, fun _ h => absurd h List.not_mem_nil, rfl, by simp⟩
  | .lst ys :: xs, _, yss, ⟨v, r, e, h1, h2⟩, h => by
    subst e
    obtain ⟨zss, h3, rfl⟩ := Option.map_eq_some_iff.mp (show (lstsD xs).map (ys :: ·) = some yss from h)
    obtain ⟨a, ws, rfl, ha, hr⟩ := h1
    obtain ⟨ps, rfl, hp, hf, _⟩ := rows_rp sm h2 h3
    refine ⟨(a, ws) :: ps, rfl, fun p hm => ?_, ?_, by simp⟩
    · rcases List.mem_cons.mp hm with rfl | hm
      · exact sm _ _ ha
      · exact hp p hm
    · rw [List.flatten_cons, List.flatMap_cons]
      exact hr.append hf
  | .non :: _, _, _, _, h => nomatch h
  | .bl _ :: _, _, _, _, h => nomatch h
  | .int _ :: _, _, _, _, h => nomatch h
  | .ref _ :: _, _, _, _, h => nomatch h
  | .ty _ :: _, _, _, _, h => nomatch h
  | .str _ :: _, _, _, _, h => nomatch h
  | .tup _ :: _, _, _, _, h => nomatch h
  | .dct _ _ :: _, _, _, _, h => nomatch h
  | .scr _ _ :: _, _, _, _, h => nomatch h
def cSumL : DC := fun ds M Q => match ds with
  | [x, .lst []] => match nrm M x with
    | .lst xs => match lstsD xs with
      | some yss => Sz yss.flatten.length ∧ Q (.lst yss.flatten) M
      | none => False
    | _ => False
  | _ => False
theorem ct_sumL : CallT rSumL cSumL := by
  intro M H F ds vs Q Qv m r q f
  unfold cSumL at q
  split at q
  · rename_i x
    obtain ⟨v, w, rfl, h1, h2⟩ := rp2 r
    have vw := m.view h1
    obtain ⟨b, ws, rfl, hb, hw⟩ := h2
    have hw0 : ws = [] := by cases hw; rfl
    subst hw0
    split at q
    · rename_i xs e
      rw [e] at vw
      obtain ⟨a, vs, rfl, ha, ra⟩ := vw
      split at q
      · rename_i yss ey
        obtain ⟨ps, rfl, hp, hf, h0⟩ := rows_rp m.same ra ey
        refine ⟨a, b, ps, rfl, ha, m.same _ _ hb, hp, by rw [hf.length]; exact q.1.line, fun e0 => ?_, new_lst (md := .frz) m hf q.2 f⟩
        have := h0.mp e0
        subst this
        exact f.here (d := .lst []) m ⟨b, [], rfl, hb, rfl⟩ q.2
      · exact q.elim
    · exact q.elim
  · exact q.elim
/-! ### a new list of new lists -/
def RowsNew (M : Mp) (rows : List (List D)) (Q : DK) : Prop := ∀ (f : Addr) (as : List Addr) (M2 : Mp), MLe M M2 → M f = none → (∀ a ∈ as, M a = none) → as.Nodup → f ∉ as → M2 f = some (.lst (as.map .ref)) → RowsAt M2 as rows → Q (.ref f) M2
theorem frzT_rows {M : Mp} {rows : List (List D)} {C : DK} (c : C (.lst (rows.map .lst)) M) : RowsNew M rows (wFrzTK C) := fun f as M2 hle hf hn _ _ hM hr =>
  ⟨_, M, hle, .ref hM hf (hr.fz hn), c⟩
/-! ### a walk whose list is found by changing things -/
def ForG (g : DG) (tb : DS) (Dd : DEnds) (ρ : DEnv) : List D → (Mp → Prop) → Mp → Prop := fun xs P M1 => ∃ W : Nat → DEnv → Mp → Prop, W 0 ρ M1 ∧ (∀ i ρ M, i ≤ xs.length → W i ρ M → P M) ∧
  (∀ i x ρ M, xs[i]? = some x → W i ρ M → g x ρ M fun ρ1 M1 => tb { Dd with nx := W (i + 1), ct := W (i + 1), bk := Dd.nx } ρ1 M1) ∧ ∀ ρ M, W xs.length ρ M → Dd.nx ρ M
theorem for_open {di : DI} {g : DG} {tb : DS} {Dd : DEnds} {ρ : DEnv} {M : Mp} (h : di ρ M (ForG g tb Dd ρ)) : sFor di g tb Dd ρ M := h
theorem forG_of {g : DG} {tb : DS} {Dd : DEnds} {ρ : DEnv} {M : Mp} {xs : List D} {P : Mp → Prop} (W : Nat → DEnv → Mp → Prop) (h0 : W 0 ρ M) (hP : ∀ i ρ M, i ≤ xs.length → W i ρ M → P M)
    (hs : ∀ i x ρ M, xs[i]? = some x → W i ρ M → g x ρ M fun ρ1 M1 => tb { Dd with nx := W (i + 1), ct := W (i + 1), bk := Dd.nx } ρ1 M1) (he : ∀ ρ M, W xs.length ρ M → Dd.nx ρ M) : ForG g tb Dd ρ xs P M := ⟨W, h0, hP, hs, he⟩
/-! ### every h-th card -/
theorem srt_extN : ∀ {a b : List Nat}, a.Pairwise (· < ·) → b.Pairwise (· < ·) → (∀ x, x ∈ a ↔ x ∈ b) → a = b := fun {a b} ha hb h => by
  have := srt_ext (a := a.map fun j : Nat => (j : Int)) (b := b.map fun j : Nat => (j : Int)) (by rw [List.pairwise_map]; exact ha.imp fun h => by omega) (by rw [List.pairwise_map]; exact hb.imp fun h => by omega) (fun x => by
    rw [List.mem_map, List.mem_map]
    exact ⟨fun ⟨j, hj, e⟩ => ⟨j, (h j).mp hj, e⟩, fun ⟨j, hj, e⟩ => ⟨j, (h j).mpr hj, e⟩⟩)
  exact (List.map_inj_right (fun _ _ e => by omega)).mp this
theorem bounds_step {r h n : Nat} (hh : 1 ≤ h) : sliceBounds (some (r : Int)) none (some (h : Int)) n = (((min r n : Nat) : Int), (n : Int), (h : Int)) := by
  have h0 : ¬ (h : Int) < 0 := by omega
  have hr : ¬ (r : Int) < 0 := by omega
  have h1 : (h : Int) > 0 := by omega
  unfold sliceBounds
  simp [h0, hr, h1]
  omega
theorem pick_idx {r h n : Nat} (hh : 1 ≤ h) (hr : r < h) : pickL (List.range n) (some (r : Int)) none (some (h : Int)) = (List.range n).filter fun j => decide (j % h = r) := by
  unfold pickL
  rw [List.length_range, bounds_step hh]
  simp only
  have e : ∀ is : List Nat, (∀ i ∈ is, i < n) → is.filterMap ((List.range n)[·]?) = is := fun is => by
    induction is with
    | nil => intro _; rfl
    | cons i is ih =>
      intro hi
      rw [List.filterMap_cons, List.getElem?_range (hi i List.mem_cons_self), ih fun j hj => hi j (List.mem_cons_of_mem _ hj)]
  have hmem : ∀ j, j ∈ sliceRange ((min r n : Nat) : Int) (n : Int) (h : Int) ↔ j ∈ (List.range n).filter fun j => decide (j % h = r) := fun j => by
    unfold sliceRange
    rw [if_pos (by omega), List.mem_map, List.mem_filter, List.mem_range, decide_eq_true_eq]
    constructor
    · rintro ⟨k, hk, rfl⟩
      rw [List.mem_range] at hk
      by_cases hrn : r < n
      · rw [Nat.min_eq_left (by omega)] at hk ⊢
        rw [if_pos (by omega)] at hk
        have h2 : (k : Int) < ((n : Int) - r + h - 1) / h := by omega
        have h3 : ((k : Int) + 1) * h ≤ (n : Int) - r + h - 1 := (Int.le_ediv_iff_mul_le (by omega)).mp (by omega)
        have h4 : ((r : Int) + h * k).toNat = r + h * k := by rw [← Int.natCast_mul, ← Int.natCast_add, Int.toNat_natCast]
        rw [h4]
        have h5 : ((k : Int) + 1) * h = h * k + h := by rw [Int.add_mul, Int.mul_comm]; omega
        refine ⟨?_, by rw [Nat.add_mul_mod_self_left, Nat.mod_eq_of_lt hr]⟩
        have h6 : ((h * k : Nat) : Int) = (h : Int) * k := Int.natCast_mul h k
        omega
      · rw [Nat.min_eq_right (by omega), if_neg (by omega)] at hk
        simp at hk
    · rintro ⟨hj, hjr⟩
      have hle : r ≤ j := by rw [← hjr]; exact Nat.mod_le j h
      have hdm := Nat.div_add_mod j h
      rw [hjr] at hdm
      refine ⟨j / h, ?_, ?_⟩
      · rw [List.mem_range, Nat.min_eq_left (by omega), if_pos (by omega)]
        have h3 : ((j / h : Nat) : Int) + 1 ≤ ((n : Int) - r + h - 1) / h := (Int.le_ediv_iff_mul_le (by omega)).mpr (by
          have h5 : (((j / h : Nat) : Int) + 1) * h = h * (j / h : Nat) + h := by rw [Int.add_mul, Int.mul_comm]; omega
          have h6 : ((h * (j / h) : Nat) : Int) = (h : Int) * (j / h : Nat) := Int.natCast_mul h (j / h)
          omega)
        omega
      · rw [Nat.min_eq_left (by omega)]
        have h6 : ((h * (j / h) : Nat) : Int) = (h : Int) * (j / h : Nat) := Int.natCast_mul h (j / h)
        omega
  have hlt : ∀ i ∈ sliceRange ((min r n : Nat) : Int) (n : Int) (h : Int), i < n := fun i hi => List.mem_range.mp (List.mem_filter.mp ((hmem i).mp hi)).1
  rw [e _ hlt]
  refine srt_extN ?_ (List.pairwise_lt_range.filter _) hmem
  unfold sliceRange
  rw [List.pairwise_map]
  refine List.pairwise_lt_range.imp fun {a b} hab => ?_
  have : (h : Int) * a < h * b := Int.mul_lt_mul_of_pos_left (by omega) (by omega)
  have h7 : 0 ≤ (h : Int) * a := Int.mul_nonneg (by omega) (by omega)
  omega
/-- the cards of a heap, as they come -/
def rowF (ns : List Int) (h i r : Nat) : List Int := ((List.range i).filter fun j => decide (j % h = r)).map fun j => ns.getD j 0
theorem pick_row {ns : List Int} {h r : Nat} (hh : 1 ≤ h) (hr : r < h) : pickL ns (some (r : Int)) none (some (h : Int)) = rowF ns h ns.length r := by
  have e : ns = (List.range ns.length).map fun j => ns.getD j 0 := by
    apply List.ext_getElem
    · simp
    · intro i h1 h2
      simp [List.getD_eq_getElem?_getD, List.getElem?_eq_getElem h1]
  conv => lhs; rw [e]
  rw [pickL_map, pick_idx hh hr]
  rfl
theorem rowF_length {ns : List Int} {h i r : Nat} : (rowF ns h i r).length ≤ i := by
  unfold rowF
  rw [List.length_map]
  refine Nat.le_trans (List.length_filter_le ..) ?_
  rw [List.length_range]; exact Nat.le_refl _
theorem frzT_rowsI {M : Mp} {xss : List (List Int)} {C : DK} (c : C (.lst (xss.map fun l => D.lst (l.map D.int))) M) : RowsNew M (xss.map fun l => l.map D.int) (wFrzTK C) :=
  frzT_rows (by rw [List.map_map]; exact c)
theorem rowF_rng {n h r : Nat} : rowF (rngI 0 1 n) h n r = ((List.range n).filter fun j => decide (j % h = r)).map (fun j : Nat => (j : Int)) := by
  unfold rowF
  apply List.map_congr_left
  intro j hj
  have := List.mem_range.mp (List.mem_filter.mp hj).1
  rw [rngI_getD this]; omega
theorem nodup_perm2 : ∀ {l m : List Int}, l.Nodup → (∀ x ∈ l, x ∈ m) → m.length ≤ l.length → l.Perm m
  | [], m, _, _, hl => by cases m with | nil => exact List.Perm.refl _ | cons => simp at hl
  | a :: l, m, hn, hs, hl => by
    have ha := hs a List.mem_cons_self
    obtain ⟨h1, h2⟩ := List.nodup_cons.mp hn
    refine List.Perm.trans ?_ (List.perm_cons_erase ha).symm
    refine List.Perm.cons a (nodup_perm2 h2 (fun x hx => ?_) ?_)
    · exact (List.mem_erase_of_ne (fun e => by subst e; exact h1 hx)).mpr (hs x (List.mem_cons_of_mem _ hx))
    · rw [List.length_erase_of_mem ha]; simp only [List.length_cons] at hl; omega
theorem rowF_step {ns : List Int} {h i r : Nat} : rowF ns h (i + 1) r = rowF ns h i r ++ (if i % h = r then [ns.getD i 0] else []) := by
  unfold rowF
  rw [List.range_succ, List.filter_append, List.map_append]
  congr 1
  by_cases e : i % h = r
  · rw [if_pos e]; simp [e]
  · rw [if_neg e]; simp [e]
/-! ### things within things that can be changed -/
mutual
inductive Sp (M : Mp) : Nat → D → List Addr → Prop
  | flat {n : Nat} {d : D} (h : flatD d = true) : Sp M n d []
  | ref {n : Nat} {a : Addr} {xs : List D} {as : List Addr} (h : M a = some (.lst xs)) (l : xs.length ≤ 10000) (r : SpL M n xs as) : Sp M (n + 1) (.ref a) (a :: as)
inductive SpL (M : Mp) : Nat → List D → List Addr → Prop
  | nil {n : Nat} : SpL M n [] []
  | cons {n : Nat} {x : D} {xs : List D} {as bs : List Addr} (h : Sp M n x as) (r : SpL M n xs bs) : SpL M n (x :: xs) (as ++ bs)
end
mutual
theorem Sp.mono {M M' : Mp} {n : Nat} {d : D} {as : List Addr} (h : Sp M n d as) (k : ∀ a ∈ as, M' a = M a) : Sp M' n d as := by
  cases h with
  | flat h => exact .flat h
  | ref h l r => exact .ref (by rw [k _ List.mem_cons_self]; exact h) l (SpL.mono r fun a ha => k a (List.mem_cons_of_mem _ ha))
theorem SpL.mono {M M' : Mp} {n : Nat} {xs : List D} {as : List Addr} (h : SpL M n xs as) (k : ∀ a ∈ as, M' a = M a) : SpL M' n xs as := by
  cases h with
  | nil => exact .nil
  | cons h r => exact .cons (Sp.mono h fun a ha => k a (List.mem_append_left _ ha)) (SpL.mono r fun a ha => k a (List.mem_append_right _ ha))
end
theorem SpL.ints {M : Mp} {n : Nat} : ∀ ns : List Int, SpL M n (ns.map D.int) []
  | [] => .nil
  | k :: ns => .cons (as := []) (.flat rfl) (SpL.ints ns)
theorem SpL.rows {M : Mp} {n : Nat} : ∀ {as : List Addr} {xss : List (List Int)}, RowsAt M as (xss.map fun l => l.map D.int) → (∀ l ∈ xss, l.length ≤ 10000) → SpL M (n + 1) (as.map D.ref) as
  | [], [], _, _ => .nil
  | [], _ :: _, h, _ => by have := h.1; simp at this
  | _ :: _, [], h, _ => by have := h.1; simp at this
  | a :: as, l :: xss, h, hl => .cons (as := [a]) (.ref h.tail.1 (by rw [List.length_map]; exact hl l List.mem_cons_self) (SpL.ints l)) (SpL.rows h.tail.2 fun m hm => hl m (List.mem_cons_of_mem _ hm))

/-! ### sorted and min of a list of lists of ints -/
section
open PySem.W
abbrev IRow := Addr × List Int
def encL (p : IRow) : PyData := .list (p.2.map .int)
def leR (a b : List Int) : Bool := decide (a ≤ b)
def rSortLL : List V → Hp → VK → Prop := fun vs H Q => ∃ (a : Addr) (ps : List IRow), vs = [.ref a] ∧ H a = some (.lst (ps.map fun p => V.ref p.1)) ∧ (∀ p ∈ ps, H p.1 = some (.lst (p.2.map V.int))) ∧
  ∀ q, H q = none → Q (.ref q) (upd H q (.lst ((ps.mergeSort fun x y => leR x.2 y.2).map fun p => V.ref p.1)))
theorem vals_refs : ∀ {ps : List IRow} {us : List Value}, Vals (ps.map fun p => V.ref p.1) us → us = ps.map fun p => Value.ref p.1
  | [], us, h => by cases h; rfl
  | p :: ps, us, h => by
    cases h with | cons h1 t =>
    cases h1
    rw [vals_refs t]; rfl
theorem refs_vals : ∀ (ps : List IRow), Vals (ps.map fun p => V.ref p.1) (ps.map fun p => Value.ref p.1)
  | [] => .nil
  | p :: ps => .cons rfl (refs_vals ps)
theorem each_refs : ∀ (ps : List IRow), EachIs (fun v p => v = Value.ref p.1) (ps.map fun p => Value.ref p.1) ps
  | [] => .nil
  | _ :: ps => .cons rfl (each_refs ps)
theorem each_refs_eq : ∀ {vs : List Value} {ps : List IRow}, EachIs (fun v p => v = Value.ref p.1) vs ps → vs = ps.map fun p => Value.ref p.1
  | _, _, .nil => rfl
  | _, _, .cons h t => by rw [h, each_refs_eq t]; rfl
theorem each_reads {h : Heap} : ∀ {ps : List IRow}, (∀ p ∈ ps, ∃ as, Reads h (.ref p.1) (encL p) as) → EachIs (fun v p => ∃ as, Reads h v (encL p) as) (ps.map fun p => Value.ref p.1) ps
  | [], _ => .nil
  | p :: ps, hp => .cons (hp p List.mem_cons_self) (each_reads fun q hq => hp q (List.mem_cons_of_mem _ hq))
theorem reads_row {X : Cx} {pins : List (Addr × Obj)} {σ : L2.St} {H : Hp} {s : Shared} (I : Inv X pins σ H s) {p : IRow} (hp : H p.1 = some (.lst (p.2.map V.int))) : ∃ as, Reads s.heap (.ref p.1) (encL p) as := by
  obtain ⟨_, w, c, v, _, e⟩ := I.lstM hp
  exact ⟨_, Reads.list e rfl rfl ((ints_vals v).reads s.heap)⟩
theorem ints_alike : ∀ a b : List Int, alikeAll (a.map .int) (b.map .int) = true
  | [], _ => by rw [List.map_nil, alikeAll]
  | _ :: _, [] => by rw [List.map_cons, List.map_nil, alikeAll]
  | x :: a, y :: b => by rw [List.map_cons, List.map_cons, alikeAll, alike, ints_alike a b]; rfl
theorem encL_alike (p q : IRow) : alike (encL p) (encL q) = true := by
  unfold encL; rw [alike]; exact ints_alike _ _
theorem KE_depth : ∀ ns : List Int, PyData.depthAll (ns.map .int) = 0 := PySem.W.depth_ints
theorem encL_depth (p : IRow) : (encL p).depth = 1 := by
  unfold encL; rw [PyData.depth, KE_depth]
theorem call_sortLL {X : Cx} (hu : X.A.units + 65 < cLine) : CallR X (.builtin "sorted") rSortLL := by
  intro pins s σ H vs us Q I r h
  obtain ⟨a, ps, rfl, ha, hp, q⟩ := h
  rw [Vals.ref1 r]
  obtain ⟨z1, its, n1, v1, l1, e1⟩ := I.lstM ha
  have hits := vals_refs v1
  subst hits
  have hl : s.heap.IsList a (ps.map fun p => Value.ref p.1).toArray := ⟨_, e1, rfl, n1, rfl⟩
  rw [List.length_map] at z1
  refine sorted_data (enc := encL) hl (each_refs ps) (each_reads fun p hm => reads_row I (hp p hm)) (AllAlike.of fun x y => encL_alike x y) (Sortable.others fun b => ⟨by unfold encL; exact nofun, fun xs => by unfold encL; exact nofun⟩) z1 (fun b hb => ?_) fun out ho eo => ?_
  · rw [encL_depth]; omega
  · have e := each_refs_eq eo
    subst e
    obtain ⟨c, hc⟩ := sortedAll_at s.heap (ps.map fun p => Value.ref p.1) ((ps.mergeSort (dataLe false encL)).map fun p => Value.ref p.1).toArray
    have er : dataLe false encL = fun x y : IRow => leR x.2 y.2 := dataLe_rows (fun p : IRow => p.2)
    rw [er] at hc ⊢
    have hgo : s.heap.get? (s.heap.objs.size + 1) = none := by
      cases z : s.heap.get? (s.heap.objs.size + 1) with
      | none => rfl
      | some o => exact absurd (Heap.lt_size z) (Nat.not_lt.mpr (Nat.le_succ _))
    have hn := I.hok.fresh (Nat.le_succ s.heap.objs.size)
    exact ⟨.ref (s.heap.objs.size + 1), _, I.laidN (o := .lst ((ps.mergeSort fun x y => leR x.2 y.2).map fun p => V.ref p.1)) (fun _ _ => sortedAll_old) hgo hn ⟨by rw [List.length_map, List.length_mergeSort]; exact z1, _, c, refs_vals _, hc⟩, rfl, q _ hn⟩
/-- the least row -/
def minR : List (List Int) → List Int
  | [] => []
  | r :: rs => rs.foldl (fun a y => if decide (y < a) then y else a) r
theorem minD_rows : ∀ (rs : List (List Int)) (r : List Int), minD (.list (r.map .int)) (rs.map fun l => PyData.list (l.map .int)) = .list ((minR (r :: rs)).map .int)
  | [], r => rfl
  | y :: rs, r => by
    have e : dataLt (.list (y.map .int)) (.list (r.map .int)) = decide (y < r) := by
      rw [dataLt_list]; exact dataLt_ints y r
    have ih := minD_rows rs (if decide (y < r) then y else r)
    have e2 : minD (.list (r.map .int)) ((y :: rs).map fun l => PyData.list (l.map .int)) = minD (.list ((if decide (y < r) then y else r).map .int)) (rs.map fun l => PyData.list (l.map .int)) := by
      unfold minD
      rw [List.map_cons, List.foldl_cons, e]
      congr 1
      split <;> rfl
    rw [e2, ih]
    rfl
def rMinLL : List V → Hp → VK → Prop := fun vs H Q => ∃ (a : Addr) (ps : List IRow), vs = [.ref a] ∧ H a = some (.lst (ps.map fun p => V.ref p.1)) ∧ (∀ p ∈ ps, H p.1 = some (.lst (p.2.map V.int))) ∧ ps ≠ [] ∧
  ∀ p ∈ ps, p.2 = minR (ps.map (·.2)) → Q (.ref p.1) H
theorem call_minLL {X : Cx} (hc : X.calm = true) (hu : X.A.units + 65 < cLine) : CallR X (.builtin "min") rMinLL := by
  intro pins s σ H vs us Q I r h
  obtain ⟨a, ps, rfl, ha, hp, hne, q⟩ := h
  rw [Vals.ref1 r]
  obtain ⟨z1, its, n1, v1, l1, e1⟩ := I.lstM ha
  have hits := vals_refs v1
  subst hits
  have hl : s.heap.IsList a (ps.map fun p => Value.ref p.1).toArray := ⟨_, e1, rfl, n1, rfl⟩
  obtain ⟨p0, pr, rfl⟩ : ∃ p0 pr, ps = p0 :: pr := by cases ps with
    | nil => exact absurd rfl hne
    | cons p0 pr => exact ⟨p0, pr, rfl⟩
  have hra : ∃ as, ReadsAll s.heap ((p0 :: pr).map fun p => Value.ref p.1) ((p0 :: pr).map encL) as := each_readsAll encL (each_reads fun p hm => reads_row I (hp p hm))
  obtain ⟨as, hra⟩ := hra
  rw [List.map_cons (f := encL)] at hra
  refine min_list_data (I.ok.hd hc) hl (by simpa using hra) ⟨fun x hx y hy => ?_, fun x hx => ?_⟩ ?_ fun i v h' tk bs hv hr hk => ?_
  · obtain ⟨p, _, rfl⟩ := List.mem_map.mp (show x ∈ (p0 :: pr).map encL from hx)
    obtain ⟨q, _, rfl⟩ := List.mem_map.mp (show y ∈ (p0 :: pr).map encL from hy)
    exact encL_alike p q
  · obtain ⟨p, _, rfl⟩ := List.mem_map.mp (show x ∈ (p0 :: pr).map encL from hx)
    unfold encL; exact nofun
  · have hd : ∀ l : List IRow, PyData.depthAll (l.map encL) ≤ 1 := fun l => by
      induction l with
      | nil => simp [PyData.depthAll]
      | cons p l ih => rw [List.map_cons, PyData.depthAll, encL_depth]; omega
    have := hd (p0 :: pr)
    rw [List.map_cons] at this
    omega
  · have hv2 : ((p0 :: pr).map fun p => Value.ref p.1)[i]? = some v := by simpa using hv
    rw [List.getElem?_map] at hv2
    obtain ⟨p, hpi, rfl⟩ := Option.map_eq_some_iff.mp hv2
    have hpm := List.mem_of_getElem? hpi
    obtain ⟨bs2, hr2⟩ := reads_row I (hp p hpm)
    have hr3 := Reads.keeps hk hr2
    have e : minD (encL p0) (pr.map encL) = .list ((minR ((p0 :: pr).map (·.2))).map .int) := by
      have := minD_rows (pr.map (·.2)) p0.2
      rw [List.map_map] at this
      exact this
    rw [e] at hr
    have e2 := alike_unique _ _ _ _ _ (by unfold encL; rw [alike]; exact ints_alike _ _) hr3 hr
    have e3 : p.2 = minR ((p0 :: pr).map (·.2)) := by
      unfold encL at e2
      have := PyData.list.inj e2
      exact (List.map_inj_right fun a b h => PyData.int.inj h).mp this
    exact ⟨.ref p.1, H, I.kept hk, rfl, q p hpm e3⟩
def cSortLL (md : Md) : DC := fun ds M Q => match ds with
  | [x] => ∃ zs : List (D × List Int), nrm M x = .lst (zs.map (·.1)) ∧ (∀ z ∈ zs, nrm M z.1 = .lst (z.2.map .int)) ∧ wNew md ((zs.mergeSort fun a b => leR a.2 b.2).map (·.1)) M Q
  | _ => False
def cMinLL : DC := fun ds M Q => match ds with
  | [x] => ∃ zs : List (D × List Int), nrm M x = .lst (zs.map (·.1)) ∧ (∀ z ∈ zs, nrm M z.1 = .lst (z.2.map .int)) ∧ zs ≠ [] ∧ ∀ z ∈ zs, z.2 = minR (zs.map (·.2)) → Q z.1 M
  | _ => False
theorem rows_ts {M : Mp} {H F : Hp} (m : Mem M H F) : ∀ {zs : List (D × List Int)} {vs : List V}, RpL F (zs.map (·.1)) vs → (∀ z ∈ zs, nrm M z.1 = .lst (z.2.map .int)) →
    ∃ ts : List (D × IRow), zs = ts.map (fun t => (t.1, t.2.2)) ∧ vs = ts.map (fun t => V.ref t.2.1) ∧ ∀ t ∈ ts, H t.2.1 = some (.lst (t.2.2.map V.int)) ∧ Rp F t.1 (.ref t.2.1)
  | [], vs, r, _ => ⟨[], rfl, by cases r; rfl, fun _ h => absurd h List.not_mem_nil⟩
  | z :: zs, vs, ⟨v, r, e, h1, h2⟩, h => by
    subst e
    obtain ⟨ts, rfl, rfl, ht⟩ := rows_ts m h2 fun z hz => h z (List.mem_cons_of_mem _ hz)
    have hz := h z List.mem_cons_self
    have vw := m.view h1
    rw [hz] at vw
    obtain ⟨a, ws, rfl, ha, hr⟩ := vw
    have := hr.ints
    subst this
    refine ⟨(z.1, (a, z.2)) :: ts, rfl, rfl, fun t hm => ?_⟩
    rcases List.mem_cons.mp hm with rfl | hm
    · exact ⟨ha, h1⟩
    · exact ht t hm
theorem RpL.of_map {F : Hp} : ∀ {ts : List (D × IRow)}, (∀ t ∈ ts, Rp F t.1 (.ref t.2.1)) → RpL F (ts.map (·.1)) (ts.map fun t => V.ref t.2.1)
  | [], _ => rfl
  | t :: ts, h => ⟨_, _, rfl, h t List.mem_cons_self, RpL.of_map fun u hu => h u (List.mem_cons_of_mem _ hu)⟩
theorem ct_sortLL {md : Md} : CallT rSortLL (cSortLL md) := by
  intro M H F ds vs Q Qv m r q f
  unfold cSortLL at q
  split at q
  · rename_i x
    obtain ⟨v, rfl, h1⟩ := rp1 r
    have vw := m.view h1
    obtain ⟨zs, hx, hz, q⟩ := q
    rw [hx] at vw
    obtain ⟨a, vs, rfl, ha, ra⟩ := vw
    obtain ⟨ts, rfl, rfl, ht⟩ := rows_ts m ra hz
    refine ⟨a, ts.map (·.2), rfl, by rw [List.map_map]; exact ha, fun p hp => ?_, fun p hp => ?_⟩
    · obtain ⟨t, htm, rfl⟩ := List.mem_map.mp hp
      exact (ht t htm).1
    · have e1 : (ts.map fun t => (t.1, t.2.2)).mergeSort (fun a b => leR a.2 b.2) = (ts.mergeSort fun a b => leR a.2.2 b.2.2).map fun t => (t.1, t.2.2) := (List.map_mergeSort (f := fun t : D × IRow => (t.1, t.2.2)) (s := fun a b => leR a.2 b.2) fun a _ b _ => rfl).symm
      have e2 : (ts.map (·.2)).mergeSort (fun a b => leR a.2 b.2) = (ts.mergeSort fun a b => leR a.2.2 b.2.2).map (·.2) := (List.map_mergeSort (f := fun t : D × IRow => t.2) (s := fun a b => leR a.2 b.2) fun a _ b _ => rfl).symm
      rw [e1, List.map_map] at q
      rw [e2, List.map_map]
      exact new_lst m (RpL.of_map fun t htm => (ht t (List.mem_mergeSort.mp htm)).2) q f p hp
  · exact q.elim
theorem ct_minLL : CallT rMinLL cMinLL := by
  intro M H F ds vs Q Qv m r q f
  unfold cMinLL at q
  split at q
  · rename_i x
    obtain ⟨v, rfl, h1⟩ := rp1 r
    have vw := m.view h1
    obtain ⟨zs, hx, hz, hne, q⟩ := q
    rw [hx] at vw
    obtain ⟨a, vs, rfl, ha, ra⟩ := vw
    obtain ⟨ts, rfl, rfl, ht⟩ := rows_ts m ra hz
    refine ⟨a, ts.map (·.2), rfl, by rw [List.map_map]; exact ha, fun p hp => ?_, fun e => hne (by rw [List.map_eq_nil_iff] at e; rw [e]; rfl), fun p hp hm => ?_⟩
    · obtain ⟨t, htm, rfl⟩ := List.mem_map.mp hp
      exact (ht t htm).1
    · obtain ⟨t, htm, rfl⟩ := List.mem_map.mp hp
      refine f.here (d := t.1) m (ht t htm).2 (q (t.1, t.2.2) (List.mem_map.mpr ⟨t, htm, rfl⟩) ?_)
      rw [List.map_map] at hm ⊢
      exact hm
  · exact q.elim
/-! ### (a, b) = a list of two -/
def dUnl (n : Nat) (g : DGs) : DG := fun d ρ M Q => match nrm M d with
  | .lst xs => xs.length = n ∧ g xs ρ M Q
  | _ => False
theorem tg_unl {K : PySem.W.Frag} {n : Nat} {g : TGs} {w : DGs} (h : TrGs g w) : TrG (gUnl K n g) (dUnl n w) := by
  intro d v ρ M σ H F Q Qs er m r q f
  unfold dUnl at q
  have vw := m.view r
  split at q
  · rename_i xs e
    rw [e] at vw
    obtain ⟨a, vs, rfl, ha, ra⟩ := vw
    exact ⟨a, vs, rfl, .of ha, by rw [ra.length]; exact q.1, h _ vs ρ M σ H F Q Qs er m ra q.2 f⟩
  · exact q.elim
end
def intsLs2 (xss : List (List Int)) : List D := xss.map fun xs => .lst (xs.map .int)
def lcuts (ns : List Int) : List (List Int) := (List.range (max ns.length 1)).map fun k => lcut ns k
theorem lcuts_length {ns : List Int} : (lcuts ns).length = max ns.length 1 := by unfold lcuts; rw [List.length_map, List.length_range]
/-! ### a list told new, beside others that are let go -/
def RowNew (M : Mp) (row : List D) (Q : DK) : Prop := ∀ (p : Addr) (M2 : Mp), MLe M M2 → M p = none → M2 p = some (.lst row) → Q (.ref p) M2
theorem frzT_row {M : Mp} {ns : List Int} {C : DK} (c : C (.lst (ns.map .int)) M) : RowNew M (ns.map .int) (wFrzTK C) := fun p M2 hle hp hM =>
  ⟨_, M, hle, .ref hM hp (.same _), c⟩
theorem rowsAt_zs {M : Mp} : ∀ {as : List Addr} {rows : List (List Int)}, RowsAt M as (rows.map fun l => l.map D.int) → ∃ zs : List (D × List Int), zs.map (·.1) = as.map D.ref ∧ zs.map (·.2) = rows ∧ ∀ z ∈ zs, ∃ a ∈ as, z.1 = .ref a ∧ M a = some (.lst (z.2.map .int))
  | [], [], _ => ⟨[], rfl, rfl, fun _ h => absurd h List.not_mem_nil⟩
  | [], _ :: _, h => by have := h.1; simp at this
  | _ :: _, [], h => by have := h.1; simp at this
  | a :: as, r :: rows, h => by
    obtain ⟨zs, h1, h2, h3⟩ := rowsAt_zs h.tail.2
    refine ⟨(.ref a, r) :: zs, by rw [List.map_cons, h1]; rfl, by rw [List.map_cons, h2], fun z hz => ?_⟩
    rcases List.mem_cons.mp hz with rfl | hz
    · exact ⟨a, List.mem_cons_self, rfl, h.tail.1⟩
    · obtain ⟨b, hb, e1, e2⟩ := h3 z hz
      exact ⟨b, List.mem_cons_of_mem _ hb, e1, e2⟩
theorem find_first {p : Nat → Bool} {n k : Nat} (hk : k < n) (hp : p k = true) (hb : ∀ j, j < k → p j = false) : (List.range n).find? p = some k :=
  List.find?_range_eq_some.mpr ⟨hp, List.mem_range.mpr hk, fun j hj => by rw [hb j hj]; rfl⟩
/-! ### the first of a sorted list -/
theorem leR_trans (a b c : List Int) (h : leR a b = true) (k : leR b c = true) : leR a c = true := decide_eq_true (List.le_trans (of_decide_eq_true h) (of_decide_eq_true k))
theorem leR_total (a b : List Int) : (leR a b || leR b a) = true := by
  unfold leR
  rcases List.le_total a b with h | h
  · rw [decide_eq_true h]; rfl
  · rw [decide_eq_true h, Bool.or_true]
theorem minR_spec : ∀ (rs : List (List Int)) (r : List Int), minR (r :: rs) ∈ r :: rs ∧ ∀ x ∈ r :: rs, minR (r :: rs) ≤ x
  | [], r => ⟨List.mem_cons_self, fun x hx => by rw [List.mem_singleton.mp hx]; exact List.le_refl r⟩
  | y :: rs, r => by
    obtain ⟨h1, h2⟩ := minR_spec rs (if decide (y < r) then y else r)
    have e : minR (r :: y :: rs) = minR ((if decide (y < r) then y else r) :: rs) := rfl
    rw [e]
    by_cases c : y < r
    · rw [decide_eq_true c, if_pos rfl] at h1 h2 ⊢
      refine ⟨List.mem_cons_of_mem _ h1, fun x hx => ?_⟩
      rcases List.mem_cons.mp hx with rfl | hx
      · exact List.le_trans (h2 y List.mem_cons_self) (List.le_of_lt c)
      · exact h2 x hx
    · rw [decide_eq_false c, if_neg (by decide)] at h1 h2 ⊢
      refine ⟨?_, fun x hx => ?_⟩
      · rcases List.mem_cons.mp h1 with h | h
        · rw [h]; exact List.mem_cons_self
        · exact List.mem_cons_of_mem _ (List.mem_cons_of_mem _ h)
      · rcases List.mem_cons.mp hx with rfl | hx
        · exact h2 x List.mem_cons_self
        · rcases List.mem_cons.mp hx with rfl | hx
          · exact List.le_trans (h2 r List.mem_cons_self) (List.not_lt.mp c)
          · exact h2 x (List.mem_cons_of_mem _ hx)
theorem head_sort {rows : List (List Int)} (h : rows ≠ []) : (rows.mergeSort leR).head? = some (minR rows) := by
  obtain ⟨r, rs, rfl⟩ : ∃ r rs, rows = r :: rs := by cases rows with
    | nil => exact absurd rfl h
    | cons r rs => exact ⟨r, rs, rfl⟩
  obtain ⟨h1, h2⟩ := minR_spec rs r
  have hp := List.pairwise_mergeSort leR_trans leR_total (r :: rs)
  have hm : ∀ x, x ∈ (r :: rs).mergeSort leR ↔ x ∈ r :: rs := fun x => List.mem_mergeSort
  generalize (r :: rs).mergeSort leR = L at hp hm
  cases L with
  | nil => exact absurd ((hm r).mpr List.mem_cons_self) List.not_mem_nil
  | cons x L =>
    have hx := (hm x).mp List.mem_cons_self
    have a1 := h2 x hx
    have a2 : x ≤ minR (r :: rs) := by
      rcases List.mem_cons.mp ((hm _).mpr h1) with e | e
      · rw [e]; exact List.le_refl _
      · exact of_decide_eq_true ((List.pairwise_cons.mp hp).1 _ e)
    rw [List.head?_cons, List.le_antisymm a1 a2]
theorem sort_rows (rows : List (List Int)) : ((rows.map fun l => (D.lst (l.map .int), l)).mergeSort fun a b => leR a.2 b.2).map (·.1) = intsLs2 (rows.mergeSort leR) := by
  have e1 : (rows.map fun l => (D.lst (l.map .int), l)).mergeSort (fun a b => leR a.2 b.2) = (rows.mergeSort leR).map fun l => (D.lst (l.map .int), l) := (List.map_mergeSort (f := fun l : List Int => (D.lst (l.map .int), l)) (s := fun a b => leR a.2 b.2) fun a _ b _ => rfl).symm
  rw [e1, List.map_map]; rfl
theorem atI_head {L : List (List Int)} {m : List Int} (h : L.head? = some m) : atI (intsLs2 L) 0 = some (.lst (m.map .int)) := by
  cases L with
  | nil => cases h
  | cons x L => cases h; unfold intsLs2; rw [List.map_cons]; exact atI0
theorem intsLs2_length {L : List (List Int)} : (intsLs2 L).length = L.length := List.length_map _
theorem nil_le : ∀ a : List Int, [] ≤ a := fun a => List.nil_le a
theorem nrm_le {M N : Mp} {x : D} {xs : List D} (h : nrm M x = .lst xs) (l : MLe M N) : nrm N x = .lst xs := by
  cases x with
  | ref a =>
    have h1 : nrmA M a = .lst xs := h
    show nrmA N a = .lst xs
    unfold nrmA at h1 ⊢
    cases e : M a with
    | none => rw [e] at h1; cases h1
    | some m => rw [e] at h1; rw [l _ _ e]; exact h1
  | _ => exact h
theorem rowsAt_append {M : Mp} : ∀ {as bs : List Addr} {xs ys : List (List D)}, RowsAt M as xs → RowsAt M bs ys → RowsAt M (as ++ bs) (xs ++ ys)
  | [], _, [], _, _, h => h
  | [], _, _ :: _, _, h, _ => by have := h.1; simp at this
  | _ :: _, _, [], _, h, _ => by have := h.1; simp at this
  | a :: as, bs, x :: xs, ys, h, k => by
    have r := rowsAt_append h.tail.2 k
    refine ⟨by simp [h.tail.2.1, k.1], fun i c zs h1 h2 => ?_⟩
    cases i with
    | zero =>
      simp only [List.cons_append, List.getElem?_cons_zero, Option.some.injEq] at h1 h2
      subst h1; subst h2; exact h.tail.1
    | succ i => exact r.2 i c zs (by simpa using h1) (by simpa using h2)
theorem deq_int_str (i : Int) (x : Str) : deq (.int i) (.str x) = false := by simp [deq, toPD, PyData.eqv]
theorem packOk_perm {ns ms : List Int} (h : PackOk ns) (p : ms.Perm ns) : PackOk ms := ⟨fun n hn => h.1 n (p.mem_iff.mp hn), p.nodup_iff.mpr h.2.1, by rw [p.length_eq]; exact h.2.2⟩
theorem packOk_sub {ns ms : List Int} (h : PackOk ns) (p : ms.Sublist ns) : PackOk ms := ⟨fun n hn => h.1 n (p.subset hn), h.2.1.sublist p, Nat.le_trans p.length_le h.2.2⟩
theorem packOk_ins {a b : List Int} {c : Int} (h : PackOk (a ++ b)) (hc : c ∉ a ++ b) (h0 : 0 ≤ c) (hl : (a ++ b).length < 4000) : PackOk (a ++ [c] ++ b) := by
  refine packOk_perm (ns := c :: (a ++ b)) ⟨fun n hn => ?_, List.nodup_cons.mpr ⟨hc, h.2.1⟩, hl⟩ (by rw [List.append_assoc]; exact List.perm_middle)
  rcases List.mem_cons.mp hn with e | hn
  · rw [e]; exact h0
  · exact h.1 n hn

/-! ### len(set(tuples)), len(dict(pairs with tuples ahead)) -/
section
variable {X : Cx}
/-- as many as are unlike -/
def CntK (rows : List (List Int)) (k : Nat) : Prop := ∃ L : List (List Int), L.Nodup ∧ (∀ y, y ∈ L ↔ y ∈ rows) ∧ L.length = k
theorem dup_less : ∀ {rows : List (List Int)}, ¬ rows.Nodup → ∃ r : List (List Int), r.length < rows.length ∧ ∀ y ∈ rows, y ∈ r
  | [], h => absurd List.nodup_nil h
  | x :: rows, h => by
    by_cases c : x ∈ rows
    · refine ⟨rows, by simp, fun y hy => ?_⟩
      rcases List.mem_cons.mp hy with rfl | hy
      · exact c
      · exact hy
    · obtain ⟨r, h1, h2⟩ := dup_less (rows := rows) fun n => h (List.nodup_cons.mpr ⟨c, n⟩)
      refine ⟨x :: r, by simp only [List.length_cons]; omega, fun y hy => ?_⟩
      rcases List.mem_cons.mp hy with rfl | hy
      · exact List.mem_cons_self
      · exact List.mem_cons_of_mem _ (h2 y hy)
theorem cntK_eq {rows : List (List Int)} {k : Nat} (h : CntK rows k) : decide ((k : Int) = rows.length) = decide rows.Nodup := by
  obtain ⟨L, hn, hm, rfl⟩ := h
  have p1 : L.length ≤ rows.length := hn.length_le_of_subset fun x hx => (hm x).mp hx
  by_cases c : rows.Nodup
  · have p2 : rows.length ≤ L.length := c.length_le_of_subset fun x hx => (hm x).mpr hx
    rw [decide_eq_true c, decide_eq_true (by omega)]
  · rw [decide_eq_false c, decide_eq_false]
    intro e
    obtain ⟨r, h1, h2⟩ := dup_less c
    have p3 : L.length ≤ r.length := hn.length_le_of_subset fun x hx => h2 x ((hm x).mp hx)
    omega
theorem cntK_list {rows L : List (List Int)} (hn : L.Nodup) (hm : ∀ y, y ∈ L ↔ y ∈ rows) : CntK rows L.length := ⟨L, hn, hm, rfl⟩
def tLenSetT (K : PySem.W.Frag) (ta : TE) : TE := fun σ H Q => ta σ H fun x H1 => ∃ (l : Addr) (ks : List (Addr × List Int)), x = V.ref l ∧ SqL K H1 l (ks.map fun p => V.ref p.1) ∧ (∀ p ∈ ks, SqT K H1 p.1 (p.2.map V.int)) ∧ ks.length < 64 ∧
  ∀ k : Nat, CntK (ks.map (·.2)) k → Q (.int k) H1
theorem pe_lenSetT {a : Expr} {ta : TE} {p p2 q pos : Pos} (hu : X.A.units + 65 < cLine) (hg : Gl X "len") (hm : X.mg "len" = none) (hg2 : Gl X "set") (hm2 : X.mg "set" = none) (ha : PE X a ta) (hc : X.calm = true := by rfl)
    (na : starEach [a] X.env = (false, eval a X.env) :: starEach [] X.env := by rfl) : PE X (.Call (.Name "len" p) [.Call (.Name "set" p2) [a] [] q] [] pos) (tLenSetT X.K ta) := by
  refine ⟨fun pins s σ H Q I h => ?_⟩
  refine Call_ (ld_blt I hg hm PySem.boot_len ?_)
  refine PyProof.Rows.callWith_builtin1 (PyProof.Rows.args_cons ?_ rfl) rfl rfl
  refine Call_ (ld_blt I hg2 hm2 PyProof.Rows.boot_set ?_)
  refine PyProof.Rows.callWith_type1 (PyProof.Rows.args_cons (thn (ha.run pins s σ H _ I h) fun v s1 ⟨x, H1, I1, r1, q1⟩ => PyProof.Rows.args_nil ?_) na) na rfl
  obtain ⟨l, ks, rfl, hl, hk, hf, q1⟩ := q1
  cases r1
  obtain ⟨its, rv, pl, hz⟩ := I1.list hl
  refine call_set_tups (P := X.prog) (w := X.w) ks (I1.ok.hd hc) pl.isList (by simpa using refs_of_vals rv) (fun p hp => I1.isT (hk p hp)) hf (by omega) fun h' tk L es ep t R g k => ?_
  refine PyProof.Rows.args_nil ?_
  have I2 : Inv X pins σ H1 { s1 with heap := h', toks := tk } := I1.kept k
  have R2 : SetTR X.prog X.w ({ s1 with heap := h', toks := tk } : Shared).heap s1.heap.objs.size L es ep t := R
  obtain ⟨o, ho, hex, hd⟩ := R2.ob
  have hsz := R2.size
  have hfit := R2.fits
  have hfew := R2.few
  refine call_len_set ho hex hd hfit (by rw [hsz]; omega) ⟨.int L.length, H1, I2.tok _, ⟨_, by rw [hsz]⟩, q1 _ ⟨L.map (·.2), R2.nd, fun y => ?_, List.length_map _⟩⟩
  have g1 := g.sub
  have g2 := g.all
  rw [List.take_length] at g1 g2
  constructor
  · intro hy
    obtain ⟨p, hp, rfl⟩ := List.mem_map.mp hy
    exact List.mem_map.mpr ⟨p, g1 p hp, rfl⟩
  · intro hy
    obtain ⟨p, hp, rfl⟩ := List.mem_map.mp hy
    exact g2 p hp
/-! dict -/
section
variable {K : Type} [DecidableEq K]
theorem atKey_some {xs : List (K × Addr × Value)} {k : K} : (atKey xs k).isSome = true ↔ k ∈ xs.map (·.1) := by
  unfold atKey
  rw [Option.isSome_map, List.find?_isSome, List.mem_map]
  constructor
  · rintro ⟨x, hx, e⟩; exact ⟨x, hx, of_decide_eq_true e⟩
  · rintro ⟨x, hx, e⟩; exact ⟨x, hx, decide_eq_true e⟩
theorem storedH_fst {xs : List (K × Addr × Value)} {k : K} {a : Addr} {v : Value} : (storedH xs k a v).map (·.1) = if k ∈ xs.map (·.1) then xs.map (·.1) else xs.map (·.1) ++ [k] := by
  unfold storedH
  by_cases c : k ∈ xs.map (·.1)
  · rw [if_pos (atKey_some.mpr c), if_pos c, List.map_map]
    refine List.map_congr_left fun x _ => ?_
    show (putAt k v x).1 = x.1
    unfold putAt
    split <;> rfl
  · rw [if_neg fun h => c (atKey_some.mp h), if_neg c, List.map_append]; rfl
theorem storedAllH_fst : ∀ {ps xs : List (K × Addr × Value)}, (xs.map (·.1)).Nodup → ((storedAllH xs ps).map (·.1)).Nodup ∧ ∀ y, y ∈ (storedAllH xs ps).map (·.1) ↔ y ∈ xs.map (·.1) ∨ y ∈ ps.map (·.1)
  | [], xs, h => ⟨h, fun y => by show y ∈ xs.map (·.1) ↔ _; simp⟩
  | p :: ps, xs, h => by
    have e : storedAllH xs (p :: ps) = storedAllH (storedH xs p.1 p.2.1 p.2.2) ps := rfl
    have hs := storedH_fst (xs := xs) (k := p.1) (a := p.2.1) (v := p.2.2)
    obtain ⟨a, b⟩ := storedAllH_fst (ps := ps) (xs := storedH xs p.1 p.2.1 p.2.2) (by
      rw [hs]
      split
      · exact h
      · rename_i c
        exact List.nodup_append.mpr ⟨h, by simp, fun x hx y hy e => by rw [List.mem_singleton.mp hy] at e; exact c (e ▸ hx)⟩)
    rw [e]
    refine ⟨a, fun y => (b y).trans ?_⟩
    rw [hs, List.map_cons, List.mem_cons]
    split
    · rename_i c
      constructor
      · rintro (h | h)
        · exact .inl h
        · exact .inr (.inr h)
      · rintro (h | h | h)
        · exact .inl h
        · rw [h]; exact .inl c
        · exact .inr h
    · rw [List.mem_append, List.mem_singleton]
      constructor
      · rintro ((h | h) | h)
        · exact .inl h
        · exact .inr (.inl h)
        · exact .inr (.inr h)
      · rintro (h | h | h)
        · exact .inl (.inl h)
        · exact .inl (.inr h)
        · exact .inr h
end
/-- the pairs: where each lies, its first and what is in that -/
abbrev TPair := Addr × Addr × List Int
def tLenDictT (K : PySem.W.Frag) (ta : TE) : TE := fun σ H Q => ta σ H fun x H1 => ∃ (l : Addr) (ks : List TPair) (v : V), x = V.ref l ∧ SqL K H1 l (ks.map fun p => V.ref p.1) ∧ (∀ p ∈ ks, SqT K H1 p.1 [V.ref p.2.1, V.bl true] ∧ SqT K H1 p.2.1 (p.2.2.map V.int)) ∧
  ∀ k : Nat, CntK (ks.map (·.2.2)) k → Q (.int k) H1
theorem refs_of_vals3 : ∀ {ks : List TPair} {us : List Value}, Vals (ks.map fun p => V.ref p.1) us → us = ks.map fun p => Value.ref p.1
  | [], us, h => by cases h; rfl
  | p :: ps, us, h => by
    cases h with | cons h1 t =>
    cases h1
    rw [refs_of_vals3 t]; rfl
theorem pe_lenDictT {a : Expr} {ta : TE} {p p2 q pos : Pos} (hu : X.A.units + 65 < cLine) (hg : Gl X "len") (hm : X.mg "len" = none) (hg2 : Gl X "dict") (hm2 : X.mg "dict" = none) (ha : PE X a ta) (hc : X.calm = true := by rfl)
    (na : starEach [a] X.env = (false, eval a X.env) :: starEach [] X.env := by rfl) : PE X (.Call (.Name "len" p) [.Call (.Name "dict" p2) [a] [] q] [] pos) (tLenDictT X.K ta) := by
  refine ⟨fun pins s σ H Q I h => ?_⟩
  refine Call_ (ld_blt I hg hm PySem.boot_len ?_)
  refine PyProof.Rows.callWith_builtin1 (PyProof.Rows.args_cons ?_ rfl) rfl rfl
  refine Call_ (ld_blt I hg2 hm2 PyProof.Rows.boot_dict ?_)
  refine PyProof.Rows.callWith_type1 (PyProof.Rows.args_cons (thn (ha.run pins s σ H _ I h) fun v s1 ⟨x, H1, I1, r1, q1⟩ => PyProof.Rows.args_nil ?_) na) na rfl
  obtain ⟨l, ks, _, rfl, hl, hk, q1⟩ := q1
  cases r1
  obtain ⟨its, rv, pl, hz⟩ := I1.list hl
  have hits := refs_of_vals3 rv
  rw [List.length_map] at hz
  have hsz : its.length = ks.length := by rw [hits, List.length_map]
  let Ts : Nat → Addr := fun j => (ks.getD j (0, 0, [])).1
  let prs : List (Value × Value) := ks.map fun p => (Value.ref p.2.1, Value.bool true)
  have hpl : PlainSeq "list" s1.heap l its.toArray := by
    obtain ⟨o, n, ho, hcl, hd, hdat⟩ := pl
    exact ⟨o, n, ho, hcl, hd, by simpa using hdat⟩
  have hpi : PairItems s1.heap its.toArray Ts prs := by
    refine ⟨by simp [prs, hsz], fun j k v hj => ?_⟩
    rw [List.getElem?_map] at hj
    obtain ⟨p, hpj, e⟩ := Option.map_eq_some_iff.mp hj
    cases e
    have hTs : Ts j = p.1 := by show (ks.getD j (0, 0, [])).1 = _; rw [List.getD_eq_getElem?_getD, hpj]; rfl
    refine ⟨by rw [hits, hTs]; simp [hpj], .inl ?_⟩
    rw [hTs]
    obtain ⟨us, r2, pl2, _⟩ := I1.tuple (hk p (List.mem_of_getElem? hpj)).1
    obtain ⟨u1, us1, rfl, h1, h2⟩ : ∃ u1 us1, us = u1 :: us1 ∧ RelV (V.ref p.2.1) u1 ∧ Vals [V.bl true] us1 := by cases r2 with | cons h t => exact ⟨_, _, rfl, h, t⟩
    obtain ⟨u2, rfl, h3⟩ : ∃ u2, us1 = [u2] ∧ RelV (V.bl true) u2 := by cases h2 with | cons h t => cases t with | nil => exact ⟨_, rfl, h⟩
    cases h1
    cases h3
    obtain ⟨o, ho, hcl, n, hd⟩ := pl2
    exact ⟨o, ho, hcl, n, by simpa using hd⟩
  let ps : List (List Int × Addr × Value) := ks.map fun p => (p.2.2, p.2.1, Value.bool true)
  refine call_dict_pairsH (knd := tupleKind (PySem.intKind X.prog X.w)) (ps := ps) (PairArg.list l its.toArray Ts prs) (I1.ok.hd hc) (by show X.A.units + 1 + 1 < cLine; omega) ⟨hpl, hpi⟩ ?_ ?_ (by simp [prs]; omega) fun h' tk hD hk' => ?_
  · refine ⟨by simp [ps, prs], fun i key v hr => ?_⟩
    have hr2 : prs[i]? = some (key, v) := hr
    rw [List.getElem?_map] at hr2
    obtain ⟨p, hpj, e⟩ := Option.map_eq_some_iff.mp hr2
    cases e
    exact ⟨p.2.2, p.2.1, by rw [List.getElem?_map, hpj]; rfl, rfl⟩
  · intro h' hk' x hx
    obtain ⟨p, hp, rfl⟩ := List.mem_map.mp hx
    exact isT_keep (I1.isT (hk p hp).2) fun c o e => hk' c o (Nat.ne_of_lt (Heap.lt_size e)) List.not_mem_nil e
  · refine PyProof.Rows.args_nil ?_
    have I2 : Inv X pins σ H1 { s1 with heap := h', toks := tk } := I1.kept fun b o e => hk' b o List.not_mem_nil e
    have hmod : (s1.heap.objs.size == sysModules) = false := beq_eq_false_iff_ne.mpr (Nat.ne_of_gt I1.big)
    obtain ⟨d1, d2⟩ := storedAllH_fst (ps := ps) (xs := []) List.nodup_nil
    have hlen : (storedAllH [] ps).length ≤ ps.length := by have := storedAllH_length ps []; simpa using this
    have hpsl : ps.length = ks.length := List.length_map _
    have hsl : (ks.length : Nat) ≤ sizeLine := by exact hz
    refine call_len_dictH (knd := tupleKind (PySem.intKind X.prog X.w)) (s := { s1 with heap := h', toks := tk }) hmod hD (by rw [sizeLine_eq] at hsl; omega) ⟨.int (storedAllH [] ps).length, H1, I2.tok _, ⟨_, rfl⟩, q1 _ ⟨(storedAllH [] ps).map (·.1), d1, fun y => (d2 y).trans ?_, List.length_map _⟩⟩
    show y ∈ ([] : List (List Int)) ∨ _ ↔ _
    rw [List.map_map]
    simp
def wLenSetT (a : DE) : DE := fun ρ M Q => a ρ M fun x M1 => ∃ rows : List (List Int), nrm M1 x = .lst (rows.map fun r => D.tup (r.map .int)) ∧ rows.length < 64 ∧ ∀ k : Nat, CntK rows k → Q (.int k) M1
def wLenDictT (a : DE) : DE := fun ρ M Q => a ρ M fun x M1 => ∃ rows : List (List Int), nrm M1 x = .lst (rows.map fun r => D.tup [.tup (r.map .int), .bl true]) ∧ ∀ k : Nat, CntK rows k → Q (.int k) M1
theorem tups_ks {F H : Hp} (s : Same F H) : ∀ {rows : List (List Int)} {vs : List V}, RpL F (rows.map fun r => D.tup (r.map .int)) vs → ∃ ks : List (Addr × List Int), vs = ks.map (fun p => V.ref p.1) ∧ ks.map (·.2) = rows ∧ ∀ p ∈ ks, H p.1 = some (.tup (p.2.map V.int))
  | [], vs, h => by cases h; exact ⟨[], rfl, rfl, fun _ h => absurd h List.not_mem_nil⟩
  | r :: rows, vs, ⟨v, vr, e, h1, h2⟩ => by
    subst e
    obtain ⟨ks, rfl, hr, hk⟩ := tups_ks s h2
    obtain ⟨a, ws, rfl, ha, ra⟩ := h1
    rw [ra.ints] at ha
    refine ⟨(a, r) :: ks, rfl, by rw [List.map_cons, hr], fun p hp => ?_⟩
    rcases List.mem_cons.mp hp with rfl | hp
    · exact s _ _ ha
    · exact hk p hp
theorem tr_lenSetT {K : PySem.W.Frag} {t : TE} {a : DE} (h : Tr t a) : Tr (tLenSetT K t) (wLenSetT a) := by
  intro ρ M σ H F Q Qv er m q f
  refine h ρ M σ H F _ _ er m q fun d1 v1 M1 H1 F1 m1 e1 r1 q1 => ?_
  have vw := m1.view r1
  obtain ⟨rows, hx, hf, q1⟩ := q1
  rw [hx] at vw
  obtain ⟨a, ws, rfl, ha, ra⟩ := vw
  obtain ⟨ks, rfl, hr, hk⟩ := tups_ks m1.same ra
  have hkl : ks.length = rows.length := by rw [← hr, List.length_map]
  exact ⟨a, ks, rfl, .of ha, fun p hp => .of (hk p hp), by omega, fun k hc => f (.int _) _ _ _ _ m1 e1 rfl (q1 k (by rw [hr] at hc; exact hc))⟩
theorem pairs_ks {F H : Hp} (s : Same F H) : ∀ {rows : List (List Int)} {vs : List V}, RpL F (rows.map fun r => D.tup [.tup (r.map .int), .bl true]) vs → ∃ ks : List TPair, vs = ks.map (fun p => V.ref p.1) ∧ ks.map (·.2.2) = rows ∧ ∀ p ∈ ks, H p.1 = some (.tup [V.ref p.2.1, V.bl true]) ∧ H p.2.1 = some (.tup (p.2.2.map V.int))
  | [], vs, h => by cases h; exact ⟨[], rfl, rfl, fun _ h => absurd h List.not_mem_nil⟩
  | r :: rows, vs, ⟨v, vr, e, h1, h2⟩ => by
    subst e
    obtain ⟨ks, rfl, hr, hk⟩ := pairs_ks s h2
    obtain ⟨a, ws, rfl, ha, ra⟩ := h1
    obtain ⟨u1, u2, rfl, r1, r2⟩ := rp2 ra
    obtain ⟨b, zs, rfl, hb, rb⟩ := r1
    rw [rb.ints] at hb
    cases r2
    refine ⟨(a, b, r) :: ks, rfl, by rw [List.map_cons, hr], fun p hp => ?_⟩
    rcases List.mem_cons.mp hp with rfl | hp
    · exact ⟨s _ _ ha, s _ _ hb⟩
    · exact hk p hp
theorem tr_lenDictT {K : PySem.W.Frag} {t : TE} {a : DE} (h : Tr t a) : Tr (tLenDictT K t) (wLenDictT a) := by
  intro ρ M σ H F Q Qv er m q f
  refine h ρ M σ H F _ _ er m q fun d1 v1 M1 H1 F1 m1 e1 r1 q1 => ?_
  have vw := m1.view r1
  obtain ⟨rows, hx, q1⟩ := q1
  rw [hx] at vw
  obtain ⟨a, ws, rfl, ha, ra⟩ := vw
  obtain ⟨ks, rfl, hr, hk⟩ := pairs_ks m1.same ra
  exact ⟨a, ks, .non, rfl, .of ha, fun p hp => ⟨.of (hk p hp).1, .of (hk p hp).2⟩, fun k hc => f (.int _) _ _ _ _ m1 e1 rfl (q1 k (by rw [hr] at hc; exact hc))⟩
end
section
/-! ### index of a truth value -/
theorem toPDs_bls : ∀ bs : List Bool, toPDs (bs.map D.bl) = bs.map PyData.bool
  | [] => rfl
  | b :: bs => by show toPD (.bl b) :: toPDs (bs.map D.bl) = _; rw [toPDs_bls bs]; rfl
theorem pdOk_bls (bs : List Bool) : pdOk (.lst (bs.map D.bl)) = true := by
  have h : ∀ bs : List Bool, PyData.canLayAll0 (bs.map PyData.bool) = true ∧ PyData.depthAll (bs.map PyData.bool) = 0 := fun bs => by
    induction bs with
    | nil => simp [PyData.canLayAll0, PyData.depthAll]
    | cons b bs ih => simp [PyData.canLayAll0, PyData.depthAll, PyData.canLay0, PyData.depth, ih.1, ih.2]
  obtain ⟨h1, h2⟩ := h bs
  unfold pdOk SeqAt.shaped
  simp only [toPD, toPDs_bls, PyData.canLay0, h1, PyData.depth, h2, Bool.true_and, decide_eq_true_eq]
  omega
def mIndexB : DM := fun x ds M Q => match nrm M x, ds with
  | .lst xs, [.bl true] => ∃ bs : List Bool, xs = bs.map D.bl ∧ true ∈ bs ∧ Q (.int (bs.idxOf true : Nat)) M
  | _, _ => False
theorem mt_indexB {K : PySem.W.Frag} : MethT (rIndexD K) mIndexB := by
  intro M H F d v ds vs Q Qv m r1 r2 q f
  unfold mIndexB at q
  have vw := m.view r1
  split at q
  · rename_i xs e
    rw [e] at vw
    obtain ⟨bs, rfl, hk, q⟩ := q
    obtain ⟨w, rfl, h1⟩ := rp1 r2
    have vy := m.view h1
    rw [nrm_bl] at vy
    have hp := pdOk_bls bs
    have hd := vw_dp (K := K) m.same vw hp
    have hy := vw_dp (K := K) m.same vy (pdOk_bl true)
    obtain ⟨a, us, rfl, ha, ra⟩ := vw
    have hlt := List.idxOf_lt_length_of_mem hk
    refine ⟨a, w, .bool true, toPDs (bs.map D.bl), bs.idxOf true, .bool true, rfl, rfl, hd, hy, hp, pdOk_bl true, ?_, ?_, fun j z hj hz => ?_, f.here (d := .int _) m rfl q⟩
    · rw [toPDs_bls, List.getElem?_map, List.getElem?_eq_getElem hlt, List.getElem_idxOf hlt]; rfl
    · simp [PyData.eqv]
    · rw [toPDs_bls, List.getElem?_map] at hz
      obtain ⟨i, hi, rfl⟩ := Option.map_eq_some_iff.mp hz
      have hne : i ≠ true := by
        rintro rfl
        have hn := List.not_of_lt_findIdx (p := (· == true)) (show j < bs.findIdx (· == true) from hj)
        obtain ⟨h1, h2⟩ := List.getElem?_eq_some_iff.mp hi
        rw [h2] at hn
        simp at hn
      cases i
      · simp [PyData.eqv]
      · exact absurd rfl hne
  · exact q.elim
theorem any_bls {bs : List Bool} : (bs.map D.bl).any (fun z => deq z (.bl true)) = decide (true ∈ bs) := by
  induction bs with
  | nil => rfl
  | cons b bs ih =>
    rw [List.map_cons, List.any_cons, ih, deq_bl]
    cases b <;> simp
end

/-! ### len(set(ints)), as many as are unlike -/
section
variable {X : Cx}
def CntJ (ns : List Int) (k : Nat) : Prop := ∃ L : List Int, L.Nodup ∧ (∀ y, y ∈ L ↔ y ∈ ns) ∧ L.length = k
theorem dup_lessJ : ∀ {rows : List Int}, ¬ rows.Nodup → ∃ r : List Int, r.length < rows.length ∧ ∀ y ∈ rows, y ∈ r
  | [], h => absurd List.nodup_nil h
  | x :: rows, h => by
    by_cases c : x ∈ rows
    · refine ⟨rows, by simp, fun y hy => ?_⟩
      rcases List.mem_cons.mp hy with rfl | hy
      · exact c
      · exact hy
    · obtain ⟨r, h1, h2⟩ := dup_lessJ (rows := rows) fun n => h (List.nodup_cons.mpr ⟨c, n⟩)
      refine ⟨x :: r, by simp only [List.length_cons]; omega, fun y hy => ?_⟩
      rcases List.mem_cons.mp hy with rfl | hy
      · exact List.mem_cons_self
      · exact List.mem_cons_of_mem _ (h2 y hy)
theorem cntJ_eq {rows : List Int} {k : Nat} (h : CntJ rows k) : decide ((k : Int) = rows.length) = decide rows.Nodup := by
  obtain ⟨L, hn, hm, rfl⟩ := h
  have p1 : L.length ≤ rows.length := hn.length_le_of_subset fun x hx => (hm x).mp hx
  by_cases c : rows.Nodup
  · have p2 : rows.length ≤ L.length := c.length_le_of_subset fun x hx => (hm x).mpr hx
    rw [decide_eq_true c, decide_eq_true (by omega)]
  · rw [decide_eq_false c, decide_eq_false]
    intro e
    obtain ⟨r, h1, h2⟩ := dup_lessJ c
    have p3 : L.length ≤ r.length := hn.length_le_of_subset fun x hx => h2 x ((hm x).mp hx)
    omega
theorem step_dedup_eq (l : List Int) (k : Int) : step_dedup l k = if k ∈ l then l else l ++ [k] := by
  unfold step_dedup
  by_cases c : k ∈ l
  · rw [if_pos c, if_pos (List.any_eq_true.mpr ⟨k, c, by simp⟩)]
  · rw [if_neg c, if_neg]
    intro h
    obtain ⟨x, hx, e⟩ := List.any_eq_true.mp h
    exact c (by rw [← eq_of_beq e]; exact hx)
theorem firstMet_spec (val : Nat → Int) : ∀ i, (firstMet val i).Nodup ∧ ∀ y, y ∈ firstMet val i ↔ ∃ j, j < i ∧ val j = y
  | 0 => ⟨List.nodup_nil, fun y => by rw [firstMet_zero]; simp⟩
  | i + 1 => by
    obtain ⟨h1, h2⟩ := firstMet_spec val i
    rw [firstMet_succ, step_dedup_eq]
    by_cases c : val i ∈ firstMet val i
    · rw [if_pos c]
      refine ⟨h1, fun y => (h2 y).trans ⟨fun ⟨j, hj, e⟩ => ⟨j, by omega, e⟩, fun ⟨j, hj, e⟩ => ?_⟩⟩
      by_cases ji : j = i
      · subst ji; rw [← e]; exact (h2 _).mp c
      · exact ⟨j, by omega, e⟩
    · rw [if_neg c]
      refine ⟨List.nodup_append.mpr ⟨h1, by simp, fun x hx y hy e => by rw [List.mem_singleton.mp hy] at e; exact c (e ▸ hx)⟩, fun y => ?_⟩
      rw [List.mem_append, List.mem_singleton, h2]
      constructor
      · rintro (⟨j, hj, e⟩ | e)
        · exact ⟨j, by omega, e⟩
        · exact ⟨i, by omega, e.symm⟩
      · rintro ⟨j, hj, e⟩
        by_cases ji : j = i
        · subst ji; exact .inr e.symm
        · exact .inl ⟨j, by omega, e⟩
theorem cntJ_first (ns : List Int) : CntJ ns (firstMet (fun i => ns.getD i 0) ns.length).length := by
  obtain ⟨h1, h2⟩ := firstMet_spec (fun i => ns.getD i 0) ns.length
  refine ⟨_, h1, fun y => (h2 y).trans ?_, rfl⟩
  constructor
  · rintro ⟨j, hj, e⟩
    rw [← e]
    show ns.getD j 0 ∈ ns
    rw [List.getD_eq_getElem?_getD, List.getElem?_eq_getElem hj]; exact List.getElem_mem hj
  · intro hy
    obtain ⟨j, hj, e⟩ := List.getElem_of_mem hy
    exact ⟨j, hj, by show ns.getD j 0 = y; rw [List.getD_eq_getElem?_getD, List.getElem?_eq_getElem hj]; exact e⟩
def tLenSetJ (K : PySem.W.Frag) (ta : TE) : TE := fun σ H Q => ta σ H fun x H1 => ∃ (l : Addr) (ns : List Int), x = .ref l ∧ SqL K H1 l (ns.map V.int) ∧ ns.length ≤ 4000 ∧ ∀ k : Nat, CntJ ns k → Q (.int (k : Nat)) H1
theorem pe_lenSetJ {a : Expr} {ta : TE} {p p2 q pos : Pos} (hg : Gl X "len") (hm : X.mg "len" = none) (hg2 : Gl X "set") (hm2 : X.mg "set" = none) (ha : PE X a ta) (hc : X.calm = true := by rfl)
    (na : starEach [a] X.env = (false, eval a X.env) :: starEach [] X.env := by rfl) : PE X (.Call (.Name "len" p) [.Call (.Name "set" p2) [a] [] q] [] pos) (tLenSetJ X.K ta) := by
  refine ⟨fun pins s σ H Q I h => ?_⟩
  refine Call_ (ld_blt I hg hm PySem.boot_len ?_)
  refine PyProof.Rows.callWith_builtin1 (PyProof.Rows.args_cons ?_ rfl) rfl rfl
  refine Call_ (ld_blt I hg2 hm2 PyProof.Rows.boot_set ?_)
  refine PyProof.Rows.callWith_type1 (PyProof.Rows.args_cons (thn (ha.run pins s σ H _ I h) fun v s1 ⟨x, H1, I1, r1, q1⟩ => PyProof.Rows.args_nil ?_) na) na rfl
  obtain ⟨l, ns, rfl, hq, hl, q1⟩ := q1
  cases r1
  obtain ⟨its, r, pl, hz⟩ := I1.list hq
  have hlen : its.toArray.size = ns.length := by rw [List.size_toArray, ← r.length, List.length_map]
  refine call_set_list (I1.ok.hd hc) pl.isList (by simpa using RZ.intsAre_vals r) (by rw [hlen]; unfold scanBound; omega) fun h' tk hS hk => ?_
  refine PyProof.Rows.args_nil ?_
  rw [hlen] at hS
  have hfl := firstMet_length_le (fun i => ns.getD i 0) ns.length
  obtain ⟨o, es, ep, t, ho, hex, hd, _, _, _, hf, hn⟩ := hS
  have I2 : Inv X pins σ H1 { s1 with heap := h', toks := tk } := I1.kept fun b o e => hk b o (Heap.lt_size e) e
  exact call_len_set ho hex hd hf (by rw [hn] <;> omega) ⟨.int _, H1, I2.tok _, ⟨_, by rw [hn]⟩, q1 _ (cntJ_first ns)⟩
end
def wLenSetJ (a : DE) : DE := fun ρ M Q => a ρ M fun x M1 => ∃ ns : List Int, nrm M1 x = .lst (ns.map .int) ∧ ns.length ≤ 4000 ∧ ∀ k : Nat, CntJ ns k → Q (.int k) M1
theorem tr_lenSetJ {K : PySem.W.Frag} {t : TE} {a : DE} (h : Tr t a) : Tr (tLenSetJ K t) (wLenSetJ a) := by
  intro ρ M σ H F Q Qv er m q f
  refine h ρ M σ H F _ _ er m q fun d1 v1 M1 H1 F1 m1 e1 r1 q1 => ?_
  have vw := m1.view r1
  obtain ⟨ns, hx, hf, q1⟩ := q1
  rw [hx] at vw
  obtain ⟨a, ws, rfl, ha, ra⟩ := vw
  rw [ra.ints] at ha
  exact ⟨a, ns, rfl, .of ha, hf, fun k hc => f (.int _) _ _ _ _ m1 e1 rfl (q1 k hc)⟩
/-! ### tuple + tuple -/
def rCatT (K : PySem.W.Frag) : R2 := fun x y H Q => ∃ (t b : Addr) (xs ys : List V), x = .ref t ∧ y = .ref b ∧ SqT K H t xs ∧ SqT K H b ys ∧ xs.length + ys.length ≤ sizeLine ∧ (xs = [] → Q (.ref b) H) ∧ (ys = [] → Q (.ref t) H) ∧ ∀ p, H p = none → Q (.ref p) (upd H p (.tup (xs ++ ys)))
theorem vals_nil {us : List Value} (h : Vals [] us) : us = [] := by cases h; rfl
theorem op_catT {X : Cx} : OpR X (binaryOp .Add) (rCatT X.K) := by
  intro pins s σ H x y v u Q I rx ry h
  obtain ⟨t, b, xs, ys, rfl, rfl, hT, hB, hz, q0, q1, q2⟩ := h
  cases rx
  cases ry
  obtain ⟨vs, rv, ht, _⟩ := I.tuple hT
  obtain ⟨ws, rw', hb, _⟩ := I.tuple hB
  have lv := rv.length
  have lw := rw'.length
  obtain ⟨⟨cls, dd, data, sl⟩, ho, hc, n, hd⟩ := id ht
  obtain ⟨⟨cls2, dd2, data2, sl2⟩, ho2, hc2, n2, hd2⟩ := id hb
  simp only at hc hd hc2 hd2
  subst hc hd hc2 hd2
  have e : vs.toArray ++ ws.toArray = (vs ++ ws).toArray := by simp
  by_cases hv : vs = []
  · have hx : xs = [] := by subst hv; exact List.length_eq_zero_iff.mp (by simpa using lv)
    exact concat_meets ⟨_, ho, rfl⟩ ⟨_, ho2, rfl⟩ noFill_tuple_add seq_tuple_add PySem.F.slot_tuple_add PySem.F.entry_tuple_add (PySem.F.args_tuple_add_2 _ _)
      (tuple_addW0 t b vs.toArray ws.toArray n n2 dd dd2 sl sl2 (by simp [hv])) ⟨ho, ho2, .ref b, H, I, rfl, q0 hx⟩
  · by_cases hw : ws = []
    · have hy : ys = [] := by subst hw; exact List.length_eq_zero_iff.mp (by simpa using lw)
      exact concat_meets ⟨_, ho, rfl⟩ ⟨_, ho2, rfl⟩ noFill_tuple_add seq_tuple_add PySem.F.slot_tuple_add PySem.F.entry_tuple_add (PySem.F.args_tuple_add_2 _ _)
        (tuple_addW1 t b vs.toArray ws.toArray n n2 dd dd2 sl sl2 (by simpa using hv) (by simp [hw])) ⟨ho, ho2, .ref t, H, I, rfl, q1 hy⟩
    · refine concat_meets ⟨_, ho, rfl⟩ ⟨_, ho2, rfl⟩ noFill_tuple_add seq_tuple_add PySem.F.slot_tuple_add PySem.F.entry_tuple_add (PySem.F.args_tuple_add_2 _ _)
        (tuple_addW2 t b vs.toArray ws.toArray n n2 dd dd2 sl sl2 (by simpa using hv) (by simpa using hw) (by rw [List.size_toArray, List.size_toArray]; omega)) ⟨ho, ho2, ?_⟩
      rw [e]
      exact ⟨.ref s.heap.objs.size, _, I.laid (t' := s.toks) (o := .tup (xs ++ ys)) (fun _ _ o => Heap.get?_push_of_some _ o) (Nat.le_refl _) ⟨by rw [List.length_append]; omega, _, rv.append rw', ⟨_, Heap.get?_push_size _ rfl, rfl, 0, rfl⟩⟩, rfl, q2 _ (I.hok.fresh (Nat.le_refl _))⟩
def wAddT (md : Md) : DO := fun x y M Q => match nrm M x, nrm M y with
  | .tup xs, .tup ys => Sz (xs.length + ys.length) ∧ Q (.tup (xs ++ ys)) M
  | _, _ => wAdd md x y M Q
theorem ot_addT {K : PySem.W.Frag} {md : Md} : OpT (fun x y H Q => rCatT K x y H Q ∨ rAddA K x y H Q) (wAddT md) := by
  intro M H F d1 d2 v1 v2 Q Qv m r1 r2 q f
  unfold wAddT at q
  split at q
  · rename_i xs ys e1 e2
    have e1 := nrm_tup e1
    have e2 := nrm_tup e2
    subst e1
    subst e2
    have g1 : Rp F (.tup xs) v1 := r1
    have g2 : Rp F (.tup ys) v2 := r2
    obtain ⟨a, vs, rfl, ha, ra⟩ := r1
    obtain ⟨b, ws, rfl, hb, rb⟩ := r2
    refine .inl ⟨a, b, vs, ws, rfl, rfl, .of (m.same _ _ ha), .of (m.same _ _ hb), by rw [ra.length, rb.length]; exact q.1.line, fun e => ?_, fun e => ?_, new_tup m (ra.append rb) q.2 f⟩
    · have : xs = [] := by subst e; exact List.length_eq_zero_iff.mp (by have := ra.length; simpa using this.symm)
      subst this
      exact f.here (d := .tup ys) m g2 q.2
    · have : ys = [] := by subst e; exact List.length_eq_zero_iff.mp (by have := rb.length; simpa using this.symm)
      subst this
      rw [List.append_nil] at q
      exact f.here (d := .tup xs) m g1 q.2
  · exact .inr (ot_add M H F d1 d2 v1 v2 Q Qv m r1 r2 q f)

/-! ### sorted(set(list of ints)) -/
section
section
variable {P : Program} {w : World} {A : Around} {E : Value → Shared → Prop} {s : Shared}
/-- a new set -/
abbrev setNew (w : World) : Obj := { cls := .type "set", dict := none, data := .set #[] 0 (.fresh 0 0 (!w.params.followText "set-order")) }
theorem set_of_list {l : Addr} {items : Array Value} (ns : List Int) {Q : Value → Shared → Prop} (hh : A.handled = none) (hl : s.heap.IsList l items) (hit : IntsAre items.toList ns) (hb : ns.length + 1 < scanBound)
    (h : ∀ (h' : Heap) (tk c : Nat), SetR w h' s.heap.objs.size (fun j => decide (j ∈ ns)) c → c ≤ ns.length → (∀ b o, s.heap.get? b = some o → h'.get? b = some o) → Q (.ref s.heap.objs.size) { s with heap := h', toks := tk }) :
    wpAny (model P w) A (call (.type "set") [.ref l]) Q E s := by
  have hsz : items.size = ns.length := by rw [← Array.length_toList]; exact IntsAre.length hit
  obtain ⟨c, tl, hmro⟩ := F.called_set.mro
  have hmade := F.called_set.made
  have hsub := F.called_set.sub
  refine wpAny_call (codeAny_of_tree ?_)
  show wpAny _ _ (callAny (.type "set") _) _ _ _
  refine wpAny_pure ⟨Code.quiet_builtin _ (by decide +kernel), codeAny_builtin F.entry_type_call ?_⟩
  rw [Around.under_plain (weight_type_call_type "set" [.ref l] []) rfl]
  have h1 := F.called_set.notType
  have h2 := F.called_set.canCreate
  have hct := F.typeCall_set_1 (.ref l)
  repeat (any_goals (first | assumption | wp_step))
  refine codeAny_mono (code_set_led1 (.ref l) (E := E) (Q₁ := fun obj s₁ => obj = .ref s.heap.objs.size ∧ s₁ = { s with heap := s.heap.push (setNew w) }) ⟨rfl, rfl⟩) fun r s₁ hr => ?_
  cases r with
  | error e => exact hr
  | ok fl =>
    cases fl with
    | ret obj =>
      obtain ⟨rfl, rfl⟩ := hr
      have hS : (s.heap.push (setNew w)).get? s.heap.objs.size = some (setNew w) := Heap.get?_push_size _ rfl
      have hT : Shared.TypeIs { s with heap := s.heap.push (setNew w) } (.ref s.heap.objs.size) "set" := ⟨_, hS, rfl⟩
      have hli := F.called_set.init.lookup
      have hbi := F.called_set.init.bind (.ref s.heap.objs.size)
      repeat (any_goals (first | assumption | wp_step))
      refine codeAny_mono (codeAny_call_builtin (R := wants (fun r s₂ => r = .none ∧ ∃ h' tk c, s₂ = { s with heap := h', toks := tk } ∧ SetR w h' s.heap.objs.size (fun j => decide (j ∈ ns)) c ∧ c ≤ ns.length ∧
          (∀ b o, s.heap.get? b = some o → h'.get? b = some o)) E) F.called_set.init.plain F.entry_set_init (check_set_init_1 hT ?_)) fun r₂ s₂ hr₂ => ?_
      · obtain ⟨ol, hol, hcl, nl, hdl⟩ := hl
        obtain ⟨ocls, odict, odata, oslots⟩ := ol
        simp only at hcl hdl
        subst hcl; subst hdl
        have hol' : (s.heap.push (setNew w)).get? l = some { cls := .type "list", dict := odict, data := .seq items nl, slots := oslots } := Heap.get?_push_of_some _ hol
        have hsls := F.sub_list_set
        have hslf := F.sub_list_frozenset
        have hne : (Value.type "list" == Value.type "dict") = false := by decide
        have hl1 : (s.heap.push (setNew w)).IsList l items := ⟨_, hol', rfl, nl, rfl⟩
        unfold Builtin.«set.__init__» noKeywords Builtin.Frozenset.updateFrom
        generalize hPI : pyIter = PI
        wp_walk
        subst hPI
        refine wpAny_pyIter_list hl1 ?_
        refine wpAny_bind (wpAny_runValue ?_)
        have hlS : l < s.heap.objs.size := Heap.lt_size hol
        have hh3 : A.in1.in1.in1.handled = none := by simp [hh]
        have hz1 : (s.heap.push (setNew w)).objs.size = s.heap.objs.size + 1 := Heap.size_push ..
        have hneI : l ≠ (s.heap.push (setNew w)).objs.size := by rw [hz1]; exact Nat.ne_of_lt (Nat.lt_succ_of_lt hlS)
        have hSf : s.heap.objs.size ∉ [(s.heap.push (setNew w)).objs.size, l] := by
          rw [hz1]; simp only [List.mem_cons, List.not_mem_nil, or_false, not_or]
          exact ⟨Nat.ne_of_lt (Nat.lt_succ_self _), Nat.ne_of_gt hlS⟩
        have hval : ∀ (i : Nat) (v : Value), items[i]? = some v → ∃ k t, ns[i]? = some k ∧ v = .int k t := fun i v hv => by
          have hi : i < ns.length := by rw [← hsz]; exact (Array.getElem?_eq_some_iff.mp hv).1
          obtain ⟨t, e⟩ := PyProof.Rows.IntsAre.int_at hit i v (by rw [Array.getElem?_toList]; exact hv)
          refine ⟨ns[i], t, List.getElem?_eq_getElem hi, ?_⟩
          rw [e, List.getD_eq_getElem?_getD, List.getElem?_eq_getElem hi] <;> rfl
        refine set_update_ints ((Walks.list hh3 _ l hneI items).toS) s.heap.objs.size
          hSf ns hsz hb hval (items.size - 0) 0 _ (by omega) (Nat.zero_le _)
          ⟨⟨_, Heap.get?_push_size _ rfl, rfl, rfl⟩, (hl1.push _)⟩ ⟨0, Nat.le_refl 0, setR_new_at (Heap.get?_push_of_some _ hS)⟩ fun s' c' hm hc' hS' => ?_
        obtain ⟨h', g2, d', tk', os'⟩ := s'
        have eg : g2 = s.gens := hm.gens
        have ed : d' = s.drawn := hm.drawn
        have eo : os' = s.os := hm.os
        subst eg; subst ed; subst eo
        show wpAny _ _ _ _ _ _
        refine wpAny_pure ?_
        show wpAny _ _ (ret Value.none) _ _ _
        refine wpAny_pure ⟨rfl, h', tk', c', rfl, hS', by omega, fun b o e => ?_⟩
        have hb0 : b < s.heap.objs.size := Heap.lt_size e
        exact hm.heap b o (by rw [hz1]; simp only [List.mem_cons, List.not_mem_nil, or_false, not_or]; exact ⟨Nat.ne_of_lt hb0, Nat.ne_of_lt (Nat.lt_succ_of_lt hb0)⟩) (Heap.get?_push_of_some _ (Heap.get?_push_of_some _ e))
      · cases r₂ with
        | error e => exact hr₂
        | ok fl₂ =>
          cases fl₂ with
          | ret r =>
            obtain ⟨rfl, h', tk, c', rfl, hS', hc', hk'⟩ := hr₂
            repeat (any_goals (first | assumption | wp_step))
            exact h _ _ _ hS' hc' hk'
          | _ => exact hr₂.elim
    | _ => exact hr.elim
end
variable {X : Cx}
def tSortSet (K : PySem.W.Frag) (ta : TE) : TE := fun σ H Q => ta σ H fun x H1 => ∃ (l : Addr) (ns : List Int), x = .ref l ∧ SqL K H1 l (ns.map V.int) ∧ ns.length < 64 ∧
  ∀ (ms : List Int) (p : Addr), ms.Pairwise (· < ·) → (∀ k, k ∈ ms ↔ k ∈ ns) → H1 p = none → Q (.ref p) (upd H1 p (.lst (ms.map V.int)))
theorem pe_sortSet {a : Expr} {ta : TE} {p p2 q pos : Pos} (hg : Gl X "sorted") (hm : X.mg "sorted" = none) (hg2 : Gl X "set") (hm2 : X.mg "set" = none) (ha : PE X a ta) (hc : X.calm = true := by rfl)
    (na : starEach [a] X.env = (false, eval a X.env) :: starEach [] X.env := by rfl) : PE X (.Call (.Name "sorted" p) [.Call (.Name "set" p2) [a] [] q] [] pos) (tSortSet X.K ta) := by
  refine ⟨fun pins s σ H Q I h => ?_⟩
  refine Call_ (ld_blt I hg hm PyProof.Rows.boot_sorted ?_)
  refine PyProof.Rows.callWith_builtin1 (PyProof.Rows.args_cons ?_ rfl) rfl rfl
  refine Call_ (ld_blt I hg2 hm2 PyProof.Rows.boot_set ?_)
  refine PyProof.Rows.callWith_type1 (PyProof.Rows.args_cons (thn (ha.run pins s σ H _ I h) fun v s1 ⟨x, H1, I1, r1, q1⟩ => PyProof.Rows.args_nil ?_) na) na rfl
  obtain ⟨l, ns, rfl, hq, h64, q1⟩ := q1
  cases r1
  obtain ⟨its, r, pl, hz⟩ := I1.list hq
  refine set_of_list ns (I1.ok.hd hc) pl.isList (by simpa using RZ.intsAre_vals r) (by unfold scanBound; omega) fun h' tk c hS hcl hk => ?_
  refine PyProof.Rows.args_nil ?_
  have I2 : Inv X pins σ H1 { s1 with heap := h', toks := tk } := I1.kept hk
  refine sorted_set hS (I2.ok.hd hc) (by omega) fun s' p out c ns' k g o hp hg hi hs hmm hll => ?_
  have hlen : (ns'.map V.int).length ≤ sizeLine := by rw [List.length_map, hll, sizeLine_eq]; omega
  have hp2 : s1.heap.objs.size ≤ p := by
    have h0 : s1.heap.objs.size < h'.objs.size := hS.lt
    exact Nat.le_trans (Nat.le_of_lt h0) hp
  have hn : H1 p = none := I2.hok.fresh hp
  have J : Inv X pins σ (upd H1 p (.lst (ns'.map V.int))) { s1 with heap := s'.heap, gens := s'.gens, drawn := s'.drawn, toks := s'.toks } :=
    Inv.call (s := { s1 with heap := h', toks := tk }) I2 (ch := []) (Un.laid k hp hn) (I2.hok.laid k hp ⟨hlen, out.toList, c, vals_of_ints hi, hg⟩) (by rw [g]; exact I2.bare) (fun _ z => nomatch z)
  have e : s' = { s1 with heap := s'.heap, gens := s'.gens, drawn := s'.drawn, toks := s'.toks } := by
    cases s'
    cases s1
    cases o
    rfl
  rw [e]
  exact ⟨.ref p, _, J, rfl, q1 ns' p hs (fun j => (hmm j).trans decide_eq_true_iff) hn⟩
end
def wSortSet (md : Md) (a : DE) : DE := fun ρ M Q => a ρ M fun x M1 => ∃ ns : List Int, nrm M1 x = .lst (ns.map .int) ∧ ns.length < 64 ∧ ∀ ms : List Int, ms.Pairwise (· < ·) → (∀ k, k ∈ ms ↔ k ∈ ns) → wNew md (ms.map .int) M1 Q
theorem tr_sortSet {K : PySem.W.Frag} {md : Md} {t : TE} {a : DE} (h : Tr t a) : Tr (tSortSet K t) (wSortSet md a) := by
  intro ρ M σ H F Q Qv er m q f
  refine h ρ M σ H F _ _ er m q fun d1 v1 M1 H1 F1 m1 e1 r1 q1 => ?_
  have vw := m1.view r1
  obtain ⟨ns, hx, hf, q1⟩ := q1
  rw [hx] at vw
  obtain ⟨a, ws, rfl, ha, ra⟩ := vw
  rw [ra.ints] at ha
  refine ⟨a, ns, rfl, .of ha, hf, fun ms p hs hk hp => ?_⟩
  exact new_lst m1 RpL.of_ints (q1 ms hs hk) (fun d v M2 H2 F2 m2 e2 => f d v M2 H2 F2 m2 (e1.trans e2)) p hp

/-! ### a dict with tuples of ints as keys, all its values True -/
section
open PySem.W
variable {X : Cx}
abbrev tKvs (rows : List (List Int)) : List (List Key × V) := rows.map fun r => (r.map Sum.inl, V.bl true)
def encT (p : IRow) : PyData := .tuple (p.2.map .int)
theorem encT_alike (p q : IRow) : alike (encT p) (encT q) = true := by
  unfold encT; rw [alike]; exact ints_alike _ _
theorem encT_depth (p : IRow) : (encT p).depth = 1 := by
  unfold encT; rw [PyData.depth, KE_depth]
theorem dataLe_tups : dataLe false encT = fun p q : IRow => leR p.2 q.2 := by
  funext p q
  show (!dataLt (.tuple (q.2.map .int)) (.tuple (p.2.map .int))) = decide (p.2 ≤ q.2)
  rw [dataLt_tuple]
  show (!rowLt (q.2.map .int) (p.2.map .int)) = _
  rw [dataLt_ints]
  by_cases h : q.2 < p.2
  · have h' : ¬ p.2 ≤ q.2 := fun r => List.not_lt.mpr r h
    simp [h, h']
  · have h' : p.2 ≤ q.2 := List.not_lt.mp h
    simp [h, h']
theorem kt_rows {H : Hp} : ∀ {rows : List (List Int)} {ks : List (List Key × Addr × Value)}, KT H (tKvs rows) ks →
    ∃ ps : List IRow, ps.map (·.1) = ks.map (fun x => x.2.1) ∧ ps.map (·.2) = rows ∧ ∀ p ∈ ps, H p.1 = some (.tup (p.2.map V.int))
  | [], ks, r => by cases r; exact ⟨[], rfl, rfl, fun _ h => absurd h List.not_mem_nil⟩
  | r :: rows, ks, h => by
    cases h with
    | cons h1 t =>
      rename_i q qs
      obtain ⟨ps, e1, e2, hp⟩ := kt_rows t
      have h2 := h1.2.1
      refine ⟨(q.2.1, r) :: ps, by rw [List.map_cons, List.map_cons, e1], by rw [List.map_cons, e2], fun p hm => ?_⟩
      rcases List.mem_cons.mp hm with rfl | hm
      · show H q.2.1 = some (.tup (r.map V.int))
        rw [h2, List.map_map]; rfl
      · exact hp p hm
theorem reads_tup {pins : List (Addr × Obj)} {σ : L2.St} {H : Hp} {s : Shared} (I : Inv X pins σ H s) {p : IRow} (hp : H p.1 = some (.tup (p.2.map V.int))) : Reads s.heap (.ref p.1) (encT p) [] := by
  obtain ⟨z, its, r, o, h1, h2, n, h3⟩ := (show ObjOk X.prog X.w H s.heap p.1 (.tup (p.2.map V.int)) from I.hok p.1 _ hp)
  exact Reads.tuple h1 h2 h3 ((by simpa using (ints_vals r).reads s.heap))
def rSortDT : List V → Hp → VK → Prop := fun vs H Q => ∃ (d : Addr) (rows : List (List Int)), vs = [.ref d] ∧ H d = some (.dT (tKvs rows)) ∧ (∀ r ∈ rows, r ≠ []) ∧
  ∀ (ps : List IRow) (q : Addr), ps.map (·.2) = rows.mergeSort leR → (∀ p ∈ ps, H p.1 = some (.tup (p.2.map V.int))) → H q = none → Q (.ref q) (upd H q (.lst (ps.map fun p => V.ref p.1)))
theorem call_sortDT (hc : X.calm = true) (hu : X.A.units + 65 < cLine) : CallR X (.builtin "sorted") rSortDT := by
  intro pins s σ H vs us Q I r h
  obtain ⟨d, rows, rfl, hd, hne, q⟩ := h
  rw [Vals.ref1 r]
  obtain ⟨z, hs, ks, pr, o, es, ep, ho, hx, hdt, he, hn⟩ := (show ObjOk X.prog X.w H s.heap d (.dT (tKvs rows)) from I.hok d _ hd)
  have l1 : es.size = ks.length := size_of_entries he
  have l2 : (tKvs rows).length = ks.length := Paired.length pr
  obtain ⟨ps, e1, e2, hps⟩ := kt_rows pr
  have hpl : ps.length = ks.length := by rw [← List.length_map (f := (·.1)) (as := ps), e1, List.length_map]
  have hpz : ps.length ≤ sizeLine := by rw [hpl, ← l2]; exact z
  refine Calls.call_function_entry PyProof.Rows.kind_sorted PyProof.Rows.plain_sorted PyProof.Rows.entry_sorted (PyProof.Rows.args_sorted1 _) ?_
  unfold Builtin.«sorted»
  refine wpAny_bind (m := checkCount "sorted" 1 1 _) (wpAny_pure ?_)
  refine wpAny_bind (PySem.W.kdu_collect (A := X.A.in1) (kdl_raw hs hx hdt) (I.ok.hd hc) ho (by omega) fun h' tk acc hk it => ?_)
  have ea : acc.toList = ps.map fun p => Value.ref p.1 := by
    have e3 : (ps.map fun p => Value.ref p.1) = ks.map fun x => Value.ref x.2.1 := by
      have := congrArg (List.map Value.ref) e1
      rw [List.map_map, List.map_map] at this
      exact this
    rw [e3]
    have hl : acc.toList.length = ks.length := by rw [Array.length_toList, it.1]; exact l1
    apply List.ext_getElem?
    intro j
    rw [List.getElem?_map]
    cases hj : acc.toList[j]? with
    | none =>
      have h1 := List.getElem?_eq_none_iff.mp hj
      rw [List.getElem?_eq_none (by omega)]
      all_goals rfl
    | some v =>
      obtain ⟨en, hen, hv⟩ := it.2 j v (by rw [← Array.getElem?_toList]; exact hj)
      have qe := entry_at he j
      rw [hen] at qe
      cases hb : ks[j]? with
      | none =>
        rw [hb] at qe
        exact nomatch (show some en = none from qe)
      | some b =>
        rw [hb] at qe
        have e2 : en = entryOfKey (tupleKind (mixKind X.prog X.w)) b := Option.some.inj qe
        rw [hv, e2]
        all_goals rfl
  have I1 : Inv X pins σ H { s with heap := h', toks := tk } := I.kept hk
  have hal : acc.toList.length = ps.length := by rw [ea, List.length_map]
  refine wpAny_bind (wpAny_newList ?_ (by rw [hal]; exact hpz))
  have hoL : (h'.push (seqObj "list" acc.toList.toArray 0)).get? h'.objs.size = some (seqObj "list" acc.toList.toArray 0) := Heap.get?_push_size _ rfl
  show wpAny _ _ _ _ _ { s with heap := h'.push (seqObj "list" acc.toList.toArray 0), toks := tk }
  rw [ea] at hoL ⊢
  have hold : ∀ b u, h'.get? b = some u → (sortingHeap (h'.push (seqObj "list" (ps.map fun p => Value.ref p.1).toArray 0)) h'.objs.size (ps.map fun p => Value.ref p.1)).get? b = some u := fun b u e =>
    sortingHeap_old (Nat.ne_of_lt (Heap.lt_size e)) (Heap.get?_push_of_some _ e)
  have er' : EachIs (fun v p => ∃ as, Reads (sortingHeap (h'.push (seqObj "list" (ps.map fun p => Value.ref p.1).toArray 0)) h'.objs.size (ps.map fun p => Value.ref p.1)) v (encT p) as) (ps.map fun p => Value.ref p.1) ps := by
    have : ∀ {l : List IRow}, (∀ p ∈ l, H p.1 = some (.tup (p.2.map V.int))) → EachIs (fun v p => ∃ as, Reads (sortingHeap (h'.push (seqObj "list" (ps.map fun p => Value.ref p.1).toArray 0)) h'.objs.size (ps.map fun p => Value.ref p.1)) v (encT p) as) (l.map fun p => Value.ref p.1) l := fun {l} => by
      induction l with
      | nil => intro _; exact .nil
      | cons p l ih => intro hp; exact .cons ⟨_, Reads.keeps hold (reads_tup I1 (hp p List.mem_cons_self))⟩ (ih fun q hq => hp q (List.mem_cons_of_mem _ hq))
    exact this hps
  have hal2 : AllAlike (ps.map encT) := AllAlike.of fun x y => encT_alike x y
  have hsort : Sortable (ps.map encT) := .inl fun y hy => by
    obtain ⟨p, hp, rfl⟩ := List.mem_map.mp hy
    have hp2 : p.2 ∈ rows := by rw [← e2]; exact List.mem_map.mpr ⟨p, hp, rfl⟩
    unfold encT
    cases e : p.2 with
    | nil => exact absurd e (hne _ hp2)
    | cons a r => exact ⟨_, _, rfl⟩
  have eo := sortVals_data (h' := sortingHeap (h'.push (seqObj "list" (ps.map fun p => Value.ref p.1).toArray 0)) h'.objs.size (ps.map fun p => Value.ref p.1)) (R := fun v p => v = Value.ref p.1) false (each_refs ps) er' hal2
  refine wpAny_bind (wpAny_holding (wpAny_call_entry PyProof.Rows.slot_list_sort ⟨_, hoL, rfl⟩ PyProof.Rows.entry_list_sort
    (list_sort_vals (s := { s with heap := h'.push (seqObj "list" (ps.map fun p => Value.ref p.1).toArray 0), toks := tk }) (κ := dataKind (sortingHeap (h'.push (seqObj "list" (ps.map fun p => Value.ref p.1).toArray 0)) h'.objs.size (ps.map fun p => Value.ref p.1)) (ps.map encT)) hoL
      (SortsAt.data (s := { s with heap := sortingHeap (h'.push (seqObj "list" (ps.map fun p => Value.ref p.1).toArray 0)) h'.objs.size (ps.map fun p => Value.ref p.1), toks := tk }) (each_map (R := fun v d => ∃ as, Reads (sortingHeap (h'.push (seqObj "list" (ps.map fun p => Value.ref p.1).toArray 0)) h'.objs.size (ps.map fun p => Value.ref p.1)) v d as) encT er') hal2 hsort ?_) (by rw [List.length_map]; exact hpz) ⟨_, rfl, ?_⟩) (PyProof.Rows.args_list_sort _)))
  · intro y hy
    obtain ⟨p, hp, rfl⟩ := List.mem_map.mp hy
    rw [encT_depth]
    simp only [Around.in1_units]
    omega
  · rw [each_refs_eq eo, dataLe_tups]
    obtain ⟨c, hcc⟩ := PyProof.Rows.sortedHeap_at (vs := ps.map fun p => Value.ref p.1) (out := ((ps.mergeSort fun x y => leR x.2 y.2).map fun p => Value.ref p.1).toArray) hoL
    have hqn : H h'.objs.size = none := I1.hok.fresh (Nat.le_refl _)
    refine wpAny_pure ⟨_, rfl, .ref h'.objs.size, upd H h'.objs.size (.lst ((ps.mergeSort fun x y => leR x.2 y.2).map fun p => V.ref p.1)), I1.laid (t' := tk) (fun b u e => ?_) (Nat.le_refl _)
      ⟨by rw [List.length_map, List.length_mergeSort]; exact hpz, _, c, refs_vals _, hcc⟩, rfl, q (ps.mergeSort fun x y => leR x.2 y.2) _ ?_ (fun p hp => hps p (List.mem_mergeSort.mp hp)) hqn⟩
    · have hb : b < h'.objs.size := Heap.lt_size e
      rw [PyProof.Rows.sortedHeap_old (Nat.ne_of_lt hb) (by rw [size_push']; exact Nat.lt_succ_of_lt hb)]
      exact Heap.get?_push_of_some _ e
    · rw [← e2]
      exact List.map_mergeSort (f := fun p : IRow => p.2) (r := fun x y => leR x.2 y.2) (s := leR) fun a _ b _ => rfl
end

/-! ### a dict with tuples of ints as keys, as plain data -/
/-- the dict of these keys -/
def dTM (rows : List (List Int)) : MO := .raw (.dT (tKvs rows))
def addR (rows : List (List Int)) (r : List Int) : List (List Int) := if r ∈ rows then rows else rows ++ [r]
theorem mem_addR {rows : List (List Int)} {r s : List Int} : s ∈ addR rows r ↔ s ∈ rows ∨ s = r := by
  unfold addR
  split
  · rename_i h
    exact ⟨.inl, fun z => z.elim id fun e => e ▸ h⟩
  · rw [List.mem_append, List.mem_singleton]
theorem addR_length {rows : List (List Int)} {r : List Int} : (addR rows r).length ≤ rows.length + 1 := by
  unfold addR; split <;> simp
theorem inl_inj {r s : List Int} : r.map (Sum.inl : Int → Key) = s.map Sum.inl ↔ r = s := List.map_inj_right fun a b h => Sum.inl.inj h
theorem putK_tKvs {rows : List (List Int)} {r : List Int} : putK (tKvs rows) (r.map Sum.inl) (V.bl true) = tKvs (addR rows r) := by
  unfold putK addR
  by_cases c : r ∈ rows
  · have hany : ((tKvs rows).any fun kv => decide (kv.1 = r.map Sum.inl)) = true := List.any_eq_true.mpr ⟨(r.map Sum.inl, V.bl true), List.mem_map.mpr ⟨r, c, rfl⟩, decide_eq_true rfl⟩
    rw [if_pos c, if_pos hany]
    conv => rhs; rw [← List.map_id (tKvs rows)]
    refine List.map_congr_left fun kv hkv => ?_
    obtain ⟨s, hs, rfl⟩ := List.mem_map.mp hkv
    show (if _ then _ else _) = _
    split <;> rfl
  · rw [if_neg c, if_neg]
    · rw [tKvs, tKvs, List.map_append]; rfl
    · intro h
      obtain ⟨kv, hkv, e⟩ := List.any_eq_true.mp h
      obtain ⟨s, hs, rfl⟩ := List.mem_map.mp hkv
      exact c (by rw [← inl_inj.mp (of_decide_eq_true e)]; exact hs)
def wDNewT : DE := fun _ M Q => ∀ p, M p = none → Q (.ref p) (M.set p (dTM []))
theorem tr_dnewT : Tr tDNewT wDNewT := by
  intro ρ M σ H F Q Qv er m q f p hp
  obtain ⟨m', e'⟩ := m.mut hp (o := .dT []) (q := dTM []) ⟨rfl, fun _ => nofun⟩
  exact f (.ref p) _ _ _ _ m' e' rfl (q p (m.fresh hp).2)
def sDPutT (o i e : DE) : DS := fun Dd ρ M => e ρ M fun d M1 => o ρ M1 fun x M2 => i ρ M2 fun y M3 => ∃ (a : Addr) (rows : List (List Int)) (r : List Int), d = .bl true ∧ x = .ref a ∧ M3 a = some (dTM rows) ∧ y = .tup (r.map .int) ∧ rows.length < 16777216 ∧ Dd.nx ρ (M3.set a (dTM (addR rows r)))
theorem ts_putT {td ty tv : TE} {o i e : DE} (ho : Tr td o) (hi : Tr ty i) (he : Tr tv e) : TrS (sDPut td ty tv) (sDPutT o i e) := by
  intro ρ M σ H F Dd De er m q r
  refine he ρ M σ H F _ _ er m q fun d v M1 H1 F1 m1 e1 r1 q1 => ?_
  refine ho ρ M1 σ H1 F1 _ _ (er.mono e1.fs) m1 q1 fun x u M2 H2 F2 m2 e2 r2 q2 => ?_
  refine hi ρ M2 σ H2 F2 _ _ (er.mono (e1.fs.trans e2.fs)) m2 q2 fun y w M3 H3 F3 m3 e3 r3 q3 => ?_
  obtain ⟨a, rows, k, rfl, rfl, ea, rfl, hz, q3⟩ := q3
  obtain ⟨_, o, ho, ee, hnt⟩ := m3.mem a _ ea
  subst ee
  have r2 : u = .ref a := r2
  subst r2
  have r1 : v = .bl true := r1
  subst r1
  obtain ⟨b, vs, rfl, fb, rb⟩ := r3
  rw [rb.ints] at fb
  have hb := m3.same _ _ fb
  obtain ⟨m', e'⟩ := m3.chg ea (o := .dT (tKvs (addR rows k))) (q := dTM (addR rows k)) ⟨rfl, fun _ => nofun⟩
  have ee := e1.trans (e2.trans (e3.trans e'))
  have hl : (tKvs rows).length < sizeLine := by rw [sizeLine_eq, List.length_map]; exact hz
  have hp := DPut.t (a := a) (b := b) (k := k.map Sum.inl) (v := V.bl true) ho (by rw [hb, List.map_map]; rfl) hl
  rw [putK_tKvs] at hp
  exact ⟨a, _, rfl, hp, r.nx _ _ _ _ _ (er.mono ee.fs) m' ee q3⟩
/-- tuples that are there come to be known -/
def frzT (H F : Hp) (as : List Addr) : Hp := fun b => match F b with
  | some x => some x
  | none => if b ∈ as then H b else none
theorem frzT_at {H F : Hp} (s : Same F H) {as : List Addr} {b : Addr} {x : HO} (hb : b ∈ as) (h : H b = some x) : frzT H F as b = some x := by
  unfold frzT
  cases e : F b with
  | some y => have := s b y e; rw [h] at this; cases this; rfl
  | none => rw [if_pos hb]; exact h
theorem Mem.tups {M : Mp} {H F : Hp} (m : Mem M H F) {as : List Addr} (ha : ∀ a ∈ as, ∃ xs, H a = some (.tup xs)) : Mem M H (frzT H F as) ∧ Ext M H F M H (frzT H F as) := by
  have fs : Same F (frzT H F as) := fun b x e => by unfold frzT; rw [e]
  refine ⟨⟨fun b x e => ?_, fun a q e => ?_⟩, fs, fun _ _ h _ => h, fun _ h => .inl h, fun a h => ?_⟩
  · unfold frzT at e
    split at e
    · rename_i y e2
      cases e
      exact m.same b _ e2
    · split at e
      · exact e
      · cases e
  · obtain ⟨h1, o, h2, h3⟩ := m.mem a q e
    refine ⟨?_, o, h2, h3.mono fs⟩
    unfold frzT
    rw [h1]
    show (if a ∈ as then H a else none) = none
    rw [if_neg]
    intro hm
    obtain ⟨xs, hx⟩ := ha a hm
    rw [h2] at hx
    cases hx
    cases q with
    | lst ys => obtain ⟨vs, e, _⟩ := h3; cases e
    | dK ks ys => obtain ⟨vs, e, _⟩ := h3; cases e
    | raw o' => obtain ⟨e, n⟩ := h3; subst e; exact n _ rfl
  · unfold frzT at h
    split at h
    · rename_i y e
      exact .inl (by rw [e]; exact fun z => nomatch z)
    · split at h
      · rename_i hm
        exact .inr (.inr (.inr (ha a hm)))
      · exact absurd rfl h
def cSortDT (md : Md) : DC := fun ds M Q => ∃ (a : Addr) (rows : List (List Int)), ds = [.ref a] ∧ M a = some (dTM rows) ∧ (∀ r ∈ rows, r ≠ []) ∧ wNew md ((rows.mergeSort leR).map fun r => .tup (r.map .int)) M Q
theorem ct_sortDT {md : Md} : CallT rSortDT (cSortDT md) := by
  intro M H F ds vs Q Qv m r q f
  obtain ⟨a, rows, rfl, ha, hne, q⟩ := q
  obtain ⟨v, rfl, h1⟩ := rp1 r
  have h1 : v = .ref a := h1
  subst h1
  obtain ⟨_, o, ho, ee, _⟩ := m.mem a _ ha
  subst ee
  refine ⟨a, rows, rfl, ho, hne, fun ps p e2 hps hp => ?_⟩
  obtain ⟨m2, e3⟩ := m.tups (as := ps.map (·.1)) fun b hb => by
    obtain ⟨z, hz, rfl⟩ := List.mem_map.mp hb
    exact ⟨_, hps z hz⟩
  have hr : ∀ {l : List IRow}, (∀ z ∈ l, z ∈ ps) → RpL (frzT H F (ps.map (·.1))) ((l.map (·.2)).map fun r => D.tup (r.map .int)) (l.map fun z => V.ref z.1) := fun {l} => by
    induction l with
    | nil => intro _; rfl
    | cons z l ih =>
      intro hz
      have hm := hz z List.mem_cons_self
      exact ⟨_, _, rfl, ⟨z.1, _, rfl, frzT_at m.same (List.mem_map.mpr ⟨z, hm, rfl⟩) (hps z hm), RpL.of_ints⟩, ih fun y hy => hz y (List.mem_cons_of_mem _ hy)⟩
  have hr2 := hr (l := ps) fun _ h => h
  rw [e2] at hr2
  exact new_lst m2 hr2 q (fun d v M3 H3 F3 m3 e4 => f d v M3 H3 F3 m3 (e3.trans e4)) p hp

/-! ### d.update(e), both with plain keys -/
def rDUpd : V → List V → Hp → VK → Prop := fun x vs H Q => ∃ (a b : Addr) (kvs more : List (Key × V)), x = .ref a ∧ vs = [.ref b] ∧ a ≠ b ∧ H a = some (.dK kvs) ∧ H b = some (.dK more) ∧ kvs.length + more.length ≤ sizeLine ∧ Q .non (upd H a (.dK (mergeK kvs more)))
theorem mt_dupd {X : Cx} : MtR X "dict.update" rDUpd := by
  intro pins s σ H x vs v us Q I rx rv h
  obtain ⟨a, b, kvs, more, ex, ev, hab, ha, hb, hz, q⟩ := h
  subst ex ev
  obtain rfl : v = Value.ref a := rx
  obtain ⟨u, rfl, ru⟩ := rv.one
  obtain rfl : u = Value.ref b := ru
  obtain ⟨z, hd, va, ra, da⟩ := dk_of I.hok ha
  obtain ⟨z2, hd2, vb, rb, db⟩ := dk_of I.hok hb
  refine call_meetsIn PySem.F.slot_dict_update da.typeIs PySem.F.entry_dict_update (PySem.F.args_dict_update_2 _ _) (meets_dict_update (mixKind X.prog X.w) a b hab hd2) ⟨va, vb, da, db, by rw [← ra.length, ← rb.length]; exact hz, fun h' da' db' hs => ⟨.non, _, ?_, rfl, q⟩⟩
  have he : ∃ q, h'.get? a = some q := let ⟨q, _, _, hq, _⟩ := da'; ⟨q, hq⟩
  have hl : (mergeK kvs more).length ≤ sizeLine := by have := length_mergeK more kvs; omega
  exact d_write (t' := s.toks) I (by rw [ha]; exact True.intro) hs he (dk_new hl hd (rb.merge ra) da')
/-- it is a dict that can be changed -/
def isDk (M : Mp) (d : D) : Bool := match nrm M d with
  | .dct _ _ => true
  | _ => false
theorem isDk_ty {K : PySem.W.Frag} {M : Mp} {H F : Hp} (m : Mem M H F) {d : D} {v : V} (r : Rp F d v) (h : isDk M d = true) : tyV K "dict" v H := by
  have vw := m.view r
  unfold isDk at h
  split at h
  · rename_i ks xs e
    rw [e] at vw
    obtain ⟨a, kvs, rfl, ha, _⟩ := vw
    exact .inr (.inr (.inl ⟨rfl, .inl ⟨kvs, ha⟩⟩))
  · cases h
def wBMd (w : DM) (o : DE) (a : DA) : DE := fun ρ M Q => o ρ M fun x M1 => isDk M1 x = true ∧ a ρ M1 fun ds M2 => w x ds M2 Q
theorem tr_bmd {K : PySem.W.Frag} {r : V → List V → Hp → VK → Prop} {w : DM} {to : TE} {t : TA} {o : DE} {a : DA} (hm : MethT r w) (ho : Tr to o) (ha : TrA t a) : Tr (tBM K "dict" r to t) (wBMd w o a) := by
  intro ρ M σ H F Q Qv er m q f
  refine ho ρ M σ H F _ _ er m q fun d v M1 H1 F1 m1 e1 r1 q1 => ⟨isDk_ty m1 r1 q1.1, ?_⟩
  refine ha ρ M1 σ H1 F1 _ _ (er.mono e1.fs) m1 q1.2 fun ds vs M2 H2 F2 m2 e2 r2 q2 => ?_
  exact hm M2 H2 F2 d v ds vs Q Qv m2 (Rp.mono e2.fs _ _ r1) r2 q2 (f.ext (e1.trans e2))
/-- the second's pairs are put into the first -/
def mUpd : DM := fun x ds M Q => match x, ds with
  | .ref a, [y] => match M a, nrm M y with
    | some (.dK ks xs), .dct ls ys => y ≠ .ref a ∧ ks.length + ls.length ≤ 16777216 ∧ Q .non (M.set a (.dK (mrgD (ks, xs) (ls.zip ys)).1 (mrgD (ks, xs) (ls.zip ys)).2))
    | _, _ => False
  | _, _ => False
theorem zip_pairs {F : Hp} : ∀ {kvs : List (Key × V)} {ys : List D}, RpL F ys (kvs.map (·.2)) → Paired (fun (p : Key × D) (kv : Key × V) => p.1 = kv.1 ∧ Rp F p.2 kv.2) ((kvs.map (·.1)).zip ys) kvs
  | [], ys, r => by
    cases ys with
    | nil => exact .nil
    | cons y ys => obtain ⟨v, r, e, _⟩ := r; cases e
  | kv :: kvs, ys, r => by
    cases ys with
    | nil => cases r
    | cons y ys =>
      obtain ⟨v, vs, e, h1, h2⟩ := r
      simp only [List.map_cons, List.cons.injEq] at e
      obtain ⟨e1, e2⟩ := e
      subst e1 e2
      exact .cons ⟨rfl, h1⟩ (zip_pairs h2)
theorem mt_dupdD : MethT rDUpd mUpd := by
  intro M H F d v ds vs Q Qv m r1 r2 q f
  unfold mUpd at q
  split at q
  · rename_i a y
    have r1 : v = .ref a := r1
    subst r1
    obtain ⟨u, rfl, h1⟩ := rp1 r2
    have vy := m.view h1
    split at q
    · rename_i ks xs ls ys e ey
      obtain ⟨hne, hz, q⟩ := q
      rw [ey] at vy
      obtain ⟨b, more, rfl, hb, hk, rb⟩ := vy
      obtain ⟨hf, o, ho, kvs, rfl, hk0, rr⟩ := m.mem a _ e
      have hab : a ≠ b := by
        intro h
        subst h
        cases y with
        | ref c => cases h1; exact hne rfl
        | dct ls' ys' =>
          obtain ⟨c, kv2, e2, h2, _⟩ := h1
          cases e2
          rw [hf] at h2; cases h2
        | _ => simp [nrm] at ey
      subst hk
      obtain ⟨g1, g2⟩ := mrg_rp (acc := (ks, xs)) (akv := kvs) (zip_pairs rb) hk0 rr
      obtain ⟨m', e'⟩ := m.chg e (o := .dK (mergeK kvs more)) (q := .dK (mrgD (ks, xs) ((more.map (·.1)).zip ys)).1 (mrgD (ks, xs) ((more.map (·.1)).zip ys)).2) ⟨_, rfl, g1, g2⟩
      refine ⟨a, b, kvs, more, rfl, rfl, hab, ho, hb, ?_, f .non _ _ _ _ m' e' rfl q⟩
      rw [sizeLine_eq, ← List.length_map (f := (·.1)) (as := kvs), hk0, ← List.length_map (f := (·.1)) (as := more)]
      exact hz
    · exact q.elim
  · exact q.elim
/-! ### d.get(k), d.get(k, x) -/
theorem dget_at {M : Mp} {H F : Hp} (m : Mem M H F) {x : D} {v : V} {ks : List Key} {xs : List D} (r : Rp F x v) (e : nrm M x = .dct ks xs) : ∃ a kvs, v = .ref a ∧ H a = some (.dK kvs) ∧ kvs.map (·.1) = ks ∧ RpL F xs (kvs.map (·.2)) := by
  have vw := m.view r
  rw [e] at vw
  exact vw
def wDGet1 (o i : DE) : DE := fun ρ M Q => o ρ M fun x M1 => isDk M1 x = true ∧ i ρ M1 fun y M2 => match nrm M2 x, keyD y with
  | .dct ks xs, some k => Q ((look ks xs k).getD .non) M2
  | _, _ => False
theorem isD_of {M : Mp} {H F : Hp} (m : Mem M H F) {x : D} {v : V} (r : Rp F x v) (h : isDk M x = true) : ∃ a, v = .ref a ∧ IsD H a := by
  unfold isDk at h
  split at h
  · rename_i ks xs e
    obtain ⟨a, kvs, rfl, ha, _⟩ := dget_at m r e
    exact ⟨a, rfl, .inl ⟨kvs, .inl ha⟩⟩
  · cases h
theorem tr_dget1 {td ty : TE} {o i : DE} (ho : Tr td o) (hi : Tr ty i) : Tr (tDGet1 td ty) (wDGet1 o i) := by
  intro ρ M σ H F Q Qv er m q f
  refine ho ρ M σ H F _ _ er m q fun x v M1 H1 F1 m1 e1 r1 q1 => ?_
  obtain ⟨a, rfl, hd⟩ := isD_of m1 r1 q1.1
  refine ⟨a, rfl, hd, ?_⟩
  refine hi ρ M1 σ H1 F1 _ _ (er.mono e1.fs) m1 q1.2 fun y w M2 H2 F2 m2 e2 r2 q2 => ?_
  split at q2
  · rename_i ks xs k ex ek
    obtain ⟨b, kvs, eb, ha, hk, ra⟩ := dget_at m2 (Rp.mono e2.fs _ _ r1) ex
    cases eb
    have ew := keyD_rp r2 ek
    subst ew
    refine ⟨_, .k ha, f ((look ks xs k).getD .non) _ _ _ _ m2 (e1.trans e2) ?_ q2⟩
    obtain ⟨i1, i2⟩ := look_rp (y := k) hk ra
    cases el : look ks xs k with
    | none => rw [i2 el]; rfl
    | some d => obtain ⟨u, eu, ru⟩ := i1 d el; rw [eu]; exact ru
  · exact q2.elim
def wDGet2 (o i e : DE) : DE := fun ρ M Q => o ρ M fun x M1 => isDk M1 x = true ∧ i ρ M1 fun y M2 => e ρ M2 fun z M3 => match nrm M3 x, keyD y with
  | .dct ks xs, some k => Q ((look ks xs k).getD z) M3
  | _, _ => False
theorem tr_dget2 {td ty tz : TE} {o i e : DE} (ho : Tr td o) (hi : Tr ty i) (he : Tr tz e) : Tr (tDGet2 td ty tz) (wDGet2 o i e) := by
  intro ρ M σ H F Q Qv er m q f
  refine ho ρ M σ H F _ _ er m q fun x v M1 H1 F1 m1 e1 r1 q1 => ?_
  obtain ⟨a, rfl, hd⟩ := isD_of m1 r1 q1.1
  refine ⟨a, rfl, hd, ?_⟩
  refine hi ρ M1 σ H1 F1 _ _ (er.mono e1.fs) m1 q1.2 fun y w M2 H2 F2 m2 e2 r2 q2 => ?_
  refine he ρ M2 σ H2 F2 _ _ (er.mono (e1.fs.trans e2.fs)) m2 q2 fun z u M3 H3 F3 m3 e3 r3 q3 => ?_
  split at q3
  · rename_i ks xs k ex ek
    obtain ⟨b, kvs, eb, ha, hk, ra⟩ := dget_at m3 (Rp.mono (e2.fs.trans e3.fs) _ _ r1) ex
    cases eb
    have ew := keyD_rp (Rp.mono e3.fs _ _ r2) ek
    subst ew
    refine ⟨_, .k ha, f ((look ks xs k).getD z) _ _ _ _ m3 (e1.trans (e2.trans e3)) ?_ q3⟩
    obtain ⟨i1, i2⟩ := look_rp (y := k) hk ra
    cases el : look ks xs k with
    | none => rw [i2 el]; exact r3
    | some d => obtain ⟨u', eu, ru⟩ := i1 d el; rw [eu]; exact ru
  · exact q3.elim
/-! ### {k: v, ..} -/
def wPairs : List (DE × DE) → DEnv → Mp → (List (D × D) → Mp → Prop) → Prop
  | [], _, M, Q => Q [] M
  | p :: r, ρ, M, Q => p.1 ρ M fun x M1 => p.2 ρ M1 fun y M2 => wPairs r ρ M2 fun ps M3 => Q ((x, y) :: ps) M3
def RpP (F : Hp) : List (D × D) → List (V × V) → Prop := Paired fun p q => Rp F p.1 q.1 ∧ Rp F p.2 q.2
def TrPs (t : List (TE × TE)) (w : List (DE × DE)) : Prop := ∀ (ρ : DEnv) (M : Mp) (σ : L2.St) (H F : Hp) (Q : List (D × D) → Mp → Prop) (Qv : List (V × V) → Hp → Prop), EnvR F ρ σ → Mem M H F → wPairs w ρ M Q →
  (∀ ds vs M' H' F', Mem M' H' F' → Ext M H F M' H' F' → RpP F' ds vs → Q ds M' → Qv vs H') → tPairs t σ H Qv
theorem tps_nil : TrPs [] [] := fun ρ M σ H F Q Qv er m h f => f [] [] _ _ _ m .refl .nil h
theorem tps_cons {tk tv : TE} {k v : DE} {t : List (TE × TE)} {w : List (DE × DE)} (hk : Tr tk k) (hv : Tr tv v) (hr : TrPs t w) : TrPs ((tk, tv) :: t) ((k, v) :: w) := by
  intro ρ M σ H F Q Qv er m h f
  refine hk ρ M σ H F _ _ er m h fun d1 v1 M1 H1 F1 m1 e1 r1 q1 => ?_
  refine hv ρ M1 σ H1 F1 _ _ (er.mono e1.fs) m1 q1 fun d2 v2 M2 H2 F2 m2 e2 r2 q2 => ?_
  refine hr ρ M2 σ H2 F2 _ _ (er.mono (e1.fs.trans e2.fs)) m2 q2 fun ds vs M3 H3 F3 m3 e3 r3 q3 => ?_
  exact f ((d1, d2) :: ds) _ _ _ _ m3 (e1.trans (e2.trans e3)) (.cons ⟨Rp.mono (e2.fs.trans e3.fs) _ _ r1, Rp.mono e3.fs _ _ r2⟩ r3) q3
def keysP : List (D × D) → Option (List (Key × D))
  | [] => some []
  | p :: r => match keyD p.1, keysP r with
    | some k, some ps => some ((k, p.2) :: ps)
    | _, _ => none
theorem keysP_rp {F : Hp} : ∀ {ps : List (D × D)} {vs : List (V × V)} {kps : List (Key × D)}, RpP F ps vs → keysP ps = some kps →
    ∃ kvs : List (Key × V), vs = kvs.map (fun kv => (kV kv.1, kv.2)) ∧ Paired (fun (p : Key × D) (kv : Key × V) => p.1 = kv.1 ∧ Rp F p.2 kv.2) kps kvs ∧ kvs.length = ps.length
  | [], _, _, .nil, e => by cases e; exact ⟨[], rfl, .nil, rfl⟩
  | p :: ps, _, kps, .cons (b := q) h t, e => by
    unfold keysP at e
    split at e
    · rename_i k kps' e1 e2
      cases e
      obtain ⟨kvs, e3, pr, hl⟩ := keysP_rp t e2
      have := keyD_rp h.1 e1
      refine ⟨(k, q.2) :: kvs, ?_, .cons ⟨rfl, h.2⟩ pr, by rw [List.length_cons, List.length_cons, hl]⟩
      rw [e3, List.map_cons, ← this]
    · cases e
def wDisp (md : Md) (trs : List (DE × DE)) : DE := fun ρ M Q => wPairs trs ρ M fun ps M2 => ps.length ≤ 15 ∧ match keysP ps with
  | some kps => wNewD md (mrgD ([], []) kps).1 (mrgD ([], []) kps).2 M2 Q
  | none => False
theorem tr_disp {md : Md} {t : List (TE × TE)} {w : List (DE × DE)} (h : TrPs t w) : Tr (tDisp t) (wDisp md w) := by
  intro ρ M σ H F Q Qv er m q f p hp
  obtain ⟨hf, hm⟩ := m.fresh hp
  have m1 : Mem M (L2.upd H p (.dK [])) F := ⟨same_upd2 m.same hf, fun a q e => by
    obtain ⟨h1, o, h2, h3⟩ := m.mem a q e
    refine ⟨h1, o, ?_, h3⟩
    rw [upd_ne (fun z => by subst z; rw [hm] at e; cases e)]
    exact h2⟩
  have e1 : Ext M H F M (L2.upd H p (.dK [])) F := ⟨fun _ _ z => z, fun a o h1 _ => by
    rw [upd_ne (fun z => by subst z; rw [hp] at h1; cases h1)]
    exact h1, fun a z => .inl z, fun a z => .inl z⟩
  refine h ρ M σ _ F _ _ er m1 q fun ds vs M2 H2 F2 m2 e2 r2 q2 => ?_
  have h1 : L2.upd H p (.dK []) p = some (.dK []) := upd_same
  have hp2 : H2 p = some (.dK []) := e2.keep p _ h1 hm
  have hm2 : M2 p = none := by
    cases z : M2 p with
    | none => rfl
    | some o =>
      rcases e2.new p (by rw [z]; exact nofun) with w | w
      · exact absurd hm w
      · rw [h1] at w; cases w
  have hf2 : F2 p = none := by
    cases z : F2 p with
    | none => rfl
    | some o =>
      rcases e2.fnew p (by rw [z]; exact nofun) with w | w | w | ⟨xs, w⟩
      · exact absurd hf w
      · exact absurd hm w
      · rw [h1] at w; cases w
      · rw [h1] at w; cases w
  refine ⟨hp2, ?_⟩
  obtain ⟨hl, q2⟩ := q2
  split at q2
  · rename_i kps ek
    obtain ⟨kvs, ev, pr, hl2⟩ := keysP_rp r2 ek
    obtain ⟨g1, g2⟩ := mrg_rp (acc := ([], [])) (akv := []) pr rfl rfl
    refine ⟨kvs, ev, by omega, ?_⟩
    have m3 : Mem M2 (L2.upd H2 p (.dK (mergeK [] kvs))) F2 := ⟨same_upd2 m2.same hf2, fun a q e => by
      obtain ⟨h1, o, h2, h3⟩ := m2.mem a q e
      refine ⟨h1, o, ?_, h3⟩
      rw [upd_ne (fun z => by subst z; rw [hm2] at e; cases e)]
      exact h2⟩
    have e3 : Ext M H F M2 (L2.upd H2 p (.dK (mergeK [] kvs))) F2 := by
      have ee := e1.trans e2
      refine ⟨ee.fs, fun a o z1 z2 => ?_, ee.new, ee.fnew⟩
      rw [upd_ne (fun z => by subst z; rw [hp] at z1; cases z1)]
      exact ee.keep a o z1 z2
    exact adoptD m3 e3 hp upd_same hf2 hm2 g1 g2 q2 f
  · exact q2.elim

/-! ### a < b of texts -/
def ltS (a b : Str) : Bool := decide (a.cps.toList < b.cps.toList)
def wLtS : DO := fun x y M Q => match x, y with
  | .int i, .int j => Q (.bl (decide (i < j))) M
  | .str a, .str b => Q (.bl (ltS a b)) M
  | _, _ => False
theorem ot_ltS : OpT (fun x y H Q => (∃ i j, x = V.int i ∧ y = V.int j ∧ Q (.bl (decide (i < j))) H) ∨ ∃ i j, x = V.str i ∧ y = V.str j ∧ Q (.bl (decide (i.cps.toList < j.cps.toList))) H) wLtS := by
  intro M H F d1 d2 v1 v2 Q Qv m r1 r2 q f
  unfold wLtS at q
  split at q
  · cases r1; cases r2
    exact .inl ⟨_, _, rfl, rfl, f.here (d := .bl _) m rfl q⟩
  · cases r1; cases r2
    exact .inr ⟨_, _, rfl, rfl, f.here (d := .bl _) m rfl q⟩
  · exact q.elim
/-! ### min(a, b) of texts -/
theorem min_two_strs {prog : Program} {w : World} {A : Around} {E : Value → Shared → Prop} {s : Shared} {Q : Value → Shared → Prop} {a b : Str} {t u : Tok} (hh : A.handled = none)
    (h : ∀ h' tk, (∀ c o, s.heap.get? c = some o → h'.get? c = some o) → Q (if ltS b a = true then .str b u else .str a t) { s with heap := h', toks := tk }) :
    wpAny (model prog w) A (call (.builtin "min") [.str a t, .str b u]) Q E s := by
  have hT : (s.heap.push { cls := .type "tuple", data := .seq #[.str a t, .str b u] }).IsTuple s.heap.objs.size #[.str a t, .str b u] := ⟨_, Heap.get?_push_size _ rfl, rfl, 0, rfl⟩
  refine call_min_two (wpAny_pyIter_tuple hT ?_)
  have hsz : (s.heap.push { cls := .type "tuple", data := .seq #[.str a t, .str b u] }).objs.size = s.heap.objs.size + 1 := Heap.size_push ..
  have hc : CmpOf prog w A.in1 .Lt (fun i v => (#[Value.str a t, Value.str b u] : Array Value)[i]? = some v) (fun i j => ltS (if i = 0 then a else b) (if j = 0 then a else b)) := by
    intro i j vi vj s' Q' E' hi hj hq
    have key : ∀ (i : Nat) (v : Value), (#[Value.str a t, Value.str b u] : Array Value)[i]? = some v → ∃ z, v = .str (if i = 0 then a else b) z := fun i v hv => by
      match i, hv with
      | 0, hv => cases hv; exact ⟨_, rfl⟩
      | 1, hv => cases hv; exact ⟨_, rfl⟩
      | i + 2, hv => simp at hv
    obtain ⟨z1, rfl⟩ := key i vi hi
    obtain ⟨z2, rfl⟩ := key j vj hj
    exact PyProof.Rows.lt_str hq
  refine ⟨_, [_, s.heap.objs.size], [_], _, _, _, _, rfl, Walks.tuple (A := A.in1) hh _ s.heap.objs.size (by rw [hsz]; exact Nat.ne_of_lt (Nat.lt_succ_self _)) #[.str a t, .str b u],
    ⟨⟨_, Heap.get?_push_size _ rfl, rfl, rfl⟩, hT.push _⟩, fun c hc => ?_, by simp, hc, fun v h' tk hP hk => ?_⟩
  · show c < ((s.heap.push _).push _).objs.size
    rw [Heap.size_push, hsz]
    rcases List.mem_cons.mp hc with rfl | hc
    · rw [hsz]; exact Nat.lt_succ_self _
    · rcases List.mem_cons.mp hc with rfl | hc
      · exact Nat.lt_succ_of_lt (Nat.lt_succ_self _)
      · cases hc
  · have hold : ∀ c o, s.heap.get? c = some o → h'.get? c = some o := fun c o e => by
      refine hk c o (fun hm => ?_) (Heap.get?_push_of_some _ (Heap.get?_push_of_some _ e))
      rcases List.mem_cons.mp hm with e1 | hm
      · have := Heap.lt_size e; rw [e1, hsz] at this; exact Nat.lt_irrefl _ (Nat.lt_of_succ_lt this)
      · cases hm
    have := h h' tk hold
    have hv : v = if ltS b a = true then .str b u else .str a t := by
      cases hc : ltS b a <;> simp [argBest, hc] at hP <;> simp [hP]
    rw [hv]; exact this
def rMinS : List V → Hp → VK → Prop := fun xs H Q => ∃ a b, xs = [.str a, .str b] ∧ Q (.str (if ltS b a = true then b else a)) H
theorem call_minS {X : Cx} (hc : X.calm = true) : CallR X (.builtin "min") rMinS := by
  intro pins s σ H xs us Q I r h
  obtain ⟨a, b, rfl, q⟩ := h
  obtain ⟨u, w', rfl, ⟨t, rfl⟩, ⟨t', rfl⟩⟩ := vals2 r
  refine min_two_strs (I.ok.hd hc) fun h' tk k => ⟨_, H, I.kept k, ?_, q⟩
  cases ltS b a
  · exact ⟨_, rfl⟩
  · exact ⟨_, rfl⟩
def cMinS : DC := fun ds M Q => match ds with
  | [.str a, .str b] => Q (.str (if ltS b a = true then b else a)) M
  | _ => False
theorem ct_minS : CallT rMinS cMinS := by
  intro M H F ds vs Q Qv m r q f
  unfold cMinS at q
  split at q
  · obtain ⟨v, w, rfl, h1, h2⟩ := rp2 r
    cases h1; cases h2
    exact ⟨_, _, rfl, f.here (d := .str _) m rfl q⟩
  · exact q.elim
/-! ### list(d): its keys -/
def dKey : Key → D
  | .inl i => .int i
  | .inr x => .str x
theorem dKey_rp {F : Hp} : ∀ {kvs : List (Key × V)}, RpL F ((kvs.map (·.1)).map dKey) (kvs.map fun kv => kV kv.1)
  | [] => rfl
  | (k, v) :: r => by
    refine ⟨kV k, _, rfl, ?_, dKey_rp⟩
    show Rp F (dKey k) (kV k)
    cases k <;> rfl
def rListD : List V → Hp → VK → Prop := fun xs H Q => ∃ (a : Addr) (kvs : List (Key × V)), xs = [.ref a] ∧ Rd H a (.dK kvs) ∧ ∀ p, H p = none → Q (.ref p) (L2.upd H p (.lst (kvs.map fun kv => kV kv.1)))
theorem call_listDK {X : Cx} (hc : X.calm = true) : CallR X (.type "list") rListD := call_listD hc
def cListD (md : Md) : DC := fun ds M Q => match ds with
  | [x] => match nrm M x with
    | .dct ks _ => wNew md (ks.map dKey) M Q
    | _ => False
  | _ => False
theorem ct_listD {md : Md} : CallT rListD (cListD md) := by
  intro M H F ds vs Q Qv m r q f
  unfold cListD at q
  split at q
  · rename_i x
    obtain ⟨v, rfl, h1⟩ := rp1 r
    split at q
    · rename_i ks xs e
      obtain ⟨a, kvs, rfl, ha, hk, ra⟩ := dget_at m h1 e
      subst hk
      exact ⟨a, kvs, rfl, .inl ha, new_lst m dKey_rp q f⟩
    · exact q.elim
  · exact q.elim

/-! ### a module's names for built-in functions -/
def bfOk (K : PySem.W.Frag) (bf : List (Str × String)) : Bool := bf.all fun p => He.eqO (PySem.W.nsIn K mainGlobals p.1) (some (some (.builtin p.2)))
abbrev AlB : Type := Bool × He.AlD
def obsB (bf : List (Str × String)) (fa : List He.Fa) (fn : List He.DefD) (K : PySem.W.Frag) : AlB := (bfOk K bf, He.obsD fa fn K)
def valB (fn : List He.DefD) : AlB := (true, He.valD fn)
def SaysB (bf : List (Str × String)) (fa : List He.Fa) (fn : List He.DefD) (K : PySem.W.Frag) : Prop := obsB bf fa fn K = valB fn
def obsBG (n : Nat) (bf : List (Str × String)) (fa : List He.Fa) (fn : List He.DefD) (g : Addr → Option Obj) : AlB := obsB bf fa fn (He.frG g (He.asD g n))
def hookB (n : Nat) (bf : List (Str × String)) (fa : List He.Fa) (fn : List He.DefD) : PySem.W.Hook where
  α := AlB
  obs := fun s => obsBG n bf fa fn s.heap.get?
  val := fun _ => valB fn
  says := fun _ h => ∃ K : PySem.W.Frag, K.In h ∧ SaysB bf fa fn K
  of := fun _ _ e => ⟨_, He.frG_in, e⟩
  keeps := fun _ _ _ ⟨K, hK, c⟩ k => ⟨K, PySem.W.Frag.In.keeps hK k, c⟩
theorem obsBG_eq {n : Nat} {bf : List (Str × String)} {fa : List He.Fa} {fn : List He.DefD} {g : Addr → Option Obj} {s : Shared} (h : ∀ a, g a = s.heap.get? a) : obsBG n bf fa fn g = (hookB n bf fa fn).obs s := by
  have e : g = s.heap.get? := funext h
  rw [e] <;> rfl
section
variable {bf : List (Str × String)} {fa : List He.Fa} {fn : List He.DefD} {K : PySem.W.Frag}
theorem SaysB.d (c : SaysB bf fa fn K) : He.SaysD fa fn K := congrArg (fun z : AlB => z.2) c
theorem SaysB.bfun (c : SaysB bf fa fn K) {h : Heap} {mg : Str → Option Value} (X : K.In h) (G : h.Ns mainGlobals mg) (i : Nat) {p : Str × String} (e : bf[i]? = some p := by rfl) : mg p.1 = some (.builtin p.2) := by
  have c1 : bfOk K bf = true := congrArg (fun z : AlB => z.1) c
  have c2 := List.all_eq_true.mp c1 p (List.mem_of_getElem? e)
  exact PySem.W.mg_of X G (He.eqO_ok c2)
end
/-! ### gcd(a, b) -/
def cGcd : DC := fun ds M Q => match ds with
  | [.int a, .int b] => Q (.int ((Nat.gcd a.natAbs b.natAbs : Nat) : Int)) M
  | _ => False
theorem ct_gcd : CallT rGcd cGcd := by
  intro M H F ds vs Q Qv m r q f
  unfold cGcd at q
  split at q
  · obtain ⟨v, w, rfl, h1, h2⟩ := rp2 r
    cases h1; cases h2
    exact ⟨_, _, rfl, f.here (d := .int _) m rfl q⟩
  · exact q.elim
/-! ### abs(a) -/
def cAbs : DC := fun ds M Q => match ds with
  | [.int a] => Q (.int (a.natAbs : Nat)) M
  | _ => False
theorem ct_abs : CallT (fun xs H Q => ∃ i, xs = [V.int i] ∧ Q (.int (if i < 0 then -i else i)) H) cAbs := by
  intro M H F ds vs Q Qv m r q f
  unfold cAbs at q
  split at q
  · rename_i a
    obtain ⟨v, rfl, h1⟩ := rp1 r
    cases h1
    have e : (if a < 0 then -a else a) = (a.natAbs : Int) := by split <;> omega
    exact ⟨_, rfl, f.here (d := .int _) m (by show V.int _ = V.int _; rw [e]) q⟩
  · exact q.elim

def topS (i : Nat) : Stmt := PySem.Challenge.pw_suretricks_k62_whole_counting_on.main.body.getD i (.Pass ⟨0, 0, 0, 0⟩)
def R_is_whole : Ct := fun ds M Q => ∃ d, ds = [d] ∧ (tyN d).isSome = true ∧ Q (.bl (wholeD d)) M
theorem len_is_whole : ∀ ds M Q, R_is_whole ds M Q → ds.length = ["value"].length := by
  rintro ds M Q ⟨d, rfl, _⟩; rfl
def R_is_count : Ct := fun ds M Q => ∃ d l, ds = [d, .int l] ∧ (tyN d).isSome = true ∧ Q (.bl (countD l d)) M
theorem len_is_count : ∀ ds M Q, R_is_count ds M Q → ds.length = ["value", "least"].length := by
  rintro ds M Q ⟨d, l, rfl, _⟩; rfl
def R_is_pack : Ct := fun ds M Q => ∃ (x : D) (ns : List Int), ds = [x] ∧ nrm M x = .lst (ns.map .int) ∧ PackOk ns ∧ Q (.bl true) M
theorem len_is_pack : ∀ ds M Q, R_is_pack ds M Q → ds.length = ["value"].length := by
  rintro ds M Q ⟨d, d', rfl, _⟩; rfl
def R_check_pack : Ct := fun ds M Q => ∃ (x : D) (ns : List Int), ds = [x] ∧ nrm M x = .lst (ns.map .int) ∧ PackOk ns ∧ Q .non M
theorem len_check_pack : ∀ ds M Q, R_check_pack ds M Q → ds.length = ["value"].length := by
  rintro ds M Q ⟨d, d', rfl, _⟩; rfl
def R_fraction : Ct := fun ds M Q => ∃ (a b : Nat), ds = [.int a, .int b] ∧ 0 < b ∧ a < 2 ^ 60 ∧ b < 2 ^ 60 ∧ Q (.tup [.int (a / Nat.gcd a b : Nat), .int (b / Nat.gcd a b : Nat)]) M
theorem len_fraction : ∀ ds M Q, R_fraction ds M Q → ds.length = ["above", "below"].length := by
  rintro ds M Q ⟨a, b, rfl, _⟩; rfl
def R_are_counts : Ct := fun ds M Q => ∃ (x : D) (ns : List Int), ds = [x] ∧ nrm M x = .lst (ns.map .int) ∧ (∀ k ∈ ns, 1 ≤ k) ∧ ns.length ≤ 16777216 ∧ Q (.bl true) M
theorem len_are_counts : ∀ ds M Q, R_are_counts ds M Q → ds.length = ["value"].length := by
  rintro ds M Q ⟨a, b, rfl, _⟩; rfl
def R_check_counts : Ct := fun ds M Q => ∃ (x : D) (ns : List Int), ds = [x] ∧ nrm M x = .lst (ns.map .int) ∧ (∀ k ∈ ns, 1 ≤ k) ∧ ns.length ≤ 16777216 ∧ Q .non M
theorem len_check_counts : ∀ ds M Q, R_check_counts ds M Q → ds.length = ["counts"].length := by
  rintro ds M Q ⟨a, b, rfl, _⟩; rfl
def R_check_start : Ct := fun ds M Q => ∃ (x : D) (ns : List Int) (p : Nat), ds = [x, .int p] ∧ nrm M x = .lst (ns.map .int) ∧ (∀ k ∈ ns, 1 ≤ k) ∧ ns.length ≤ 16777216 ∧ p < ns.length ∧ Q .non M
theorem len_check_start : ∀ ds M Q, R_check_start ds M Q → ds.length = ["counts", "start"].length := by
  rintro ds M Q ⟨a, b, c, rfl, _⟩; rfl
/-- the counted way from a place on -/
def wayGo (cs : List Int) : Nat → Nat → List Nat
  | 0, _ => []
  | t + 1, p => if p < cs.length then p :: wayGo cs t (p + (cs.getD p 0).toNat) else []
def wayI (cs : List Int) (p : Nat) : List Nat := wayGo cs cs.length p
theorem wayGo_fuel {cs : List Int} (h : ∀ k ∈ cs, 1 ≤ k) : ∀ (t t' p : Nat), cs.length ≤ t + p → cs.length ≤ t' + p → wayGo cs t p = wayGo cs t' p
  | 0, 0, _, _, _ => rfl
  | 0, t' + 1, p, h1, _ => by rw [wayGo, wayGo, if_neg (by omega)]
  | t + 1, 0, p, _, h2 => by rw [wayGo, wayGo, if_neg (by omega)]
  | t + 1, t' + 1, p, h1, h2 => by
    rw [wayGo, wayGo]
    by_cases c : p < cs.length
    · rw [if_pos c, if_pos c]
      have h3 : 1 ≤ cs.getD p 0 := by
        rw [List.getD_eq_getElem?_getD, List.getElem?_eq_getElem c]
        exact h _ (List.getElem_mem c)
      rw [wayGo_fuel h t t' _ (by omega) (by omega)]
    · rw [if_neg c, if_neg c]
theorem getD_pos {cs : List Int} (h : ∀ k ∈ cs, 1 ≤ k) {p : Nat} (c : p < cs.length) : 1 ≤ cs.getD p 0 := by
  rw [List.getD_eq_getElem?_getD, List.getElem?_eq_getElem c]
  exact h _ (List.getElem_mem c)
theorem way_unf {cs : List Int} (h : ∀ k ∈ cs, 1 ≤ k) {p : Nat} (c : p < cs.length) : wayI cs p = p :: (if p + (cs.getD p 0).toNat < cs.length then wayI cs (p + (cs.getD p 0).toNat) else []) := by
  have h3 := getD_pos h c
  obtain ⟨n, hn⟩ : ∃ n, cs.length = n + 1 := ⟨cs.length - 1, by omega⟩
  have e1 : wayI cs p = p :: wayGo cs n (p + (cs.getD p 0).toNat) := by
    unfold wayI
    rw [hn, wayGo, if_pos c]
  rw [e1]
  congr 1
  by_cases c2 : p + (cs.getD p 0).toNat < cs.length
  · rw [if_pos c2]
    exact wayGo_fuel h _ _ _ (by omega) (by omega)
  · rw [if_neg c2]
    cases n with
    | zero => rfl
    | succ n => rw [wayGo, if_neg c2]
def nD (l : List Nat) : List D := l.map fun (k : Nat) => D.int k
theorem nD_app {a b : List Nat} : nD (a ++ b) = nD a ++ nD b := List.map_append
theorem nD_len {a : List Nat} : (nD a).length = a.length := List.length_map _
theorem wayGo_len (cs : List Int) : ∀ t p, (wayGo cs t p).length ≤ t
  | 0, _ => Nat.le_refl _
  | t + 1, p => by
    rw [wayGo]
    split
    · have := wayGo_len cs t (p + (cs.getD p 0).toNat); rw [List.length_cons]; omega
    · simp
def R_way_there : Ct := fun ds M Q => ∃ (x : D) (cs : List Int) (p : Nat), ds = [x, .int p] ∧ nrm M x = .lst (cs.map .int) ∧ (∀ k ∈ cs, 1 ≤ k) ∧ cs.length ≤ 100000 ∧ p < cs.length ∧ ∀ a, M a = none → Q (.ref a) (M.set a (.lst (nD (wayI cs p))))
theorem len_way_there : ∀ ds M Q, R_way_there ds M Q → ds.length = ["counts", "start"].length := by
  rintro ds M Q ⟨a, b, c, rfl, _⟩; rfl
def R_way_from : Ct := R_way_there
theorem len_way_from : ∀ ds M Q, R_way_from ds M Q → ds.length = ["counts", "start"].length := len_way_there
/-- where a way ends -/
def endI (cs : List Int) (p : Nat) : Nat := (wayI cs p).getLastD 0
theorem end_unf {cs : List Int} (h : ∀ k ∈ cs, 1 ≤ k) {p : Nat} (c : p < cs.length) : endI cs p = if p + (cs.getD p 0).toNat < cs.length then endI cs (p + (cs.getD p 0).toNat) else p := by
  unfold endI
  rw [way_unf h c]
  split
  · rename_i c2
    rw [way_unf h c2]
    rfl
  · rfl
theorem end_lt {cs : List Int} (h : ∀ k ∈ cs, 1 ≤ k) : ∀ (t p : Nat), cs.length ≤ t + p → p < cs.length → endI cs p < cs.length
  | 0, p, h1, h2 => by omega
  | t + 1, p, h1, h2 => by
    rw [end_unf h h2]
    split
    · rename_i c
      exact end_lt h t _ (by have := getD_pos h h2; omega) c
    · exact h2
def endsI (cs : List Int) : List Nat := (List.range cs.length).map (endI cs)
def R_ends_there : Ct := fun ds M Q => ∃ (x : D) (cs : List Int), ds = [x] ∧ nrm M x = .lst (cs.map .int) ∧ (∀ k ∈ cs, 1 ≤ k) ∧ cs.length ≤ 100000 ∧ ∀ a, M a = none → Q (.ref a) (M.set a (.lst (nD (endsI cs))))
theorem len_ends_there : ∀ ds M Q, R_ends_there ds M Q → ds.length = ["counts"].length := by
  rintro ds M Q ⟨a, b, rfl, _⟩; rfl
def R_ends_of : Ct := R_ends_there
theorem len_ends_of : ∀ ds M Q, R_ends_of ds M Q → ds.length = ["counts"].length := len_ends_there
def comI (cs : List Int) (one other : Nat) : List Nat := (wayI cs other).filter fun k => decide (k ∈ wayI cs one)
def firstD : List Nat → D
  | [] => .non
  | k :: _ => .int k
theorem any_nD {l : List Nat} {k : Nat} : ((nD l).any fun z => deq z (.int (k : Int))) = decide (k ∈ l) := by
  induction l with
  | nil => rfl
  | cons a l ih =>
    show (deq (.int (a : Int)) (.int (k : Int)) || (nD l).any fun z => deq z (.int (k : Int))) = _
    rw [ih]
    have : deq (.int (a : Int)) (.int (k : Int)) = decide (k = a) := by
      simp only [deq, toPD, PyData.eqv]
      by_cases e : k = a
      · subst e; simp
      · have : ¬ ((a : Int) = (k : Int)) := by omega
        simp [e, this]
    rw [this]
    simp
theorem pdOk_nD {l : List Nat} : pdOk (.lst (nD l)) = true := by
  have : nD l = (l.map fun k : Nat => (k : Int)).map D.int := by unfold nD; rw [List.map_map]; rfl
  rw [this]; exact pdOk_ints
def R_first_common : Ct := fun ds M Q => ∃ (x : D) (cs : List Int) (one other : Nat), ds = [x, .int one, .int other] ∧ nrm M x = .lst (cs.map .int) ∧ (∀ k ∈ cs, 1 ≤ k) ∧ cs.length ≤ 100000 ∧ one < cs.length ∧ other < cs.length ∧ Q (firstD (comI cs one other)) M
theorem len_first_common : ∀ ds M Q, R_first_common ds M Q → ds.length = ["counts", "one", "other"].length := by
  rintro ds M Q ⟨a, b, c, d, rfl, _⟩; rfl
def R_check_starts : Ct := fun ds M Q => ∃ (x : D) (ns : List Int) (p : Nat), ds = [x, .int p] ∧ nrm M x = .lst (ns.map .int) ∧ (∀ k ∈ ns, 1 ≤ k) ∧ ns.length ≤ 16777216 ∧ 1 ≤ p ∧ p ≤ ns.length ∧ Q .non M
theorem len_check_starts : ∀ ds M Q, R_check_starts ds M Q → ds.length = ["counts", "starts"].length := by
  rintro ds M Q ⟨a, b, c, rfl, _⟩; rfl
def alikeN (cs : List Int) (k : Nat) : Nat := (((endsI cs).take k).map fun e => ((endsI cs).take k).count e).sum
theorem nD_ints {l : List Nat} : nD l = (l.map fun k : Nat => (k : Int)).map D.int := by unfold nD; rw [List.map_map]; rfl
theorem count_nat {l : List Nat} {k : Nat} : (l.map fun k : Nat => (k : Int)).count (k : Int) = l.count k := by
  induction l with
  | nil => rfl
  | cons a l ih =>
    rw [List.map_cons, List.count_cons, List.count_cons, ih]
    by_cases e : a = k
    · subst e; simp
    · have : ¬ ((a : Int) = (k : Int)) := by omega
      simp [e, this]
theorem sum_nat {l : List Nat} : (l.map fun k : Nat => (k : Int)).sum = (l.sum : Nat) := by
  induction l with
  | nil => rfl
  | cons a l ih => rw [List.map_cons, List.sum_cons, List.sum_cons, ih]; omega
theorem sum_count_le {l : List Nat} : ∀ m : List Nat, (m.map fun e => l.count e).sum ≤ m.length * l.length
  | [] => by simp
  | a :: m => by
    have := sum_count_le (l := l) m
    have h := List.count_le_length (a := a) (l := l)
    rw [List.map_cons, List.sum_cons, List.length_cons, Nat.succ_mul]
    omega
def R_alike_share : Ct := fun ds M Q => ∃ (x : D) (cs : List Int) (k : Nat), ds = [x, .int k] ∧ nrm M x = .lst (cs.map .int) ∧ (∀ k ∈ cs, 1 ≤ k) ∧ cs.length ≤ 1000 ∧ 1 ≤ k ∧ k ≤ cs.length ∧ Q (.tup [.int (alikeN cs k / Nat.gcd (alikeN cs k) (k * k) : Nat), .int (k * k / Nat.gcd (alikeN cs k) (k * k) : Nat)]) M
theorem len_alike_share : ∀ ds M Q, R_alike_share ds M Q → ds.length = ["counts", "starts"].length := by
  rintro ds M Q ⟨a, b, c, rfl, _⟩; rfl
def cpI (ns vs : List Int) : List Int := ns.map fun c => vs.getD (c % (vs.length : Int)).toNat 0
def R_counts_of_pack : Ct := fun ds M Q => ∃ (x y : D) (ns vs : List Int), ds = [x, y] ∧ nrm M x = .lst (ns.map .int) ∧ PackOk ns ∧ ns.length ≤ 100000 ∧ nrm M y = .lst (vs.map .int) ∧ (∀ k ∈ vs, 1 ≤ k) ∧ vs ≠ [] ∧ vs.length ≤ 100000 ∧ ∀ a, M a = none → Q (.ref a) (M.set a (.lst ((cpI ns vs).map .int)))
theorem len_counts_of_pack : ∀ ds M Q, R_counts_of_pack ds M Q → ds.length = ["pack", "values"].length := by
  rintro ds M Q ⟨a, b, c, d, rfl, _⟩; rfl
def R_law_purse (K : PySem.W.Frag) : Ct := fun ds M Q => ∃ (ns : List Int) (e : Int), ds = [.scr K (ns.map .int), .int e] ∧ (0 ≤ e ∧ e < 100) ∧ ∀ p xs, M p = none → PurseOk 0 xs → Q (.ref p) (M.set p (.lst xs))
theorem len_law_purse (K : PySem.W.Frag) : ∀ ds M Q, R_law_purse K ds M Q → ds.length = ["script", "at"].length := by
  rintro ds M Q ⟨ns, e, rfl, _⟩; rfl
def R_law_mixed : Ct := fun ds M Q => ∃ a b c : Int, ds = [.int a, .int b, .int c] ∧ (0 ≤ a ∧ a < 2147483629) ∧ (0 ≤ b ∧ b < 2 ^ 62) ∧ ∀ r : Int, 0 ≤ r → r < 2147483587 → Q (.int r) M
theorem len_law_mixed : ∀ ds M Q, R_law_mixed ds M Q → ds.length = ["seed", "spin", "at"].length := by
  rintro ds M Q ⟨a, b, c, rfl, _⟩; rfl
def R_law_draw : Ct := fun ds M Q => ∃ (p : Addr) (xs : List D) (m B : Int), ds = [.ref p, .int m] ∧ M p = some (.lst xs) ∧ PurseOk B xs ∧ B ≤ 2 ^ 60 ∧ 0 < m ∧ m < 2 ^ 83 ∧ ∀ (k : Int) (ys : List D), 0 ≤ k → k < m → PurseOk (B + 3) ys → Q (.int k) (M.set p (.lst ys))
theorem len_law_draw : ∀ ds M Q, R_law_draw ds M Q → ds.length = ["purse", "many"].length := by
  rintro ds M Q ⟨a, b, c, d, rfl, _⟩; rfl
def R_law_purses (K : PySem.W.Frag) : Ct := fun ds M Q => ∃ (ns : List Int) (e : Int), ds = [.scr K (ns.map .int), .int e] ∧ ns.length ≤ 63 ∧ (0 ≤ e ∧ e < 100) ∧
  ∀ (ps : List Addr) (M' : Mp), ps.length ≤ 99 → ps.Nodup → MLe M M' → (∀ p ∈ ps, M p = none ∧ ∃ xs, PurseOk 0 xs ∧ M' p = some (.lst xs)) → Q (.lst (ps.map .ref)) M'
theorem len_law_purses (K : PySem.W.Frag) : ∀ ds M Q, R_law_purses K ds M Q → ds.length = ["script", "few"].length := by
  rintro ds M Q ⟨ns, e, rfl, _⟩; rfl
def R_law_one_of : Ct := fun ds M Q => ∃ (p : Addr) (xs : List D) (B : Int) (ss : List D), ds = [.ref p, .lst ss] ∧ M p = some (.lst xs) ∧ PurseOk B xs ∧ B ≤ 2 ^ 60 ∧ 0 < ss.length ∧ ss.length < 2 ^ 60 ∧ ∀ (x : D) (ys : List D), x ∈ ss → PurseOk (B + 3) ys → Q x (M.set p (.lst ys))
theorem len_law_one_of : ∀ ds M Q, R_law_one_of ds M Q → ds.length = ["purse", "some"].length := by
  rintro ds M Q ⟨a, b, c, d, rfl, _⟩; rfl
def R_law_shuffled : Ct := fun ds M Q => ∃ (p : Addr) (xs : List D) (B : Int) (x : D) (ns : List Int), ds = [.ref p, x] ∧ M p = some (.lst xs) ∧ PurseOk B xs ∧ B ≤ 2 ^ 59 ∧ x ≠ .ref p ∧ nrm M x = .lst (ns.map .int) ∧ ns.length ≤ 10000 ∧
  ∀ (zs : List Int) (ys : List D), zs.Perm ns → PurseOk (B + 3 * ns.length) ys → Q (.lst (zs.map .int)) (M.set p (.lst ys))
theorem len_law_shuffled : ∀ ds M Q, R_law_shuffled ds M Q → ds.length = ["purse", "some"].length := by
  rintro ds M Q ⟨a, b, c, d, e, rfl, _⟩; rfl
def Rn_law_exact : Nat → Ct
  | 0 => fun _ _ _ => False
  | n + 1 => fun ds M Q => ∃ d, ds = [d, d] ∧ okD (n + 1) d = true ∧ Q (.bl true) M
abbrev R_law_exact := Rn_law_exact 8
theorem never_law_exact : ∀ ds M Q, ¬ Rn_law_exact 0 ds M Q := fun _ _ _ h => h
theorem len_law_exact : ∀ n ds M Q, Rn_law_exact n ds M Q → ds.length = ["mine", "theirs"].length
  | 0 => fun _ _ _ h => h.elim
  | _ + 1 => by rintro ds M Q ⟨d, rfl, _⟩; rfl
def R_law_way : Ct := R_way_there
theorem len_law_way : ∀ ds M Q, R_law_way ds M Q → ds.length = ["counts", "start"].length := len_way_there
def R_law_counts : Ct := fun ds M Q => ∃ (p : Addr) (xs : List D) (B : Int) (m : Nat), ds = [.ref p, .int m] ∧ M p = some (.lst xs) ∧ PurseOk B xs ∧ B ≤ 2 ^ 57 ∧ 1 ≤ m ∧ m ≤ 60 ∧
  ∀ (cs : List Int) (ys : List D), cs ≠ [] → cs.length ≤ m → (∀ k ∈ cs, 1 ≤ k ∧ k ≤ 10 ^ 12) → PurseOk (B + 200) ys → Q (.lst (cs.map .int)) (M.set p (.lst ys))
theorem len_law_counts : ∀ ds M Q, R_law_counts ds M Q → ds.length = ["purse", "most"].length := by
  rintro ds M Q ⟨a, b, c, d, rfl, _⟩; rfl
def R_law_part : Ct := fun ds M Q => ∃ (a b : Nat), ds = [.int a, .int b] ∧ 0 < b ∧ a < 2 ^ 60 ∧ b < 2 ^ 60 ∧ Q (.tup [.int (a / Nat.gcd a b : Nat), .int (b / Nat.gcd a b : Nat)]) M
theorem len_law_part : ∀ ds M Q, R_law_part ds M Q → ds.length = ["above", "below"].length := by
  rintro ds M Q ⟨a, b, rfl, _⟩; rfl
theorem cnt_ok : ∀ ns : List Int, (∀ x ∈ ns, 1 ≤ x ∧ x ≤ 10 ^ 12) → PyData.canLayAll0 (toPDs (ns.map .int)) = true ∧ PyData.depthAll (toPDs (ns.map .int)) ≤ 1 ∧ PyData.showableAll (toPDs (ns.map .int)) = true ∧ PyData.leavesShortAll 13 (toPDs (ns.map .int)) = true ∧ PyData.weightAll (toPDs (ns.map .int)) ≤ 60 * ns.length
  | [], _ => ⟨by simp [toPDs, PyData.canLayAll0], by simp [toPDs, PyData.depthAll], by simp [toPDs, PyData.showableAll], by simp [toPDs, PyData.leavesShortAll], by simp [toPDs, PyData.weightAll]⟩
  | x :: r, h => by
    obtain ⟨b1, b2, b3, b4, b5⟩ := cnt_ok r fun y hy => h y (List.mem_cons_of_mem _ hy)
    have hx := h x List.mem_cons_self
    obtain ⟨a1, a2, a3, a4, a5⟩ : (toPD (.int x)).canLay0 = true ∧ (toPD (.int x)).depth ≤ 1 ∧ (toPD (.int x)).showable = true ∧ (toPD (.int x)).leavesShort 13 = true ∧ (toPD (.int x)).weight ≤ 59 := by
      by_cases c : x.natAbs < 10 ^ 12
      · obtain ⟨a1, a2, a3, a4, a5⟩ := sml_ok 1 (.int x) (by simp only [sml]; exact decide_eq_true c)
        exact ⟨a1, a2, a3, a4, Nat.le_trans a5 (by simp only [cst]; omega)⟩
      · have : x = 10 ^ 12 := by omega
        subst this
        exact ⟨by decide +kernel, by decide +kernel, by decide +kernel, by decide +kernel, by decide +kernel⟩
    refine ⟨by simp [List.map_cons, toPDs, PyData.canLayAll0, a1, b1], by simp only [List.map_cons, toPDs, PyData.depthAll]; omega, by simp [List.map_cons, toPDs, PyData.showableAll, a3, b3], by simp [List.map_cons, toPDs, PyData.leavesShortAll, a4, b4], by simp only [List.map_cons, toPDs, PyData.weightAll, List.length_cons]; omega⟩
theorem repOk_cnt {ns : List Int} (h : ∀ x ∈ ns, 1 ≤ x ∧ x ≤ 10 ^ 12) (l : ns.length ≤ 1000) : repOk (.lst (ns.map .int)) = true := by
  obtain ⟨h1, h2, h3, h4, h5⟩ := cnt_ok ns h
  have a1 : (toPD (.lst (ns.map .int))).canLay0 = true := by simpa [toPD, PyData.canLay0] using h1
  have a2 : (toPD (.lst (ns.map .int))).depth ≤ 2 := by simp only [toPD, PyData.depth]; omega
  have a3 : (toPD (.lst (ns.map .int))).showable = true := by simpa [toPD, PyData.showable] using h3
  have a4 : (toPD (.lst (ns.map .int))).leavesShort 13 = true := by simpa [toPD, PyData.leavesShort] using h4
  have a5 : (toPD (.lst (ns.map .int))).weight ≤ 1 + 60 * ns.length := by simp only [toPD, PyData.weight]; omega
  unfold repOk pdOk SeqAt.shaped
  simp only [Bool.and_eq_true, decide_eq_true_eq]
  exact ⟨⟨a1, by omega⟩, a3, PyData.shown_fits (B := 13) (by decide) (by decide) a4 (by omega)⟩
theorem wayGo_inc {cs : List Int} (h : ∀ k ∈ cs, 1 ≤ k) : ∀ (t p : Nat), (wayGo cs t p).Pairwise (· < ·) ∧ ∀ x ∈ wayGo cs t p, p ≤ x
  | 0, p => ⟨.nil, by simp [wayGo]⟩
  | t + 1, p => by
    rw [wayGo]
    split
    · rename_i c
      obtain ⟨i1, i2⟩ := wayGo_inc h t (p + (cs.getD p 0).toNat)
      have := getD_pos h c
      refine ⟨List.pairwise_cons.mpr ⟨fun x hx => by have := i2 x hx; omega, i1⟩, fun x hx => ?_⟩
      rcases List.mem_cons.mp hx with rfl | hx
      · exact Nat.le_refl _
      · have := i2 x hx; omega
    · exact ⟨.nil, by simp⟩
theorem srtN_eq : ∀ {a b : List Nat}, a.Pairwise (· < ·) → b.Pairwise (· < ·) → (∀ k, k ∈ a ↔ k ∈ b) → a = b
  | [], b, _, _, h => by
    cases b with
    | nil => rfl
    | cons y b => exact absurd ((h y).mpr List.mem_cons_self) List.not_mem_nil
  | x :: a, [], _, _, h => absurd ((h x).mp List.mem_cons_self) List.not_mem_nil
  | x :: a, y :: b, ha, hb, h => by
    obtain ⟨a1, a2⟩ := List.pairwise_cons.mp ha
    obtain ⟨b1, b2⟩ := List.pairwise_cons.mp hb
    have e : x = y := by
      have h1 := (h x).mp List.mem_cons_self
      have h2 := (h y).mpr List.mem_cons_self
      rcases List.mem_cons.mp h1 with z | z
      · exact z
      · rcases List.mem_cons.mp h2 with w | w
        · exact w.symm
        · have := a1 y w; have := b1 x z; omega
    subst e
    rw [srtN_eq a2 b2 fun k => ⟨fun hk => ?_, fun hk => ?_⟩]
    · rcases List.mem_cons.mp ((h k).mp (List.mem_cons_of_mem _ hk)) with z | z
      · have := a1 k hk; omega
      · exact z
    · rcases List.mem_cons.mp ((h k).mpr (List.mem_cons_of_mem _ hk)) with z | z
      · have := b1 k hk; omega
      · exact z
theorem com_comm {cs : List Int} (h : ∀ k ∈ cs, 1 ≤ k) (a b : Nat) : comI cs a b = comI cs b a := by
  unfold comI wayI
  refine srtN_eq ((wayGo_inc h _ _).1.filter _) ((wayGo_inc h _ _).1.filter _) fun k => ?_
  rw [List.mem_filter, List.mem_filter, decide_eq_true_eq, decide_eq_true_eq]
  exact and_comm
theorem way_ne {cs : List Int} (h : ∀ k ∈ cs, 1 ≤ k) {p : Nat} (c : p < cs.length) : ∃ pre, wayI cs p = pre ++ [endI cs p] := by
  have hn : wayI cs p ≠ [] := by rw [way_unf h c]; simp
  refine ⟨(wayI cs p).dropLast, ?_⟩
  have e : endI cs p = (wayI cs p).getLast hn := by
    unfold endI
    rw [List.getLastD_eq_getLast?, List.getLast?_eq_some_getLast hn]; rfl
  rw [e]
  exact (List.dropLast_concat_getLast hn).symm
theorem mem_end {cs : List Int} (h : ∀ k ∈ cs, 1 ≤ k) : ∀ (t p x : Nat), cs.length ≤ t + p → p < cs.length → x ∈ wayI cs p → endI cs x = endI cs p
  | 0, p, x, h1, h2, _ => by omega
  | t + 1, p, x, h1, h2, hx => by
    rw [way_unf h h2] at hx
    rcases List.mem_cons.mp hx with rfl | hx
    · rfl
    · rw [end_unf h h2]
      split at hx
      · rename_i c
        rw [if_pos c]
        exact mem_end h t _ x (by have := getD_pos h h2; omega) c hx
      · simp at hx
theorem com_end {cs : List Int} (h : ∀ k ∈ cs, 1 ≤ k) {a b : Nat} (ha : a < cs.length) (hb : b < cs.length) : comI cs a b = [] ↔ endI cs a ≠ endI cs b := by
  constructor
  · intro e he
    obtain ⟨p1, e1⟩ := way_ne h ha
    obtain ⟨p2, e2⟩ := way_ne h hb
    have : endI cs b ∈ comI cs a b := by
      unfold comI
      rw [List.mem_filter, decide_eq_true_eq]
      refine ⟨by rw [e2]; simp, ?_⟩
      rw [e1, he]; simp
    rw [e] at this
    simp at this
  · intro he
    cases hc : comI cs a b with
    | nil => rfl
    | cons x l =>
      have hx : x ∈ comI cs a b := by rw [hc]; simp
      unfold comI at hx
      rw [List.mem_filter, decide_eq_true_eq] at hx
      exact absurd ((mem_end h cs.length a x (by omega) ha hx.2).symm.trans (mem_end h cs.length b x (by omega) hb hx.1)) he
def isNonD : D → Bool
  | .non => true
  | _ => false
theorem rngD_nat {n : Nat} : rngD 0 1 n = (List.range n).map fun k : Nat => D.int (k : Int) := by
  rw [rngD_ints]
  unfold rngI
  rw [List.map_map]
  exact List.map_congr_left fun k _ => by show D.int (0 + (k : Int) * 1) = _; rw [show (0 : Int) + (k : Int) * 1 = k by omega]
def R_law_case_right : Ct := fun ds M Q => ∃ (p : Addr) (xs : List D) (B : Int), ds = [.ref p] ∧ M p = some (.lst xs) ∧ PurseOk B xs ∧ B ≤ 2 ^ 56 ∧ ∀ ys, PurseOk (B + 300) ys → Q (.bl true) (M.set p (.lst ys))
theorem len_law_case_right : ∀ ds M Q, R_law_case_right ds M Q → ds.length = ["purse"].length := by
  rintro ds M Q ⟨a, b, c, rfl, _⟩; rfl
def R_law_pack_right : Ct := fun ds M Q => ∃ (p : Addr) (xs : List D) (B : Int), ds = [.ref p] ∧ M p = some (.lst xs) ∧ PurseOk B xs ∧ B ≤ 2 ^ 56 ∧ ∀ ys, PurseOk (B + 500) ys → Q (.bl true) (M.set p (.lst ys))
theorem len_law_pack_right : ∀ ds M Q, R_law_pack_right ds M Q → ds.length = ["purse"].length := by
  rintro ds M Q ⟨a, b, c, rfl, _⟩; rfl
def R_law (K : PySem.W.Frag) : Ct := fun ds M Q => ∃ ns : List Int, ds = [.scr K (ns.map .int)] ∧ ns.length ≤ 63 ∧ ∀ M', Q (.bl true) M'
theorem len_law (K : PySem.W.Frag) : ∀ ds M Q, R_law K ds M Q → ds.length = ["script"].length := by
  rintro ds M Q ⟨ns, rfl, _⟩; rfl
theorem x_way (cs : List Int) (p : Nat) (r : List Nat) {ds : List D} {M : Mp} {Q : DK} (e : ds = [.lst (cs.map .int), .int p]) (hc : ∀ k ∈ cs, 1 ≤ k) (hl : cs.length ≤ 100000) (hp : p < cs.length) (hv : wayI cs p = r) (q : Q (.lst (nD r)) M) : R_way_from ds M (wFrzK Q) :=
  ⟨_, cs, p, e, rfl, hc, hl, hp, fun a ha => frz_new ha (by rw [hv]; exact q)⟩
theorem x_ends (cs : List Int) (r : List Nat) {ds : List D} {M : Mp} {Q : DK} (e : ds = [.lst (cs.map .int)]) (hc : ∀ k ∈ cs, 1 ≤ k) (hl : cs.length ≤ 100000) (hv : endsI cs = r) (q : Q (.lst (nD r)) M) : R_ends_of ds M (wFrzK Q) :=
  ⟨_, cs, e, rfl, hc, hl, fun a ha => frz_new ha (by rw [hv]; exact q)⟩
theorem x_com (cs : List Int) (a b : Nat) (r : List Nat) {ds : List D} {M : Mp} {Q : DK} (e : ds = [.lst (cs.map .int), .int a, .int b]) (hc : ∀ k ∈ cs, 1 ≤ k) (hl : cs.length ≤ 100000) (ha : a < cs.length) (hb : b < cs.length) (hv : comI cs a b = r) (q : Q (firstD r) M) : R_first_common ds M Q :=
  ⟨_, cs, a, b, e, rfl, hc, hl, ha, hb, by rw [hv]; exact q⟩
theorem x_al (cs : List Int) (k u v : Nat) {ds : List D} {M : Mp} {Q : DK} (e : ds = [.lst (cs.map .int), .int k]) (hc : ∀ k ∈ cs, 1 ≤ k) (hl : cs.length ≤ 1000) (h1 : 1 ≤ k) (h2 : k ≤ cs.length) (hv : alikeN cs k / Nat.gcd (alikeN cs k) (k * k) = u ∧ k * k / Nat.gcd (alikeN cs k) (k * k) = v) (q : Q (.tup [.int u, .int v]) M) : R_alike_share ds M Q :=
  ⟨_, cs, k, e, rfl, hc, hl, h1, h2, by rw [hv.1, hv.2]; exact q⟩
theorem x_cp (ns vs r : List Int) {ds : List D} {M : Mp} {Q : DK} (e : ds = [.lst (ns.map .int), .lst (vs.map .int)]) (hn : PackOk ns) (hl : ns.length ≤ 100000) (hv : ∀ k ∈ vs, 1 ≤ k) (hne : vs ≠ []) (hvl : vs.length ≤ 100000) (hr : cpI ns vs = r) (q : Q (.lst (r.map .int)) M) : R_counts_of_pack ds M (wFrzK Q) :=
  ⟨_, _, ns, vs, e, rfl, hn, hl, rfl, hv, hne, hvl, fun a ha => frz_new ha (by rw [hr]; exact q)⟩
theorem v1 : wayI [2, 1, 3, 1, 1, 2] 0 = [0, 2, 5] := by decide +kernel
theorem v2 : endsI [2, 1, 3, 1, 1, 2] = [5, 5, 5, 5, 5, 5] := by decide +kernel
theorem v3 : comI [2, 1, 3, 1, 1, 2] 0 1 = [2, 5] := by decide +kernel
theorem v4 : alikeN [2, 1, 3, 1, 1, 2] 4 / Nat.gcd (alikeN [2, 1, 3, 1, 1, 2] 4) (4 * 4) = 1 ∧ 4 * 4 / Nat.gcd (alikeN [2, 1, 3, 1, 1, 2] 4) (4 * 4) = 1 := by decide +kernel
theorem v5 : cpI [0, 5, 14] [1, 2, 3] = [1, 3, 3] := by decide +kernel
theorem v6 : comI [2, 2] 0 1 = [] := by decide +kernel
theorem v7 : alikeN [2, 2, 1, 1] 2 / Nat.gcd (alikeN [2, 2, 1, 1] 2) (2 * 2) = 1 ∧ 2 * 2 / Nat.gcd (alikeN [2, 2, 1, 1] 2) (2 * 2) = 1 := by decide +kernel
theorem v8 : wayI [100000000000] 0 = [0] := by decide +kernel
theorem v9 : alikeN [2, 2] 2 / Nat.gcd (alikeN [2, 2] 2) (2 * 2) = 1 ∧ 2 * 2 / Nat.gcd (alikeN [2, 2] 2) (2 * 2) = 2 := by decide +kernel
theorem v10 : alikeN [2, 2, 1] 3 / Nat.gcd (alikeN [2, 2, 1] 3) (3 * 3) = 5 ∧ 3 * 3 / Nat.gcd (alikeN [2, 2, 1] 3) (3 * 3) = 9 := by decide +kernel
section
variable {P : Program} {w : World} {K : PySem.W.Frag} {mg : Str → Option Value} {base : Heap}
abbrev s_is_whole : Stmt := topS 2
theorem sc_is_whole : FnScope ["value"] ["value"] (defScope s_is_whole) := ⟨rfl, rfl, rfl, by decide +kernel, rfl, by decide +kernel, by decide +kernel⟩
theorem ok_is_whole {f : Addr} {fd : FuncData} (F : FnP K "is_whole" s_is_whole [] f fd)
    (m_isinstance : mg "isinstance" = none)
    (m_int : mg "int" = none)
    (m_bool : mg "bool" = none) :
    FnG P w K mg base 1 f fd ["value"] (spD R_is_whole) := by
  have nd := sc_is_whole.nd
  refine fnD (k := 0) F sc_is_whole len_is_whole fun cdv A outer s H E hr hq => ?_
  have hu := hu_of hr
  have hr65 := room65 hr
  have hr66 := room66 hr
  refine ⟨_, _, pss_one (ps_ret (pe_and (pe_callB call_isiA (by rfl) m_isinstance (by decide +kernel) (pa_cons (pv 0) (pa_cons (pe_bltn (v := .ty "int") (by rfl) m_int (by decide +kernel) rfl) (pa_nil)))) (pe_one (pe_not (pe_callB call_isiA (by rfl) m_isinstance (by decide +kernel) (pa_cons (pv 0) (pa_cons (pe_bltn (v := .ty "bool") (by rfl) m_bool (by decide +kernel) rfl) (pa_nil)))))))),
    ts_ret (tr_and (tr_cb ct_isi (ta_cons (tr_var (i := 0)) (ta_cons (tr_ty) (ta_nil)))) (tr_not (tr_cb ct_isi (ta_cons (tr_var (i := 0)) (ta_cons (tr_ty) (ta_nil)))))), ?_⟩
  rintro ds M Q ⟨d, rfl, h, q⟩
  cases d <;> first | cases h | skip
  all_goals (simp only [sSeq, sRet, sRetN, sIf, sDrop, sNever, sNext, sBreak, sCont, sAsg, sPar, sPar3, sAug, dName, dNil, dCons, dTup, dSub, sSetL, wVar, wC, wFrz, wFrzK, wOp, wAdd, nAdd, nI, nI0, wMul, nMul, wNeg, wEq, nEq, wIsN, wB, wAndT, wOrT, wNotT, wAndV, wOrV, wNotV, wIfE, wChain, aNil, aCons, aStar, wLst, wTup, wIx, nIx, pNo, pSo, wSl, wRev, wRevE, mIndex, wLenSet, cRepr, wIsB, wCB, cLen, cAll, cSum, cMax, cMin, cSorted, cInt, cList, cTuple, cIsi, wBits, wLRg, wBM, wBM0, mChg, wDGet, wDIn, wDNew, sDPutD, wIn, nIn, wCall, wCallK, wNew, tYesD, startD, List.map_cons, List.map_nil, List.length_cons, List.length_nil, List.replicate, Nat.sub_self, List.append_nil, List.cons_append, List.nil_append, List.getElem?_cons_zero, List.getElem?_cons_succ, List.set_cons_zero, List.set_cons_succ, Nat.reduceSub, Nat.reduceAdd, ite_true, ite_false, if_true, if_false, Bool.false_eq_true, Bool.true_eq_false, Bool.not_true, Bool.not_false, Option.some.injEq, nrm_non, nrm_bl, nrm_int, nrm_str, nrm_ty, nrm_lst, nrm_tupC, nrm_dct, nrm_scr, nrm_setL, wFgt, tyN_non, tyN_bl, tyN_int, tyN_str, tyN_lst, tyN_tup, tyN_dct, keyD_int, keyD_str, isA, okT, beq_self_eq_true, String.reduceBEq, Bool.or_false, Bool.or_true, Bool.and_false, Bool.and_true, Bool.true_or, Bool.false_or, Bool.true_and, Bool.false_and, true_and, and_true, List.any_cons, List.any_nil, tyNames, Option.map_some, iRn1, iRn2, iRn3, iLst, nIt, iTp, iEn, iZp, iSt, wipeD, atI0, atI1, atI2, atI3, ixN0, ixN1, ixN2, ixN3, wSub, wLt, wLe, wGt, wGe, wDiv, wMod, wPow, wShl, Mp.set_same, Mp.set_set, cSortedA, cDictP, wNewD, wEqS, nEqS, wFrzT, mExt, mCnt, nIxL, sAugS, wSlS, wJoin, cSumL, dUnl, cSortLL, cMinLL, wLenSetT, wLenDictT, mIndexB, wLenSetJ, wAddT, wSortSet, wDNewT, sDPutT, cSortDT, wBMd, wDGet1, wDGet2, mUpd, wPairs, wDisp, wLtS, cMinS, cListD, cGcd, cAbs]; exact q)
abbrev s_fraction : Stmt := topS 12
theorem sc_fraction : FnScope ["above", "below", "many"] ["above", "below"] (defScope s_fraction) := ⟨rfl, rfl, rfl, by decide +kernel, rfl, by decide +kernel, by decide +kernel⟩
theorem ok_fraction {f : Addr} {fd : FuncData} (F : FnP K "fraction" s_fraction [] f fd)
    (m_gcd : mg "gcd" = some (.builtin "math.gcd")) :
    FnG P w K mg base 1 f fd ["above", "below"] (spD R_fraction) := by
  have nd := sc_fraction.nd
  refine fnD (k := 0) F sc_fraction len_fraction fun cdv A outer s H E hr hq => ?_
  have hu := hu_of hr
  have hr65 := room65 hr
  have hr66 := room66 hr
  refine ⟨_, _, pss_cons (ps_set (i := 2) nd rfl (by first | exact .inl rfl | exact .inr rfl) (pe_ifExp (pt_cmpR (op_gt) (pv 1) (pe_int) (nomark _)) (pe_callBfun cr_gcd (by rfl) m_gcd (pa_cons (pv 0) (pa_cons (pv 1) (pa_nil)))) (pe_op op_sub (pe_int) (pe_callBfun cr_gcd (by rfl) m_gcd (pa_cons (pv 0) (pa_cons (pv 1) (pa_nil)))))))
      (pss_one (ps_ret (pe_tup (pa_cons (pe_op op_fdivW (pv 0) (pv 2)) (pa_cons (pe_op op_fdivW (pv 1) (pv 2)) (pa_nil)))))),
    ts_seq (ts_asg (tr_if (tt_test (tr_op ot_gt (tr_var (i := 1)) (tr_int))) (tr_cb ct_gcd (ta_cons (tr_var (i := 0)) (ta_cons (tr_var (i := 1)) (ta_nil)))) (tr_op (ot_sub) (tr_int) (tr_cb ct_gcd (ta_cons (tr_var (i := 0)) (ta_cons (tr_var (i := 1)) (ta_nil)))))) (tg_name (i := 2)))
      (ts_ret (tr_tup (ta_cons (tr_op (ot_div) (tr_var (i := 0)) (tr_var (i := 2))) (ta_cons (tr_op (ot_div) (tr_var (i := 1)) (tr_var (i := 2))) (ta_nil))))), ?_⟩
  rintro ds M Q ⟨a, b, rfl, hb, ha2, hb2, q⟩
  have e : decide ((0 : Int) < (b : Int)) = true := decide_eq_true (by omega)
  ((try simp only [sSeq]); simp only [sRet, sRetN, sIf, sDrop, sNever, sNext, sBreak, sCont, sAsg, sPar, sPar3, sAug, dName, dNil, dCons, dTup, dSub, sSetL, wVar, wC, wFrz, wFrzK, wOp, wAdd, nAdd, nI, nI0, wMul, nMul, wNeg, wEq, nEq, wIsN, wB, wAndT, wOrT, wNotT, wAndV, wOrV, wNotV, wIfE, wChain, aNil, aCons, aStar, wLst, wTup, wIx, nIx, pNo, pSo, wSl, wRev, wRevE, mIndex, wLenSet, cRepr, wIsB, wCB, cLen, cAll, cSum, cMax, cMin, cSorted, cInt, cList, cTuple, cIsi, wBits, wLRg, wBM, wBM0, mChg, wDGet, wDIn, wDNew, sDPutD, wIn, nIn, wCall, wCallK, wNew, tYesD, startD, List.map_cons, List.map_nil, List.length_cons, List.length_nil, List.replicate, Nat.sub_self, List.append_nil, List.cons_append, List.nil_append, List.getElem?_cons_zero, List.getElem?_cons_succ, List.set_cons_zero, List.set_cons_succ, Nat.reduceSub, Nat.reduceAdd, ite_true, ite_false, if_true, if_false, Bool.false_eq_true, Bool.true_eq_false, Bool.not_true, Bool.not_false, Option.some.injEq, nrm_non, nrm_bl, nrm_int, nrm_str, nrm_ty, nrm_lst, nrm_tupC, nrm_dct, nrm_scr, nrm_setL, wFgt, tyN_non, tyN_bl, tyN_int, tyN_str, tyN_lst, tyN_tup, tyN_dct, keyD_int, keyD_str, isA, okT, beq_self_eq_true, String.reduceBEq, Bool.or_false, Bool.or_true, Bool.and_false, Bool.and_true, Bool.true_or, Bool.false_or, Bool.true_and, Bool.false_and, true_and, and_true, List.any_cons, List.any_nil, tyNames, Option.map_some, iRn1, iRn2, iRn3, iLst, nIt, iTp, iEn, iZp, iSt, wipeD, atI0, atI1, atI2, atI3, ixN0, ixN1, ixN2, ixN3, wSub, wLt, wLe, wGt, wGe, wDiv, wMod, wPow, wShl, Mp.set_same, Mp.set_set, cSortedA, cDictP, wNewD, wEqS, nEqS, wFrzT, mExt, mCnt, nIxL, sAugS, wSlS, wJoin, cSumL, dUnl, cSortLL, cMinLL, wLenSetT, wLenDictT, mIndexB, wLenSetJ, wAddT, wSortSet, wDNewT, sDPutT, cSortDT, wBMd, wDGet1, wDGet2, mUpd, wPairs, wDisp, wLtS, cMinS, cListD, cGcd, cAbs, e])
  have hg : 0 < Nat.gcd a b := Nat.gcd_pos_of_pos_right a hb
  have hgl : Nat.gcd a b ≤ b := Nat.le_of_dvd hb (Nat.gcd_dvd_right a b)
  rw [Int.natAbs_natCast, Int.natAbs_natCast]
  refine ⟨⟨by omega, .inl (by omega)⟩, ⟨by omega, .inl (by omega)⟩, (by first | omega | (unfold Sz; omega) | (simp only [List.length_map, List.length_append, List.length_cons, List.length_nil, rngI_length, List.length_take, List.length_drop, List.length_reverse]; unfold Sz; omega)), ?_⟩
  rw [← Int.natCast_ediv, ← Int.natCast_ediv]
  exact q
abbrev s_way_there : Stmt := topS 22
theorem sc_way_there : FnScope ["counts", "start", "found"] ["counts", "start"] (defScope s_way_there) := ⟨rfl, rfl, rfl, by decide +kernel, rfl, by decide +kernel, by decide +kernel⟩
theorem ok_way_there {f : Addr} {fd : FuncData} (F : FnP K "way_there" s_way_there [] f fd)
    (m_len : mg "len" = none) :
    FnG P w K mg base 1 f fd ["counts", "start"] (spD R_way_there) := by
  have nd := sc_way_there.nd
  refine fnD (k := 0) F sc_way_there len_way_there fun cdv A outer s H E hr hq => ?_
  have hu := hu_of hr
  have hr65 := room65 hr
  have hr66 := room66 hr
  refine ⟨_, _, pss_cons (ps_set (i := 2) nd rfl (by first | exact .inl rfl | exact .inr rfl) (pe_lst (pa_cons (pv 1) (pa_nil))))
      (pss_cons (ps_while PassesOwn.never (pt_cmpR (op_lt) (pe_op op_addA (pe_ix ix_seq (pv 2) (pe_un un_neg (pe_int)) (fun _ _ => rfl)) (pe_ix ix_seq (pv 0) (pe_ix ix_seq (pv 2) (pe_un un_neg (pe_int)) (fun _ _ => rfl)) (fun _ _ => rfl))) (pe_callB call_lenA (by rfl) m_len (by decide +kernel) (pa_cons (pv 0) (pa_nil))) (nomark _)) (pss_one (ps_expr (pe_bm PySem.F.plainAttrs_list PySem.F.slot_list_append PySem.F.type_list_append mt_append (pv 2) (pa_cons (pe_op op_addA (pe_ix ix_seq (pv 2) (pe_un un_neg (pe_int)) (fun _ _ => rfl)) (pe_ix ix_seq (pv 0) (pe_ix ix_seq (pv 2) (pe_un un_neg (pe_int)) (fun _ _ => rfl)) (fun _ _ => rfl))) (pa_nil))))))
      (pss_one (ps_ret (pv 2)))),
    ts_seq (ts_asg (tr_lst (md := .own) (ta_cons (tr_var (i := 1)) (ta_nil))) (tg_name (i := 2)))
      (ts_seq (ts_while (tt_test (tr_op ot_lt (tr_op (ot_add (K := K) (md := .frz)) (tr_op ot_ix (tr_var (i := 2)) (tr_neg (tr_int))) (tr_op ot_ix (tr_var (i := 0)) (tr_op ot_ix (tr_var (i := 2)) (tr_neg (tr_int))))) (tr_cb ct_len (ta_cons (tr_var (i := 0)) (ta_nil))))) (ts_drop (tr_bm mt_appendD (tr_var (i := 2)) (ta_cons (tr_op (ot_add (K := K) (md := .frz)) (tr_op ot_ix (tr_var (i := 2)) (tr_neg (tr_int))) (tr_op ot_ix (tr_var (i := 0)) (tr_op ot_ix (tr_var (i := 2)) (tr_neg (tr_int))))) (ta_nil)))))
      (ts_ret (tr_var (i := 2)))), ?_⟩
  rintro ds M Q ⟨x, cs, p, rfl, hx, hc, hl, hp, q⟩
  ((try simp only [sSeq]); simp only [sRet, sRetN, sIf, sDrop, sNever, sNext, sBreak, sCont, sAsg, sPar, sPar3, sAug, dName, dNil, dCons, dTup, dSub, sSetL, wVar, wC, wFrz, wFrzK, wOp, wAdd, nAdd, nI, nI0, wMul, nMul, wNeg, wEq, nEq, wIsN, wB, wAndT, wOrT, wNotT, wAndV, wOrV, wNotV, wIfE, wChain, aNil, aCons, aStar, wLst, wTup, wIx, nIx, pNo, pSo, wSl, wRev, wRevE, mIndex, wLenSet, cRepr, wIsB, wCB, cLen, cAll, cSum, cMax, cMin, cSorted, cInt, cList, cTuple, cIsi, wBits, wLRg, wBM, wBM0, mChg, wDGet, wDIn, wDNew, sDPutD, wIn, nIn, wCall, wCallK, wNew, tYesD, startD, List.map_cons, List.map_nil, List.length_cons, List.length_nil, List.replicate, Nat.sub_self, List.append_nil, List.cons_append, List.nil_append, List.getElem?_cons_zero, List.getElem?_cons_succ, List.set_cons_zero, List.set_cons_succ, Nat.reduceSub, Nat.reduceAdd, ite_true, ite_false, if_true, if_false, Bool.false_eq_true, Bool.true_eq_false, Bool.not_true, Bool.not_false, Option.some.injEq, nrm_non, nrm_bl, nrm_int, nrm_str, nrm_ty, nrm_lst, nrm_tupC, nrm_dct, nrm_scr, nrm_setL, wFgt, tyN_non, tyN_bl, tyN_int, tyN_str, tyN_lst, tyN_tup, tyN_dct, keyD_int, keyD_str, isA, okT, beq_self_eq_true, String.reduceBEq, Bool.or_false, Bool.or_true, Bool.and_false, Bool.and_true, Bool.true_or, Bool.false_or, Bool.true_and, Bool.false_and, true_and, and_true, List.any_cons, List.any_nil, tyNames, Option.map_some, iRn1, iRn2, iRn3, iLst, nIt, iTp, iEn, iZp, iSt, wipeD, atI0, atI1, atI2, atI3, ixN0, ixN1, ixN2, ixN3, wSub, wLt, wLe, wGt, wGe, wDiv, wMod, wPow, wShl, Mp.set_same, Mp.set_set, cSortedA, cDictP, wNewD, wEqS, nEqS, wFrzT, mExt, mCnt, nIxL, sAugS, wSlS, wJoin, cSumL, dUnl, cSortLL, cMinLL, wLenSetT, wLenDictT, mIndexB, wLenSetJ, wAddT, wSortSet, wDNewT, sDPutT, cSortDT, wBMd, wDGet1, wDGet2, mUpd, wPairs, wDisp, wLtS, cMinS, cListD, cGcd, cAbs])
  refine ⟨(by first | omega | (unfold Sz; omega) | (simp only [List.length_map, List.length_append, List.length_cons, List.length_nil, rngI_length, List.length_take, List.length_drop, List.length_reverse]; unfold Sz; omega)), fun r hr => ?_⟩
  refine ⟨fun m ρ M' => ∃ (pre : List Nat) (a : Nat), ρ = [some x, some (.int p), some (.ref r)] ∧ M' = M.set r (.lst (nD (pre ++ [a]))) ∧ a < cs.length ∧ a + m = cs.length ∧ pre.length ≤ a ∧ pre ++ wayI cs a = wayI cs p,
    ⟨cs.length - p, [], p, rfl, rfl, hp, by omega, by simp, rfl⟩, ?_⟩
  rintro m ρ M' ⟨pre, a, rfl, rfl, ha, hm, hpl, hg⟩
  have hr2 : (M.set r (.lst (nD (pre ++ [a])))) r = some (.lst (nD (pre ++ [a]))) := Mp.set_same
  have hx2 := nrm_set (m := .lst (nD (pre ++ [a]))) hx rfl hr
  have hlast : atI (nD (pre ++ [a])) (-1) = some (.int a) := by rw [nD_app]; exact atI_lastL
  have hat : atI (cs.map D.int) (a : Int) = some (.int (cs.getD a 0)) := by rw [atI_int (by omega) (by omega), Int.toNat_natCast]
  have hpos := getD_pos hc ha
  obtain ⟨v, hv⟩ : ∃ v : Nat, cs.getD a 0 = (v : Int) := ⟨(cs.getD a 0).toNat, by omega⟩
  rw [way_unf hc ha, hv, Int.toNat_natCast] at hg
  rw [hv] at hat
  ((try simp only [sSeq]); simp only [sRet, sRetN, sIf, sDrop, sNever, sNext, sBreak, sCont, sAsg, sPar, sPar3, sAug, dName, dNil, dCons, dTup, dSub, sSetL, wVar, wC, wFrz, wFrzK, wOp, wAdd, nAdd, nI, nI0, wMul, nMul, wNeg, wEq, nEq, wIsN, wB, wAndT, wOrT, wNotT, wAndV, wOrV, wNotV, wIfE, wChain, aNil, aCons, aStar, wLst, wTup, wIx, nIx, pNo, pSo, wSl, wRev, wRevE, mIndex, wLenSet, cRepr, wIsB, wCB, cLen, cAll, cSum, cMax, cMin, cSorted, cInt, cList, cTuple, cIsi, wBits, wLRg, wBM, wBM0, mChg, wDGet, wDIn, wDNew, sDPutD, wIn, nIn, wCall, wCallK, wNew, tYesD, startD, List.map_cons, List.map_nil, List.length_cons, List.length_nil, List.replicate, Nat.sub_self, List.append_nil, List.cons_append, List.nil_append, List.getElem?_cons_zero, List.getElem?_cons_succ, List.set_cons_zero, List.set_cons_succ, Nat.reduceSub, Nat.reduceAdd, ite_true, ite_false, if_true, if_false, Bool.false_eq_true, Bool.true_eq_false, Bool.not_true, Bool.not_false, Option.some.injEq, nrm_non, nrm_bl, nrm_int, nrm_str, nrm_ty, nrm_lst, nrm_tupC, nrm_dct, nrm_scr, nrm_setL, wFgt, tyN_non, tyN_bl, tyN_int, tyN_str, tyN_lst, tyN_tup, tyN_dct, keyD_int, keyD_str, isA, okT, beq_self_eq_true, String.reduceBEq, Bool.or_false, Bool.or_true, Bool.and_false, Bool.and_true, Bool.true_or, Bool.false_or, Bool.true_and, Bool.false_and, true_and, and_true, List.any_cons, List.any_nil, tyNames, Option.map_some, iRn1, iRn2, iRn3, iLst, nIt, iTp, iEn, iZp, iSt, wipeD, atI0, atI1, atI2, atI3, ixN0, ixN1, ixN2, ixN3, wSub, wLt, wLe, wGt, wGe, wDiv, wMod, wPow, wShl, Mp.set_same, Mp.set_set, cSortedA, cDictP, wNewD, wEqS, nEqS, wFrzT, mExt, mCnt, nIxL, sAugS, wSlS, wJoin, cSumL, dUnl, cSortLL, cMinLL, wLenSetT, wLenDictT, mIndexB, wLenSetJ, wAddT, wSortSet, wDNewT, sDPutT, cSortDT, wBMd, wDGet1, wDGet2, mUpd, wPairs, wDisp, wLtS, cMinS, cListD, cGcd, cAbs, nrm_refL hr2, hlast, hx2, hat, List.length_map])
  have hga : ∀ d, gAppend (nD (pre ++ [a])) [d] = some (.non, nD (pre ++ [a]) ++ [d]) := fun d => gAppend_ok (by rw [nD_len, List.length_append, List.length_singleton]; omega)
  by_cases c : a + v < cs.length
  · rw [if_pos c] at hg
    rw [decide_eq_true (show (a : Int) + (v : Int) < (cs.length : Int) by omega), if_pos rfl]
    simp only [sRet, sRetN, sIf, sDrop, sNever, sNext, sBreak, sCont, sAsg, sPar, sPar3, sAug, dName, dNil, dCons, dTup, dSub, sSetL, wVar, wC, wFrz, wFrzK, wOp, wAdd, nAdd, nI, nI0, wMul, nMul, wNeg, wEq, nEq, wIsN, wB, wAndT, wOrT, wNotT, wAndV, wOrV, wNotV, wIfE, wChain, aNil, aCons, aStar, wLst, wTup, wIx, nIx, pNo, pSo, wSl, wRev, wRevE, mIndex, wLenSet, cRepr, wIsB, wCB, cLen, cAll, cSum, cMax, cMin, cSorted, cInt, cList, cTuple, cIsi, wBits, wLRg, wBM, wBM0, mChg, wDGet, wDIn, wDNew, sDPutD, wIn, nIn, wCall, wCallK, wNew, tYesD, startD, List.map_cons, List.map_nil, List.length_cons, List.length_nil, List.replicate, Nat.sub_self, List.append_nil, List.cons_append, List.nil_append, List.getElem?_cons_zero, List.getElem?_cons_succ, List.set_cons_zero, List.set_cons_succ, Nat.reduceSub, Nat.reduceAdd, ite_true, ite_false, if_true, if_false, Bool.false_eq_true, Bool.true_eq_false, Bool.not_true, Bool.not_false, Option.some.injEq, nrm_non, nrm_bl, nrm_int, nrm_str, nrm_ty, nrm_lst, nrm_tupC, nrm_dct, nrm_scr, nrm_setL, wFgt, tyN_non, tyN_bl, tyN_int, tyN_str, tyN_lst, tyN_tup, tyN_dct, keyD_int, keyD_str, isA, okT, beq_self_eq_true, String.reduceBEq, Bool.or_false, Bool.or_true, Bool.and_false, Bool.and_true, Bool.true_or, Bool.false_or, Bool.true_and, Bool.false_and, true_and, and_true, List.any_cons, List.any_nil, tyNames, Option.map_some, iRn1, iRn2, iRn3, iLst, nIt, iTp, iEn, iZp, iSt, wipeD, atI0, atI1, atI2, atI3, ixN0, ixN1, ixN2, ixN3, wSub, wLt, wLe, wGt, wGe, wDiv, wMod, wPow, wShl, Mp.set_same, Mp.set_set, cSortedA, cDictP, wNewD, wEqS, nEqS, wFrzT, mExt, mCnt, nIxL, sAugS, wSlS, wJoin, cSumL, dUnl, cSortLL, cMinLL, wLenSetT, wLenDictT, mIndexB, wLenSetJ, wAddT, wSortSet, wDNewT, sDPutT, cSortDT, wBMd, wDGet1, wDGet2, mUpd, wPairs, wDisp, wLtS, cMinS, cListD, cGcd, cAbs, isL_lst hr2, hga]
    refine ⟨cs.length - (a + v), by omega, pre ++ [a], a + v, ?_, c, by omega, by simp; omega, ?_⟩
    · rw [nD_app (b := [a + v])]
      have : nD [a + v] = [D.int ((a : Int) + (v : Int))] := by simp [nD]
      rw [this]
    · rw [List.append_assoc]; exact hg
  · rw [if_neg c] at hg
    rw [decide_eq_false (show ¬ (a : Int) + (v : Int) < (cs.length : Int) by omega), if_neg (by decide), hg]
    exact q r hr
abbrev s_ends_there : Stmt := topS 24
theorem sc_ends_there : FnScope ["counts", "found", "place", "late"] ["counts"] (defScope s_ends_there) := ⟨rfl, rfl, rfl, by decide +kernel, rfl, by decide +kernel, by decide +kernel⟩
theorem ok_ends_there {f : Addr} {fd : FuncData} (F : FnP K "ends_there" s_ends_there [] f fd)
    (m_len : mg "len" = none)
    (m_range : mg "range" = none) :
    FnG P w K mg base 1 f fd ["counts"] (spD R_ends_there) := by
  have nd := sc_ends_there.nd
  refine fnD (k := 0) F sc_ends_there len_ends_there fun cdv A outer s H E hr hq => ?_
  have hu := hu_of hr
  have hr65 := room65 hr
  have hr66 := room66 hr
  refine ⟨_, _, pss_cons (ps_set (i := 1) nd rfl (by first | exact .inl rfl | exact .inr rfl) (pe_op op_mulA (pe_lst (pa_cons (pe_int) (pa_nil))) (pe_callB call_lenA (by rfl) m_len (by decide +kernel) (pa_cons (pv 0) (pa_nil)))))
      (pss_cons (ps_for PassesOwn.never rfl (pi_range3 (by rfl) m_range (pa_cons (pe_op op_sub (pe_callB call_lenA (by rfl) m_len (by decide +kernel) (pa_cons (pv 0) (pa_nil))) (pe_int)) (pa_cons (pe_un un_neg (pe_int)) (pa_cons (pe_un un_neg (pe_int)) (pa_nil))))) (pg_name (i := 2) nd rfl (by first | exact .inl rfl | exact .inr rfl)) (pss_cons (ps_set (i := 3) nd rfl (by first | exact .inl rfl | exact .inr rfl) (pe_op op_addA (pv 2) (pe_ix ix_seq (pv 0) (pv 2) (fun _ _ => rfl))))
      (pss_one (ps_asg (pe_ifExp (pt_cmpR (op_lt) (pv 3) (pe_callB call_lenA (by rfl) m_len (by decide +kernel) (pa_cons (pv 0) (pa_nil))) (nomark _)) (pe_ix ix_seq (pv 1) (pv 3) (fun _ _ => rfl)) (pv 2)) (pg_sub (pv 1) (pv 2) set_list)))))
      (pss_one (ps_ret (pv 1)))),
    ts_seq (ts_asg (tr_op (ot_mul (md := .own)) (tr_lst (md := .frz) (ta_cons (tr_int) (ta_nil))) (tr_cb ct_len (ta_cons (tr_var (i := 0)) (ta_nil)))) (tg_name (i := 1)))
      (ts_seq (ts_for (ti_rng3 (ta_cons (tr_op (ot_sub) (tr_cb ct_len (ta_cons (tr_var (i := 0)) (ta_nil))) (tr_int)) (ta_cons (tr_neg (tr_int)) (ta_cons (tr_neg (tr_int)) (ta_nil))))) (tg_name (i := 2)) (ts_seq (ts_asg (tr_op (ot_add (K := K) (md := .frz)) (tr_var (i := 2)) (tr_op ot_ix (tr_var (i := 0)) (tr_var (i := 2)))) (tg_name (i := 3)))
      (ts_asg (tr_if (tt_test (tr_op ot_lt (tr_var (i := 3)) (tr_cb ct_len (ta_cons (tr_var (i := 0)) (ta_nil))))) (tr_op ot_ix (tr_var (i := 1)) (tr_var (i := 3))) (tr_var (i := 2))) (tg_sub (tr_var (i := 1)) (tr_var (i := 2)) tset_list))))
      (ts_ret (tr_var (i := 1)))), ?_⟩
  rintro ds M Q ⟨x, cs, rfl, hx, hc, hl, q⟩
  ((try simp only [sSeq]); simp only [sRet, sRetN, sIf, sDrop, sNever, sNext, sBreak, sCont, sAsg, sPar, sPar3, sAug, dName, dNil, dCons, dTup, dSub, sSetL, wVar, wC, wFrz, wFrzK, wOp, wAdd, nAdd, nI, nI0, wMul, nMul, wNeg, wEq, nEq, wIsN, wB, wAndT, wOrT, wNotT, wAndV, wOrV, wNotV, wIfE, wChain, aNil, aCons, aStar, wLst, wTup, wIx, nIx, pNo, pSo, wSl, wRev, wRevE, mIndex, wLenSet, cRepr, wIsB, wCB, cLen, cAll, cSum, cMax, cMin, cSorted, cInt, cList, cTuple, cIsi, wBits, wLRg, wBM, wBM0, mChg, wDGet, wDIn, wDNew, sDPutD, wIn, nIn, wCall, wCallK, wNew, tYesD, startD, List.map_cons, List.map_nil, List.length_cons, List.length_nil, List.replicate, Nat.sub_self, List.append_nil, List.cons_append, List.nil_append, List.getElem?_cons_zero, List.getElem?_cons_succ, List.set_cons_zero, List.set_cons_succ, Nat.reduceSub, Nat.reduceAdd, ite_true, ite_false, if_true, if_false, Bool.false_eq_true, Bool.true_eq_false, Bool.not_true, Bool.not_false, Option.some.injEq, nrm_non, nrm_bl, nrm_int, nrm_str, nrm_ty, nrm_lst, nrm_tupC, nrm_dct, nrm_scr, nrm_setL, wFgt, tyN_non, tyN_bl, tyN_int, tyN_str, tyN_lst, tyN_tup, tyN_dct, keyD_int, keyD_str, isA, okT, beq_self_eq_true, String.reduceBEq, Bool.or_false, Bool.or_true, Bool.and_false, Bool.and_true, Bool.true_or, Bool.false_or, Bool.true_and, Bool.false_and, true_and, and_true, List.any_cons, List.any_nil, tyNames, Option.map_some, iRn1, iRn2, iRn3, iLst, nIt, iTp, iEn, iZp, iSt, wipeD, atI0, atI1, atI2, atI3, ixN0, ixN1, ixN2, ixN3, wSub, wLt, wLe, wGt, wGe, wDiv, wMod, wPow, wShl, Mp.set_same, Mp.set_set, cSortedA, cDictP, wNewD, wEqS, nEqS, wFrzT, mExt, mCnt, nIxL, sAugS, wSlS, wJoin, cSumL, dUnl, cSortLL, cMinLL, wLenSetT, wLenDictT, mIndexB, wLenSetJ, wAddT, wSortSet, wDNewT, sDPutT, cSortDT, wBMd, wDGet1, wDGet2, mUpd, wPairs, wDisp, wLtS, cMinS, cListD, cGcd, cAbs, hx, List.length_map])
  refine ⟨(by first | omega | (unfold Sz; omega) | (simp only [List.length_map, List.length_append, List.length_cons, List.length_nil, rngI_length, List.length_take, List.length_drop, List.length_reverse]; unfold Sz; omega)), ⟨by omega, by omega, by rw [Int.toNat_natCast]; unfold Sz; omega⟩, fun r hr => ?_⟩
  rw [Int.toNat_natCast]
  have e0 : (List.replicate cs.length [D.int 0]).flatten = nD (List.replicate cs.length 0 ++ []) := by
    rw [List.append_nil]
    generalize cs.length = k
    induction k with
    | zero => rfl
    | succ k ih => rw [List.replicate_succ, List.replicate_succ, List.flatten_cons, ih]; rfl
  rw [e0]
  refine for_ints (ns := rngI ((cs.length : Int) - 1) (-1) cs.length) (P := fun _ => True) (fun i ρ M' => ∃ (y2 y3 : Option D), ρ = [some x, some (.ref r), y2, y3] ∧ M' = M.set r (.lst (nD (List.replicate (cs.length - i) 0 ++ (endsI cs).drop (cs.length - i)))))
    (fun R h => ?_) ⟨_, _, rfl, by rw [Nat.sub_zero, List.drop_eq_nil_of_le (by unfold endsI; simp)]⟩ (fun _ _ _ _ _ => trivial) (fun i k ρ M' hk w => ?_) (fun ρ M' w => ?_)
  · simp only [sSeq, sRet, sRetN, sIf, sDrop, sNever, sNext, sBreak, sCont, sAsg, sPar, sPar3, sAug, dName, dNil, dCons, dTup, dSub, sSetL, wVar, wC, wFrz, wFrzK, wOp, wAdd, nAdd, nI, nI0, wMul, nMul, wNeg, wEq, nEq, wIsN, wB, wAndT, wOrT, wNotT, wAndV, wOrV, wNotV, wIfE, wChain, aNil, aCons, aStar, wLst, wTup, wIx, nIx, pNo, pSo, wSl, wRev, wRevE, mIndex, wLenSet, cRepr, wIsB, wCB, cLen, cAll, cSum, cMax, cMin, cSorted, cInt, cList, cTuple, cIsi, wBits, wLRg, wBM, wBM0, mChg, wDGet, wDIn, wDNew, sDPutD, wIn, nIn, wCall, wCallK, wNew, tYesD, startD, List.map_cons, List.map_nil, List.length_cons, List.length_nil, List.replicate, Nat.sub_self, List.append_nil, List.cons_append, List.nil_append, List.getElem?_cons_zero, List.getElem?_cons_succ, List.set_cons_zero, List.set_cons_succ, Nat.reduceSub, Nat.reduceAdd, ite_true, ite_false, if_true, if_false, Bool.false_eq_true, Bool.true_eq_false, Bool.not_true, Bool.not_false, Option.some.injEq, nrm_non, nrm_bl, nrm_int, nrm_str, nrm_ty, nrm_lst, nrm_tupC, nrm_dct, nrm_scr, nrm_setL, wFgt, tyN_non, tyN_bl, tyN_int, tyN_str, tyN_lst, tyN_tup, tyN_dct, keyD_int, keyD_str, isA, okT, beq_self_eq_true, String.reduceBEq, Bool.or_false, Bool.or_true, Bool.and_false, Bool.and_true, Bool.true_or, Bool.false_or, Bool.true_and, Bool.false_and, true_and, and_true, List.any_cons, List.any_nil, tyNames, Option.map_some, iRn1, iRn2, iRn3, iLst, nIt, iTp, iEn, iZp, iSt, wipeD, atI0, atI1, atI2, atI3, ixN0, ixN1, ixN2, ixN3, wSub, wLt, wLe, wGt, wGe, wDiv, wMod, wPow, wShl, Mp.set_same, Mp.set_set, cSortedA, cDictP, wNewD, wEqS, nEqS, wFrzT, mExt, mCnt, nIxL, sAugS, wSlS, wJoin, cSumL, dUnl, cSortLL, cMinLL, wLenSetT, wLenDictT, mIndexB, wLenSetJ, wAddT, wSortSet, wDNewT, sDPutT, cSortDT, wBMd, wDGet1, wDGet2, mUpd, wPairs, wDisp, wLtS, cMinS, cListD, cGcd, cAbs, nrm_set hx rfl hr, List.length_map]
    rw [List.append_nil] at h
    refine ⟨⟨⟨by omega, by omega⟩, ⟨by omega, by omega⟩, ⟨by omega, by decide⟩⟩, ?_⟩
    have en : rngN ((cs.length : Int) - 1) (-1) (-1) = cs.length := by
      unfold rngN Builtin.Range.rangeSize
      by_cases h0 : cs.length = 0
      · rw [h0]; rfl
      · simp
        omega
    rw [rngD_ints, en]
    exact h
  · obtain ⟨y2, y3, rfl, rfl⟩ := w
    obtain ⟨hi, rfl⟩ := rngI_get hk
    obtain ⟨p, hpe⟩ : ∃ p, p + i + 1 = cs.length := ⟨cs.length - 1 - i, by omega⟩
    have hp : p < cs.length := by omega
    rw [show (cs.length : Int) - 1 + (i : Int) * -1 = (p : Int) by omega, show cs.length - i = p + 1 by omega, show cs.length - (i + 1) = p by omega]
    have hEl : (endsI cs).length = cs.length := by unfold endsI; rw [List.length_map, List.length_range]
    have hEa : ∀ j, j < cs.length → (endsI cs)[j]? = some (endI cs j) := fun j hj => by unfold endsI; rw [List.getElem?_map, List.getElem?_range hj]; rfl
    have hdrop : (endsI cs).drop p = endI cs p :: (endsI cs).drop (p + 1) := by
      rw [List.drop_eq_getElem_cons (by omega)]
      have := hEa p hp
      rw [List.getElem?_eq_getElem (by omega)] at this
      rw [Option.some.inj this]
    obtain ⟨st, hst⟩ : ∃ st, st = List.replicate (p + 1) 0 ++ (endsI cs).drop (p + 1) := ⟨_, rfl⟩
    rw [← hst]
    have hsl : st.length = cs.length := by rw [hst, List.length_append, List.length_replicate, List.length_drop, hEl]; omega
    have hset : st.set p (endI cs p) = List.replicate p 0 ++ (endsI cs).drop p := by
      rw [hst, hdrop, List.replicate_succ', List.append_assoc, List.set_append_right _ _ (by simp)]
      simp
    have hr2 : (M.set r (.lst (nD st))) r = some (.lst (nD st)) := Mp.set_same
    have hx2 := nrm_set (m := .lst (nD st)) hx rfl hr
    have hpos := getD_pos hc hp
    obtain ⟨v, hv⟩ : ∃ v : Nat, cs.getD p 0 = (v : Int) := ⟨(cs.getD p 0).toNat, by omega⟩
    have hat : atI (cs.map D.int) (p : Int) = some (.int v) := by rw [atI_int (by omega) (by omega), Int.toNat_natCast, hv]
    have hun := end_unf hc hp
    rw [hv, Int.toNat_natCast] at hun
    have hix : ixN (nD st).length (p : Int) = some p := by
      unfold ixN
      rw [nD_len, if_pos (by omega), if_pos (by omega), Int.toNat_natCast]
    have hset2 : (nD st).set p (.int (endI cs p)) = nD (List.replicate p 0 ++ (endsI cs).drop p) := by
      rw [← hset]; unfold nD; rw [List.map_set]
    ((try simp only [sSeq]); simp only [sRet, sRetN, sIf, sDrop, sNever, sNext, sBreak, sCont, sAsg, sPar, sPar3, sAug, dName, dNil, dCons, dTup, dSub, sSetL, wVar, wC, wFrz, wFrzK, wOp, wAdd, nAdd, nI, nI0, wMul, nMul, wNeg, wEq, nEq, wIsN, wB, wAndT, wOrT, wNotT, wAndV, wOrV, wNotV, wIfE, wChain, aNil, aCons, aStar, wLst, wTup, wIx, nIx, pNo, pSo, wSl, wRev, wRevE, mIndex, wLenSet, cRepr, wIsB, wCB, cLen, cAll, cSum, cMax, cMin, cSorted, cInt, cList, cTuple, cIsi, wBits, wLRg, wBM, wBM0, mChg, wDGet, wDIn, wDNew, sDPutD, wIn, nIn, wCall, wCallK, wNew, tYesD, startD, List.map_cons, List.map_nil, List.length_cons, List.length_nil, List.replicate, Nat.sub_self, List.append_nil, List.cons_append, List.nil_append, List.getElem?_cons_zero, List.getElem?_cons_succ, List.set_cons_zero, List.set_cons_succ, Nat.reduceSub, Nat.reduceAdd, ite_true, ite_false, if_true, if_false, Bool.false_eq_true, Bool.true_eq_false, Bool.not_true, Bool.not_false, Option.some.injEq, nrm_non, nrm_bl, nrm_int, nrm_str, nrm_ty, nrm_lst, nrm_tupC, nrm_dct, nrm_scr, nrm_setL, wFgt, tyN_non, tyN_bl, tyN_int, tyN_str, tyN_lst, tyN_tup, tyN_dct, keyD_int, keyD_str, isA, okT, beq_self_eq_true, String.reduceBEq, Bool.or_false, Bool.or_true, Bool.and_false, Bool.and_true, Bool.true_or, Bool.false_or, Bool.true_and, Bool.false_and, true_and, and_true, List.any_cons, List.any_nil, tyNames, Option.map_some, iRn1, iRn2, iRn3, iLst, nIt, iTp, iEn, iZp, iSt, wipeD, atI0, atI1, atI2, atI3, ixN0, ixN1, ixN2, ixN3, wSub, wLt, wLe, wGt, wGe, wDiv, wMod, wPow, wShl, Mp.set_same, Mp.set_set, cSortedA, cDictP, wNewD, wEqS, nEqS, wFrzT, mExt, mCnt, nIxL, sAugS, wSlS, wJoin, cSumL, dUnl, cSortLL, cMinLL, wLenSetT, wLenDictT, mIndexB, wLenSetJ, wAddT, wSortSet, wDNewT, sDPutT, cSortDT, wBMd, wDGet1, wDGet2, mUpd, wPairs, wDisp, wLtS, cMinS, cListD, cGcd, cAbs, hx2, hat, List.length_map])
    by_cases c : p + v < cs.length
    · rw [if_pos c] at hun
      have e : decide ((p : Int) + (v : Int) < (cs.length : Int)) = true := decide_eq_true (by omega)
      have hlt : atI (nD st) ((p : Int) + (v : Int)) = some (.int (endI cs (p + v))) := by
        have h1 : st[p + v]? = some (endI cs (p + v)) := by
          rw [hst, List.getElem?_append_right (by simp; omega), List.length_replicate, List.getElem?_drop, show p + 1 + (p + v - (p + 1)) = p + v by omega]
          exact hEa _ c
        rw [show (p : Int) + (v : Int) = ((p + v : Nat) : Int) by omega]
        refine atI_nat ?_
        unfold nD
        rw [List.getElem?_map, h1]; rfl
      simp only [sRet, sRetN, sIf, sDrop, sNever, sNext, sBreak, sCont, sAsg, sPar, sPar3, sAug, dName, dNil, dCons, dTup, dSub, sSetL, wVar, wC, wFrz, wFrzK, wOp, wAdd, nAdd, nI, nI0, wMul, nMul, wNeg, wEq, nEq, wIsN, wB, wAndT, wOrT, wNotT, wAndV, wOrV, wNotV, wIfE, wChain, aNil, aCons, aStar, wLst, wTup, wIx, nIx, pNo, pSo, wSl, wRev, wRevE, mIndex, wLenSet, cRepr, wIsB, wCB, cLen, cAll, cSum, cMax, cMin, cSorted, cInt, cList, cTuple, cIsi, wBits, wLRg, wBM, wBM0, mChg, wDGet, wDIn, wDNew, sDPutD, wIn, nIn, wCall, wCallK, wNew, tYesD, startD, List.map_cons, List.map_nil, List.length_cons, List.length_nil, List.replicate, Nat.sub_self, List.append_nil, List.cons_append, List.nil_append, List.getElem?_cons_zero, List.getElem?_cons_succ, List.set_cons_zero, List.set_cons_succ, Nat.reduceSub, Nat.reduceAdd, ite_true, ite_false, if_true, if_false, Bool.false_eq_true, Bool.true_eq_false, Bool.not_true, Bool.not_false, Option.some.injEq, nrm_non, nrm_bl, nrm_int, nrm_str, nrm_ty, nrm_lst, nrm_tupC, nrm_dct, nrm_scr, nrm_setL, wFgt, tyN_non, tyN_bl, tyN_int, tyN_str, tyN_lst, tyN_tup, tyN_dct, keyD_int, keyD_str, isA, okT, beq_self_eq_true, String.reduceBEq, Bool.or_false, Bool.or_true, Bool.and_false, Bool.and_true, Bool.true_or, Bool.false_or, Bool.true_and, Bool.false_and, true_and, and_true, List.any_cons, List.any_nil, tyNames, Option.map_some, iRn1, iRn2, iRn3, iLst, nIt, iTp, iEn, iZp, iSt, wipeD, atI0, atI1, atI2, atI3, ixN0, ixN1, ixN2, ixN3, wSub, wLt, wLe, wGt, wGe, wDiv, wMod, wPow, wShl, Mp.set_same, Mp.set_set, cSortedA, cDictP, wNewD, wEqS, nEqS, wFrzT, mExt, mCnt, nIxL, sAugS, wSlS, wJoin, cSumL, dUnl, cSortLL, cMinLL, wLenSetT, wLenDictT, mIndexB, wLenSetJ, wAddT, wSortSet, wDNewT, sDPutT, cSortDT, wBMd, wDGet1, wDGet2, mUpd, wPairs, wDisp, wLtS, cMinS, cListD, cGcd, cAbs, e, nrm_refL hr2, hlt, hix]
      rw [← hun, hset2]
      exact ⟨_, _, rfl, rfl⟩
    · rw [if_neg c] at hun
      have e : decide ((p : Int) + (v : Int) < (cs.length : Int)) = false := decide_eq_false (by omega)
      simp only [sRet, sRetN, sIf, sDrop, sNever, sNext, sBreak, sCont, sAsg, sPar, sPar3, sAug, dName, dNil, dCons, dTup, dSub, sSetL, wVar, wC, wFrz, wFrzK, wOp, wAdd, nAdd, nI, nI0, wMul, nMul, wNeg, wEq, nEq, wIsN, wB, wAndT, wOrT, wNotT, wAndV, wOrV, wNotV, wIfE, wChain, aNil, aCons, aStar, wLst, wTup, wIx, nIx, pNo, pSo, wSl, wRev, wRevE, mIndex, wLenSet, cRepr, wIsB, wCB, cLen, cAll, cSum, cMax, cMin, cSorted, cInt, cList, cTuple, cIsi, wBits, wLRg, wBM, wBM0, mChg, wDGet, wDIn, wDNew, sDPutD, wIn, nIn, wCall, wCallK, wNew, tYesD, startD, List.map_cons, List.map_nil, List.length_cons, List.length_nil, List.replicate, Nat.sub_self, List.append_nil, List.cons_append, List.nil_append, List.getElem?_cons_zero, List.getElem?_cons_succ, List.set_cons_zero, List.set_cons_succ, Nat.reduceSub, Nat.reduceAdd, ite_true, ite_false, if_true, if_false, Bool.false_eq_true, Bool.true_eq_false, Bool.not_true, Bool.not_false, Option.some.injEq, nrm_non, nrm_bl, nrm_int, nrm_str, nrm_ty, nrm_lst, nrm_tupC, nrm_dct, nrm_scr, nrm_setL, wFgt, tyN_non, tyN_bl, tyN_int, tyN_str, tyN_lst, tyN_tup, tyN_dct, keyD_int, keyD_str, isA, okT, beq_self_eq_true, String.reduceBEq, Bool.or_false, Bool.or_true, Bool.and_false, Bool.and_true, Bool.true_or, Bool.false_or, Bool.true_and, Bool.false_and, true_and, and_true, List.any_cons, List.any_nil, tyNames, Option.map_some, iRn1, iRn2, iRn3, iLst, nIt, iTp, iEn, iZp, iSt, wipeD, atI0, atI1, atI2, atI3, ixN0, ixN1, ixN2, ixN3, wSub, wLt, wLe, wGt, wGe, wDiv, wMod, wPow, wShl, Mp.set_same, Mp.set_set, cSortedA, cDictP, wNewD, wEqS, nEqS, wFrzT, mExt, mCnt, nIxL, sAugS, wSlS, wJoin, cSumL, dUnl, cSortLL, cMinLL, wLenSetT, wLenDictT, mIndexB, wLenSetJ, wAddT, wSortSet, wDNewT, sDPutT, cSortDT, wBMd, wDGet1, wDGet2, mUpd, wPairs, wDisp, wLtS, cMinS, cListD, cGcd, cAbs, e, hix]
      rw [hun] at hset2
      rw [hset2]
      exact ⟨_, _, rfl, rfl⟩
  · obtain ⟨y2, y3, rfl, rfl⟩ := w
    rw [rngI_length, Nat.sub_self]
    simp only [sSeq, sRet, sRetN, sIf, sDrop, sNever, sNext, sBreak, sCont, sAsg, sPar, sPar3, sAug, dName, dNil, dCons, dTup, dSub, sSetL, wVar, wC, wFrz, wFrzK, wOp, wAdd, nAdd, nI, nI0, wMul, nMul, wNeg, wEq, nEq, wIsN, wB, wAndT, wOrT, wNotT, wAndV, wOrV, wNotV, wIfE, wChain, aNil, aCons, aStar, wLst, wTup, wIx, nIx, pNo, pSo, wSl, wRev, wRevE, mIndex, wLenSet, cRepr, wIsB, wCB, cLen, cAll, cSum, cMax, cMin, cSorted, cInt, cList, cTuple, cIsi, wBits, wLRg, wBM, wBM0, mChg, wDGet, wDIn, wDNew, sDPutD, wIn, nIn, wCall, wCallK, wNew, tYesD, startD, List.map_cons, List.map_nil, List.length_cons, List.length_nil, List.replicate, Nat.sub_self, List.append_nil, List.cons_append, List.nil_append, List.getElem?_cons_zero, List.getElem?_cons_succ, List.set_cons_zero, List.set_cons_succ, Nat.reduceSub, Nat.reduceAdd, ite_true, ite_false, if_true, if_false, Bool.false_eq_true, Bool.true_eq_false, Bool.not_true, Bool.not_false, Option.some.injEq, nrm_non, nrm_bl, nrm_int, nrm_str, nrm_ty, nrm_lst, nrm_tupC, nrm_dct, nrm_scr, nrm_setL, wFgt, tyN_non, tyN_bl, tyN_int, tyN_str, tyN_lst, tyN_tup, tyN_dct, keyD_int, keyD_str, isA, okT, beq_self_eq_true, String.reduceBEq, Bool.or_false, Bool.or_true, Bool.and_false, Bool.and_true, Bool.true_or, Bool.false_or, Bool.true_and, Bool.false_and, true_and, and_true, List.any_cons, List.any_nil, tyNames, Option.map_some, iRn1, iRn2, iRn3, iLst, nIt, iTp, iEn, iZp, iSt, wipeD, atI0, atI1, atI2, atI3, ixN0, ixN1, ixN2, ixN3, wSub, wLt, wLe, wGt, wGe, wDiv, wMod, wPow, wShl, Mp.set_same, Mp.set_set, cSortedA, cDictP, wNewD, wEqS, nEqS, wFrzT, mExt, mCnt, nIxL, sAugS, wSlS, wJoin, cSumL, dUnl, cSortLL, cMinLL, wLenSetT, wLenDictT, mIndexB, wLenSetJ, wAddT, wSortSet, wDNewT, sDPutT, cSortDT, wBMd, wDGet1, wDGet2, mUpd, wPairs, wDisp, wLtS, cMinS, cListD, cGcd, cAbs]
    exact q r hr
abbrev s_law_purse : Stmt := topS 31
theorem sc_law_purse : FnScope ["script", "at", "seed"] ["script", "at"] (defScope s_law_purse) := ⟨rfl, rfl, rfl, by decide +kernel, rfl, by decide +kernel, by decide +kernel⟩
theorem ok_law_purse {f : Addr} {fd : FuncData} (F : FnP K "_law_purse" s_law_purse [] f fd)
    (m_sum : mg "sum" = none)
    (m_int : mg "int" = none)
    (m_max : mg "max" = none) :
    FnG P w K mg base 1 f fd ["script", "at"] (spD (R_law_purse K)) := by
  have nd := sc_law_purse.nd
  refine fnD (k := 0) F sc_law_purse (len_law_purse K) fun cdv A outer s H E hr hq => ?_
  have hu := hu_of hr
  have hr65 := room65 hr
  have hr66 := room66 hr
  refine ⟨_, _, pss_cons (ps_set (i := 2) nd rfl (by first | exact .inl rfl | exact .inr rfl) (pe_callB (cr_sum rfl) (by rfl) m_sum (by decide +kernel) (pa_cons (pe_slice sl_list (pv 0) (po_some (pv 1)) (po_some (pe_op op_addA (pv 1) (pe_int)))) (pa_nil))))
      (pss_one (ps_ret (pe_lst (pa_cons (pe_op op_mod (pe_callTy call_int1 (by rfl) m_int (by decide +kernel) (pa_cons (pe_callB (call_maxA rfl) (by rfl) m_max (by decide +kernel) (pa_cons (pe_op op_sub (pv 2) (pe_op op_powW (pe_int) (pe_int))) (pa_cons (pe_int) (pa_nil)))) (pa_nil))) (pe_op op_powW (pe_op op_powW (pe_int) (pe_int)) (pe_int))) (pa_cons (pe_op op_mod (pe_callTy call_int1 (by rfl) m_int (by decide +kernel) (pa_cons (pv 2) (pa_nil))) (pe_int)) (pa_cons (pe_int) (pa_cons (pv 1) (pa_nil)))))))),
    ts_seq (ts_asg (tr_cb ct_sum (ta_cons (tr_sl (md := .frz) (tr_var (i := 0)) (tp_so (tr_var (i := 1))) (tp_so (tr_op (ot_add (K := K) (md := .frz)) (tr_var (i := 1)) (tr_int)))) (ta_nil))) (tg_name (i := 2)))
      (ts_ret (tr_lst (md := .own) (ta_cons (tr_op (ot_mod) (tr_cb ct_int (ta_cons (tr_cb ct_max (ta_cons (tr_op (ot_sub) (tr_var (i := 2)) (tr_op (ot_pow) (tr_int) (tr_int))) (ta_cons (tr_int) (ta_nil)))) (ta_nil))) (tr_op (ot_pow) (tr_op (ot_pow) (tr_int) (tr_int)) (tr_int))) (ta_cons (tr_op (ot_mod) (tr_cb ct_int (ta_cons (tr_var (i := 2)) (ta_nil))) (tr_int)) (ta_cons (tr_int) (ta_cons (tr_var (i := 1)) (ta_nil))))))), ?_⟩
  rintro ds M Q ⟨ns, e, rfl, he, q⟩
  simp only [sSeq, sRet, sRetN, sIf, sDrop, sNever, sNext, sBreak, sCont, sAsg, sPar, sPar3, sAug, dName, dNil, dCons, dTup, dSub, sSetL, wVar, wC, wFrz, wFrzK, wOp, wAdd, nAdd, nI, nI0, wMul, nMul, wNeg, wEq, nEq, wIsN, wB, wAndT, wOrT, wNotT, wAndV, wOrV, wNotV, wIfE, wChain, aNil, aCons, aStar, wLst, wTup, wIx, nIx, pNo, pSo, wSl, wRev, wRevE, mIndex, wLenSet, cRepr, wIsB, wCB, cLen, cAll, cSum, cMax, cMin, cSorted, cInt, cList, cTuple, cIsi, wBits, wLRg, wBM, wBM0, mChg, wDGet, wDIn, wDNew, sDPutD, wIn, nIn, wCall, wCallK, wNew, tYesD, startD, List.map_cons, List.map_nil, List.length_cons, List.length_nil, List.replicate, Nat.sub_self, List.append_nil, List.cons_append, List.nil_append, List.getElem?_cons_zero, List.getElem?_cons_succ, List.set_cons_zero, List.set_cons_succ, Nat.reduceSub, Nat.reduceAdd, ite_true, ite_false, if_true, if_false, Bool.false_eq_true, Bool.true_eq_false, Bool.not_true, Bool.not_false, Option.some.injEq, nrm_non, nrm_bl, nrm_int, nrm_str, nrm_ty, nrm_lst, nrm_tupC, nrm_dct, nrm_scr, nrm_setL, wFgt, tyN_non, tyN_bl, tyN_int, tyN_str, tyN_lst, tyN_tup, tyN_dct, keyD_int, keyD_str, isA, okT, beq_self_eq_true, String.reduceBEq, Bool.or_false, Bool.or_true, Bool.and_false, Bool.and_true, Bool.true_or, Bool.false_or, Bool.true_and, Bool.false_and, true_and, and_true, List.any_cons, List.any_nil, tyNames, Option.map_some, iRn1, iRn2, iRn3, iLst, nIt, iTp, iEn, iZp, iSt, wipeD, atI0, atI1, atI2, atI3, ixN0, ixN1, ixN2, ixN3, wSub, wLt, wLe, wGt, wGe, wDiv, wMod, wPow, wShl, Mp.set_same, Mp.set_set, cSortedA, cDictP, wNewD, wEqS, nEqS, wFrzT, mExt, mCnt, nIxL, sAugS, wSlS, wJoin, cSumL, dUnl, cSortLL, cMinLL, wLenSetT, wLenDictT, mIndexB, wLenSetJ, wAddT, wSortSet, wDNewT, sDPutT, cSortDT, wBMd, wDGet1, wDGet2, mUpd, wPairs, wDisp, wLtS, cMinS, cListD, cGcd, cAbs, cut_ints, ints_map]
  have p1 : (0 : Int) < (10 ^ Int.toNat 60) ^ Int.toNat 8 := by decide +kernel
  refine ⟨rfl, ⟨by decide, by decide⟩, ⟨by decide, by decide⟩, ⟨by decide, by decide +kernel⟩, p1, by decide, by unfold Sz; omega, fun p hp => q p _ hp ⟨_, _, _, _, rfl, Int.emod_nonneg _ (by omega), ⟨by omega, by omega⟩, ⟨by omega, by omega⟩, by omega⟩⟩
abbrev s_law_mixed : Stmt := topS 32
theorem sc_law_mixed : FnScope ["seed", "spin", "at", "mixed"] ["seed", "spin", "at"] (defScope s_law_mixed) := ⟨rfl, rfl, rfl, by decide +kernel, rfl, by decide +kernel, by decide +kernel⟩
theorem ok_law_mixed {f : Addr} {fd : FuncData} (F : FnP K "_law_mixed" s_law_mixed [] f fd)
    (m_int : mg "int" = none) :
    FnG P w K mg base 1 f fd ["seed", "spin", "at"] (spD R_law_mixed) := by
  have nd := sc_law_mixed.nd
  refine fnD (k := 0) F sc_law_mixed len_law_mixed fun cdv A outer s H E hr hq => ?_
  have hu := hu_of hr
  have hr65 := room65 hr
  have hr66 := room66 hr
  refine ⟨_, _, pss_cons (ps_set (i := 3) nd rfl (by first | exact .inl rfl | exact .inr rfl) (pe_op op_addA (pe_op op_mulA (pv 0) (pe_int)) (pe_op op_mulA (pe_op op_mulA (pe_int) (pv 1)) (pv 1))))
      (pss_cons (ps_set (i := 3) nd rfl (by first | exact .inl rfl | exact .inr rfl) (pe_op op_mod (pe_callTy call_int1 (by rfl) m_int (by decide +kernel) (pa_cons (pe_op op_addA (pe_op op_addA (pv 3) (pe_op op_mulA (pe_int) (pv 2))) (pv 1)) (pa_nil))) (pe_int)))
      (pss_cons (ps_set (i := 3) nd rfl (by first | exact .inl rfl | exact .inr rfl) (pe_op op_mod (pe_callTy call_int1 (by rfl) m_int (by decide +kernel) (pa_cons (pe_op op_addA (pe_op op_mulA (pv 3) (pv 3)) (pe_int)) (pa_nil))) (pe_int)))
      (pss_one (ps_ret (pe_op op_mod (pe_callTy call_int1 (by rfl) m_int (by decide +kernel) (pa_cons (pe_op op_mulA (pv 3) (pe_int)) (pa_nil))) (pe_int)))))),
    ts_seq (ts_asg (tr_op (ot_add (K := K) (md := .frz)) (tr_op (ot_mul (md := .frz)) (tr_var (i := 0)) (tr_int)) (tr_op (ot_mul (md := .frz)) (tr_op (ot_mul (md := .frz)) (tr_int) (tr_var (i := 1))) (tr_var (i := 1)))) (tg_name (i := 3)))
      (ts_seq (ts_asg (tr_op (ot_mod) (tr_cb ct_int (ta_cons (tr_op (ot_add (K := K) (md := .frz)) (tr_op (ot_add (K := K) (md := .frz)) (tr_var (i := 3)) (tr_op (ot_mul (md := .frz)) (tr_int) (tr_var (i := 2)))) (tr_var (i := 1))) (ta_nil))) (tr_int)) (tg_name (i := 3)))
      (ts_seq (ts_asg (tr_op (ot_mod) (tr_cb ct_int (ta_cons (tr_op (ot_add (K := K) (md := .frz)) (tr_op (ot_mul (md := .frz)) (tr_var (i := 3)) (tr_var (i := 3))) (tr_int)) (ta_nil))) (tr_int)) (tg_name (i := 3)))
      (ts_ret (tr_op (ot_mod) (tr_cb ct_int (ta_cons (tr_op (ot_mul (md := .frz)) (tr_var (i := 3)) (tr_int)) (ta_nil))) (tr_int))))), ?_⟩
  rintro ds M Q ⟨a, b, c, rfl, ha, hb, q⟩
  simp only [sSeq, sRet, sRetN, sIf, sDrop, sNever, sNext, sBreak, sCont, sAsg, sPar, sPar3, sAug, dName, dNil, dCons, dTup, dSub, sSetL, wVar, wC, wFrz, wFrzK, wOp, wAdd, nAdd, nI, nI0, wMul, nMul, wNeg, wEq, nEq, wIsN, wB, wAndT, wOrT, wNotT, wAndV, wOrV, wNotV, wIfE, wChain, aNil, aCons, aStar, wLst, wTup, wIx, nIx, pNo, pSo, wSl, wRev, wRevE, mIndex, wLenSet, cRepr, wIsB, wCB, cLen, cAll, cSum, cMax, cMin, cSorted, cInt, cList, cTuple, cIsi, wBits, wLRg, wBM, wBM0, mChg, wDGet, wDIn, wDNew, sDPutD, wIn, nIn, wCall, wCallK, wNew, tYesD, startD, List.map_cons, List.map_nil, List.length_cons, List.length_nil, List.replicate, Nat.sub_self, List.append_nil, List.cons_append, List.nil_append, List.getElem?_cons_zero, List.getElem?_cons_succ, List.set_cons_zero, List.set_cons_succ, Nat.reduceSub, Nat.reduceAdd, ite_true, ite_false, if_true, if_false, Bool.false_eq_true, Bool.true_eq_false, Bool.not_true, Bool.not_false, Option.some.injEq, nrm_non, nrm_bl, nrm_int, nrm_str, nrm_ty, nrm_lst, nrm_tupC, nrm_dct, nrm_scr, nrm_setL, wFgt, tyN_non, tyN_bl, tyN_int, tyN_str, tyN_lst, tyN_tup, tyN_dct, keyD_int, keyD_str, isA, okT, beq_self_eq_true, String.reduceBEq, Bool.or_false, Bool.or_true, Bool.and_false, Bool.and_true, Bool.true_or, Bool.false_or, Bool.true_and, Bool.false_and, true_and, and_true, List.any_cons, List.any_nil, tyNames, Option.map_some, iRn1, iRn2, iRn3, iLst, nIt, iTp, iEn, iZp, iSt, wipeD, atI0, atI1, atI2, atI3, ixN0, ixN1, ixN2, ixN3, wSub, wLt, wLe, wGt, wGe, wDiv, wMod, wPow, wShl, Mp.set_same, Mp.set_set, cSortedA, cDictP, wNewD, wEqS, nEqS, wFrzT, mExt, mCnt, nIxL, sAugS, wSlS, wJoin, cSumL, dUnl, cSortLL, cMinLL, wLenSetT, wLenDictT, mIndexB, wLenSetJ, wAddT, wSortSet, wDNewT, sDPutT, cSortDT, wBMd, wDGet1, wDGet2, mUpd, wPairs, wDisp, wLtS, cMinS, cListD, cGcd, cAbs]
  generalize a * 69069 + 104729 * b * b + 7919 * c + b = x0
  have h1 : 0 ≤ x0 % 2147483647 ∧ x0 % 2147483647 < 2147483647 := by omega
  generalize x0 % 2147483647 = x1 at h1
  generalize x1 * x1 + 40503 = x2
  have h2 : 0 ≤ x2 % 2147483629 ∧ x2 % 2147483629 < 2147483629 := by omega
  generalize x2 % 2147483629 = x3 at h2
  exact ⟨.inl (by omega), .inl (by omega), .inr (.inl (by omega)), .inl (by omega), by omega, .inl (by omega), by omega, .inl (by omega), by omega, q _ (by omega) (by omega)⟩
abbrev s_law_way : Stmt := topS 38
theorem sc_law_way : FnScope ["counts", "start", "found", "place"] ["counts", "start"] (defScope s_law_way) := ⟨rfl, rfl, rfl, by decide +kernel, rfl, by decide +kernel, by decide +kernel⟩
theorem ok_law_way {f : Addr} {fd : FuncData} (F : FnP K "_law_way" s_law_way [] f fd)
    (m_len : mg "len" = none) :
    FnG P w K mg base 1 f fd ["counts", "start"] (spD R_law_way) := by
  have nd := sc_law_way.nd
  refine fnD (k := 0) F sc_law_way len_law_way fun cdv A outer s H E hr hq => ?_
  have hu := hu_of hr
  have hr65 := room65 hr
  have hr66 := room66 hr
  refine ⟨_, _, pss_cons (ps_par (i := 2) (j := 3) (by rfl) nd rfl rfl (by decide) rfl rfl (pa_cons (pe_lst (pa_nil)) (pa_cons (pv 1) (pa_nil))) (by rfl))
      (pss_cons (ps_while PassesOwn.never (pt_cmpR (op_lt) (pv 3) (pe_callB call_lenA (by rfl) m_len (by decide +kernel) (pa_cons (pv 0) (pa_nil))) (nomark _)) (pss_cons (ps_expr (pe_bm PySem.F.plainAttrs_list PySem.F.slot_list_append PySem.F.type_list_append mt_append (pv 2) (pa_cons (pv 3) (pa_nil))))
      (pss_one (ps_set (i := 3) nd rfl (by first | exact .inl rfl | exact .inr rfl) (pe_op op_addA (pv 3) (pe_ix ix_seq (pv 0) (pv 3) (fun _ _ => rfl)))))))
      (pss_one (ps_ret (pv 2)))),
    ts_seq (ts_par (i := 2) (j := 3) (ta_cons (tr_lst (md := .own) (ta_nil)) (ta_cons (tr_var (i := 1)) (ta_nil))))
      (ts_seq (ts_while (tt_test (tr_op ot_lt (tr_var (i := 3)) (tr_cb ct_len (ta_cons (tr_var (i := 0)) (ta_nil))))) (ts_seq (ts_drop (tr_bm mt_appendD (tr_var (i := 2)) (ta_cons (tr_var (i := 3)) (ta_nil))))
      (ts_asg (tr_op (ot_add (K := K) (md := .frz)) (tr_var (i := 3)) (tr_op ot_ix (tr_var (i := 0)) (tr_var (i := 3)))) (tg_name (i := 3)))))
      (ts_ret (tr_var (i := 2)))), ?_⟩
  rintro ds M Q ⟨x, cs, p, rfl, hx, hc, hl, hp, q⟩
  ((try simp only [sSeq]); simp only [sRet, sRetN, sIf, sDrop, sNever, sNext, sBreak, sCont, sAsg, sPar, sPar3, sAug, dName, dNil, dCons, dTup, dSub, sSetL, wVar, wC, wFrz, wFrzK, wOp, wAdd, nAdd, nI, nI0, wMul, nMul, wNeg, wEq, nEq, wIsN, wB, wAndT, wOrT, wNotT, wAndV, wOrV, wNotV, wIfE, wChain, aNil, aCons, aStar, wLst, wTup, wIx, nIx, pNo, pSo, wSl, wRev, wRevE, mIndex, wLenSet, cRepr, wIsB, wCB, cLen, cAll, cSum, cMax, cMin, cSorted, cInt, cList, cTuple, cIsi, wBits, wLRg, wBM, wBM0, mChg, wDGet, wDIn, wDNew, sDPutD, wIn, nIn, wCall, wCallK, wNew, tYesD, startD, List.map_cons, List.map_nil, List.length_cons, List.length_nil, List.replicate, Nat.sub_self, List.append_nil, List.cons_append, List.nil_append, List.getElem?_cons_zero, List.getElem?_cons_succ, List.set_cons_zero, List.set_cons_succ, Nat.reduceSub, Nat.reduceAdd, ite_true, ite_false, if_true, if_false, Bool.false_eq_true, Bool.true_eq_false, Bool.not_true, Bool.not_false, Option.some.injEq, nrm_non, nrm_bl, nrm_int, nrm_str, nrm_ty, nrm_lst, nrm_tupC, nrm_dct, nrm_scr, nrm_setL, wFgt, tyN_non, tyN_bl, tyN_int, tyN_str, tyN_lst, tyN_tup, tyN_dct, keyD_int, keyD_str, isA, okT, beq_self_eq_true, String.reduceBEq, Bool.or_false, Bool.or_true, Bool.and_false, Bool.and_true, Bool.true_or, Bool.false_or, Bool.true_and, Bool.false_and, true_and, and_true, List.any_cons, List.any_nil, tyNames, Option.map_some, iRn1, iRn2, iRn3, iLst, nIt, iTp, iEn, iZp, iSt, wipeD, atI0, atI1, atI2, atI3, ixN0, ixN1, ixN2, ixN3, wSub, wLt, wLe, wGt, wGe, wDiv, wMod, wPow, wShl, Mp.set_same, Mp.set_set, cSortedA, cDictP, wNewD, wEqS, nEqS, wFrzT, mExt, mCnt, nIxL, sAugS, wSlS, wJoin, cSumL, dUnl, cSortLL, cMinLL, wLenSetT, wLenDictT, mIndexB, wLenSetJ, wAddT, wSortSet, wDNewT, sDPutT, cSortDT, wBMd, wDGet1, wDGet2, mUpd, wPairs, wDisp, wLtS, cMinS, cListD, cGcd, cAbs])
  refine ⟨(by first | omega | (unfold Sz; omega) | (simp only [List.length_map, List.length_append, List.length_cons, List.length_nil, rngI_length, List.length_take, List.length_drop, List.length_reverse]; unfold Sz; omega)), fun r hr => ?_⟩
  refine ⟨fun m ρ M' => ∃ (pre : List Nat) (a : Nat), ρ = [some x, some (.int p), some (.ref r), some (.int a)] ∧ M' = M.set r (.lst (nD pre)) ∧ pre.length ≤ a ∧ m = cs.length - a ∧ (pre.length ≤ 100000) ∧ pre ++ (if a < cs.length then wayI cs a else []) = wayI cs p,
    ⟨cs.length - p, [], p, rfl, rfl, by simp, rfl, by simp, by rw [if_pos hp]; rfl⟩, ?_⟩
  rintro m ρ M' ⟨pre, a, rfl, rfl, hpl, rfl, hpl2, hg⟩
  have hr2 : (M.set r (.lst (nD pre))) r = some (.lst (nD pre)) := Mp.set_same
  have hx2 := nrm_set (m := .lst (nD pre)) hx rfl hr
  by_cases c : a < cs.length
  · rw [if_pos c, way_unf hc c] at hg
    have hpos := getD_pos hc c
    obtain ⟨v, hv⟩ : ∃ v : Nat, cs.getD a 0 = (v : Int) := ⟨(cs.getD a 0).toNat, by omega⟩
    have hat : atI (cs.map D.int) (a : Int) = some (.int v) := by rw [atI_int (by omega) (by omega), Int.toNat_natCast, hv]
    rw [hv, Int.toNat_natCast] at hg
    have hx3 := nrm_set (m := .lst (nD (pre ++ [a]))) hx rfl hr
    have hga : ∀ d, gAppend (nD pre) [d] = some (.non, nD pre ++ [d]) := fun d => gAppend_ok (by rw [nD_len]; omega)
    have hnd : nD pre ++ [D.int (a : Int)] = nD (pre ++ [a]) := by rw [nD_app]; rfl
    have e : decide ((a : Int) < (cs.length : Int)) = true := decide_eq_true (by omega)
    ((try simp only [sSeq]); simp only [sRet, sRetN, sIf, sDrop, sNever, sNext, sBreak, sCont, sAsg, sPar, sPar3, sAug, dName, dNil, dCons, dTup, dSub, sSetL, wVar, wC, wFrz, wFrzK, wOp, wAdd, nAdd, nI, nI0, wMul, nMul, wNeg, wEq, nEq, wIsN, wB, wAndT, wOrT, wNotT, wAndV, wOrV, wNotV, wIfE, wChain, aNil, aCons, aStar, wLst, wTup, wIx, nIx, pNo, pSo, wSl, wRev, wRevE, mIndex, wLenSet, cRepr, wIsB, wCB, cLen, cAll, cSum, cMax, cMin, cSorted, cInt, cList, cTuple, cIsi, wBits, wLRg, wBM, wBM0, mChg, wDGet, wDIn, wDNew, sDPutD, wIn, nIn, wCall, wCallK, wNew, tYesD, startD, List.map_cons, List.map_nil, List.length_cons, List.length_nil, List.replicate, Nat.sub_self, List.append_nil, List.cons_append, List.nil_append, List.getElem?_cons_zero, List.getElem?_cons_succ, List.set_cons_zero, List.set_cons_succ, Nat.reduceSub, Nat.reduceAdd, ite_true, ite_false, if_true, if_false, Bool.false_eq_true, Bool.true_eq_false, Bool.not_true, Bool.not_false, Option.some.injEq, nrm_non, nrm_bl, nrm_int, nrm_str, nrm_ty, nrm_lst, nrm_tupC, nrm_dct, nrm_scr, nrm_setL, wFgt, tyN_non, tyN_bl, tyN_int, tyN_str, tyN_lst, tyN_tup, tyN_dct, keyD_int, keyD_str, isA, okT, beq_self_eq_true, String.reduceBEq, Bool.or_false, Bool.or_true, Bool.and_false, Bool.and_true, Bool.true_or, Bool.false_or, Bool.true_and, Bool.false_and, true_and, and_true, List.any_cons, List.any_nil, tyNames, Option.map_some, iRn1, iRn2, iRn3, iLst, nIt, iTp, iEn, iZp, iSt, wipeD, atI0, atI1, atI2, atI3, ixN0, ixN1, ixN2, ixN3, wSub, wLt, wLe, wGt, wGe, wDiv, wMod, wPow, wShl, Mp.set_same, Mp.set_set, cSortedA, cDictP, wNewD, wEqS, nEqS, wFrzT, mExt, mCnt, nIxL, sAugS, wSlS, wJoin, cSumL, dUnl, cSortLL, cMinLL, wLenSetT, wLenDictT, mIndexB, wLenSetJ, wAddT, wSortSet, wDNewT, sDPutT, cSortDT, wBMd, wDGet1, wDGet2, mUpd, wPairs, wDisp, wLtS, cMinS, cListD, cGcd, cAbs, hx2, List.length_map, e, isL_lst hr2, hga, hnd, hx3, hat])
    refine ⟨cs.length - (a + v), by omega, pre ++ [a], a + v, by simp, rfl, by simp; omega, rfl, by simp; omega, ?_⟩
    rw [List.append_assoc]
    exact hg
  · rw [if_neg c, List.append_nil] at hg
    have e : decide ((a : Int) < (cs.length : Int)) = false := decide_eq_false (by omega)
    ((try simp only [sSeq]); simp only [sRet, sRetN, sIf, sDrop, sNever, sNext, sBreak, sCont, sAsg, sPar, sPar3, sAug, dName, dNil, dCons, dTup, dSub, sSetL, wVar, wC, wFrz, wFrzK, wOp, wAdd, nAdd, nI, nI0, wMul, nMul, wNeg, wEq, nEq, wIsN, wB, wAndT, wOrT, wNotT, wAndV, wOrV, wNotV, wIfE, wChain, aNil, aCons, aStar, wLst, wTup, wIx, nIx, pNo, pSo, wSl, wRev, wRevE, mIndex, wLenSet, cRepr, wIsB, wCB, cLen, cAll, cSum, cMax, cMin, cSorted, cInt, cList, cTuple, cIsi, wBits, wLRg, wBM, wBM0, mChg, wDGet, wDIn, wDNew, sDPutD, wIn, nIn, wCall, wCallK, wNew, tYesD, startD, List.map_cons, List.map_nil, List.length_cons, List.length_nil, List.replicate, Nat.sub_self, List.append_nil, List.cons_append, List.nil_append, List.getElem?_cons_zero, List.getElem?_cons_succ, List.set_cons_zero, List.set_cons_succ, Nat.reduceSub, Nat.reduceAdd, ite_true, ite_false, if_true, if_false, Bool.false_eq_true, Bool.true_eq_false, Bool.not_true, Bool.not_false, Option.some.injEq, nrm_non, nrm_bl, nrm_int, nrm_str, nrm_ty, nrm_lst, nrm_tupC, nrm_dct, nrm_scr, nrm_setL, wFgt, tyN_non, tyN_bl, tyN_int, tyN_str, tyN_lst, tyN_tup, tyN_dct, keyD_int, keyD_str, isA, okT, beq_self_eq_true, String.reduceBEq, Bool.or_false, Bool.or_true, Bool.and_false, Bool.and_true, Bool.true_or, Bool.false_or, Bool.true_and, Bool.false_and, true_and, and_true, List.any_cons, List.any_nil, tyNames, Option.map_some, iRn1, iRn2, iRn3, iLst, nIt, iTp, iEn, iZp, iSt, wipeD, atI0, atI1, atI2, atI3, ixN0, ixN1, ixN2, ixN3, wSub, wLt, wLe, wGt, wGe, wDiv, wMod, wPow, wShl, Mp.set_same, Mp.set_set, cSortedA, cDictP, wNewD, wEqS, nEqS, wFrzT, mExt, mCnt, nIxL, sAugS, wSlS, wJoin, cSumL, dUnl, cSortLL, cMinLL, wLenSetT, wLenDictT, mIndexB, wLenSetJ, wAddT, wSortSet, wDNewT, sDPutT, cSortDT, wBMd, wDGet1, wDGet2, mUpd, wPairs, wDisp, wLtS, cMinS, cListD, cGcd, cAbs, hx2, List.length_map, e])
    rw [hg]
    exact q r hr
abbrev s_law_part : Stmt := topS 40
theorem sc_law_part : FnScope ["above", "below", "one", "other"] ["above", "below"] (defScope s_law_part) := ⟨rfl, rfl, rfl, by decide +kernel, rfl, by decide +kernel, by decide +kernel⟩
theorem ok_law_part {f : Addr} {fd : FuncData} (F : FnP K "_law_part" s_law_part [] f fd)
     :
    FnG P w K mg base 1 f fd ["above", "below"] (spD R_law_part) := by
  have nd := sc_law_part.nd
  refine fnD (k := 0) F sc_law_part len_law_part fun cdv A outer s H E hr hq => ?_
  have hu := hu_of hr
  have hr65 := room65 hr
  have hr66 := room66 hr
  refine ⟨_, _, pss_cons (ps_par (i := 2) (j := 3) (by rfl) nd rfl rfl (by decide) rfl rfl (pa_cons (pv 0) (pa_cons (pv 1) (pa_nil))) (by rfl))
      (pss_cons (ps_while PassesOwn.never (pt_cmpR (op_gt) (pv 3) (pe_int) (nomark _)) (pss_one (ps_par (i := 2) (j := 3) (by rfl) nd rfl rfl (by decide) rfl rfl (pa_cons (pv 3) (pa_cons (pe_op op_mod (pv 2) (pv 3)) (pa_nil))) (by rfl))))
      (pss_one (ps_ret (pe_tup (pa_cons (pe_op op_fdivW (pv 0) (pv 2)) (pa_cons (pe_op op_fdivW (pv 1) (pv 2)) (pa_nil))))))),
    ts_seq (ts_par (i := 2) (j := 3) (ta_cons (tr_var (i := 0)) (ta_cons (tr_var (i := 1)) (ta_nil))))
      (ts_seq (ts_while (tt_test (tr_op ot_gt (tr_var (i := 3)) (tr_int))) (ts_par (i := 2) (j := 3) (ta_cons (tr_var (i := 3)) (ta_cons (tr_op (ot_mod) (tr_var (i := 2)) (tr_var (i := 3))) (ta_nil)))))
      (ts_ret (tr_tup (ta_cons (tr_op (ot_div) (tr_var (i := 0)) (tr_var (i := 2))) (ta_cons (tr_op (ot_div) (tr_var (i := 1)) (tr_var (i := 2))) (ta_nil)))))), ?_⟩
  rintro ds M Q ⟨a, b, rfl, hb, ha2, hb2, q⟩
  ((try simp only [sSeq]); simp only [sRet, sRetN, sIf, sDrop, sNever, sNext, sBreak, sCont, sAsg, sPar, sPar3, sAug, dName, dNil, dCons, dTup, dSub, sSetL, wVar, wC, wFrz, wFrzK, wOp, wAdd, nAdd, nI, nI0, wMul, nMul, wNeg, wEq, nEq, wIsN, wB, wAndT, wOrT, wNotT, wAndV, wOrV, wNotV, wIfE, wChain, aNil, aCons, aStar, wLst, wTup, wIx, nIx, pNo, pSo, wSl, wRev, wRevE, mIndex, wLenSet, cRepr, wIsB, wCB, cLen, cAll, cSum, cMax, cMin, cSorted, cInt, cList, cTuple, cIsi, wBits, wLRg, wBM, wBM0, mChg, wDGet, wDIn, wDNew, sDPutD, wIn, nIn, wCall, wCallK, wNew, tYesD, startD, List.map_cons, List.map_nil, List.length_cons, List.length_nil, List.replicate, Nat.sub_self, List.append_nil, List.cons_append, List.nil_append, List.getElem?_cons_zero, List.getElem?_cons_succ, List.set_cons_zero, List.set_cons_succ, Nat.reduceSub, Nat.reduceAdd, ite_true, ite_false, if_true, if_false, Bool.false_eq_true, Bool.true_eq_false, Bool.not_true, Bool.not_false, Option.some.injEq, nrm_non, nrm_bl, nrm_int, nrm_str, nrm_ty, nrm_lst, nrm_tupC, nrm_dct, nrm_scr, nrm_setL, wFgt, tyN_non, tyN_bl, tyN_int, tyN_str, tyN_lst, tyN_tup, tyN_dct, keyD_int, keyD_str, isA, okT, beq_self_eq_true, String.reduceBEq, Bool.or_false, Bool.or_true, Bool.and_false, Bool.and_true, Bool.true_or, Bool.false_or, Bool.true_and, Bool.false_and, true_and, and_true, List.any_cons, List.any_nil, tyNames, Option.map_some, iRn1, iRn2, iRn3, iLst, nIt, iTp, iEn, iZp, iSt, wipeD, atI0, atI1, atI2, atI3, ixN0, ixN1, ixN2, ixN3, wSub, wLt, wLe, wGt, wGe, wDiv, wMod, wPow, wShl, Mp.set_same, Mp.set_set, cSortedA, cDictP, wNewD, wEqS, nEqS, wFrzT, mExt, mCnt, nIxL, sAugS, wSlS, wJoin, cSumL, dUnl, cSortLL, cMinLL, wLenSetT, wLenDictT, mIndexB, wLenSetJ, wAddT, wSortSet, wDNewT, sDPutT, cSortDT, wBMd, wDGet1, wDGet2, mUpd, wPairs, wDisp, wLtS, cMinS, cListD, cGcd, cAbs])
  refine ⟨fun m ρ M' => ∃ (u v : Nat), ρ = [some (.int a), some (.int b), some (.int u), some (.int v)] ∧ M' = M ∧ Nat.gcd u v = Nat.gcd a b ∧ m = v ∧ v < 2 ^ 60 ∧ u < 2 ^ 60, ⟨b, a, b, rfl, rfl, rfl, rfl, hb2, ha2⟩, ?_⟩
  rintro m ρ M' ⟨u, v, rfl, rfl, hg, rfl, hv, hu⟩
  by_cases c : m = 0
  · subst c
    have e : decide ((0 : Int) < ((0 : Nat) : Int)) = false := rfl
    rw [Nat.gcd_zero_right] at hg
    subst hg
    have hgl : Nat.gcd a b ≤ b := Nat.le_of_dvd hb (Nat.gcd_dvd_right a b)
    have hg : 0 < Nat.gcd a b := Nat.gcd_pos_of_pos_right a hb
    ((try simp only [sSeq]); simp only [sRet, sRetN, sIf, sDrop, sNever, sNext, sBreak, sCont, sAsg, sPar, sPar3, sAug, dName, dNil, dCons, dTup, dSub, sSetL, wVar, wC, wFrz, wFrzK, wOp, wAdd, nAdd, nI, nI0, wMul, nMul, wNeg, wEq, nEq, wIsN, wB, wAndT, wOrT, wNotT, wAndV, wOrV, wNotV, wIfE, wChain, aNil, aCons, aStar, wLst, wTup, wIx, nIx, pNo, pSo, wSl, wRev, wRevE, mIndex, wLenSet, cRepr, wIsB, wCB, cLen, cAll, cSum, cMax, cMin, cSorted, cInt, cList, cTuple, cIsi, wBits, wLRg, wBM, wBM0, mChg, wDGet, wDIn, wDNew, sDPutD, wIn, nIn, wCall, wCallK, wNew, tYesD, startD, List.map_cons, List.map_nil, List.length_cons, List.length_nil, List.replicate, Nat.sub_self, List.append_nil, List.cons_append, List.nil_append, List.getElem?_cons_zero, List.getElem?_cons_succ, List.set_cons_zero, List.set_cons_succ, Nat.reduceSub, Nat.reduceAdd, ite_true, ite_false, if_true, if_false, Bool.false_eq_true, Bool.true_eq_false, Bool.not_true, Bool.not_false, Option.some.injEq, nrm_non, nrm_bl, nrm_int, nrm_str, nrm_ty, nrm_lst, nrm_tupC, nrm_dct, nrm_scr, nrm_setL, wFgt, tyN_non, tyN_bl, tyN_int, tyN_str, tyN_lst, tyN_tup, tyN_dct, keyD_int, keyD_str, isA, okT, beq_self_eq_true, String.reduceBEq, Bool.or_false, Bool.or_true, Bool.and_false, Bool.and_true, Bool.true_or, Bool.false_or, Bool.true_and, Bool.false_and, true_and, and_true, List.any_cons, List.any_nil, tyNames, Option.map_some, iRn1, iRn2, iRn3, iLst, nIt, iTp, iEn, iZp, iSt, wipeD, atI0, atI1, atI2, atI3, ixN0, ixN1, ixN2, ixN3, wSub, wLt, wLe, wGt, wGe, wDiv, wMod, wPow, wShl, Mp.set_same, Mp.set_set, cSortedA, cDictP, wNewD, wEqS, nEqS, wFrzT, mExt, mCnt, nIxL, sAugS, wSlS, wJoin, cSumL, dUnl, cSortLL, cMinLL, wLenSetT, wLenDictT, mIndexB, wLenSetJ, wAddT, wSortSet, wDNewT, sDPutT, cSortDT, wBMd, wDGet1, wDGet2, mUpd, wPairs, wDisp, wLtS, cMinS, cListD, cGcd, cAbs, e])
    refine ⟨⟨by omega, .inl (by omega)⟩, ⟨by omega, .inl (by omega)⟩, (by first | omega | (unfold Sz; omega) | (simp only [List.length_map, List.length_append, List.length_cons, List.length_nil, rngI_length, List.length_take, List.length_drop, List.length_reverse]; unfold Sz; omega)), ?_⟩
    rw [← Int.natCast_ediv, ← Int.natCast_ediv]
    exact q
  · have e : decide ((0 : Int) < (m : Int)) = true := decide_eq_true (by omega)
    ((try simp only [sSeq]); simp only [sRet, sRetN, sIf, sDrop, sNever, sNext, sBreak, sCont, sAsg, sPar, sPar3, sAug, dName, dNil, dCons, dTup, dSub, sSetL, wVar, wC, wFrz, wFrzK, wOp, wAdd, nAdd, nI, nI0, wMul, nMul, wNeg, wEq, nEq, wIsN, wB, wAndT, wOrT, wNotT, wAndV, wOrV, wNotV, wIfE, wChain, aNil, aCons, aStar, wLst, wTup, wIx, nIx, pNo, pSo, wSl, wRev, wRevE, mIndex, wLenSet, cRepr, wIsB, wCB, cLen, cAll, cSum, cMax, cMin, cSorted, cInt, cList, cTuple, cIsi, wBits, wLRg, wBM, wBM0, mChg, wDGet, wDIn, wDNew, sDPutD, wIn, nIn, wCall, wCallK, wNew, tYesD, startD, List.map_cons, List.map_nil, List.length_cons, List.length_nil, List.replicate, Nat.sub_self, List.append_nil, List.cons_append, List.nil_append, List.getElem?_cons_zero, List.getElem?_cons_succ, List.set_cons_zero, List.set_cons_succ, Nat.reduceSub, Nat.reduceAdd, ite_true, ite_false, if_true, if_false, Bool.false_eq_true, Bool.true_eq_false, Bool.not_true, Bool.not_false, Option.some.injEq, nrm_non, nrm_bl, nrm_int, nrm_str, nrm_ty, nrm_lst, nrm_tupC, nrm_dct, nrm_scr, nrm_setL, wFgt, tyN_non, tyN_bl, tyN_int, tyN_str, tyN_lst, tyN_tup, tyN_dct, keyD_int, keyD_str, isA, okT, beq_self_eq_true, String.reduceBEq, Bool.or_false, Bool.or_true, Bool.and_false, Bool.and_true, Bool.true_or, Bool.false_or, Bool.true_and, Bool.false_and, true_and, and_true, List.any_cons, List.any_nil, tyNames, Option.map_some, iRn1, iRn2, iRn3, iLst, nIt, iTp, iEn, iZp, iSt, wipeD, atI0, atI1, atI2, atI3, ixN0, ixN1, ixN2, ixN3, wSub, wLt, wLe, wGt, wGe, wDiv, wMod, wPow, wShl, Mp.set_same, Mp.set_set, cSortedA, cDictP, wNewD, wEqS, nEqS, wFrzT, mExt, mCnt, nIxL, sAugS, wSlS, wJoin, cSumL, dUnl, cSortLL, cMinLL, wLenSetT, wLenDictT, mIndexB, wLenSetJ, wAddT, wSortSet, wDNewT, sDPutT, cSortDT, wBMd, wDGet1, wDGet2, mUpd, wPairs, wDisp, wLtS, cMinS, cListD, cGcd, cAbs, e])
    have hlt : u % m < m := Nat.mod_lt _ (by omega)
    refine ⟨by omega, u % m, hlt, m, u % m, by simp, ?_, by omega, by omega⟩
    rw [← hg, Nat.gcd_comm u m, Nat.gcd_rec m u, Nat.gcd_comm]
abbrev s_is_count : Stmt := topS 3
theorem sc_is_count : FnScope ["value", "least"] ["value", "least"] (defScope s_is_count) := ⟨rfl, rfl, rfl, by decide +kernel, rfl, by decide +kernel, by decide +kernel⟩
theorem ok_is_count {f : Addr} {fd : FuncData} (F : FnP K "is_count" s_is_count [.int 0] f fd)
    {f_is_whole : Addr} {fd_is_whole : FuncData} {ds_is_whole : List Value} (G_is_whole : Kn P w K mg base "is_whole" ["value"] R_is_whole 1 [] ds_is_whole f_is_whole fd_is_whole)
    (m_max : mg "max" = none) :
    FnG P w K mg base 2 f fd ["value", "least"] (spD R_is_count) := by
  have nd := sc_is_count.nd
  refine fnD (k := 1) F sc_is_count len_is_count fun cdv A outer s H E hr hq => ?_
  have hu := hu_of hr
  have hr65 := room65 hr
  have hr66 := room66 hr
  refine ⟨_, _, pss_one (ps_ret (pe_and (pe_callG (G_is_whole.ok.mono (by decide)) hr hq (by rfl) G_is_whole.m G_is_whole.kp G_is_whole.b G_is_whole.dv (pa_cons (pv 0) (pa_nil))) (pe_one (pe_cmpR (op_ge) (pv 0) (pe_callB (call_maxA rfl) (by rfl) m_max (by decide +kernel) (pa_cons (pv 1) (pa_cons (pe_int) (pa_nil)))) (nomark _))))),
    ts_ret (tr_and (tr_call (ta_cons (tr_var (i := 0)) (ta_nil))) (tr_op ot_ge (tr_var (i := 0)) (tr_cb ct_max (ta_cons (tr_var (i := 1)) (ta_cons (tr_int) (ta_nil)))))), ?_⟩
  rintro ds M Q ⟨d, l, rfl, h, q⟩
  simp only [sSeq, sRet, sRetN, sIf, sDrop, sNever, sNext, sBreak, sCont, sAsg, sPar, sPar3, sAug, dName, dNil, dCons, dTup, dSub, sSetL, wVar, wC, wFrz, wFrzK, wOp, wAdd, nAdd, nI, nI0, wMul, nMul, wNeg, wEq, nEq, wIsN, wB, wAndT, wOrT, wNotT, wAndV, wOrV, wNotV, wIfE, wChain, aNil, aCons, aStar, wLst, wTup, wIx, nIx, pNo, pSo, wSl, wRev, wRevE, mIndex, wLenSet, cRepr, wIsB, wCB, cLen, cAll, cSum, cMax, cMin, cSorted, cInt, cList, cTuple, cIsi, wBits, wLRg, wBM, wBM0, mChg, wDGet, wDIn, wDNew, sDPutD, wIn, nIn, wCall, wCallK, wNew, tYesD, startD, List.map_cons, List.map_nil, List.length_cons, List.length_nil, List.replicate, Nat.sub_self, List.append_nil, List.cons_append, List.nil_append, List.getElem?_cons_zero, List.getElem?_cons_succ, List.set_cons_zero, List.set_cons_succ, Nat.reduceSub, Nat.reduceAdd, ite_true, ite_false, if_true, if_false, Bool.false_eq_true, Bool.true_eq_false, Bool.not_true, Bool.not_false, Option.some.injEq, nrm_non, nrm_bl, nrm_int, nrm_str, nrm_ty, nrm_lst, nrm_tupC, nrm_dct, nrm_scr, nrm_setL, wFgt, tyN_non, tyN_bl, tyN_int, tyN_str, tyN_lst, tyN_tup, tyN_dct, keyD_int, keyD_str, isA, okT, beq_self_eq_true, String.reduceBEq, Bool.or_false, Bool.or_true, Bool.and_false, Bool.and_true, Bool.true_or, Bool.false_or, Bool.true_and, Bool.false_and, true_and, and_true, List.any_cons, List.any_nil, tyNames, Option.map_some, iRn1, iRn2, iRn3, iLst, nIt, iTp, iEn, iZp, iSt, wipeD, atI0, atI1, atI2, atI3, ixN0, ixN1, ixN2, ixN3, wSub, wLt, wLe, wGt, wGe, wDiv, wMod, wPow, wShl, Mp.set_same, Mp.set_set, cSortedA, cDictP, wNewD, wEqS, nEqS, wFrzT, mExt, mCnt, nIxL, sAugS, wSlS, wJoin, cSumL, dUnl, cSortLL, cMinLL, wLenSetT, wLenDictT, mIndexB, wLenSetJ, wAddT, wSortSet, wDNewT, sDPutT, cSortDT, wBMd, wDGet1, wDGet2, mUpd, wPairs, wDisp, wLtS, cMinS, cListD, cGcd, cAbs]
  refine ⟨d, rfl, h, ?_⟩
  cases d <;> first | cases h | skip
  all_goals first | exact q | (simp only [sSeq, sRet, sRetN, sIf, sDrop, sNever, sNext, sBreak, sCont, sAsg, sPar, sPar3, sAug, dName, dNil, dCons, dTup, dSub, sSetL, wVar, wC, wFrz, wFrzK, wOp, wAdd, nAdd, nI, nI0, wMul, nMul, wNeg, wEq, nEq, wIsN, wB, wAndT, wOrT, wNotT, wAndV, wOrV, wNotV, wIfE, wChain, aNil, aCons, aStar, wLst, wTup, wIx, nIx, pNo, pSo, wSl, wRev, wRevE, mIndex, wLenSet, cRepr, wIsB, wCB, cLen, cAll, cSum, cMax, cMin, cSorted, cInt, cList, cTuple, cIsi, wBits, wLRg, wBM, wBM0, mChg, wDGet, wDIn, wDNew, sDPutD, wIn, nIn, wCall, wCallK, wNew, tYesD, startD, List.map_cons, List.map_nil, List.length_cons, List.length_nil, List.replicate, Nat.sub_self, List.append_nil, List.cons_append, List.nil_append, List.getElem?_cons_zero, List.getElem?_cons_succ, List.set_cons_zero, List.set_cons_succ, Nat.reduceSub, Nat.reduceAdd, ite_true, ite_false, if_true, if_false, Bool.false_eq_true, Bool.true_eq_false, Bool.not_true, Bool.not_false, Option.some.injEq, nrm_non, nrm_bl, nrm_int, nrm_str, nrm_ty, nrm_lst, nrm_tupC, nrm_dct, nrm_scr, nrm_setL, wFgt, tyN_non, tyN_bl, tyN_int, tyN_str, tyN_lst, tyN_tup, tyN_dct, keyD_int, keyD_str, isA, okT, beq_self_eq_true, String.reduceBEq, Bool.or_false, Bool.or_true, Bool.and_false, Bool.and_true, Bool.true_or, Bool.false_or, Bool.true_and, Bool.false_and, true_and, and_true, List.any_cons, List.any_nil, tyNames, Option.map_some, iRn1, iRn2, iRn3, iLst, nIt, iTp, iEn, iZp, iSt, wipeD, atI0, atI1, atI2, atI3, ixN0, ixN1, ixN2, ixN3, wSub, wLt, wLe, wGt, wGe, wDiv, wMod, wPow, wShl, Mp.set_same, Mp.set_set, cSortedA, cDictP, wNewD, wEqS, nEqS, wFrzT, mExt, mCnt, nIxL, sAugS, wSlS, wJoin, cSumL, dUnl, cSortLL, cMinLL, wLenSetT, wLenDictT, mIndexB, wLenSetJ, wAddT, wSortSet, wDNewT, sDPutT, cSortDT, wBMd, wDGet1, wDGet2, mUpd, wPairs, wDisp, wLtS, cMinS, cListD, cGcd, cAbs, wholeD]; exact q)
abbrev s_law_draw : Stmt := topS 33
theorem sc_law_draw : FnScope ["purse", "many", "drawn", "found", "piece"] ["purse", "many"] (defScope s_law_draw) := ⟨rfl, rfl, rfl, by decide +kernel, rfl, by decide +kernel, by decide +kernel⟩
theorem ok_law_draw {f : Addr} {fd : FuncData} (F : FnP K "_law_draw" s_law_draw [] f fd)
    {f_law_mixed : Addr} {fd_law_mixed : FuncData} {ds_law_mixed : List Value} (G_law_mixed : Kn P w K mg base "_law_mixed" ["seed", "spin", "at"] R_law_mixed 1 [] ds_law_mixed f_law_mixed fd_law_mixed)
    (m_int : mg "int" = none)
    (m_range : mg "range" = none) :
    FnG P w K mg base 2 f fd ["purse", "many"] (spD R_law_draw) := by
  have nd := sc_law_draw.nd
  refine fnD (k := 1) F sc_law_draw len_law_draw fun cdv A outer s H E hr hq => ?_
  have hu := hu_of hr
  have hr65 := room65 hr
  have hr66 := room66 hr
  refine ⟨_, _, pss_cons (ps_if (pt_cmpR (op_gt) (pe_ix ix_seq (pv 0) (pe_int) (fun _ _ => rfl)) (pe_int) (nomark _)) (pss_cons (ps_set (i := 2) nd rfl (by first | exact .inl rfl | exact .inr rfl) (pe_op op_mod (pe_callTy call_int1 (by rfl) m_int (by decide +kernel) (pa_cons (pe_ix ix_seq (pv 0) (pe_int) (fun _ _ => rfl)) (pa_nil))) (pv 1)))
      (pss_cons (ps_asg (pe_op op_fdivW (pe_ix ix_seq (pv 0) (pe_int) (fun _ _ => rfl)) (pv 1)) (pg_sub (pv 0) (pe_int) set_list))
      (pss_one (ps_ret (pv 2))))) (pss_nil))
      (pss_cons (ps_set (i := 3) nd rfl (by first | exact .inl rfl | exact .inr rfl) (pe_int))
      (pss_cons (ps_for PassesOwn.never rfl (pi_range1 (by rfl) m_range (pa_cons (pe_op op_addA (pe_int) (pe_op op_fdivW (pe_bits (pv 1)) (pe_int))) (pa_nil))) (pg_name (i := 4) nd rfl (by first | exact .inl rfl | exact .inr rfl)) (pss_cons (ps_asg (pe_op op_addA (pe_ix ix_seq (pv 0) (pe_int) (fun _ _ => rfl)) (pe_int)) (pg_sub (pv 0) (pe_int) set_list))
      (pss_one (ps_set (i := 3) nd rfl (by first | exact .inl rfl | exact .inr rfl) (pe_op op_addA (pe_op op_mulA (pv 3) (pe_int)) (pe_callG (G_law_mixed.ok.mono (by decide)) hr hq (by rfl) G_law_mixed.m G_law_mixed.kp G_law_mixed.b G_law_mixed.dv (pa_cons (pe_ix ix_seq (pv 0) (pe_int) (fun _ _ => rfl)) (pa_cons (pe_ix ix_seq (pv 0) (pe_int) (fun _ _ => rfl)) (pa_cons (pe_ix ix_seq (pv 0) (pe_int) (fun _ _ => rfl)) (pa_nil))))))))))
      (pss_one (ps_ret (pe_op op_mod (pe_callTy call_int1 (by rfl) m_int (by decide +kernel) (pa_cons (pv 3) (pa_nil))) (pv 1)))))),
    ts_seq (ts_if (tt_test (tr_op ot_gt (tr_op ot_ix (tr_var (i := 0)) (tr_int)) (tr_int))) (ts_seq (ts_asg (tr_op (ot_mod) (tr_cb ct_int (ta_cons (tr_op ot_ix (tr_var (i := 0)) (tr_int)) (ta_nil))) (tr_var (i := 1))) (tg_name (i := 2)))
      (ts_seq (ts_asg (tr_op (ot_div) (tr_op ot_ix (tr_var (i := 0)) (tr_int)) (tr_var (i := 1))) (tg_sub (tr_var (i := 0)) (tr_int) tset_list))
      (ts_ret (tr_var (i := 2))))) (ts_next))
      (ts_seq (ts_asg (tr_int) (tg_name (i := 3)))
      (ts_seq (ts_for (ti_rng1 (ta_cons (tr_op (ot_add (K := K) (md := .frz)) (tr_int) (tr_op (ot_div) (tr_bits (tr_var (i := 1))) (tr_int))) (ta_nil))) (tg_name (i := 4)) (ts_seq (ts_asg (tr_op (ot_add (K := K) (md := .frz)) (tr_op ot_ix (tr_var (i := 0)) (tr_int)) (tr_int)) (tg_sub (tr_var (i := 0)) (tr_int) tset_list))
      (ts_asg (tr_op (ot_add (K := K) (md := .frz)) (tr_op (ot_mul (md := .frz)) (tr_var (i := 3)) (tr_int)) (tr_call (ta_cons (tr_op ot_ix (tr_var (i := 0)) (tr_int)) (ta_cons (tr_op ot_ix (tr_var (i := 0)) (tr_int)) (ta_cons (tr_op ot_ix (tr_var (i := 0)) (tr_int)) (ta_nil)))))) (tg_name (i := 3)))))
      (ts_ret (tr_op (ot_mod) (tr_cb ct_int (ta_cons (tr_var (i := 3)) (ta_nil))) (tr_var (i := 1)))))), ?_⟩
  rintro ds M Q ⟨p, xs, m, B, rfl, hp, hx, hB, h0, h1, q⟩
  obtain ⟨a, b, c, e, rfl, ha, hb, hc, he⟩ := hx
  have hbits := bits_le h0 h1
  simp only [sSeq, sRet, sRetN, sIf, sDrop, sNever, sNext, sBreak, sCont, sAsg, sPar, sPar3, sAug, dName, dNil, dCons, dTup, dSub, sSetL, wVar, wC, wFrz, wFrzK, wOp, wAdd, nAdd, nI, nI0, wMul, nMul, wNeg, wEq, nEq, wIsN, wB, wAndT, wOrT, wNotT, wAndV, wOrV, wNotV, wIfE, wChain, aNil, aCons, aStar, wLst, wTup, wIx, nIx, pNo, pSo, wSl, wRev, wRevE, mIndex, wLenSet, cRepr, wIsB, wCB, cLen, cAll, cSum, cMax, cMin, cSorted, cInt, cList, cTuple, cIsi, wBits, wLRg, wBM, wBM0, mChg, wDGet, wDIn, wDNew, sDPutD, wIn, nIn, wCall, wCallK, wNew, tYesD, startD, List.map_cons, List.map_nil, List.length_cons, List.length_nil, List.replicate, Nat.sub_self, List.append_nil, List.cons_append, List.nil_append, List.getElem?_cons_zero, List.getElem?_cons_succ, List.set_cons_zero, List.set_cons_succ, Nat.reduceSub, Nat.reduceAdd, ite_true, ite_false, if_true, if_false, Bool.false_eq_true, Bool.true_eq_false, Bool.not_true, Bool.not_false, Option.some.injEq, nrm_non, nrm_bl, nrm_int, nrm_str, nrm_ty, nrm_lst, nrm_tupC, nrm_dct, nrm_scr, nrm_setL, wFgt, tyN_non, tyN_bl, tyN_int, tyN_str, tyN_lst, tyN_tup, tyN_dct, keyD_int, keyD_str, isA, okT, beq_self_eq_true, String.reduceBEq, Bool.or_false, Bool.or_true, Bool.and_false, Bool.and_true, Bool.true_or, Bool.false_or, Bool.true_and, Bool.false_and, true_and, and_true, List.any_cons, List.any_nil, tyNames, Option.map_some, iRn1, iRn2, iRn3, iLst, nIt, iTp, iEn, iZp, iSt, wipeD, atI0, atI1, atI2, atI3, ixN0, ixN1, ixN2, ixN3, wSub, wLt, wLe, wGt, wGe, wDiv, wMod, wPow, wShl, Mp.set_same, Mp.set_set, cSortedA, cDictP, wNewD, wEqS, nEqS, wFrzT, mExt, mCnt, nIxL, sAugS, wSlS, wJoin, cSumL, dUnl, cSortLL, cMinLL, wLenSetT, wLenDictT, mIndexB, wLenSetJ, wAddT, wSortSet, wDNewT, sDPutT, cSortDT, wBMd, wDGet1, wDGet2, mUpd, wPairs, wDisp, wLtS, cMinS, cListD, cGcd, cAbs, nrm_refL hp]
  by_cases hpos : 0 < a
  · simp only [sSeq, sRet, sRetN, sIf, sDrop, sNever, sNext, sBreak, sCont, sAsg, sPar, sPar3, sAug, dName, dNil, dCons, dTup, dSub, sSetL, wVar, wC, wFrz, wFrzK, wOp, wAdd, nAdd, nI, nI0, wMul, nMul, wNeg, wEq, nEq, wIsN, wB, wAndT, wOrT, wNotT, wAndV, wOrV, wNotV, wIfE, wChain, aNil, aCons, aStar, wLst, wTup, wIx, nIx, pNo, pSo, wSl, wRev, wRevE, mIndex, wLenSet, cRepr, wIsB, wCB, cLen, cAll, cSum, cMax, cMin, cSorted, cInt, cList, cTuple, cIsi, wBits, wLRg, wBM, wBM0, mChg, wDGet, wDIn, wDNew, sDPutD, wIn, nIn, wCall, wCallK, wNew, tYesD, startD, List.map_cons, List.map_nil, List.length_cons, List.length_nil, List.replicate, Nat.sub_self, List.append_nil, List.cons_append, List.nil_append, List.getElem?_cons_zero, List.getElem?_cons_succ, List.set_cons_zero, List.set_cons_succ, Nat.reduceSub, Nat.reduceAdd, ite_true, ite_false, if_true, if_false, Bool.false_eq_true, Bool.true_eq_false, Bool.not_true, Bool.not_false, Option.some.injEq, nrm_non, nrm_bl, nrm_int, nrm_str, nrm_ty, nrm_lst, nrm_tupC, nrm_dct, nrm_scr, nrm_setL, wFgt, tyN_non, tyN_bl, tyN_int, tyN_str, tyN_lst, tyN_tup, tyN_dct, keyD_int, keyD_str, isA, okT, beq_self_eq_true, String.reduceBEq, Bool.or_false, Bool.or_true, Bool.and_false, Bool.and_true, Bool.true_or, Bool.false_or, Bool.true_and, Bool.false_and, true_and, and_true, List.any_cons, List.any_nil, tyNames, Option.map_some, iRn1, iRn2, iRn3, iLst, nIt, iTp, iEn, iZp, iSt, wipeD, atI0, atI1, atI2, atI3, ixN0, ixN1, ixN2, ixN3, wSub, wLt, wLe, wGt, wGe, wDiv, wMod, wPow, wShl, Mp.set_same, Mp.set_set, cSortedA, cDictP, wNewD, wEqS, nEqS, wFrzT, mExt, mCnt, nIxL, sAugS, wSlS, wJoin, cSumL, dUnl, cSortLL, cMinLL, wLenSetT, wLenDictT, mIndexB, wLenSetJ, wAddT, wSortSet, wDNewT, sDPutT, cSortDT, wBMd, wDGet1, wDGet2, mUpd, wPairs, wDisp, wLtS, cMinS, cListD, cGcd, cAbs, hpos, decide_true, hp]
    exact ⟨by omega, ⟨h0, .inr (log_le h0 h1)⟩, q _ _ (Int.emod_nonneg _ (by omega)) (Int.emod_lt_of_pos _ h0) ⟨_, _, _, _, rfl, Int.ediv_nonneg ha (by omega), hb, ⟨by omega, by omega⟩, he⟩⟩
  · simp only [sSeq, sRet, sRetN, sIf, sDrop, sNever, sNext, sBreak, sCont, sAsg, sPar, sPar3, sAug, dName, dNil, dCons, dTup, dSub, sSetL, wVar, wC, wFrz, wFrzK, wOp, wAdd, nAdd, nI, nI0, wMul, nMul, wNeg, wEq, nEq, wIsN, wB, wAndT, wOrT, wNotT, wAndV, wOrV, wNotV, wIfE, wChain, aNil, aCons, aStar, wLst, wTup, wIx, nIx, pNo, pSo, wSl, wRev, wRevE, mIndex, wLenSet, cRepr, wIsB, wCB, cLen, cAll, cSum, cMax, cMin, cSorted, cInt, cList, cTuple, cIsi, wBits, wLRg, wBM, wBM0, mChg, wDGet, wDIn, wDNew, sDPutD, wIn, nIn, wCall, wCallK, wNew, tYesD, startD, List.map_cons, List.map_nil, List.length_cons, List.length_nil, List.replicate, Nat.sub_self, List.append_nil, List.cons_append, List.nil_append, List.getElem?_cons_zero, List.getElem?_cons_succ, List.set_cons_zero, List.set_cons_succ, Nat.reduceSub, Nat.reduceAdd, ite_true, ite_false, if_true, if_false, Bool.false_eq_true, Bool.true_eq_false, Bool.not_true, Bool.not_false, Option.some.injEq, nrm_non, nrm_bl, nrm_int, nrm_str, nrm_ty, nrm_lst, nrm_tupC, nrm_dct, nrm_scr, nrm_setL, wFgt, tyN_non, tyN_bl, tyN_int, tyN_str, tyN_lst, tyN_tup, tyN_dct, keyD_int, keyD_str, isA, okT, beq_self_eq_true, String.reduceBEq, Bool.or_false, Bool.or_true, Bool.and_false, Bool.and_true, Bool.true_or, Bool.false_or, Bool.true_and, Bool.false_and, true_and, and_true, List.any_cons, List.any_nil, tyNames, Option.map_some, iRn1, iRn2, iRn3, iLst, nIt, iTp, iEn, iZp, iSt, wipeD, atI0, atI1, atI2, atI3, ixN0, ixN1, ixN2, ixN3, wSub, wLt, wLe, wGt, wGe, wDiv, wMod, wPow, wShl, Mp.set_same, Mp.set_set, cSortedA, cDictP, wNewD, wEqS, nEqS, wFrzT, mExt, mCnt, nIxL, sAugS, wSlS, wJoin, cSumL, dUnl, cSortLL, cMinLL, wLenSetT, wLenDictT, mIndexB, wLenSetJ, wAddT, wSortSet, wDNewT, sDPutT, cSortDT, wBMd, wDGet1, wDGet2, mUpd, wPairs, wDisp, wLtS, cMinS, cListD, cGcd, cAbs, hpos, decide_false]
    have hN : (1 + (Builtin.Int.intBits m : Int) / 28).toNat ≤ 3 := by omega
    refine for_ints (ns := rngI 0 1 (1 + (Builtin.Int.intBits m : Int) / 28).toNat) (P := fun _ => True) (fun i ρ M' => ∃ (c' f : Int) (y : Option D), ρ = [some (.ref p), some (.int m), none, some (.int f), y] ∧ M' = M.set p (.lst [.int a, .int b, .int c', .int e]) ∧ 0 ≤ c' ∧ c' ≤ B + i) (fun R h => ?_)
      ⟨c, 0, none, rfl, (Mp.set_self hp).symm, by omega, by omega⟩ (fun _ _ _ _ _ => trivial) (fun i k ρ M' hk w => ?_) (fun ρ M' w => ?_)
    · simp only [sSeq, sRet, sRetN, sIf, sDrop, sNever, sNext, sBreak, sCont, sAsg, sPar, sPar3, sAug, dName, dNil, dCons, dTup, dSub, sSetL, wVar, wC, wFrz, wFrzK, wOp, wAdd, nAdd, nI, nI0, wMul, nMul, wNeg, wEq, nEq, wIsN, wB, wAndT, wOrT, wNotT, wAndV, wOrV, wNotV, wIfE, wChain, aNil, aCons, aStar, wLst, wTup, wIx, nIx, pNo, pSo, wSl, wRev, wRevE, mIndex, wLenSet, cRepr, wIsB, wCB, cLen, cAll, cSum, cMax, cMin, cSorted, cInt, cList, cTuple, cIsi, wBits, wLRg, wBM, wBM0, mChg, wDGet, wDIn, wDNew, sDPutD, wIn, nIn, wCall, wCallK, wNew, tYesD, startD, List.map_cons, List.map_nil, List.length_cons, List.length_nil, List.replicate, Nat.sub_self, List.append_nil, List.cons_append, List.nil_append, List.getElem?_cons_zero, List.getElem?_cons_succ, List.set_cons_zero, List.set_cons_succ, Nat.reduceSub, Nat.reduceAdd, ite_true, ite_false, if_true, if_false, Bool.false_eq_true, Bool.true_eq_false, Bool.not_true, Bool.not_false, Option.some.injEq, nrm_non, nrm_bl, nrm_int, nrm_str, nrm_ty, nrm_lst, nrm_tupC, nrm_dct, nrm_scr, nrm_setL, wFgt, tyN_non, tyN_bl, tyN_int, tyN_str, tyN_lst, tyN_tup, tyN_dct, keyD_int, keyD_str, isA, okT, beq_self_eq_true, String.reduceBEq, Bool.or_false, Bool.or_true, Bool.and_false, Bool.and_true, Bool.true_or, Bool.false_or, Bool.true_and, Bool.false_and, true_and, and_true, List.any_cons, List.any_nil, tyNames, Option.map_some, iRn1, iRn2, iRn3, iLst, nIt, iTp, iEn, iZp, iSt, wipeD, atI0, atI1, atI2, atI3, ixN0, ixN1, ixN2, ixN3, wSub, wLt, wLe, wGt, wGe, wDiv, wMod, wPow, wShl, Mp.set_same, Mp.set_set, cSortedA, cDictP, wNewD, wEqS, nEqS, wFrzT, mExt, mCnt, nIxL, sAugS, wSlS, wJoin, cSumL, dUnl, cSortLL, cMinLL, wLenSetT, wLenDictT, mIndexB, wLenSetJ, wAddT, wSortSet, wDNewT, sDPutT, cSortDT, wBMd, wDGet1, wDGet2, mUpd, wPairs, wDisp, wLtS, cMinS, cListD, cGcd, cAbs]
      exact ⟨⟨by omega, .inl (by omega)⟩, ⟨by omega, by omega⟩, rngD_ints ▸ h⟩
    · obtain ⟨c', f', y, rfl, rfl, hc1, hc2⟩ := w
      obtain ⟨hi, _⟩ := rngI_get hk
      simp only [sSeq, sRet, sRetN, sIf, sDrop, sNever, sNext, sBreak, sCont, sAsg, sPar, sPar3, sAug, dName, dNil, dCons, dTup, dSub, sSetL, wVar, wC, wFrz, wFrzK, wOp, wAdd, nAdd, nI, nI0, wMul, nMul, wNeg, wEq, nEq, wIsN, wB, wAndT, wOrT, wNotT, wAndV, wOrV, wNotV, wIfE, wChain, aNil, aCons, aStar, wLst, wTup, wIx, nIx, pNo, pSo, wSl, wRev, wRevE, mIndex, wLenSet, cRepr, wIsB, wCB, cLen, cAll, cSum, cMax, cMin, cSorted, cInt, cList, cTuple, cIsi, wBits, wLRg, wBM, wBM0, mChg, wDGet, wDIn, wDNew, sDPutD, wIn, nIn, wCall, wCallK, wNew, tYesD, startD, List.map_cons, List.map_nil, List.length_cons, List.length_nil, List.replicate, Nat.sub_self, List.append_nil, List.cons_append, List.nil_append, List.getElem?_cons_zero, List.getElem?_cons_succ, List.set_cons_zero, List.set_cons_succ, Nat.reduceSub, Nat.reduceAdd, ite_true, ite_false, if_true, if_false, Bool.false_eq_true, Bool.true_eq_false, Bool.not_true, Bool.not_false, Option.some.injEq, nrm_non, nrm_bl, nrm_int, nrm_str, nrm_ty, nrm_lst, nrm_tupC, nrm_dct, nrm_scr, nrm_setL, wFgt, tyN_non, tyN_bl, tyN_int, tyN_str, tyN_lst, tyN_tup, tyN_dct, keyD_int, keyD_str, isA, okT, beq_self_eq_true, String.reduceBEq, Bool.or_false, Bool.or_true, Bool.and_false, Bool.and_true, Bool.true_or, Bool.false_or, Bool.true_and, Bool.false_and, true_and, and_true, List.any_cons, List.any_nil, tyNames, Option.map_some, iRn1, iRn2, iRn3, iLst, nIt, iTp, iEn, iZp, iSt, wipeD, atI0, atI1, atI2, atI3, ixN0, ixN1, ixN2, ixN3, wSub, wLt, wLe, wGt, wGe, wDiv, wMod, wPow, wShl, Mp.set_same, Mp.set_set, cSortedA, cDictP, wNewD, wEqS, nEqS, wFrzT, mExt, mCnt, nIxL, sAugS, wSlS, wJoin, cSumL, dUnl, cSortLL, cMinLL, wLenSetT, wLenDictT, mIndexB, wLenSetJ, wAddT, wSortSet, wDNewT, sDPutT, cSortDT, wBMd, wDGet1, wDGet2, mUpd, wPairs, wDisp, wLtS, cMinS, cListD, cGcd, cAbs]
      refine ⟨.inr (.inl (by omega)), b, c' + 1, e, rfl, hb, ⟨by omega, by omega⟩, fun r _ _ => ?_⟩
      exact ⟨c' + 1, f' * 2147483587 + r, some (.int k), rfl, rfl, by omega, by omega⟩
    · obtain ⟨c', f', y, rfl, rfl, hc1, hc2⟩ := w
      rw [rngI_length] at hc2
      simp only [sSeq, sRet, sRetN, sIf, sDrop, sNever, sNext, sBreak, sCont, sAsg, sPar, sPar3, sAug, dName, dNil, dCons, dTup, dSub, sSetL, wVar, wC, wFrz, wFrzK, wOp, wAdd, nAdd, nI, nI0, wMul, nMul, wNeg, wEq, nEq, wIsN, wB, wAndT, wOrT, wNotT, wAndV, wOrV, wNotV, wIfE, wChain, aNil, aCons, aStar, wLst, wTup, wIx, nIx, pNo, pSo, wSl, wRev, wRevE, mIndex, wLenSet, cRepr, wIsB, wCB, cLen, cAll, cSum, cMax, cMin, cSorted, cInt, cList, cTuple, cIsi, wBits, wLRg, wBM, wBM0, mChg, wDGet, wDIn, wDNew, sDPutD, wIn, nIn, wCall, wCallK, wNew, tYesD, startD, List.map_cons, List.map_nil, List.length_cons, List.length_nil, List.replicate, Nat.sub_self, List.append_nil, List.cons_append, List.nil_append, List.getElem?_cons_zero, List.getElem?_cons_succ, List.set_cons_zero, List.set_cons_succ, Nat.reduceSub, Nat.reduceAdd, ite_true, ite_false, if_true, if_false, Bool.false_eq_true, Bool.true_eq_false, Bool.not_true, Bool.not_false, Option.some.injEq, nrm_non, nrm_bl, nrm_int, nrm_str, nrm_ty, nrm_lst, nrm_tupC, nrm_dct, nrm_scr, nrm_setL, wFgt, tyN_non, tyN_bl, tyN_int, tyN_str, tyN_lst, tyN_tup, tyN_dct, keyD_int, keyD_str, isA, okT, beq_self_eq_true, String.reduceBEq, Bool.or_false, Bool.or_true, Bool.and_false, Bool.and_true, Bool.true_or, Bool.false_or, Bool.true_and, Bool.false_and, true_and, and_true, List.any_cons, List.any_nil, tyNames, Option.map_some, iRn1, iRn2, iRn3, iLst, nIt, iTp, iEn, iZp, iSt, wipeD, atI0, atI1, atI2, atI3, ixN0, ixN1, ixN2, ixN3, wSub, wLt, wLe, wGt, wGe, wDiv, wMod, wPow, wShl, Mp.set_same, Mp.set_set, cSortedA, cDictP, wNewD, wEqS, nEqS, wFrzT, mExt, mCnt, nIxL, sAugS, wSlS, wJoin, cSumL, dUnl, cSortLL, cMinLL, wLenSetT, wLenDictT, mIndexB, wLenSetJ, wAddT, wSortSet, wDNewT, sDPutT, cSortDT, wBMd, wDGet1, wDGet2, mUpd, wPairs, wDisp, wLtS, cMinS, cListD, cGcd, cAbs]
      exact ⟨h0, q _ _ (Int.emod_nonneg _ (by omega)) (Int.emod_lt_of_pos _ h0) ⟨a, b, c', e, rfl, ha, hb, ⟨hc1, by omega⟩, he⟩⟩
abbrev s_law_purses : Stmt := topS 34
theorem sc_law_purses : FnScope ["script", "few", "at"] ["script", "few"] (defScope s_law_purses) := ⟨rfl, rfl, rfl, by decide +kernel, rfl, by decide +kernel, by decide +kernel⟩
theorem ok_law_purses {f : Addr} {fd : FuncData} (F : FnP K "_law_purses" s_law_purses [] f fd)
    {f_law_purse : Addr} {fd_law_purse : FuncData} {ds_law_purse : List Value} (G_law_purse : Kn P w K mg base "_law_purse" ["script", "at"] (R_law_purse K) 1 [] ds_law_purse f_law_purse fd_law_purse)
    (m_range : mg "range" = none)
    (m_max : mg "max" = none)
    (m_min : mg "min" = none)
    (m_len : mg "len" = none) :
    FnG P w K mg base 2 f fd ["script", "few"] (spD (R_law_purses K)) := by
  have nd := sc_law_purses.nd
  refine fnD (k := 1) F sc_law_purses (len_law_purses K) fun cdv A outer s H E hr hq => ?_
  have hu := hu_of hr
  have hr65 := room65 hr
  have hr66 := room66 hr
  refine ⟨_, _, pss_one (ps_ret (pe_lc (own := [("at", 2)]) (by rfl) nd (pi_range1 (by rfl) m_range (pa_cons (pe_callB (call_maxA rfl) (by rfl) m_max (by decide +kernel) (pa_cons (pe_int) (pa_cons (pe_callB (call_minA rfl) (by rfl) m_min (by decide +kernel) (pa_cons (pv 1) (pa_cons (pe_callB call_lenA (by rfl) m_len (by decide +kernel) (pa_cons (pv 0) (pa_nil))) (pa_nil)))) (pa_nil)))) (pa_nil))) (blkOk_by (by kernel_rfl)) (fun _ _ _ _ _ => pg_name (i := 2) nd rfl (by first | exact .inl rfl | exact .inr rfl)) (fun _ _ _ _ _ => pts_nil) (fun _ _ _ _ _ => pe_callG (G_law_purse.ok.mono (by decide)) hr hq (by rfl) G_law_purse.m G_law_purse.kp G_law_purse.b G_law_purse.dv (pa_cons (pv 0) (pa_cons (pv 2) (pa_nil)))))),
    ts_ret (tr_lc (md := .frz) (ti_rng1 (ta_cons (tr_cb ct_max (ta_cons (tr_int) (ta_cons (tr_cb ct_min (ta_cons (tr_var (i := 1)) (ta_cons (tr_cb ct_len (ta_cons (tr_var (i := 0)) (ta_nil))) (ta_nil)))) (ta_nil)))) (ta_nil))) (tc_name (i := 2) (by decide)) (tt_yes) (tr_call (ta_cons (tr_var (i := 0)) (ta_cons (tr_var (i := 2)) (ta_nil))))), ?_⟩
  rintro ds M Q ⟨ns, e, rfl, hl, he, q⟩
  simp only [sSeq, sRet, sRetN, sIf, sDrop, sNever, sNext, sBreak, sCont, sAsg, sPar, sPar3, sAug, dName, dNil, dCons, dTup, dSub, sSetL, wVar, wC, wFrz, wFrzK, wOp, wAdd, nAdd, nI, nI0, wMul, nMul, wNeg, wEq, nEq, wIsN, wB, wAndT, wOrT, wNotT, wAndV, wOrV, wNotV, wIfE, wChain, aNil, aCons, aStar, wLst, wTup, wIx, nIx, pNo, pSo, wSl, wRev, wRevE, mIndex, wLenSet, cRepr, wIsB, wCB, cLen, cAll, cSum, cMax, cMin, cSorted, cInt, cList, cTuple, cIsi, wBits, wLRg, wBM, wBM0, mChg, wDGet, wDIn, wDNew, sDPutD, wIn, nIn, wCall, wCallK, wNew, tYesD, startD, List.map_cons, List.map_nil, List.length_cons, List.length_nil, List.replicate, Nat.sub_self, List.append_nil, List.cons_append, List.nil_append, List.getElem?_cons_zero, List.getElem?_cons_succ, List.set_cons_zero, List.set_cons_succ, Nat.reduceSub, Nat.reduceAdd, ite_true, ite_false, if_true, if_false, Bool.false_eq_true, Bool.true_eq_false, Bool.not_true, Bool.not_false, Option.some.injEq, nrm_non, nrm_bl, nrm_int, nrm_str, nrm_ty, nrm_lst, nrm_tupC, nrm_dct, nrm_scr, nrm_setL, wFgt, tyN_non, tyN_bl, tyN_int, tyN_str, tyN_lst, tyN_tup, tyN_dct, keyD_int, keyD_str, isA, okT, beq_self_eq_true, String.reduceBEq, Bool.or_false, Bool.or_true, Bool.and_false, Bool.and_true, Bool.true_or, Bool.false_or, Bool.true_and, Bool.false_and, true_and, and_true, List.any_cons, List.any_nil, tyNames, Option.map_some, iRn1, iRn2, iRn3, iLst, nIt, iTp, iEn, iZp, iSt, wipeD, atI0, atI1, atI2, atI3, ixN0, ixN1, ixN2, ixN3, wSub, wLt, wLe, wGt, wGe, wDiv, wMod, wPow, wShl, Mp.set_same, Mp.set_set, cSortedA, cDictP, wNewD, wEqS, nEqS, wFrzT, mExt, mCnt, nIxL, sAugS, wSlS, wJoin, cSumL, dUnl, cSortLL, cMinLL, wLenSetT, wLenDictT, mIndexB, wLenSetJ, wAddT, wSortSet, wDNewT, sDPutT, cSortDT, wBMd, wDGet1, wDGet2, mUpd, wPairs, wDisp, wLtS, cMinS, cListD, cGcd, cAbs]
  refine wLc_ints (ns := rngI 0 1 (max 1 (min e ns.length)).toNat) (P := fun _ => True) (fun i acc M' => ∃ ps : List Addr, acc = ps.map .ref ∧ ps.length = i ∧ ps.Nodup ∧ MLe M M' ∧ (∀ p ∈ ps, M p = none ∧ ∃ xs, PurseOk 0 xs ∧ M' p = some (.lst xs))) (fun R h => ?_) (by first | omega | (unfold Sz; omega) | (simp only [List.length_map, List.length_append, List.length_cons, List.length_nil, rngI_length, List.length_take, List.length_drop, List.length_reverse]; unfold Sz; omega))
    ⟨[], rfl, rfl, List.nodup_nil, MLe.refl M, by simp⟩ (fun _ _ _ _ _ => trivial) (fun i k acc M' hi w => ?_) fun acc M' w => ?_
  · simp only [sSeq, sRet, sRetN, sIf, sDrop, sNever, sNext, sBreak, sCont, sAsg, sPar, sPar3, sAug, dName, dNil, dCons, dTup, dSub, sSetL, wVar, wC, wFrz, wFrzK, wOp, wAdd, nAdd, nI, nI0, wMul, nMul, wNeg, wEq, nEq, wIsN, wB, wAndT, wOrT, wNotT, wAndV, wOrV, wNotV, wIfE, wChain, aNil, aCons, aStar, wLst, wTup, wIx, nIx, pNo, pSo, wSl, wRev, wRevE, mIndex, wLenSet, cRepr, wIsB, wCB, cLen, cAll, cSum, cMax, cMin, cSorted, cInt, cList, cTuple, cIsi, wBits, wLRg, wBM, wBM0, mChg, wDGet, wDIn, wDNew, sDPutD, wIn, nIn, wCall, wCallK, wNew, tYesD, startD, List.map_cons, List.map_nil, List.length_cons, List.length_nil, List.replicate, Nat.sub_self, List.append_nil, List.cons_append, List.nil_append, List.getElem?_cons_zero, List.getElem?_cons_succ, List.set_cons_zero, List.set_cons_succ, Nat.reduceSub, Nat.reduceAdd, ite_true, ite_false, if_true, if_false, Bool.false_eq_true, Bool.true_eq_false, Bool.not_true, Bool.not_false, Option.some.injEq, nrm_non, nrm_bl, nrm_int, nrm_str, nrm_ty, nrm_lst, nrm_tupC, nrm_dct, nrm_scr, nrm_setL, wFgt, tyN_non, tyN_bl, tyN_int, tyN_str, tyN_lst, tyN_tup, tyN_dct, keyD_int, keyD_str, isA, okT, beq_self_eq_true, String.reduceBEq, Bool.or_false, Bool.or_true, Bool.and_false, Bool.and_true, Bool.true_or, Bool.false_or, Bool.true_and, Bool.false_and, true_and, and_true, List.any_cons, List.any_nil, tyNames, Option.map_some, iRn1, iRn2, iRn3, iLst, nIt, iTp, iEn, iZp, iSt, wipeD, atI0, atI1, atI2, atI3, ixN0, ixN1, ixN2, ixN3, wSub, wLt, wLe, wGt, wGe, wDiv, wMod, wPow, wShl, Mp.set_same, Mp.set_set, cSortedA, cDictP, wNewD, wEqS, nEqS, wFrzT, mExt, mCnt, nIxL, sAugS, wSlS, wJoin, cSumL, dUnl, cSortLL, cMinLL, wLenSetT, wLenDictT, mIndexB, wLenSetJ, wAddT, wSortSet, wDNewT, sDPutT, cSortDT, wBMd, wDGet1, wDGet2, mUpd, wPairs, wDisp, wLtS, cMinS, cListD, cGcd, cAbs, List.length_map]
    exact ⟨rfl, ⟨by omega, by omega⟩, rngD_ints ▸ h⟩
  · obtain ⟨ps, rfl, hpl, hnd, hle, hps⟩ := w
    obtain ⟨hi1, hke⟩ := rngI_get hi
    simp only [sSeq, sRet, sRetN, sIf, sDrop, sNever, sNext, sBreak, sCont, sAsg, sPar, sPar3, sAug, dName, dNil, dCons, dTup, dSub, sSetL, wVar, wC, wFrz, wFrzK, wOp, wAdd, nAdd, nI, nI0, wMul, nMul, wNeg, wEq, nEq, wIsN, wB, wAndT, wOrT, wNotT, wAndV, wOrV, wNotV, wIfE, wChain, aNil, aCons, aStar, wLst, wTup, wIx, nIx, pNo, pSo, wSl, wRev, wRevE, mIndex, wLenSet, cRepr, wIsB, wCB, cLen, cAll, cSum, cMax, cMin, cSorted, cInt, cList, cTuple, cIsi, wBits, wLRg, wBM, wBM0, mChg, wDGet, wDIn, wDNew, sDPutD, wIn, nIn, wCall, wCallK, wNew, tYesD, startD, List.map_cons, List.map_nil, List.length_cons, List.length_nil, List.replicate, Nat.sub_self, List.append_nil, List.cons_append, List.nil_append, List.getElem?_cons_zero, List.getElem?_cons_succ, List.set_cons_zero, List.set_cons_succ, Nat.reduceSub, Nat.reduceAdd, ite_true, ite_false, if_true, if_false, Bool.false_eq_true, Bool.true_eq_false, Bool.not_true, Bool.not_false, Option.some.injEq, nrm_non, nrm_bl, nrm_int, nrm_str, nrm_ty, nrm_lst, nrm_tupC, nrm_dct, nrm_scr, nrm_setL, wFgt, tyN_non, tyN_bl, tyN_int, tyN_str, tyN_lst, tyN_tup, tyN_dct, keyD_int, keyD_str, isA, okT, beq_self_eq_true, String.reduceBEq, Bool.or_false, Bool.or_true, Bool.and_false, Bool.and_true, Bool.true_or, Bool.false_or, Bool.true_and, Bool.false_and, true_and, and_true, List.any_cons, List.any_nil, tyNames, Option.map_some, iRn1, iRn2, iRn3, iLst, nIt, iTp, iEn, iZp, iSt, wipeD, atI0, atI1, atI2, atI3, ixN0, ixN1, ixN2, ixN3, wSub, wLt, wLe, wGt, wGe, wDiv, wMod, wPow, wShl, Mp.set_same, Mp.set_set, cSortedA, cDictP, wNewD, wEqS, nEqS, wFrzT, mExt, mCnt, nIxL, sAugS, wSlS, wJoin, cSumL, dUnl, cSortLL, cMinLL, wLenSetT, wLenDictT, mIndexB, wLenSetJ, wAddT, wSortSet, wDNewT, sDPutT, cSortDT, wBMd, wDGet1, wDGet2, mUpd, wPairs, wDisp, wLtS, cMinS, cListD, cGcd, cAbs]
    refine ⟨ns, k, rfl, by omega, fun p xs hp hx => ⟨ps ++ [p], by simp, by simp [hpl], ?_, hle.put (hle.none hp), fun r hr => ?_⟩⟩
    · rw [List.nodup_append]
      refine ⟨hnd, by simp, ?_⟩
      rintro a ha b hb rfl
      simp at hb
      subst hb
      obtain ⟨_, xs, _, h2⟩ := hps a ha
      rw [hp] at h2; cases h2
    · rcases List.mem_append.mp hr with hr | hr
      · obtain ⟨h1, xs', h2, h3⟩ := hps r hr
        refine ⟨h1, xs', h2, ?_⟩
        rw [Mp.set_ne (Mp.ne hp h3)]; exact h3
      · simp at hr
        subst hr
        exact ⟨hle.none hp, xs, hx, Mp.set_same⟩
  · obtain ⟨ps, rfl, hpl, hnd, hle, hps⟩ := w
    rw [rngI_length] at hpl
    simp only [sSeq, sRet, sRetN, sIf, sDrop, sNever, sNext, sBreak, sCont, sAsg, sPar, sPar3, sAug, dName, dNil, dCons, dTup, dSub, sSetL, wVar, wC, wFrz, wFrzK, wOp, wAdd, nAdd, nI, nI0, wMul, nMul, wNeg, wEq, nEq, wIsN, wB, wAndT, wOrT, wNotT, wAndV, wOrV, wNotV, wIfE, wChain, aNil, aCons, aStar, wLst, wTup, wIx, nIx, pNo, pSo, wSl, wRev, wRevE, mIndex, wLenSet, cRepr, wIsB, wCB, cLen, cAll, cSum, cMax, cMin, cSorted, cInt, cList, cTuple, cIsi, wBits, wLRg, wBM, wBM0, mChg, wDGet, wDIn, wDNew, sDPutD, wIn, nIn, wCall, wCallK, wNew, tYesD, startD, List.map_cons, List.map_nil, List.length_cons, List.length_nil, List.replicate, Nat.sub_self, List.append_nil, List.cons_append, List.nil_append, List.getElem?_cons_zero, List.getElem?_cons_succ, List.set_cons_zero, List.set_cons_succ, Nat.reduceSub, Nat.reduceAdd, ite_true, ite_false, if_true, if_false, Bool.false_eq_true, Bool.true_eq_false, Bool.not_true, Bool.not_false, Option.some.injEq, nrm_non, nrm_bl, nrm_int, nrm_str, nrm_ty, nrm_lst, nrm_tupC, nrm_dct, nrm_scr, nrm_setL, wFgt, tyN_non, tyN_bl, tyN_int, tyN_str, tyN_lst, tyN_tup, tyN_dct, keyD_int, keyD_str, isA, okT, beq_self_eq_true, String.reduceBEq, Bool.or_false, Bool.or_true, Bool.and_false, Bool.and_true, Bool.true_or, Bool.false_or, Bool.true_and, Bool.false_and, true_and, and_true, List.any_cons, List.any_nil, tyNames, Option.map_some, iRn1, iRn2, iRn3, iLst, nIt, iTp, iEn, iZp, iSt, wipeD, atI0, atI1, atI2, atI3, ixN0, ixN1, ixN2, ixN3, wSub, wLt, wLe, wGt, wGe, wDiv, wMod, wPow, wShl, Mp.set_same, Mp.set_set, cSortedA, cDictP, wNewD, wEqS, nEqS, wFrzT, mExt, mCnt, nIxL, sAugS, wSlS, wJoin, cSumL, dUnl, cSortLL, cMinLL, wLenSetT, wLenDictT, mIndexB, wLenSetJ, wAddT, wSortSet, wDNewT, sDPutT, cSortDT, wBMd, wDGet1, wDGet2, mUpd, wPairs, wDisp, wLtS, cMinS, cListD, cGcd, cAbs]
    exact q ps M' (by omega) hnd hle hps
abbrev s_is_pack : Stmt := topS 9
theorem sc_is_pack : FnScope ["value", "card"] ["value"] (defScope s_is_pack) := ⟨rfl, rfl, rfl, by decide +kernel, rfl, by decide +kernel, by decide +kernel⟩
theorem ok_is_pack {f : Addr} {fd : FuncData} (F : FnP K "is_pack" s_is_pack [] f fd)
    {f_is_count : Addr} {fd_is_count : FuncData} {ds_is_count : List Value} (G_is_count : Kn P w K mg base "is_count" ["value", "least"] R_is_count 2 [.int 0] ds_is_count f_is_count fd_is_count)
    (m_isinstance : mg "isinstance" = none)
    (m_list : mg "list" = none)
    (m_all : mg "all" = none)
    (m_len : mg "len" = none)
    (m_set : mg "set" = none) :
    FnG P w K mg base 3 f fd ["value"] (spD R_is_pack) := by
  have nd := sc_is_pack.nd
  refine fnD (k := 2) F sc_is_pack len_is_pack fun cdv A outer s H E hr hq => ?_
  have hu := hu_of hr
  have hr65 := room65 hr
  have hr66 := room66 hr
  refine ⟨_, _, pss_cons (ps_if (PW.pt (pw_or (pt_not (pt_val (pe_callB call_isiA (by rfl) m_isinstance (by decide +kernel) (pa_cons (pv 0) (pa_cons (pe_bltn (v := .ty "list") (by rfl) m_list (by decide +kernel) rfl) (pa_nil)))))) (pw_or1 (pt_not (pt_val (pe_callB (cr_all rfl) (by rfl) m_all (by decide +kernel) (pa_cons (pe_lc (own := [("card", 1)]) (by rfl) nd (pi_list (pv 0)) (blkOk_by (by kernel_rfl)) (fun _ _ _ _ _ => pg_name (i := 1) nd rfl (by first | exact .inl rfl | exact .inr rfl)) (fun _ _ _ _ _ => pts_nil) (fun _ _ _ _ _ => pe_callG (G_is_count.ok.mono (by decide)) hr hq (by rfl) G_is_count.m G_is_count.kp G_is_count.b G_is_count.dv (pa_cons (pv 1) (pa_nil)))) (pa_nil)))))))) (pss_one (ps_ret (pe_bl))) (pss_nil))
      (pss_one (ps_ret (pe_cmpR (op_eqD hr.units) (RZ.pe_lenSetI (by rfl) m_len (by rfl) m_set (pv 0)) (pe_callB call_lenA (by rfl) m_len (by decide +kernel) (pa_cons (pv 0) (pa_nil))) (nomark _)))),
    ts_seq (ts_if (tt_or (tt_not (tt_B (tr_cb ct_isi (ta_cons (tr_var (i := 0)) (ta_cons (tr_ty) (ta_nil)))))) (tt_not (tt_B (tr_cb ct_all (ta_cons (tr_lc (md := .frz) (ti_list (tr_var (i := 0))) (tc_name (i := 1) (by decide)) (tt_yes) (tr_call (ta_cons (tr_var (i := 1)) (ta_nil)) (by exact .cons (d := .int 0) (fun _ => rfl) .nil))) (ta_nil)))))) (ts_ret (tr_bl)) (ts_next))
      (ts_ret (tr_op ot_eq (tr_lenSet (tr_var (i := 0))) (tr_cb ct_len (ta_cons (tr_var (i := 0)) (ta_nil))))), ?_⟩
  rintro ds M Q ⟨x, ns, rfl, hx, ⟨h0, h1, h2⟩, q⟩
  simp only [sSeq, sRet, sRetN, sIf, sDrop, sNever, sNext, sBreak, sCont, sAsg, sPar, sPar3, sAug, dName, dNil, dCons, dTup, dSub, sSetL, wVar, wC, wFrz, wFrzK, wOp, wAdd, nAdd, nI, nI0, wMul, nMul, wNeg, wEq, nEq, wIsN, wB, wAndT, wOrT, wNotT, wAndV, wOrV, wNotV, wIfE, wChain, aNil, aCons, aStar, wLst, wTup, wIx, nIx, pNo, pSo, wSl, wRev, wRevE, mIndex, wLenSet, cRepr, wIsB, wCB, cLen, cAll, cSum, cMax, cMin, cSorted, cInt, cList, cTuple, cIsi, wBits, wLRg, wBM, wBM0, mChg, wDGet, wDIn, wDNew, sDPutD, wIn, nIn, wCall, wCallK, wNew, tYesD, startD, List.map_cons, List.map_nil, List.length_cons, List.length_nil, List.replicate, Nat.sub_self, List.append_nil, List.cons_append, List.nil_append, List.getElem?_cons_zero, List.getElem?_cons_succ, List.set_cons_zero, List.set_cons_succ, Nat.reduceSub, Nat.reduceAdd, ite_true, ite_false, if_true, if_false, Bool.false_eq_true, Bool.true_eq_false, Bool.not_true, Bool.not_false, Option.some.injEq, nrm_non, nrm_bl, nrm_int, nrm_str, nrm_ty, nrm_lst, nrm_tupC, nrm_dct, nrm_scr, nrm_setL, wFgt, tyN_non, tyN_bl, tyN_int, tyN_str, tyN_lst, tyN_tup, tyN_dct, keyD_int, keyD_str, isA, okT, beq_self_eq_true, String.reduceBEq, Bool.or_false, Bool.or_true, Bool.and_false, Bool.and_true, Bool.true_or, Bool.false_or, Bool.true_and, Bool.false_and, true_and, and_true, List.any_cons, List.any_nil, tyNames, Option.map_some, iRn1, iRn2, iRn3, iLst, nIt, iTp, iEn, iZp, iSt, wipeD, atI0, atI1, atI2, atI3, ixN0, ixN1, ixN2, ixN3, wSub, wLt, wLe, wGt, wGe, wDiv, wMod, wPow, wShl, Mp.set_same, Mp.set_set, cSortedA, cDictP, wNewD, wEqS, nEqS, wFrzT, mExt, mCnt, nIxL, sAugS, wSlS, wJoin, cSumL, dUnl, cSortLL, cMinLL, wLenSetT, wLenDictT, mIndexB, wLenSetJ, wAddT, wSortSet, wDNewT, sDPutT, cSortDT, wBMd, wDGet1, wDGet2, mUpd, wPairs, wDisp, wLtS, cMinS, cListD, cGcd, cAbs, hx]
  refine lc_map (xs := ns.map D.int) (P := fun M' => nrm M' x = .lst (ns.map .int)) (fun d => .bl true) (fun R h => by simp only [sSeq, sRet, sRetN, sIf, sDrop, sNever, sNext, sBreak, sCont, sAsg, sPar, sPar3, sAug, dName, dNil, dCons, dTup, dSub, sSetL, wVar, wC, wFrz, wFrzK, wOp, wAdd, nAdd, nI, nI0, wMul, nMul, wNeg, wEq, nEq, wIsN, wB, wAndT, wOrT, wNotT, wAndV, wOrV, wNotV, wIfE, wChain, aNil, aCons, aStar, wLst, wTup, wIx, nIx, pNo, pSo, wSl, wRev, wRevE, mIndex, wLenSet, cRepr, wIsB, wCB, cLen, cAll, cSum, cMax, cMin, cSorted, cInt, cList, cTuple, cIsi, wBits, wLRg, wBM, wBM0, mChg, wDGet, wDIn, wDNew, sDPutD, wIn, nIn, wCall, wCallK, wNew, tYesD, startD, List.map_cons, List.map_nil, List.length_cons, List.length_nil, List.replicate, Nat.sub_self, List.append_nil, List.cons_append, List.nil_append, List.getElem?_cons_zero, List.getElem?_cons_succ, List.set_cons_zero, List.set_cons_succ, Nat.reduceSub, Nat.reduceAdd, ite_true, ite_false, if_true, if_false, Bool.false_eq_true, Bool.true_eq_false, Bool.not_true, Bool.not_false, Option.some.injEq, nrm_non, nrm_bl, nrm_int, nrm_str, nrm_ty, nrm_lst, nrm_tupC, nrm_dct, nrm_scr, nrm_setL, wFgt, tyN_non, tyN_bl, tyN_int, tyN_str, tyN_lst, tyN_tup, tyN_dct, keyD_int, keyD_str, isA, okT, beq_self_eq_true, String.reduceBEq, Bool.or_false, Bool.or_true, Bool.and_false, Bool.and_true, Bool.true_or, Bool.false_or, Bool.true_and, Bool.false_and, true_and, and_true, List.any_cons, List.any_nil, tyNames, Option.map_some, iRn1, iRn2, iRn3, iLst, nIt, iTp, iEn, iZp, iSt, wipeD, atI0, atI1, atI2, atI3, ixN0, ixN1, ixN2, ixN3, wSub, wLt, wLe, wGt, wGe, wDiv, wMod, wPow, wShl, Mp.set_same, Mp.set_set, cSortedA, cDictP, wNewD, wEqS, nEqS, wFrzT, mExt, mCnt, nIxL, sAugS, wSlS, wJoin, cSumL, dUnl, cSortLL, cMinLL, wLenSetT, wLenDictT, mIndexB, wLenSetJ, wAddT, wSortSet, wDNewT, sDPutT, cSortDT, wBMd, wDGet1, wDGet2, mUpd, wPairs, wDisp, wLtS, cMinS, cListD, cGcd, cAbs, hx]; exact h) hx (by first | omega | (unfold Sz; omega) | (simp only [List.length_map, List.length_append, List.length_cons, List.length_nil, rngI_length, List.length_take, List.length_drop, List.length_reverse]; unfold Sz; omega)) (fun d hd C c => ?_) ?_
  · obtain ⟨n, hn, rfl⟩ := List.mem_map.mp hd
    have hc : countD 0 (.int n) = true := by unfold countD; rw [decide_eq_true_iff]; have := h0 n hn; omega
    simp only [sSeq, sRet, sRetN, sIf, sDrop, sNever, sNext, sBreak, sCont, sAsg, sPar, sPar3, sAug, dName, dNil, dCons, dTup, dSub, sSetL, wVar, wC, wFrz, wFrzK, wOp, wAdd, nAdd, nI, nI0, wMul, nMul, wNeg, wEq, nEq, wIsN, wB, wAndT, wOrT, wNotT, wAndV, wOrV, wNotV, wIfE, wChain, aNil, aCons, aStar, wLst, wTup, wIx, nIx, pNo, pSo, wSl, wRev, wRevE, mIndex, wLenSet, cRepr, wIsB, wCB, cLen, cAll, cSum, cMax, cMin, cSorted, cInt, cList, cTuple, cIsi, wBits, wLRg, wBM, wBM0, mChg, wDGet, wDIn, wDNew, sDPutD, wIn, nIn, wCall, wCallK, wNew, tYesD, startD, List.map_cons, List.map_nil, List.length_cons, List.length_nil, List.replicate, Nat.sub_self, List.append_nil, List.cons_append, List.nil_append, List.getElem?_cons_zero, List.getElem?_cons_succ, List.set_cons_zero, List.set_cons_succ, Nat.reduceSub, Nat.reduceAdd, ite_true, ite_false, if_true, if_false, Bool.false_eq_true, Bool.true_eq_false, Bool.not_true, Bool.not_false, Option.some.injEq, nrm_non, nrm_bl, nrm_int, nrm_str, nrm_ty, nrm_lst, nrm_tupC, nrm_dct, nrm_scr, nrm_setL, wFgt, tyN_non, tyN_bl, tyN_int, tyN_str, tyN_lst, tyN_tup, tyN_dct, keyD_int, keyD_str, isA, okT, beq_self_eq_true, String.reduceBEq, Bool.or_false, Bool.or_true, Bool.and_false, Bool.and_true, Bool.true_or, Bool.false_or, Bool.true_and, Bool.false_and, true_and, and_true, List.any_cons, List.any_nil, tyNames, Option.map_some, iRn1, iRn2, iRn3, iLst, nIt, iTp, iEn, iZp, iSt, wipeD, atI0, atI1, atI2, atI3, ixN0, ixN1, ixN2, ixN3, wSub, wLt, wLe, wGt, wGe, wDiv, wMod, wPow, wShl, Mp.set_same, Mp.set_set, cSortedA, cDictP, wNewD, wEqS, nEqS, wFrzT, mExt, mCnt, nIxL, sAugS, wSlS, wJoin, cSumL, dUnl, cSortLL, cMinLL, wLenSetT, wLenDictT, mIndexB, wLenSetJ, wAddT, wSortSet, wDNewT, sDPutT, cSortDT, wBMd, wDGet1, wDGet2, mUpd, wPairs, wDisp, wLtS, cMinS, cListD, cGcd, cAbs]
    refine ⟨_, 0, rfl, rfl, ?_⟩
    rw [hc]; exact c
  · have e : (((ns.map D.int).map fun _ => true).all id) = true := by rw [List.all_map]; exact List.all_eq_true.mpr fun _ _ => rfl
    simp only [sSeq, sRet, sRetN, sIf, sDrop, sNever, sNext, sBreak, sCont, sAsg, sPar, sPar3, sAug, dName, dNil, dCons, dTup, dSub, sSetL, wVar, wC, wFrz, wFrzK, wOp, wAdd, nAdd, nI, nI0, wMul, nMul, wNeg, wEq, nEq, wIsN, wB, wAndT, wOrT, wNotT, wAndV, wOrV, wNotV, wIfE, wChain, aNil, aCons, aStar, wLst, wTup, wIx, nIx, pNo, pSo, wSl, wRev, wRevE, mIndex, wLenSet, cRepr, wIsB, wCB, cLen, cAll, cSum, cMax, cMin, cSorted, cInt, cList, cTuple, cIsi, wBits, wLRg, wBM, wBM0, mChg, wDGet, wDIn, wDNew, sDPutD, wIn, nIn, wCall, wCallK, wNew, tYesD, startD, List.map_cons, List.map_nil, List.length_cons, List.length_nil, List.replicate, Nat.sub_self, List.append_nil, List.cons_append, List.nil_append, List.getElem?_cons_zero, List.getElem?_cons_succ, List.set_cons_zero, List.set_cons_succ, Nat.reduceSub, Nat.reduceAdd, ite_true, ite_false, if_true, if_false, Bool.false_eq_true, Bool.true_eq_false, Bool.not_true, Bool.not_false, Option.some.injEq, nrm_non, nrm_bl, nrm_int, nrm_str, nrm_ty, nrm_lst, nrm_tupC, nrm_dct, nrm_scr, nrm_setL, wFgt, tyN_non, tyN_bl, tyN_int, tyN_str, tyN_lst, tyN_tup, tyN_dct, keyD_int, keyD_str, isA, okT, beq_self_eq_true, String.reduceBEq, Bool.or_false, Bool.or_true, Bool.and_false, Bool.and_true, Bool.true_or, Bool.false_or, Bool.true_and, Bool.false_and, true_and, and_true, List.any_cons, List.any_nil, tyNames, Option.map_some, iRn1, iRn2, iRn3, iLst, nIt, iTp, iEn, iZp, iSt, wipeD, atI0, atI1, atI2, atI3, ixN0, ixN1, ixN2, ixN3, wSub, wLt, wLe, wGt, wGe, wDiv, wMod, wPow, wShl, Mp.set_same, Mp.set_set, cSortedA, cDictP, wNewD, wEqS, nEqS, wFrzT, mExt, mCnt, nIxL, sAugS, wSlS, wJoin, cSumL, dUnl, cSortLL, cMinLL, wLenSetT, wLenDictT, mIndexB, wLenSetJ, wAddT, wSortSet, wDNewT, sDPutT, cSortDT, wBMd, wDGet1, wDGet2, mUpd, wPairs, wDisp, wLtS, cMinS, cListD, cGcd, cAbs, bools_trues, e, wLenSet, hx, ints_map, List.length_map, decide_true]
    exact ⟨⟨h1, h2⟩, q⟩
abbrev s_are_counts : Stmt := topS 19
theorem sc_are_counts : FnScope ["value", "count"] ["value"] (defScope s_are_counts) := ⟨rfl, rfl, rfl, by decide +kernel, rfl, by decide +kernel, by decide +kernel⟩
theorem ok_are_counts {f : Addr} {fd : FuncData} (F : FnP K "are_counts" s_are_counts [] f fd)
    {f_is_count : Addr} {fd_is_count : FuncData} (G_is_count_all : Kn P w K mg base "is_count" ["value", "least"] R_is_count 2 [] [] f_is_count fd_is_count)
    (m_isinstance : mg "isinstance" = none)
    (m_list : mg "list" = none)
    (m_all : mg "all" = none) :
    FnG P w K mg base 3 f fd ["value"] (spD R_are_counts) := by
  have nd := sc_are_counts.nd
  refine fnD (k := 2) F sc_are_counts len_are_counts fun cdv A outer s H E hr hq => ?_
  have hu := hu_of hr
  have hr65 := room65 hr
  have hr66 := room66 hr
  refine ⟨_, _, pss_one (ps_ret (pe_and (pe_callB call_isiA (by rfl) m_isinstance (by decide +kernel) (pa_cons (pv 0) (pa_cons (pe_bltn (v := .ty "list") (by rfl) m_list (by decide +kernel) rfl) (pa_nil)))) (pe_one (pe_callB (cr_all rfl) (by rfl) m_all (by decide +kernel) (pa_cons (pe_lc (own := [("count", 1)]) (by rfl) nd (pi_list (pv 0)) (blkOk_by (by kernel_rfl)) (fun _ _ _ _ _ => pg_name (i := 1) nd rfl (by first | exact .inl rfl | exact .inr rfl)) (fun _ _ _ _ _ => pts_nil) (fun _ _ _ _ _ => pe_callG (G_is_count_all.ok.mono (by decide)) hr hq (by rfl) G_is_count_all.m G_is_count_all.kp G_is_count_all.b G_is_count_all.dv (pa_cons (pv 1) (pa_cons (pe_int) (pa_nil))))) (pa_nil)))))),
    ts_ret (tr_and (tr_cb ct_isi (ta_cons (tr_var (i := 0)) (ta_cons (tr_ty) (ta_nil)))) (tr_cb ct_all (ta_cons (tr_lc (md := .frz) (ti_list (tr_var (i := 0))) (tc_name (i := 1) (by decide)) (tt_yes) (tr_call (ta_cons (tr_var (i := 1)) (ta_cons (tr_int) (ta_nil))))) (ta_nil)))), ?_⟩
  rintro ds M Q ⟨x, ns, rfl, hx, hn, hl, q⟩
  ((try simp only [sSeq]); simp only [sRet, sRetN, sIf, sDrop, sNever, sNext, sBreak, sCont, sAsg, sPar, sPar3, sAug, dName, dNil, dCons, dTup, dSub, sSetL, wVar, wC, wFrz, wFrzK, wOp, wAdd, nAdd, nI, nI0, wMul, nMul, wNeg, wEq, nEq, wIsN, wB, wAndT, wOrT, wNotT, wAndV, wOrV, wNotV, wIfE, wChain, aNil, aCons, aStar, wLst, wTup, wIx, nIx, pNo, pSo, wSl, wRev, wRevE, mIndex, wLenSet, cRepr, wIsB, wCB, cLen, cAll, cSum, cMax, cMin, cSorted, cInt, cList, cTuple, cIsi, wBits, wLRg, wBM, wBM0, mChg, wDGet, wDIn, wDNew, sDPutD, wIn, nIn, wCall, wCallK, wNew, tYesD, startD, List.map_cons, List.map_nil, List.length_cons, List.length_nil, List.replicate, Nat.sub_self, List.append_nil, List.cons_append, List.nil_append, List.getElem?_cons_zero, List.getElem?_cons_succ, List.set_cons_zero, List.set_cons_succ, Nat.reduceSub, Nat.reduceAdd, ite_true, ite_false, if_true, if_false, Bool.false_eq_true, Bool.true_eq_false, Bool.not_true, Bool.not_false, Option.some.injEq, nrm_non, nrm_bl, nrm_int, nrm_str, nrm_ty, nrm_lst, nrm_tupC, nrm_dct, nrm_scr, nrm_setL, wFgt, tyN_non, tyN_bl, tyN_int, tyN_str, tyN_lst, tyN_tup, tyN_dct, keyD_int, keyD_str, isA, okT, beq_self_eq_true, String.reduceBEq, Bool.or_false, Bool.or_true, Bool.and_false, Bool.and_true, Bool.true_or, Bool.false_or, Bool.true_and, Bool.false_and, true_and, and_true, List.any_cons, List.any_nil, tyNames, Option.map_some, iRn1, iRn2, iRn3, iLst, nIt, iTp, iEn, iZp, iSt, wipeD, atI0, atI1, atI2, atI3, ixN0, ixN1, ixN2, ixN3, wSub, wLt, wLe, wGt, wGe, wDiv, wMod, wPow, wShl, Mp.set_same, Mp.set_set, cSortedA, cDictP, wNewD, wEqS, nEqS, wFrzT, mExt, mCnt, nIxL, sAugS, wSlS, wJoin, cSumL, dUnl, cSortLL, cMinLL, wLenSetT, wLenDictT, mIndexB, wLenSetJ, wAddT, wSortSet, wDNewT, sDPutT, cSortDT, wBMd, wDGet1, wDGet2, mUpd, wPairs, wDisp, wLtS, cMinS, cListD, cGcd, cAbs, hx])
  refine lc_map (xs := ns.map D.int) (P := fun M' => nrm M' x = .lst (ns.map .int)) (fun _ => .bl true) (fun R h => ?_) hx (by rw [List.length_map]; exact (by first | omega | (unfold Sz; omega) | (simp only [List.length_map, List.length_append, List.length_cons, List.length_nil, rngI_length, List.length_take, List.length_drop, List.length_reverse]; unfold Sz; omega))) (fun d hd C c => ?_) ?_
  · simp only [sSeq, sRet, sRetN, sIf, sDrop, sNever, sNext, sBreak, sCont, sAsg, sPar, sPar3, sAug, dName, dNil, dCons, dTup, dSub, sSetL, wVar, wC, wFrz, wFrzK, wOp, wAdd, nAdd, nI, nI0, wMul, nMul, wNeg, wEq, nEq, wIsN, wB, wAndT, wOrT, wNotT, wAndV, wOrV, wNotV, wIfE, wChain, aNil, aCons, aStar, wLst, wTup, wIx, nIx, pNo, pSo, wSl, wRev, wRevE, mIndex, wLenSet, cRepr, wIsB, wCB, cLen, cAll, cSum, cMax, cMin, cSorted, cInt, cList, cTuple, cIsi, wBits, wLRg, wBM, wBM0, mChg, wDGet, wDIn, wDNew, sDPutD, wIn, nIn, wCall, wCallK, wNew, tYesD, startD, List.map_cons, List.map_nil, List.length_cons, List.length_nil, List.replicate, Nat.sub_self, List.append_nil, List.cons_append, List.nil_append, List.getElem?_cons_zero, List.getElem?_cons_succ, List.set_cons_zero, List.set_cons_succ, Nat.reduceSub, Nat.reduceAdd, ite_true, ite_false, if_true, if_false, Bool.false_eq_true, Bool.true_eq_false, Bool.not_true, Bool.not_false, Option.some.injEq, nrm_non, nrm_bl, nrm_int, nrm_str, nrm_ty, nrm_lst, nrm_tupC, nrm_dct, nrm_scr, nrm_setL, wFgt, tyN_non, tyN_bl, tyN_int, tyN_str, tyN_lst, tyN_tup, tyN_dct, keyD_int, keyD_str, isA, okT, beq_self_eq_true, String.reduceBEq, Bool.or_false, Bool.or_true, Bool.and_false, Bool.and_true, Bool.true_or, Bool.false_or, Bool.true_and, Bool.false_and, true_and, and_true, List.any_cons, List.any_nil, tyNames, Option.map_some, iRn1, iRn2, iRn3, iLst, nIt, iTp, iEn, iZp, iSt, wipeD, atI0, atI1, atI2, atI3, ixN0, ixN1, ixN2, ixN3, wSub, wLt, wLe, wGt, wGe, wDiv, wMod, wPow, wShl, Mp.set_same, Mp.set_set, cSortedA, cDictP, wNewD, wEqS, nEqS, wFrzT, mExt, mCnt, nIxL, sAugS, wSlS, wJoin, cSumL, dUnl, cSortLL, cMinLL, wLenSetT, wLenDictT, mIndexB, wLenSetJ, wAddT, wSortSet, wDNewT, sDPutT, cSortDT, wBMd, wDGet1, wDGet2, mUpd, wPairs, wDisp, wLtS, cMinS, cListD, cGcd, cAbs, hx]
    exact h
  · obtain ⟨k, hk, rfl⟩ := List.mem_map.mp hd
    have ec : countD 1 (.int k) = true := by unfold countD; have := hn k hk; rw [decide_eq_true_iff]; omega
    simp only [sSeq, sRet, sRetN, sIf, sDrop, sNever, sNext, sBreak, sCont, sAsg, sPar, sPar3, sAug, dName, dNil, dCons, dTup, dSub, sSetL, wVar, wC, wFrz, wFrzK, wOp, wAdd, nAdd, nI, nI0, wMul, nMul, wNeg, wEq, nEq, wIsN, wB, wAndT, wOrT, wNotT, wAndV, wOrV, wNotV, wIfE, wChain, aNil, aCons, aStar, wLst, wTup, wIx, nIx, pNo, pSo, wSl, wRev, wRevE, mIndex, wLenSet, cRepr, wIsB, wCB, cLen, cAll, cSum, cMax, cMin, cSorted, cInt, cList, cTuple, cIsi, wBits, wLRg, wBM, wBM0, mChg, wDGet, wDIn, wDNew, sDPutD, wIn, nIn, wCall, wCallK, wNew, tYesD, startD, List.map_cons, List.map_nil, List.length_cons, List.length_nil, List.replicate, Nat.sub_self, List.append_nil, List.cons_append, List.nil_append, List.getElem?_cons_zero, List.getElem?_cons_succ, List.set_cons_zero, List.set_cons_succ, Nat.reduceSub, Nat.reduceAdd, ite_true, ite_false, if_true, if_false, Bool.false_eq_true, Bool.true_eq_false, Bool.not_true, Bool.not_false, Option.some.injEq, nrm_non, nrm_bl, nrm_int, nrm_str, nrm_ty, nrm_lst, nrm_tupC, nrm_dct, nrm_scr, nrm_setL, wFgt, tyN_non, tyN_bl, tyN_int, tyN_str, tyN_lst, tyN_tup, tyN_dct, keyD_int, keyD_str, isA, okT, beq_self_eq_true, String.reduceBEq, Bool.or_false, Bool.or_true, Bool.and_false, Bool.and_true, Bool.true_or, Bool.false_or, Bool.true_and, Bool.false_and, true_and, and_true, List.any_cons, List.any_nil, tyNames, Option.map_some, iRn1, iRn2, iRn3, iLst, nIt, iTp, iEn, iZp, iSt, wipeD, atI0, atI1, atI2, atI3, ixN0, ixN1, ixN2, ixN3, wSub, wLt, wLe, wGt, wGe, wDiv, wMod, wPow, wShl, Mp.set_same, Mp.set_set, cSortedA, cDictP, wNewD, wEqS, nEqS, wFrzT, mExt, mCnt, nIxL, sAugS, wSlS, wJoin, cSumL, dUnl, cSortLL, cMinLL, wLenSetT, wLenDictT, mIndexB, wLenSetJ, wAddT, wSortSet, wDNewT, sDPutT, cSortDT, wBMd, wDGet1, wDGet2, mUpd, wPairs, wDisp, wLtS, cMinS, cListD, cGcd, cAbs]
    refine ⟨.int k, 1, rfl, rfl, ?_⟩
    rw [ec]
    exact c
  · have e : ((ns.map D.int).map fun _ => D.bl true) = (ns.map fun _ => true).map D.bl := by rw [List.map_map, List.map_map]; rfl
    have e2 : (ns.map fun _ => true).all id = true := by rw [List.all_map]; exact List.all_eq_true.mpr fun _ _ => rfl
    show (match bools _ with | some bs => Q (D.bl (bs.all id)) M | none => False)
    rw [e, bools_map]
    show Q (.bl ((ns.map fun _ => true).all id)) M
    rw [e2]
    exact q
abbrev s_law_one_of : Stmt := topS 35
theorem sc_law_one_of : FnScope ["purse", "some"] ["purse", "some"] (defScope s_law_one_of) := ⟨rfl, rfl, rfl, by decide +kernel, rfl, by decide +kernel, by decide +kernel⟩
theorem ok_law_one_of {f : Addr} {fd : FuncData} (F : FnP K "_law_one_of" s_law_one_of [] f fd)
    {f_law_draw : Addr} {fd_law_draw : FuncData} {ds_law_draw : List Value} (G_law_draw : Kn P w K mg base "_law_draw" ["purse", "many"] R_law_draw 2 [] ds_law_draw f_law_draw fd_law_draw)
    (m_len : mg "len" = none) :
    FnG P w K mg base 3 f fd ["purse", "some"] (spD R_law_one_of) := by
  have nd := sc_law_one_of.nd
  refine fnD (k := 2) F sc_law_one_of len_law_one_of fun cdv A outer s H E hr hq => ?_
  have hu := hu_of hr
  have hr65 := room65 hr
  have hr66 := room66 hr
  refine ⟨_, _, pss_one (ps_ret (pe_ix ix_seq (pv 1) (pe_callG (G_law_draw.ok.mono (by decide)) hr hq (by rfl) G_law_draw.m G_law_draw.kp G_law_draw.b G_law_draw.dv (pa_cons (pv 0) (pa_cons (pe_callB call_lenA (by rfl) m_len (by decide +kernel) (pa_cons (pv 1) (pa_nil))) (pa_nil)))) (fun _ _ => rfl))),
    ts_ret (tr_op ot_ix (tr_var (i := 1)) (tr_call (ta_cons (tr_var (i := 0)) (ta_cons (tr_cb ct_len (ta_cons (tr_var (i := 1)) (ta_nil))) (ta_nil))))), ?_⟩
  rintro ds M Q ⟨p, xs, B, ss, rfl, hp, hx, hB, h0, h1, q⟩
  simp only [sSeq, sRet, sRetN, sIf, sDrop, sNever, sNext, sBreak, sCont, sAsg, sPar, sPar3, sAug, dName, dNil, dCons, dTup, dSub, sSetL, wVar, wC, wFrz, wFrzK, wOp, wAdd, nAdd, nI, nI0, wMul, nMul, wNeg, wEq, nEq, wIsN, wB, wAndT, wOrT, wNotT, wAndV, wOrV, wNotV, wIfE, wChain, aNil, aCons, aStar, wLst, wTup, wIx, nIx, pNo, pSo, wSl, wRev, wRevE, mIndex, wLenSet, cRepr, wIsB, wCB, cLen, cAll, cSum, cMax, cMin, cSorted, cInt, cList, cTuple, cIsi, wBits, wLRg, wBM, wBM0, mChg, wDGet, wDIn, wDNew, sDPutD, wIn, nIn, wCall, wCallK, wNew, tYesD, startD, List.map_cons, List.map_nil, List.length_cons, List.length_nil, List.replicate, Nat.sub_self, List.append_nil, List.cons_append, List.nil_append, List.getElem?_cons_zero, List.getElem?_cons_succ, List.set_cons_zero, List.set_cons_succ, Nat.reduceSub, Nat.reduceAdd, ite_true, ite_false, if_true, if_false, Bool.false_eq_true, Bool.true_eq_false, Bool.not_true, Bool.not_false, Option.some.injEq, nrm_non, nrm_bl, nrm_int, nrm_str, nrm_ty, nrm_lst, nrm_tupC, nrm_dct, nrm_scr, nrm_setL, wFgt, tyN_non, tyN_bl, tyN_int, tyN_str, tyN_lst, tyN_tup, tyN_dct, keyD_int, keyD_str, isA, okT, beq_self_eq_true, String.reduceBEq, Bool.or_false, Bool.or_true, Bool.and_false, Bool.and_true, Bool.true_or, Bool.false_or, Bool.true_and, Bool.false_and, true_and, and_true, List.any_cons, List.any_nil, tyNames, Option.map_some, iRn1, iRn2, iRn3, iLst, nIt, iTp, iEn, iZp, iSt, wipeD, atI0, atI1, atI2, atI3, ixN0, ixN1, ixN2, ixN3, wSub, wLt, wLe, wGt, wGe, wDiv, wMod, wPow, wShl, Mp.set_same, Mp.set_set, cSortedA, cDictP, wNewD, wEqS, nEqS, wFrzT, mExt, mCnt, nIxL, sAugS, wSlS, wJoin, cSumL, dUnl, cSortLL, cMinLL, wLenSetT, wLenDictT, mIndexB, wLenSetJ, wAddT, wSortSet, wDNewT, sDPutT, cSortDT, wBMd, wDGet1, wDGet2, mUpd, wPairs, wDisp, wLtS, cMinS, cListD, cGcd, cAbs]
  refine ⟨p, xs, ss.length, B, rfl, hp, hx, hB, by omega, by omega, fun k ys hk0 hk1 hy => ?_⟩
  have e : atI ss k = some (ss[k.toNat]'(by omega)) := by
    unfold atI ixN
    rw [if_pos hk0, if_pos hk1]
    simp only [Option.bind_some]
    exact List.getElem?_eq_getElem (by omega)
  simp only [sSeq, sRet, sRetN, sIf, sDrop, sNever, sNext, sBreak, sCont, sAsg, sPar, sPar3, sAug, dName, dNil, dCons, dTup, dSub, sSetL, wVar, wC, wFrz, wFrzK, wOp, wAdd, nAdd, nI, nI0, wMul, nMul, wNeg, wEq, nEq, wIsN, wB, wAndT, wOrT, wNotT, wAndV, wOrV, wNotV, wIfE, wChain, aNil, aCons, aStar, wLst, wTup, wIx, nIx, pNo, pSo, wSl, wRev, wRevE, mIndex, wLenSet, cRepr, wIsB, wCB, cLen, cAll, cSum, cMax, cMin, cSorted, cInt, cList, cTuple, cIsi, wBits, wLRg, wBM, wBM0, mChg, wDGet, wDIn, wDNew, sDPutD, wIn, nIn, wCall, wCallK, wNew, tYesD, startD, List.map_cons, List.map_nil, List.length_cons, List.length_nil, List.replicate, Nat.sub_self, List.append_nil, List.cons_append, List.nil_append, List.getElem?_cons_zero, List.getElem?_cons_succ, List.set_cons_zero, List.set_cons_succ, Nat.reduceSub, Nat.reduceAdd, ite_true, ite_false, if_true, if_false, Bool.false_eq_true, Bool.true_eq_false, Bool.not_true, Bool.not_false, Option.some.injEq, nrm_non, nrm_bl, nrm_int, nrm_str, nrm_ty, nrm_lst, nrm_tupC, nrm_dct, nrm_scr, nrm_setL, wFgt, tyN_non, tyN_bl, tyN_int, tyN_str, tyN_lst, tyN_tup, tyN_dct, keyD_int, keyD_str, isA, okT, beq_self_eq_true, String.reduceBEq, Bool.or_false, Bool.or_true, Bool.and_false, Bool.and_true, Bool.true_or, Bool.false_or, Bool.true_and, Bool.false_and, true_and, and_true, List.any_cons, List.any_nil, tyNames, Option.map_some, iRn1, iRn2, iRn3, iLst, nIt, iTp, iEn, iZp, iSt, wipeD, atI0, atI1, atI2, atI3, ixN0, ixN1, ixN2, ixN3, wSub, wLt, wLe, wGt, wGe, wDiv, wMod, wPow, wShl, Mp.set_same, Mp.set_set, cSortedA, cDictP, wNewD, wEqS, nEqS, wFrzT, mExt, mCnt, nIxL, sAugS, wSlS, wJoin, cSumL, dUnl, cSortLL, cMinLL, wLenSetT, wLenDictT, mIndexB, wLenSetJ, wAddT, wSortSet, wDNewT, sDPutT, cSortDT, wBMd, wDGet1, wDGet2, mUpd, wPairs, wDisp, wLtS, cMinS, cListD, cGcd, cAbs, e]
  exact q _ ys (List.getElem_mem _) hy
abbrev s_law_shuffled : Stmt := topS 36
theorem sc_law_shuffled : FnScope ["purse", "some", "found", "item"] ["purse", "some"] (defScope s_law_shuffled) := ⟨rfl, rfl, rfl, by decide +kernel, rfl, by decide +kernel, by decide +kernel⟩
theorem ok_law_shuffled {f : Addr} {fd : FuncData} (F : FnP K "_law_shuffled" s_law_shuffled [] f fd)
    {f_law_draw : Addr} {fd_law_draw : FuncData} {ds_law_draw : List Value} (G_law_draw : Kn P w K mg base "_law_draw" ["purse", "many"] R_law_draw 2 [] ds_law_draw f_law_draw fd_law_draw)
    (m_len : mg "len" = none) :
    FnG P w K mg base 3 f fd ["purse", "some"] (spD R_law_shuffled) := by
  have nd := sc_law_shuffled.nd
  refine fnD (k := 2) F sc_law_shuffled len_law_shuffled fun cdv A outer s H E hr hq => ?_
  have hu := hu_of hr
  have hr65 := room65 hr
  have hr66 := room66 hr
  refine ⟨_, _, pss_cons (ps_set (i := 2) nd rfl (by first | exact .inl rfl | exact .inr rfl) (pe_lst (pa_nil)))
      (pss_cons (ps_for PassesOwn.never rfl (pi_list (pv 1)) (pg_name (i := 3) nd rfl (by first | exact .inl rfl | exact .inr rfl)) (pss_one (ps_expr (pe_bm PySem.F.plainAttrs_list PySem.F.slot_list_insert PySem.F.type_list_insert mt_insertR (pv 2) (pa_cons (pe_callG (G_law_draw.ok.mono (by decide)) hr hq (by rfl) G_law_draw.m G_law_draw.kp G_law_draw.b G_law_draw.dv (pa_cons (pv 0) (pa_cons (pe_op op_addA (pe_callB call_lenA (by rfl) m_len (by decide +kernel) (pa_cons (pv 2) (pa_nil))) (pe_int)) (pa_nil)))) (pa_cons (pv 3) (pa_nil)))))))
      (pss_one (ps_ret (pv 2)))),
    ts_seq (ts_asg (tr_lst (md := .own) (ta_nil)) (tg_name (i := 2)))
      (ts_seq (ts_for (ti_list (tr_var (i := 1))) (tg_name (i := 3)) (ts_drop (tr_bm mt_insertD (tr_var (i := 2)) (ta_cons (tr_call (ta_cons (tr_var (i := 0)) (ta_cons (tr_op (ot_add (K := K) (md := .frz)) (tr_cb ct_len (ta_cons (tr_var (i := 2)) (ta_nil))) (tr_int)) (ta_nil)))) (ta_cons (tr_var (i := 3)) (ta_nil))))))
      (ts_ret (tr_frz (tr_var (i := 2))))), ?_⟩
  rintro ds M Q ⟨p, xs, B, x, ns, rfl, hp, hx, hB, hne, hv, hz, q⟩
  simp only [sSeq, sRet, sRetN, sIf, sDrop, sNever, sNext, sBreak, sCont, sAsg, sPar, sPar3, sAug, dName, dNil, dCons, dTup, dSub, sSetL, wVar, wC, wFrz, wFrzK, wOp, wAdd, nAdd, nI, nI0, wMul, nMul, wNeg, wEq, nEq, wIsN, wB, wAndT, wOrT, wNotT, wAndV, wOrV, wNotV, wIfE, wChain, aNil, aCons, aStar, wLst, wTup, wIx, nIx, pNo, pSo, wSl, wRev, wRevE, mIndex, wLenSet, cRepr, wIsB, wCB, cLen, cAll, cSum, cMax, cMin, cSorted, cInt, cList, cTuple, cIsi, wBits, wLRg, wBM, wBM0, mChg, wDGet, wDIn, wDNew, sDPutD, wIn, nIn, wCall, wCallK, wNew, tYesD, startD, List.map_cons, List.map_nil, List.length_cons, List.length_nil, List.replicate, Nat.sub_self, List.append_nil, List.cons_append, List.nil_append, List.getElem?_cons_zero, List.getElem?_cons_succ, List.set_cons_zero, List.set_cons_succ, Nat.reduceSub, Nat.reduceAdd, ite_true, ite_false, if_true, if_false, Bool.false_eq_true, Bool.true_eq_false, Bool.not_true, Bool.not_false, Option.some.injEq, nrm_non, nrm_bl, nrm_int, nrm_str, nrm_ty, nrm_lst, nrm_tupC, nrm_dct, nrm_scr, nrm_setL, wFgt, tyN_non, tyN_bl, tyN_int, tyN_str, tyN_lst, tyN_tup, tyN_dct, keyD_int, keyD_str, isA, okT, beq_self_eq_true, String.reduceBEq, Bool.or_false, Bool.or_true, Bool.and_false, Bool.and_true, Bool.true_or, Bool.false_or, Bool.true_and, Bool.false_and, true_and, and_true, List.any_cons, List.any_nil, tyNames, Option.map_some, iRn1, iRn2, iRn3, iLst, nIt, iTp, iEn, iZp, iSt, wipeD, atI0, atI1, atI2, atI3, ixN0, ixN1, ixN2, ixN3, wSub, wLt, wLe, wGt, wGe, wDiv, wMod, wPow, wShl, Mp.set_same, Mp.set_set, cSortedA, cDictP, wNewD, wEqS, nEqS, wFrzT, mExt, mCnt, nIxL, sAugS, wSlS, wJoin, cSumL, dUnl, cSortLL, cMinLL, wLenSetT, wLenDictT, mIndexB, wLenSetJ, wAddT, wSortSet, wDNewT, sDPutT, cSortDT, wBMd, wDGet1, wDGet2, mUpd, wPairs, wDisp, wLtS, cMinS, cListD, cGcd, cAbs]
  refine ⟨sz0, fun f hf => ?_⟩
  have hfp : p ≠ f := Mp.ne hf hp
  refine for_of (xs := ns.map D.int) (P := fun M' => nrm M' x = .lst (ns.map .int)) (fun i ρ M' => ∃ (zs : List Int) (ys : List D) (y : Option D), ρ = [some (.ref p), some x, some (.ref f), y] ∧ M' = (M.set p (.lst ys)).set f (.lst (zs.map .int)) ∧
      PurseOk (B + 3 * i) ys ∧ zs.length = i ∧ zs.Perm (ns.take i)) (fun R h => by simp only [sSeq, sRet, sRetN, sIf, sDrop, sNever, sNext, sBreak, sCont, sAsg, sPar, sPar3, sAug, dName, dNil, dCons, dTup, dSub, sSetL, wVar, wC, wFrz, wFrzK, wOp, wAdd, nAdd, nI, nI0, wMul, nMul, wNeg, wEq, nEq, wIsN, wB, wAndT, wOrT, wNotT, wAndV, wOrV, wNotV, wIfE, wChain, aNil, aCons, aStar, wLst, wTup, wIx, nIx, pNo, pSo, wSl, wRev, wRevE, mIndex, wLenSet, cRepr, wIsB, wCB, cLen, cAll, cSum, cMax, cMin, cSorted, cInt, cList, cTuple, cIsi, wBits, wLRg, wBM, wBM0, mChg, wDGet, wDIn, wDNew, sDPutD, wIn, nIn, wCall, wCallK, wNew, tYesD, startD, List.map_cons, List.map_nil, List.length_cons, List.length_nil, List.replicate, Nat.sub_self, List.append_nil, List.cons_append, List.nil_append, List.getElem?_cons_zero, List.getElem?_cons_succ, List.set_cons_zero, List.set_cons_succ, Nat.reduceSub, Nat.reduceAdd, ite_true, ite_false, if_true, if_false, Bool.false_eq_true, Bool.true_eq_false, Bool.not_true, Bool.not_false, Option.some.injEq, nrm_non, nrm_bl, nrm_int, nrm_str, nrm_ty, nrm_lst, nrm_tupC, nrm_dct, nrm_scr, nrm_setL, wFgt, tyN_non, tyN_bl, tyN_int, tyN_str, tyN_lst, tyN_tup, tyN_dct, keyD_int, keyD_str, isA, okT, beq_self_eq_true, String.reduceBEq, Bool.or_false, Bool.or_true, Bool.and_false, Bool.and_true, Bool.true_or, Bool.false_or, Bool.true_and, Bool.false_and, true_and, and_true, List.any_cons, List.any_nil, tyNames, Option.map_some, iRn1, iRn2, iRn3, iLst, nIt, iTp, iEn, iZp, iSt, wipeD, atI0, atI1, atI2, atI3, ixN0, ixN1, ixN2, ixN3, wSub, wLt, wLe, wGt, wGe, wDiv, wMod, wPow, wShl, Mp.set_same, Mp.set_set, cSortedA, cDictP, wNewD, wEqS, nEqS, wFrzT, mExt, mCnt, nIxL, sAugS, wSlS, wJoin, cSumL, dUnl, cSortLL, cMinLL, wLenSetT, wLenDictT, mIndexB, wLenSetJ, wAddT, wSortSet, wDNewT, sDPutT, cSortDT, wBMd, wDGet1, wDGet2, mUpd, wPairs, wDisp, wLtS, cMinS, cListD, cGcd, cAbs, nrm_set hv rfl hf]; exact h)
    ⟨[], xs, none, rfl, by rw [Mp.set_self hp]; rfl, by simpa using hx, rfl, by simp⟩ (fun i ρ M' _ ⟨zs, ys, y, _, e, _⟩ => ?_) (fun i d ρ M' hi w => ?_) (fun ρ M' w => ?_)
  · rw [e]
    exact nrm_set ((nrm_ne hne).trans hv) rfl (by rw [Mp.set_ne hfp.symm]; exact hf)
  · obtain ⟨zs, ys, y, rfl, rfl, hys, hzl, hzp⟩ := w
    obtain ⟨n, hn, rfl⟩ : ∃ n, ns[i]? = some n ∧ d = .int n := by
      rw [List.getElem?_map] at hi
      obtain ⟨n, h1, h2⟩ := Option.map_eq_some_iff.mp hi
      exact ⟨n, h1, h2.symm⟩
    have hil := (List.getElem?_eq_some_iff.mp hn).1
    have hf1 : ((M.set p (.lst ys)).set f (.lst (zs.map .int))) f = some (.lst (zs.map .int)) := Mp.set_same
    simp only [sSeq, sRet, sRetN, sIf, sDrop, sNever, sNext, sBreak, sCont, sAsg, sPar, sPar3, sAug, dName, dNil, dCons, dTup, dSub, sSetL, wVar, wC, wFrz, wFrzK, wOp, wAdd, nAdd, nI, nI0, wMul, nMul, wNeg, wEq, nEq, wIsN, wB, wAndT, wOrT, wNotT, wAndV, wOrV, wNotV, wIfE, wChain, aNil, aCons, aStar, wLst, wTup, wIx, nIx, pNo, pSo, wSl, wRev, wRevE, mIndex, wLenSet, cRepr, wIsB, wCB, cLen, cAll, cSum, cMax, cMin, cSorted, cInt, cList, cTuple, cIsi, wBits, wLRg, wBM, wBM0, mChg, wDGet, wDIn, wDNew, sDPutD, wIn, nIn, wCall, wCallK, wNew, tYesD, startD, List.map_cons, List.map_nil, List.length_cons, List.length_nil, List.replicate, Nat.sub_self, List.append_nil, List.cons_append, List.nil_append, List.getElem?_cons_zero, List.getElem?_cons_succ, List.set_cons_zero, List.set_cons_succ, Nat.reduceSub, Nat.reduceAdd, ite_true, ite_false, if_true, if_false, Bool.false_eq_true, Bool.true_eq_false, Bool.not_true, Bool.not_false, Option.some.injEq, nrm_non, nrm_bl, nrm_int, nrm_str, nrm_ty, nrm_lst, nrm_tupC, nrm_dct, nrm_scr, nrm_setL, wFgt, tyN_non, tyN_bl, tyN_int, tyN_str, tyN_lst, tyN_tup, tyN_dct, keyD_int, keyD_str, isA, okT, beq_self_eq_true, String.reduceBEq, Bool.or_false, Bool.or_true, Bool.and_false, Bool.and_true, Bool.true_or, Bool.false_or, Bool.true_and, Bool.false_and, true_and, and_true, List.any_cons, List.any_nil, tyNames, Option.map_some, iRn1, iRn2, iRn3, iLst, nIt, iTp, iEn, iZp, iSt, wipeD, atI0, atI1, atI2, atI3, ixN0, ixN1, ixN2, ixN3, wSub, wLt, wLe, wGt, wGe, wDiv, wMod, wPow, wShl, Mp.set_same, Mp.set_set, cSortedA, cDictP, wNewD, wEqS, nEqS, wFrzT, mExt, mCnt, nIxL, sAugS, wSlS, wJoin, cSumL, dUnl, cSortLL, cMinLL, wLenSetT, wLenDictT, mIndexB, wLenSetJ, wAddT, wSortSet, wDNewT, sDPutT, cSortDT, wBMd, wDGet1, wDGet2, mUpd, wPairs, wDisp, wLtS, cMinS, cListD, cGcd, cAbs, List.length_map, isL_lst hf1, nrm_refL hf1]
    have hfp1 : ((M.set p (.lst ys)).set f (.lst (zs.map .int))) p = some (.lst ys) := by rw [Mp.set_ne hfp, Mp.set_same]
    refine ⟨p, ys, zs.length + 1, _, rfl, hfp1, hys, by omega, by omega, by omega, fun c ys' hc0 hc1 hys' => ?_⟩
    have hg : gInsert (zs.map D.int) [.int c, .int n] = some (.non, (zs.take c.toNat ++ [n] ++ zs.drop c.toNat).map .int) := by
      rw [gInsert_ok (by rw [List.length_map]; omega) hc0 (by omega)]
      simp
    have hs : (((M.set p (.lst ys)).set f (.lst (zs.map .int))).set p (.lst ys')) = (M.set p (.lst ys')).set f (.lst (zs.map .int)) := Mp.set_in hfp
    simp only [sSeq, sRet, sRetN, sIf, sDrop, sNever, sNext, sBreak, sCont, sAsg, sPar, sPar3, sAug, dName, dNil, dCons, dTup, dSub, sSetL, wVar, wC, wFrz, wFrzK, wOp, wAdd, nAdd, nI, nI0, wMul, nMul, wNeg, wEq, nEq, wIsN, wB, wAndT, wOrT, wNotT, wAndV, wOrV, wNotV, wIfE, wChain, aNil, aCons, aStar, wLst, wTup, wIx, nIx, pNo, pSo, wSl, wRev, wRevE, mIndex, wLenSet, cRepr, wIsB, wCB, cLen, cAll, cSum, cMax, cMin, cSorted, cInt, cList, cTuple, cIsi, wBits, wLRg, wBM, wBM0, mChg, wDGet, wDIn, wDNew, sDPutD, wIn, nIn, wCall, wCallK, wNew, tYesD, startD, List.map_cons, List.map_nil, List.length_cons, List.length_nil, List.replicate, Nat.sub_self, List.append_nil, List.cons_append, List.nil_append, List.getElem?_cons_zero, List.getElem?_cons_succ, List.set_cons_zero, List.set_cons_succ, Nat.reduceSub, Nat.reduceAdd, ite_true, ite_false, if_true, if_false, Bool.false_eq_true, Bool.true_eq_false, Bool.not_true, Bool.not_false, Option.some.injEq, nrm_non, nrm_bl, nrm_int, nrm_str, nrm_ty, nrm_lst, nrm_tupC, nrm_dct, nrm_scr, nrm_setL, wFgt, tyN_non, tyN_bl, tyN_int, tyN_str, tyN_lst, tyN_tup, tyN_dct, keyD_int, keyD_str, isA, okT, beq_self_eq_true, String.reduceBEq, Bool.or_false, Bool.or_true, Bool.and_false, Bool.and_true, Bool.true_or, Bool.false_or, Bool.true_and, Bool.false_and, true_and, and_true, List.any_cons, List.any_nil, tyNames, Option.map_some, iRn1, iRn2, iRn3, iLst, nIt, iTp, iEn, iZp, iSt, wipeD, atI0, atI1, atI2, atI3, ixN0, ixN1, ixN2, ixN3, wSub, wLt, wLe, wGt, wGe, wDiv, wMod, wPow, wShl, Mp.set_same, Mp.set_set, cSortedA, cDictP, wNewD, wEqS, nEqS, wFrzT, mExt, mCnt, nIxL, sAugS, wSlS, wJoin, cSumL, dUnl, cSortLL, cMinLL, wLenSetT, wLenDictT, mIndexB, wLenSetJ, wAddT, wSortSet, wDNewT, sDPutT, cSortDT, wBMd, wDGet1, wDGet2, mUpd, wPairs, wDisp, wLtS, cMinS, cListD, cGcd, cAbs, hs, Mp.set_same, hg, Mp.set_set]
    refine ⟨zs.take c.toNat ++ [n] ++ zs.drop c.toNat, ys', _, rfl, rfl, ?_, ?_, ?_⟩
    · rw [show B + 3 * ((i + 1 : Nat) : Int) = B + 3 * i + 3 by omega]; exact hys'
    · simp only [List.length_append, List.length_take, List.length_drop, List.length_singleton]; omega
    · have et : ns.take (i + 1) = ns.take i ++ [n] := by rw [List.take_add_one, hn]; rfl
      rw [et]
      refine List.Perm.trans ?_ (hzp.append_right [n])
      rw [List.append_assoc]
      refine List.perm_append_comm.append_left _ |>.trans ?_
      rw [← List.append_assoc, List.take_append_drop]
  · obtain ⟨zs, ys, y, rfl, rfl, hys, hzl, hzp⟩ := w
    rw [List.length_map, List.take_length] at hzp
    rw [List.length_map] at hys
    have hf' : (M.set p (.lst ys)) f = none := by rw [Mp.set_ne hfp.symm]; exact hf
    simp only [sSeq, sRet, sRetN, sIf, sDrop, sNever, sNext, sBreak, sCont, sAsg, sPar, sPar3, sAug, dName, dNil, dCons, dTup, dSub, sSetL, wVar, wC, wFrz, wFrzK, wOp, wAdd, nAdd, nI, nI0, wMul, nMul, wNeg, wEq, nEq, wIsN, wB, wAndT, wOrT, wNotT, wAndV, wOrV, wNotV, wIfE, wChain, aNil, aCons, aStar, wLst, wTup, wIx, nIx, pNo, pSo, wSl, wRev, wRevE, mIndex, wLenSet, cRepr, wIsB, wCB, cLen, cAll, cSum, cMax, cMin, cSorted, cInt, cList, cTuple, cIsi, wBits, wLRg, wBM, wBM0, mChg, wDGet, wDIn, wDNew, sDPutD, wIn, nIn, wCall, wCallK, wNew, tYesD, startD, List.map_cons, List.map_nil, List.length_cons, List.length_nil, List.replicate, Nat.sub_self, List.append_nil, List.cons_append, List.nil_append, List.getElem?_cons_zero, List.getElem?_cons_succ, List.set_cons_zero, List.set_cons_succ, Nat.reduceSub, Nat.reduceAdd, ite_true, ite_false, if_true, if_false, Bool.false_eq_true, Bool.true_eq_false, Bool.not_true, Bool.not_false, Option.some.injEq, nrm_non, nrm_bl, nrm_int, nrm_str, nrm_ty, nrm_lst, nrm_tupC, nrm_dct, nrm_scr, nrm_setL, wFgt, tyN_non, tyN_bl, tyN_int, tyN_str, tyN_lst, tyN_tup, tyN_dct, keyD_int, keyD_str, isA, okT, beq_self_eq_true, String.reduceBEq, Bool.or_false, Bool.or_true, Bool.and_false, Bool.and_true, Bool.true_or, Bool.false_or, Bool.true_and, Bool.false_and, true_and, and_true, List.any_cons, List.any_nil, tyNames, Option.map_some, iRn1, iRn2, iRn3, iLst, nIt, iTp, iEn, iZp, iSt, wipeD, atI0, atI1, atI2, atI3, ixN0, ixN1, ixN2, ixN3, wSub, wLt, wLe, wGt, wGe, wDiv, wMod, wPow, wShl, Mp.set_same, Mp.set_set, cSortedA, cDictP, wNewD, wEqS, nEqS, wFrzT, mExt, mCnt, nIxL, sAugS, wSlS, wJoin, cSumL, dUnl, cSortLL, cMinLL, wLenSetT, wLenDictT, mIndexB, wLenSetJ, wAddT, wSortSet, wDNewT, sDPutT, cSortDT, wBMd, wDGet1, wDGet2, mUpd, wPairs, wDisp, wLtS, cMinS, cListD, cGcd, cAbs, Mp.set_same, Mp.set_del hf']
    exact q zs ys hzp hys
abbrev s_check_pack : Stmt := topS 10
theorem sc_check_pack : FnScope ["value"] ["value"] (defScope s_check_pack) := ⟨rfl, rfl, rfl, by decide +kernel, rfl, by decide +kernel, by decide +kernel⟩
theorem ok_check_pack {f : Addr} {fd : FuncData} (F : FnP K "check_pack" s_check_pack [] f fd)
    {f_is_pack : Addr} {fd_is_pack : FuncData} {ds_is_pack : List Value} (G_is_pack : Kn P w K mg base "is_pack" ["value"] R_is_pack 3 [] ds_is_pack f_is_pack fd_is_pack) :
    FnG P w K mg base 4 f fd ["value"] (spD R_check_pack) := by
  have nd := sc_check_pack.nd
  refine fnD (k := 3) F sc_check_pack len_check_pack fun cdv A outer s H E hr hq => ?_
  have hu := hu_of hr
  have hr65 := room65 hr
  have hr66 := room66 hr
  refine ⟨_, _, pss_one (ps_if (pt_not (pt_val (pe_callG (G_is_pack.ok.mono (by decide)) hr hq (by rfl) G_is_pack.m G_is_pack.kp G_is_pack.b G_is_pack.dv (pa_cons (pv 0) (pa_nil))))) (pss_one (ps_never)) (pss_nil)),
    ts_if (tt_not (tt_B (tr_call (ta_cons (tr_var (i := 0)) (ta_nil))))) (ts_never) (ts_next), ?_⟩
  rintro ds M Q ⟨x, ns, rfl, hx, hp, q⟩
  simp only [sSeq, sRet, sRetN, sIf, sDrop, sNever, sNext, sBreak, sCont, sAsg, sPar, sPar3, sAug, dName, dNil, dCons, dTup, dSub, sSetL, wVar, wC, wFrz, wFrzK, wOp, wAdd, nAdd, nI, nI0, wMul, nMul, wNeg, wEq, nEq, wIsN, wB, wAndT, wOrT, wNotT, wAndV, wOrV, wNotV, wIfE, wChain, aNil, aCons, aStar, wLst, wTup, wIx, nIx, pNo, pSo, wSl, wRev, wRevE, mIndex, wLenSet, cRepr, wIsB, wCB, cLen, cAll, cSum, cMax, cMin, cSorted, cInt, cList, cTuple, cIsi, wBits, wLRg, wBM, wBM0, mChg, wDGet, wDIn, wDNew, sDPutD, wIn, nIn, wCall, wCallK, wNew, tYesD, startD, List.map_cons, List.map_nil, List.length_cons, List.length_nil, List.replicate, Nat.sub_self, List.append_nil, List.cons_append, List.nil_append, List.getElem?_cons_zero, List.getElem?_cons_succ, List.set_cons_zero, List.set_cons_succ, Nat.reduceSub, Nat.reduceAdd, ite_true, ite_false, if_true, if_false, Bool.false_eq_true, Bool.true_eq_false, Bool.not_true, Bool.not_false, Option.some.injEq, nrm_non, nrm_bl, nrm_int, nrm_str, nrm_ty, nrm_lst, nrm_tupC, nrm_dct, nrm_scr, nrm_setL, wFgt, tyN_non, tyN_bl, tyN_int, tyN_str, tyN_lst, tyN_tup, tyN_dct, keyD_int, keyD_str, isA, okT, beq_self_eq_true, String.reduceBEq, Bool.or_false, Bool.or_true, Bool.and_false, Bool.and_true, Bool.true_or, Bool.false_or, Bool.true_and, Bool.false_and, true_and, and_true, List.any_cons, List.any_nil, tyNames, Option.map_some, iRn1, iRn2, iRn3, iLst, nIt, iTp, iEn, iZp, iSt, wipeD, atI0, atI1, atI2, atI3, ixN0, ixN1, ixN2, ixN3, wSub, wLt, wLe, wGt, wGe, wDiv, wMod, wPow, wShl, Mp.set_same, Mp.set_set, cSortedA, cDictP, wNewD, wEqS, nEqS, wFrzT, mExt, mCnt, nIxL, sAugS, wSlS, wJoin, cSumL, dUnl, cSortLL, cMinLL, wLenSetT, wLenDictT, mIndexB, wLenSetJ, wAddT, wSortSet, wDNewT, sDPutT, cSortDT, wBMd, wDGet1, wDGet2, mUpd, wPairs, wDisp, wLtS, cMinS, cListD, cGcd, cAbs]
  refine ⟨_, _, rfl, hx, hp, ?_⟩
  simp only [sSeq, sRet, sRetN, sIf, sDrop, sNever, sNext, sBreak, sCont, sAsg, sPar, sPar3, sAug, dName, dNil, dCons, dTup, dSub, sSetL, wVar, wC, wFrz, wFrzK, wOp, wAdd, nAdd, nI, nI0, wMul, nMul, wNeg, wEq, nEq, wIsN, wB, wAndT, wOrT, wNotT, wAndV, wOrV, wNotV, wIfE, wChain, aNil, aCons, aStar, wLst, wTup, wIx, nIx, pNo, pSo, wSl, wRev, wRevE, mIndex, wLenSet, cRepr, wIsB, wCB, cLen, cAll, cSum, cMax, cMin, cSorted, cInt, cList, cTuple, cIsi, wBits, wLRg, wBM, wBM0, mChg, wDGet, wDIn, wDNew, sDPutD, wIn, nIn, wCall, wCallK, wNew, tYesD, startD, List.map_cons, List.map_nil, List.length_cons, List.length_nil, List.replicate, Nat.sub_self, List.append_nil, List.cons_append, List.nil_append, List.getElem?_cons_zero, List.getElem?_cons_succ, List.set_cons_zero, List.set_cons_succ, Nat.reduceSub, Nat.reduceAdd, ite_true, ite_false, if_true, if_false, Bool.false_eq_true, Bool.true_eq_false, Bool.not_true, Bool.not_false, Option.some.injEq, nrm_non, nrm_bl, nrm_int, nrm_str, nrm_ty, nrm_lst, nrm_tupC, nrm_dct, nrm_scr, nrm_setL, wFgt, tyN_non, tyN_bl, tyN_int, tyN_str, tyN_lst, tyN_tup, tyN_dct, keyD_int, keyD_str, isA, okT, beq_self_eq_true, String.reduceBEq, Bool.or_false, Bool.or_true, Bool.and_false, Bool.and_true, Bool.true_or, Bool.false_or, Bool.true_and, Bool.false_and, true_and, and_true, List.any_cons, List.any_nil, tyNames, Option.map_some, iRn1, iRn2, iRn3, iLst, nIt, iTp, iEn, iZp, iSt, wipeD, atI0, atI1, atI2, atI3, ixN0, ixN1, ixN2, ixN3, wSub, wLt, wLe, wGt, wGe, wDiv, wMod, wPow, wShl, Mp.set_same, Mp.set_set, cSortedA, cDictP, wNewD, wEqS, nEqS, wFrzT, mExt, mCnt, nIxL, sAugS, wSlS, wJoin, cSumL, dUnl, cSortLL, cMinLL, wLenSetT, wLenDictT, mIndexB, wLenSetJ, wAddT, wSortSet, wDNewT, sDPutT, cSortDT, wBMd, wDGet1, wDGet2, mUpd, wPairs, wDisp, wLtS, cMinS, cListD, cGcd, cAbs]
  exact q
abbrev s_check_counts : Stmt := topS 20
theorem sc_check_counts : FnScope ["counts"] ["counts"] (defScope s_check_counts) := ⟨rfl, rfl, rfl, by decide +kernel, rfl, by decide +kernel, by decide +kernel⟩
theorem ok_check_counts {f : Addr} {fd : FuncData} (F : FnP K "check_counts" s_check_counts [] f fd)
    {f_are_counts : Addr} {fd_are_counts : FuncData} {ds_are_counts : List Value} (G_are_counts : Kn P w K mg base "are_counts" ["value"] R_are_counts 3 [] ds_are_counts f_are_counts fd_are_counts) :
    FnG P w K mg base 4 f fd ["counts"] (spD R_check_counts) := by
  have nd := sc_check_counts.nd
  refine fnD (k := 3) F sc_check_counts len_check_counts fun cdv A outer s H E hr hq => ?_
  have hu := hu_of hr
  have hr65 := room65 hr
  have hr66 := room66 hr
  refine ⟨_, _, pss_one (ps_if (pt_not (pt_val (pe_callG (G_are_counts.ok.mono (by decide)) hr hq (by rfl) G_are_counts.m G_are_counts.kp G_are_counts.b G_are_counts.dv (pa_cons (pv 0) (pa_nil))))) (pss_one (ps_never)) (pss_nil)),
    ts_if (tt_not (tt_B (tr_call (ta_cons (tr_var (i := 0)) (ta_nil))))) (ts_never) (ts_next), ?_⟩
  rintro ds M Q ⟨x, ns, rfl, hx, hn, hl, q⟩
  ((try simp only [sSeq]); simp only [sRet, sRetN, sIf, sDrop, sNever, sNext, sBreak, sCont, sAsg, sPar, sPar3, sAug, dName, dNil, dCons, dTup, dSub, sSetL, wVar, wC, wFrz, wFrzK, wOp, wAdd, nAdd, nI, nI0, wMul, nMul, wNeg, wEq, nEq, wIsN, wB, wAndT, wOrT, wNotT, wAndV, wOrV, wNotV, wIfE, wChain, aNil, aCons, aStar, wLst, wTup, wIx, nIx, pNo, pSo, wSl, wRev, wRevE, mIndex, wLenSet, cRepr, wIsB, wCB, cLen, cAll, cSum, cMax, cMin, cSorted, cInt, cList, cTuple, cIsi, wBits, wLRg, wBM, wBM0, mChg, wDGet, wDIn, wDNew, sDPutD, wIn, nIn, wCall, wCallK, wNew, tYesD, startD, List.map_cons, List.map_nil, List.length_cons, List.length_nil, List.replicate, Nat.sub_self, List.append_nil, List.cons_append, List.nil_append, List.getElem?_cons_zero, List.getElem?_cons_succ, List.set_cons_zero, List.set_cons_succ, Nat.reduceSub, Nat.reduceAdd, ite_true, ite_false, if_true, if_false, Bool.false_eq_true, Bool.true_eq_false, Bool.not_true, Bool.not_false, Option.some.injEq, nrm_non, nrm_bl, nrm_int, nrm_str, nrm_ty, nrm_lst, nrm_tupC, nrm_dct, nrm_scr, nrm_setL, wFgt, tyN_non, tyN_bl, tyN_int, tyN_str, tyN_lst, tyN_tup, tyN_dct, keyD_int, keyD_str, isA, okT, beq_self_eq_true, String.reduceBEq, Bool.or_false, Bool.or_true, Bool.and_false, Bool.and_true, Bool.true_or, Bool.false_or, Bool.true_and, Bool.false_and, true_and, and_true, List.any_cons, List.any_nil, tyNames, Option.map_some, iRn1, iRn2, iRn3, iLst, nIt, iTp, iEn, iZp, iSt, wipeD, atI0, atI1, atI2, atI3, ixN0, ixN1, ixN2, ixN3, wSub, wLt, wLe, wGt, wGe, wDiv, wMod, wPow, wShl, Mp.set_same, Mp.set_set, cSortedA, cDictP, wNewD, wEqS, nEqS, wFrzT, mExt, mCnt, nIxL, sAugS, wSlS, wJoin, cSumL, dUnl, cSortLL, cMinLL, wLenSetT, wLenDictT, mIndexB, wLenSetJ, wAddT, wSortSet, wDNewT, sDPutT, cSortDT, wBMd, wDGet1, wDGet2, mUpd, wPairs, wDisp, wLtS, cMinS, cListD, cGcd, cAbs])
  refine ⟨x, ns, rfl, hx, hn, hl, ?_⟩
  simp only [sRet, sRetN, sIf, sDrop, sNever, sNext, sBreak, sCont, sAsg, sPar, sPar3, sAug, dName, dNil, dCons, dTup, dSub, sSetL, wVar, wC, wFrz, wFrzK, wOp, wAdd, nAdd, nI, nI0, wMul, nMul, wNeg, wEq, nEq, wIsN, wB, wAndT, wOrT, wNotT, wAndV, wOrV, wNotV, wIfE, wChain, aNil, aCons, aStar, wLst, wTup, wIx, nIx, pNo, pSo, wSl, wRev, wRevE, mIndex, wLenSet, cRepr, wIsB, wCB, cLen, cAll, cSum, cMax, cMin, cSorted, cInt, cList, cTuple, cIsi, wBits, wLRg, wBM, wBM0, mChg, wDGet, wDIn, wDNew, sDPutD, wIn, nIn, wCall, wCallK, wNew, tYesD, startD, List.map_cons, List.map_nil, List.length_cons, List.length_nil, List.replicate, Nat.sub_self, List.append_nil, List.cons_append, List.nil_append, List.getElem?_cons_zero, List.getElem?_cons_succ, List.set_cons_zero, List.set_cons_succ, Nat.reduceSub, Nat.reduceAdd, ite_true, ite_false, if_true, if_false, Bool.false_eq_true, Bool.true_eq_false, Bool.not_true, Bool.not_false, Option.some.injEq, nrm_non, nrm_bl, nrm_int, nrm_str, nrm_ty, nrm_lst, nrm_tupC, nrm_dct, nrm_scr, nrm_setL, wFgt, tyN_non, tyN_bl, tyN_int, tyN_str, tyN_lst, tyN_tup, tyN_dct, keyD_int, keyD_str, isA, okT, beq_self_eq_true, String.reduceBEq, Bool.or_false, Bool.or_true, Bool.and_false, Bool.and_true, Bool.true_or, Bool.false_or, Bool.true_and, Bool.false_and, true_and, and_true, List.any_cons, List.any_nil, tyNames, Option.map_some, iRn1, iRn2, iRn3, iLst, nIt, iTp, iEn, iZp, iSt, wipeD, atI0, atI1, atI2, atI3, ixN0, ixN1, ixN2, ixN3, wSub, wLt, wLe, wGt, wGe, wDiv, wMod, wPow, wShl, Mp.set_same, Mp.set_set, cSortedA, cDictP, wNewD, wEqS, nEqS, wFrzT, mExt, mCnt, nIxL, sAugS, wSlS, wJoin, cSumL, dUnl, cSortLL, cMinLL, wLenSetT, wLenDictT, mIndexB, wLenSetJ, wAddT, wSortSet, wDNewT, sDPutT, cSortDT, wBMd, wDGet1, wDGet2, mUpd, wPairs, wDisp, wLtS, cMinS, cListD, cGcd, cAbs]
  exact q
abbrev s_law_counts : Stmt := topS 39
theorem sc_law_counts : FnScope ["purse", "most", "wide", "place"] ["purse", "most"] (defScope s_law_counts) := ⟨rfl, rfl, rfl, by decide +kernel, rfl, by decide +kernel, by decide +kernel⟩
theorem ok_law_counts {f : Addr} {fd : FuncData} (F : FnP K "_law_counts" s_law_counts [] f fd)
    {f_law_one_of : Addr} {fd_law_one_of : FuncData} {ds_law_one_of : List Value} (G_law_one_of : Kn P w K mg base "_law_one_of" ["purse", "some"] R_law_one_of 3 [] ds_law_one_of f_law_one_of fd_law_one_of)
    {f_law_draw : Addr} {fd_law_draw : FuncData} {ds_law_draw : List Value} (G_law_draw : Kn P w K mg base "_law_draw" ["purse", "many"] R_law_draw 2 [] ds_law_draw f_law_draw fd_law_draw)
    (m_range : mg "range" = none) :
    FnG P w K mg base 4 f fd ["purse", "most"] (spD R_law_counts) := by
  have nd := sc_law_counts.nd
  refine fnD (k := 3) F sc_law_counts len_law_counts fun cdv A outer s H E hr hq => ?_
  have hu := hu_of hr
  have hr65 := room65 hr
  have hr66 := room66 hr
  refine ⟨_, _, pss_cons (ps_set (i := 2) nd rfl (by first | exact .inl rfl | exact .inr rfl) (pe_callG (G_law_one_of.ok.mono (by decide)) hr hq (by rfl) G_law_one_of.m G_law_one_of.kp G_law_one_of.b G_law_one_of.dv (pa_cons (pv 0) (pa_cons (pe_lst (pa_cons (pe_int) (pa_cons (pe_int) (pa_cons (pe_int) (pa_cons (pe_int) (pa_cons (pe_op op_powW (pe_int) (pe_int)) (pa_nil))))))) (pa_nil)))))
      (pss_one (ps_ret (pe_lc (own := [("place", 3)]) (by rfl) nd (pi_range1 (by rfl) m_range (pa_cons (pe_op op_addA (pe_int) (pe_callG (G_law_draw.ok.mono (by decide)) hr hq (by rfl) G_law_draw.m G_law_draw.kp G_law_draw.b G_law_draw.dv (pa_cons (pv 0) (pa_cons (pv 1) (pa_nil))))) (pa_nil))) (blkOk_by (by kernel_rfl)) (fun _ _ _ _ _ => pg_name (i := 3) nd rfl (by first | exact .inl rfl | exact .inr rfl)) (fun _ _ _ _ _ => pts_nil) (fun _ _ _ _ _ => pe_op op_addA (pe_int) (pe_callG (G_law_draw.ok.mono (by decide)) hr hq (by rfl) G_law_draw.m G_law_draw.kp G_law_draw.b G_law_draw.dv (pa_cons (pv 0) (pa_cons (pv 2) (pa_nil)))))))),
    ts_seq (ts_asg (tr_call (ta_cons (tr_var (i := 0)) (ta_cons (tr_lst (md := .frz) (ta_cons (tr_int) (ta_cons (tr_int) (ta_cons (tr_int) (ta_cons (tr_int) (ta_cons (tr_op (ot_pow) (tr_int) (tr_int)) (ta_nil))))))) (ta_nil)))) (tg_name (i := 2)))
      (ts_ret (tr_lc (md := .frz) (ti_rng1 (ta_cons (tr_op (ot_add (K := K) (md := .frz)) (tr_int) (tr_call (ta_cons (tr_var (i := 0)) (ta_cons (tr_var (i := 1)) (ta_nil))))) (ta_nil))) (tc_name (i := 3) (by decide)) (tt_yes) (tr_op (ot_add (K := K) (md := .frz)) (tr_int) (tr_call (ta_cons (tr_var (i := 0)) (ta_cons (tr_var (i := 2)) (ta_nil))))))), ?_⟩
  rintro ds M Q ⟨p, xs, B, m, rfl, hp, hx, hB, hm1, hm, q⟩
  have s8 : ∀ k : Nat, k ≤ 8 → Sz k := fun k h => (by first | omega | (unfold Sz; omega) | (simp only [List.length_map, List.length_append, List.length_cons, List.length_nil, rngI_length, List.length_take, List.length_drop, List.length_reverse]; unfold Sz; omega))
  ((try simp only [sSeq]); simp only [sRet, sRetN, sIf, sDrop, sNever, sNext, sBreak, sCont, sAsg, sPar, sPar3, sAug, dName, dNil, dCons, dTup, dSub, sSetL, wVar, wC, wFrz, wFrzK, wOp, wAdd, nAdd, nI, nI0, wMul, nMul, wNeg, wEq, nEq, wIsN, wB, wAndT, wOrT, wNotT, wAndV, wOrV, wNotV, wIfE, wChain, aNil, aCons, aStar, wLst, wTup, wIx, nIx, pNo, pSo, wSl, wRev, wRevE, mIndex, wLenSet, cRepr, wIsB, wCB, cLen, cAll, cSum, cMax, cMin, cSorted, cInt, cList, cTuple, cIsi, wBits, wLRg, wBM, wBM0, mChg, wDGet, wDIn, wDNew, sDPutD, wIn, nIn, wCall, wCallK, wNew, tYesD, startD, List.map_cons, List.map_nil, List.length_cons, List.length_nil, List.replicate, Nat.sub_self, List.append_nil, List.cons_append, List.nil_append, List.getElem?_cons_zero, List.getElem?_cons_succ, List.set_cons_zero, List.set_cons_succ, Nat.reduceSub, Nat.reduceAdd, ite_true, ite_false, if_true, if_false, Bool.false_eq_true, Bool.true_eq_false, Bool.not_true, Bool.not_false, Option.some.injEq, nrm_non, nrm_bl, nrm_int, nrm_str, nrm_ty, nrm_lst, nrm_tupC, nrm_dct, nrm_scr, nrm_setL, wFgt, tyN_non, tyN_bl, tyN_int, tyN_str, tyN_lst, tyN_tup, tyN_dct, keyD_int, keyD_str, isA, okT, beq_self_eq_true, String.reduceBEq, Bool.or_false, Bool.or_true, Bool.and_false, Bool.and_true, Bool.true_or, Bool.false_or, Bool.true_and, Bool.false_and, true_and, and_true, List.any_cons, List.any_nil, tyNames, Option.map_some, iRn1, iRn2, iRn3, iLst, nIt, iTp, iEn, iZp, iSt, wipeD, atI0, atI1, atI2, atI3, ixN0, ixN1, ixN2, ixN3, wSub, wLt, wLe, wGt, wGe, wDiv, wMod, wPow, wShl, Mp.set_same, Mp.set_set, cSortedA, cDictP, wNewD, wEqS, nEqS, wFrzT, mExt, mCnt, nIxL, sAugS, wSlS, wJoin, cSumL, dUnl, cSortLL, cMinLL, wLenSetT, wLenDictT, mIndexB, wLenSetJ, wAddT, wSortSet, wDNewT, sDPutT, cSortDT, wBMd, wDGet1, wDGet2, mUpd, wPairs, wDisp, wLtS, cMinS, cListD, cGcd, cAbs])
  have e12 : (10 : Int) ^ Int.toNat 12 = 1000000000000 := by decide +kernel
  refine ⟨⟨by decide, by decide⟩, s8 5 (by omega), p, xs, B, _, rfl, hp, hx, by omega, by decide, by decide, fun y ys hy hys => ?_⟩
  rw [e12] at hy
  obtain ⟨w, rfl, hw1, hw2⟩ : ∃ w : Int, y = .int w ∧ 1 ≤ w ∧ w ≤ 10 ^ 12 := by
    simp only [List.mem_cons, List.not_mem_nil, or_false] at hy
    rcases hy with rfl | rfl | rfl | rfl | rfl <;> exact ⟨_, rfl, by decide, by decide⟩
  unfold wLc
  simp only [sRet, sRetN, sIf, sDrop, sNever, sNext, sBreak, sCont, sAsg, sPar, sPar3, sAug, dName, dNil, dCons, dTup, dSub, sSetL, wVar, wC, wFrz, wFrzK, wOp, wAdd, nAdd, nI, nI0, wMul, nMul, wNeg, wEq, nEq, wIsN, wB, wAndT, wOrT, wNotT, wAndV, wOrV, wNotV, wIfE, wChain, aNil, aCons, aStar, wLst, wTup, wIx, nIx, pNo, pSo, wSl, wRev, wRevE, mIndex, wLenSet, cRepr, wIsB, wCB, cLen, cAll, cSum, cMax, cMin, cSorted, cInt, cList, cTuple, cIsi, wBits, wLRg, wBM, wBM0, mChg, wDGet, wDIn, wDNew, sDPutD, wIn, nIn, wCall, wCallK, wNew, tYesD, startD, List.map_cons, List.map_nil, List.length_cons, List.length_nil, List.replicate, Nat.sub_self, List.append_nil, List.cons_append, List.nil_append, List.getElem?_cons_zero, List.getElem?_cons_succ, List.set_cons_zero, List.set_cons_succ, Nat.reduceSub, Nat.reduceAdd, ite_true, ite_false, if_true, if_false, Bool.false_eq_true, Bool.true_eq_false, Bool.not_true, Bool.not_false, Option.some.injEq, nrm_non, nrm_bl, nrm_int, nrm_str, nrm_ty, nrm_lst, nrm_tupC, nrm_dct, nrm_scr, nrm_setL, wFgt, tyN_non, tyN_bl, tyN_int, tyN_str, tyN_lst, tyN_tup, tyN_dct, keyD_int, keyD_str, isA, okT, beq_self_eq_true, String.reduceBEq, Bool.or_false, Bool.or_true, Bool.and_false, Bool.and_true, Bool.true_or, Bool.false_or, Bool.true_and, Bool.false_and, true_and, and_true, List.any_cons, List.any_nil, tyNames, Option.map_some, iRn1, iRn2, iRn3, iLst, nIt, iTp, iEn, iZp, iSt, wipeD, atI0, atI1, atI2, atI3, ixN0, ixN1, ixN2, ixN3, wSub, wLt, wLe, wGt, wGe, wDiv, wMod, wPow, wShl, Mp.set_same, Mp.set_set, cSortedA, cDictP, wNewD, wEqS, nEqS, wFrzT, mExt, mCnt, nIxL, sAugS, wSlS, wJoin, cSumL, dUnl, cSortLL, cMinLL, wLenSetT, wLenDictT, mIndexB, wLenSetJ, wAddT, wSortSet, wDNewT, sDPutT, cSortDT, wBMd, wDGet1, wDGet2, mUpd, wPairs, wDisp, wLtS, cMinS, cListD, cGcd, cAbs]
  refine ⟨p, ys, m, _, rfl, Mp.set_same, hys, by omega, by omega, by omega, fun c ws hc0 hc1 hws => ?_⟩
  obtain ⟨c, rfl⟩ := Int.eq_ofNat_of_zero_le hc0
  rw [Mp.set_set]
  simp only [sRet, sRetN, sIf, sDrop, sNever, sNext, sBreak, sCont, sAsg, sPar, sPar3, sAug, dName, dNil, dCons, dTup, dSub, sSetL, wVar, wC, wFrz, wFrzK, wOp, wAdd, nAdd, nI, nI0, wMul, nMul, wNeg, wEq, nEq, wIsN, wB, wAndT, wOrT, wNotT, wAndV, wOrV, wNotV, wIfE, wChain, aNil, aCons, aStar, wLst, wTup, wIx, nIx, pNo, pSo, wSl, wRev, wRevE, mIndex, wLenSet, cRepr, wIsB, wCB, cLen, cAll, cSum, cMax, cMin, cSorted, cInt, cList, cTuple, cIsi, wBits, wLRg, wBM, wBM0, mChg, wDGet, wDIn, wDNew, sDPutD, wIn, nIn, wCall, wCallK, wNew, tYesD, startD, List.map_cons, List.map_nil, List.length_cons, List.length_nil, List.replicate, Nat.sub_self, List.append_nil, List.cons_append, List.nil_append, List.getElem?_cons_zero, List.getElem?_cons_succ, List.set_cons_zero, List.set_cons_succ, Nat.reduceSub, Nat.reduceAdd, ite_true, ite_false, if_true, if_false, Bool.false_eq_true, Bool.true_eq_false, Bool.not_true, Bool.not_false, Option.some.injEq, nrm_non, nrm_bl, nrm_int, nrm_str, nrm_ty, nrm_lst, nrm_tupC, nrm_dct, nrm_scr, nrm_setL, wFgt, tyN_non, tyN_bl, tyN_int, tyN_str, tyN_lst, tyN_tup, tyN_dct, keyD_int, keyD_str, isA, okT, beq_self_eq_true, String.reduceBEq, Bool.or_false, Bool.or_true, Bool.and_false, Bool.and_true, Bool.true_or, Bool.false_or, Bool.true_and, Bool.false_and, true_and, and_true, List.any_cons, List.any_nil, tyNames, Option.map_some, iRn1, iRn2, iRn3, iLst, nIt, iTp, iEn, iZp, iSt, wipeD, atI0, atI1, atI2, atI3, ixN0, ixN1, ixN2, ixN3, wSub, wLt, wLe, wGt, wGe, wDiv, wMod, wPow, wShl, Mp.set_same, Mp.set_set, cSortedA, cDictP, wNewD, wEqS, nEqS, wFrzT, mExt, mCnt, nIxL, sAugS, wSlS, wJoin, cSumL, dUnl, cSortLL, cMinLL, wLenSetT, wLenDictT, mIndexB, wLenSetJ, wAddT, wSortSet, wDNewT, sDPutT, cSortDT, wBMd, wDGet1, wDGet2, mUpd, wPairs, wDisp, wLtS, cMinS, cListD, cGcd, cAbs]
  refine ⟨⟨by omega, by omega⟩, by rw [rngD_ints, List.length_map, rngI_length]; exact (by first | omega | (unfold Sz; omega) | (simp only [List.length_map, List.length_append, List.length_cons, List.length_nil, rngI_length, List.length_take, List.length_drop, List.length_reverse]; unfold Sz; omega)), fun i acc M' => ∃ (cs : List Int) (vs : List D), acc = cs.map .int ∧ cs.length = i ∧ (∀ k ∈ cs, 1 ≤ k ∧ k ≤ w) ∧ PurseOk (B + 6 + 3 * (i : Nat)) vs ∧ M' = M.set p (.lst vs), ⟨[], ws, rfl, rfl, by simp, hws.mono (by omega), rfl⟩, fun _ _ _ _ _ => trivial, fun i x acc M' hx w' => ?_, fun acc M' w' => ?_⟩
  · obtain ⟨cs, vs, rfl, rfl, hcs, hv, rfl⟩ := w'
    have hib := (List.getElem?_eq_some_iff.mp hx).1
    rw [rngD_ints, List.length_map, rngI_length] at hib
    refine ⟨p, vs, w, _, rfl, Mp.set_same, hv, by omega, by omega, by omega, fun a ys2 ha0 ha1 hy2 => ?_⟩
    rw [Mp.set_set]
    simp only [sRet, sRetN, sIf, sDrop, sNever, sNext, sBreak, sCont, sAsg, sPar, sPar3, sAug, dName, dNil, dCons, dTup, dSub, sSetL, wVar, wC, wFrz, wFrzK, wOp, wAdd, nAdd, nI, nI0, wMul, nMul, wNeg, wEq, nEq, wIsN, wB, wAndT, wOrT, wNotT, wAndV, wOrV, wNotV, wIfE, wChain, aNil, aCons, aStar, wLst, wTup, wIx, nIx, pNo, pSo, wSl, wRev, wRevE, mIndex, wLenSet, cRepr, wIsB, wCB, cLen, cAll, cSum, cMax, cMin, cSorted, cInt, cList, cTuple, cIsi, wBits, wLRg, wBM, wBM0, mChg, wDGet, wDIn, wDNew, sDPutD, wIn, nIn, wCall, wCallK, wNew, tYesD, startD, List.map_cons, List.map_nil, List.length_cons, List.length_nil, List.replicate, Nat.sub_self, List.append_nil, List.cons_append, List.nil_append, List.getElem?_cons_zero, List.getElem?_cons_succ, List.set_cons_zero, List.set_cons_succ, Nat.reduceSub, Nat.reduceAdd, ite_true, ite_false, if_true, if_false, Bool.false_eq_true, Bool.true_eq_false, Bool.not_true, Bool.not_false, Option.some.injEq, nrm_non, nrm_bl, nrm_int, nrm_str, nrm_ty, nrm_lst, nrm_tupC, nrm_dct, nrm_scr, nrm_setL, wFgt, tyN_non, tyN_bl, tyN_int, tyN_str, tyN_lst, tyN_tup, tyN_dct, keyD_int, keyD_str, isA, okT, beq_self_eq_true, String.reduceBEq, Bool.or_false, Bool.or_true, Bool.and_false, Bool.and_true, Bool.true_or, Bool.false_or, Bool.true_and, Bool.false_and, true_and, and_true, List.any_cons, List.any_nil, tyNames, Option.map_some, iRn1, iRn2, iRn3, iLst, nIt, iTp, iEn, iZp, iSt, wipeD, atI0, atI1, atI2, atI3, ixN0, ixN1, ixN2, ixN3, wSub, wLt, wLe, wGt, wGe, wDiv, wMod, wPow, wShl, Mp.set_same, Mp.set_set, cSortedA, cDictP, wNewD, wEqS, nEqS, wFrzT, mExt, mCnt, nIxL, sAugS, wSlS, wJoin, cSumL, dUnl, cSortLL, cMinLL, wLenSetT, wLenDictT, mIndexB, wLenSetJ, wAddT, wSortSet, wDNewT, sDPutT, cSortDT, wBMd, wDGet1, wDGet2, mUpd, wPairs, wDisp, wLtS, cMinS, cListD, cGcd, cAbs]
    refine ⟨cs ++ [1 + a], ys2, by rw [List.map_append]; rfl, by simp, fun k hk => ?_, hy2.mono (by omega), rfl⟩
    rcases List.mem_append.mp hk with h | h
    · exact hcs k h
    · rw [List.mem_singleton.mp h]; omega
  · obtain ⟨cs, vs, rfl, hcl, hcs, hv, rfl⟩ := w'
    rw [rngD_ints, List.length_map, rngI_length] at hcl hv
    exact q cs vs (fun e => by subst e; simp at hcl; omega) (by omega) (fun k hk => ⟨(hcs k hk).1, by have := (hcs k hk).2; omega⟩) (hv.mono (by omega))
abbrev s_check_start : Stmt := topS 21
theorem sc_check_start : FnScope ["counts", "start"] ["counts", "start"] (defScope s_check_start) := ⟨rfl, rfl, rfl, by decide +kernel, rfl, by decide +kernel, by decide +kernel⟩
theorem ok_check_start {f : Addr} {fd : FuncData} (F : FnP K "check_start" s_check_start [] f fd)
    {f_check_counts : Addr} {fd_check_counts : FuncData} {ds_check_counts : List Value} (G_check_counts : Kn P w K mg base "check_counts" ["counts"] R_check_counts 4 [] ds_check_counts f_check_counts fd_check_counts)
    {f_is_count : Addr} {fd_is_count : FuncData} {ds_is_count : List Value} (G_is_count : Kn P w K mg base "is_count" ["value", "least"] R_is_count 2 [.int 0] ds_is_count f_is_count fd_is_count)
    (m_len : mg "len" = none) :
    FnG P w K mg base 5 f fd ["counts", "start"] (spD R_check_start) := by
  have nd := sc_check_start.nd
  refine fnD (k := 4) F sc_check_start len_check_start fun cdv A outer s H E hr hq => ?_
  have hu := hu_of hr
  have hr65 := room65 hr
  have hr66 := room66 hr
  refine ⟨_, _, pss_cons (ps_expr (pe_callG (G_check_counts.ok.mono (by decide)) hr hq (by rfl) G_check_counts.m G_check_counts.kp G_check_counts.b G_check_counts.dv (pa_cons (pv 0) (pa_nil))))
      (pss_one (ps_if (PW.pt (pw_or (pt_not (pt_val (pe_callG (G_is_count.ok.mono (by decide)) hr hq (by rfl) G_is_count.m G_is_count.kp G_is_count.b G_is_count.dv (pa_cons (pv 1) (pa_nil))))) (pw_or1 (pt_cmpR (op_ge) (pv 1) (pe_callB call_lenA (by rfl) m_len (by decide +kernel) (pa_cons (pv 0) (pa_nil))) (nomark _))))) (pss_one (ps_never)) (pss_nil))),
    ts_seq (ts_drop (tr_call (ta_cons (tr_var (i := 0)) (ta_nil))))
      (ts_if (tt_or (tt_not (tt_B (tr_call (ta_cons (tr_var (i := 1)) (ta_nil)) (by exact .cons (d := .int 0) (fun _ => rfl) .nil)))) (tt_test (tr_op ot_ge (tr_var (i := 1)) (tr_cb ct_len (ta_cons (tr_var (i := 0)) (ta_nil)))))) (ts_never) (ts_next)), ?_⟩
  rintro ds M Q ⟨x, ns, p, rfl, hx, hn, hl, hp, q⟩
  have ec : countD 0 (.int (p : Int)) = true := by unfold countD; rw [decide_eq_true_iff]; omega
  have e2 : decide ((ns.length : Int) ≤ (p : Int)) = false := decide_eq_false (by omega)
  ((try simp only [sSeq]); simp only [sRet, sRetN, sIf, sDrop, sNever, sNext, sBreak, sCont, sAsg, sPar, sPar3, sAug, dName, dNil, dCons, dTup, dSub, sSetL, wVar, wC, wFrz, wFrzK, wOp, wAdd, nAdd, nI, nI0, wMul, nMul, wNeg, wEq, nEq, wIsN, wB, wAndT, wOrT, wNotT, wAndV, wOrV, wNotV, wIfE, wChain, aNil, aCons, aStar, wLst, wTup, wIx, nIx, pNo, pSo, wSl, wRev, wRevE, mIndex, wLenSet, cRepr, wIsB, wCB, cLen, cAll, cSum, cMax, cMin, cSorted, cInt, cList, cTuple, cIsi, wBits, wLRg, wBM, wBM0, mChg, wDGet, wDIn, wDNew, sDPutD, wIn, nIn, wCall, wCallK, wNew, tYesD, startD, List.map_cons, List.map_nil, List.length_cons, List.length_nil, List.replicate, Nat.sub_self, List.append_nil, List.cons_append, List.nil_append, List.getElem?_cons_zero, List.getElem?_cons_succ, List.set_cons_zero, List.set_cons_succ, Nat.reduceSub, Nat.reduceAdd, ite_true, ite_false, if_true, if_false, Bool.false_eq_true, Bool.true_eq_false, Bool.not_true, Bool.not_false, Option.some.injEq, nrm_non, nrm_bl, nrm_int, nrm_str, nrm_ty, nrm_lst, nrm_tupC, nrm_dct, nrm_scr, nrm_setL, wFgt, tyN_non, tyN_bl, tyN_int, tyN_str, tyN_lst, tyN_tup, tyN_dct, keyD_int, keyD_str, isA, okT, beq_self_eq_true, String.reduceBEq, Bool.or_false, Bool.or_true, Bool.and_false, Bool.and_true, Bool.true_or, Bool.false_or, Bool.true_and, Bool.false_and, true_and, and_true, List.any_cons, List.any_nil, tyNames, Option.map_some, iRn1, iRn2, iRn3, iLst, nIt, iTp, iEn, iZp, iSt, wipeD, atI0, atI1, atI2, atI3, ixN0, ixN1, ixN2, ixN3, wSub, wLt, wLe, wGt, wGe, wDiv, wMod, wPow, wShl, Mp.set_same, Mp.set_set, cSortedA, cDictP, wNewD, wEqS, nEqS, wFrzT, mExt, mCnt, nIxL, sAugS, wSlS, wJoin, cSumL, dUnl, cSortLL, cMinLL, wLenSetT, wLenDictT, mIndexB, wLenSetJ, wAddT, wSortSet, wDNewT, sDPutT, cSortDT, wBMd, wDGet1, wDGet2, mUpd, wPairs, wDisp, wLtS, cMinS, cListD, cGcd, cAbs])
  refine ⟨x, ns, rfl, hx, hn, hl, ?_⟩
  refine ⟨.int p, 0, rfl, rfl, ?_⟩
  simp only [sRet, sRetN, sIf, sDrop, sNever, sNext, sBreak, sCont, sAsg, sPar, sPar3, sAug, dName, dNil, dCons, dTup, dSub, sSetL, wVar, wC, wFrz, wFrzK, wOp, wAdd, nAdd, nI, nI0, wMul, nMul, wNeg, wEq, nEq, wIsN, wB, wAndT, wOrT, wNotT, wAndV, wOrV, wNotV, wIfE, wChain, aNil, aCons, aStar, wLst, wTup, wIx, nIx, pNo, pSo, wSl, wRev, wRevE, mIndex, wLenSet, cRepr, wIsB, wCB, cLen, cAll, cSum, cMax, cMin, cSorted, cInt, cList, cTuple, cIsi, wBits, wLRg, wBM, wBM0, mChg, wDGet, wDIn, wDNew, sDPutD, wIn, nIn, wCall, wCallK, wNew, tYesD, startD, List.map_cons, List.map_nil, List.length_cons, List.length_nil, List.replicate, Nat.sub_self, List.append_nil, List.cons_append, List.nil_append, List.getElem?_cons_zero, List.getElem?_cons_succ, List.set_cons_zero, List.set_cons_succ, Nat.reduceSub, Nat.reduceAdd, ite_true, ite_false, if_true, if_false, Bool.false_eq_true, Bool.true_eq_false, Bool.not_true, Bool.not_false, Option.some.injEq, nrm_non, nrm_bl, nrm_int, nrm_str, nrm_ty, nrm_lst, nrm_tupC, nrm_dct, nrm_scr, nrm_setL, wFgt, tyN_non, tyN_bl, tyN_int, tyN_str, tyN_lst, tyN_tup, tyN_dct, keyD_int, keyD_str, isA, okT, beq_self_eq_true, String.reduceBEq, Bool.or_false, Bool.or_true, Bool.and_false, Bool.and_true, Bool.true_or, Bool.false_or, Bool.true_and, Bool.false_and, true_and, and_true, List.any_cons, List.any_nil, tyNames, Option.map_some, iRn1, iRn2, iRn3, iLst, nIt, iTp, iEn, iZp, iSt, wipeD, atI0, atI1, atI2, atI3, ixN0, ixN1, ixN2, ixN3, wSub, wLt, wLe, wGt, wGe, wDiv, wMod, wPow, wShl, Mp.set_same, Mp.set_set, cSortedA, cDictP, wNewD, wEqS, nEqS, wFrzT, mExt, mCnt, nIxL, sAugS, wSlS, wJoin, cSumL, dUnl, cSortLL, cMinLL, wLenSetT, wLenDictT, mIndexB, wLenSetJ, wAddT, wSortSet, wDNewT, sDPutT, cSortDT, wBMd, wDGet1, wDGet2, mUpd, wPairs, wDisp, wLtS, cMinS, cListD, cGcd, cAbs, ec, hx, List.length_map, e2]
  exact q
abbrev s_ends_of : Stmt := topS 25
theorem sc_ends_of : FnScope ["counts"] ["counts"] (defScope s_ends_of) := ⟨rfl, rfl, rfl, by decide +kernel, rfl, by decide +kernel, by decide +kernel⟩
theorem ok_ends_of {f : Addr} {fd : FuncData} (F : FnP K "ends_of" s_ends_of [] f fd)
    {f_check_counts : Addr} {fd_check_counts : FuncData} {ds_check_counts : List Value} (G_check_counts : Kn P w K mg base "check_counts" ["counts"] R_check_counts 4 [] ds_check_counts f_check_counts fd_check_counts)
    {f_ends_there : Addr} {fd_ends_there : FuncData} {ds_ends_there : List Value} (G_ends_there : Kn P w K mg base "ends_there" ["counts"] R_ends_there 1 [] ds_ends_there f_ends_there fd_ends_there) :
    FnG P w K mg base 5 f fd ["counts"] (spD R_ends_of) := by
  have nd := sc_ends_of.nd
  refine fnD (k := 4) F sc_ends_of len_ends_of fun cdv A outer s H E hr hq => ?_
  have hu := hu_of hr
  have hr65 := room65 hr
  have hr66 := room66 hr
  refine ⟨_, _, pss_cons (ps_expr (pe_callG (G_check_counts.ok.mono (by decide)) hr hq (by rfl) G_check_counts.m G_check_counts.kp G_check_counts.b G_check_counts.dv (pa_cons (pv 0) (pa_nil))))
      (pss_one (ps_ret (pe_callG (G_ends_there.ok.mono (by decide)) hr hq (by rfl) G_ends_there.m G_ends_there.kp G_ends_there.b G_ends_there.dv (pa_cons (pv 0) (pa_nil))))),
    ts_seq (ts_drop (tr_call (ta_cons (tr_var (i := 0)) (ta_nil))))
      (ts_ret (tr_call (ta_cons (tr_var (i := 0)) (ta_nil)))), ?_⟩
  rintro ds M Q ⟨x, cs, rfl, hx, hc, hl, q⟩
  ((try simp only [sSeq]); simp only [sRet, sRetN, sIf, sDrop, sNever, sNext, sBreak, sCont, sAsg, sPar, sPar3, sAug, dName, dNil, dCons, dTup, dSub, sSetL, wVar, wC, wFrz, wFrzK, wOp, wAdd, nAdd, nI, nI0, wMul, nMul, wNeg, wEq, nEq, wIsN, wB, wAndT, wOrT, wNotT, wAndV, wOrV, wNotV, wIfE, wChain, aNil, aCons, aStar, wLst, wTup, wIx, nIx, pNo, pSo, wSl, wRev, wRevE, mIndex, wLenSet, cRepr, wIsB, wCB, cLen, cAll, cSum, cMax, cMin, cSorted, cInt, cList, cTuple, cIsi, wBits, wLRg, wBM, wBM0, mChg, wDGet, wDIn, wDNew, sDPutD, wIn, nIn, wCall, wCallK, wNew, tYesD, startD, List.map_cons, List.map_nil, List.length_cons, List.length_nil, List.replicate, Nat.sub_self, List.append_nil, List.cons_append, List.nil_append, List.getElem?_cons_zero, List.getElem?_cons_succ, List.set_cons_zero, List.set_cons_succ, Nat.reduceSub, Nat.reduceAdd, ite_true, ite_false, if_true, if_false, Bool.false_eq_true, Bool.true_eq_false, Bool.not_true, Bool.not_false, Option.some.injEq, nrm_non, nrm_bl, nrm_int, nrm_str, nrm_ty, nrm_lst, nrm_tupC, nrm_dct, nrm_scr, nrm_setL, wFgt, tyN_non, tyN_bl, tyN_int, tyN_str, tyN_lst, tyN_tup, tyN_dct, keyD_int, keyD_str, isA, okT, beq_self_eq_true, String.reduceBEq, Bool.or_false, Bool.or_true, Bool.and_false, Bool.and_true, Bool.true_or, Bool.false_or, Bool.true_and, Bool.false_and, true_and, and_true, List.any_cons, List.any_nil, tyNames, Option.map_some, iRn1, iRn2, iRn3, iLst, nIt, iTp, iEn, iZp, iSt, wipeD, atI0, atI1, atI2, atI3, ixN0, ixN1, ixN2, ixN3, wSub, wLt, wLe, wGt, wGe, wDiv, wMod, wPow, wShl, Mp.set_same, Mp.set_set, cSortedA, cDictP, wNewD, wEqS, nEqS, wFrzT, mExt, mCnt, nIxL, sAugS, wSlS, wJoin, cSumL, dUnl, cSortLL, cMinLL, wLenSetT, wLenDictT, mIndexB, wLenSetJ, wAddT, wSortSet, wDNewT, sDPutT, cSortDT, wBMd, wDGet1, wDGet2, mUpd, wPairs, wDisp, wLtS, cMinS, cListD, cGcd, cAbs])
  refine ⟨x, cs, rfl, hx, hc, by omega, ?_⟩
  simp only [sRet, sRetN, sIf, sDrop, sNever, sNext, sBreak, sCont, sAsg, sPar, sPar3, sAug, dName, dNil, dCons, dTup, dSub, sSetL, wVar, wC, wFrz, wFrzK, wOp, wAdd, nAdd, nI, nI0, wMul, nMul, wNeg, wEq, nEq, wIsN, wB, wAndT, wOrT, wNotT, wAndV, wOrV, wNotV, wIfE, wChain, aNil, aCons, aStar, wLst, wTup, wIx, nIx, pNo, pSo, wSl, wRev, wRevE, mIndex, wLenSet, cRepr, wIsB, wCB, cLen, cAll, cSum, cMax, cMin, cSorted, cInt, cList, cTuple, cIsi, wBits, wLRg, wBM, wBM0, mChg, wDGet, wDIn, wDNew, sDPutD, wIn, nIn, wCall, wCallK, wNew, tYesD, startD, List.map_cons, List.map_nil, List.length_cons, List.length_nil, List.replicate, Nat.sub_self, List.append_nil, List.cons_append, List.nil_append, List.getElem?_cons_zero, List.getElem?_cons_succ, List.set_cons_zero, List.set_cons_succ, Nat.reduceSub, Nat.reduceAdd, ite_true, ite_false, if_true, if_false, Bool.false_eq_true, Bool.true_eq_false, Bool.not_true, Bool.not_false, Option.some.injEq, nrm_non, nrm_bl, nrm_int, nrm_str, nrm_ty, nrm_lst, nrm_tupC, nrm_dct, nrm_scr, nrm_setL, wFgt, tyN_non, tyN_bl, tyN_int, tyN_str, tyN_lst, tyN_tup, tyN_dct, keyD_int, keyD_str, isA, okT, beq_self_eq_true, String.reduceBEq, Bool.or_false, Bool.or_true, Bool.and_false, Bool.and_true, Bool.true_or, Bool.false_or, Bool.true_and, Bool.false_and, true_and, and_true, List.any_cons, List.any_nil, tyNames, Option.map_some, iRn1, iRn2, iRn3, iLst, nIt, iTp, iEn, iZp, iSt, wipeD, atI0, atI1, atI2, atI3, ixN0, ixN1, ixN2, ixN3, wSub, wLt, wLe, wGt, wGe, wDiv, wMod, wPow, wShl, Mp.set_same, Mp.set_set, cSortedA, cDictP, wNewD, wEqS, nEqS, wFrzT, mExt, mCnt, nIxL, sAugS, wSlS, wJoin, cSumL, dUnl, cSortLL, cMinLL, wLenSetT, wLenDictT, mIndexB, wLenSetJ, wAddT, wSortSet, wDNewT, sDPutT, cSortDT, wBMd, wDGet1, wDGet2, mUpd, wPairs, wDisp, wLtS, cMinS, cListD, cGcd, cAbs]
  exact ⟨x, cs, rfl, hx, hc, hl, q⟩
abbrev s_check_starts : Stmt := topS 27
theorem sc_check_starts : FnScope ["counts", "starts"] ["counts", "starts"] (defScope s_check_starts) := ⟨rfl, rfl, rfl, by decide +kernel, rfl, by decide +kernel, by decide +kernel⟩
theorem ok_check_starts {f : Addr} {fd : FuncData} (F : FnP K "check_starts" s_check_starts [] f fd)
    {f_check_counts : Addr} {fd_check_counts : FuncData} {ds_check_counts : List Value} (G_check_counts : Kn P w K mg base "check_counts" ["counts"] R_check_counts 4 [] ds_check_counts f_check_counts fd_check_counts)
    {f_is_count : Addr} {fd_is_count : FuncData} (G_is_count_all : Kn P w K mg base "is_count" ["value", "least"] R_is_count 2 [] [] f_is_count fd_is_count)
    (m_len : mg "len" = none) :
    FnG P w K mg base 5 f fd ["counts", "starts"] (spD R_check_starts) := by
  have nd := sc_check_starts.nd
  refine fnD (k := 4) F sc_check_starts len_check_starts fun cdv A outer s H E hr hq => ?_
  have hu := hu_of hr
  have hr65 := room65 hr
  have hr66 := room66 hr
  refine ⟨_, _, pss_cons (ps_expr (pe_callG (G_check_counts.ok.mono (by decide)) hr hq (by rfl) G_check_counts.m G_check_counts.kp G_check_counts.b G_check_counts.dv (pa_cons (pv 0) (pa_nil))))
      (pss_one (ps_if (PW.pt (pw_or (pt_not (pt_val (pe_callG (G_is_count_all.ok.mono (by decide)) hr hq (by rfl) G_is_count_all.m G_is_count_all.kp G_is_count_all.b G_is_count_all.dv (pa_cons (pv 1) (pa_cons (pe_int) (pa_nil)))))) (pw_or1 (pt_cmpR (op_gt) (pv 1) (pe_callB call_lenA (by rfl) m_len (by decide +kernel) (pa_cons (pv 0) (pa_nil))) (nomark _))))) (pss_one (ps_never)) (pss_nil))),
    ts_seq (ts_drop (tr_call (ta_cons (tr_var (i := 0)) (ta_nil))))
      (ts_if (tt_or (tt_not (tt_B (tr_call (ta_cons (tr_var (i := 1)) (ta_cons (tr_int) (ta_nil)))))) (tt_test (tr_op ot_gt (tr_var (i := 1)) (tr_cb ct_len (ta_cons (tr_var (i := 0)) (ta_nil)))))) (ts_never) (ts_next)), ?_⟩
  rintro ds M Q ⟨x, ns, p, rfl, hx, hn, hl, hp1, hp, q⟩
  have ec : countD 1 (.int (p : Int)) = true := by unfold countD; rw [decide_eq_true_iff]; omega
  have e2 : decide ((ns.length : Int) < (p : Int)) = false := decide_eq_false (by omega)
  ((try simp only [sSeq]); simp only [sRet, sRetN, sIf, sDrop, sNever, sNext, sBreak, sCont, sAsg, sPar, sPar3, sAug, dName, dNil, dCons, dTup, dSub, sSetL, wVar, wC, wFrz, wFrzK, wOp, wAdd, nAdd, nI, nI0, wMul, nMul, wNeg, wEq, nEq, wIsN, wB, wAndT, wOrT, wNotT, wAndV, wOrV, wNotV, wIfE, wChain, aNil, aCons, aStar, wLst, wTup, wIx, nIx, pNo, pSo, wSl, wRev, wRevE, mIndex, wLenSet, cRepr, wIsB, wCB, cLen, cAll, cSum, cMax, cMin, cSorted, cInt, cList, cTuple, cIsi, wBits, wLRg, wBM, wBM0, mChg, wDGet, wDIn, wDNew, sDPutD, wIn, nIn, wCall, wCallK, wNew, tYesD, startD, List.map_cons, List.map_nil, List.length_cons, List.length_nil, List.replicate, Nat.sub_self, List.append_nil, List.cons_append, List.nil_append, List.getElem?_cons_zero, List.getElem?_cons_succ, List.set_cons_zero, List.set_cons_succ, Nat.reduceSub, Nat.reduceAdd, ite_true, ite_false, if_true, if_false, Bool.false_eq_true, Bool.true_eq_false, Bool.not_true, Bool.not_false, Option.some.injEq, nrm_non, nrm_bl, nrm_int, nrm_str, nrm_ty, nrm_lst, nrm_tupC, nrm_dct, nrm_scr, nrm_setL, wFgt, tyN_non, tyN_bl, tyN_int, tyN_str, tyN_lst, tyN_tup, tyN_dct, keyD_int, keyD_str, isA, okT, beq_self_eq_true, String.reduceBEq, Bool.or_false, Bool.or_true, Bool.and_false, Bool.and_true, Bool.true_or, Bool.false_or, Bool.true_and, Bool.false_and, true_and, and_true, List.any_cons, List.any_nil, tyNames, Option.map_some, iRn1, iRn2, iRn3, iLst, nIt, iTp, iEn, iZp, iSt, wipeD, atI0, atI1, atI2, atI3, ixN0, ixN1, ixN2, ixN3, wSub, wLt, wLe, wGt, wGe, wDiv, wMod, wPow, wShl, Mp.set_same, Mp.set_set, cSortedA, cDictP, wNewD, wEqS, nEqS, wFrzT, mExt, mCnt, nIxL, sAugS, wSlS, wJoin, cSumL, dUnl, cSortLL, cMinLL, wLenSetT, wLenDictT, mIndexB, wLenSetJ, wAddT, wSortSet, wDNewT, sDPutT, cSortDT, wBMd, wDGet1, wDGet2, mUpd, wPairs, wDisp, wLtS, cMinS, cListD, cGcd, cAbs])
  refine ⟨x, ns, rfl, hx, hn, hl, ?_⟩
  refine ⟨.int p, 1, rfl, rfl, ?_⟩
  simp only [sRet, sRetN, sIf, sDrop, sNever, sNext, sBreak, sCont, sAsg, sPar, sPar3, sAug, dName, dNil, dCons, dTup, dSub, sSetL, wVar, wC, wFrz, wFrzK, wOp, wAdd, nAdd, nI, nI0, wMul, nMul, wNeg, wEq, nEq, wIsN, wB, wAndT, wOrT, wNotT, wAndV, wOrV, wNotV, wIfE, wChain, aNil, aCons, aStar, wLst, wTup, wIx, nIx, pNo, pSo, wSl, wRev, wRevE, mIndex, wLenSet, cRepr, wIsB, wCB, cLen, cAll, cSum, cMax, cMin, cSorted, cInt, cList, cTuple, cIsi, wBits, wLRg, wBM, wBM0, mChg, wDGet, wDIn, wDNew, sDPutD, wIn, nIn, wCall, wCallK, wNew, tYesD, startD, List.map_cons, List.map_nil, List.length_cons, List.length_nil, List.replicate, Nat.sub_self, List.append_nil, List.cons_append, List.nil_append, List.getElem?_cons_zero, List.getElem?_cons_succ, List.set_cons_zero, List.set_cons_succ, Nat.reduceSub, Nat.reduceAdd, ite_true, ite_false, if_true, if_false, Bool.false_eq_true, Bool.true_eq_false, Bool.not_true, Bool.not_false, Option.some.injEq, nrm_non, nrm_bl, nrm_int, nrm_str, nrm_ty, nrm_lst, nrm_tupC, nrm_dct, nrm_scr, nrm_setL, wFgt, tyN_non, tyN_bl, tyN_int, tyN_str, tyN_lst, tyN_tup, tyN_dct, keyD_int, keyD_str, isA, okT, beq_self_eq_true, String.reduceBEq, Bool.or_false, Bool.or_true, Bool.and_false, Bool.and_true, Bool.true_or, Bool.false_or, Bool.true_and, Bool.false_and, true_and, and_true, List.any_cons, List.any_nil, tyNames, Option.map_some, iRn1, iRn2, iRn3, iLst, nIt, iTp, iEn, iZp, iSt, wipeD, atI0, atI1, atI2, atI3, ixN0, ixN1, ixN2, ixN3, wSub, wLt, wLe, wGt, wGe, wDiv, wMod, wPow, wShl, Mp.set_same, Mp.set_set, cSortedA, cDictP, wNewD, wEqS, nEqS, wFrzT, mExt, mCnt, nIxL, sAugS, wSlS, wJoin, cSumL, dUnl, cSortLL, cMinLL, wLenSetT, wLenDictT, mIndexB, wLenSetJ, wAddT, wSortSet, wDNewT, sDPutT, cSortDT, wBMd, wDGet1, wDGet2, mUpd, wPairs, wDisp, wLtS, cMinS, cListD, cGcd, cAbs, ec, hx, List.length_map, e2]
  exact q
abbrev s_counts_of_pack : Stmt := topS 29
theorem sc_counts_of_pack : FnScope ["pack", "values", "card"] ["pack", "values"] (defScope s_counts_of_pack) := ⟨rfl, rfl, rfl, by decide +kernel, rfl, by decide +kernel, by decide +kernel⟩
theorem ok_counts_of_pack {f : Addr} {fd : FuncData} (F : FnP K "counts_of_pack" s_counts_of_pack [] f fd)
    {f_check_pack : Addr} {fd_check_pack : FuncData} {ds_check_pack : List Value} (G_check_pack : Kn P w K mg base "check_pack" ["value"] R_check_pack 4 [] ds_check_pack f_check_pack fd_check_pack)
    {f_are_counts : Addr} {fd_are_counts : FuncData} {ds_are_counts : List Value} (G_are_counts : Kn P w K mg base "are_counts" ["value"] R_are_counts 3 [] ds_are_counts f_are_counts fd_are_counts)
    (m_len : mg "len" = none) :
    FnG P w K mg base 5 f fd ["pack", "values"] (spD R_counts_of_pack) := by
  have nd := sc_counts_of_pack.nd
  refine fnD (k := 4) F sc_counts_of_pack len_counts_of_pack fun cdv A outer s H E hr hq => ?_
  have hu := hu_of hr
  have hr65 := room65 hr
  have hr66 := room66 hr
  refine ⟨_, _, pss_cons (ps_expr (pe_callG (G_check_pack.ok.mono (by decide)) hr hq (by rfl) G_check_pack.m G_check_pack.kp G_check_pack.b G_check_pack.dv (pa_cons (pv 0) (pa_nil))))
      (pss_cons (ps_if (PW.pt (pw_or (pt_not (pt_val (pe_callG (G_are_counts.ok.mono (by decide)) hr hq (by rfl) G_are_counts.m G_are_counts.kp G_are_counts.b G_are_counts.dv (pa_cons (pv 1) (pa_nil))))) (pw_or1 (pt_cmpR (op_eqD hr.units) (pv 1) (pe_lst (pa_nil)) (nomark _))))) (pss_one (ps_never)) (pss_nil))
      (pss_one (ps_ret (pe_lc (own := [("card", 2)]) (by rfl) nd (pi_list (pv 0)) (blkOk_by (by kernel_rfl)) (fun _ _ _ _ _ => pg_name (i := 2) nd rfl (by first | exact .inl rfl | exact .inr rfl)) (fun _ _ _ _ _ => pts_nil) (fun _ _ _ _ _ => pe_ix ix_seq (pv 1) (pe_op op_mod (pv 2) (pe_callB call_lenA (by rfl) m_len (by decide +kernel) (pa_cons (pv 1) (pa_nil)))) (fun _ _ => rfl)))))),
    ts_seq (ts_drop (tr_call (ta_cons (tr_var (i := 0)) (ta_nil))))
      (ts_seq (ts_if (tt_or (tt_not (tt_B (tr_call (ta_cons (tr_var (i := 1)) (ta_nil))))) (tt_test (tr_op ot_eq (tr_var (i := 1)) (tr_lst (md := .frz) (ta_nil))))) (ts_never) (ts_next))
      (ts_ret (tr_lc (md := .own) (ti_list (tr_var (i := 0))) (tc_name (i := 2) (by decide)) (tt_yes) (tr_op ot_ix (tr_var (i := 1)) (tr_op (ot_mod) (tr_var (i := 2)) (tr_cb ct_len (ta_cons (tr_var (i := 1)) (ta_nil)))))))), ?_⟩
  rintro ds M Q ⟨x, y, ns, vs, rfl, hx, hp, hl, hy, hv, hne, hvl, q⟩
  ((try simp only [sSeq]); simp only [sRet, sRetN, sIf, sDrop, sNever, sNext, sBreak, sCont, sAsg, sPar, sPar3, sAug, dName, dNil, dCons, dTup, dSub, sSetL, wVar, wC, wFrz, wFrzK, wOp, wAdd, nAdd, nI, nI0, wMul, nMul, wNeg, wEq, nEq, wIsN, wB, wAndT, wOrT, wNotT, wAndV, wOrV, wNotV, wIfE, wChain, aNil, aCons, aStar, wLst, wTup, wIx, nIx, pNo, pSo, wSl, wRev, wRevE, mIndex, wLenSet, cRepr, wIsB, wCB, cLen, cAll, cSum, cMax, cMin, cSorted, cInt, cList, cTuple, cIsi, wBits, wLRg, wBM, wBM0, mChg, wDGet, wDIn, wDNew, sDPutD, wIn, nIn, wCall, wCallK, wNew, tYesD, startD, List.map_cons, List.map_nil, List.length_cons, List.length_nil, List.replicate, Nat.sub_self, List.append_nil, List.cons_append, List.nil_append, List.getElem?_cons_zero, List.getElem?_cons_succ, List.set_cons_zero, List.set_cons_succ, Nat.reduceSub, Nat.reduceAdd, ite_true, ite_false, if_true, if_false, Bool.false_eq_true, Bool.true_eq_false, Bool.not_true, Bool.not_false, Option.some.injEq, nrm_non, nrm_bl, nrm_int, nrm_str, nrm_ty, nrm_lst, nrm_tupC, nrm_dct, nrm_scr, nrm_setL, wFgt, tyN_non, tyN_bl, tyN_int, tyN_str, tyN_lst, tyN_tup, tyN_dct, keyD_int, keyD_str, isA, okT, beq_self_eq_true, String.reduceBEq, Bool.or_false, Bool.or_true, Bool.and_false, Bool.and_true, Bool.true_or, Bool.false_or, Bool.true_and, Bool.false_and, true_and, and_true, List.any_cons, List.any_nil, tyNames, Option.map_some, iRn1, iRn2, iRn3, iLst, nIt, iTp, iEn, iZp, iSt, wipeD, atI0, atI1, atI2, atI3, ixN0, ixN1, ixN2, ixN3, wSub, wLt, wLe, wGt, wGe, wDiv, wMod, wPow, wShl, Mp.set_same, Mp.set_set, cSortedA, cDictP, wNewD, wEqS, nEqS, wFrzT, mExt, mCnt, nIxL, sAugS, wSlS, wJoin, cSumL, dUnl, cSortLL, cMinLL, wLenSetT, wLenDictT, mIndexB, wLenSetJ, wAddT, wSortSet, wDNewT, sDPutT, cSortDT, wBMd, wDGet1, wDGet2, mUpd, wPairs, wDisp, wLtS, cMinS, cListD, cGcd, cAbs])
  refine ⟨x, ns, rfl, hx, hp, ?_⟩
  ((try simp only [sSeq]); simp only [sRet, sRetN, sIf, sDrop, sNever, sNext, sBreak, sCont, sAsg, sPar, sPar3, sAug, dName, dNil, dCons, dTup, dSub, sSetL, wVar, wC, wFrz, wFrzK, wOp, wAdd, nAdd, nI, nI0, wMul, nMul, wNeg, wEq, nEq, wIsN, wB, wAndT, wOrT, wNotT, wAndV, wOrV, wNotV, wIfE, wChain, aNil, aCons, aStar, wLst, wTup, wIx, nIx, pNo, pSo, wSl, wRev, wRevE, mIndex, wLenSet, cRepr, wIsB, wCB, cLen, cAll, cSum, cMax, cMin, cSorted, cInt, cList, cTuple, cIsi, wBits, wLRg, wBM, wBM0, mChg, wDGet, wDIn, wDNew, sDPutD, wIn, nIn, wCall, wCallK, wNew, tYesD, startD, List.map_cons, List.map_nil, List.length_cons, List.length_nil, List.replicate, Nat.sub_self, List.append_nil, List.cons_append, List.nil_append, List.getElem?_cons_zero, List.getElem?_cons_succ, List.set_cons_zero, List.set_cons_succ, Nat.reduceSub, Nat.reduceAdd, ite_true, ite_false, if_true, if_false, Bool.false_eq_true, Bool.true_eq_false, Bool.not_true, Bool.not_false, Option.some.injEq, nrm_non, nrm_bl, nrm_int, nrm_str, nrm_ty, nrm_lst, nrm_tupC, nrm_dct, nrm_scr, nrm_setL, wFgt, tyN_non, tyN_bl, tyN_int, tyN_str, tyN_lst, tyN_tup, tyN_dct, keyD_int, keyD_str, isA, okT, beq_self_eq_true, String.reduceBEq, Bool.or_false, Bool.or_true, Bool.and_false, Bool.and_true, Bool.true_or, Bool.false_or, Bool.true_and, Bool.false_and, true_and, and_true, List.any_cons, List.any_nil, tyNames, Option.map_some, iRn1, iRn2, iRn3, iLst, nIt, iTp, iEn, iZp, iSt, wipeD, atI0, atI1, atI2, atI3, ixN0, ixN1, ixN2, ixN3, wSub, wLt, wLe, wGt, wGe, wDiv, wMod, wPow, wShl, Mp.set_same, Mp.set_set, cSortedA, cDictP, wNewD, wEqS, nEqS, wFrzT, mExt, mCnt, nIxL, sAugS, wSlS, wJoin, cSumL, dUnl, cSortLL, cMinLL, wLenSetT, wLenDictT, mIndexB, wLenSetJ, wAddT, wSortSet, wDNewT, sDPutT, cSortDT, wBMd, wDGet1, wDGet2, mUpd, wPairs, wDisp, wLtS, cMinS, cListD, cGcd, cAbs])
  refine ⟨y, vs, rfl, hy, hv, by omega, ?_⟩
  ((try simp only [sSeq]); simp only [sRet, sRetN, sIf, sDrop, sNever, sNext, sBreak, sCont, sAsg, sPar, sPar3, sAug, dName, dNil, dCons, dTup, dSub, sSetL, wVar, wC, wFrz, wFrzK, wOp, wAdd, nAdd, nI, nI0, wMul, nMul, wNeg, wEq, nEq, wIsN, wB, wAndT, wOrT, wNotT, wAndV, wOrV, wNotV, wIfE, wChain, aNil, aCons, aStar, wLst, wTup, wIx, nIx, pNo, pSo, wSl, wRev, wRevE, mIndex, wLenSet, cRepr, wIsB, wCB, cLen, cAll, cSum, cMax, cMin, cSorted, cInt, cList, cTuple, cIsi, wBits, wLRg, wBM, wBM0, mChg, wDGet, wDIn, wDNew, sDPutD, wIn, nIn, wCall, wCallK, wNew, tYesD, startD, List.map_cons, List.map_nil, List.length_cons, List.length_nil, List.replicate, Nat.sub_self, List.append_nil, List.cons_append, List.nil_append, List.getElem?_cons_zero, List.getElem?_cons_succ, List.set_cons_zero, List.set_cons_succ, Nat.reduceSub, Nat.reduceAdd, ite_true, ite_false, if_true, if_false, Bool.false_eq_true, Bool.true_eq_false, Bool.not_true, Bool.not_false, Option.some.injEq, nrm_non, nrm_bl, nrm_int, nrm_str, nrm_ty, nrm_lst, nrm_tupC, nrm_dct, nrm_scr, nrm_setL, wFgt, tyN_non, tyN_bl, tyN_int, tyN_str, tyN_lst, tyN_tup, tyN_dct, keyD_int, keyD_str, isA, okT, beq_self_eq_true, String.reduceBEq, Bool.or_false, Bool.or_true, Bool.and_false, Bool.and_true, Bool.true_or, Bool.false_or, Bool.true_and, Bool.false_and, true_and, and_true, List.any_cons, List.any_nil, tyNames, Option.map_some, iRn1, iRn2, iRn3, iLst, nIt, iTp, iEn, iZp, iSt, wipeD, atI0, atI1, atI2, atI3, ixN0, ixN1, ixN2, ixN3, wSub, wLt, wLe, wGt, wGe, wDiv, wMod, wPow, wShl, Mp.set_same, Mp.set_set, cSortedA, cDictP, wNewD, wEqS, nEqS, wFrzT, mExt, mCnt, nIxL, sAugS, wSlS, wJoin, cSumL, dUnl, cSortLL, cMinLL, wLenSetT, wLenDictT, mIndexB, wLenSetJ, wAddT, wSortSet, wDNewT, sDPutT, cSortDT, wBMd, wDGet1, wDGet2, mUpd, wPairs, wDisp, wLtS, cMinS, cListD, cGcd, cAbs, hy])
  have hvp : 0 < vs.length := List.length_pos_iff.mpr hne
  have dn : deq (.lst (vs.map D.int)) (.lst []) = false := by rw [deq_nil]; exact decide_eq_false hne
  simp only [sRet, sRetN, sIf, sDrop, sNever, sNext, sBreak, sCont, sAsg, sPar, sPar3, sAug, dName, dNil, dCons, dTup, dSub, sSetL, wVar, wC, wFrz, wFrzK, wOp, wAdd, nAdd, nI, nI0, wMul, nMul, wNeg, wEq, nEq, wIsN, wB, wAndT, wOrT, wNotT, wAndV, wOrV, wNotV, wIfE, wChain, aNil, aCons, aStar, wLst, wTup, wIx, nIx, pNo, pSo, wSl, wRev, wRevE, mIndex, wLenSet, cRepr, wIsB, wCB, cLen, cAll, cSum, cMax, cMin, cSorted, cInt, cList, cTuple, cIsi, wBits, wLRg, wBM, wBM0, mChg, wDGet, wDIn, wDNew, sDPutD, wIn, nIn, wCall, wCallK, wNew, tYesD, startD, List.map_cons, List.map_nil, List.length_cons, List.length_nil, List.replicate, Nat.sub_self, List.append_nil, List.cons_append, List.nil_append, List.getElem?_cons_zero, List.getElem?_cons_succ, List.set_cons_zero, List.set_cons_succ, Nat.reduceSub, Nat.reduceAdd, ite_true, ite_false, if_true, if_false, Bool.false_eq_true, Bool.true_eq_false, Bool.not_true, Bool.not_false, Option.some.injEq, nrm_non, nrm_bl, nrm_int, nrm_str, nrm_ty, nrm_lst, nrm_tupC, nrm_dct, nrm_scr, nrm_setL, wFgt, tyN_non, tyN_bl, tyN_int, tyN_str, tyN_lst, tyN_tup, tyN_dct, keyD_int, keyD_str, isA, okT, beq_self_eq_true, String.reduceBEq, Bool.or_false, Bool.or_true, Bool.and_false, Bool.and_true, Bool.true_or, Bool.false_or, Bool.true_and, Bool.false_and, true_and, and_true, List.any_cons, List.any_nil, tyNames, Option.map_some, iRn1, iRn2, iRn3, iLst, nIt, iTp, iEn, iZp, iSt, wipeD, atI0, atI1, atI2, atI3, ixN0, ixN1, ixN2, ixN3, wSub, wLt, wLe, wGt, wGe, wDiv, wMod, wPow, wShl, Mp.set_same, Mp.set_set, cSortedA, cDictP, wNewD, wEqS, nEqS, wFrzT, mExt, mCnt, nIxL, sAugS, wSlS, wJoin, cSumL, dUnl, cSortLL, cMinLL, wLenSetT, wLenDictT, mIndexB, wLenSetJ, wAddT, wSortSet, wDNewT, sDPutT, cSortDT, wBMd, wDGet1, wDGet2, mUpd, wPairs, wDisp, wLtS, cMinS, cListD, cGcd, cAbs, pdOk_nil, pdOk_ints, dn]
  refine ⟨sz0, ?_⟩
  refine lc_ints (ns := ns) (P := fun M' => nrm M' x = .lst (ns.map .int)) (fun c => vs.getD (c % (vs.length : Int)).toNat 0) (fun R h => ?_) hx (by unfold Sz; omega) (fun c hc C h => ?_) ?_
  · simp only [sSeq, sRet, sRetN, sIf, sDrop, sNever, sNext, sBreak, sCont, sAsg, sPar, sPar3, sAug, dName, dNil, dCons, dTup, dSub, sSetL, wVar, wC, wFrz, wFrzK, wOp, wAdd, nAdd, nI, nI0, wMul, nMul, wNeg, wEq, nEq, wIsN, wB, wAndT, wOrT, wNotT, wAndV, wOrV, wNotV, wIfE, wChain, aNil, aCons, aStar, wLst, wTup, wIx, nIx, pNo, pSo, wSl, wRev, wRevE, mIndex, wLenSet, cRepr, wIsB, wCB, cLen, cAll, cSum, cMax, cMin, cSorted, cInt, cList, cTuple, cIsi, wBits, wLRg, wBM, wBM0, mChg, wDGet, wDIn, wDNew, sDPutD, wIn, nIn, wCall, wCallK, wNew, tYesD, startD, List.map_cons, List.map_nil, List.length_cons, List.length_nil, List.replicate, Nat.sub_self, List.append_nil, List.cons_append, List.nil_append, List.getElem?_cons_zero, List.getElem?_cons_succ, List.set_cons_zero, List.set_cons_succ, Nat.reduceSub, Nat.reduceAdd, ite_true, ite_false, if_true, if_false, Bool.false_eq_true, Bool.true_eq_false, Bool.not_true, Bool.not_false, Option.some.injEq, nrm_non, nrm_bl, nrm_int, nrm_str, nrm_ty, nrm_lst, nrm_tupC, nrm_dct, nrm_scr, nrm_setL, wFgt, tyN_non, tyN_bl, tyN_int, tyN_str, tyN_lst, tyN_tup, tyN_dct, keyD_int, keyD_str, isA, okT, beq_self_eq_true, String.reduceBEq, Bool.or_false, Bool.or_true, Bool.and_false, Bool.and_true, Bool.true_or, Bool.false_or, Bool.true_and, Bool.false_and, true_and, and_true, List.any_cons, List.any_nil, tyNames, Option.map_some, iRn1, iRn2, iRn3, iLst, nIt, iTp, iEn, iZp, iSt, wipeD, atI0, atI1, atI2, atI3, ixN0, ixN1, ixN2, ixN3, wSub, wLt, wLe, wGt, wGe, wDiv, wMod, wPow, wShl, Mp.set_same, Mp.set_set, cSortedA, cDictP, wNewD, wEqS, nEqS, wFrzT, mExt, mCnt, nIxL, sAugS, wSlS, wJoin, cSumL, dUnl, cSortLL, cMinLL, wLenSetT, wLenDictT, mIndexB, wLenSetJ, wAddT, wSortSet, wDNewT, sDPutT, cSortDT, wBMd, wDGet1, wDGet2, mUpd, wPairs, wDisp, wLtS, cMinS, cListD, cGcd, cAbs, hx]
    exact h
  · have m0 := Int.emod_nonneg c (show (vs.length : Int) ≠ 0 by omega)
    have m1 := Int.emod_lt_of_pos c (show (0 : Int) < (vs.length : Int) by omega)
    simp only [sSeq, sRet, sRetN, sIf, sDrop, sNever, sNext, sBreak, sCont, sAsg, sPar, sPar3, sAug, dName, dNil, dCons, dTup, dSub, sSetL, wVar, wC, wFrz, wFrzK, wOp, wAdd, nAdd, nI, nI0, wMul, nMul, wNeg, wEq, nEq, wIsN, wB, wAndT, wOrT, wNotT, wAndV, wOrV, wNotV, wIfE, wChain, aNil, aCons, aStar, wLst, wTup, wIx, nIx, pNo, pSo, wSl, wRev, wRevE, mIndex, wLenSet, cRepr, wIsB, wCB, cLen, cAll, cSum, cMax, cMin, cSorted, cInt, cList, cTuple, cIsi, wBits, wLRg, wBM, wBM0, mChg, wDGet, wDIn, wDNew, sDPutD, wIn, nIn, wCall, wCallK, wNew, tYesD, startD, List.map_cons, List.map_nil, List.length_cons, List.length_nil, List.replicate, Nat.sub_self, List.append_nil, List.cons_append, List.nil_append, List.getElem?_cons_zero, List.getElem?_cons_succ, List.set_cons_zero, List.set_cons_succ, Nat.reduceSub, Nat.reduceAdd, ite_true, ite_false, if_true, if_false, Bool.false_eq_true, Bool.true_eq_false, Bool.not_true, Bool.not_false, Option.some.injEq, nrm_non, nrm_bl, nrm_int, nrm_str, nrm_ty, nrm_lst, nrm_tupC, nrm_dct, nrm_scr, nrm_setL, wFgt, tyN_non, tyN_bl, tyN_int, tyN_str, tyN_lst, tyN_tup, tyN_dct, keyD_int, keyD_str, isA, okT, beq_self_eq_true, String.reduceBEq, Bool.or_false, Bool.or_true, Bool.and_false, Bool.and_true, Bool.true_or, Bool.false_or, Bool.true_and, Bool.false_and, true_and, and_true, List.any_cons, List.any_nil, tyNames, Option.map_some, iRn1, iRn2, iRn3, iLst, nIt, iTp, iEn, iZp, iSt, wipeD, atI0, atI1, atI2, atI3, ixN0, ixN1, ixN2, ixN3, wSub, wLt, wLe, wGt, wGe, wDiv, wMod, wPow, wShl, Mp.set_same, Mp.set_set, cSortedA, cDictP, wNewD, wEqS, nEqS, wFrzT, mExt, mCnt, nIxL, sAugS, wSlS, wJoin, cSumL, dUnl, cSortLL, cMinLL, wLenSetT, wLenDictT, mIndexB, wLenSetJ, wAddT, wSortSet, wDNewT, sDPutT, cSortDT, wBMd, wDGet1, wDGet2, mUpd, wPairs, wDisp, wLtS, cMinS, cListD, cGcd, cAbs, hy, List.length_map, atI_int m0 m1]
    exact ⟨by omega, h⟩
  · exact q
abbrev s_way_from : Stmt := topS 23
theorem sc_way_from : FnScope ["counts", "start"] ["counts", "start"] (defScope s_way_from) := ⟨rfl, rfl, rfl, by decide +kernel, rfl, by decide +kernel, by decide +kernel⟩
theorem ok_way_from {f : Addr} {fd : FuncData} (F : FnP K "way_from" s_way_from [] f fd)
    {f_check_start : Addr} {fd_check_start : FuncData} {ds_check_start : List Value} (G_check_start : Kn P w K mg base "check_start" ["counts", "start"] R_check_start 5 [] ds_check_start f_check_start fd_check_start)
    {f_way_there : Addr} {fd_way_there : FuncData} {ds_way_there : List Value} (G_way_there : Kn P w K mg base "way_there" ["counts", "start"] R_way_there 1 [] ds_way_there f_way_there fd_way_there) :
    FnG P w K mg base 6 f fd ["counts", "start"] (spD R_way_from) := by
  have nd := sc_way_from.nd
  refine fnD (k := 5) F sc_way_from len_way_from fun cdv A outer s H E hr hq => ?_
  have hu := hu_of hr
  have hr65 := room65 hr
  have hr66 := room66 hr
  refine ⟨_, _, pss_cons (ps_expr (pe_callG (G_check_start.ok.mono (by decide)) hr hq (by rfl) G_check_start.m G_check_start.kp G_check_start.b G_check_start.dv (pa_cons (pv 0) (pa_cons (pv 1) (pa_nil)))))
      (pss_one (ps_ret (pe_callG (G_way_there.ok.mono (by decide)) hr hq (by rfl) G_way_there.m G_way_there.kp G_way_there.b G_way_there.dv (pa_cons (pv 0) (pa_cons (pv 1) (pa_nil)))))),
    ts_seq (ts_drop (tr_call (ta_cons (tr_var (i := 0)) (ta_cons (tr_var (i := 1)) (ta_nil)))))
      (ts_ret (tr_call (ta_cons (tr_var (i := 0)) (ta_cons (tr_var (i := 1)) (ta_nil))))), ?_⟩
  rintro ds M Q ⟨x, cs, p, rfl, hx, hc, hl, hp, q⟩
  ((try simp only [sSeq]); simp only [sRet, sRetN, sIf, sDrop, sNever, sNext, sBreak, sCont, sAsg, sPar, sPar3, sAug, dName, dNil, dCons, dTup, dSub, sSetL, wVar, wC, wFrz, wFrzK, wOp, wAdd, nAdd, nI, nI0, wMul, nMul, wNeg, wEq, nEq, wIsN, wB, wAndT, wOrT, wNotT, wAndV, wOrV, wNotV, wIfE, wChain, aNil, aCons, aStar, wLst, wTup, wIx, nIx, pNo, pSo, wSl, wRev, wRevE, mIndex, wLenSet, cRepr, wIsB, wCB, cLen, cAll, cSum, cMax, cMin, cSorted, cInt, cList, cTuple, cIsi, wBits, wLRg, wBM, wBM0, mChg, wDGet, wDIn, wDNew, sDPutD, wIn, nIn, wCall, wCallK, wNew, tYesD, startD, List.map_cons, List.map_nil, List.length_cons, List.length_nil, List.replicate, Nat.sub_self, List.append_nil, List.cons_append, List.nil_append, List.getElem?_cons_zero, List.getElem?_cons_succ, List.set_cons_zero, List.set_cons_succ, Nat.reduceSub, Nat.reduceAdd, ite_true, ite_false, if_true, if_false, Bool.false_eq_true, Bool.true_eq_false, Bool.not_true, Bool.not_false, Option.some.injEq, nrm_non, nrm_bl, nrm_int, nrm_str, nrm_ty, nrm_lst, nrm_tupC, nrm_dct, nrm_scr, nrm_setL, wFgt, tyN_non, tyN_bl, tyN_int, tyN_str, tyN_lst, tyN_tup, tyN_dct, keyD_int, keyD_str, isA, okT, beq_self_eq_true, String.reduceBEq, Bool.or_false, Bool.or_true, Bool.and_false, Bool.and_true, Bool.true_or, Bool.false_or, Bool.true_and, Bool.false_and, true_and, and_true, List.any_cons, List.any_nil, tyNames, Option.map_some, iRn1, iRn2, iRn3, iLst, nIt, iTp, iEn, iZp, iSt, wipeD, atI0, atI1, atI2, atI3, ixN0, ixN1, ixN2, ixN3, wSub, wLt, wLe, wGt, wGe, wDiv, wMod, wPow, wShl, Mp.set_same, Mp.set_set, cSortedA, cDictP, wNewD, wEqS, nEqS, wFrzT, mExt, mCnt, nIxL, sAugS, wSlS, wJoin, cSumL, dUnl, cSortLL, cMinLL, wLenSetT, wLenDictT, mIndexB, wLenSetJ, wAddT, wSortSet, wDNewT, sDPutT, cSortDT, wBMd, wDGet1, wDGet2, mUpd, wPairs, wDisp, wLtS, cMinS, cListD, cGcd, cAbs])
  refine ⟨x, cs, p, rfl, hx, hc, by omega, hp, ?_⟩
  simp only [sRet, sRetN, sIf, sDrop, sNever, sNext, sBreak, sCont, sAsg, sPar, sPar3, sAug, dName, dNil, dCons, dTup, dSub, sSetL, wVar, wC, wFrz, wFrzK, wOp, wAdd, nAdd, nI, nI0, wMul, nMul, wNeg, wEq, nEq, wIsN, wB, wAndT, wOrT, wNotT, wAndV, wOrV, wNotV, wIfE, wChain, aNil, aCons, aStar, wLst, wTup, wIx, nIx, pNo, pSo, wSl, wRev, wRevE, mIndex, wLenSet, cRepr, wIsB, wCB, cLen, cAll, cSum, cMax, cMin, cSorted, cInt, cList, cTuple, cIsi, wBits, wLRg, wBM, wBM0, mChg, wDGet, wDIn, wDNew, sDPutD, wIn, nIn, wCall, wCallK, wNew, tYesD, startD, List.map_cons, List.map_nil, List.length_cons, List.length_nil, List.replicate, Nat.sub_self, List.append_nil, List.cons_append, List.nil_append, List.getElem?_cons_zero, List.getElem?_cons_succ, List.set_cons_zero, List.set_cons_succ, Nat.reduceSub, Nat.reduceAdd, ite_true, ite_false, if_true, if_false, Bool.false_eq_true, Bool.true_eq_false, Bool.not_true, Bool.not_false, Option.some.injEq, nrm_non, nrm_bl, nrm_int, nrm_str, nrm_ty, nrm_lst, nrm_tupC, nrm_dct, nrm_scr, nrm_setL, wFgt, tyN_non, tyN_bl, tyN_int, tyN_str, tyN_lst, tyN_tup, tyN_dct, keyD_int, keyD_str, isA, okT, beq_self_eq_true, String.reduceBEq, Bool.or_false, Bool.or_true, Bool.and_false, Bool.and_true, Bool.true_or, Bool.false_or, Bool.true_and, Bool.false_and, true_and, and_true, List.any_cons, List.any_nil, tyNames, Option.map_some, iRn1, iRn2, iRn3, iLst, nIt, iTp, iEn, iZp, iSt, wipeD, atI0, atI1, atI2, atI3, ixN0, ixN1, ixN2, ixN3, wSub, wLt, wLe, wGt, wGe, wDiv, wMod, wPow, wShl, Mp.set_same, Mp.set_set, cSortedA, cDictP, wNewD, wEqS, nEqS, wFrzT, mExt, mCnt, nIxL, sAugS, wSlS, wJoin, cSumL, dUnl, cSortLL, cMinLL, wLenSetT, wLenDictT, mIndexB, wLenSetJ, wAddT, wSortSet, wDNewT, sDPutT, cSortDT, wBMd, wDGet1, wDGet2, mUpd, wPairs, wDisp, wLtS, cMinS, cListD, cGcd, cAbs]
  exact ⟨x, cs, p, rfl, hx, hc, hl, hp, q⟩
abbrev s_first_common : Stmt := topS 26
theorem sc_first_common : FnScope ["counts", "one", "other", "mine", "found", "place"] ["counts", "one", "other"] (defScope s_first_common) := ⟨rfl, rfl, rfl, by decide +kernel, rfl, by decide +kernel, by decide +kernel⟩
theorem ok_first_common {f : Addr} {fd : FuncData} (F : FnP K "first_common" s_first_common [] f fd)
    {f_check_start : Addr} {fd_check_start : FuncData} {ds_check_start : List Value} (G_check_start : Kn P w K mg base "check_start" ["counts", "start"] R_check_start 5 [] ds_check_start f_check_start fd_check_start)
    {f_is_count : Addr} {fd_is_count : FuncData} {ds_is_count : List Value} (G_is_count : Kn P w K mg base "is_count" ["value", "least"] R_is_count 2 [.int 0] ds_is_count f_is_count fd_is_count)
    {f_way_there : Addr} {fd_way_there : FuncData} {ds_way_there : List Value} (G_way_there : Kn P w K mg base "way_there" ["counts", "start"] R_way_there 1 [] ds_way_there f_way_there fd_way_there)
    (m_len : mg "len" = none) :
    FnG P w K mg base 6 f fd ["counts", "one", "other"] (spD R_first_common) := by
  have nd := sc_first_common.nd
  refine fnD (k := 5) F sc_first_common len_first_common fun cdv A outer s H E hr hq => ?_
  have hu := hu_of hr
  have hr65 := room65 hr
  have hr66 := room66 hr
  refine ⟨_, _, pss_cons (ps_expr (pe_callG (G_check_start.ok.mono (by decide)) hr hq (by rfl) G_check_start.m G_check_start.kp G_check_start.b G_check_start.dv (pa_cons (pv 0) (pa_cons (pv 1) (pa_nil)))))
      (pss_cons (ps_if (PW.pt (pw_or (pt_not (pt_val (pe_callG (G_is_count.ok.mono (by decide)) hr hq (by rfl) G_is_count.m G_is_count.kp G_is_count.b G_is_count.dv (pa_cons (pv 2) (pa_nil))))) (pw_or1 (pt_cmpR (op_ge) (pv 2) (pe_callB call_lenA (by rfl) m_len (by decide +kernel) (pa_cons (pv 0) (pa_nil))) (nomark _))))) (pss_one (ps_never)) (pss_nil))
      (pss_cons (ps_set (i := 3) nd rfl (by first | exact .inl rfl | exact .inr rfl) (pe_callG (G_way_there.ok.mono (by decide)) hr hq (by rfl) G_way_there.m G_way_there.kp G_way_there.b G_way_there.dv (pa_cons (pv 0) (pa_cons (pv 1) (pa_nil)))))
      (pss_cons (ps_setLc (i := 4) (own := [("place", 5)]) (by rfl) nd rfl rfl (sw_true rfl rfl rfl (by decide +kernel)) (pi_list (pe_callG (G_way_there.ok.mono (by decide)) hr hq (by rfl) G_way_there.m G_way_there.kp G_way_there.b G_way_there.dv (pa_cons (pv 0) (pa_cons (pv 2) (pa_nil))))) (blkOk_by (by kernel_rfl)) (fun _ _ _ _ _ => pg_name (i := 5) nd rfl (by first | exact .inl rfl | exact .inr rfl)) (fun _ _ _ _ _ => pts_one (pt_cmpR (op_inA hr65) (pv 5) (pv 3) (by rfl))) (fun _ _ _ _ _ => pv 5))
      (pss_one (ps_ret (pe_ifExp (pt_cmpR (op_neD hr.units) (pv 4) (pe_lst (pa_nil)) (nomark _)) (pe_ix ix_seq (pv 4) (pe_int) (fun _ _ => rfl)) (pe_non))))))),
    ts_seq (ts_drop (tr_call (ta_cons (tr_var (i := 0)) (ta_cons (tr_var (i := 1)) (ta_nil)))))
      (ts_seq (ts_if (tt_or (tt_not (tt_B (tr_call (ta_cons (tr_var (i := 2)) (ta_nil)) (by exact .cons (d := .int 0) (fun _ => rfl) .nil)))) (tt_test (tr_op ot_ge (tr_var (i := 2)) (tr_cb ct_len (ta_cons (tr_var (i := 0)) (ta_nil)))))) (ts_never) (ts_next))
      (ts_seq (ts_asg (tr_frz (tr_call (ta_cons (tr_var (i := 0)) (ta_cons (tr_var (i := 1)) (ta_nil))))) (tg_name (i := 3)))
      (ts_seq (ts_asg (tr_lc (md := .frz) (ti_list (tr_frz (tr_call (ta_cons (tr_var (i := 0)) (ta_cons (tr_var (i := 2)) (ta_nil)))))) (tc_name (i := 5) (by decide)) (tt_test (tr_op ot_in (tr_var (i := 5)) (tr_var (i := 3)))) (tr_var (i := 5))) (tg_name (i := 4)))
      (ts_ret (tr_if (tt_test (tr_op ot_ne (tr_var (i := 4)) (tr_lst (md := .frz) (ta_nil)))) (tr_op ot_ix (tr_var (i := 4)) (tr_int)) (tr_non)))))), ?_⟩
  rintro ds M Q ⟨x, cs, one, other, rfl, hx, hc, hl, h1, h2, q⟩
  have ec : countD 0 (.int (other : Int)) = true := by unfold countD; rw [decide_eq_true_iff]; omega
  have e2 : decide ((cs.length : Int) ≤ (other : Int)) = false := decide_eq_false (by omega)
  ((try simp only [sSeq]); simp only [sRet, sRetN, sIf, sDrop, sNever, sNext, sBreak, sCont, sAsg, sPar, sPar3, sAug, dName, dNil, dCons, dTup, dSub, sSetL, wVar, wC, wFrz, wFrzK, wOp, wAdd, nAdd, nI, nI0, wMul, nMul, wNeg, wEq, nEq, wIsN, wB, wAndT, wOrT, wNotT, wAndV, wOrV, wNotV, wIfE, wChain, aNil, aCons, aStar, wLst, wTup, wIx, nIx, pNo, pSo, wSl, wRev, wRevE, mIndex, wLenSet, cRepr, wIsB, wCB, cLen, cAll, cSum, cMax, cMin, cSorted, cInt, cList, cTuple, cIsi, wBits, wLRg, wBM, wBM0, mChg, wDGet, wDIn, wDNew, sDPutD, wIn, nIn, wCall, wCallK, wNew, tYesD, startD, List.map_cons, List.map_nil, List.length_cons, List.length_nil, List.replicate, Nat.sub_self, List.append_nil, List.cons_append, List.nil_append, List.getElem?_cons_zero, List.getElem?_cons_succ, List.set_cons_zero, List.set_cons_succ, Nat.reduceSub, Nat.reduceAdd, ite_true, ite_false, if_true, if_false, Bool.false_eq_true, Bool.true_eq_false, Bool.not_true, Bool.not_false, Option.some.injEq, nrm_non, nrm_bl, nrm_int, nrm_str, nrm_ty, nrm_lst, nrm_tupC, nrm_dct, nrm_scr, nrm_setL, wFgt, tyN_non, tyN_bl, tyN_int, tyN_str, tyN_lst, tyN_tup, tyN_dct, keyD_int, keyD_str, isA, okT, beq_self_eq_true, String.reduceBEq, Bool.or_false, Bool.or_true, Bool.and_false, Bool.and_true, Bool.true_or, Bool.false_or, Bool.true_and, Bool.false_and, true_and, and_true, List.any_cons, List.any_nil, tyNames, Option.map_some, iRn1, iRn2, iRn3, iLst, nIt, iTp, iEn, iZp, iSt, wipeD, atI0, atI1, atI2, atI3, ixN0, ixN1, ixN2, ixN3, wSub, wLt, wLe, wGt, wGe, wDiv, wMod, wPow, wShl, Mp.set_same, Mp.set_set, cSortedA, cDictP, wNewD, wEqS, nEqS, wFrzT, mExt, mCnt, nIxL, sAugS, wSlS, wJoin, cSumL, dUnl, cSortLL, cMinLL, wLenSetT, wLenDictT, mIndexB, wLenSetJ, wAddT, wSortSet, wDNewT, sDPutT, cSortDT, wBMd, wDGet1, wDGet2, mUpd, wPairs, wDisp, wLtS, cMinS, cListD, cGcd, cAbs])
  refine ⟨x, cs, one, rfl, hx, hc, by omega, h1, ?_⟩
  ((try simp only [sSeq]); simp only [sRet, sRetN, sIf, sDrop, sNever, sNext, sBreak, sCont, sAsg, sPar, sPar3, sAug, dName, dNil, dCons, dTup, dSub, sSetL, wVar, wC, wFrz, wFrzK, wOp, wAdd, nAdd, nI, nI0, wMul, nMul, wNeg, wEq, nEq, wIsN, wB, wAndT, wOrT, wNotT, wAndV, wOrV, wNotV, wIfE, wChain, aNil, aCons, aStar, wLst, wTup, wIx, nIx, pNo, pSo, wSl, wRev, wRevE, mIndex, wLenSet, cRepr, wIsB, wCB, cLen, cAll, cSum, cMax, cMin, cSorted, cInt, cList, cTuple, cIsi, wBits, wLRg, wBM, wBM0, mChg, wDGet, wDIn, wDNew, sDPutD, wIn, nIn, wCall, wCallK, wNew, tYesD, startD, List.map_cons, List.map_nil, List.length_cons, List.length_nil, List.replicate, Nat.sub_self, List.append_nil, List.cons_append, List.nil_append, List.getElem?_cons_zero, List.getElem?_cons_succ, List.set_cons_zero, List.set_cons_succ, Nat.reduceSub, Nat.reduceAdd, ite_true, ite_false, if_true, if_false, Bool.false_eq_true, Bool.true_eq_false, Bool.not_true, Bool.not_false, Option.some.injEq, nrm_non, nrm_bl, nrm_int, nrm_str, nrm_ty, nrm_lst, nrm_tupC, nrm_dct, nrm_scr, nrm_setL, wFgt, tyN_non, tyN_bl, tyN_int, tyN_str, tyN_lst, tyN_tup, tyN_dct, keyD_int, keyD_str, isA, okT, beq_self_eq_true, String.reduceBEq, Bool.or_false, Bool.or_true, Bool.and_false, Bool.and_true, Bool.true_or, Bool.false_or, Bool.true_and, Bool.false_and, true_and, and_true, List.any_cons, List.any_nil, tyNames, Option.map_some, iRn1, iRn2, iRn3, iLst, nIt, iTp, iEn, iZp, iSt, wipeD, atI0, atI1, atI2, atI3, ixN0, ixN1, ixN2, ixN3, wSub, wLt, wLe, wGt, wGe, wDiv, wMod, wPow, wShl, Mp.set_same, Mp.set_set, cSortedA, cDictP, wNewD, wEqS, nEqS, wFrzT, mExt, mCnt, nIxL, sAugS, wSlS, wJoin, cSumL, dUnl, cSortLL, cMinLL, wLenSetT, wLenDictT, mIndexB, wLenSetJ, wAddT, wSortSet, wDNewT, sDPutT, cSortDT, wBMd, wDGet1, wDGet2, mUpd, wPairs, wDisp, wLtS, cMinS, cListD, cGcd, cAbs])
  refine ⟨.int other, 0, rfl, rfl, ?_⟩
  simp only [sRet, sRetN, sIf, sDrop, sNever, sNext, sBreak, sCont, sAsg, sPar, sPar3, sAug, dName, dNil, dCons, dTup, dSub, sSetL, wVar, wC, wFrz, wFrzK, wOp, wAdd, nAdd, nI, nI0, wMul, nMul, wNeg, wEq, nEq, wIsN, wB, wAndT, wOrT, wNotT, wAndV, wOrV, wNotV, wIfE, wChain, aNil, aCons, aStar, wLst, wTup, wIx, nIx, pNo, pSo, wSl, wRev, wRevE, mIndex, wLenSet, cRepr, wIsB, wCB, cLen, cAll, cSum, cMax, cMin, cSorted, cInt, cList, cTuple, cIsi, wBits, wLRg, wBM, wBM0, mChg, wDGet, wDIn, wDNew, sDPutD, wIn, nIn, wCall, wCallK, wNew, tYesD, startD, List.map_cons, List.map_nil, List.length_cons, List.length_nil, List.replicate, Nat.sub_self, List.append_nil, List.cons_append, List.nil_append, List.getElem?_cons_zero, List.getElem?_cons_succ, List.set_cons_zero, List.set_cons_succ, Nat.reduceSub, Nat.reduceAdd, ite_true, ite_false, if_true, if_false, Bool.false_eq_true, Bool.true_eq_false, Bool.not_true, Bool.not_false, Option.some.injEq, nrm_non, nrm_bl, nrm_int, nrm_str, nrm_ty, nrm_lst, nrm_tupC, nrm_dct, nrm_scr, nrm_setL, wFgt, tyN_non, tyN_bl, tyN_int, tyN_str, tyN_lst, tyN_tup, tyN_dct, keyD_int, keyD_str, isA, okT, beq_self_eq_true, String.reduceBEq, Bool.or_false, Bool.or_true, Bool.and_false, Bool.and_true, Bool.true_or, Bool.false_or, Bool.true_and, Bool.false_and, true_and, and_true, List.any_cons, List.any_nil, tyNames, Option.map_some, iRn1, iRn2, iRn3, iLst, nIt, iTp, iEn, iZp, iSt, wipeD, atI0, atI1, atI2, atI3, ixN0, ixN1, ixN2, ixN3, wSub, wLt, wLe, wGt, wGe, wDiv, wMod, wPow, wShl, Mp.set_same, Mp.set_set, cSortedA, cDictP, wNewD, wEqS, nEqS, wFrzT, mExt, mCnt, nIxL, sAugS, wSlS, wJoin, cSumL, dUnl, cSortLL, cMinLL, wLenSetT, wLenDictT, mIndexB, wLenSetJ, wAddT, wSortSet, wDNewT, sDPutT, cSortDT, wBMd, wDGet1, wDGet2, mUpd, wPairs, wDisp, wLtS, cMinS, cListD, cGcd, cAbs, ec, hx, List.length_map, e2]
  ((try simp only [sSeq]); simp only [sRet, sRetN, sIf, sDrop, sNever, sNext, sBreak, sCont, sAsg, sPar, sPar3, sAug, dName, dNil, dCons, dTup, dSub, sSetL, wVar, wC, wFrz, wFrzK, wOp, wAdd, nAdd, nI, nI0, wMul, nMul, wNeg, wEq, nEq, wIsN, wB, wAndT, wOrT, wNotT, wAndV, wOrV, wNotV, wIfE, wChain, aNil, aCons, aStar, wLst, wTup, wIx, nIx, pNo, pSo, wSl, wRev, wRevE, mIndex, wLenSet, cRepr, wIsB, wCB, cLen, cAll, cSum, cMax, cMin, cSorted, cInt, cList, cTuple, cIsi, wBits, wLRg, wBM, wBM0, mChg, wDGet, wDIn, wDNew, sDPutD, wIn, nIn, wCall, wCallK, wNew, tYesD, startD, List.map_cons, List.map_nil, List.length_cons, List.length_nil, List.replicate, Nat.sub_self, List.append_nil, List.cons_append, List.nil_append, List.getElem?_cons_zero, List.getElem?_cons_succ, List.set_cons_zero, List.set_cons_succ, Nat.reduceSub, Nat.reduceAdd, ite_true, ite_false, if_true, if_false, Bool.false_eq_true, Bool.true_eq_false, Bool.not_true, Bool.not_false, Option.some.injEq, nrm_non, nrm_bl, nrm_int, nrm_str, nrm_ty, nrm_lst, nrm_tupC, nrm_dct, nrm_scr, nrm_setL, wFgt, tyN_non, tyN_bl, tyN_int, tyN_str, tyN_lst, tyN_tup, tyN_dct, keyD_int, keyD_str, isA, okT, beq_self_eq_true, String.reduceBEq, Bool.or_false, Bool.or_true, Bool.and_false, Bool.and_true, Bool.true_or, Bool.false_or, Bool.true_and, Bool.false_and, true_and, and_true, List.any_cons, List.any_nil, tyNames, Option.map_some, iRn1, iRn2, iRn3, iLst, nIt, iTp, iEn, iZp, iSt, wipeD, atI0, atI1, atI2, atI3, ixN0, ixN1, ixN2, ixN3, wSub, wLt, wLe, wGt, wGe, wDiv, wMod, wPow, wShl, Mp.set_same, Mp.set_set, cSortedA, cDictP, wNewD, wEqS, nEqS, wFrzT, mExt, mCnt, nIxL, sAugS, wSlS, wJoin, cSumL, dUnl, cSortLL, cMinLL, wLenSetT, wLenDictT, mIndexB, wLenSetJ, wAddT, wSortSet, wDNewT, sDPutT, cSortDT, wBMd, wDGet1, wDGet2, mUpd, wPairs, wDisp, wLtS, cMinS, cListD, cGcd, cAbs])
  refine ⟨x, cs, one, rfl, hx, hc, hl, h1, fun r1 g1 => frz_new g1 ?_⟩
  ((try simp only [sSeq]); simp only [sRet, sRetN, sIf, sDrop, sNever, sNext, sBreak, sCont, sAsg, sPar, sPar3, sAug, dName, dNil, dCons, dTup, dSub, sSetL, wVar, wC, wFrz, wFrzK, wOp, wAdd, nAdd, nI, nI0, wMul, nMul, wNeg, wEq, nEq, wIsN, wB, wAndT, wOrT, wNotT, wAndV, wOrV, wNotV, wIfE, wChain, aNil, aCons, aStar, wLst, wTup, wIx, nIx, pNo, pSo, wSl, wRev, wRevE, mIndex, wLenSet, cRepr, wIsB, wCB, cLen, cAll, cSum, cMax, cMin, cSorted, cInt, cList, cTuple, cIsi, wBits, wLRg, wBM, wBM0, mChg, wDGet, wDIn, wDNew, sDPutD, wIn, nIn, wCall, wCallK, wNew, tYesD, startD, List.map_cons, List.map_nil, List.length_cons, List.length_nil, List.replicate, Nat.sub_self, List.append_nil, List.cons_append, List.nil_append, List.getElem?_cons_zero, List.getElem?_cons_succ, List.set_cons_zero, List.set_cons_succ, Nat.reduceSub, Nat.reduceAdd, ite_true, ite_false, if_true, if_false, Bool.false_eq_true, Bool.true_eq_false, Bool.not_true, Bool.not_false, Option.some.injEq, nrm_non, nrm_bl, nrm_int, nrm_str, nrm_ty, nrm_lst, nrm_tupC, nrm_dct, nrm_scr, nrm_setL, wFgt, tyN_non, tyN_bl, tyN_int, tyN_str, tyN_lst, tyN_tup, tyN_dct, keyD_int, keyD_str, isA, okT, beq_self_eq_true, String.reduceBEq, Bool.or_false, Bool.or_true, Bool.and_false, Bool.and_true, Bool.true_or, Bool.false_or, Bool.true_and, Bool.false_and, true_and, and_true, List.any_cons, List.any_nil, tyNames, Option.map_some, iRn1, iRn2, iRn3, iLst, nIt, iTp, iEn, iZp, iSt, wipeD, atI0, atI1, atI2, atI3, ixN0, ixN1, ixN2, ixN3, wSub, wLt, wLe, wGt, wGe, wDiv, wMod, wPow, wShl, Mp.set_same, Mp.set_set, cSortedA, cDictP, wNewD, wEqS, nEqS, wFrzT, mExt, mCnt, nIxL, sAugS, wSlS, wJoin, cSumL, dUnl, cSortLL, cMinLL, wLenSetT, wLenDictT, mIndexB, wLenSetJ, wAddT, wSortSet, wDNewT, sDPutT, cSortDT, wBMd, wDGet1, wDGet2, mUpd, wPairs, wDisp, wLtS, cMinS, cListD, cGcd, cAbs])
  refine lc_gen (P := fun _ => True) (wayI cs other) (fun k : Nat => D.int (k : Int)) (fun k => decide (k ∈ wayI cs one)) (fun k : Nat => D.int (k : Int)) (fun R h => ?_) trivial (by have := wayGo_len cs cs.length other; unfold wayI; unfold Sz; omega) (fun k hk C1 C0 c1 c0 => ?_) ?_
  · simp only [sSeq, sRet, sRetN, sIf, sDrop, sNever, sNext, sBreak, sCont, sAsg, sPar, sPar3, sAug, dName, dNil, dCons, dTup, dSub, sSetL, wVar, wC, wFrz, wFrzK, wOp, wAdd, nAdd, nI, nI0, wMul, nMul, wNeg, wEq, nEq, wIsN, wB, wAndT, wOrT, wNotT, wAndV, wOrV, wNotV, wIfE, wChain, aNil, aCons, aStar, wLst, wTup, wIx, nIx, pNo, pSo, wSl, wRev, wRevE, mIndex, wLenSet, cRepr, wIsB, wCB, cLen, cAll, cSum, cMax, cMin, cSorted, cInt, cList, cTuple, cIsi, wBits, wLRg, wBM, wBM0, mChg, wDGet, wDIn, wDNew, sDPutD, wIn, nIn, wCall, wCallK, wNew, tYesD, startD, List.map_cons, List.map_nil, List.length_cons, List.length_nil, List.replicate, Nat.sub_self, List.append_nil, List.cons_append, List.nil_append, List.getElem?_cons_zero, List.getElem?_cons_succ, List.set_cons_zero, List.set_cons_succ, Nat.reduceSub, Nat.reduceAdd, ite_true, ite_false, if_true, if_false, Bool.false_eq_true, Bool.true_eq_false, Bool.not_true, Bool.not_false, Option.some.injEq, nrm_non, nrm_bl, nrm_int, nrm_str, nrm_ty, nrm_lst, nrm_tupC, nrm_dct, nrm_scr, nrm_setL, wFgt, tyN_non, tyN_bl, tyN_int, tyN_str, tyN_lst, tyN_tup, tyN_dct, keyD_int, keyD_str, isA, okT, beq_self_eq_true, String.reduceBEq, Bool.or_false, Bool.or_true, Bool.and_false, Bool.and_true, Bool.true_or, Bool.false_or, Bool.true_and, Bool.false_and, true_and, and_true, List.any_cons, List.any_nil, tyNames, Option.map_some, iRn1, iRn2, iRn3, iLst, nIt, iTp, iEn, iZp, iSt, wipeD, atI0, atI1, atI2, atI3, ixN0, ixN1, ixN2, ixN3, wSub, wLt, wLe, wGt, wGe, wDiv, wMod, wPow, wShl, Mp.set_same, Mp.set_set, cSortedA, cDictP, wNewD, wEqS, nEqS, wFrzT, mExt, mCnt, nIxL, sAugS, wSlS, wJoin, cSumL, dUnl, cSortLL, cMinLL, wLenSetT, wLenDictT, mIndexB, wLenSetJ, wAddT, wSortSet, wDNewT, sDPutT, cSortDT, wBMd, wDGet1, wDGet2, mUpd, wPairs, wDisp, wLtS, cMinS, cListD, cGcd, cAbs]
    refine ⟨x, cs, other, rfl, hx, hc, hl, h2, fun r2 g2 => frz_new g2 ?_⟩
    simp only [sRet, sRetN, sIf, sDrop, sNever, sNext, sBreak, sCont, sAsg, sPar, sPar3, sAug, dName, dNil, dCons, dTup, dSub, sSetL, wVar, wC, wFrz, wFrzK, wOp, wAdd, nAdd, nI, nI0, wMul, nMul, wNeg, wEq, nEq, wIsN, wB, wAndT, wOrT, wNotT, wAndV, wOrV, wNotV, wIfE, wChain, aNil, aCons, aStar, wLst, wTup, wIx, nIx, pNo, pSo, wSl, wRev, wRevE, mIndex, wLenSet, cRepr, wIsB, wCB, cLen, cAll, cSum, cMax, cMin, cSorted, cInt, cList, cTuple, cIsi, wBits, wLRg, wBM, wBM0, mChg, wDGet, wDIn, wDNew, sDPutD, wIn, nIn, wCall, wCallK, wNew, tYesD, startD, List.map_cons, List.map_nil, List.length_cons, List.length_nil, List.replicate, Nat.sub_self, List.append_nil, List.cons_append, List.nil_append, List.getElem?_cons_zero, List.getElem?_cons_succ, List.set_cons_zero, List.set_cons_succ, Nat.reduceSub, Nat.reduceAdd, ite_true, ite_false, if_true, if_false, Bool.false_eq_true, Bool.true_eq_false, Bool.not_true, Bool.not_false, Option.some.injEq, nrm_non, nrm_bl, nrm_int, nrm_str, nrm_ty, nrm_lst, nrm_tupC, nrm_dct, nrm_scr, nrm_setL, wFgt, tyN_non, tyN_bl, tyN_int, tyN_str, tyN_lst, tyN_tup, tyN_dct, keyD_int, keyD_str, isA, okT, beq_self_eq_true, String.reduceBEq, Bool.or_false, Bool.or_true, Bool.and_false, Bool.and_true, Bool.true_or, Bool.false_or, Bool.true_and, Bool.false_and, true_and, and_true, List.any_cons, List.any_nil, tyNames, Option.map_some, iRn1, iRn2, iRn3, iLst, nIt, iTp, iEn, iZp, iSt, wipeD, atI0, atI1, atI2, atI3, ixN0, ixN1, ixN2, ixN3, wSub, wLt, wLe, wGt, wGe, wDiv, wMod, wPow, wShl, Mp.set_same, Mp.set_set, cSortedA, cDictP, wNewD, wEqS, nEqS, wFrzT, mExt, mCnt, nIxL, sAugS, wSlS, wJoin, cSumL, dUnl, cSortLL, cMinLL, wLenSetT, wLenDictT, mIndexB, wLenSetJ, wAddT, wSortSet, wDNewT, sDPutT, cSortDT, wBMd, wDGet1, wDGet2, mUpd, wPairs, wDisp, wLtS, cMinS, cListD, cGcd, cAbs]
    exact h
  · have e : pdOk (.int (k : Int)) = true := rfl
    simp only [sSeq, sRet, sRetN, sIf, sDrop, sNever, sNext, sBreak, sCont, sAsg, sPar, sPar3, sAug, dName, dNil, dCons, dTup, dSub, sSetL, wVar, wC, wFrz, wFrzK, wOp, wAdd, nAdd, nI, nI0, wMul, nMul, wNeg, wEq, nEq, wIsN, wB, wAndT, wOrT, wNotT, wAndV, wOrV, wNotV, wIfE, wChain, aNil, aCons, aStar, wLst, wTup, wIx, nIx, pNo, pSo, wSl, wRev, wRevE, mIndex, wLenSet, cRepr, wIsB, wCB, cLen, cAll, cSum, cMax, cMin, cSorted, cInt, cList, cTuple, cIsi, wBits, wLRg, wBM, wBM0, mChg, wDGet, wDIn, wDNew, sDPutD, wIn, nIn, wCall, wCallK, wNew, tYesD, startD, List.map_cons, List.map_nil, List.length_cons, List.length_nil, List.replicate, Nat.sub_self, List.append_nil, List.cons_append, List.nil_append, List.getElem?_cons_zero, List.getElem?_cons_succ, List.set_cons_zero, List.set_cons_succ, Nat.reduceSub, Nat.reduceAdd, ite_true, ite_false, if_true, if_false, Bool.false_eq_true, Bool.true_eq_false, Bool.not_true, Bool.not_false, Option.some.injEq, nrm_non, nrm_bl, nrm_int, nrm_str, nrm_ty, nrm_lst, nrm_tupC, nrm_dct, nrm_scr, nrm_setL, wFgt, tyN_non, tyN_bl, tyN_int, tyN_str, tyN_lst, tyN_tup, tyN_dct, keyD_int, keyD_str, isA, okT, beq_self_eq_true, String.reduceBEq, Bool.or_false, Bool.or_true, Bool.and_false, Bool.and_true, Bool.true_or, Bool.false_or, Bool.true_and, Bool.false_and, true_and, and_true, List.any_cons, List.any_nil, tyNames, Option.map_some, iRn1, iRn2, iRn3, iLst, nIt, iTp, iEn, iZp, iSt, wipeD, atI0, atI1, atI2, atI3, ixN0, ixN1, ixN2, ixN3, wSub, wLt, wLe, wGt, wGe, wDiv, wMod, wPow, wShl, Mp.set_same, Mp.set_set, cSortedA, cDictP, wNewD, wEqS, nEqS, wFrzT, mExt, mCnt, nIxL, sAugS, wSlS, wJoin, cSumL, dUnl, cSortLL, cMinLL, wLenSetT, wLenDictT, mIndexB, wLenSetJ, wAddT, wSortSet, wDNewT, sDPutT, cSortDT, wBMd, wDGet1, wDGet2, mUpd, wPairs, wDisp, wLtS, cMinS, cListD, cGcd, cAbs, any_nD, pdOk_nD, e]
    by_cases hm : k ∈ wayI cs one
    · rw [decide_eq_true hm] at c1 ⊢
      simp only [sSeq, sRet, sRetN, sIf, sDrop, sNever, sNext, sBreak, sCont, sAsg, sPar, sPar3, sAug, dName, dNil, dCons, dTup, dSub, sSetL, wVar, wC, wFrz, wFrzK, wOp, wAdd, nAdd, nI, nI0, wMul, nMul, wNeg, wEq, nEq, wIsN, wB, wAndT, wOrT, wNotT, wAndV, wOrV, wNotV, wIfE, wChain, aNil, aCons, aStar, wLst, wTup, wIx, nIx, pNo, pSo, wSl, wRev, wRevE, mIndex, wLenSet, cRepr, wIsB, wCB, cLen, cAll, cSum, cMax, cMin, cSorted, cInt, cList, cTuple, cIsi, wBits, wLRg, wBM, wBM0, mChg, wDGet, wDIn, wDNew, sDPutD, wIn, nIn, wCall, wCallK, wNew, tYesD, startD, List.map_cons, List.map_nil, List.length_cons, List.length_nil, List.replicate, Nat.sub_self, List.append_nil, List.cons_append, List.nil_append, List.getElem?_cons_zero, List.getElem?_cons_succ, List.set_cons_zero, List.set_cons_succ, Nat.reduceSub, Nat.reduceAdd, ite_true, ite_false, if_true, if_false, Bool.false_eq_true, Bool.true_eq_false, Bool.not_true, Bool.not_false, Option.some.injEq, nrm_non, nrm_bl, nrm_int, nrm_str, nrm_ty, nrm_lst, nrm_tupC, nrm_dct, nrm_scr, nrm_setL, wFgt, tyN_non, tyN_bl, tyN_int, tyN_str, tyN_lst, tyN_tup, tyN_dct, keyD_int, keyD_str, isA, okT, beq_self_eq_true, String.reduceBEq, Bool.or_false, Bool.or_true, Bool.and_false, Bool.and_true, Bool.true_or, Bool.false_or, Bool.true_and, Bool.false_and, true_and, and_true, List.any_cons, List.any_nil, tyNames, Option.map_some, iRn1, iRn2, iRn3, iLst, nIt, iTp, iEn, iZp, iSt, wipeD, atI0, atI1, atI2, atI3, ixN0, ixN1, ixN2, ixN3, wSub, wLt, wLe, wGt, wGe, wDiv, wMod, wPow, wShl, Mp.set_same, Mp.set_set, cSortedA, cDictP, wNewD, wEqS, nEqS, wFrzT, mExt, mCnt, nIxL, sAugS, wSlS, wJoin, cSumL, dUnl, cSortLL, cMinLL, wLenSetT, wLenDictT, mIndexB, wLenSetJ, wAddT, wSortSet, wDNewT, sDPutT, cSortDT, wBMd, wDGet1, wDGet2, mUpd, wPairs, wDisp, wLtS, cMinS, cListD, cGcd, cAbs]
      exact c1 rfl
    · rw [decide_eq_false hm] at c0 ⊢
      simp only [sSeq, sRet, sRetN, sIf, sDrop, sNever, sNext, sBreak, sCont, sAsg, sPar, sPar3, sAug, dName, dNil, dCons, dTup, dSub, sSetL, wVar, wC, wFrz, wFrzK, wOp, wAdd, nAdd, nI, nI0, wMul, nMul, wNeg, wEq, nEq, wIsN, wB, wAndT, wOrT, wNotT, wAndV, wOrV, wNotV, wIfE, wChain, aNil, aCons, aStar, wLst, wTup, wIx, nIx, pNo, pSo, wSl, wRev, wRevE, mIndex, wLenSet, cRepr, wIsB, wCB, cLen, cAll, cSum, cMax, cMin, cSorted, cInt, cList, cTuple, cIsi, wBits, wLRg, wBM, wBM0, mChg, wDGet, wDIn, wDNew, sDPutD, wIn, nIn, wCall, wCallK, wNew, tYesD, startD, List.map_cons, List.map_nil, List.length_cons, List.length_nil, List.replicate, Nat.sub_self, List.append_nil, List.cons_append, List.nil_append, List.getElem?_cons_zero, List.getElem?_cons_succ, List.set_cons_zero, List.set_cons_succ, Nat.reduceSub, Nat.reduceAdd, ite_true, ite_false, if_true, if_false, Bool.false_eq_true, Bool.true_eq_false, Bool.not_true, Bool.not_false, Option.some.injEq, nrm_non, nrm_bl, nrm_int, nrm_str, nrm_ty, nrm_lst, nrm_tupC, nrm_dct, nrm_scr, nrm_setL, wFgt, tyN_non, tyN_bl, tyN_int, tyN_str, tyN_lst, tyN_tup, tyN_dct, keyD_int, keyD_str, isA, okT, beq_self_eq_true, String.reduceBEq, Bool.or_false, Bool.or_true, Bool.and_false, Bool.and_true, Bool.true_or, Bool.false_or, Bool.true_and, Bool.false_and, true_and, and_true, List.any_cons, List.any_nil, tyNames, Option.map_some, iRn1, iRn2, iRn3, iLst, nIt, iTp, iEn, iZp, iSt, wipeD, atI0, atI1, atI2, atI3, ixN0, ixN1, ixN2, ixN3, wSub, wLt, wLe, wGt, wGe, wDiv, wMod, wPow, wShl, Mp.set_same, Mp.set_set, cSortedA, cDictP, wNewD, wEqS, nEqS, wFrzT, mExt, mCnt, nIxL, sAugS, wSlS, wJoin, cSumL, dUnl, cSortLL, cMinLL, wLenSetT, wLenDictT, mIndexB, wLenSetJ, wAddT, wSortSet, wDNewT, sDPutT, cSortDT, wBMd, wDGet1, wDGet2, mUpd, wPairs, wDisp, wLtS, cMinS, cListD, cGcd, cAbs]
      exact c0 rfl
  · have e : ((wayI cs other).filter fun k => decide (k ∈ wayI cs one)) = comI cs one other := rfl
    rw [e]
    show Sz 0 ∧ _
    cases hcm : comI cs one other with
    | nil =>
      rw [hcm] at q
      have dn : deq (.lst []) (.lst []) = true := deq_refl pdOk_nil
      simp only [sRet, sRetN, sIf, sDrop, sNever, sNext, sBreak, sCont, sAsg, sPar, sPar3, sAug, dName, dNil, dCons, dTup, dSub, sSetL, wVar, wC, wFrz, wFrzK, wOp, wAdd, nAdd, nI, nI0, wMul, nMul, wNeg, wEq, nEq, wIsN, wB, wAndT, wOrT, wNotT, wAndV, wOrV, wNotV, wIfE, wChain, aNil, aCons, aStar, wLst, wTup, wIx, nIx, pNo, pSo, wSl, wRev, wRevE, mIndex, wLenSet, cRepr, wIsB, wCB, cLen, cAll, cSum, cMax, cMin, cSorted, cInt, cList, cTuple, cIsi, wBits, wLRg, wBM, wBM0, mChg, wDGet, wDIn, wDNew, sDPutD, wIn, nIn, wCall, wCallK, wNew, tYesD, startD, List.map_cons, List.map_nil, List.length_cons, List.length_nil, List.replicate, Nat.sub_self, List.append_nil, List.cons_append, List.nil_append, List.getElem?_cons_zero, List.getElem?_cons_succ, List.set_cons_zero, List.set_cons_succ, Nat.reduceSub, Nat.reduceAdd, ite_true, ite_false, if_true, if_false, Bool.false_eq_true, Bool.true_eq_false, Bool.not_true, Bool.not_false, Option.some.injEq, nrm_non, nrm_bl, nrm_int, nrm_str, nrm_ty, nrm_lst, nrm_tupC, nrm_dct, nrm_scr, nrm_setL, wFgt, tyN_non, tyN_bl, tyN_int, tyN_str, tyN_lst, tyN_tup, tyN_dct, keyD_int, keyD_str, isA, okT, beq_self_eq_true, String.reduceBEq, Bool.or_false, Bool.or_true, Bool.and_false, Bool.and_true, Bool.true_or, Bool.false_or, Bool.true_and, Bool.false_and, true_and, and_true, List.any_cons, List.any_nil, tyNames, Option.map_some, iRn1, iRn2, iRn3, iLst, nIt, iTp, iEn, iZp, iSt, wipeD, atI0, atI1, atI2, atI3, ixN0, ixN1, ixN2, ixN3, wSub, wLt, wLe, wGt, wGe, wDiv, wMod, wPow, wShl, Mp.set_same, Mp.set_set, cSortedA, cDictP, wNewD, wEqS, nEqS, wFrzT, mExt, mCnt, nIxL, sAugS, wSlS, wJoin, cSumL, dUnl, cSortLL, cMinLL, wLenSetT, wLenDictT, mIndexB, wLenSetJ, wAddT, wSortSet, wDNewT, sDPutT, cSortDT, wBMd, wDGet1, wDGet2, mUpd, wPairs, wDisp, wLtS, cMinS, cListD, cGcd, cAbs, pdOk_nil, dn]
      exact ⟨sz0, q⟩
    | cons a l =>
      rw [hcm] at q
      have hp1 : pdOk (.lst (nD (a :: l))) = true := pdOk_nD
      have dn : deq (.lst (nD (a :: l))) (.lst []) = false := by
        have e2 : nD (a :: l) = ((a :: l).map fun k : Nat => (k : Int)).map D.int := by unfold nD; rw [List.map_map]; rfl
        rw [e2, deq_nil]; rfl
      have e3 : (a :: l).map (fun k : Nat => D.int (k : Int)) = nD (a :: l) := rfl
      rw [e3]
      have a0 : atI (nD (a :: l)) 0 = some (.int a) := atI0
      simp only [sRet, sRetN, sIf, sDrop, sNever, sNext, sBreak, sCont, sAsg, sPar, sPar3, sAug, dName, dNil, dCons, dTup, dSub, sSetL, wVar, wC, wFrz, wFrzK, wOp, wAdd, nAdd, nI, nI0, wMul, nMul, wNeg, wEq, nEq, wIsN, wB, wAndT, wOrT, wNotT, wAndV, wOrV, wNotV, wIfE, wChain, aNil, aCons, aStar, wLst, wTup, wIx, nIx, pNo, pSo, wSl, wRev, wRevE, mIndex, wLenSet, cRepr, wIsB, wCB, cLen, cAll, cSum, cMax, cMin, cSorted, cInt, cList, cTuple, cIsi, wBits, wLRg, wBM, wBM0, mChg, wDGet, wDIn, wDNew, sDPutD, wIn, nIn, wCall, wCallK, wNew, tYesD, startD, List.map_cons, List.map_nil, List.length_cons, List.length_nil, List.replicate, Nat.sub_self, List.append_nil, List.cons_append, List.nil_append, List.getElem?_cons_zero, List.getElem?_cons_succ, List.set_cons_zero, List.set_cons_succ, Nat.reduceSub, Nat.reduceAdd, ite_true, ite_false, if_true, if_false, Bool.false_eq_true, Bool.true_eq_false, Bool.not_true, Bool.not_false, Option.some.injEq, nrm_non, nrm_bl, nrm_int, nrm_str, nrm_ty, nrm_lst, nrm_tupC, nrm_dct, nrm_scr, nrm_setL, wFgt, tyN_non, tyN_bl, tyN_int, tyN_str, tyN_lst, tyN_tup, tyN_dct, keyD_int, keyD_str, isA, okT, beq_self_eq_true, String.reduceBEq, Bool.or_false, Bool.or_true, Bool.and_false, Bool.and_true, Bool.true_or, Bool.false_or, Bool.true_and, Bool.false_and, true_and, and_true, List.any_cons, List.any_nil, tyNames, Option.map_some, iRn1, iRn2, iRn3, iLst, nIt, iTp, iEn, iZp, iSt, wipeD, atI0, atI1, atI2, atI3, ixN0, ixN1, ixN2, ixN3, wSub, wLt, wLe, wGt, wGe, wDiv, wMod, wPow, wShl, Mp.set_same, Mp.set_set, cSortedA, cDictP, wNewD, wEqS, nEqS, wFrzT, mExt, mCnt, nIxL, sAugS, wSlS, wJoin, cSumL, dUnl, cSortLL, cMinLL, wLenSetT, wLenDictT, mIndexB, wLenSetJ, wAddT, wSortSet, wDNewT, sDPutT, cSortDT, wBMd, wDGet1, wDGet2, mUpd, wPairs, wDisp, wLtS, cMinS, cListD, cGcd, cAbs, pdOk_nil, hp1, dn, a0]
      exact ⟨sz0, q⟩
abbrev s_alike_share : Stmt := topS 28
theorem sc_alike_share : FnScope ["counts", "starts", "ends", "end"] ["counts", "starts"] (defScope s_alike_share) := ⟨rfl, rfl, rfl, by decide +kernel, rfl, by decide +kernel, by decide +kernel⟩
theorem ok_alike_share {f : Addr} {fd : FuncData} (F : FnP K "alike_share" s_alike_share [] f fd)
    {f_check_starts : Addr} {fd_check_starts : FuncData} {ds_check_starts : List Value} (G_check_starts : Kn P w K mg base "check_starts" ["counts", "starts"] R_check_starts 5 [] ds_check_starts f_check_starts fd_check_starts)
    {f_ends_there : Addr} {fd_ends_there : FuncData} {ds_ends_there : List Value} (G_ends_there : Kn P w K mg base "ends_there" ["counts"] R_ends_there 1 [] ds_ends_there f_ends_there fd_ends_there)
    {f_fraction : Addr} {fd_fraction : FuncData} {ds_fraction : List Value} (G_fraction : Kn P w K mg base "fraction" ["above", "below"] R_fraction 1 [] ds_fraction f_fraction fd_fraction)
    (m_sum : mg "sum" = none) :
    FnG P w K mg base 6 f fd ["counts", "starts"] (spD R_alike_share) := by
  have nd := sc_alike_share.nd
  refine fnD (k := 5) F sc_alike_share len_alike_share fun cdv A outer s H E hr hq => ?_
  have hu := hu_of hr
  have hr65 := room65 hr
  have hr66 := room66 hr
  refine ⟨_, _, pss_cons (ps_expr (pe_callG (G_check_starts.ok.mono (by decide)) hr hq (by rfl) G_check_starts.m G_check_starts.kp G_check_starts.b G_check_starts.dv (pa_cons (pv 0) (pa_cons (pv 1) (pa_nil)))))
      (pss_cons (ps_set (i := 2) nd rfl (by first | exact .inl rfl | exact .inr rfl) (pe_slice sl_list (pe_callG (G_ends_there.ok.mono (by decide)) hr hq (by rfl) G_ends_there.m G_ends_there.kp G_ends_there.b G_ends_there.dv (pa_cons (pv 0) (pa_nil))) (po_none) (po_some (pv 1))))
      (pss_one (ps_ret (pe_callG (G_fraction.ok.mono (by decide)) hr hq (by rfl) G_fraction.m G_fraction.kp G_fraction.b G_fraction.dv (pa_cons (pe_callB (cr_sum rfl) (by rfl) m_sum (by decide +kernel) (pa_cons (pe_lc (own := [("end", 3)]) (by rfl) nd (pi_list (pv 2)) (blkOk_by (by kernel_rfl)) (fun _ _ _ _ _ => pg_name (i := 3) nd rfl (by first | exact .inl rfl | exact .inr rfl)) (fun _ _ _ _ _ => pts_nil) (fun _ _ _ _ _ => pe_bm PySem.F.plainAttrs_list PySem.F.slot_list_count PySem.F.type_list_count mt_lcount (pv 2) (pa_cons (pv 3) (pa_nil)))) (pa_nil))) (pa_cons (pe_op op_mulA (pv 1) (pv 1)) (pa_nil))))))),
    ts_seq (ts_drop (tr_call (ta_cons (tr_var (i := 0)) (ta_cons (tr_var (i := 1)) (ta_nil)))))
      (ts_seq (ts_asg (tr_sl (md := .frz) (tr_frz (tr_call (ta_cons (tr_var (i := 0)) (ta_nil)))) (tp_no) (tp_so (tr_var (i := 1)))) (tg_name (i := 2)))
      (ts_ret (tr_call (ta_cons (tr_cb ct_sum (ta_cons (tr_lc (md := .frz) (ti_list (tr_var (i := 2))) (tc_name (i := 3) (by decide)) (tt_yes) (tr_bm mt_countD (tr_var (i := 2)) (ta_cons (tr_var (i := 3)) (ta_nil)))) (ta_nil))) (ta_cons (tr_op (ot_mul (md := .frz)) (tr_var (i := 1)) (tr_var (i := 1))) (ta_nil)))))), ?_⟩
  rintro ds M Q ⟨x, cs, k, rfl, hx, hc, hl, h1, h2, q⟩
  ((try simp only [sSeq]); simp only [sRet, sRetN, sIf, sDrop, sNever, sNext, sBreak, sCont, sAsg, sPar, sPar3, sAug, dName, dNil, dCons, dTup, dSub, sSetL, wVar, wC, wFrz, wFrzK, wOp, wAdd, nAdd, nI, nI0, wMul, nMul, wNeg, wEq, nEq, wIsN, wB, wAndT, wOrT, wNotT, wAndV, wOrV, wNotV, wIfE, wChain, aNil, aCons, aStar, wLst, wTup, wIx, nIx, pNo, pSo, wSl, wRev, wRevE, mIndex, wLenSet, cRepr, wIsB, wCB, cLen, cAll, cSum, cMax, cMin, cSorted, cInt, cList, cTuple, cIsi, wBits, wLRg, wBM, wBM0, mChg, wDGet, wDIn, wDNew, sDPutD, wIn, nIn, wCall, wCallK, wNew, tYesD, startD, List.map_cons, List.map_nil, List.length_cons, List.length_nil, List.replicate, Nat.sub_self, List.append_nil, List.cons_append, List.nil_append, List.getElem?_cons_zero, List.getElem?_cons_succ, List.set_cons_zero, List.set_cons_succ, Nat.reduceSub, Nat.reduceAdd, ite_true, ite_false, if_true, if_false, Bool.false_eq_true, Bool.true_eq_false, Bool.not_true, Bool.not_false, Option.some.injEq, nrm_non, nrm_bl, nrm_int, nrm_str, nrm_ty, nrm_lst, nrm_tupC, nrm_dct, nrm_scr, nrm_setL, wFgt, tyN_non, tyN_bl, tyN_int, tyN_str, tyN_lst, tyN_tup, tyN_dct, keyD_int, keyD_str, isA, okT, beq_self_eq_true, String.reduceBEq, Bool.or_false, Bool.or_true, Bool.and_false, Bool.and_true, Bool.true_or, Bool.false_or, Bool.true_and, Bool.false_and, true_and, and_true, List.any_cons, List.any_nil, tyNames, Option.map_some, iRn1, iRn2, iRn3, iLst, nIt, iTp, iEn, iZp, iSt, wipeD, atI0, atI1, atI2, atI3, ixN0, ixN1, ixN2, ixN3, wSub, wLt, wLe, wGt, wGe, wDiv, wMod, wPow, wShl, Mp.set_same, Mp.set_set, cSortedA, cDictP, wNewD, wEqS, nEqS, wFrzT, mExt, mCnt, nIxL, sAugS, wSlS, wJoin, cSumL, dUnl, cSortLL, cMinLL, wLenSetT, wLenDictT, mIndexB, wLenSetJ, wAddT, wSortSet, wDNewT, sDPutT, cSortDT, wBMd, wDGet1, wDGet2, mUpd, wPairs, wDisp, wLtS, cMinS, cListD, cGcd, cAbs])
  refine ⟨x, cs, k, rfl, hx, hc, by omega, h1, h2, ?_⟩
  ((try simp only [sSeq]); simp only [sRet, sRetN, sIf, sDrop, sNever, sNext, sBreak, sCont, sAsg, sPar, sPar3, sAug, dName, dNil, dCons, dTup, dSub, sSetL, wVar, wC, wFrz, wFrzK, wOp, wAdd, nAdd, nI, nI0, wMul, nMul, wNeg, wEq, nEq, wIsN, wB, wAndT, wOrT, wNotT, wAndV, wOrV, wNotV, wIfE, wChain, aNil, aCons, aStar, wLst, wTup, wIx, nIx, pNo, pSo, wSl, wRev, wRevE, mIndex, wLenSet, cRepr, wIsB, wCB, cLen, cAll, cSum, cMax, cMin, cSorted, cInt, cList, cTuple, cIsi, wBits, wLRg, wBM, wBM0, mChg, wDGet, wDIn, wDNew, sDPutD, wIn, nIn, wCall, wCallK, wNew, tYesD, startD, List.map_cons, List.map_nil, List.length_cons, List.length_nil, List.replicate, Nat.sub_self, List.append_nil, List.cons_append, List.nil_append, List.getElem?_cons_zero, List.getElem?_cons_succ, List.set_cons_zero, List.set_cons_succ, Nat.reduceSub, Nat.reduceAdd, ite_true, ite_false, if_true, if_false, Bool.false_eq_true, Bool.true_eq_false, Bool.not_true, Bool.not_false, Option.some.injEq, nrm_non, nrm_bl, nrm_int, nrm_str, nrm_ty, nrm_lst, nrm_tupC, nrm_dct, nrm_scr, nrm_setL, wFgt, tyN_non, tyN_bl, tyN_int, tyN_str, tyN_lst, tyN_tup, tyN_dct, keyD_int, keyD_str, isA, okT, beq_self_eq_true, String.reduceBEq, Bool.or_false, Bool.or_true, Bool.and_false, Bool.and_true, Bool.true_or, Bool.false_or, Bool.true_and, Bool.false_and, true_and, and_true, List.any_cons, List.any_nil, tyNames, Option.map_some, iRn1, iRn2, iRn3, iLst, nIt, iTp, iEn, iZp, iSt, wipeD, atI0, atI1, atI2, atI3, ixN0, ixN1, ixN2, ixN3, wSub, wLt, wLe, wGt, wGe, wDiv, wMod, wPow, wShl, Mp.set_same, Mp.set_set, cSortedA, cDictP, wNewD, wEqS, nEqS, wFrzT, mExt, mCnt, nIxL, sAugS, wSlS, wJoin, cSumL, dUnl, cSortLL, cMinLL, wLenSetT, wLenDictT, mIndexB, wLenSetJ, wAddT, wSortSet, wDNewT, sDPutT, cSortDT, wBMd, wDGet1, wDGet2, mUpd, wPairs, wDisp, wLtS, cMinS, cListD, cGcd, cAbs])
  refine ⟨x, cs, rfl, hx, hc, by omega, fun r1 g1 => frz_new g1 ?_⟩
  ((try simp only [sSeq]); simp only [sRet, sRetN, sIf, sDrop, sNever, sNext, sBreak, sCont, sAsg, sPar, sPar3, sAug, dName, dNil, dCons, dTup, dSub, sSetL, wVar, wC, wFrz, wFrzK, wOp, wAdd, nAdd, nI, nI0, wMul, nMul, wNeg, wEq, nEq, wIsN, wB, wAndT, wOrT, wNotT, wAndV, wOrV, wNotV, wIfE, wChain, aNil, aCons, aStar, wLst, wTup, wIx, nIx, pNo, pSo, wSl, wRev, wRevE, mIndex, wLenSet, cRepr, wIsB, wCB, cLen, cAll, cSum, cMax, cMin, cSorted, cInt, cList, cTuple, cIsi, wBits, wLRg, wBM, wBM0, mChg, wDGet, wDIn, wDNew, sDPutD, wIn, nIn, wCall, wCallK, wNew, tYesD, startD, List.map_cons, List.map_nil, List.length_cons, List.length_nil, List.replicate, Nat.sub_self, List.append_nil, List.cons_append, List.nil_append, List.getElem?_cons_zero, List.getElem?_cons_succ, List.set_cons_zero, List.set_cons_succ, Nat.reduceSub, Nat.reduceAdd, ite_true, ite_false, if_true, if_false, Bool.false_eq_true, Bool.true_eq_false, Bool.not_true, Bool.not_false, Option.some.injEq, nrm_non, nrm_bl, nrm_int, nrm_str, nrm_ty, nrm_lst, nrm_tupC, nrm_dct, nrm_scr, nrm_setL, wFgt, tyN_non, tyN_bl, tyN_int, tyN_str, tyN_lst, tyN_tup, tyN_dct, keyD_int, keyD_str, isA, okT, beq_self_eq_true, String.reduceBEq, Bool.or_false, Bool.or_true, Bool.and_false, Bool.and_true, Bool.true_or, Bool.false_or, Bool.true_and, Bool.false_and, true_and, and_true, List.any_cons, List.any_nil, tyNames, Option.map_some, iRn1, iRn2, iRn3, iLst, nIt, iTp, iEn, iZp, iSt, wipeD, atI0, atI1, atI2, atI3, ixN0, ixN1, ixN2, ixN3, wSub, wLt, wLe, wGt, wGe, wDiv, wMod, wPow, wShl, Mp.set_same, Mp.set_set, cSortedA, cDictP, wNewD, wEqS, nEqS, wFrzT, mExt, mCnt, nIxL, sAugS, wSlS, wJoin, cSumL, dUnl, cSortLL, cMinLL, wLenSetT, wLenDictT, mIndexB, wLenSetJ, wAddT, wSortSet, wDNewT, sDPutT, cSortDT, wBMd, wDGet1, wDGet2, mUpd, wPairs, wDisp, wLtS, cMinS, cListD, cGcd, cAbs])
  have hEl : (endsI cs).length = cs.length := by unfold endsI; rw [List.length_map, List.length_range]
  have ct : cutD (nD (endsI cs)) none (some (k : Int)) = nD ((endsI cs).take k) := by
    rw [cut_take (by omega), Int.toNat_natCast]
    unfold nD; rw [List.map_take]
  have htl : ((endsI cs).take k).length = k := by rw [List.length_take]; omega
  rw [ct]
  refine lc_gen (P := fun _ => True) ((endsI cs).take k) (fun k : Nat => D.int (k : Int)) (fun _ => true) (fun e => D.int ((((endsI cs).take k).count e : Nat) : Int)) (fun R h => ?_) trivial (by rw [htl]; unfold Sz; omega) (fun e he C1 C0 c1 c0 => ?_) ?_
  · simp only [sSeq, sRet, sRetN, sIf, sDrop, sNever, sNext, sBreak, sCont, sAsg, sPar, sPar3, sAug, dName, dNil, dCons, dTup, dSub, sSetL, wVar, wC, wFrz, wFrzK, wOp, wAdd, nAdd, nI, nI0, wMul, nMul, wNeg, wEq, nEq, wIsN, wB, wAndT, wOrT, wNotT, wAndV, wOrV, wNotV, wIfE, wChain, aNil, aCons, aStar, wLst, wTup, wIx, nIx, pNo, pSo, wSl, wRev, wRevE, mIndex, wLenSet, cRepr, wIsB, wCB, cLen, cAll, cSum, cMax, cMin, cSorted, cInt, cList, cTuple, cIsi, wBits, wLRg, wBM, wBM0, mChg, wDGet, wDIn, wDNew, sDPutD, wIn, nIn, wCall, wCallK, wNew, tYesD, startD, List.map_cons, List.map_nil, List.length_cons, List.length_nil, List.replicate, Nat.sub_self, List.append_nil, List.cons_append, List.nil_append, List.getElem?_cons_zero, List.getElem?_cons_succ, List.set_cons_zero, List.set_cons_succ, Nat.reduceSub, Nat.reduceAdd, ite_true, ite_false, if_true, if_false, Bool.false_eq_true, Bool.true_eq_false, Bool.not_true, Bool.not_false, Option.some.injEq, nrm_non, nrm_bl, nrm_int, nrm_str, nrm_ty, nrm_lst, nrm_tupC, nrm_dct, nrm_scr, nrm_setL, wFgt, tyN_non, tyN_bl, tyN_int, tyN_str, tyN_lst, tyN_tup, tyN_dct, keyD_int, keyD_str, isA, okT, beq_self_eq_true, String.reduceBEq, Bool.or_false, Bool.or_true, Bool.and_false, Bool.and_true, Bool.true_or, Bool.false_or, Bool.true_and, Bool.false_and, true_and, and_true, List.any_cons, List.any_nil, tyNames, Option.map_some, iRn1, iRn2, iRn3, iLst, nIt, iTp, iEn, iZp, iSt, wipeD, atI0, atI1, atI2, atI3, ixN0, ixN1, ixN2, ixN3, wSub, wLt, wLe, wGt, wGe, wDiv, wMod, wPow, wShl, Mp.set_same, Mp.set_set, cSortedA, cDictP, wNewD, wEqS, nEqS, wFrzT, mExt, mCnt, nIxL, sAugS, wSlS, wJoin, cSumL, dUnl, cSortLL, cMinLL, wLenSetT, wLenDictT, mIndexB, wLenSetJ, wAddT, wSortSet, wDNewT, sDPutT, cSortDT, wBMd, wDGet1, wDGet2, mUpd, wPairs, wDisp, wLtS, cMinS, cListD, cGcd, cAbs]
    exact h
  · have hL : isL M (.lst (nD ((endsI cs).take k))) = true := rfl
    simp only [sSeq, sRet, sRetN, sIf, sDrop, sNever, sNext, sBreak, sCont, sAsg, sPar, sPar3, sAug, dName, dNil, dCons, dTup, dSub, sSetL, wVar, wC, wFrz, wFrzK, wOp, wAdd, nAdd, nI, nI0, wMul, nMul, wNeg, wEq, nEq, wIsN, wB, wAndT, wOrT, wNotT, wAndV, wOrV, wNotV, wIfE, wChain, aNil, aCons, aStar, wLst, wTup, wIx, nIx, pNo, pSo, wSl, wRev, wRevE, mIndex, wLenSet, cRepr, wIsB, wCB, cLen, cAll, cSum, cMax, cMin, cSorted, cInt, cList, cTuple, cIsi, wBits, wLRg, wBM, wBM0, mChg, wDGet, wDIn, wDNew, sDPutD, wIn, nIn, wCall, wCallK, wNew, tYesD, startD, List.map_cons, List.map_nil, List.length_cons, List.length_nil, List.replicate, Nat.sub_self, List.append_nil, List.cons_append, List.nil_append, List.getElem?_cons_zero, List.getElem?_cons_succ, List.set_cons_zero, List.set_cons_succ, Nat.reduceSub, Nat.reduceAdd, ite_true, ite_false, if_true, if_false, Bool.false_eq_true, Bool.true_eq_false, Bool.not_true, Bool.not_false, Option.some.injEq, nrm_non, nrm_bl, nrm_int, nrm_str, nrm_ty, nrm_lst, nrm_tupC, nrm_dct, nrm_scr, nrm_setL, wFgt, tyN_non, tyN_bl, tyN_int, tyN_str, tyN_lst, tyN_tup, tyN_dct, keyD_int, keyD_str, isA, okT, beq_self_eq_true, String.reduceBEq, Bool.or_false, Bool.or_true, Bool.and_false, Bool.and_true, Bool.true_or, Bool.false_or, Bool.true_and, Bool.false_and, true_and, and_true, List.any_cons, List.any_nil, tyNames, Option.map_some, iRn1, iRn2, iRn3, iLst, nIt, iTp, iEn, iZp, iSt, wipeD, atI0, atI1, atI2, atI3, ixN0, ixN1, ixN2, ixN3, wSub, wLt, wLe, wGt, wGe, wDiv, wMod, wPow, wShl, Mp.set_same, Mp.set_set, cSortedA, cDictP, wNewD, wEqS, nEqS, wFrzT, mExt, mCnt, nIxL, sAugS, wSlS, wJoin, cSumL, dUnl, cSortLL, cMinLL, wLenSetT, wLenDictT, mIndexB, wLenSetJ, wAddT, wSortSet, wDNewT, sDPutT, cSortDT, wBMd, wDGet1, wDGet2, mUpd, wPairs, wDisp, wLtS, cMinS, cListD, cGcd, cAbs, hL, nD_ints, ints_map, count_nat]
    exact ⟨rfl, c1 rfl⟩
  · have hf : ((endsI cs).take k).filter (fun _ => true) = (endsI cs).take k := List.filter_eq_self.mpr (by simp)
    rw [hf]
    have hm : ((endsI cs).take k).map (fun e => D.int ((((endsI cs).take k).count e : Nat) : Int)) = ((((endsI cs).take k).map fun e => ((endsI cs).take k).count e).map fun k : Nat => (k : Int)).map D.int := by rw [List.map_map, List.map_map]; rfl
    rw [hm]
    have hal : (((endsI cs).take k).map fun e => ((endsI cs).take k).count e).sum = alikeN cs k := rfl
    have hle := sum_count_le (l := (endsI cs).take k) ((endsI cs).take k)
    rw [htl, hal] at hle
    have hkk : k * k ≤ 1000 * 1000 := Nat.mul_le_mul (by omega) (by omega)
    have hkp : 0 < k * k := Nat.mul_pos h1 h1
    simp only [sRet, sRetN, sIf, sDrop, sNever, sNext, sBreak, sCont, sAsg, sPar, sPar3, sAug, dName, dNil, dCons, dTup, dSub, sSetL, wVar, wC, wFrz, wFrzK, wOp, wAdd, nAdd, nI, nI0, wMul, nMul, wNeg, wEq, nEq, wIsN, wB, wAndT, wOrT, wNotT, wAndV, wOrV, wNotV, wIfE, wChain, aNil, aCons, aStar, wLst, wTup, wIx, nIx, pNo, pSo, wSl, wRev, wRevE, mIndex, wLenSet, cRepr, wIsB, wCB, cLen, cAll, cSum, cMax, cMin, cSorted, cInt, cList, cTuple, cIsi, wBits, wLRg, wBM, wBM0, mChg, wDGet, wDIn, wDNew, sDPutD, wIn, nIn, wCall, wCallK, wNew, tYesD, startD, List.map_cons, List.map_nil, List.length_cons, List.length_nil, List.replicate, Nat.sub_self, List.append_nil, List.cons_append, List.nil_append, List.getElem?_cons_zero, List.getElem?_cons_succ, List.set_cons_zero, List.set_cons_succ, Nat.reduceSub, Nat.reduceAdd, ite_true, ite_false, if_true, if_false, Bool.false_eq_true, Bool.true_eq_false, Bool.not_true, Bool.not_false, Option.some.injEq, nrm_non, nrm_bl, nrm_int, nrm_str, nrm_ty, nrm_lst, nrm_tupC, nrm_dct, nrm_scr, nrm_setL, wFgt, tyN_non, tyN_bl, tyN_int, tyN_str, tyN_lst, tyN_tup, tyN_dct, keyD_int, keyD_str, isA, okT, beq_self_eq_true, String.reduceBEq, Bool.or_false, Bool.or_true, Bool.and_false, Bool.and_true, Bool.true_or, Bool.false_or, Bool.true_and, Bool.false_and, true_and, and_true, List.any_cons, List.any_nil, tyNames, Option.map_some, iRn1, iRn2, iRn3, iLst, nIt, iTp, iEn, iZp, iSt, wipeD, atI0, atI1, atI2, atI3, ixN0, ixN1, ixN2, ixN3, wSub, wLt, wLe, wGt, wGe, wDiv, wMod, wPow, wShl, Mp.set_same, Mp.set_set, cSortedA, cDictP, wNewD, wEqS, nEqS, wFrzT, mExt, mCnt, nIxL, sAugS, wSlS, wJoin, cSumL, dUnl, cSortLL, cMinLL, wLenSetT, wLenDictT, mIndexB, wLenSetJ, wAddT, wSortSet, wDNewT, sDPutT, cSortDT, wBMd, wDGet1, wDGet2, mUpd, wPairs, wDisp, wLtS, cMinS, cListD, cGcd, cAbs, ints_map]
    rw [sum_nat, hal]
    refine ⟨.inl (by omega), alikeN cs k, k * k, by simp, hkp, by omega, by omega, q⟩
abbrev s_law_exact : Stmt := topS 37
theorem sc_law_exact : FnScope ["mine", "theirs", "is_list", "is_like", "a", "b"] ["mine", "theirs"] (defScope s_law_exact) := ⟨rfl, rfl, rfl, by decide +kernel, rfl, by decide +kernel, by decide +kernel⟩
theorem ok_law_exact (n : Nat) {f : Addr} {fd : FuncData} (F : FnP K "_law_exact" s_law_exact [] f fd)
    (m_isinstance : mg "isinstance" = none)
    (m_tuple : mg "tuple" = none)
    (m_list : mg "list" = none)
    (m_len : mg "len" = none)
    (m_all : mg "all" = none)
    (m_zip : mg "zip" = none)
    (m_int : mg "int" = none)
    (m_str : mg "str" = none)
    (m_bool : mg "bool" = none)
    (mf : mg "_law_exact" = some (.ref f)) (bf : Binds K fd ["mine", "theirs"] []) :
    FnG P w K mg base (1 + n) f fd ["mine", "theirs"] (spD (Rn_law_exact n)) := by
  have nd := sc_law_exact.nd
  induction n with
  | zero => exact fnNever never_law_exact
  | succ n ih =>
  have G_law_exact : Kn P w K mg base "_law_exact" ["mine", "theirs"] (Rn_law_exact n) (1 + n) [] [] f fd := ⟨ih, mf, F.kp, bf, .nil⟩
  refine fnD (k := 1 + n) F sc_law_exact (len_law_exact (n + 1)) fun cdv A outer s H E hr hq => ?_
  have hu := hu_of hr
  have hr65 := room65 hr
  have hr66 := room66 hr
  refine ⟨_, _, pss_cons (ps_if (pt_val (pe_callB call_isiA (by rfl) m_isinstance (by decide +kernel) (pa_cons (pv 0) (pa_cons (pe_tup (pa_cons (pe_bltn (v := .ty "list") (by rfl) m_list (by decide +kernel) rfl) (pa_cons (pe_bltn (v := .ty "tuple") (by rfl) m_tuple (by decide +kernel) rfl) (pa_nil)))) (pa_nil))))) (pss_cons (ps_set (i := 2) nd rfl (by first | exact .inl rfl | exact .inr rfl) (pe_cmpR (op_eqD hr.units) (pe_callB call_isiA (by rfl) m_isinstance (by decide +kernel) (pa_cons (pv 1) (pa_cons (pe_bltn (v := .ty "list") (by rfl) m_list (by decide +kernel) rfl) (pa_nil)))) (pe_callB call_isiA (by rfl) m_isinstance (by decide +kernel) (pa_cons (pv 0) (pa_cons (pe_bltn (v := .ty "list") (by rfl) m_list (by decide +kernel) rfl) (pa_nil)))) (nomark _)))
      (pss_cons (ps_set (i := 3) nd rfl (by first | exact .inl rfl | exact .inr rfl) (pe_and (pv 2) (pe_one (pe_cmpR (op_eqD hr.units) (pe_callB call_isiA (by rfl) m_isinstance (by decide +kernel) (pa_cons (pv 1) (pa_cons (pe_bltn (v := .ty "tuple") (by rfl) m_tuple (by decide +kernel) rfl) (pa_nil)))) (pe_callB call_isiA (by rfl) m_isinstance (by decide +kernel) (pa_cons (pv 0) (pa_cons (pe_bltn (v := .ty "tuple") (by rfl) m_tuple (by decide +kernel) rfl) (pa_nil)))) (nomark _)))))
      (pss_one (ps_ret (pe_and (pv 3) (pe_and (pe_cmpR (op_eqD hr.units) (pe_callB call_lenA (by rfl) m_len (by decide +kernel) (pa_cons (pv 0) (pa_nil))) (pe_callB call_lenA (by rfl) m_len (by decide +kernel) (pa_cons (pv 1) (pa_nil))) (nomark _)) (pe_one (pe_callB (cr_all rfl) (by rfl) m_all (by decide +kernel) (pa_cons (pe_lc (own := [("a", 4), ("b", 5)]) (by rfl) nd (RZ.pi_zipA (by rfl) m_zip (pa_cons (pv 0) (pa_cons (pv 1) (pa_nil)))) (blkOk_by (by kernel_rfl)) (fun _ _ _ _ _ => pg_tup (n := 2) rfl (pgs_cons (pg_name (i := 4) nd rfl (by first | exact .inl rfl | exact .inr rfl)) (pgs_cons (pg_name (i := 5) nd rfl (by first | exact .inl rfl | exact .inr rfl)) (pgs_nil)))) (fun _ _ _ _ _ => pts_nil) (fun _ _ _ _ _ => pe_callG (G_law_exact.ok.mono (by omega)) hr hq (by rfl) G_law_exact.m G_law_exact.kp G_law_exact.b G_law_exact.dv (pa_cons (pv 4) (pa_cons (pv 5) (pa_nil))))) (pa_nil)))))))))) (pss_nil))
      (pss_cons (ps_if (PW.pt (pw_or (pt_val (pe_callB call_isiA (by rfl) m_isinstance (by decide +kernel) (pa_cons (pv 1) (pa_cons (pe_tup (pa_cons (pe_bltn (v := .ty "list") (by rfl) m_list (by decide +kernel) rfl) (pa_cons (pe_bltn (v := .ty "tuple") (by rfl) m_tuple (by decide +kernel) rfl) (pa_nil)))) (pa_nil))))) (pw_or1 (pt_cmpR (op_neD hr.units) (pe_cmp (pc_isN (pv 0))) (pe_cmp (pc_isN (pv 1))) (nomark _))))) (pss_one (ps_ret (pe_bl))) (pss_nil))
      (pss_cons (ps_set (i := 3) nd rfl (by first | exact .inl rfl | exact .inr rfl) (pe_and (pe_cmpR (op_eqD hr.units) (pe_callB call_isiA (by rfl) m_isinstance (by decide +kernel) (pa_cons (pv 0) (pa_cons (pe_bltn (v := .ty "int") (by rfl) m_int (by decide +kernel) rfl) (pa_nil)))) (pe_callB call_isiA (by rfl) m_isinstance (by decide +kernel) (pa_cons (pv 1) (pa_cons (pe_bltn (v := .ty "int") (by rfl) m_int (by decide +kernel) rfl) (pa_nil)))) (nomark _)) (pe_one (pe_cmpR (op_eqD hr.units) (pe_callB call_isiA (by rfl) m_isinstance (by decide +kernel) (pa_cons (pv 0) (pa_cons (pe_bltn (v := .ty "str") (by rfl) m_str (by decide +kernel) rfl) (pa_nil)))) (pe_callB call_isiA (by rfl) m_isinstance (by decide +kernel) (pa_cons (pv 1) (pa_cons (pe_bltn (v := .ty "str") (by rfl) m_str (by decide +kernel) rfl) (pa_nil)))) (nomark _)))))
      (pss_one (ps_ret (pe_and (pv 3) (pe_and (pe_cmpR (op_eqD hr.units) (pe_callB call_isiA (by rfl) m_isinstance (by decide +kernel) (pa_cons (pv 0) (pa_cons (pe_bltn (v := .ty "bool") (by rfl) m_bool (by decide +kernel) rfl) (pa_nil)))) (pe_callB call_isiA (by rfl) m_isinstance (by decide +kernel) (pa_cons (pv 1) (pa_cons (pe_bltn (v := .ty "bool") (by rfl) m_bool (by decide +kernel) rfl) (pa_nil)))) (nomark _)) (pe_one (pe_cmpR (op_eqD hr.units) (pv 0) (pv 1) (nomark _))))))))),
    ts_seq (ts_if (tt_B (tr_cb ct_isi (ta_cons (tr_var (i := 0)) (ta_cons (tr_tup (ta_cons (tr_ty) (ta_cons (tr_ty) (ta_nil)))) (ta_nil))))) (ts_seq (ts_asg (tr_op ot_eq (tr_cb ct_isi (ta_cons (tr_var (i := 1)) (ta_cons (tr_ty) (ta_nil)))) (tr_cb ct_isi (ta_cons (tr_var (i := 0)) (ta_cons (tr_ty) (ta_nil))))) (tg_name (i := 2)))
      (ts_seq (ts_asg (tr_and (tr_var (i := 2)) (tr_op ot_eq (tr_cb ct_isi (ta_cons (tr_var (i := 1)) (ta_cons (tr_ty) (ta_nil)))) (tr_cb ct_isi (ta_cons (tr_var (i := 0)) (ta_cons (tr_ty) (ta_nil)))))) (tg_name (i := 3)))
      (ts_ret (tr_and (tr_var (i := 3)) (tr_and (tr_op ot_eq (tr_cb ct_len (ta_cons (tr_var (i := 0)) (ta_nil))) (tr_cb ct_len (ta_cons (tr_var (i := 1)) (ta_nil)))) (tr_cb ct_all (ta_cons (tr_lc (md := .frz) (ti_zip (ta_cons (tr_var (i := 0)) (ta_cons (tr_var (i := 1)) (ta_nil)))) (tc_tup (n := 2) (tcs_cons (tc_name (i := 4) (by decide)) (tcs_cons (tc_name (i := 5) (by decide)) (tcs_nil)))) (tt_yes) (tr_call (ta_cons (tr_var (i := 4)) (ta_cons (tr_var (i := 5)) (ta_nil))))) (ta_nil)))))))) (ts_next))
      (ts_seq (ts_if (tt_or (tt_B (tr_cb ct_isi (ta_cons (tr_var (i := 1)) (ta_cons (tr_tup (ta_cons (tr_ty) (ta_cons (tr_ty) (ta_nil)))) (ta_nil))))) (tt_test (tr_op ot_ne (tr_isN (tr_var (i := 0))) (tr_isN (tr_var (i := 1)))))) (ts_ret (tr_bl)) (ts_next))
      (ts_seq (ts_asg (tr_and (tr_op ot_eq (tr_cb ct_isi (ta_cons (tr_var (i := 0)) (ta_cons (tr_ty) (ta_nil)))) (tr_cb ct_isi (ta_cons (tr_var (i := 1)) (ta_cons (tr_ty) (ta_nil))))) (tr_op ot_eq (tr_cb ct_isi (ta_cons (tr_var (i := 0)) (ta_cons (tr_ty) (ta_nil)))) (tr_cb ct_isi (ta_cons (tr_var (i := 1)) (ta_cons (tr_ty) (ta_nil)))))) (tg_name (i := 3)))
      (ts_ret (tr_and (tr_var (i := 3)) (tr_and (tr_op ot_eq (tr_cb ct_isi (ta_cons (tr_var (i := 0)) (ta_cons (tr_ty) (ta_nil)))) (tr_cb ct_isi (ta_cons (tr_var (i := 1)) (ta_cons (tr_ty) (ta_nil))))) (tr_op ot_eq (tr_var (i := 0)) (tr_var (i := 1)))))))), ?_⟩
  rintro ds M Q ⟨d, rfl, hk, q⟩
  have s2 : Sz 2 := by unfold Sz; omega
  have s3 : Sz 2 := by unfold Sz; omega
  cases d with
  | int i => simp only [sSeq, sRet, sRetN, sIf, sDrop, sNever, sNext, sBreak, sCont, sAsg, sPar, sPar3, sAug, dName, dNil, dCons, dTup, dSub, sSetL, wVar, wC, wFrz, wFrzK, wOp, wAdd, nAdd, nI, nI0, wMul, nMul, wNeg, wEq, nEq, wIsN, wB, wAndT, wOrT, wNotT, wAndV, wOrV, wNotV, wIfE, wChain, aNil, aCons, aStar, wLst, wTup, wIx, nIx, pNo, pSo, wSl, wRev, wRevE, mIndex, wLenSet, cRepr, wIsB, wCB, cLen, cAll, cSum, cMax, cMin, cSorted, cInt, cList, cTuple, cIsi, wBits, wLRg, wBM, wBM0, mChg, wDGet, wDIn, wDNew, sDPutD, wIn, nIn, wCall, wCallK, wNew, tYesD, startD, List.map_cons, List.map_nil, List.length_cons, List.length_nil, List.replicate, Nat.sub_self, List.append_nil, List.cons_append, List.nil_append, List.getElem?_cons_zero, List.getElem?_cons_succ, List.set_cons_zero, List.set_cons_succ, Nat.reduceSub, Nat.reduceAdd, ite_true, ite_false, if_true, if_false, Bool.false_eq_true, Bool.true_eq_false, Bool.not_true, Bool.not_false, Option.some.injEq, nrm_non, nrm_bl, nrm_int, nrm_str, nrm_ty, nrm_lst, nrm_tupC, nrm_dct, nrm_scr, nrm_setL, wFgt, tyN_non, tyN_bl, tyN_int, tyN_str, tyN_lst, tyN_tup, tyN_dct, keyD_int, keyD_str, isA, okT, beq_self_eq_true, String.reduceBEq, Bool.or_false, Bool.or_true, Bool.and_false, Bool.and_true, Bool.true_or, Bool.false_or, Bool.true_and, Bool.false_and, true_and, and_true, List.any_cons, List.any_nil, tyNames, Option.map_some, iRn1, iRn2, iRn3, iLst, nIt, iTp, iEn, iZp, iSt, wipeD, atI0, atI1, atI2, atI3, ixN0, ixN1, ixN2, ixN3, wSub, wLt, wLe, wGt, wGe, wDiv, wMod, wPow, wShl, Mp.set_same, Mp.set_set, cSortedA, cDictP, wNewD, wEqS, nEqS, wFrzT, mExt, mCnt, nIxL, sAugS, wSlS, wJoin, cSumL, dUnl, cSortLL, cMinLL, wLenSetT, wLenDictT, mIndexB, wLenSetJ, wAddT, wSortSet, wDNewT, sDPutT, cSortDT, wBMd, wDGet1, wDGet2, mUpd, wPairs, wDisp, wLtS, cMinS, cListD, cGcd, cAbs, pdOk_bl, deq_bl, BEq.rfl, decide_true]; exact ⟨s2, s2, q⟩
  | bl b => simp only [sSeq, sRet, sRetN, sIf, sDrop, sNever, sNext, sBreak, sCont, sAsg, sPar, sPar3, sAug, dName, dNil, dCons, dTup, dSub, sSetL, wVar, wC, wFrz, wFrzK, wOp, wAdd, nAdd, nI, nI0, wMul, nMul, wNeg, wEq, nEq, wIsN, wB, wAndT, wOrT, wNotT, wAndV, wOrV, wNotV, wIfE, wChain, aNil, aCons, aStar, wLst, wTup, wIx, nIx, pNo, pSo, wSl, wRev, wRevE, mIndex, wLenSet, cRepr, wIsB, wCB, cLen, cAll, cSum, cMax, cMin, cSorted, cInt, cList, cTuple, cIsi, wBits, wLRg, wBM, wBM0, mChg, wDGet, wDIn, wDNew, sDPutD, wIn, nIn, wCall, wCallK, wNew, tYesD, startD, List.map_cons, List.map_nil, List.length_cons, List.length_nil, List.replicate, Nat.sub_self, List.append_nil, List.cons_append, List.nil_append, List.getElem?_cons_zero, List.getElem?_cons_succ, List.set_cons_zero, List.set_cons_succ, Nat.reduceSub, Nat.reduceAdd, ite_true, ite_false, if_true, if_false, Bool.false_eq_true, Bool.true_eq_false, Bool.not_true, Bool.not_false, Option.some.injEq, nrm_non, nrm_bl, nrm_int, nrm_str, nrm_ty, nrm_lst, nrm_tupC, nrm_dct, nrm_scr, nrm_setL, wFgt, tyN_non, tyN_bl, tyN_int, tyN_str, tyN_lst, tyN_tup, tyN_dct, keyD_int, keyD_str, isA, okT, beq_self_eq_true, String.reduceBEq, Bool.or_false, Bool.or_true, Bool.and_false, Bool.and_true, Bool.true_or, Bool.false_or, Bool.true_and, Bool.false_and, true_and, and_true, List.any_cons, List.any_nil, tyNames, Option.map_some, iRn1, iRn2, iRn3, iLst, nIt, iTp, iEn, iZp, iSt, wipeD, atI0, atI1, atI2, atI3, ixN0, ixN1, ixN2, ixN3, wSub, wLt, wLe, wGt, wGe, wDiv, wMod, wPow, wShl, Mp.set_same, Mp.set_set, cSortedA, cDictP, wNewD, wEqS, nEqS, wFrzT, mExt, mCnt, nIxL, sAugS, wSlS, wJoin, cSumL, dUnl, cSortLL, cMinLL, wLenSetT, wLenDictT, mIndexB, wLenSetJ, wAddT, wSortSet, wDNewT, sDPutT, cSortDT, wBMd, wDGet1, wDGet2, mUpd, wPairs, wDisp, wLtS, cMinS, cListD, cGcd, cAbs, pdOk_bl, deq_bl, BEq.rfl]; exact ⟨s2, s2, q⟩
  | non => simp only [sSeq, sRet, sRetN, sIf, sDrop, sNever, sNext, sBreak, sCont, sAsg, sPar, sPar3, sAug, dName, dNil, dCons, dTup, dSub, sSetL, wVar, wC, wFrz, wFrzK, wOp, wAdd, nAdd, nI, nI0, wMul, nMul, wNeg, wEq, nEq, wIsN, wB, wAndT, wOrT, wNotT, wAndV, wOrV, wNotV, wIfE, wChain, aNil, aCons, aStar, wLst, wTup, wIx, nIx, pNo, pSo, wSl, wRev, wRevE, mIndex, wLenSet, cRepr, wIsB, wCB, cLen, cAll, cSum, cMax, cMin, cSorted, cInt, cList, cTuple, cIsi, wBits, wLRg, wBM, wBM0, mChg, wDGet, wDIn, wDNew, sDPutD, wIn, nIn, wCall, wCallK, wNew, tYesD, startD, List.map_cons, List.map_nil, List.length_cons, List.length_nil, List.replicate, Nat.sub_self, List.append_nil, List.cons_append, List.nil_append, List.getElem?_cons_zero, List.getElem?_cons_succ, List.set_cons_zero, List.set_cons_succ, Nat.reduceSub, Nat.reduceAdd, ite_true, ite_false, if_true, if_false, Bool.false_eq_true, Bool.true_eq_false, Bool.not_true, Bool.not_false, Option.some.injEq, nrm_non, nrm_bl, nrm_int, nrm_str, nrm_ty, nrm_lst, nrm_tupC, nrm_dct, nrm_scr, nrm_setL, wFgt, tyN_non, tyN_bl, tyN_int, tyN_str, tyN_lst, tyN_tup, tyN_dct, keyD_int, keyD_str, isA, okT, beq_self_eq_true, String.reduceBEq, Bool.or_false, Bool.or_true, Bool.and_false, Bool.and_true, Bool.true_or, Bool.false_or, Bool.true_and, Bool.false_and, true_and, and_true, List.any_cons, List.any_nil, tyNames, Option.map_some, iRn1, iRn2, iRn3, iLst, nIt, iTp, iEn, iZp, iSt, wipeD, atI0, atI1, atI2, atI3, ixN0, ixN1, ixN2, ixN3, wSub, wLt, wLe, wGt, wGe, wDiv, wMod, wPow, wShl, Mp.set_same, Mp.set_set, cSortedA, cDictP, wNewD, wEqS, nEqS, wFrzT, mExt, mCnt, nIxL, sAugS, wSlS, wJoin, cSumL, dUnl, cSortLL, cMinLL, wLenSetT, wLenDictT, mIndexB, wLenSetJ, wAddT, wSortSet, wDNewT, sDPutT, cSortDT, wBMd, wDGet1, wDGet2, mUpd, wPairs, wDisp, wLtS, cMinS, cListD, cGcd, cAbs, pdOk_bl, deq_bl, BEq.rfl, pdOk_non, deq_refl pdOk_non]; exact ⟨s2, s2, q⟩
  | str x =>
    have hp := pdOk_str hk
    simp only [sSeq, sRet, sRetN, sIf, sDrop, sNever, sNext, sBreak, sCont, sAsg, sPar, sPar3, sAug, dName, dNil, dCons, dTup, dSub, sSetL, wVar, wC, wFrz, wFrzK, wOp, wAdd, nAdd, nI, nI0, wMul, nMul, wNeg, wEq, nEq, wIsN, wB, wAndT, wOrT, wNotT, wAndV, wOrV, wNotV, wIfE, wChain, aNil, aCons, aStar, wLst, wTup, wIx, nIx, pNo, pSo, wSl, wRev, wRevE, mIndex, wLenSet, cRepr, wIsB, wCB, cLen, cAll, cSum, cMax, cMin, cSorted, cInt, cList, cTuple, cIsi, wBits, wLRg, wBM, wBM0, mChg, wDGet, wDIn, wDNew, sDPutD, wIn, nIn, wCall, wCallK, wNew, tYesD, startD, List.map_cons, List.map_nil, List.length_cons, List.length_nil, List.replicate, Nat.sub_self, List.append_nil, List.cons_append, List.nil_append, List.getElem?_cons_zero, List.getElem?_cons_succ, List.set_cons_zero, List.set_cons_succ, Nat.reduceSub, Nat.reduceAdd, ite_true, ite_false, if_true, if_false, Bool.false_eq_true, Bool.true_eq_false, Bool.not_true, Bool.not_false, Option.some.injEq, nrm_non, nrm_bl, nrm_int, nrm_str, nrm_ty, nrm_lst, nrm_tupC, nrm_dct, nrm_scr, nrm_setL, wFgt, tyN_non, tyN_bl, tyN_int, tyN_str, tyN_lst, tyN_tup, tyN_dct, keyD_int, keyD_str, isA, okT, beq_self_eq_true, String.reduceBEq, Bool.or_false, Bool.or_true, Bool.and_false, Bool.and_true, Bool.true_or, Bool.false_or, Bool.true_and, Bool.false_and, true_and, and_true, List.any_cons, List.any_nil, tyNames, Option.map_some, iRn1, iRn2, iRn3, iLst, nIt, iTp, iEn, iZp, iSt, wipeD, atI0, atI1, atI2, atI3, ixN0, ixN1, ixN2, ixN3, wSub, wLt, wLe, wGt, wGe, wDiv, wMod, wPow, wShl, Mp.set_same, Mp.set_set, cSortedA, cDictP, wNewD, wEqS, nEqS, wFrzT, mExt, mCnt, nIxL, sAugS, wSlS, wJoin, cSumL, dUnl, cSortLL, cMinLL, wLenSetT, wLenDictT, mIndexB, wLenSetJ, wAddT, wSortSet, wDNewT, sDPutT, cSortDT, wBMd, wDGet1, wDGet2, mUpd, wPairs, wDisp, wLtS, cMinS, cListD, cGcd, cAbs, pdOk_bl, deq_bl, BEq.rfl, hp, deq_refl hp]; exact ⟨s2, s2, q⟩
  | lst xs =>
    simp only [okD, Bool.and_eq_true, decide_eq_true_iff] at hk
    simp only [sSeq, sRet, sRetN, sIf, sDrop, sNever, sNext, sBreak, sCont, sAsg, sPar, sPar3, sAug, dName, dNil, dCons, dTup, dSub, sSetL, wVar, wC, wFrz, wFrzK, wOp, wAdd, nAdd, nI, nI0, wMul, nMul, wNeg, wEq, nEq, wIsN, wB, wAndT, wOrT, wNotT, wAndV, wOrV, wNotV, wIfE, wChain, aNil, aCons, aStar, wLst, wTup, wIx, nIx, pNo, pSo, wSl, wRev, wRevE, mIndex, wLenSet, cRepr, wIsB, wCB, cLen, cAll, cSum, cMax, cMin, cSorted, cInt, cList, cTuple, cIsi, wBits, wLRg, wBM, wBM0, mChg, wDGet, wDIn, wDNew, sDPutD, wIn, nIn, wCall, wCallK, wNew, tYesD, startD, List.map_cons, List.map_nil, List.length_cons, List.length_nil, List.replicate, Nat.sub_self, List.append_nil, List.cons_append, List.nil_append, List.getElem?_cons_zero, List.getElem?_cons_succ, List.set_cons_zero, List.set_cons_succ, Nat.reduceSub, Nat.reduceAdd, ite_true, ite_false, if_true, if_false, Bool.false_eq_true, Bool.true_eq_false, Bool.not_true, Bool.not_false, Option.some.injEq, nrm_non, nrm_bl, nrm_int, nrm_str, nrm_ty, nrm_lst, nrm_tupC, nrm_dct, nrm_scr, nrm_setL, wFgt, tyN_non, tyN_bl, tyN_int, tyN_str, tyN_lst, tyN_tup, tyN_dct, keyD_int, keyD_str, isA, okT, beq_self_eq_true, String.reduceBEq, Bool.or_false, Bool.or_true, Bool.and_false, Bool.and_true, Bool.true_or, Bool.false_or, Bool.true_and, Bool.false_and, true_and, and_true, List.any_cons, List.any_nil, tyNames, Option.map_some, iRn1, iRn2, iRn3, iLst, nIt, iTp, iEn, iZp, iSt, wipeD, atI0, atI1, atI2, atI3, ixN0, ixN1, ixN2, ixN3, wSub, wLt, wLe, wGt, wGe, wDiv, wMod, wPow, wShl, Mp.set_same, Mp.set_set, cSortedA, cDictP, wNewD, wEqS, nEqS, wFrzT, mExt, mCnt, nIxL, sAugS, wSlS, wJoin, cSumL, dUnl, cSortLL, cMinLL, wLenSetT, wLenDictT, mIndexB, wLenSetJ, wAddT, wSortSet, wDNewT, sDPutT, cSortDT, wBMd, wDGet1, wDGet2, mUpd, wPairs, wDisp, wLtS, cMinS, cListD, cGcd, cAbs, pdOk_bl, deq_bl, BEq.rfl, decide_true]
    refine ⟨s2, lc_map (xs := zipD xs xs) (P := fun _ => True) (fun _ => .bl true) (fun R h => h) trivial (by rw [zipD_length, Nat.min_self]; exact hk.1) (fun x hx C c => ?_) ?_⟩
    · rw [zip_self] at hx
      obtain ⟨y, hy, rfl⟩ := List.mem_map.mp hx
      have hy' := okDs_mem hk.2 y hy
      simp only [sSeq, sRet, sRetN, sIf, sDrop, sNever, sNext, sBreak, sCont, sAsg, sPar, sPar3, sAug, dName, dNil, dCons, dTup, dSub, sSetL, wVar, wC, wFrz, wFrzK, wOp, wAdd, nAdd, nI, nI0, wMul, nMul, wNeg, wEq, nEq, wIsN, wB, wAndT, wOrT, wNotT, wAndV, wOrV, wNotV, wIfE, wChain, aNil, aCons, aStar, wLst, wTup, wIx, nIx, pNo, pSo, wSl, wRev, wRevE, mIndex, wLenSet, cRepr, wIsB, wCB, cLen, cAll, cSum, cMax, cMin, cSorted, cInt, cList, cTuple, cIsi, wBits, wLRg, wBM, wBM0, mChg, wDGet, wDIn, wDNew, sDPutD, wIn, nIn, wCall, wCallK, wNew, tYesD, startD, List.map_cons, List.map_nil, List.length_cons, List.length_nil, List.replicate, Nat.sub_self, List.append_nil, List.cons_append, List.nil_append, List.getElem?_cons_zero, List.getElem?_cons_succ, List.set_cons_zero, List.set_cons_succ, Nat.reduceSub, Nat.reduceAdd, ite_true, ite_false, if_true, if_false, Bool.false_eq_true, Bool.true_eq_false, Bool.not_true, Bool.not_false, Option.some.injEq, nrm_non, nrm_bl, nrm_int, nrm_str, nrm_ty, nrm_lst, nrm_tupC, nrm_dct, nrm_scr, nrm_setL, wFgt, tyN_non, tyN_bl, tyN_int, tyN_str, tyN_lst, tyN_tup, tyN_dct, keyD_int, keyD_str, isA, okT, beq_self_eq_true, String.reduceBEq, Bool.or_false, Bool.or_true, Bool.and_false, Bool.and_true, Bool.true_or, Bool.false_or, Bool.true_and, Bool.false_and, true_and, and_true, List.any_cons, List.any_nil, tyNames, Option.map_some, iRn1, iRn2, iRn3, iLst, nIt, iTp, iEn, iZp, iSt, wipeD, atI0, atI1, atI2, atI3, ixN0, ixN1, ixN2, ixN3, wSub, wLt, wLe, wGt, wGe, wDiv, wMod, wPow, wShl, Mp.set_same, Mp.set_set, cSortedA, cDictP, wNewD, wEqS, nEqS, wFrzT, mExt, mCnt, nIxL, sAugS, wSlS, wJoin, cSumL, dUnl, cSortLL, cMinLL, wLenSetT, wLenDictT, mIndexB, wLenSetJ, wAddT, wSortSet, wDNewT, sDPutT, cSortDT, wBMd, wDGet1, wDGet2, mUpd, wPairs, wDisp, wLtS, cMinS, cListD, cGcd, cAbs]
      cases n with
      | zero => cases y <;> cases hy'
      | succ n => exact ⟨y, rfl, hy', c⟩
    · simp only [sSeq, sRet, sRetN, sIf, sDrop, sNever, sNext, sBreak, sCont, sAsg, sPar, sPar3, sAug, dName, dNil, dCons, dTup, dSub, sSetL, wVar, wC, wFrz, wFrzK, wOp, wAdd, nAdd, nI, nI0, wMul, nMul, wNeg, wEq, nEq, wIsN, wB, wAndT, wOrT, wNotT, wAndV, wOrV, wNotV, wIfE, wChain, aNil, aCons, aStar, wLst, wTup, wIx, nIx, pNo, pSo, wSl, wRev, wRevE, mIndex, wLenSet, cRepr, wIsB, wCB, cLen, cAll, cSum, cMax, cMin, cSorted, cInt, cList, cTuple, cIsi, wBits, wLRg, wBM, wBM0, mChg, wDGet, wDIn, wDNew, sDPutD, wIn, nIn, wCall, wCallK, wNew, tYesD, startD, List.map_cons, List.map_nil, List.length_cons, List.length_nil, List.replicate, Nat.sub_self, List.append_nil, List.cons_append, List.nil_append, List.getElem?_cons_zero, List.getElem?_cons_succ, List.set_cons_zero, List.set_cons_succ, Nat.reduceSub, Nat.reduceAdd, ite_true, ite_false, if_true, if_false, Bool.false_eq_true, Bool.true_eq_false, Bool.not_true, Bool.not_false, Option.some.injEq, nrm_non, nrm_bl, nrm_int, nrm_str, nrm_ty, nrm_lst, nrm_tupC, nrm_dct, nrm_scr, nrm_setL, wFgt, tyN_non, tyN_bl, tyN_int, tyN_str, tyN_lst, tyN_tup, tyN_dct, keyD_int, keyD_str, isA, okT, beq_self_eq_true, String.reduceBEq, Bool.or_false, Bool.or_true, Bool.and_false, Bool.and_true, Bool.true_or, Bool.false_or, Bool.true_and, Bool.false_and, true_and, and_true, List.any_cons, List.any_nil, tyNames, Option.map_some, iRn1, iRn2, iRn3, iLst, nIt, iTp, iEn, iZp, iSt, wipeD, atI0, atI1, atI2, atI3, ixN0, ixN1, ixN2, ixN3, wSub, wLt, wLe, wGt, wGe, wDiv, wMod, wPow, wShl, Mp.set_same, Mp.set_set, cSortedA, cDictP, wNewD, wEqS, nEqS, wFrzT, mExt, mCnt, nIxL, sAugS, wSlS, wJoin, cSumL, dUnl, cSortLL, cMinLL, wLenSetT, wLenDictT, mIndexB, wLenSetJ, wAddT, wSortSet, wDNewT, sDPutT, cSortDT, wBMd, wDGet1, wDGet2, mUpd, wPairs, wDisp, wLtS, cMinS, cListD, cGcd, cAbs, bools_trues]
      have e : ((zipD xs xs).map fun _ => true).all id = true := by rw [List.all_map]; exact List.all_eq_true.mpr fun _ _ => rfl
      rw [e]; exact q
  | tup xs =>
    simp only [okD, Bool.and_eq_true, decide_eq_true_iff] at hk
    simp only [sSeq, sRet, sRetN, sIf, sDrop, sNever, sNext, sBreak, sCont, sAsg, sPar, sPar3, sAug, dName, dNil, dCons, dTup, dSub, sSetL, wVar, wC, wFrz, wFrzK, wOp, wAdd, nAdd, nI, nI0, wMul, nMul, wNeg, wEq, nEq, wIsN, wB, wAndT, wOrT, wNotT, wAndV, wOrV, wNotV, wIfE, wChain, aNil, aCons, aStar, wLst, wTup, wIx, nIx, pNo, pSo, wSl, wRev, wRevE, mIndex, wLenSet, cRepr, wIsB, wCB, cLen, cAll, cSum, cMax, cMin, cSorted, cInt, cList, cTuple, cIsi, wBits, wLRg, wBM, wBM0, mChg, wDGet, wDIn, wDNew, sDPutD, wIn, nIn, wCall, wCallK, wNew, tYesD, startD, List.map_cons, List.map_nil, List.length_cons, List.length_nil, List.replicate, Nat.sub_self, List.append_nil, List.cons_append, List.nil_append, List.getElem?_cons_zero, List.getElem?_cons_succ, List.set_cons_zero, List.set_cons_succ, Nat.reduceSub, Nat.reduceAdd, ite_true, ite_false, if_true, if_false, Bool.false_eq_true, Bool.true_eq_false, Bool.not_true, Bool.not_false, Option.some.injEq, nrm_non, nrm_bl, nrm_int, nrm_str, nrm_ty, nrm_lst, nrm_tupC, nrm_dct, nrm_scr, nrm_setL, wFgt, tyN_non, tyN_bl, tyN_int, tyN_str, tyN_lst, tyN_tup, tyN_dct, keyD_int, keyD_str, isA, okT, beq_self_eq_true, String.reduceBEq, Bool.or_false, Bool.or_true, Bool.and_false, Bool.and_true, Bool.true_or, Bool.false_or, Bool.true_and, Bool.false_and, true_and, and_true, List.any_cons, List.any_nil, tyNames, Option.map_some, iRn1, iRn2, iRn3, iLst, nIt, iTp, iEn, iZp, iSt, wipeD, atI0, atI1, atI2, atI3, ixN0, ixN1, ixN2, ixN3, wSub, wLt, wLe, wGt, wGe, wDiv, wMod, wPow, wShl, Mp.set_same, Mp.set_set, cSortedA, cDictP, wNewD, wEqS, nEqS, wFrzT, mExt, mCnt, nIxL, sAugS, wSlS, wJoin, cSumL, dUnl, cSortLL, cMinLL, wLenSetT, wLenDictT, mIndexB, wLenSetJ, wAddT, wSortSet, wDNewT, sDPutT, cSortDT, wBMd, wDGet1, wDGet2, mUpd, wPairs, wDisp, wLtS, cMinS, cListD, cGcd, cAbs, pdOk_bl, deq_bl, BEq.rfl, decide_true]
    refine ⟨s2, lc_map (xs := zipD xs xs) (P := fun _ => True) (fun _ => .bl true) (fun R h => h) trivial (by rw [zipD_length, Nat.min_self]; exact hk.1) (fun x hx C c => ?_) ?_⟩
    · rw [zip_self] at hx
      obtain ⟨y, hy, rfl⟩ := List.mem_map.mp hx
      have hy' := okDs_mem hk.2 y hy
      simp only [sSeq, sRet, sRetN, sIf, sDrop, sNever, sNext, sBreak, sCont, sAsg, sPar, sPar3, sAug, dName, dNil, dCons, dTup, dSub, sSetL, wVar, wC, wFrz, wFrzK, wOp, wAdd, nAdd, nI, nI0, wMul, nMul, wNeg, wEq, nEq, wIsN, wB, wAndT, wOrT, wNotT, wAndV, wOrV, wNotV, wIfE, wChain, aNil, aCons, aStar, wLst, wTup, wIx, nIx, pNo, pSo, wSl, wRev, wRevE, mIndex, wLenSet, cRepr, wIsB, wCB, cLen, cAll, cSum, cMax, cMin, cSorted, cInt, cList, cTuple, cIsi, wBits, wLRg, wBM, wBM0, mChg, wDGet, wDIn, wDNew, sDPutD, wIn, nIn, wCall, wCallK, wNew, tYesD, startD, List.map_cons, List.map_nil, List.length_cons, List.length_nil, List.replicate, Nat.sub_self, List.append_nil, List.cons_append, List.nil_append, List.getElem?_cons_zero, List.getElem?_cons_succ, List.set_cons_zero, List.set_cons_succ, Nat.reduceSub, Nat.reduceAdd, ite_true, ite_false, if_true, if_false, Bool.false_eq_true, Bool.true_eq_false, Bool.not_true, Bool.not_false, Option.some.injEq, nrm_non, nrm_bl, nrm_int, nrm_str, nrm_ty, nrm_lst, nrm_tupC, nrm_dct, nrm_scr, nrm_setL, wFgt, tyN_non, tyN_bl, tyN_int, tyN_str, tyN_lst, tyN_tup, tyN_dct, keyD_int, keyD_str, isA, okT, beq_self_eq_true, String.reduceBEq, Bool.or_false, Bool.or_true, Bool.and_false, Bool.and_true, Bool.true_or, Bool.false_or, Bool.true_and, Bool.false_and, true_and, and_true, List.any_cons, List.any_nil, tyNames, Option.map_some, iRn1, iRn2, iRn3, iLst, nIt, iTp, iEn, iZp, iSt, wipeD, atI0, atI1, atI2, atI3, ixN0, ixN1, ixN2, ixN3, wSub, wLt, wLe, wGt, wGe, wDiv, wMod, wPow, wShl, Mp.set_same, Mp.set_set, cSortedA, cDictP, wNewD, wEqS, nEqS, wFrzT, mExt, mCnt, nIxL, sAugS, wSlS, wJoin, cSumL, dUnl, cSortLL, cMinLL, wLenSetT, wLenDictT, mIndexB, wLenSetJ, wAddT, wSortSet, wDNewT, sDPutT, cSortDT, wBMd, wDGet1, wDGet2, mUpd, wPairs, wDisp, wLtS, cMinS, cListD, cGcd, cAbs]
      cases n with
      | zero => cases y <;> cases hy'
      | succ n => exact ⟨y, rfl, hy', c⟩
    · simp only [sSeq, sRet, sRetN, sIf, sDrop, sNever, sNext, sBreak, sCont, sAsg, sPar, sPar3, sAug, dName, dNil, dCons, dTup, dSub, sSetL, wVar, wC, wFrz, wFrzK, wOp, wAdd, nAdd, nI, nI0, wMul, nMul, wNeg, wEq, nEq, wIsN, wB, wAndT, wOrT, wNotT, wAndV, wOrV, wNotV, wIfE, wChain, aNil, aCons, aStar, wLst, wTup, wIx, nIx, pNo, pSo, wSl, wRev, wRevE, mIndex, wLenSet, cRepr, wIsB, wCB, cLen, cAll, cSum, cMax, cMin, cSorted, cInt, cList, cTuple, cIsi, wBits, wLRg, wBM, wBM0, mChg, wDGet, wDIn, wDNew, sDPutD, wIn, nIn, wCall, wCallK, wNew, tYesD, startD, List.map_cons, List.map_nil, List.length_cons, List.length_nil, List.replicate, Nat.sub_self, List.append_nil, List.cons_append, List.nil_append, List.getElem?_cons_zero, List.getElem?_cons_succ, List.set_cons_zero, List.set_cons_succ, Nat.reduceSub, Nat.reduceAdd, ite_true, ite_false, if_true, if_false, Bool.false_eq_true, Bool.true_eq_false, Bool.not_true, Bool.not_false, Option.some.injEq, nrm_non, nrm_bl, nrm_int, nrm_str, nrm_ty, nrm_lst, nrm_tupC, nrm_dct, nrm_scr, nrm_setL, wFgt, tyN_non, tyN_bl, tyN_int, tyN_str, tyN_lst, tyN_tup, tyN_dct, keyD_int, keyD_str, isA, okT, beq_self_eq_true, String.reduceBEq, Bool.or_false, Bool.or_true, Bool.and_false, Bool.and_true, Bool.true_or, Bool.false_or, Bool.true_and, Bool.false_and, true_and, and_true, List.any_cons, List.any_nil, tyNames, Option.map_some, iRn1, iRn2, iRn3, iLst, nIt, iTp, iEn, iZp, iSt, wipeD, atI0, atI1, atI2, atI3, ixN0, ixN1, ixN2, ixN3, wSub, wLt, wLe, wGt, wGe, wDiv, wMod, wPow, wShl, Mp.set_same, Mp.set_set, cSortedA, cDictP, wNewD, wEqS, nEqS, wFrzT, mExt, mCnt, nIxL, sAugS, wSlS, wJoin, cSumL, dUnl, cSortLL, cMinLL, wLenSetT, wLenDictT, mIndexB, wLenSetJ, wAddT, wSortSet, wDNewT, sDPutT, cSortDT, wBMd, wDGet1, wDGet2, mUpd, wPairs, wDisp, wLtS, cMinS, cListD, cGcd, cAbs, bools_trues]
      have e : ((zipD xs xs).map fun _ => true).all id = true := by rw [List.all_map]; exact List.all_eq_true.mpr fun _ _ => rfl
      rw [e]; exact q
  | _ => cases hk
abbrev s_law_case_right : Stmt := topS 41
theorem sc_law_case_right : FnScope ["purse", "counts", "kept", "many", "one", "other", "starts", "ways", "ends", "common", "alike", "end", "due", "told", "named", "place", "way"] ["purse"] (defScope s_law_case_right) := ⟨rfl, rfl, rfl, by decide +kernel, rfl, by decide +kernel, by decide +kernel⟩
theorem ok_law_case_right {f : Addr} {fd : FuncData} (F : FnP K "_law_case_right" s_law_case_right [] f fd)
    {f_law_counts : Addr} {fd_law_counts : FuncData} {ds_law_counts : List Value} (G_law_counts : Kn P w K mg base "_law_counts" ["purse", "most"] R_law_counts 4 [] ds_law_counts f_law_counts fd_law_counts)
    {f_law_draw : Addr} {fd_law_draw : FuncData} {ds_law_draw : List Value} (G_law_draw : Kn P w K mg base "_law_draw" ["purse", "many"] R_law_draw 2 [] ds_law_draw f_law_draw fd_law_draw)
    {f_law_way : Addr} {fd_law_way : FuncData} {ds_law_way : List Value} (G_law_way : Kn P w K mg base "_law_way" ["counts", "start"] R_law_way 1 [] ds_law_way f_law_way fd_law_way)
    {f_law_part : Addr} {fd_law_part : FuncData} {ds_law_part : List Value} (G_law_part : Kn P w K mg base "_law_part" ["above", "below"] R_law_part 1 [] ds_law_part f_law_part fd_law_part)
    {f_alike_share : Addr} {fd_alike_share : FuncData} {ds_alike_share : List Value} (G_alike_share : Kn P w K mg base "alike_share" ["counts", "starts"] R_alike_share 6 [] ds_alike_share f_alike_share fd_alike_share)
    {f_first_common : Addr} {fd_first_common : FuncData} {ds_first_common : List Value} (G_first_common : Kn P w K mg base "first_common" ["counts", "one", "other"] R_first_common 6 [] ds_first_common f_first_common fd_first_common)
    {f_ends_of : Addr} {fd_ends_of : FuncData} {ds_ends_of : List Value} (G_ends_of : Kn P w K mg base "ends_of" ["counts"] R_ends_of 5 [] ds_ends_of f_ends_of fd_ends_of)
    {f_way_from : Addr} {fd_way_from : FuncData} {ds_way_from : List Value} (G_way_from : Kn P w K mg base "way_from" ["counts", "start"] R_way_from 6 [] ds_way_from f_way_from fd_way_from)
    {f_law_exact : Addr} {fd_law_exact : FuncData} {ds_law_exact : List Value} (G_law_exact : Kn P w K mg base "_law_exact" ["mine", "theirs"] R_law_exact 9 [] ds_law_exact f_law_exact fd_law_exact)
    (KB_ends_of_0 : KBinds K fd_ends_of ["counts"] ["counts"] (pick 0 1 [0]) (pick 0 1 [0]))
    (KB_way_from_1 : KBinds K fd_way_from ["counts", "start"] ["start", "counts"] (pick 0 2 [1, 0]) (pick 0 2 [1, 0]))
    (KB_first_common_2 : KBinds K fd_first_common ["counts", "one", "other"] ["other", "one", "counts"] (pick 0 3 [2, 1, 0]) (pick 0 3 [2, 1, 0]))
    (KB_alike_share_3 : KBinds K fd_alike_share ["counts", "starts"] ["starts", "counts"] (pick 0 2 [1, 0]) (pick 0 2 [1, 0]))
    (m_len : mg "len" = none)
    (m_repr : mg "repr" = none)
    (m_range : mg "range" = none) :
    FnG P w K mg base 10 f fd ["purse"] (spD R_law_case_right) := by
  have nd := sc_law_case_right.nd
  refine fnD (k := 9) F sc_law_case_right len_law_case_right fun cdv A outer s H E hr hq => ?_
  have hu := hu_of hr
  have hr65 := room65 hr
  have hr66 := room66 hr
  refine ⟨_, _, pss_cons (ps_set (i := 1) nd rfl (by first | exact .inl rfl | exact .inr rfl) (pe_callG (G_law_counts.ok.mono (by decide)) hr hq (by rfl) G_law_counts.m G_law_counts.kp G_law_counts.b G_law_counts.dv (pa_cons (pv 0) (pa_cons (pe_int) (pa_nil)))))
      (pss_cons (ps_par (i := 2) (j := 3) (by rfl) nd rfl rfl (by decide) rfl rfl (pa_cons (pe_callB (call_reprD hr66 hq) (by rfl) m_repr (by decide +kernel) (pa_cons (pv 1) (pa_nil))) (pa_cons (pe_callB call_lenA (by rfl) m_len (by decide +kernel) (pa_cons (pv 1) (pa_nil))) (pa_nil))) (by rfl))
      (pss_cons (ps_asg (pe_tup (pa_cons (pe_callG (G_law_draw.ok.mono (by decide)) hr hq (by rfl) G_law_draw.m G_law_draw.kp G_law_draw.b G_law_draw.dv (pa_cons (pv 0) (pa_cons (pv 3) (pa_nil)))) (pa_cons (pe_callG (G_law_draw.ok.mono (by decide)) hr hq (by rfl) G_law_draw.m G_law_draw.kp G_law_draw.b G_law_draw.dv (pa_cons (pv 0) (pa_cons (pv 3) (pa_nil)))) (pa_cons (pe_op op_addA (pe_int) (pe_callG (G_law_draw.ok.mono (by decide)) hr hq (by rfl) G_law_draw.m G_law_draw.kp G_law_draw.b G_law_draw.dv (pa_cons (pv 0) (pa_cons (pv 3) (pa_nil))))) (pa_nil))))) (pg_tup (n := 3) rfl (pgs_cons (pg_name (i := 4) nd rfl (by first | exact .inl rfl | exact .inr rfl)) (pgs_cons (pg_name (i := 5) nd rfl (by first | exact .inl rfl | exact .inr rfl)) (pgs_cons (pg_name (i := 6) nd rfl (by first | exact .inl rfl | exact .inr rfl)) (pgs_nil))))))
      (pss_cons (ps_set (i := 7) nd rfl (by first | exact .inl rfl | exact .inr rfl) (pe_lc (own := [("place", 15)]) (by rfl) nd (pi_range1 (by rfl) m_range (pa_cons (pv 3) (pa_nil))) (blkOk_by (by kernel_rfl)) (fun _ _ _ _ _ => pg_name (i := 15) nd rfl (by first | exact .inl rfl | exact .inr rfl)) (fun _ _ _ _ _ => pts_nil) (fun _ _ _ _ _ => pe_callG (G_law_way.ok.mono (by decide)) hr hq (by rfl) G_law_way.m G_law_way.kp G_law_way.b G_law_way.dv (pa_cons (pv 1) (pa_cons (pv 15) (pa_nil))))))
      (pss_cons (ps_setLc (i := 8) (own := [("way", 16)]) (by rfl) nd rfl rfl (sw_true rfl rfl rfl (by decide +kernel)) (pi_list (pv 7)) (blkOk_by (by kernel_rfl)) (fun _ _ _ _ _ => pg_name (i := 16) nd rfl (by first | exact .inl rfl | exact .inr rfl)) (fun _ _ _ _ _ => pts_nil) (fun _ _ _ _ _ => pe_ix ix_seq (pv 16) (pe_un un_neg (pe_int)) (fun _ _ => rfl)))
      (pss_cons (ps_setLc (i := 9) (own := [("place", 15)]) (by rfl) nd rfl rfl (sw_true rfl rfl rfl (by decide +kernel)) (pi_list (pe_ix ix_seq (pv 7) (pv 4) (fun _ _ => rfl))) (blkOk_by (by kernel_rfl)) (fun _ _ _ _ _ => pg_name (i := 15) nd rfl (by first | exact .inl rfl | exact .inr rfl)) (fun _ _ _ _ _ => pts_one (pt_cmpR (op_inA hr65) (pv 15) (pe_ix ix_seq (pv 7) (pv 5) (fun _ _ => rfl)) (by rfl))) (fun _ _ _ _ _ => pv 15))
      (pss_cons (ps_set (i := 10) nd rfl (by first | exact .inl rfl | exact .inr rfl) (pe_int))
      (pss_cons (ps_for PassesOwn.never rfl (pi_list (pe_slice sl_list (pv 8) (po_none) (po_some (pv 6)))) (pg_name (i := 11) nd rfl (by first | exact .inl rfl | exact .inr rfl)) (pss_one (ps_set (i := 10) nd rfl (by first | exact .inl rfl | exact .inr rfl) (pe_op op_addA (pv 10) (pe_bm PySem.F.plainAttrs_list PySem.F.slot_list_count PySem.F.type_list_count mt_lcount (pe_slice sl_list (pv 8) (po_none) (po_some (pv 6))) (pa_cons (pv 11) (pa_nil)))))))
      (pss_cons (ps_set (i := 12) nd rfl (by first | exact .inl rfl | exact .inr rfl) (pe_lst (pa_cons (pe_ix ix_seq (pv 7) (pv 4) (fun _ _ => rfl)) (pa_cons (pv 8) (pa_cons (pe_ifExp (pt_cmpR ((op_neD hr.units).or op_ne) (pv 9) (pe_lst (pa_nil)) (nomark _)) (pe_ix ix_seq (pv 9) (pe_int) (fun _ _ => rfl)) (pe_non)) (pa_cons (pe_callG (G_law_part.ok.mono (by decide)) hr hq (by rfl) G_law_part.m G_law_part.kp G_law_part.b G_law_part.dv (pa_cons (pv 10) (pa_cons (pe_op op_mulA (pv 6) (pv 6)) (pa_nil)))) (pa_nil)))))))
      (pss_cons (ps_set (i := 13) nd rfl (by first | exact .inl rfl | exact .inr rfl) (pe_lst (pa_cons (pe_callG (G_way_from.ok.mono (by decide)) hr hq (by rfl) G_way_from.m G_way_from.kp G_way_from.b G_way_from.dv (pa_cons (pv 1) (pa_cons (pv 4) (pa_nil)))) (pa_cons (pe_callG (G_ends_of.ok.mono (by decide)) hr hq (by rfl) G_ends_of.m G_ends_of.kp G_ends_of.b G_ends_of.dv (pa_cons (pv 1) (pa_nil))) (pa_cons (pe_callG (G_first_common.ok.mono (by decide)) hr hq (by rfl) G_first_common.m G_first_common.kp G_first_common.b G_first_common.dv (pa_cons (pv 1) (pa_cons (pv 4) (pa_cons (pv 5) (pa_nil))))) (pa_cons (pe_callG (G_alike_share.ok.mono (by decide)) hr hq (by rfl) G_alike_share.m G_alike_share.kp G_alike_share.b G_alike_share.dv (pa_cons (pv 1) (pa_cons (pv 6) (pa_nil)))) (pa_nil)))))))
      (pss_cons (ps_set (i := 14) nd rfl (by first | exact .inl rfl | exact .inr rfl) (pe_lst (pa_cons (pe_callGK0 (G_way_from.ok.mono (by decide)) hr hq (by rfl) G_way_from.m G_way_from.kp KB_way_from_1 (pk_cons (pv 4) (pk_cons (pv 1) (pk_nil)))) (pa_cons (pe_callGK0 (G_ends_of.ok.mono (by decide)) hr hq (by rfl) G_ends_of.m G_ends_of.kp KB_ends_of_0 (pk_cons (pv 1) (pk_nil))) (pa_nil)))))
      (pss_cons (ps_set (i := 14) nd rfl (by first | exact .inl rfl | exact .inr rfl) (pe_op op_addA (pv 14) (pe_lst (pa_cons (pe_callGK0 (G_first_common.ok.mono (by decide)) hr hq (by rfl) G_first_common.m G_first_common.kp KB_first_common_2 (pk_cons (pv 5) (pk_cons (pv 4) (pk_cons (pv 1) (pk_nil))))) (pa_nil)))))
      (pss_cons (ps_expr (pe_bm PySem.F.plainAttrs_list PySem.F.slot_list_append PySem.F.type_list_append mt_append (pv 14) (pa_cons (pe_callGK0 (G_alike_share.ok.mono (by decide)) hr hq (by rfl) G_alike_share.m G_alike_share.kp KB_alike_share_3 (pk_cons (pv 6) (pk_cons (pv 1) (pk_nil)))) (pa_nil))))
      (pss_cons (ps_if (PW.pt (pw_or (pt_not (pt_val (pe_callG (G_law_exact.ok.mono (by decide)) hr hq (by rfl) G_law_exact.m G_law_exact.kp G_law_exact.b G_law_exact.dv (pa_cons (pe_lst (pa_cons (pv 12) (pa_cons (pv 12) (pa_nil)))) (pa_cons (pe_lst (pa_cons (pv 13) (pa_cons (pv 14) (pa_nil)))) (pa_nil)))))) (pw_or1 (pt_cmpR ((op_neD hr.units).or op_ne) (pe_cmp (pc_isN (pe_ix ix_seq (pv 12) (pe_int) (fun _ _ => rfl)))) (pe_cmpR ((op_neD hr.units).or op_ne) (pe_ix ix_seq (pv 8) (pv 4) (fun _ _ => rfl)) (pe_ix ix_seq (pv 8) (pv 5) (fun _ _ => rfl)) (nomark _)) (nomark _))))) (pss_one (ps_ret (pe_bl))) (pss_nil))
      (pss_cons (ps_expr (pe_bm PySem.F.plainAttrs_list PySem.F.slot_list_append PySem.F.type_list_append mt_append (pe_ix ix_seq (pv 13) (pe_int) (fun _ _ => rfl)) (pa_cons (pe_str) (pa_nil))))
      (pss_cons (ps_expr (pe_bm PySem.F.plainAttrs_list PySem.F.slot_list_append PySem.F.type_list_append mt_append (pe_ix ix_seq (pv 13) (pe_int) (fun _ _ => rfl)) (pa_cons (pe_str) (pa_nil))))
      (pss_one (ps_ret (pe_and (pe_callG (G_law_exact.ok.mono (by decide)) hr hq (by rfl) G_law_exact.m G_law_exact.kp G_law_exact.b G_law_exact.dv (pa_cons (pe_slice sl_list (pv 12) (po_none) (po_some (pe_int))) (pa_cons (pe_lst (pa_cons (pe_callG (G_way_from.ok.mono (by decide)) hr hq (by rfl) G_way_from.m G_way_from.kp G_way_from.b G_way_from.dv (pa_cons (pv 1) (pa_cons (pv 4) (pa_nil)))) (pa_cons (pe_callG (G_ends_of.ok.mono (by decide)) hr hq (by rfl) G_ends_of.m G_ends_of.kp G_ends_of.b G_ends_of.dv (pa_cons (pv 1) (pa_nil))) (pa_nil)))) (pa_nil)))) (pe_one (pe_cmpR ((op_eqD hr.units).or op_eq) (pe_callB (call_reprD hr66 hq) (by rfl) m_repr (by decide +kernel) (pa_cons (pv 1) (pa_nil))) (pv 2) (nomark _))))))))))))))))))))),
    ts_seq (ts_asg (tr_call (ta_cons (tr_var (i := 0)) (ta_cons (tr_int) (ta_nil)))) (tg_name (i := 1)))
      (ts_seq (ts_par (i := 2) (j := 3) (ta_cons (tr_cb ct_repr (ta_cons (tr_var (i := 1)) (ta_nil))) (ta_cons (tr_cb ct_len (ta_cons (tr_var (i := 1)) (ta_nil))) (ta_nil))))
      (ts_seq (ts_asg (tr_tup (ta_cons (tr_call (ta_cons (tr_var (i := 0)) (ta_cons (tr_var (i := 3)) (ta_nil)))) (ta_cons (tr_call (ta_cons (tr_var (i := 0)) (ta_cons (tr_var (i := 3)) (ta_nil)))) (ta_cons (tr_op (ot_add (K := K) (md := .frz)) (tr_int) (tr_call (ta_cons (tr_var (i := 0)) (ta_cons (tr_var (i := 3)) (ta_nil))))) (ta_nil))))) (tg_tup (n := 3) (tgs_cons (tg_name (i := 4)) (tgs_cons (tg_name (i := 5)) (tgs_cons (tg_name (i := 6)) (tgs_nil))))))
      (ts_seq (ts_asg (tr_lc (md := .frz) (ti_rng1 (ta_cons (tr_var (i := 3)) (ta_nil))) (tc_name (i := 15) (by decide)) (tt_yes) (tr_frz (tr_call (ta_cons (tr_var (i := 1)) (ta_cons (tr_var (i := 15)) (ta_nil)))))) (tg_name (i := 7)))
      (ts_seq (ts_asg (tr_lc (md := .frz) (ti_list (tr_var (i := 7))) (tc_name (i := 16) (by decide)) (tt_yes) (tr_op ot_ix (tr_var (i := 16)) (tr_neg (tr_int)))) (tg_name (i := 8)))
      (ts_seq (ts_asg (tr_lc (md := .frz) (ti_list (tr_op ot_ix (tr_var (i := 7)) (tr_var (i := 4)))) (tc_name (i := 15) (by decide)) (tt_test (tr_op ot_in (tr_var (i := 15)) (tr_op ot_ix (tr_var (i := 7)) (tr_var (i := 5))))) (tr_var (i := 15))) (tg_name (i := 9)))
      (ts_seq (ts_asg (tr_int) (tg_name (i := 10)))
      (ts_seq (ts_for (ti_list (tr_sl (md := .frz) (tr_var (i := 8)) (tp_no) (tp_so (tr_var (i := 6))))) (tg_name (i := 11)) (ts_asg (tr_op (ot_add (K := K) (md := .frz)) (tr_var (i := 10)) (tr_bm mt_countD (tr_sl (md := .frz) (tr_var (i := 8)) (tp_no) (tp_so (tr_var (i := 6)))) (ta_cons (tr_var (i := 11)) (ta_nil)))) (tg_name (i := 10))))
      (ts_seq (ts_asg (tr_lst (md := .frz) (ta_cons (tr_op ot_ix (tr_var (i := 7)) (tr_var (i := 4))) (ta_cons (tr_var (i := 8)) (ta_cons (tr_if (tt_test (tr_op ot_neS (tr_var (i := 9)) (tr_lst (md := .frz) (ta_nil)))) (tr_op ot_ix (tr_var (i := 9)) (tr_int)) (tr_non)) (ta_cons (tr_call (ta_cons (tr_var (i := 10)) (ta_cons (tr_op (ot_mul (md := .frz)) (tr_var (i := 6)) (tr_var (i := 6))) (ta_nil)))) (ta_nil)))))) (tg_name (i := 12)))
      (ts_seq (ts_asg (tr_lst (md := .frz) (ta_cons (tr_call (ta_cons (tr_var (i := 1)) (ta_cons (tr_var (i := 4)) (ta_nil)))) (ta_cons (tr_call (ta_cons (tr_var (i := 1)) (ta_nil))) (ta_cons (tr_call (ta_cons (tr_var (i := 1)) (ta_cons (tr_var (i := 4)) (ta_cons (tr_var (i := 5)) (ta_nil))))) (ta_cons (tr_call (ta_cons (tr_var (i := 1)) (ta_cons (tr_var (i := 6)) (ta_nil)))) (ta_nil)))))) (tg_name (i := 13)))
      (ts_seq (ts_asg (tr_lst (md := .own) (ta_cons (tr_frz (tr_callP ta_nil (ta_cons (tr_var (i := 4)) (ta_cons (tr_var (i := 1)) (ta_nil))))) (ta_cons (tr_frz (tr_callP ta_nil (ta_cons (tr_var (i := 1)) (ta_nil)))) (ta_nil)))) (tg_name (i := 14)))
      (ts_seq (ts_asg (tr_op (ot_add (K := K) (md := .own)) (tr_var (i := 14)) (tr_lst (md := .frz) (ta_cons (tr_callP ta_nil (ta_cons (tr_var (i := 5)) (ta_cons (tr_var (i := 4)) (ta_cons (tr_var (i := 1)) (ta_nil))))) (ta_nil)))) (tg_name (i := 14)))
      (ts_seq (ts_drop (tr_bm mt_appendD (tr_var (i := 14)) (ta_cons (tr_callP ta_nil (ta_cons (tr_var (i := 6)) (ta_cons (tr_var (i := 1)) (ta_nil)))) (ta_nil))))
      (ts_seq (ts_if (tt_snap (tt_or (tt_not (tt_B (tr_call (ta_cons (tr_lst (md := .frz) (ta_cons (tr_var (i := 12)) (ta_cons (tr_var (i := 12)) (ta_nil)))) (ta_cons (tr_lst (md := .frz) (ta_cons (tr_var (i := 13)) (ta_cons (tr_var (i := 14)) (ta_nil)))) (ta_nil)))))) (tt_test (tr_op ot_neS (tr_isN (tr_op ot_ix (tr_var (i := 12)) (tr_int))) (tr_op ot_neS (tr_op ot_ix (tr_var (i := 8)) (tr_var (i := 4))) (tr_op ot_ix (tr_var (i := 8)) (tr_var (i := 5)))))))) (ts_ret (tr_fgt (tr_bl))) (ts_next))
      (ts_seq (ts_drop (tr_bm mt_appendD (tr_op ot_ix (tr_var (i := 13)) (tr_int)) (ta_cons (tr_str) (ta_nil))))
      (ts_seq (ts_drop (tr_bm mt_appendD (tr_op ot_ix (tr_var (i := 13)) (tr_int)) (ta_cons (tr_str) (ta_nil))))
      (ts_ret (tr_fgt (tr_and (tr_call (ta_cons (tr_sl (md := .frz) (tr_var (i := 12)) (tp_no) (tp_so (tr_int))) (ta_cons (tr_lst (md := .frz) (ta_cons (tr_frz (tr_call (ta_cons (tr_var (i := 1)) (ta_cons (tr_var (i := 4)) (ta_nil))))) (ta_cons (tr_frz (tr_call (ta_cons (tr_var (i := 1)) (ta_nil)))) (ta_nil)))) (ta_nil)))) (tr_op ot_eqS (tr_cb ct_repr (ta_cons (tr_var (i := 1)) (ta_nil))) (tr_var (i := 2))))))))))))))))))))), ?_⟩
  rintro ds M Q ⟨p, xs, B, rfl, hp, hx, hB, q⟩
  have s8 : ∀ k : Nat, k ≤ 8 → Sz k := fun k h => (by first | omega | (unfold Sz; omega) | (simp only [List.length_map, List.length_append, List.length_cons, List.length_nil, rngI_length, List.length_take, List.length_drop, List.length_reverse]; unfold Sz; omega))
  ((try simp only [sSeq]); simp only [sRet, sRetN, sIf, sDrop, sNever, sNext, sBreak, sCont, sAsg, sPar, sPar3, sAug, dName, dNil, dCons, dTup, dSub, sSetL, wVar, wC, wFrz, wFrzK, wOp, wAdd, nAdd, nI, nI0, wMul, nMul, wNeg, wEq, nEq, wIsN, wB, wAndT, wOrT, wNotT, wAndV, wOrV, wNotV, wIfE, wChain, aNil, aCons, aStar, wLst, wTup, wIx, nIx, pNo, pSo, wSl, wRev, wRevE, mIndex, wLenSet, cRepr, wIsB, wCB, cLen, cAll, cSum, cMax, cMin, cSorted, cInt, cList, cTuple, cIsi, wBits, wLRg, wBM, wBM0, mChg, wDGet, wDIn, wDNew, sDPutD, wIn, nIn, wCall, wCallK, wNew, tYesD, startD, List.map_cons, List.map_nil, List.length_cons, List.length_nil, List.replicate, Nat.sub_self, List.append_nil, List.cons_append, List.nil_append, List.getElem?_cons_zero, List.getElem?_cons_succ, List.set_cons_zero, List.set_cons_succ, Nat.reduceSub, Nat.reduceAdd, ite_true, ite_false, if_true, if_false, Bool.false_eq_true, Bool.true_eq_false, Bool.not_true, Bool.not_false, Option.some.injEq, nrm_non, nrm_bl, nrm_int, nrm_str, nrm_ty, nrm_lst, nrm_tupC, nrm_dct, nrm_scr, nrm_setL, wFgt, tyN_non, tyN_bl, tyN_int, tyN_str, tyN_lst, tyN_tup, tyN_dct, keyD_int, keyD_str, isA, okT, beq_self_eq_true, String.reduceBEq, Bool.or_false, Bool.or_true, Bool.and_false, Bool.and_true, Bool.true_or, Bool.false_or, Bool.true_and, Bool.false_and, true_and, and_true, List.any_cons, List.any_nil, tyNames, Option.map_some, iRn1, iRn2, iRn3, iLst, nIt, iTp, iEn, iZp, iSt, wipeD, atI0, atI1, atI2, atI3, ixN0, ixN1, ixN2, ixN3, wSub, wLt, wLe, wGt, wGe, wDiv, wMod, wPow, wShl, Mp.set_same, Mp.set_set, cSortedA, cDictP, wNewD, wEqS, nEqS, wFrzT, mExt, mCnt, nIxL, sAugS, wSlS, wJoin, cSumL, dUnl, cSortLL, cMinLL, wLenSetT, wLenDictT, mIndexB, wLenSetJ, wAddT, wSortSet, wDNewT, sDPutT, cSortDT, wBMd, wDGet1, wDGet2, mUpd, wPairs, wDisp, wLtS, cMinS, cListD, cGcd, cAbs])
  refine ⟨p, xs, B, 40, rfl, hp, hx, by omega, by omega, by omega, fun cs ys hc0 hcl hcb hy => ?_⟩
  have hro := repOk_cnt hcb (by omega)
  have hcs : ∀ k ∈ cs, 1 ≤ k := fun k hk => (hcb k hk).1
  have hcp : 0 < cs.length := List.length_pos_iff.mpr hc0
  ((try simp only [sSeq]); simp only [sRet, sRetN, sIf, sDrop, sNever, sNext, sBreak, sCont, sAsg, sPar, sPar3, sAug, dName, dNil, dCons, dTup, dSub, sSetL, wVar, wC, wFrz, wFrzK, wOp, wAdd, nAdd, nI, nI0, wMul, nMul, wNeg, wEq, nEq, wIsN, wB, wAndT, wOrT, wNotT, wAndV, wOrV, wNotV, wIfE, wChain, aNil, aCons, aStar, wLst, wTup, wIx, nIx, pNo, pSo, wSl, wRev, wRevE, mIndex, wLenSet, cRepr, wIsB, wCB, cLen, cAll, cSum, cMax, cMin, cSorted, cInt, cList, cTuple, cIsi, wBits, wLRg, wBM, wBM0, mChg, wDGet, wDIn, wDNew, sDPutD, wIn, nIn, wCall, wCallK, wNew, tYesD, startD, List.map_cons, List.map_nil, List.length_cons, List.length_nil, List.replicate, Nat.sub_self, List.append_nil, List.cons_append, List.nil_append, List.getElem?_cons_zero, List.getElem?_cons_succ, List.set_cons_zero, List.set_cons_succ, Nat.reduceSub, Nat.reduceAdd, ite_true, ite_false, if_true, if_false, Bool.false_eq_true, Bool.true_eq_false, Bool.not_true, Bool.not_false, Option.some.injEq, nrm_non, nrm_bl, nrm_int, nrm_str, nrm_ty, nrm_lst, nrm_tupC, nrm_dct, nrm_scr, nrm_setL, wFgt, tyN_non, tyN_bl, tyN_int, tyN_str, tyN_lst, tyN_tup, tyN_dct, keyD_int, keyD_str, isA, okT, beq_self_eq_true, String.reduceBEq, Bool.or_false, Bool.or_true, Bool.and_false, Bool.and_true, Bool.true_or, Bool.false_or, Bool.true_and, Bool.false_and, true_and, and_true, List.any_cons, List.any_nil, tyNames, Option.map_some, iRn1, iRn2, iRn3, iLst, nIt, iTp, iEn, iZp, iSt, wipeD, atI0, atI1, atI2, atI3, ixN0, ixN1, ixN2, ixN3, wSub, wLt, wLe, wGt, wGe, wDiv, wMod, wPow, wShl, Mp.set_same, Mp.set_set, cSortedA, cDictP, wNewD, wEqS, nEqS, wFrzT, mExt, mCnt, nIxL, sAugS, wSlS, wJoin, cSumL, dUnl, cSortLL, cMinLL, wLenSetT, wLenDictT, mIndexB, wLenSetJ, wAddT, wSortSet, wDNewT, sDPutT, cSortDT, wBMd, wDGet1, wDGet2, mUpd, wPairs, wDisp, wLtS, cMinS, cListD, cGcd, cAbs, hro, List.length_map])
  refine ⟨p, ys, cs.length, _, rfl, Mp.set_same, hy, by omega, by omega, by omega, fun one ys1 ha0 ha1 hy1 => ?_⟩
  obtain ⟨one, rfl⟩ := Int.eq_ofNat_of_zero_le ha0
  refine ⟨p, ys1, cs.length, _, rfl, Mp.set_same, hy1, by omega, by omega, by omega, fun other ys2 hb0 hb1 hy2 => ?_⟩
  obtain ⟨other, rfl⟩ := Int.eq_ofNat_of_zero_le hb0
  refine ⟨p, ys2, cs.length, _, rfl, Mp.set_same, hy2, by omega, by omega, by omega, fun c ys3 hd0 hd1 hy3 => ?_⟩
  obtain ⟨c, rfl⟩ := Int.eq_ofNat_of_zero_le hd0
  obtain ⟨st, hst⟩ : ∃ st : Nat, st = 1 + c := ⟨_, rfl⟩
  have hst1 : (1 : Int) + (c : Int) = (st : Int) := by omega
  rw [Mp.set_set, Mp.set_set, Mp.set_set]
  simp only [sRet, sRetN, sIf, sDrop, sNever, sNext, sBreak, sCont, sAsg, sPar, sPar3, sAug, dName, dNil, dCons, dTup, dSub, sSetL, wVar, wC, wFrz, wFrzK, wOp, wAdd, nAdd, nI, nI0, wMul, nMul, wNeg, wEq, nEq, wIsN, wB, wAndT, wOrT, wNotT, wAndV, wOrV, wNotV, wIfE, wChain, aNil, aCons, aStar, wLst, wTup, wIx, nIx, pNo, pSo, wSl, wRev, wRevE, mIndex, wLenSet, cRepr, wIsB, wCB, cLen, cAll, cSum, cMax, cMin, cSorted, cInt, cList, cTuple, cIsi, wBits, wLRg, wBM, wBM0, mChg, wDGet, wDIn, wDNew, sDPutD, wIn, nIn, wCall, wCallK, wNew, tYesD, startD, List.map_cons, List.map_nil, List.length_cons, List.length_nil, List.replicate, Nat.sub_self, List.append_nil, List.cons_append, List.nil_append, List.getElem?_cons_zero, List.getElem?_cons_succ, List.set_cons_zero, List.set_cons_succ, Nat.reduceSub, Nat.reduceAdd, ite_true, ite_false, if_true, if_false, Bool.false_eq_true, Bool.true_eq_false, Bool.not_true, Bool.not_false, Option.some.injEq, nrm_non, nrm_bl, nrm_int, nrm_str, nrm_ty, nrm_lst, nrm_tupC, nrm_dct, nrm_scr, nrm_setL, wFgt, tyN_non, tyN_bl, tyN_int, tyN_str, tyN_lst, tyN_tup, tyN_dct, keyD_int, keyD_str, isA, okT, beq_self_eq_true, String.reduceBEq, Bool.or_false, Bool.or_true, Bool.and_false, Bool.and_true, Bool.true_or, Bool.false_or, Bool.true_and, Bool.false_and, true_and, and_true, List.any_cons, List.any_nil, tyNames, Option.map_some, iRn1, iRn2, iRn3, iLst, nIt, iTp, iEn, iZp, iSt, wipeD, atI0, atI1, atI2, atI3, ixN0, ixN1, ixN2, ixN3, wSub, wLt, wLe, wGt, wGe, wDiv, wMod, wPow, wShl, Mp.set_same, Mp.set_set, cSortedA, cDictP, wNewD, wEqS, nEqS, wFrzT, mExt, mCnt, nIxL, sAugS, wSlS, wJoin, cSumL, dUnl, cSortLL, cMinLL, wLenSetT, wLenDictT, mIndexB, wLenSetJ, wAddT, wSortSet, wDNewT, sDPutT, cSortDT, wBMd, wDGet1, wDGet2, mUpd, wPairs, wDisp, wLtS, cMinS, cListD, cGcd, cAbs, hst1]
  generalize hM1 : M.set p (.lst ys3) = M1
  ((try simp only [sSeq]); simp only [sRet, sRetN, sIf, sDrop, sNever, sNext, sBreak, sCont, sAsg, sPar, sPar3, sAug, dName, dNil, dCons, dTup, dSub, sSetL, wVar, wC, wFrz, wFrzK, wOp, wAdd, nAdd, nI, nI0, wMul, nMul, wNeg, wEq, nEq, wIsN, wB, wAndT, wOrT, wNotT, wAndV, wOrV, wNotV, wIfE, wChain, aNil, aCons, aStar, wLst, wTup, wIx, nIx, pNo, pSo, wSl, wRev, wRevE, mIndex, wLenSet, cRepr, wIsB, wCB, cLen, cAll, cSum, cMax, cMin, cSorted, cInt, cList, cTuple, cIsi, wBits, wLRg, wBM, wBM0, mChg, wDGet, wDIn, wDNew, sDPutD, wIn, nIn, wCall, wCallK, wNew, tYesD, startD, List.map_cons, List.map_nil, List.length_cons, List.length_nil, List.replicate, Nat.sub_self, List.append_nil, List.cons_append, List.nil_append, List.getElem?_cons_zero, List.getElem?_cons_succ, List.set_cons_zero, List.set_cons_succ, Nat.reduceSub, Nat.reduceAdd, ite_true, ite_false, if_true, if_false, Bool.false_eq_true, Bool.true_eq_false, Bool.not_true, Bool.not_false, Option.some.injEq, nrm_non, nrm_bl, nrm_int, nrm_str, nrm_ty, nrm_lst, nrm_tupC, nrm_dct, nrm_scr, nrm_setL, wFgt, tyN_non, tyN_bl, tyN_int, tyN_str, tyN_lst, tyN_tup, tyN_dct, keyD_int, keyD_str, isA, okT, beq_self_eq_true, String.reduceBEq, Bool.or_false, Bool.or_true, Bool.and_false, Bool.and_true, Bool.true_or, Bool.false_or, Bool.true_and, Bool.false_and, true_and, and_true, List.any_cons, List.any_nil, tyNames, Option.map_some, iRn1, iRn2, iRn3, iLst, nIt, iTp, iEn, iZp, iSt, wipeD, atI0, atI1, atI2, atI3, ixN0, ixN1, ixN2, ixN3, wSub, wLt, wLe, wGt, wGe, wDiv, wMod, wPow, wShl, Mp.set_same, Mp.set_set, cSortedA, cDictP, wNewD, wEqS, nEqS, wFrzT, mExt, mCnt, nIxL, sAugS, wSlS, wJoin, cSumL, dUnl, cSortLL, cMinLL, wLenSetT, wLenDictT, mIndexB, wLenSetJ, wAddT, wSortSet, wDNewT, sDPutT, cSortDT, wBMd, wDGet1, wDGet2, mUpd, wPairs, wDisp, wLtS, cMinS, cListD, cGcd, cAbs])
  have ho1 : one < cs.length := by omega
  have ho2 : other < cs.length := by omega
  have hst2 : 1 ≤ st ∧ st ≤ cs.length := by omega
  have hwl : ∀ k, (wayI cs k).length ≤ 40 := fun k => by have := wayGo_len cs cs.length k; unfold wayI; omega
  refine ⟨s8 3 (by omega), ?_⟩
  refine lc_gen (P := fun _ => True) (List.range cs.length) (fun k : Nat => D.int (k : Int)) (fun _ => true) (fun k => D.lst (nD (wayI cs k))) (fun R h => ?_) trivial (by rw [List.length_range]; unfold Sz; omega) (fun k hk C1 C0 c1 c0 => ?_) ?_
  · simp only [sSeq, sRet, sRetN, sIf, sDrop, sNever, sNext, sBreak, sCont, sAsg, sPar, sPar3, sAug, dName, dNil, dCons, dTup, dSub, sSetL, wVar, wC, wFrz, wFrzK, wOp, wAdd, nAdd, nI, nI0, wMul, nMul, wNeg, wEq, nEq, wIsN, wB, wAndT, wOrT, wNotT, wAndV, wOrV, wNotV, wIfE, wChain, aNil, aCons, aStar, wLst, wTup, wIx, nIx, pNo, pSo, wSl, wRev, wRevE, mIndex, wLenSet, cRepr, wIsB, wCB, cLen, cAll, cSum, cMax, cMin, cSorted, cInt, cList, cTuple, cIsi, wBits, wLRg, wBM, wBM0, mChg, wDGet, wDIn, wDNew, sDPutD, wIn, nIn, wCall, wCallK, wNew, tYesD, startD, List.map_cons, List.map_nil, List.length_cons, List.length_nil, List.replicate, Nat.sub_self, List.append_nil, List.cons_append, List.nil_append, List.getElem?_cons_zero, List.getElem?_cons_succ, List.set_cons_zero, List.set_cons_succ, Nat.reduceSub, Nat.reduceAdd, ite_true, ite_false, if_true, if_false, Bool.false_eq_true, Bool.true_eq_false, Bool.not_true, Bool.not_false, Option.some.injEq, nrm_non, nrm_bl, nrm_int, nrm_str, nrm_ty, nrm_lst, nrm_tupC, nrm_dct, nrm_scr, nrm_setL, wFgt, tyN_non, tyN_bl, tyN_int, tyN_str, tyN_lst, tyN_tup, tyN_dct, keyD_int, keyD_str, isA, okT, beq_self_eq_true, String.reduceBEq, Bool.or_false, Bool.or_true, Bool.and_false, Bool.and_true, Bool.true_or, Bool.false_or, Bool.true_and, Bool.false_and, true_and, and_true, List.any_cons, List.any_nil, tyNames, Option.map_some, iRn1, iRn2, iRn3, iLst, nIt, iTp, iEn, iZp, iSt, wipeD, atI0, atI1, atI2, atI3, ixN0, ixN1, ixN2, ixN3, wSub, wLt, wLe, wGt, wGe, wDiv, wMod, wPow, wShl, Mp.set_same, Mp.set_set, cSortedA, cDictP, wNewD, wEqS, nEqS, wFrzT, mExt, mCnt, nIxL, sAugS, wSlS, wJoin, cSumL, dUnl, cSortLL, cMinLL, wLenSetT, wLenDictT, mIndexB, wLenSetJ, wAddT, wSortSet, wDNewT, sDPutT, cSortDT, wBMd, wDGet1, wDGet2, mUpd, wPairs, wDisp, wLtS, cMinS, cListD, cGcd, cAbs]
    refine ⟨⟨by omega, by omega⟩, ?_⟩
    rw [Int.toNat_natCast, rngD_nat]
    exact h
  · simp only [sSeq, sRet, sRetN, sIf, sDrop, sNever, sNext, sBreak, sCont, sAsg, sPar, sPar3, sAug, dName, dNil, dCons, dTup, dSub, sSetL, wVar, wC, wFrz, wFrzK, wOp, wAdd, nAdd, nI, nI0, wMul, nMul, wNeg, wEq, nEq, wIsN, wB, wAndT, wOrT, wNotT, wAndV, wOrV, wNotV, wIfE, wChain, aNil, aCons, aStar, wLst, wTup, wIx, nIx, pNo, pSo, wSl, wRev, wRevE, mIndex, wLenSet, cRepr, wIsB, wCB, cLen, cAll, cSum, cMax, cMin, cSorted, cInt, cList, cTuple, cIsi, wBits, wLRg, wBM, wBM0, mChg, wDGet, wDIn, wDNew, sDPutD, wIn, nIn, wCall, wCallK, wNew, tYesD, startD, List.map_cons, List.map_nil, List.length_cons, List.length_nil, List.replicate, Nat.sub_self, List.append_nil, List.cons_append, List.nil_append, List.getElem?_cons_zero, List.getElem?_cons_succ, List.set_cons_zero, List.set_cons_succ, Nat.reduceSub, Nat.reduceAdd, ite_true, ite_false, if_true, if_false, Bool.false_eq_true, Bool.true_eq_false, Bool.not_true, Bool.not_false, Option.some.injEq, nrm_non, nrm_bl, nrm_int, nrm_str, nrm_ty, nrm_lst, nrm_tupC, nrm_dct, nrm_scr, nrm_setL, wFgt, tyN_non, tyN_bl, tyN_int, tyN_str, tyN_lst, tyN_tup, tyN_dct, keyD_int, keyD_str, isA, okT, beq_self_eq_true, String.reduceBEq, Bool.or_false, Bool.or_true, Bool.and_false, Bool.and_true, Bool.true_or, Bool.false_or, Bool.true_and, Bool.false_and, true_and, and_true, List.any_cons, List.any_nil, tyNames, Option.map_some, iRn1, iRn2, iRn3, iLst, nIt, iTp, iEn, iZp, iSt, wipeD, atI0, atI1, atI2, atI3, ixN0, ixN1, ixN2, ixN3, wSub, wLt, wLe, wGt, wGe, wDiv, wMod, wPow, wShl, Mp.set_same, Mp.set_set, cSortedA, cDictP, wNewD, wEqS, nEqS, wFrzT, mExt, mCnt, nIxL, sAugS, wSlS, wJoin, cSumL, dUnl, cSortLL, cMinLL, wLenSetT, wLenDictT, mIndexB, wLenSetJ, wAddT, wSortSet, wDNewT, sDPutT, cSortDT, wBMd, wDGet1, wDGet2, mUpd, wPairs, wDisp, wLtS, cMinS, cListD, cGcd, cAbs]
    refine ⟨_, cs, k, rfl, rfl, hcs, by omega, List.mem_range.mp hk, fun r g => frz_new g ?_⟩
    exact c1 rfl
  have hf : (List.range cs.length).filter (fun _ => true) = List.range cs.length := List.filter_eq_self.mpr (by simp)
  rw [hf]
  have hway : ∀ k, k < cs.length → atI ((List.range cs.length).map fun k => D.lst (nD (wayI cs k))) (k : Int) = some (.lst (nD (wayI cs k))) := fun k hk => atI_nat (by rw [List.getElem?_map, List.getElem?_range hk]; rfl)
  have hEl : (endsI cs).length = cs.length := by unfold endsI; rw [List.length_map, List.length_range]
  have hend : ∀ k, k < cs.length → atI (nD (endsI cs)) (k : Int) = some (.int (endI cs k)) := fun k hk => atI_nat (by unfold nD endsI; rw [List.map_map, List.getElem?_map, List.getElem?_range hk]; rfl)
  simp only [sRet, sRetN, sIf, sDrop, sNever, sNext, sBreak, sCont, sAsg, sPar, sPar3, sAug, dName, dNil, dCons, dTup, dSub, sSetL, wVar, wC, wFrz, wFrzK, wOp, wAdd, nAdd, nI, nI0, wMul, nMul, wNeg, wEq, nEq, wIsN, wB, wAndT, wOrT, wNotT, wAndV, wOrV, wNotV, wIfE, wChain, aNil, aCons, aStar, wLst, wTup, wIx, nIx, pNo, pSo, wSl, wRev, wRevE, mIndex, wLenSet, cRepr, wIsB, wCB, cLen, cAll, cSum, cMax, cMin, cSorted, cInt, cList, cTuple, cIsi, wBits, wLRg, wBM, wBM0, mChg, wDGet, wDIn, wDNew, sDPutD, wIn, nIn, wCall, wCallK, wNew, tYesD, startD, List.map_cons, List.map_nil, List.length_cons, List.length_nil, List.replicate, Nat.sub_self, List.append_nil, List.cons_append, List.nil_append, List.getElem?_cons_zero, List.getElem?_cons_succ, List.set_cons_zero, List.set_cons_succ, Nat.reduceSub, Nat.reduceAdd, ite_true, ite_false, if_true, if_false, Bool.false_eq_true, Bool.true_eq_false, Bool.not_true, Bool.not_false, Option.some.injEq, nrm_non, nrm_bl, nrm_int, nrm_str, nrm_ty, nrm_lst, nrm_tupC, nrm_dct, nrm_scr, nrm_setL, wFgt, tyN_non, tyN_bl, tyN_int, tyN_str, tyN_lst, tyN_tup, tyN_dct, keyD_int, keyD_str, isA, okT, beq_self_eq_true, String.reduceBEq, Bool.or_false, Bool.or_true, Bool.and_false, Bool.and_true, Bool.true_or, Bool.false_or, Bool.true_and, Bool.false_and, true_and, and_true, List.any_cons, List.any_nil, tyNames, Option.map_some, iRn1, iRn2, iRn3, iLst, nIt, iTp, iEn, iZp, iSt, wipeD, atI0, atI1, atI2, atI3, ixN0, ixN1, ixN2, ixN3, wSub, wLt, wLe, wGt, wGe, wDiv, wMod, wPow, wShl, Mp.set_same, Mp.set_set, cSortedA, cDictP, wNewD, wEqS, nEqS, wFrzT, mExt, mCnt, nIxL, sAugS, wSlS, wJoin, cSumL, dUnl, cSortLL, cMinLL, wLenSetT, wLenDictT, mIndexB, wLenSetJ, wAddT, wSortSet, wDNewT, sDPutT, cSortDT, wBMd, wDGet1, wDGet2, mUpd, wPairs, wDisp, wLtS, cMinS, cListD, cGcd, cAbs]
  refine seq_mid (fun ρ' M' => ρ' = [some (.ref p), some (.lst (cs.map .int)), some (.str (toPD (.lst (cs.map .int))).shown), some (.int cs.length), some (.int one), some (.int other), some (.int st), some (.lst ((List.range cs.length).map fun k => D.lst (nD (wayI cs k)))), some (.lst (nD (endsI cs))), none, none, none, none, none, none, none, none] ∧ M' = M1) (fun nx hnx => ?_) (fun ρ' M' w => ?_)
  · simp only [sRet, sRetN, sIf, sDrop, sNever, sNext, sBreak, sCont, sAsg, sPar, sPar3, sAug, dName, dNil, dCons, dTup, dSub, sSetL, wVar, wC, wFrz, wFrzK, wOp, wAdd, nAdd, nI, nI0, wMul, nMul, wNeg, wEq, nEq, wIsN, wB, wAndT, wOrT, wNotT, wAndV, wOrV, wNotV, wIfE, wChain, aNil, aCons, aStar, wLst, wTup, wIx, nIx, pNo, pSo, wSl, wRev, wRevE, mIndex, wLenSet, cRepr, wIsB, wCB, cLen, cAll, cSum, cMax, cMin, cSorted, cInt, cList, cTuple, cIsi, wBits, wLRg, wBM, wBM0, mChg, wDGet, wDIn, wDNew, sDPutD, wIn, nIn, wCall, wCallK, wNew, tYesD, startD, List.map_cons, List.map_nil, List.length_cons, List.length_nil, List.replicate, Nat.sub_self, List.append_nil, List.cons_append, List.nil_append, List.getElem?_cons_zero, List.getElem?_cons_succ, List.set_cons_zero, List.set_cons_succ, Nat.reduceSub, Nat.reduceAdd, ite_true, ite_false, if_true, if_false, Bool.false_eq_true, Bool.true_eq_false, Bool.not_true, Bool.not_false, Option.some.injEq, nrm_non, nrm_bl, nrm_int, nrm_str, nrm_ty, nrm_lst, nrm_tupC, nrm_dct, nrm_scr, nrm_setL, wFgt, tyN_non, tyN_bl, tyN_int, tyN_str, tyN_lst, tyN_tup, tyN_dct, keyD_int, keyD_str, isA, okT, beq_self_eq_true, String.reduceBEq, Bool.or_false, Bool.or_true, Bool.and_false, Bool.and_true, Bool.true_or, Bool.false_or, Bool.true_and, Bool.false_and, true_and, and_true, List.any_cons, List.any_nil, tyNames, Option.map_some, iRn1, iRn2, iRn3, iLst, nIt, iTp, iEn, iZp, iSt, wipeD, atI0, atI1, atI2, atI3, ixN0, ixN1, ixN2, ixN3, wSub, wLt, wLe, wGt, wGe, wDiv, wMod, wPow, wShl, Mp.set_same, Mp.set_set, cSortedA, cDictP, wNewD, wEqS, nEqS, wFrzT, mExt, mCnt, nIxL, sAugS, wSlS, wJoin, cSumL, dUnl, cSortLL, cMinLL, wLenSetT, wLenDictT, mIndexB, wLenSetJ, wAddT, wSortSet, wDNewT, sDPutT, cSortDT, wBMd, wDGet1, wDGet2, mUpd, wPairs, wDisp, wLtS, cMinS, cListD, cGcd, cAbs]
    refine lc_gen (P := fun _ => True) (List.range cs.length) (fun k => D.lst (nD (wayI cs k))) (fun _ => true) (fun k => D.int (endI cs k : Nat)) (fun R h => ?_) trivial (by rw [List.length_range]; unfold Sz; omega) (fun k hk C1 C0 c1 c0 => ?_) ?_
    · simp only [sSeq, sRet, sRetN, sIf, sDrop, sNever, sNext, sBreak, sCont, sAsg, sPar, sPar3, sAug, dName, dNil, dCons, dTup, dSub, sSetL, wVar, wC, wFrz, wFrzK, wOp, wAdd, nAdd, nI, nI0, wMul, nMul, wNeg, wEq, nEq, wIsN, wB, wAndT, wOrT, wNotT, wAndV, wOrV, wNotV, wIfE, wChain, aNil, aCons, aStar, wLst, wTup, wIx, nIx, pNo, pSo, wSl, wRev, wRevE, mIndex, wLenSet, cRepr, wIsB, wCB, cLen, cAll, cSum, cMax, cMin, cSorted, cInt, cList, cTuple, cIsi, wBits, wLRg, wBM, wBM0, mChg, wDGet, wDIn, wDNew, sDPutD, wIn, nIn, wCall, wCallK, wNew, tYesD, startD, List.map_cons, List.map_nil, List.length_cons, List.length_nil, List.replicate, Nat.sub_self, List.append_nil, List.cons_append, List.nil_append, List.getElem?_cons_zero, List.getElem?_cons_succ, List.set_cons_zero, List.set_cons_succ, Nat.reduceSub, Nat.reduceAdd, ite_true, ite_false, if_true, if_false, Bool.false_eq_true, Bool.true_eq_false, Bool.not_true, Bool.not_false, Option.some.injEq, nrm_non, nrm_bl, nrm_int, nrm_str, nrm_ty, nrm_lst, nrm_tupC, nrm_dct, nrm_scr, nrm_setL, wFgt, tyN_non, tyN_bl, tyN_int, tyN_str, tyN_lst, tyN_tup, tyN_dct, keyD_int, keyD_str, isA, okT, beq_self_eq_true, String.reduceBEq, Bool.or_false, Bool.or_true, Bool.and_false, Bool.and_true, Bool.true_or, Bool.false_or, Bool.true_and, Bool.false_and, true_and, and_true, List.any_cons, List.any_nil, tyNames, Option.map_some, iRn1, iRn2, iRn3, iLst, nIt, iTp, iEn, iZp, iSt, wipeD, atI0, atI1, atI2, atI3, ixN0, ixN1, ixN2, ixN3, wSub, wLt, wLe, wGt, wGe, wDiv, wMod, wPow, wShl, Mp.set_same, Mp.set_set, cSortedA, cDictP, wNewD, wEqS, nEqS, wFrzT, mExt, mCnt, nIxL, sAugS, wSlS, wJoin, cSumL, dUnl, cSortLL, cMinLL, wLenSetT, wLenDictT, mIndexB, wLenSetJ, wAddT, wSortSet, wDNewT, sDPutT, cSortDT, wBMd, wDGet1, wDGet2, mUpd, wPairs, wDisp, wLtS, cMinS, cListD, cGcd, cAbs]
      exact h
    · obtain ⟨pre, e⟩ := way_ne hcs (List.mem_range.mp hk)
      have hl : atI (nD (wayI cs k)) (-1) = some (.int (endI cs k)) := by rw [e, nD_app]; exact atI_lastL
      simp only [sSeq, sRet, sRetN, sIf, sDrop, sNever, sNext, sBreak, sCont, sAsg, sPar, sPar3, sAug, dName, dNil, dCons, dTup, dSub, sSetL, wVar, wC, wFrz, wFrzK, wOp, wAdd, nAdd, nI, nI0, wMul, nMul, wNeg, wEq, nEq, wIsN, wB, wAndT, wOrT, wNotT, wAndV, wOrV, wNotV, wIfE, wChain, aNil, aCons, aStar, wLst, wTup, wIx, nIx, pNo, pSo, wSl, wRev, wRevE, mIndex, wLenSet, cRepr, wIsB, wCB, cLen, cAll, cSum, cMax, cMin, cSorted, cInt, cList, cTuple, cIsi, wBits, wLRg, wBM, wBM0, mChg, wDGet, wDIn, wDNew, sDPutD, wIn, nIn, wCall, wCallK, wNew, tYesD, startD, List.map_cons, List.map_nil, List.length_cons, List.length_nil, List.replicate, Nat.sub_self, List.append_nil, List.cons_append, List.nil_append, List.getElem?_cons_zero, List.getElem?_cons_succ, List.set_cons_zero, List.set_cons_succ, Nat.reduceSub, Nat.reduceAdd, ite_true, ite_false, if_true, if_false, Bool.false_eq_true, Bool.true_eq_false, Bool.not_true, Bool.not_false, Option.some.injEq, nrm_non, nrm_bl, nrm_int, nrm_str, nrm_ty, nrm_lst, nrm_tupC, nrm_dct, nrm_scr, nrm_setL, wFgt, tyN_non, tyN_bl, tyN_int, tyN_str, tyN_lst, tyN_tup, tyN_dct, keyD_int, keyD_str, isA, okT, beq_self_eq_true, String.reduceBEq, Bool.or_false, Bool.or_true, Bool.and_false, Bool.and_true, Bool.true_or, Bool.false_or, Bool.true_and, Bool.false_and, true_and, and_true, List.any_cons, List.any_nil, tyNames, Option.map_some, iRn1, iRn2, iRn3, iLst, nIt, iTp, iEn, iZp, iSt, wipeD, atI0, atI1, atI2, atI3, ixN0, ixN1, ixN2, ixN3, wSub, wLt, wLe, wGt, wGe, wDiv, wMod, wPow, wShl, Mp.set_same, Mp.set_set, cSortedA, cDictP, wNewD, wEqS, nEqS, wFrzT, mExt, mCnt, nIxL, sAugS, wSlS, wJoin, cSumL, dUnl, cSortLL, cMinLL, wLenSetT, wLenDictT, mIndexB, wLenSetJ, wAddT, wSortSet, wDNewT, sDPutT, cSortDT, wBMd, wDGet1, wDGet2, mUpd, wPairs, wDisp, wLtS, cMinS, cListD, cGcd, cAbs, hl]
      exact c1 rfl
    · rw [hf]
      have e : (List.range cs.length).map (fun k => D.int (endI cs k : Nat)) = nD (endsI cs) := by unfold nD endsI; rw [List.map_map]; rfl
      rw [e]
      exact hnx _ _ ⟨rfl, rfl⟩
  obtain ⟨rfl, rfl⟩ := w
  refine seq_mid (fun ρ' M'' => ρ' = [some (.ref p), some (.lst (cs.map .int)), some (.str (toPD (.lst (cs.map .int))).shown), some (.int cs.length), some (.int one), some (.int other), some (.int st), some (.lst ((List.range cs.length).map fun k => D.lst (nD (wayI cs k)))), some (.lst (nD (endsI cs))), some (.lst (nD (comI cs one other))), none, none, none, none, none, none, none] ∧ M'' = M') (fun nx hnx => ?_) (fun ρ' M'' w => ?_)
  · simp only [sRet, sRetN, sIf, sDrop, sNever, sNext, sBreak, sCont, sAsg, sPar, sPar3, sAug, dName, dNil, dCons, dTup, dSub, sSetL, wVar, wC, wFrz, wFrzK, wOp, wAdd, nAdd, nI, nI0, wMul, nMul, wNeg, wEq, nEq, wIsN, wB, wAndT, wOrT, wNotT, wAndV, wOrV, wNotV, wIfE, wChain, aNil, aCons, aStar, wLst, wTup, wIx, nIx, pNo, pSo, wSl, wRev, wRevE, mIndex, wLenSet, cRepr, wIsB, wCB, cLen, cAll, cSum, cMax, cMin, cSorted, cInt, cList, cTuple, cIsi, wBits, wLRg, wBM, wBM0, mChg, wDGet, wDIn, wDNew, sDPutD, wIn, nIn, wCall, wCallK, wNew, tYesD, startD, List.map_cons, List.map_nil, List.length_cons, List.length_nil, List.replicate, Nat.sub_self, List.append_nil, List.cons_append, List.nil_append, List.getElem?_cons_zero, List.getElem?_cons_succ, List.set_cons_zero, List.set_cons_succ, Nat.reduceSub, Nat.reduceAdd, ite_true, ite_false, if_true, if_false, Bool.false_eq_true, Bool.true_eq_false, Bool.not_true, Bool.not_false, Option.some.injEq, nrm_non, nrm_bl, nrm_int, nrm_str, nrm_ty, nrm_lst, nrm_tupC, nrm_dct, nrm_scr, nrm_setL, wFgt, tyN_non, tyN_bl, tyN_int, tyN_str, tyN_lst, tyN_tup, tyN_dct, keyD_int, keyD_str, isA, okT, beq_self_eq_true, String.reduceBEq, Bool.or_false, Bool.or_true, Bool.and_false, Bool.and_true, Bool.true_or, Bool.false_or, Bool.true_and, Bool.false_and, true_and, and_true, List.any_cons, List.any_nil, tyNames, Option.map_some, iRn1, iRn2, iRn3, iLst, nIt, iTp, iEn, iZp, iSt, wipeD, atI0, atI1, atI2, atI3, ixN0, ixN1, ixN2, ixN3, wSub, wLt, wLe, wGt, wGe, wDiv, wMod, wPow, wShl, Mp.set_same, Mp.set_set, cSortedA, cDictP, wNewD, wEqS, nEqS, wFrzT, mExt, mCnt, nIxL, sAugS, wSlS, wJoin, cSumL, dUnl, cSortLL, cMinLL, wLenSetT, wLenDictT, mIndexB, wLenSetJ, wAddT, wSortSet, wDNewT, sDPutT, cSortDT, wBMd, wDGet1, wDGet2, mUpd, wPairs, wDisp, wLtS, cMinS, cListD, cGcd, cAbs]
    refine lc_gen (P := fun _ => True) (wayI cs one) (fun k : Nat => D.int (k : Int)) (fun k => decide (k ∈ wayI cs other)) (fun k : Nat => D.int (k : Int)) (fun R h => ?_) trivial (by have := hwl one; unfold Sz; omega) (fun k hk C1 C0 c1 c0 => ?_) ?_
    · simp only [sSeq, sRet, sRetN, sIf, sDrop, sNever, sNext, sBreak, sCont, sAsg, sPar, sPar3, sAug, dName, dNil, dCons, dTup, dSub, sSetL, wVar, wC, wFrz, wFrzK, wOp, wAdd, nAdd, nI, nI0, wMul, nMul, wNeg, wEq, nEq, wIsN, wB, wAndT, wOrT, wNotT, wAndV, wOrV, wNotV, wIfE, wChain, aNil, aCons, aStar, wLst, wTup, wIx, nIx, pNo, pSo, wSl, wRev, wRevE, mIndex, wLenSet, cRepr, wIsB, wCB, cLen, cAll, cSum, cMax, cMin, cSorted, cInt, cList, cTuple, cIsi, wBits, wLRg, wBM, wBM0, mChg, wDGet, wDIn, wDNew, sDPutD, wIn, nIn, wCall, wCallK, wNew, tYesD, startD, List.map_cons, List.map_nil, List.length_cons, List.length_nil, List.replicate, Nat.sub_self, List.append_nil, List.cons_append, List.nil_append, List.getElem?_cons_zero, List.getElem?_cons_succ, List.set_cons_zero, List.set_cons_succ, Nat.reduceSub, Nat.reduceAdd, ite_true, ite_false, if_true, if_false, Bool.false_eq_true, Bool.true_eq_false, Bool.not_true, Bool.not_false, Option.some.injEq, nrm_non, nrm_bl, nrm_int, nrm_str, nrm_ty, nrm_lst, nrm_tupC, nrm_dct, nrm_scr, nrm_setL, wFgt, tyN_non, tyN_bl, tyN_int, tyN_str, tyN_lst, tyN_tup, tyN_dct, keyD_int, keyD_str, isA, okT, beq_self_eq_true, String.reduceBEq, Bool.or_false, Bool.or_true, Bool.and_false, Bool.and_true, Bool.true_or, Bool.false_or, Bool.true_and, Bool.false_and, true_and, and_true, List.any_cons, List.any_nil, tyNames, Option.map_some, iRn1, iRn2, iRn3, iLst, nIt, iTp, iEn, iZp, iSt, wipeD, atI0, atI1, atI2, atI3, ixN0, ixN1, ixN2, ixN3, wSub, wLt, wLe, wGt, wGe, wDiv, wMod, wPow, wShl, Mp.set_same, Mp.set_set, cSortedA, cDictP, wNewD, wEqS, nEqS, wFrzT, mExt, mCnt, nIxL, sAugS, wSlS, wJoin, cSumL, dUnl, cSortLL, cMinLL, wLenSetT, wLenDictT, mIndexB, wLenSetJ, wAddT, wSortSet, wDNewT, sDPutT, cSortDT, wBMd, wDGet1, wDGet2, mUpd, wPairs, wDisp, wLtS, cMinS, cListD, cGcd, cAbs, hway one ho1]
      exact h
    · have e : pdOk (.int (k : Int)) = true := rfl
      simp only [sSeq, sRet, sRetN, sIf, sDrop, sNever, sNext, sBreak, sCont, sAsg, sPar, sPar3, sAug, dName, dNil, dCons, dTup, dSub, sSetL, wVar, wC, wFrz, wFrzK, wOp, wAdd, nAdd, nI, nI0, wMul, nMul, wNeg, wEq, nEq, wIsN, wB, wAndT, wOrT, wNotT, wAndV, wOrV, wNotV, wIfE, wChain, aNil, aCons, aStar, wLst, wTup, wIx, nIx, pNo, pSo, wSl, wRev, wRevE, mIndex, wLenSet, cRepr, wIsB, wCB, cLen, cAll, cSum, cMax, cMin, cSorted, cInt, cList, cTuple, cIsi, wBits, wLRg, wBM, wBM0, mChg, wDGet, wDIn, wDNew, sDPutD, wIn, nIn, wCall, wCallK, wNew, tYesD, startD, List.map_cons, List.map_nil, List.length_cons, List.length_nil, List.replicate, Nat.sub_self, List.append_nil, List.cons_append, List.nil_append, List.getElem?_cons_zero, List.getElem?_cons_succ, List.set_cons_zero, List.set_cons_succ, Nat.reduceSub, Nat.reduceAdd, ite_true, ite_false, if_true, if_false, Bool.false_eq_true, Bool.true_eq_false, Bool.not_true, Bool.not_false, Option.some.injEq, nrm_non, nrm_bl, nrm_int, nrm_str, nrm_ty, nrm_lst, nrm_tupC, nrm_dct, nrm_scr, nrm_setL, wFgt, tyN_non, tyN_bl, tyN_int, tyN_str, tyN_lst, tyN_tup, tyN_dct, keyD_int, keyD_str, isA, okT, beq_self_eq_true, String.reduceBEq, Bool.or_false, Bool.or_true, Bool.and_false, Bool.and_true, Bool.true_or, Bool.false_or, Bool.true_and, Bool.false_and, true_and, and_true, List.any_cons, List.any_nil, tyNames, Option.map_some, iRn1, iRn2, iRn3, iLst, nIt, iTp, iEn, iZp, iSt, wipeD, atI0, atI1, atI2, atI3, ixN0, ixN1, ixN2, ixN3, wSub, wLt, wLe, wGt, wGe, wDiv, wMod, wPow, wShl, Mp.set_same, Mp.set_set, cSortedA, cDictP, wNewD, wEqS, nEqS, wFrzT, mExt, mCnt, nIxL, sAugS, wSlS, wJoin, cSumL, dUnl, cSortLL, cMinLL, wLenSetT, wLenDictT, mIndexB, wLenSetJ, wAddT, wSortSet, wDNewT, sDPutT, cSortDT, wBMd, wDGet1, wDGet2, mUpd, wPairs, wDisp, wLtS, cMinS, cListD, cGcd, cAbs, hway other ho2, any_nD, pdOk_nD, e]
      by_cases hm : k ∈ wayI cs other
      · rw [decide_eq_true hm] at c1 ⊢
        simp only [sSeq, sRet, sRetN, sIf, sDrop, sNever, sNext, sBreak, sCont, sAsg, sPar, sPar3, sAug, dName, dNil, dCons, dTup, dSub, sSetL, wVar, wC, wFrz, wFrzK, wOp, wAdd, nAdd, nI, nI0, wMul, nMul, wNeg, wEq, nEq, wIsN, wB, wAndT, wOrT, wNotT, wAndV, wOrV, wNotV, wIfE, wChain, aNil, aCons, aStar, wLst, wTup, wIx, nIx, pNo, pSo, wSl, wRev, wRevE, mIndex, wLenSet, cRepr, wIsB, wCB, cLen, cAll, cSum, cMax, cMin, cSorted, cInt, cList, cTuple, cIsi, wBits, wLRg, wBM, wBM0, mChg, wDGet, wDIn, wDNew, sDPutD, wIn, nIn, wCall, wCallK, wNew, tYesD, startD, List.map_cons, List.map_nil, List.length_cons, List.length_nil, List.replicate, Nat.sub_self, List.append_nil, List.cons_append, List.nil_append, List.getElem?_cons_zero, List.getElem?_cons_succ, List.set_cons_zero, List.set_cons_succ, Nat.reduceSub, Nat.reduceAdd, ite_true, ite_false, if_true, if_false, Bool.false_eq_true, Bool.true_eq_false, Bool.not_true, Bool.not_false, Option.some.injEq, nrm_non, nrm_bl, nrm_int, nrm_str, nrm_ty, nrm_lst, nrm_tupC, nrm_dct, nrm_scr, nrm_setL, wFgt, tyN_non, tyN_bl, tyN_int, tyN_str, tyN_lst, tyN_tup, tyN_dct, keyD_int, keyD_str, isA, okT, beq_self_eq_true, String.reduceBEq, Bool.or_false, Bool.or_true, Bool.and_false, Bool.and_true, Bool.true_or, Bool.false_or, Bool.true_and, Bool.false_and, true_and, and_true, List.any_cons, List.any_nil, tyNames, Option.map_some, iRn1, iRn2, iRn3, iLst, nIt, iTp, iEn, iZp, iSt, wipeD, atI0, atI1, atI2, atI3, ixN0, ixN1, ixN2, ixN3, wSub, wLt, wLe, wGt, wGe, wDiv, wMod, wPow, wShl, Mp.set_same, Mp.set_set, cSortedA, cDictP, wNewD, wEqS, nEqS, wFrzT, mExt, mCnt, nIxL, sAugS, wSlS, wJoin, cSumL, dUnl, cSortLL, cMinLL, wLenSetT, wLenDictT, mIndexB, wLenSetJ, wAddT, wSortSet, wDNewT, sDPutT, cSortDT, wBMd, wDGet1, wDGet2, mUpd, wPairs, wDisp, wLtS, cMinS, cListD, cGcd, cAbs]
        exact c1 rfl
      · rw [decide_eq_false hm] at c0 ⊢
        simp only [sSeq, sRet, sRetN, sIf, sDrop, sNever, sNext, sBreak, sCont, sAsg, sPar, sPar3, sAug, dName, dNil, dCons, dTup, dSub, sSetL, wVar, wC, wFrz, wFrzK, wOp, wAdd, nAdd, nI, nI0, wMul, nMul, wNeg, wEq, nEq, wIsN, wB, wAndT, wOrT, wNotT, wAndV, wOrV, wNotV, wIfE, wChain, aNil, aCons, aStar, wLst, wTup, wIx, nIx, pNo, pSo, wSl, wRev, wRevE, mIndex, wLenSet, cRepr, wIsB, wCB, cLen, cAll, cSum, cMax, cMin, cSorted, cInt, cList, cTuple, cIsi, wBits, wLRg, wBM, wBM0, mChg, wDGet, wDIn, wDNew, sDPutD, wIn, nIn, wCall, wCallK, wNew, tYesD, startD, List.map_cons, List.map_nil, List.length_cons, List.length_nil, List.replicate, Nat.sub_self, List.append_nil, List.cons_append, List.nil_append, List.getElem?_cons_zero, List.getElem?_cons_succ, List.set_cons_zero, List.set_cons_succ, Nat.reduceSub, Nat.reduceAdd, ite_true, ite_false, if_true, if_false, Bool.false_eq_true, Bool.true_eq_false, Bool.not_true, Bool.not_false, Option.some.injEq, nrm_non, nrm_bl, nrm_int, nrm_str, nrm_ty, nrm_lst, nrm_tupC, nrm_dct, nrm_scr, nrm_setL, wFgt, tyN_non, tyN_bl, tyN_int, tyN_str, tyN_lst, tyN_tup, tyN_dct, keyD_int, keyD_str, isA, okT, beq_self_eq_true, String.reduceBEq, Bool.or_false, Bool.or_true, Bool.and_false, Bool.and_true, Bool.true_or, Bool.false_or, Bool.true_and, Bool.false_and, true_and, and_true, List.any_cons, List.any_nil, tyNames, Option.map_some, iRn1, iRn2, iRn3, iLst, nIt, iTp, iEn, iZp, iSt, wipeD, atI0, atI1, atI2, atI3, ixN0, ixN1, ixN2, ixN3, wSub, wLt, wLe, wGt, wGe, wDiv, wMod, wPow, wShl, Mp.set_same, Mp.set_set, cSortedA, cDictP, wNewD, wEqS, nEqS, wFrzT, mExt, mCnt, nIxL, sAugS, wSlS, wJoin, cSumL, dUnl, cSortLL, cMinLL, wLenSetT, wLenDictT, mIndexB, wLenSetJ, wAddT, wSortSet, wDNewT, sDPutT, cSortDT, wBMd, wDGet1, wDGet2, mUpd, wPairs, wDisp, wLtS, cMinS, cListD, cGcd, cAbs]
        exact c0 rfl
    · have e : ((wayI cs one).filter fun k => decide (k ∈ wayI cs other)) = comI cs other one := rfl
      rw [e, com_comm hcs other one]
      exact hnx _ _ ⟨rfl, rfl⟩
  obtain ⟨rfl, rfl⟩ := w
  ((try simp only [sSeq]); simp only [sRet, sRetN, sIf, sDrop, sNever, sNext, sBreak, sCont, sAsg, sPar, sPar3, sAug, dName, dNil, dCons, dTup, dSub, sSetL, wVar, wC, wFrz, wFrzK, wOp, wAdd, nAdd, nI, nI0, wMul, nMul, wNeg, wEq, nEq, wIsN, wB, wAndT, wOrT, wNotT, wAndV, wOrV, wNotV, wIfE, wChain, aNil, aCons, aStar, wLst, wTup, wIx, nIx, pNo, pSo, wSl, wRev, wRevE, mIndex, wLenSet, cRepr, wIsB, wCB, cLen, cAll, cSum, cMax, cMin, cSorted, cInt, cList, cTuple, cIsi, wBits, wLRg, wBM, wBM0, mChg, wDGet, wDIn, wDNew, sDPutD, wIn, nIn, wCall, wCallK, wNew, tYesD, startD, List.map_cons, List.map_nil, List.length_cons, List.length_nil, List.replicate, Nat.sub_self, List.append_nil, List.cons_append, List.nil_append, List.getElem?_cons_zero, List.getElem?_cons_succ, List.set_cons_zero, List.set_cons_succ, Nat.reduceSub, Nat.reduceAdd, ite_true, ite_false, if_true, if_false, Bool.false_eq_true, Bool.true_eq_false, Bool.not_true, Bool.not_false, Option.some.injEq, nrm_non, nrm_bl, nrm_int, nrm_str, nrm_ty, nrm_lst, nrm_tupC, nrm_dct, nrm_scr, nrm_setL, wFgt, tyN_non, tyN_bl, tyN_int, tyN_str, tyN_lst, tyN_tup, tyN_dct, keyD_int, keyD_str, isA, okT, beq_self_eq_true, String.reduceBEq, Bool.or_false, Bool.or_true, Bool.and_false, Bool.and_true, Bool.true_or, Bool.false_or, Bool.true_and, Bool.false_and, true_and, and_true, List.any_cons, List.any_nil, tyNames, Option.map_some, iRn1, iRn2, iRn3, iLst, nIt, iTp, iEn, iZp, iSt, wipeD, atI0, atI1, atI2, atI3, ixN0, ixN1, ixN2, ixN3, wSub, wLt, wLe, wGt, wGe, wDiv, wMod, wPow, wShl, Mp.set_same, Mp.set_set, cSortedA, cDictP, wNewD, wEqS, nEqS, wFrzT, mExt, mCnt, nIxL, sAugS, wSlS, wJoin, cSumL, dUnl, cSortLL, cMinLL, wLenSetT, wLenDictT, mIndexB, wLenSetJ, wAddT, wSortSet, wDNewT, sDPutT, cSortDT, wBMd, wDGet1, wDGet2, mUpd, wPairs, wDisp, wLtS, cMinS, cListD, cGcd, cAbs])
  have ct : cutD (nD (endsI cs)) none (some (st : Int)) = nD ((endsI cs).take st) := by
    rw [cut_take (by omega), Int.toNat_natCast]
    unfold nD; rw [List.map_take]
  have htl : ((endsI cs).take st).length = st := by rw [List.length_take]; omega
  have hal : (((endsI cs).take st).map fun e => ((endsI cs).take st).count e).sum = alikeN cs st := rfl
  have hale := sum_count_le (l := (endsI cs).take st) ((endsI cs).take st)
  rw [htl, hal] at hale
  have hkk : st * st ≤ 40 * 40 := Nat.mul_le_mul (by omega) (by omega)
  have hkp : 0 < st * st := Nat.mul_pos (by omega) (by omega)
  refine seq_mid (fun ρ' M3 => ∃ y11 : Option D, ρ' = [some (.ref p), some (.lst (cs.map .int)), some (.str (toPD (.lst (cs.map .int))).shown), some (.int cs.length), some (.int one), some (.int other), some (.int st), some (.lst ((List.range cs.length).map fun k => D.lst (nD (wayI cs k)))), some (.lst (nD (endsI cs))), some (.lst (nD (comI cs one other))), some (.int (alikeN cs st : Nat)), y11, none, none, none, none, none] ∧ M3 = M'') (fun nx hnx => ?_) (fun ρ' M3 w => ?_)
  · refine for_of (xs := nD ((endsI cs).take st)) (P := fun _ => True) (fun i ρ M2 => ∃ y11 : Option D, ρ = [some (.ref p), some (.lst (cs.map .int)), some (.str (toPD (.lst (cs.map .int))).shown), some (.int cs.length), some (.int one), some (.int other), some (.int st), some (.lst ((List.range cs.length).map fun k => D.lst (nD (wayI cs k)))), some (.lst (nD (endsI cs))), some (.lst (nD (comI cs one other))), some (.int ((((endsI cs).take st).take i).map fun e => ((endsI cs).take st).count e).sum), y11, none, none, none, none, none] ∧ M2 = M'')
      (fun R h => ?_) ⟨_, rfl, rfl⟩ (fun _ _ _ _ _ => trivial) (fun i x ρ M2 hx w => ?_) (fun ρ M2 w => ?_)
    · simp only [sSeq, sRet, sRetN, sIf, sDrop, sNever, sNext, sBreak, sCont, sAsg, sPar, sPar3, sAug, dName, dNil, dCons, dTup, dSub, sSetL, wVar, wC, wFrz, wFrzK, wOp, wAdd, nAdd, nI, nI0, wMul, nMul, wNeg, wEq, nEq, wIsN, wB, wAndT, wOrT, wNotT, wAndV, wOrV, wNotV, wIfE, wChain, aNil, aCons, aStar, wLst, wTup, wIx, nIx, pNo, pSo, wSl, wRev, wRevE, mIndex, wLenSet, cRepr, wIsB, wCB, cLen, cAll, cSum, cMax, cMin, cSorted, cInt, cList, cTuple, cIsi, wBits, wLRg, wBM, wBM0, mChg, wDGet, wDIn, wDNew, sDPutD, wIn, nIn, wCall, wCallK, wNew, tYesD, startD, List.map_cons, List.map_nil, List.length_cons, List.length_nil, List.replicate, Nat.sub_self, List.append_nil, List.cons_append, List.nil_append, List.getElem?_cons_zero, List.getElem?_cons_succ, List.set_cons_zero, List.set_cons_succ, Nat.reduceSub, Nat.reduceAdd, ite_true, ite_false, if_true, if_false, Bool.false_eq_true, Bool.true_eq_false, Bool.not_true, Bool.not_false, Option.some.injEq, nrm_non, nrm_bl, nrm_int, nrm_str, nrm_ty, nrm_lst, nrm_tupC, nrm_dct, nrm_scr, nrm_setL, wFgt, tyN_non, tyN_bl, tyN_int, tyN_str, tyN_lst, tyN_tup, tyN_dct, keyD_int, keyD_str, isA, okT, beq_self_eq_true, String.reduceBEq, Bool.or_false, Bool.or_true, Bool.and_false, Bool.and_true, Bool.true_or, Bool.false_or, Bool.true_and, Bool.false_and, true_and, and_true, List.any_cons, List.any_nil, tyNames, Option.map_some, iRn1, iRn2, iRn3, iLst, nIt, iTp, iEn, iZp, iSt, wipeD, atI0, atI1, atI2, atI3, ixN0, ixN1, ixN2, ixN3, wSub, wLt, wLe, wGt, wGe, wDiv, wMod, wPow, wShl, Mp.set_same, Mp.set_set, cSortedA, cDictP, wNewD, wEqS, nEqS, wFrzT, mExt, mCnt, nIxL, sAugS, wSlS, wJoin, cSumL, dUnl, cSortLL, cMinLL, wLenSetT, wLenDictT, mIndexB, wLenSetJ, wAddT, wSortSet, wDNewT, sDPutT, cSortDT, wBMd, wDGet1, wDGet2, mUpd, wPairs, wDisp, wLtS, cMinS, cListD, cGcd, cAbs, ct]
      exact h
    · obtain ⟨y11, rfl, rfl⟩ := w
      unfold nD at hx
      rw [List.getElem?_map] at hx
      obtain ⟨e, he, rfl⟩ := Option.map_eq_some_iff.mp hx
      have hL : isL M2 (.lst (nD ((endsI cs).take st))) = true := rfl
      have hI : intsD (nD ((endsI cs).take st)) = some (((endsI cs).take st).map fun k : Nat => (k : Int)) := by rw [nD_ints, ints_map]
      have hsum : ((((endsI cs).take st).take (i + 1)).map fun e => ((endsI cs).take st).count e).sum = ((((endsI cs).take st).take i).map fun e => ((endsI cs).take st).count e).sum + ((endsI cs).take st).count e := by
        rw [List.take_add_one, he, Option.toList_some, List.map_append, List.sum_append]; simp
      simp only [sRet, sRetN, sIf, sDrop, sNever, sNext, sBreak, sCont, sAsg, sPar, sPar3, sAug, dName, dNil, dCons, dTup, dSub, sSetL, wVar, wC, wFrz, wFrzK, wOp, wAdd, nAdd, nI, nI0, wMul, nMul, wNeg, wEq, nEq, wIsN, wB, wAndT, wOrT, wNotT, wAndV, wOrV, wNotV, wIfE, wChain, aNil, aCons, aStar, wLst, wTup, wIx, nIx, pNo, pSo, wSl, wRev, wRevE, mIndex, wLenSet, cRepr, wIsB, wCB, cLen, cAll, cSum, cMax, cMin, cSorted, cInt, cList, cTuple, cIsi, wBits, wLRg, wBM, wBM0, mChg, wDGet, wDIn, wDNew, sDPutD, wIn, nIn, wCall, wCallK, wNew, tYesD, startD, List.map_cons, List.map_nil, List.length_cons, List.length_nil, List.replicate, Nat.sub_self, List.append_nil, List.cons_append, List.nil_append, List.getElem?_cons_zero, List.getElem?_cons_succ, List.set_cons_zero, List.set_cons_succ, Nat.reduceSub, Nat.reduceAdd, ite_true, ite_false, if_true, if_false, Bool.false_eq_true, Bool.true_eq_false, Bool.not_true, Bool.not_false, Option.some.injEq, nrm_non, nrm_bl, nrm_int, nrm_str, nrm_ty, nrm_lst, nrm_tupC, nrm_dct, nrm_scr, nrm_setL, wFgt, tyN_non, tyN_bl, tyN_int, tyN_str, tyN_lst, tyN_tup, tyN_dct, keyD_int, keyD_str, isA, okT, beq_self_eq_true, String.reduceBEq, Bool.or_false, Bool.or_true, Bool.and_false, Bool.and_true, Bool.true_or, Bool.false_or, Bool.true_and, Bool.false_and, true_and, and_true, List.any_cons, List.any_nil, tyNames, Option.map_some, iRn1, iRn2, iRn3, iLst, nIt, iTp, iEn, iZp, iSt, wipeD, atI0, atI1, atI2, atI3, ixN0, ixN1, ixN2, ixN3, wSub, wLt, wLe, wGt, wGe, wDiv, wMod, wPow, wShl, Mp.set_same, Mp.set_set, cSortedA, cDictP, wNewD, wEqS, nEqS, wFrzT, mExt, mCnt, nIxL, sAugS, wSlS, wJoin, cSumL, dUnl, cSortLL, cMinLL, wLenSetT, wLenDictT, mIndexB, wLenSetJ, wAddT, wSortSet, wDNewT, sDPutT, cSortDT, wBMd, wDGet1, wDGet2, mUpd, wPairs, wDisp, wLtS, cMinS, cListD, cGcd, cAbs, ct, hL, hI, count_nat]
      rw [hsum, Int.natCast_add]
      exact ⟨_, rfl⟩
    · obtain ⟨y11, rfl, rfl⟩ := w
      rw [nD_len, List.take_length, hal]
      exact hnx _ _ ⟨_, rfl, rfl⟩
  obtain ⟨y11, rfl, rfl⟩ := w
  have okL : ∀ (k : Nat) (l : List Nat), l.length ≤ 100 → okD (k + 2) (.lst (nD l)) = true := fun k l h => by rw [nD_ints]; exact okD_ints (by rw [List.length_map]; omega)
  obtain ⟨T, hT⟩ : ∃ T, T = D.tup [.int (alikeN cs st / Nat.gcd (alikeN cs st) (st * st) : Nat), .int (st * st / Nat.gcd (alikeN cs st) (st * st) : Nat)] := ⟨_, rfl⟩
  have hTn : ∀ M, nrm M T = T := fun M => by rw [hT]; rfl
  have hTo : ∀ k, okD (k + 2) T = true := fun k => by rw [hT]; rfl
  obtain ⟨C, hC⟩ : ∃ C, C = firstD (comI cs one other) := ⟨_, rfl⟩
  have hCn : ∀ M, nrm M C = C := fun M => by rw [hC]; cases comI cs one other <;> rfl
  have hCo : ∀ k, okD (k + 2) C = true := fun k => by rw [hC]; cases comI cs one other <;> rfl
  refine seq_mid (fun ρ' M4 => ∃ y11 : Option D, ρ' = [some (.ref p), some (.lst (cs.map .int)), some (.str (toPD (.lst (cs.map .int))).shown), some (.int cs.length), some (.int one), some (.int other), some (.int st), some (.lst ((List.range cs.length).map fun k => D.lst (nD (wayI cs k)))), some (.lst (nD (endsI cs))), some (.lst (nD (comI cs one other))), some (.int (alikeN cs st : Nat)), y11, some (.lst [.lst (nD (wayI cs one)), .lst (nD (endsI cs)), C, T]), none, none, none, none] ∧ M4 = M3) (fun nx hnx => ?_) (fun ρ' M4 w => ?_)
  · simp only [sRet, sRetN, sIf, sDrop, sNever, sNext, sBreak, sCont, sAsg, sPar, sPar3, sAug, dName, dNil, dCons, dTup, dSub, sSetL, wVar, wC, wFrz, wFrzK, wOp, wAdd, nAdd, nI, nI0, wMul, nMul, wNeg, wEq, nEq, wIsN, wB, wAndT, wOrT, wNotT, wAndV, wOrV, wNotV, wIfE, wChain, aNil, aCons, aStar, wLst, wTup, wIx, nIx, pNo, pSo, wSl, wRev, wRevE, mIndex, wLenSet, cRepr, wIsB, wCB, cLen, cAll, cSum, cMax, cMin, cSorted, cInt, cList, cTuple, cIsi, wBits, wLRg, wBM, wBM0, mChg, wDGet, wDIn, wDNew, sDPutD, wIn, nIn, wCall, wCallK, wNew, tYesD, startD, List.map_cons, List.map_nil, List.length_cons, List.length_nil, List.replicate, Nat.sub_self, List.append_nil, List.cons_append, List.nil_append, List.getElem?_cons_zero, List.getElem?_cons_succ, List.set_cons_zero, List.set_cons_succ, Nat.reduceSub, Nat.reduceAdd, ite_true, ite_false, if_true, if_false, Bool.false_eq_true, Bool.true_eq_false, Bool.not_true, Bool.not_false, Option.some.injEq, nrm_non, nrm_bl, nrm_int, nrm_str, nrm_ty, nrm_lst, nrm_tupC, nrm_dct, nrm_scr, nrm_setL, wFgt, tyN_non, tyN_bl, tyN_int, tyN_str, tyN_lst, tyN_tup, tyN_dct, keyD_int, keyD_str, isA, okT, beq_self_eq_true, String.reduceBEq, Bool.or_false, Bool.or_true, Bool.and_false, Bool.and_true, Bool.true_or, Bool.false_or, Bool.true_and, Bool.false_and, true_and, and_true, List.any_cons, List.any_nil, tyNames, Option.map_some, iRn1, iRn2, iRn3, iLst, nIt, iTp, iEn, iZp, iSt, wipeD, atI0, atI1, atI2, atI3, ixN0, ixN1, ixN2, ixN3, wSub, wLt, wLe, wGt, wGe, wDiv, wMod, wPow, wShl, Mp.set_same, Mp.set_set, cSortedA, cDictP, wNewD, wEqS, nEqS, wFrzT, mExt, mCnt, nIxL, sAugS, wSlS, wJoin, cSumL, dUnl, cSortLL, cMinLL, wLenSetT, wLenDictT, mIndexB, wLenSetJ, wAddT, wSortSet, wDNewT, sDPutT, cSortDT, wBMd, wDGet1, wDGet2, mUpd, wPairs, wDisp, wLtS, cMinS, cListD, cGcd, cAbs, hway one ho1]
    have fin : CMl (st : Int) (st : Int) ∧ R_law_part [.int (alikeN cs st : Nat), .int ((st : Int) * (st : Int))] M3 fun x M1 => Sz 4 ∧ nx [some (.ref p), some (.lst (cs.map .int)), some (.str (toPD (.lst (cs.map .int))).shown), some (.int cs.length), some (.int one), some (.int other), some (.int st), some (.lst ((List.range cs.length).map fun k => D.lst (nD (wayI cs k)))), some (.lst (nD (endsI cs))), some (.lst (nD (comI cs one other))), some (.int (alikeN cs st : Nat)), y11, some (.lst [.lst (nD (wayI cs one)), .lst (nD (endsI cs)), C, x]), none, none, none, none] M1 :=
      ⟨.inl (by omega), alikeN cs st, st * st, by simp, hkp, by omega, by omega, s8 4 (by omega), hnx _ _ ⟨y11, by rw [hT], rfl⟩⟩
    have hp1 : pdOk (.lst (nD (comI cs one other))) = true := pdOk_nD
    cases hcm : comI cs one other with
    | nil =>
      rw [hcm] at hC fin
      have dn : deq (.lst (nD [])) (.lst []) = true := deq_refl pdOk_nil
      have hp2 : pdOk (.lst (nD [])) = true := pdOk_nil
      simp only [sRet, sRetN, sIf, sDrop, sNever, sNext, sBreak, sCont, sAsg, sPar, sPar3, sAug, dName, dNil, dCons, dTup, dSub, sSetL, wVar, wC, wFrz, wFrzK, wOp, wAdd, nAdd, nI, nI0, wMul, nMul, wNeg, wEq, nEq, wIsN, wB, wAndT, wOrT, wNotT, wAndV, wOrV, wNotV, wIfE, wChain, aNil, aCons, aStar, wLst, wTup, wIx, nIx, pNo, pSo, wSl, wRev, wRevE, mIndex, wLenSet, cRepr, wIsB, wCB, cLen, cAll, cSum, cMax, cMin, cSorted, cInt, cList, cTuple, cIsi, wBits, wLRg, wBM, wBM0, mChg, wDGet, wDIn, wDNew, sDPutD, wIn, nIn, wCall, wCallK, wNew, tYesD, startD, List.map_cons, List.map_nil, List.length_cons, List.length_nil, List.replicate, Nat.sub_self, List.append_nil, List.cons_append, List.nil_append, List.getElem?_cons_zero, List.getElem?_cons_succ, List.set_cons_zero, List.set_cons_succ, Nat.reduceSub, Nat.reduceAdd, ite_true, ite_false, if_true, if_false, Bool.false_eq_true, Bool.true_eq_false, Bool.not_true, Bool.not_false, Option.some.injEq, nrm_non, nrm_bl, nrm_int, nrm_str, nrm_ty, nrm_lst, nrm_tupC, nrm_dct, nrm_scr, nrm_setL, wFgt, tyN_non, tyN_bl, tyN_int, tyN_str, tyN_lst, tyN_tup, tyN_dct, keyD_int, keyD_str, isA, okT, beq_self_eq_true, String.reduceBEq, Bool.or_false, Bool.or_true, Bool.and_false, Bool.and_true, Bool.true_or, Bool.false_or, Bool.true_and, Bool.false_and, true_and, and_true, List.any_cons, List.any_nil, tyNames, Option.map_some, iRn1, iRn2, iRn3, iLst, nIt, iTp, iEn, iZp, iSt, wipeD, atI0, atI1, atI2, atI3, ixN0, ixN1, ixN2, ixN3, wSub, wLt, wLe, wGt, wGe, wDiv, wMod, wPow, wShl, Mp.set_same, Mp.set_set, cSortedA, cDictP, wNewD, wEqS, nEqS, wFrzT, mExt, mCnt, nIxL, sAugS, wSlS, wJoin, cSumL, dUnl, cSortLL, cMinLL, wLenSetT, wLenDictT, mIndexB, wLenSetJ, wAddT, wSortSet, wDNewT, sDPutT, cSortDT, wBMd, wDGet1, wDGet2, mUpd, wPairs, wDisp, wLtS, cMinS, cListD, cGcd, cAbs, pdOk_nil, hp2, dn]
      rw [hC] at fin
      exact ⟨sz0, fin⟩
    | cons a l =>
      rw [hcm] at hC fin hp1
      have dn : deq (.lst (nD (a :: l))) (.lst []) = false := by rw [nD_ints, deq_nil]; rfl
      have a0 : atI (nD (a :: l)) 0 = some (.int a) := atI0
      simp only [sRet, sRetN, sIf, sDrop, sNever, sNext, sBreak, sCont, sAsg, sPar, sPar3, sAug, dName, dNil, dCons, dTup, dSub, sSetL, wVar, wC, wFrz, wFrzK, wOp, wAdd, nAdd, nI, nI0, wMul, nMul, wNeg, wEq, nEq, wIsN, wB, wAndT, wOrT, wNotT, wAndV, wOrV, wNotV, wIfE, wChain, aNil, aCons, aStar, wLst, wTup, wIx, nIx, pNo, pSo, wSl, wRev, wRevE, mIndex, wLenSet, cRepr, wIsB, wCB, cLen, cAll, cSum, cMax, cMin, cSorted, cInt, cList, cTuple, cIsi, wBits, wLRg, wBM, wBM0, mChg, wDGet, wDIn, wDNew, sDPutD, wIn, nIn, wCall, wCallK, wNew, tYesD, startD, List.map_cons, List.map_nil, List.length_cons, List.length_nil, List.replicate, Nat.sub_self, List.append_nil, List.cons_append, List.nil_append, List.getElem?_cons_zero, List.getElem?_cons_succ, List.set_cons_zero, List.set_cons_succ, Nat.reduceSub, Nat.reduceAdd, ite_true, ite_false, if_true, if_false, Bool.false_eq_true, Bool.true_eq_false, Bool.not_true, Bool.not_false, Option.some.injEq, nrm_non, nrm_bl, nrm_int, nrm_str, nrm_ty, nrm_lst, nrm_tupC, nrm_dct, nrm_scr, nrm_setL, wFgt, tyN_non, tyN_bl, tyN_int, tyN_str, tyN_lst, tyN_tup, tyN_dct, keyD_int, keyD_str, isA, okT, beq_self_eq_true, String.reduceBEq, Bool.or_false, Bool.or_true, Bool.and_false, Bool.and_true, Bool.true_or, Bool.false_or, Bool.true_and, Bool.false_and, true_and, and_true, List.any_cons, List.any_nil, tyNames, Option.map_some, iRn1, iRn2, iRn3, iLst, nIt, iTp, iEn, iZp, iSt, wipeD, atI0, atI1, atI2, atI3, ixN0, ixN1, ixN2, ixN3, wSub, wLt, wLe, wGt, wGe, wDiv, wMod, wPow, wShl, Mp.set_same, Mp.set_set, cSortedA, cDictP, wNewD, wEqS, nEqS, wFrzT, mExt, mCnt, nIxL, sAugS, wSlS, wJoin, cSumL, dUnl, cSortLL, cMinLL, wLenSetT, wLenDictT, mIndexB, wLenSetJ, wAddT, wSortSet, wDNewT, sDPutT, cSortDT, wBMd, wDGet1, wDGet2, mUpd, wPairs, wDisp, wLtS, cMinS, cListD, cGcd, cAbs, pdOk_nil, hp1, dn, a0]
      rw [hC] at fin
      exact ⟨sz0, fin⟩
  obtain ⟨y11, rfl, rfl⟩ := w
  have hwo := hwl one
  obtain ⟨A, hA⟩ : ∃ A, A = nD (wayI cs one) := ⟨_, rfl⟩
  obtain ⟨E1, hE⟩ : ∃ E1, E1 = nD (endsI cs) := ⟨_, rfl⟩
  have okA : ∀ k, okD (k + 2) (.lst A) = true := fun k => by rw [hA]; exact okL _ _ (by omega)
  have okE : ∀ k, okD (k + 2) (.lst E1) = true := fun k => by rw [hE]; exact okL _ _ (by omega)
  have hAl : A.length ≤ 40 := by rw [hA, nD_len]; omega
  have hEl2 : E1.length ≤ 40 := by rw [hE, nD_len]; omega
  rw [← hA, ← hE]
  have cWay : ∀ (M2 : Mp) (Q2 : DK), (∀ a, M2 a = none → Q2 (.ref a) (M2.set a (.lst A))) → R_way_from [.lst (cs.map .int), .int one] M2 Q2 := fun M2 Q2 h => ⟨_, cs, one, rfl, rfl, hcs, by omega, ho1, by rw [← hA]; exact h⟩
  have cEnds : ∀ (M2 : Mp) (Q2 : DK), (∀ a, M2 a = none → Q2 (.ref a) (M2.set a (.lst E1))) → R_ends_of [.lst (cs.map .int)] M2 Q2 := fun M2 Q2 h => ⟨_, cs, rfl, rfl, hcs, by omega, by rw [← hE]; exact h⟩
  have cCom : ∀ (M2 : Mp) (Q2 : DK), Q2 C M2 → R_first_common [.lst (cs.map .int), .int one, .int other] M2 Q2 := fun M2 Q2 h => ⟨_, cs, one, other, rfl, rfl, hcs, by omega, ho1, ho2, by rw [← hC]; exact h⟩
  have cAl : ∀ (M2 : Mp) (Q2 : DK), Q2 T M2 → R_alike_share [.lst (cs.map .int), .int st] M2 Q2 := fun M2 Q2 h => ⟨_, cs, st, rfl, rfl, hcs, by omega, hst2.1, hst2.2, by rw [← hT]; exact h⟩
  ((try simp only [sSeq]); simp only [sRet, sRetN, sIf, sDrop, sNever, sNext, sBreak, sCont, sAsg, sPar, sPar3, sAug, dName, dNil, dCons, dTup, dSub, sSetL, wVar, wC, wFrz, wFrzK, wOp, wAdd, nAdd, nI, nI0, wMul, nMul, wNeg, wEq, nEq, wIsN, wB, wAndT, wOrT, wNotT, wAndV, wOrV, wNotV, wIfE, wChain, aNil, aCons, aStar, wLst, wTup, wIx, nIx, pNo, pSo, wSl, wRev, wRevE, mIndex, wLenSet, cRepr, wIsB, wCB, cLen, cAll, cSum, cMax, cMin, cSorted, cInt, cList, cTuple, cIsi, wBits, wLRg, wBM, wBM0, mChg, wDGet, wDIn, wDNew, sDPutD, wIn, nIn, wCall, wCallK, wNew, tYesD, startD, List.map_cons, List.map_nil, List.length_cons, List.length_nil, List.replicate, Nat.sub_self, List.append_nil, List.cons_append, List.nil_append, List.getElem?_cons_zero, List.getElem?_cons_succ, List.set_cons_zero, List.set_cons_succ, Nat.reduceSub, Nat.reduceAdd, ite_true, ite_false, if_true, if_false, Bool.false_eq_true, Bool.true_eq_false, Bool.not_true, Bool.not_false, Option.some.injEq, nrm_non, nrm_bl, nrm_int, nrm_str, nrm_ty, nrm_lst, nrm_tupC, nrm_dct, nrm_scr, nrm_setL, wFgt, tyN_non, tyN_bl, tyN_int, tyN_str, tyN_lst, tyN_tup, tyN_dct, keyD_int, keyD_str, isA, okT, beq_self_eq_true, String.reduceBEq, Bool.or_false, Bool.or_true, Bool.and_false, Bool.and_true, Bool.true_or, Bool.false_or, Bool.true_and, Bool.false_and, true_and, and_true, List.any_cons, List.any_nil, tyNames, Option.map_some, iRn1, iRn2, iRn3, iLst, nIt, iTp, iEn, iZp, iSt, wipeD, atI0, atI1, atI2, atI3, ixN0, ixN1, ixN2, ixN3, wSub, wLt, wLe, wGt, wGe, wDiv, wMod, wPow, wShl, Mp.set_same, Mp.set_set, cSortedA, cDictP, wNewD, wEqS, nEqS, wFrzT, mExt, mCnt, nIxL, sAugS, wSlS, wJoin, cSumL, dUnl, cSortLL, cMinLL, wLenSetT, wLenDictT, mIndexB, wLenSetJ, wAddT, wSortSet, wDNewT, sDPutT, cSortDT, wBMd, wDGet1, wDGet2, mUpd, wPairs, wDisp, wLtS, cMinS, cListD, cGcd, cAbs])
  refine cWay _ _ fun f1 g1 => cEnds _ _ fun f2 g2 => cCom _ _ (cAl _ _ ⟨s8 4 (by omega), ?_⟩)
  have h12 : f1 ≠ f2 := fun e => by subst e; rw [Mp.set_same] at g2; cases g2
  have hM2 : ((M4.set f1 (.lst A)).set f2 (.lst E1)) f2 = some (.lst E1) := Mp.set_same
  have hM1' : ((M4.set f1 (.lst A)).set f2 (.lst E1)) f1 = some (.lst A) := by rw [Mp.set_ne h12, Mp.set_same]
  have g2' : M4 f2 = none := by rwa [Mp.set_ne h12.symm] at g2
  have hle : MLe M4 ((M4.set f1 (.lst A)).set f2 (.lst E1)) := ((MLe.refl M4).put g1).put g2'
  generalize (M4.set f1 (.lst A)).set f2 (.lst E1) = M5 at hM1' hM2 hle
  ((try simp only [sSeq]); simp only [sRet, sRetN, sIf, sDrop, sNever, sNext, sBreak, sCont, sAsg, sPar, sPar3, sAug, dName, dNil, dCons, dTup, dSub, sSetL, wVar, wC, wFrz, wFrzK, wOp, wAdd, nAdd, nI, nI0, wMul, nMul, wNeg, wEq, nEq, wIsN, wB, wAndT, wOrT, wNotT, wAndV, wOrV, wNotV, wIfE, wChain, aNil, aCons, aStar, wLst, wTup, wIx, nIx, pNo, pSo, wSl, wRev, wRevE, mIndex, wLenSet, cRepr, wIsB, wCB, cLen, cAll, cSum, cMax, cMin, cSorted, cInt, cList, cTuple, cIsi, wBits, wLRg, wBM, wBM0, mChg, wDGet, wDIn, wDNew, sDPutD, wIn, nIn, wCall, wCallK, wNew, tYesD, startD, List.map_cons, List.map_nil, List.length_cons, List.length_nil, List.replicate, Nat.sub_self, List.append_nil, List.cons_append, List.nil_append, List.getElem?_cons_zero, List.getElem?_cons_succ, List.set_cons_zero, List.set_cons_succ, Nat.reduceSub, Nat.reduceAdd, ite_true, ite_false, if_true, if_false, Bool.false_eq_true, Bool.true_eq_false, Bool.not_true, Bool.not_false, Option.some.injEq, nrm_non, nrm_bl, nrm_int, nrm_str, nrm_ty, nrm_lst, nrm_tupC, nrm_dct, nrm_scr, nrm_setL, wFgt, tyN_non, tyN_bl, tyN_int, tyN_str, tyN_lst, tyN_tup, tyN_dct, keyD_int, keyD_str, isA, okT, beq_self_eq_true, String.reduceBEq, Bool.or_false, Bool.or_true, Bool.and_false, Bool.and_true, Bool.true_or, Bool.false_or, Bool.true_and, Bool.false_and, true_and, and_true, List.any_cons, List.any_nil, tyNames, Option.map_some, iRn1, iRn2, iRn3, iLst, nIt, iTp, iEn, iZp, iSt, wipeD, atI0, atI1, atI2, atI3, ixN0, ixN1, ixN2, ixN3, wSub, wLt, wLe, wGt, wGe, wDiv, wMod, wPow, wShl, Mp.set_same, Mp.set_set, cSortedA, cDictP, wNewD, wEqS, nEqS, wFrzT, mExt, mCnt, nIxL, sAugS, wSlS, wJoin, cSumL, dUnl, cSortLL, cMinLL, wLenSetT, wLenDictT, mIndexB, wLenSetJ, wAddT, wSortSet, wDNewT, sDPutT, cSortDT, wBMd, wDGet1, wDGet2, mUpd, wPairs, wDisp, wLtS, cMinS, cListD, cGcd, cAbs, pick])
  refine cWay _ _ fun r1 k1 => frz_new k1 (cEnds _ _ fun r2 k2 => frz_new k2 ?_)
  refine ⟨s8 2 (by omega), fun n1 j1 => ?_⟩
  have hN1 : (M5.set n1 (.lst [.lst A, .lst E1])) n1 = some (.lst [.lst A, .lst E1]) := Mp.set_same
  ((try simp only [sSeq]); simp only [sRet, sRetN, sIf, sDrop, sNever, sNext, sBreak, sCont, sAsg, sPar, sPar3, sAug, dName, dNil, dCons, dTup, dSub, sSetL, wVar, wC, wFrz, wFrzK, wOp, wAdd, nAdd, nI, nI0, wMul, nMul, wNeg, wEq, nEq, wIsN, wB, wAndT, wOrT, wNotT, wAndV, wOrV, wNotV, wIfE, wChain, aNil, aCons, aStar, wLst, wTup, wIx, nIx, pNo, pSo, wSl, wRev, wRevE, mIndex, wLenSet, cRepr, wIsB, wCB, cLen, cAll, cSum, cMax, cMin, cSorted, cInt, cList, cTuple, cIsi, wBits, wLRg, wBM, wBM0, mChg, wDGet, wDIn, wDNew, sDPutD, wIn, nIn, wCall, wCallK, wNew, tYesD, startD, List.map_cons, List.map_nil, List.length_cons, List.length_nil, List.replicate, Nat.sub_self, List.append_nil, List.cons_append, List.nil_append, List.getElem?_cons_zero, List.getElem?_cons_succ, List.set_cons_zero, List.set_cons_succ, Nat.reduceSub, Nat.reduceAdd, ite_true, ite_false, if_true, if_false, Bool.false_eq_true, Bool.true_eq_false, Bool.not_true, Bool.not_false, Option.some.injEq, nrm_non, nrm_bl, nrm_int, nrm_str, nrm_ty, nrm_lst, nrm_tupC, nrm_dct, nrm_scr, nrm_setL, wFgt, tyN_non, tyN_bl, tyN_int, tyN_str, tyN_lst, tyN_tup, tyN_dct, keyD_int, keyD_str, isA, okT, beq_self_eq_true, String.reduceBEq, Bool.or_false, Bool.or_true, Bool.and_false, Bool.and_true, Bool.true_or, Bool.false_or, Bool.true_and, Bool.false_and, true_and, and_true, List.any_cons, List.any_nil, tyNames, Option.map_some, iRn1, iRn2, iRn3, iLst, nIt, iTp, iEn, iZp, iSt, wipeD, atI0, atI1, atI2, atI3, ixN0, ixN1, ixN2, ixN3, wSub, wLt, wLe, wGt, wGe, wDiv, wMod, wPow, wShl, Mp.set_same, Mp.set_set, cSortedA, cDictP, wNewD, wEqS, nEqS, wFrzT, mExt, mCnt, nIxL, sAugS, wSlS, wJoin, cSumL, dUnl, cSortLL, cMinLL, wLenSetT, wLenDictT, mIndexB, wLenSetJ, wAddT, wSortSet, wDNewT, sDPutT, cSortDT, wBMd, wDGet1, wDGet2, mUpd, wPairs, wDisp, wLtS, cMinS, cListD, cGcd, cAbs, pick, nrm_refL hN1])
  refine cCom _ _ ?_
  simp only [sRet, sRetN, sIf, sDrop, sNever, sNext, sBreak, sCont, sAsg, sPar, sPar3, sAug, dName, dNil, dCons, dTup, dSub, sSetL, wVar, wC, wFrz, wFrzK, wOp, wAdd, nAdd, nI, nI0, wMul, nMul, wNeg, wEq, nEq, wIsN, wB, wAndT, wOrT, wNotT, wAndV, wOrV, wNotV, wIfE, wChain, aNil, aCons, aStar, wLst, wTup, wIx, nIx, pNo, pSo, wSl, wRev, wRevE, mIndex, wLenSet, cRepr, wIsB, wCB, cLen, cAll, cSum, cMax, cMin, cSorted, cInt, cList, cTuple, cIsi, wBits, wLRg, wBM, wBM0, mChg, wDGet, wDIn, wDNew, sDPutD, wIn, nIn, wCall, wCallK, wNew, tYesD, startD, List.map_cons, List.map_nil, List.length_cons, List.length_nil, List.replicate, Nat.sub_self, List.append_nil, List.cons_append, List.nil_append, List.getElem?_cons_zero, List.getElem?_cons_succ, List.set_cons_zero, List.set_cons_succ, Nat.reduceSub, Nat.reduceAdd, ite_true, ite_false, if_true, if_false, Bool.false_eq_true, Bool.true_eq_false, Bool.not_true, Bool.not_false, Option.some.injEq, nrm_non, nrm_bl, nrm_int, nrm_str, nrm_ty, nrm_lst, nrm_tupC, nrm_dct, nrm_scr, nrm_setL, wFgt, tyN_non, tyN_bl, tyN_int, tyN_str, tyN_lst, tyN_tup, tyN_dct, keyD_int, keyD_str, isA, okT, beq_self_eq_true, String.reduceBEq, Bool.or_false, Bool.or_true, Bool.and_false, Bool.and_true, Bool.true_or, Bool.false_or, Bool.true_and, Bool.false_and, true_and, and_true, List.any_cons, List.any_nil, tyNames, Option.map_some, iRn1, iRn2, iRn3, iLst, nIt, iTp, iEn, iZp, iSt, wipeD, atI0, atI1, atI2, atI3, ixN0, ixN1, ixN2, ixN3, wSub, wLt, wLe, wGt, wGe, wDiv, wMod, wPow, wShl, Mp.set_same, Mp.set_set, cSortedA, cDictP, wNewD, wEqS, nEqS, wFrzT, mExt, mCnt, nIxL, sAugS, wSlS, wJoin, cSumL, dUnl, cSortLL, cMinLL, wLenSetT, wLenDictT, mIndexB, wLenSetJ, wAddT, wSortSet, wDNewT, sDPutT, cSortDT, wBMd, wDGet1, wDGet2, mUpd, wPairs, wDisp, wLtS, cMinS, cListD, cGcd, cAbs, pick, nrm_refL hN1]
  refine ⟨s8 1 (by omega), s8 3 (by omega), fun n2 j2 => ?_⟩
  have hn12 : n1 ≠ n2 := fun e => by subst e; rw [Mp.set_same] at j2; cases j2
  have hf1n : f1 ≠ n1 := fun e => by subst e; rw [hM1'] at j1; cases j1
  have hf2n : f2 ≠ n1 := fun e => by subst e; rw [hM2] at j1; cases j1
  have j2' : M5 n2 = none := by rwa [Mp.set_ne hn12.symm] at j2
  have hf1n2 : f1 ≠ n2 := fun e => by subst e; rw [hM1'] at j2'; cases j2'
  have hf2n2 : f2 ≠ n2 := fun e => by subst e; rw [hM2] at j2'; cases j2'
  have hN2 : ((M5.set n1 (.lst [.lst A, .lst E1])).set n2 (.lst [.lst A, .lst E1, C])) n2 = some (.lst [.lst A, .lst E1, C]) := Mp.set_same
  have ga4 : ∀ d, gAppend [.lst A, .lst E1, C] [d] = some (.non, [.lst A, .lst E1, C] ++ [d]) := fun d => gAppend_ok (by simp)
  ((try simp only [sSeq]); simp only [sRet, sRetN, sIf, sDrop, sNever, sNext, sBreak, sCont, sAsg, sPar, sPar3, sAug, dName, dNil, dCons, dTup, dSub, sSetL, wVar, wC, wFrz, wFrzK, wOp, wAdd, nAdd, nI, nI0, wMul, nMul, wNeg, wEq, nEq, wIsN, wB, wAndT, wOrT, wNotT, wAndV, wOrV, wNotV, wIfE, wChain, aNil, aCons, aStar, wLst, wTup, wIx, nIx, pNo, pSo, wSl, wRev, wRevE, mIndex, wLenSet, cRepr, wIsB, wCB, cLen, cAll, cSum, cMax, cMin, cSorted, cInt, cList, cTuple, cIsi, wBits, wLRg, wBM, wBM0, mChg, wDGet, wDIn, wDNew, sDPutD, wIn, nIn, wCall, wCallK, wNew, tYesD, startD, List.map_cons, List.map_nil, List.length_cons, List.length_nil, List.replicate, Nat.sub_self, List.append_nil, List.cons_append, List.nil_append, List.getElem?_cons_zero, List.getElem?_cons_succ, List.set_cons_zero, List.set_cons_succ, Nat.reduceSub, Nat.reduceAdd, ite_true, ite_false, if_true, if_false, Bool.false_eq_true, Bool.true_eq_false, Bool.not_true, Bool.not_false, Option.some.injEq, nrm_non, nrm_bl, nrm_int, nrm_str, nrm_ty, nrm_lst, nrm_tupC, nrm_dct, nrm_scr, nrm_setL, wFgt, tyN_non, tyN_bl, tyN_int, tyN_str, tyN_lst, tyN_tup, tyN_dct, keyD_int, keyD_str, isA, okT, beq_self_eq_true, String.reduceBEq, Bool.or_false, Bool.or_true, Bool.and_false, Bool.and_true, Bool.true_or, Bool.false_or, Bool.true_and, Bool.false_and, true_and, and_true, List.any_cons, List.any_nil, tyNames, Option.map_some, iRn1, iRn2, iRn3, iLst, nIt, iTp, iEn, iZp, iSt, wipeD, atI0, atI1, atI2, atI3, ixN0, ixN1, ixN2, ixN3, wSub, wLt, wLe, wGt, wGe, wDiv, wMod, wPow, wShl, Mp.set_same, Mp.set_set, cSortedA, cDictP, wNewD, wEqS, nEqS, wFrzT, mExt, mCnt, nIxL, sAugS, wSlS, wJoin, cSumL, dUnl, cSortLL, cMinLL, wLenSetT, wLenDictT, mIndexB, wLenSetJ, wAddT, wSortSet, wDNewT, sDPutT, cSortDT, wBMd, wDGet1, wDGet2, mUpd, wPairs, wDisp, wLtS, cMinS, cListD, cGcd, cAbs, isL_lst hN2, pick])
  refine cAl _ _ ?_
  simp only [sRet, sRetN, sIf, sDrop, sNever, sNext, sBreak, sCont, sAsg, sPar, sPar3, sAug, dName, dNil, dCons, dTup, dSub, sSetL, wVar, wC, wFrz, wFrzK, wOp, wAdd, nAdd, nI, nI0, wMul, nMul, wNeg, wEq, nEq, wIsN, wB, wAndT, wOrT, wNotT, wAndV, wOrV, wNotV, wIfE, wChain, aNil, aCons, aStar, wLst, wTup, wIx, nIx, pNo, pSo, wSl, wRev, wRevE, mIndex, wLenSet, cRepr, wIsB, wCB, cLen, cAll, cSum, cMax, cMin, cSorted, cInt, cList, cTuple, cIsi, wBits, wLRg, wBM, wBM0, mChg, wDGet, wDIn, wDNew, sDPutD, wIn, nIn, wCall, wCallK, wNew, tYesD, startD, List.map_cons, List.map_nil, List.length_cons, List.length_nil, List.replicate, Nat.sub_self, List.append_nil, List.cons_append, List.nil_append, List.getElem?_cons_zero, List.getElem?_cons_succ, List.set_cons_zero, List.set_cons_succ, Nat.reduceSub, Nat.reduceAdd, ite_true, ite_false, if_true, if_false, Bool.false_eq_true, Bool.true_eq_false, Bool.not_true, Bool.not_false, Option.some.injEq, nrm_non, nrm_bl, nrm_int, nrm_str, nrm_ty, nrm_lst, nrm_tupC, nrm_dct, nrm_scr, nrm_setL, wFgt, tyN_non, tyN_bl, tyN_int, tyN_str, tyN_lst, tyN_tup, tyN_dct, keyD_int, keyD_str, isA, okT, beq_self_eq_true, String.reduceBEq, Bool.or_false, Bool.or_true, Bool.and_false, Bool.and_true, Bool.true_or, Bool.false_or, Bool.true_and, Bool.false_and, true_and, and_true, List.any_cons, List.any_nil, tyNames, Option.map_some, iRn1, iRn2, iRn3, iLst, nIt, iTp, iEn, iZp, iSt, wipeD, atI0, atI1, atI2, atI3, ixN0, ixN1, ixN2, ixN3, wSub, wLt, wLe, wGt, wGe, wDiv, wMod, wPow, wShl, Mp.set_same, Mp.set_set, cSortedA, cDictP, wNewD, wEqS, nEqS, wFrzT, mExt, mCnt, nIxL, sAugS, wSlS, wJoin, cSumL, dUnl, cSortLL, cMinLL, wLenSetT, wLenDictT, mIndexB, wLenSetJ, wAddT, wSortSet, wDNewT, sDPutT, cSortDT, wBMd, wDGet1, wDGet2, mUpd, wPairs, wDisp, wLtS, cMinS, cListD, cGcd, cAbs, hN2, ga4]
  have hN3 : ((M5.set n1 (.lst [.lst A, .lst E1])).set n2 (.lst [.lst A, .lst E1, C, T])) n2 = some (.lst [.lst A, .lst E1, C, T]) := Mp.set_same
  have h1N : ((M5.set n1 (.lst [.lst A, .lst E1])).set n2 (.lst [.lst A, .lst E1, C, T])) f1 = some (.lst A) := by rw [Mp.set_ne hf1n2, Mp.set_ne hf1n]; exact hM1'
  have h2N : ((M5.set n1 (.lst [.lst A, .lst E1])).set n2 (.lst [.lst A, .lst E1, C, T])) f2 = some (.lst E1) := by rw [Mp.set_ne hf2n2, Mp.set_ne hf2n]; exact hM2
  have hle6 : MLe M4 ((M5.set n1 (.lst [.lst A, .lst E1])).set n2 (.lst [.lst A, .lst E1, C, T])) := (hle.put (hle.none j1)).put (hle.none j2')
  generalize (M5.set n1 (.lst [.lst A, .lst E1])).set n2 (.lst [.lst A, .lst E1, C, T]) = M6 at hN3 h1N h2N hle6
  have he1 : atI E1 (one : Int) = some (.int (endI cs one)) := by rw [hE]; exact hend one ho1
  have he2 : atI E1 (other : Int) = some (.int (endI cs other)) := by rw [hE]; exact hend other ho2
  have okR : okD 7 (.lst [.lst A, .lst E1, C, T]) = true := okD_L (by simp) (okDs_cons (okA _) (okDs_cons (okE _) (okDs_cons (hCo _) (okDs_cons (hTo _) okDs_nil))))
  ((try simp only [sSeq]); simp only [sRet, sRetN, sIf, sDrop, sNever, sNext, sBreak, sCont, sAsg, sPar, sPar3, sAug, dName, dNil, dCons, dTup, dSub, sSetL, wVar, wC, wFrz, wFrzK, wOp, wAdd, nAdd, nI, nI0, wMul, nMul, wNeg, wEq, nEq, wIsN, wB, wAndT, wOrT, wNotT, wAndV, wOrV, wNotV, wIfE, wChain, aNil, aCons, aStar, wLst, wTup, wIx, nIx, pNo, pSo, wSl, wRev, wRevE, mIndex, wLenSet, cRepr, wIsB, wCB, cLen, cAll, cSum, cMax, cMin, cSorted, cInt, cList, cTuple, cIsi, wBits, wLRg, wBM, wBM0, mChg, wDGet, wDIn, wDNew, sDPutD, wIn, nIn, wCall, wCallK, wNew, tYesD, startD, List.map_cons, List.map_nil, List.length_cons, List.length_nil, List.replicate, Nat.sub_self, List.append_nil, List.cons_append, List.nil_append, List.getElem?_cons_zero, List.getElem?_cons_succ, List.set_cons_zero, List.set_cons_succ, Nat.reduceSub, Nat.reduceAdd, ite_true, ite_false, if_true, if_false, Bool.false_eq_true, Bool.true_eq_false, Bool.not_true, Bool.not_false, Option.some.injEq, nrm_non, nrm_bl, nrm_int, nrm_str, nrm_ty, nrm_lst, nrm_tupC, nrm_dct, nrm_scr, nrm_setL, wFgt, tyN_non, tyN_bl, tyN_int, tyN_str, tyN_lst, tyN_tup, tyN_dct, keyD_int, keyD_str, isA, okT, beq_self_eq_true, String.reduceBEq, Bool.or_false, Bool.or_true, Bool.and_false, Bool.and_true, Bool.true_or, Bool.false_or, Bool.true_and, Bool.false_and, true_and, and_true, List.any_cons, List.any_nil, tyNames, Option.map_some, iRn1, iRn2, iRn3, iLst, nIt, iTp, iEn, iZp, iSt, wipeD, atI0, atI1, atI2, atI3, ixN0, ixN1, ixN2, ixN3, wSub, wLt, wLe, wGt, wGe, wDiv, wMod, wPow, wShl, Mp.set_same, Mp.set_set, cSortedA, cDictP, wNewD, wEqS, nEqS, wFrzT, mExt, mCnt, nIxL, sAugS, wSlS, wJoin, cSumL, dUnl, cSortLL, cMinLL, wLenSetT, wLenDictT, mIndexB, wLenSetJ, wAddT, wSortSet, wDNewT, sDPutT, cSortDT, wBMd, wDGet1, wDGet2, mUpd, wPairs, wDisp, wLtS, cMinS, cListD, cGcd, cAbs])
  refine ⟨[some (.ref p), some (.lst (cs.map .int)), some (.str (toPD (.lst (cs.map .int))).shown), some (.int cs.length), some (.int one), some (.int other), some (.int st), some (.lst ((List.range cs.length).map fun k => D.lst (nD (wayI cs k)))), some (.lst E1), some (.lst (nD (comI cs one other))), some (.int (alikeN cs st : Nat)), y11, some (.lst [.lst A, .lst E1, C, T]), some (.lst [.lst A, .lst E1, C, T]), some (.lst [.lst A, .lst E1, C, T]), none, none],
    .skip (.skip (.skip (.skip (.skip (.skip (.skip (.skip (.skip (.skip (.skip (.skip (.skip (.cons (.lst (.cons (.ref h1N (.same _)) (.cons (.ref h2N (.same _)) (.same _)))) (.cons (.ref hN3 (.same _)) (.same _))))))))))))))), ?_⟩
  simp only [sRet, sRetN, sIf, sDrop, sNever, sNext, sBreak, sCont, sAsg, sPar, sPar3, sAug, dName, dNil, dCons, dTup, dSub, sSetL, wVar, wC, wFrz, wFrzK, wOp, wAdd, nAdd, nI, nI0, wMul, nMul, wNeg, wEq, nEq, wIsN, wB, wAndT, wOrT, wNotT, wAndV, wOrV, wNotV, wIfE, wChain, aNil, aCons, aStar, wLst, wTup, wIx, nIx, pNo, pSo, wSl, wRev, wRevE, mIndex, wLenSet, cRepr, wIsB, wCB, cLen, cAll, cSum, cMax, cMin, cSorted, cInt, cList, cTuple, cIsi, wBits, wLRg, wBM, wBM0, mChg, wDGet, wDIn, wDNew, sDPutD, wIn, nIn, wCall, wCallK, wNew, tYesD, startD, List.map_cons, List.map_nil, List.length_cons, List.length_nil, List.replicate, Nat.sub_self, List.append_nil, List.cons_append, List.nil_append, List.getElem?_cons_zero, List.getElem?_cons_succ, List.set_cons_zero, List.set_cons_succ, Nat.reduceSub, Nat.reduceAdd, ite_true, ite_false, if_true, if_false, Bool.false_eq_true, Bool.true_eq_false, Bool.not_true, Bool.not_false, Option.some.injEq, nrm_non, nrm_bl, nrm_int, nrm_str, nrm_ty, nrm_lst, nrm_tupC, nrm_dct, nrm_scr, nrm_setL, wFgt, tyN_non, tyN_bl, tyN_int, tyN_str, tyN_lst, tyN_tup, tyN_dct, keyD_int, keyD_str, isA, okT, beq_self_eq_true, String.reduceBEq, Bool.or_false, Bool.or_true, Bool.and_false, Bool.and_true, Bool.true_or, Bool.false_or, Bool.true_and, Bool.false_and, true_and, and_true, List.any_cons, List.any_nil, tyNames, Option.map_some, iRn1, iRn2, iRn3, iLst, nIt, iTp, iEn, iZp, iSt, wipeD, atI0, atI1, atI2, atI3, ixN0, ixN1, ixN2, ixN3, wSub, wLt, wLe, wGt, wGe, wDiv, wMod, wPow, wShl, Mp.set_same, Mp.set_set, cSortedA, cDictP, wNewD, wEqS, nEqS, wFrzT, mExt, mCnt, nIxL, sAugS, wSlS, wJoin, cSumL, dUnl, cSortLL, cMinLL, wLenSetT, wLenDictT, mIndexB, wLenSetJ, wAddT, wSortSet, wDNewT, sDPutT, cSortDT, wBMd, wDGet1, wDGet2, mUpd, wPairs, wDisp, wLtS, cMinS, cListD, cGcd, cAbs]
  refine ⟨s8 2 (by omega), s8 2 (by omega), _, rfl, okD_L (by simp) (okDs_cons okR (okDs_cons okR okDs_nil)), ?_⟩
  simp only [sRet, sRetN, sIf, sDrop, sNever, sNext, sBreak, sCont, sAsg, sPar, sPar3, sAug, dName, dNil, dCons, dTup, dSub, sSetL, wVar, wC, wFrz, wFrzK, wOp, wAdd, nAdd, nI, nI0, wMul, nMul, wNeg, wEq, nEq, wIsN, wB, wAndT, wOrT, wNotT, wAndV, wOrV, wNotV, wIfE, wChain, aNil, aCons, aStar, wLst, wTup, wIx, nIx, pNo, pSo, wSl, wRev, wRevE, mIndex, wLenSet, cRepr, wIsB, wCB, cLen, cAll, cSum, cMax, cMin, cSorted, cInt, cList, cTuple, cIsi, wBits, wLRg, wBM, wBM0, mChg, wDGet, wDIn, wDNew, sDPutD, wIn, nIn, wCall, wCallK, wNew, tYesD, startD, List.map_cons, List.map_nil, List.length_cons, List.length_nil, List.replicate, Nat.sub_self, List.append_nil, List.cons_append, List.nil_append, List.getElem?_cons_zero, List.getElem?_cons_succ, List.set_cons_zero, List.set_cons_succ, Nat.reduceSub, Nat.reduceAdd, ite_true, ite_false, if_true, if_false, Bool.false_eq_true, Bool.true_eq_false, Bool.not_true, Bool.not_false, Option.some.injEq, nrm_non, nrm_bl, nrm_int, nrm_str, nrm_ty, nrm_lst, nrm_tupC, nrm_dct, nrm_scr, nrm_setL, wFgt, tyN_non, tyN_bl, tyN_int, tyN_str, tyN_lst, tyN_tup, tyN_dct, keyD_int, keyD_str, isA, okT, beq_self_eq_true, String.reduceBEq, Bool.or_false, Bool.or_true, Bool.and_false, Bool.and_true, Bool.true_or, Bool.false_or, Bool.true_and, Bool.false_and, true_and, and_true, List.any_cons, List.any_nil, tyNames, Option.map_some, iRn1, iRn2, iRn3, iLst, nIt, iTp, iEn, iZp, iSt, wipeD, atI0, atI1, atI2, atI3, ixN0, ixN1, ixN2, ixN3, wSub, wLt, wLe, wGt, wGe, wDiv, wMod, wPow, wShl, Mp.set_same, Mp.set_set, cSortedA, cDictP, wNewD, wEqS, nEqS, wFrzT, mExt, mCnt, nIxL, sAugS, wSlS, wJoin, cSumL, dUnl, cSortLL, cMinLL, wLenSetT, wLenDictT, mIndexB, wLenSetJ, wAddT, wSortSet, wDNewT, sDPutT, cSortDT, wBMd, wDGet1, wDGet2, mUpd, wPairs, wDisp, wLtS, cMinS, cListD, cGcd, cAbs, he1, he2]
  have hbn : isNonD C = !decide ((endI cs one : Int) = (endI cs other : Int)) := by
    rw [hC]
    have hce := com_end hcs ho1 ho2
    cases hcm : comI cs one other with
    | nil =>
      have h := hce.mp hcm
      rw [decide_eq_false (by omega)]; rfl
    | cons a l =>
      have h : endI cs one = endI cs other := Classical.byContradiction fun h => by
        have := hce.mpr h
        rw [hcm] at this; cases this
      rw [decide_eq_true (by omega)]; rfl
  show (pdOk (.bl (isNonD C)) = true ∧ pdOk (.bl (!decide ((endI cs one : Int) = (endI cs other : Int)))) = true) ∧ (if (!deq (.bl (isNonD C)) (.bl (!decide ((endI cs one : Int) = (endI cs other : Int))))) = true then _ else _)
  rw [hbn]
  have hdb : ∀ b : Bool, deq (.bl b) (.bl b) = true := fun b => deq_refl rfl
  rw [hdb]
  refine ⟨⟨rfl, rfl⟩, ?_⟩
  rw [if_neg (by decide)]
  have gaA := gAppend_ok (xs := A) (x := .str "more") (by omega)
  have gaE := gAppend_ok (xs := E1) (x := .str "more") (by omega)
  have hf2M : (M6.set f1 (.lst (A ++ [.str "more"]))) f2 = some (.lst E1) := by rw [Mp.set_ne h12.symm]; exact h2N
  ((try simp only [sSeq]); simp only [sRet, sRetN, sIf, sDrop, sNever, sNext, sBreak, sCont, sAsg, sPar, sPar3, sAug, dName, dNil, dCons, dTup, dSub, sSetL, wVar, wC, wFrz, wFrzK, wOp, wAdd, nAdd, nI, nI0, wMul, nMul, wNeg, wEq, nEq, wIsN, wB, wAndT, wOrT, wNotT, wAndV, wOrV, wNotV, wIfE, wChain, aNil, aCons, aStar, wLst, wTup, wIx, nIx, pNo, pSo, wSl, wRev, wRevE, mIndex, wLenSet, cRepr, wIsB, wCB, cLen, cAll, cSum, cMax, cMin, cSorted, cInt, cList, cTuple, cIsi, wBits, wLRg, wBM, wBM0, mChg, wDGet, wDIn, wDNew, sDPutD, wIn, nIn, wCall, wCallK, wNew, tYesD, startD, List.map_cons, List.map_nil, List.length_cons, List.length_nil, List.replicate, Nat.sub_self, List.append_nil, List.cons_append, List.nil_append, List.getElem?_cons_zero, List.getElem?_cons_succ, List.set_cons_zero, List.set_cons_succ, Nat.reduceSub, Nat.reduceAdd, ite_true, ite_false, if_true, if_false, Bool.false_eq_true, Bool.true_eq_false, Bool.not_true, Bool.not_false, Option.some.injEq, nrm_non, nrm_bl, nrm_int, nrm_str, nrm_ty, nrm_lst, nrm_tupC, nrm_dct, nrm_scr, nrm_setL, wFgt, tyN_non, tyN_bl, tyN_int, tyN_str, tyN_lst, tyN_tup, tyN_dct, keyD_int, keyD_str, isA, okT, beq_self_eq_true, String.reduceBEq, Bool.or_false, Bool.or_true, Bool.and_false, Bool.and_true, Bool.true_or, Bool.false_or, Bool.true_and, Bool.false_and, true_and, and_true, List.any_cons, List.any_nil, tyNames, Option.map_some, iRn1, iRn2, iRn3, iLst, nIt, iTp, iEn, iZp, iSt, wipeD, atI0, atI1, atI2, atI3, ixN0, ixN1, ixN2, ixN3, wSub, wLt, wLe, wGt, wGe, wDiv, wMod, wPow, wShl, Mp.set_same, Mp.set_set, cSortedA, cDictP, wNewD, wEqS, nEqS, wFrzT, mExt, mCnt, nIxL, sAugS, wSlS, wJoin, cSumL, dUnl, cSortLL, cMinLL, wLenSetT, wLenDictT, mIndexB, wLenSetJ, wAddT, wSortSet, wDNewT, sDPutT, cSortDT, wBMd, wDGet1, wDGet2, mUpd, wPairs, wDisp, wLtS, cMinS, cListD, cGcd, cAbs, isL_lst h1N, h1N, gaA])
  ((try simp only [sSeq]); simp only [sRet, sRetN, sIf, sDrop, sNever, sNext, sBreak, sCont, sAsg, sPar, sPar3, sAug, dName, dNil, dCons, dTup, dSub, sSetL, wVar, wC, wFrz, wFrzK, wOp, wAdd, nAdd, nI, nI0, wMul, nMul, wNeg, wEq, nEq, wIsN, wB, wAndT, wOrT, wNotT, wAndV, wOrV, wNotV, wIfE, wChain, aNil, aCons, aStar, wLst, wTup, wIx, nIx, pNo, pSo, wSl, wRev, wRevE, mIndex, wLenSet, cRepr, wIsB, wCB, cLen, cAll, cSum, cMax, cMin, cSorted, cInt, cList, cTuple, cIsi, wBits, wLRg, wBM, wBM0, mChg, wDGet, wDIn, wDNew, sDPutD, wIn, nIn, wCall, wCallK, wNew, tYesD, startD, List.map_cons, List.map_nil, List.length_cons, List.length_nil, List.replicate, Nat.sub_self, List.append_nil, List.cons_append, List.nil_append, List.getElem?_cons_zero, List.getElem?_cons_succ, List.set_cons_zero, List.set_cons_succ, Nat.reduceSub, Nat.reduceAdd, ite_true, ite_false, if_true, if_false, Bool.false_eq_true, Bool.true_eq_false, Bool.not_true, Bool.not_false, Option.some.injEq, nrm_non, nrm_bl, nrm_int, nrm_str, nrm_ty, nrm_lst, nrm_tupC, nrm_dct, nrm_scr, nrm_setL, wFgt, tyN_non, tyN_bl, tyN_int, tyN_str, tyN_lst, tyN_tup, tyN_dct, keyD_int, keyD_str, isA, okT, beq_self_eq_true, String.reduceBEq, Bool.or_false, Bool.or_true, Bool.and_false, Bool.and_true, Bool.true_or, Bool.false_or, Bool.true_and, Bool.false_and, true_and, and_true, List.any_cons, List.any_nil, tyNames, Option.map_some, iRn1, iRn2, iRn3, iLst, nIt, iTp, iEn, iZp, iSt, wipeD, atI0, atI1, atI2, atI3, ixN0, ixN1, ixN2, ixN3, wSub, wLt, wLe, wGt, wGe, wDiv, wMod, wPow, wShl, Mp.set_same, Mp.set_set, cSortedA, cDictP, wNewD, wEqS, nEqS, wFrzT, mExt, mCnt, nIxL, sAugS, wSlS, wJoin, cSumL, dUnl, cSortLL, cMinLL, wLenSetT, wLenDictT, mIndexB, wLenSetJ, wAddT, wSortSet, wDNewT, sDPutT, cSortDT, wBMd, wDGet1, wDGet2, mUpd, wPairs, wDisp, wLtS, cMinS, cListD, cGcd, cAbs, isL_lst hf2M, hf2M, gaE])
  refine cWay _ _ fun r3 k3 => frz_new k3 (cEnds _ _ fun r4 k4 => frz_new k4 ⟨s8 2 (by omega), ?_⟩)
  have c2 : cutD [D.lst A, .lst E1, C, T] none (some 2) = [.lst A, .lst E1] := by rw [cut_take (by omega)]; rfl
  rw [c2]
  refine ⟨_, rfl, okD_L (by simp) (okDs_cons (okA _) (okDs_cons (okE _) okDs_nil)), ?_⟩
  simp only [sRet, sRetN, sIf, sDrop, sNever, sNext, sBreak, sCont, sAsg, sPar, sPar3, sAug, dName, dNil, dCons, dTup, dSub, sSetL, wVar, wC, wFrz, wFrzK, wOp, wAdd, nAdd, nI, nI0, wMul, nMul, wNeg, wEq, nEq, wIsN, wB, wAndT, wOrT, wNotT, wAndV, wOrV, wNotV, wIfE, wChain, aNil, aCons, aStar, wLst, wTup, wIx, nIx, pNo, pSo, wSl, wRev, wRevE, mIndex, wLenSet, cRepr, wIsB, wCB, cLen, cAll, cSum, cMax, cMin, cSorted, cInt, cList, cTuple, cIsi, wBits, wLRg, wBM, wBM0, mChg, wDGet, wDIn, wDNew, sDPutD, wIn, nIn, wCall, wCallK, wNew, tYesD, startD, List.map_cons, List.map_nil, List.length_cons, List.length_nil, List.replicate, Nat.sub_self, List.append_nil, List.cons_append, List.nil_append, List.getElem?_cons_zero, List.getElem?_cons_succ, List.set_cons_zero, List.set_cons_succ, Nat.reduceSub, Nat.reduceAdd, ite_true, ite_false, if_true, if_false, Bool.false_eq_true, Bool.true_eq_false, Bool.not_true, Bool.not_false, Option.some.injEq, nrm_non, nrm_bl, nrm_int, nrm_str, nrm_ty, nrm_lst, nrm_tupC, nrm_dct, nrm_scr, nrm_setL, wFgt, tyN_non, tyN_bl, tyN_int, tyN_str, tyN_lst, tyN_tup, tyN_dct, keyD_int, keyD_str, isA, okT, beq_self_eq_true, String.reduceBEq, Bool.or_false, Bool.or_true, Bool.and_false, Bool.and_true, Bool.true_or, Bool.false_or, Bool.true_and, Bool.false_and, true_and, and_true, List.any_cons, List.any_nil, tyNames, Option.map_some, iRn1, iRn2, iRn3, iLst, nIt, iTp, iEn, iZp, iSt, wipeD, atI0, atI1, atI2, atI3, ixN0, ixN1, ixN2, ixN3, wSub, wLt, wLe, wGt, wGe, wDiv, wMod, wPow, wShl, Mp.set_same, Mp.set_set, cSortedA, cDictP, wNewD, wEqS, nEqS, wFrzT, mExt, mCnt, nIxL, sAugS, wSlS, wJoin, cSumL, dUnl, cSortLL, cMinLL, wLenSetT, wLenDictT, mIndexB, wLenSetJ, wAddT, wSortSet, wDNewT, sDPutT, cSortDT, wBMd, wDGet1, wDGet2, mUpd, wPairs, wDisp, wLtS, cMinS, cListD, cGcd, cAbs]
  have hn1 : M4 f1 = none := g1
  refine ⟨hro, M4, fun x m hm => ?_, by rw [← hM1]; exact q ys3 (hy3.mono (by omega))⟩
  have hx1 : x ≠ f1 := fun e => by subst e; rw [g1] at hm; cases hm
  have hx2 : x ≠ f2 := fun e => by subst e; rw [g2'] at hm; cases hm
  rw [Mp.set_ne hx2, Mp.set_ne hx1]
  exact hle6 x m hm
abbrev s_law_pack_right : Stmt := topS 42
theorem sc_law_pack_right : FnScope ["purse", "values", "pack", "kept", "due", "told", "rank", "card"] ["purse"] (defScope s_law_pack_right) := ⟨rfl, rfl, rfl, by decide +kernel, rfl, by decide +kernel, by decide +kernel⟩
theorem ok_law_pack_right {f : Addr} {fd : FuncData} (F : FnP K "_law_pack_right" s_law_pack_right [] f fd)
    {f_law_draw : Addr} {fd_law_draw : FuncData} {ds_law_draw : List Value} (G_law_draw : Kn P w K mg base "_law_draw" ["purse", "many"] R_law_draw 2 [] ds_law_draw f_law_draw fd_law_draw)
    {f_law_shuffled : Addr} {fd_law_shuffled : FuncData} {ds_law_shuffled : List Value} (G_law_shuffled : Kn P w K mg base "_law_shuffled" ["purse", "some"] R_law_shuffled 3 [] ds_law_shuffled f_law_shuffled fd_law_shuffled)
    {f_counts_of_pack : Addr} {fd_counts_of_pack : FuncData} {ds_counts_of_pack : List Value} (G_counts_of_pack : Kn P w K mg base "counts_of_pack" ["pack", "values"] R_counts_of_pack 5 [] ds_counts_of_pack f_counts_of_pack fd_counts_of_pack)
    {f_law_exact : Addr} {fd_law_exact : FuncData} {ds_law_exact : List Value} (G_law_exact : Kn P w K mg base "_law_exact" ["mine", "theirs"] R_law_exact 9 [] ds_law_exact f_law_exact fd_law_exact)
    (KB_counts_of_pack_4 : KBinds K fd_counts_of_pack ["pack", "values"] ["values", "pack"] (pick 0 2 [1, 0]) (pick 0 2 [1, 0]))
    (m_range : mg "range" = none)
    (m_list : mg "list" = none)
    (m_len : mg "len" = none)
    (m_repr : mg "repr" = none) :
    FnG P w K mg base 10 f fd ["purse"] (spD R_law_pack_right) := by
  have nd := sc_law_pack_right.nd
  refine fnD (k := 9) F sc_law_pack_right len_law_pack_right fun cdv A outer s H E hr hq => ?_
  have hu := hu_of hr
  have hr65 := room65 hr
  have hr66 := room66 hr
  refine ⟨_, _, pss_cons (ps_set (i := 1) nd rfl (by first | exact .inl rfl | exact .inr rfl) (pe_lc (own := [("rank", 6)]) (by rfl) nd (pi_range1 (by rfl) m_range (pa_cons (pe_op op_addA (pe_int) (pe_callG (G_law_draw.ok.mono (by decide)) hr hq (by rfl) G_law_draw.m G_law_draw.kp G_law_draw.b G_law_draw.dv (pa_cons (pv 0) (pa_cons (pe_int) (pa_nil))))) (pa_nil))) (blkOk_by (by kernel_rfl)) (fun _ _ _ _ _ => pg_name (i := 6) nd rfl (by first | exact .inl rfl | exact .inr rfl)) (fun _ _ _ _ _ => pts_nil) (fun _ _ _ _ _ => pe_op op_addA (pe_int) (pe_callG (G_law_draw.ok.mono (by decide)) hr hq (by rfl) G_law_draw.m G_law_draw.kp G_law_draw.b G_law_draw.dv (pa_cons (pv 0) (pa_cons (pe_int) (pa_nil)))))))
      (pss_cons (ps_set (i := 2) nd rfl (by first | exact .inl rfl | exact .inr rfl) (pe_slice sl_list (pe_callG (G_law_shuffled.ok.mono (by decide)) hr hq (by rfl) G_law_shuffled.m G_law_shuffled.kp G_law_shuffled.b G_law_shuffled.dv (pa_cons (pv 0) (pa_cons (pe_listRgC rfl (by rfl) m_list (prgA (by rfl) m_range (pa_cons (pe_int) (pa_nil)))) (pa_nil)))) (po_none) (po_some (pe_callG (G_law_draw.ok.mono (by decide)) hr hq (by rfl) G_law_draw.m G_law_draw.kp G_law_draw.b G_law_draw.dv (pa_cons (pv 0) (pa_cons (pe_int) (pa_nil)))))))
      (pss_cons (ps_par (i := 3) (j := 4) (by rfl) nd rfl rfl (by decide) rfl rfl (pa_cons (pe_callB (call_reprD hr66 hq) (by rfl) m_repr (by decide +kernel) (pa_cons (pe_lst (pa_cons (pv 2) (pa_cons (pv 1) (pa_nil)))) (pa_nil))) (pa_cons (pe_lc (own := [("card", 7)]) (by rfl) nd (pi_list (pv 2)) (blkOk_by (by kernel_rfl)) (fun _ _ _ _ _ => pg_name (i := 7) nd rfl (by first | exact .inl rfl | exact .inr rfl)) (fun _ _ _ _ _ => pts_nil) (fun _ _ _ _ _ => pe_ix ix_seq (pv 1) (pe_op op_mod (pv 7) (pe_callB call_lenA (by rfl) m_len (by decide +kernel) (pa_cons (pv 1) (pa_nil)))) (fun _ _ => rfl))) (pa_nil))) (by rfl))
      (pss_cons (ps_set (i := 5) nd rfl (by first | exact .inl rfl | exact .inr rfl) (pe_lst (pa_cons (pe_callG (G_counts_of_pack.ok.mono (by decide)) hr hq (by rfl) G_counts_of_pack.m G_counts_of_pack.kp G_counts_of_pack.b G_counts_of_pack.dv (pa_cons (pv 2) (pa_cons (pv 1) (pa_nil)))) (pa_cons (pe_callGK0 (G_counts_of_pack.ok.mono (by decide)) hr hq (by rfl) G_counts_of_pack.m G_counts_of_pack.kp KB_counts_of_pack_4 (pk_cons (pv 1) (pk_cons (pv 2) (pk_nil)))) (pa_nil)))))
      (pss_cons (ps_if (pt_not (pt_val (pe_callG (G_law_exact.ok.mono (by decide)) hr hq (by rfl) G_law_exact.m G_law_exact.kp G_law_exact.b G_law_exact.dv (pa_cons (pe_lst (pa_cons (pv 4) (pa_cons (pv 4) (pa_nil)))) (pa_cons (pv 5) (pa_nil)))))) (pss_one (ps_ret (pe_bl))) (pss_nil))
      (pss_cons (ps_expr (pe_bm PySem.F.plainAttrs_list PySem.F.slot_list_append PySem.F.type_list_append mt_append (pe_ix ix_seq (pv 5) (pe_int) (fun _ _ => rfl)) (pa_cons (pe_str) (pa_nil))))
      (pss_one (ps_ret (pe_and (pe_callG (G_law_exact.ok.mono (by decide)) hr hq (by rfl) G_law_exact.m G_law_exact.kp G_law_exact.b G_law_exact.dv (pa_cons (pv 4) (pa_cons (pe_callG (G_counts_of_pack.ok.mono (by decide)) hr hq (by rfl) G_counts_of_pack.m G_counts_of_pack.kp G_counts_of_pack.b G_counts_of_pack.dv (pa_cons (pv 2) (pa_cons (pv 1) (pa_nil)))) (pa_nil)))) (pe_one (pe_cmpR ((op_eqD hr.units).or op_eq) (pe_callB (call_reprD hr66 hq) (by rfl) m_repr (by decide +kernel) (pa_cons (pe_lst (pa_cons (pv 2) (pa_cons (pv 1) (pa_nil)))) (pa_nil))) (pv 3) (nomark _))))))))))),
    ts_seq (ts_asg (tr_lc (md := .frz) (ti_rng1 (ta_cons (tr_op (ot_add (K := K) (md := .frz)) (tr_int) (tr_call (ta_cons (tr_var (i := 0)) (ta_cons (tr_int) (ta_nil))))) (ta_nil))) (tc_name (i := 6) (by decide)) (tt_yes) (tr_op (ot_add (K := K) (md := .frz)) (tr_int) (tr_call (ta_cons (tr_var (i := 0)) (ta_cons (tr_int) (ta_nil)))))) (tg_name (i := 1)))
      (ts_seq (ts_asg (tr_sl (md := .frz) (tr_call (ta_cons (tr_var (i := 0)) (ta_cons (tr_lrg (md := .frz) (ta_cons (tr_int) (ta_nil))) (ta_nil)))) (tp_no) (tp_so (tr_call (ta_cons (tr_var (i := 0)) (ta_cons (tr_int) (ta_nil)))))) (tg_name (i := 2)))
      (ts_seq (ts_par (i := 3) (j := 4) (ta_cons (tr_cb ct_repr (ta_cons (tr_lst (md := .frz) (ta_cons (tr_var (i := 2)) (ta_cons (tr_var (i := 1)) (ta_nil)))) (ta_nil))) (ta_cons (tr_lc (md := .frz) (ti_list (tr_var (i := 2))) (tc_name (i := 7) (by decide)) (tt_yes) (tr_op ot_ix (tr_var (i := 1)) (tr_op (ot_mod) (tr_var (i := 7)) (tr_cb ct_len (ta_cons (tr_var (i := 1)) (ta_nil)))))) (ta_nil))))
      (ts_seq (ts_asg (tr_lst (md := .frz) (ta_cons (tr_call (ta_cons (tr_var (i := 2)) (ta_cons (tr_var (i := 1)) (ta_nil)))) (ta_cons (tr_callP ta_nil (ta_cons (tr_var (i := 1)) (ta_cons (tr_var (i := 2)) (ta_nil)))) (ta_nil)))) (tg_name (i := 5)))
      (ts_seq (ts_if (tt_snap (tt_not (tt_B (tr_call (ta_cons (tr_lst (md := .frz) (ta_cons (tr_var (i := 4)) (ta_cons (tr_var (i := 4)) (ta_nil)))) (ta_cons (tr_var (i := 5)) (ta_nil))))))) (ts_ret (tr_fgt (tr_bl))) (ts_next))
      (ts_seq (ts_drop (tr_bm mt_appendD (tr_op ot_ix (tr_var (i := 5)) (tr_int)) (ta_cons (tr_str) (ta_nil))))
      (ts_ret (tr_fgt (tr_and (tr_call (ta_cons (tr_var (i := 4)) (ta_cons (tr_frz (tr_call (ta_cons (tr_var (i := 2)) (ta_cons (tr_var (i := 1)) (ta_nil))))) (ta_nil)))) (tr_op ot_eqS (tr_cb ct_repr (ta_cons (tr_lst (md := .frz) (ta_cons (tr_var (i := 2)) (ta_cons (tr_var (i := 1)) (ta_nil)))) (ta_nil))) (tr_var (i := 3))))))))))), ?_⟩
  rintro ds M Q ⟨p, xs, B, rfl, hp, hx, hB, q⟩
  have s8 : ∀ k : Nat, k ≤ 8 → Sz k := fun k h => (by first | omega | (unfold Sz; omega) | (simp only [List.length_map, List.length_append, List.length_cons, List.length_nil, rngI_length, List.length_take, List.length_drop, List.length_reverse]; unfold Sz; omega))
  refine seq_mid (fun ρ' M' => ∃ (vs : List Int) (ys : List D), ρ' = [some (.ref p), some (.lst (vs.map .int)), none, none, none, none, none, none] ∧ vs ≠ [] ∧ vs.length ≤ 13 ∧ (∀ k ∈ vs, 1 ≤ k ∧ k ≤ 12) ∧ PurseOk (B + 60) ys ∧ M' = M.set p (.lst ys)) (fun nx hnx => ?_) (fun ρ' M' w => ?_)
  · unfold wLc
    simp only [sRet, sRetN, sIf, sDrop, sNever, sNext, sBreak, sCont, sAsg, sPar, sPar3, sAug, dName, dNil, dCons, dTup, dSub, sSetL, wVar, wC, wFrz, wFrzK, wOp, wAdd, nAdd, nI, nI0, wMul, nMul, wNeg, wEq, nEq, wIsN, wB, wAndT, wOrT, wNotT, wAndV, wOrV, wNotV, wIfE, wChain, aNil, aCons, aStar, wLst, wTup, wIx, nIx, pNo, pSo, wSl, wRev, wRevE, mIndex, wLenSet, cRepr, wIsB, wCB, cLen, cAll, cSum, cMax, cMin, cSorted, cInt, cList, cTuple, cIsi, wBits, wLRg, wBM, wBM0, mChg, wDGet, wDIn, wDNew, sDPutD, wIn, nIn, wCall, wCallK, wNew, tYesD, startD, List.map_cons, List.map_nil, List.length_cons, List.length_nil, List.replicate, Nat.sub_self, List.append_nil, List.cons_append, List.nil_append, List.getElem?_cons_zero, List.getElem?_cons_succ, List.set_cons_zero, List.set_cons_succ, Nat.reduceSub, Nat.reduceAdd, ite_true, ite_false, if_true, if_false, Bool.false_eq_true, Bool.true_eq_false, Bool.not_true, Bool.not_false, Option.some.injEq, nrm_non, nrm_bl, nrm_int, nrm_str, nrm_ty, nrm_lst, nrm_tupC, nrm_dct, nrm_scr, nrm_setL, wFgt, tyN_non, tyN_bl, tyN_int, tyN_str, tyN_lst, tyN_tup, tyN_dct, keyD_int, keyD_str, isA, okT, beq_self_eq_true, String.reduceBEq, Bool.or_false, Bool.or_true, Bool.and_false, Bool.and_true, Bool.true_or, Bool.false_or, Bool.true_and, Bool.false_and, true_and, and_true, List.any_cons, List.any_nil, tyNames, Option.map_some, iRn1, iRn2, iRn3, iLst, nIt, iTp, iEn, iZp, iSt, wipeD, atI0, atI1, atI2, atI3, ixN0, ixN1, ixN2, ixN3, wSub, wLt, wLe, wGt, wGe, wDiv, wMod, wPow, wShl, Mp.set_same, Mp.set_set, cSortedA, cDictP, wNewD, wEqS, nEqS, wFrzT, mExt, mCnt, nIxL, sAugS, wSlS, wJoin, cSumL, dUnl, cSortLL, cMinLL, wLenSetT, wLenDictT, mIndexB, wLenSetJ, wAddT, wSortSet, wDNewT, sDPutT, cSortDT, wBMd, wDGet1, wDGet2, mUpd, wPairs, wDisp, wLtS, cMinS, cListD, cGcd, cAbs]
    refine ⟨p, xs, 13, _, rfl, hp, hx, by omega, by omega, by omega, fun c ws hc0 hc1 hws => ?_⟩
    obtain ⟨c, rfl⟩ := Int.eq_ofNat_of_zero_le hc0
    obtain ⟨w, hw⟩ : ∃ w : Int, w = 12 := ⟨12, rfl⟩
    simp only [sRet, sRetN, sIf, sDrop, sNever, sNext, sBreak, sCont, sAsg, sPar, sPar3, sAug, dName, dNil, dCons, dTup, dSub, sSetL, wVar, wC, wFrz, wFrzK, wOp, wAdd, nAdd, nI, nI0, wMul, nMul, wNeg, wEq, nEq, wIsN, wB, wAndT, wOrT, wNotT, wAndV, wOrV, wNotV, wIfE, wChain, aNil, aCons, aStar, wLst, wTup, wIx, nIx, pNo, pSo, wSl, wRev, wRevE, mIndex, wLenSet, cRepr, wIsB, wCB, cLen, cAll, cSum, cMax, cMin, cSorted, cInt, cList, cTuple, cIsi, wBits, wLRg, wBM, wBM0, mChg, wDGet, wDIn, wDNew, sDPutD, wIn, nIn, wCall, wCallK, wNew, tYesD, startD, List.map_cons, List.map_nil, List.length_cons, List.length_nil, List.replicate, Nat.sub_self, List.append_nil, List.cons_append, List.nil_append, List.getElem?_cons_zero, List.getElem?_cons_succ, List.set_cons_zero, List.set_cons_succ, Nat.reduceSub, Nat.reduceAdd, ite_true, ite_false, if_true, if_false, Bool.false_eq_true, Bool.true_eq_false, Bool.not_true, Bool.not_false, Option.some.injEq, nrm_non, nrm_bl, nrm_int, nrm_str, nrm_ty, nrm_lst, nrm_tupC, nrm_dct, nrm_scr, nrm_setL, wFgt, tyN_non, tyN_bl, tyN_int, tyN_str, tyN_lst, tyN_tup, tyN_dct, keyD_int, keyD_str, isA, okT, beq_self_eq_true, String.reduceBEq, Bool.or_false, Bool.or_true, Bool.and_false, Bool.and_true, Bool.true_or, Bool.false_or, Bool.true_and, Bool.false_and, true_and, and_true, List.any_cons, List.any_nil, tyNames, Option.map_some, iRn1, iRn2, iRn3, iLst, nIt, iTp, iEn, iZp, iSt, wipeD, atI0, atI1, atI2, atI3, ixN0, ixN1, ixN2, ixN3, wSub, wLt, wLe, wGt, wGe, wDiv, wMod, wPow, wShl, Mp.set_same, Mp.set_set, cSortedA, cDictP, wNewD, wEqS, nEqS, wFrzT, mExt, mCnt, nIxL, sAugS, wSlS, wJoin, cSumL, dUnl, cSortLL, cMinLL, wLenSetT, wLenDictT, mIndexB, wLenSetJ, wAddT, wSortSet, wDNewT, sDPutT, cSortDT, wBMd, wDGet1, wDGet2, mUpd, wPairs, wDisp, wLtS, cMinS, cListD, cGcd, cAbs]
    refine ⟨⟨by omega, by omega⟩, by rw [rngD_ints, List.length_map, rngI_length]; exact (by first | omega | (unfold Sz; omega) | (simp only [List.length_map, List.length_append, List.length_cons, List.length_nil, rngI_length, List.length_take, List.length_drop, List.length_reverse]; unfold Sz; omega)), fun i acc M' => ∃ (cs : List Int) (vs : List D), acc = cs.map .int ∧ cs.length = i ∧ (∀ k ∈ cs, 1 ≤ k ∧ k ≤ 12) ∧ PurseOk (B + 3 + 3 * (i : Nat)) vs ∧ M' = M.set p (.lst vs), ⟨[], ws, rfl, rfl, by simp, hws.mono (by omega), rfl⟩, fun _ _ _ _ _ => trivial, fun i x acc M' hx w' => ?_, fun acc M' w' => ?_⟩
    · obtain ⟨cs, vs, rfl, rfl, hcs, hv, rfl⟩ := w'
      have hib := (List.getElem?_eq_some_iff.mp hx).1
      rw [rngD_ints, List.length_map, rngI_length] at hib
      refine ⟨p, vs, 12, _, rfl, Mp.set_same, hv, by omega, by omega, by omega, fun a ys2 ha0 ha1 hy2 => ?_⟩
      rw [Mp.set_set]
      simp only [sRet, sRetN, sIf, sDrop, sNever, sNext, sBreak, sCont, sAsg, sPar, sPar3, sAug, dName, dNil, dCons, dTup, dSub, sSetL, wVar, wC, wFrz, wFrzK, wOp, wAdd, nAdd, nI, nI0, wMul, nMul, wNeg, wEq, nEq, wIsN, wB, wAndT, wOrT, wNotT, wAndV, wOrV, wNotV, wIfE, wChain, aNil, aCons, aStar, wLst, wTup, wIx, nIx, pNo, pSo, wSl, wRev, wRevE, mIndex, wLenSet, cRepr, wIsB, wCB, cLen, cAll, cSum, cMax, cMin, cSorted, cInt, cList, cTuple, cIsi, wBits, wLRg, wBM, wBM0, mChg, wDGet, wDIn, wDNew, sDPutD, wIn, nIn, wCall, wCallK, wNew, tYesD, startD, List.map_cons, List.map_nil, List.length_cons, List.length_nil, List.replicate, Nat.sub_self, List.append_nil, List.cons_append, List.nil_append, List.getElem?_cons_zero, List.getElem?_cons_succ, List.set_cons_zero, List.set_cons_succ, Nat.reduceSub, Nat.reduceAdd, ite_true, ite_false, if_true, if_false, Bool.false_eq_true, Bool.true_eq_false, Bool.not_true, Bool.not_false, Option.some.injEq, nrm_non, nrm_bl, nrm_int, nrm_str, nrm_ty, nrm_lst, nrm_tupC, nrm_dct, nrm_scr, nrm_setL, wFgt, tyN_non, tyN_bl, tyN_int, tyN_str, tyN_lst, tyN_tup, tyN_dct, keyD_int, keyD_str, isA, okT, beq_self_eq_true, String.reduceBEq, Bool.or_false, Bool.or_true, Bool.and_false, Bool.and_true, Bool.true_or, Bool.false_or, Bool.true_and, Bool.false_and, true_and, and_true, List.any_cons, List.any_nil, tyNames, Option.map_some, iRn1, iRn2, iRn3, iLst, nIt, iTp, iEn, iZp, iSt, wipeD, atI0, atI1, atI2, atI3, ixN0, ixN1, ixN2, ixN3, wSub, wLt, wLe, wGt, wGe, wDiv, wMod, wPow, wShl, Mp.set_same, Mp.set_set, cSortedA, cDictP, wNewD, wEqS, nEqS, wFrzT, mExt, mCnt, nIxL, sAugS, wSlS, wJoin, cSumL, dUnl, cSortLL, cMinLL, wLenSetT, wLenDictT, mIndexB, wLenSetJ, wAddT, wSortSet, wDNewT, sDPutT, cSortDT, wBMd, wDGet1, wDGet2, mUpd, wPairs, wDisp, wLtS, cMinS, cListD, cGcd, cAbs]
      refine ⟨cs ++ [1 + a], ys2, by rw [List.map_append]; rfl, by simp, fun k hk => ?_, hy2.mono (by omega), rfl⟩
      rcases List.mem_append.mp hk with h | h
      · exact hcs k h
      · rw [List.mem_singleton.mp h]; omega
    · obtain ⟨cs, vs, rfl, hcl, hcs, hv, rfl⟩ := w'
      rw [rngD_ints, List.length_map, rngI_length] at hcl hv
      exact hnx _ _ ⟨cs, vs, rfl, fun e => by subst e; simp at hcl; omega, by omega, hcs, hv.mono (by omega), rfl⟩
  obtain ⟨vs, ys, rfl, hv0, hvl, hvb, hy, rfl⟩ := w
  ((try simp only [sSeq]); simp only [sRet, sRetN, sIf, sDrop, sNever, sNext, sBreak, sCont, sAsg, sPar, sPar3, sAug, dName, dNil, dCons, dTup, dSub, sSetL, wVar, wC, wFrz, wFrzK, wOp, wAdd, nAdd, nI, nI0, wMul, nMul, wNeg, wEq, nEq, wIsN, wB, wAndT, wOrT, wNotT, wAndV, wOrV, wNotV, wIfE, wChain, aNil, aCons, aStar, wLst, wTup, wIx, nIx, pNo, pSo, wSl, wRev, wRevE, mIndex, wLenSet, cRepr, wIsB, wCB, cLen, cAll, cSum, cMax, cMin, cSorted, cInt, cList, cTuple, cIsi, wBits, wLRg, wBM, wBM0, mChg, wDGet, wDIn, wDNew, sDPutD, wIn, nIn, wCall, wCallK, wNew, tYesD, startD, List.map_cons, List.map_nil, List.length_cons, List.length_nil, List.replicate, Nat.sub_self, List.append_nil, List.cons_append, List.nil_append, List.getElem?_cons_zero, List.getElem?_cons_succ, List.set_cons_zero, List.set_cons_succ, Nat.reduceSub, Nat.reduceAdd, ite_true, ite_false, if_true, if_false, Bool.false_eq_true, Bool.true_eq_false, Bool.not_true, Bool.not_false, Option.some.injEq, nrm_non, nrm_bl, nrm_int, nrm_str, nrm_ty, nrm_lst, nrm_tupC, nrm_dct, nrm_scr, nrm_setL, wFgt, tyN_non, tyN_bl, tyN_int, tyN_str, tyN_lst, tyN_tup, tyN_dct, keyD_int, keyD_str, isA, okT, beq_self_eq_true, String.reduceBEq, Bool.or_false, Bool.or_true, Bool.and_false, Bool.and_true, Bool.true_or, Bool.false_or, Bool.true_and, Bool.false_and, true_and, and_true, List.any_cons, List.any_nil, tyNames, Option.map_some, iRn1, iRn2, iRn3, iLst, nIt, iTp, iEn, iZp, iSt, wipeD, atI0, atI1, atI2, atI3, ixN0, ixN1, ixN2, ixN3, wSub, wLt, wLe, wGt, wGe, wDiv, wMod, wPow, wShl, Mp.set_same, Mp.set_set, cSortedA, cDictP, wNewD, wEqS, nEqS, wFrzT, mExt, mCnt, nIxL, sAugS, wSlS, wJoin, cSumL, dUnl, cSortLL, cMinLL, wLenSetT, wLenDictT, mIndexB, wLenSetJ, wAddT, wSortSet, wDNewT, sDPutT, cSortDT, wBMd, wDGet1, wDGet2, mUpd, wPairs, wDisp, wLtS, cMinS, cListD, cGcd, cAbs])
  refine ⟨⟨⟨by omega, by omega⟩, (by first | omega | (unfold Sz; omega) | (simp only [List.length_map, List.length_append, List.length_cons, List.length_nil, rngI_length, List.length_take, List.length_drop, List.length_reverse]; unfold Sz; omega))⟩, p, ys, _, _, rngI 0 1 60, rfl, Mp.set_same, hy, by omega, nofun, by rw [nrm_lst, rngD_ints]; rfl, by rw [rngI_length]; omega, fun zs ys2 hz hy2 => ?_⟩
  rw [rngI_length] at hy2
  refine ⟨p, ys2, 30, _, rfl, Mp.set_same, hy2, by omega, by omega, by omega, fun c ys3 hc0 hc1 hy3 => ?_⟩
  obtain ⟨c, rfl⟩ := Int.eq_ofNat_of_zero_le hc0
  have ct : cutD (zs.map D.int) none (some (c : Int)) = (zs.take c).map D.int := by rw [cut_take (by omega), Int.toNat_natCast, List.map_take]
  have hzl := hz.length_eq
  rw [rngI_length] at hzl
  have hpk0 : PackOk (rngI 0 1 60) := ⟨fun k hk => (mem_rngI.mp hk).1, rngI_nodup, by rw [rngI_length]; decide⟩
  have hpk : PackOk (zs.take c) := packOk_sub (packOk_perm hpk0 hz) (List.take_sublist _ _)
  have hnb : ∀ k ∈ zs.take c, 0 ≤ k ∧ k < 60 := fun k hk => mem_rngI.mp (hz.mem_iff.mp (List.mem_of_mem_take hk))
  have hnl : (zs.take c).length ≤ 30 := by rw [List.length_take]; omega
  rw [Mp.set_set, Mp.set_set]
  simp only [sRet, sRetN, sIf, sDrop, sNever, sNext, sBreak, sCont, sAsg, sPar, sPar3, sAug, dName, dNil, dCons, dTup, dSub, sSetL, wVar, wC, wFrz, wFrzK, wOp, wAdd, nAdd, nI, nI0, wMul, nMul, wNeg, wEq, nEq, wIsN, wB, wAndT, wOrT, wNotT, wAndV, wOrV, wNotV, wIfE, wChain, aNil, aCons, aStar, wLst, wTup, wIx, nIx, pNo, pSo, wSl, wRev, wRevE, mIndex, wLenSet, cRepr, wIsB, wCB, cLen, cAll, cSum, cMax, cMin, cSorted, cInt, cList, cTuple, cIsi, wBits, wLRg, wBM, wBM0, mChg, wDGet, wDIn, wDNew, sDPutD, wIn, nIn, wCall, wCallK, wNew, tYesD, startD, List.map_cons, List.map_nil, List.length_cons, List.length_nil, List.replicate, Nat.sub_self, List.append_nil, List.cons_append, List.nil_append, List.getElem?_cons_zero, List.getElem?_cons_succ, List.set_cons_zero, List.set_cons_succ, Nat.reduceSub, Nat.reduceAdd, ite_true, ite_false, if_true, if_false, Bool.false_eq_true, Bool.true_eq_false, Bool.not_true, Bool.not_false, Option.some.injEq, nrm_non, nrm_bl, nrm_int, nrm_str, nrm_ty, nrm_lst, nrm_tupC, nrm_dct, nrm_scr, nrm_setL, wFgt, tyN_non, tyN_bl, tyN_int, tyN_str, tyN_lst, tyN_tup, tyN_dct, keyD_int, keyD_str, isA, okT, beq_self_eq_true, String.reduceBEq, Bool.or_false, Bool.or_true, Bool.and_false, Bool.and_true, Bool.true_or, Bool.false_or, Bool.true_and, Bool.false_and, true_and, and_true, List.any_cons, List.any_nil, tyNames, Option.map_some, iRn1, iRn2, iRn3, iLst, nIt, iTp, iEn, iZp, iSt, wipeD, atI0, atI1, atI2, atI3, ixN0, ixN1, ixN2, ixN3, wSub, wLt, wLe, wGt, wGe, wDiv, wMod, wPow, wShl, Mp.set_same, Mp.set_set, cSortedA, cDictP, wNewD, wEqS, nEqS, wFrzT, mExt, mCnt, nIxL, sAugS, wSlS, wJoin, cSumL, dUnl, cSortLL, cMinLL, wLenSetT, wLenDictT, mIndexB, wLenSetJ, wAddT, wSortSet, wDNewT, sDPutT, cSortDT, wBMd, wDGet1, wDGet2, mUpd, wPairs, wDisp, wLtS, cMinS, cListD, cGcd, cAbs, ct]
  generalize zs.take c = ns at hpk hnb hnl
  have hro : repOk (.lst [.lst (ns.map .int), .lst (vs.map .int)]) = true := by
    refine repOk_of (n := 2) ?_ (by decide) ?_
    · simp only [sml, smls, Bool.and_true, Bool.and_eq_true]
      exact ⟨smls_ints fun z hz => by have := hnb z hz; omega, smls_ints fun z hz => by have := hvb z hz; omega⟩
    · simp only [cst, csts, csts_ints]; omega
  have hvp : 0 < vs.length := List.length_pos_iff.mpr hv0
  ((try simp only [sSeq]); simp only [sRet, sRetN, sIf, sDrop, sNever, sNext, sBreak, sCont, sAsg, sPar, sPar3, sAug, dName, dNil, dCons, dTup, dSub, sSetL, wVar, wC, wFrz, wFrzK, wOp, wAdd, nAdd, nI, nI0, wMul, nMul, wNeg, wEq, nEq, wIsN, wB, wAndT, wOrT, wNotT, wAndV, wOrV, wNotV, wIfE, wChain, aNil, aCons, aStar, wLst, wTup, wIx, nIx, pNo, pSo, wSl, wRev, wRevE, mIndex, wLenSet, cRepr, wIsB, wCB, cLen, cAll, cSum, cMax, cMin, cSorted, cInt, cList, cTuple, cIsi, wBits, wLRg, wBM, wBM0, mChg, wDGet, wDIn, wDNew, sDPutD, wIn, nIn, wCall, wCallK, wNew, tYesD, startD, List.map_cons, List.map_nil, List.length_cons, List.length_nil, List.replicate, Nat.sub_self, List.append_nil, List.cons_append, List.nil_append, List.getElem?_cons_zero, List.getElem?_cons_succ, List.set_cons_zero, List.set_cons_succ, Nat.reduceSub, Nat.reduceAdd, ite_true, ite_false, if_true, if_false, Bool.false_eq_true, Bool.true_eq_false, Bool.not_true, Bool.not_false, Option.some.injEq, nrm_non, nrm_bl, nrm_int, nrm_str, nrm_ty, nrm_lst, nrm_tupC, nrm_dct, nrm_scr, nrm_setL, wFgt, tyN_non, tyN_bl, tyN_int, tyN_str, tyN_lst, tyN_tup, tyN_dct, keyD_int, keyD_str, isA, okT, beq_self_eq_true, String.reduceBEq, Bool.or_false, Bool.or_true, Bool.and_false, Bool.and_true, Bool.true_or, Bool.false_or, Bool.true_and, Bool.false_and, true_and, and_true, List.any_cons, List.any_nil, tyNames, Option.map_some, iRn1, iRn2, iRn3, iLst, nIt, iTp, iEn, iZp, iSt, wipeD, atI0, atI1, atI2, atI3, ixN0, ixN1, ixN2, ixN3, wSub, wLt, wLe, wGt, wGe, wDiv, wMod, wPow, wShl, Mp.set_same, Mp.set_set, cSortedA, cDictP, wNewD, wEqS, nEqS, wFrzT, mExt, mCnt, nIxL, sAugS, wSlS, wJoin, cSumL, dUnl, cSortLL, cMinLL, wLenSetT, wLenDictT, mIndexB, wLenSetJ, wAddT, wSortSet, wDNewT, sDPutT, cSortDT, wBMd, wDGet1, wDGet2, mUpd, wPairs, wDisp, wLtS, cMinS, cListD, cGcd, cAbs, hro])
  refine ⟨s8 2 (by omega), ?_⟩
  refine lc_ints (ns := ns) (P := fun _ => True) (fun c => vs.getD (c % (vs.length : Int)).toNat 0) (fun R h => by simp only [sSeq, sRet, sRetN, sIf, sDrop, sNever, sNext, sBreak, sCont, sAsg, sPar, sPar3, sAug, dName, dNil, dCons, dTup, dSub, sSetL, wVar, wC, wFrz, wFrzK, wOp, wAdd, nAdd, nI, nI0, wMul, nMul, wNeg, wEq, nEq, wIsN, wB, wAndT, wOrT, wNotT, wAndV, wOrV, wNotV, wIfE, wChain, aNil, aCons, aStar, wLst, wTup, wIx, nIx, pNo, pSo, wSl, wRev, wRevE, mIndex, wLenSet, cRepr, wIsB, wCB, cLen, cAll, cSum, cMax, cMin, cSorted, cInt, cList, cTuple, cIsi, wBits, wLRg, wBM, wBM0, mChg, wDGet, wDIn, wDNew, sDPutD, wIn, nIn, wCall, wCallK, wNew, tYesD, startD, List.map_cons, List.map_nil, List.length_cons, List.length_nil, List.replicate, Nat.sub_self, List.append_nil, List.cons_append, List.nil_append, List.getElem?_cons_zero, List.getElem?_cons_succ, List.set_cons_zero, List.set_cons_succ, Nat.reduceSub, Nat.reduceAdd, ite_true, ite_false, if_true, if_false, Bool.false_eq_true, Bool.true_eq_false, Bool.not_true, Bool.not_false, Option.some.injEq, nrm_non, nrm_bl, nrm_int, nrm_str, nrm_ty, nrm_lst, nrm_tupC, nrm_dct, nrm_scr, nrm_setL, wFgt, tyN_non, tyN_bl, tyN_int, tyN_str, tyN_lst, tyN_tup, tyN_dct, keyD_int, keyD_str, isA, okT, beq_self_eq_true, String.reduceBEq, Bool.or_false, Bool.or_true, Bool.and_false, Bool.and_true, Bool.true_or, Bool.false_or, Bool.true_and, Bool.false_and, true_and, and_true, List.any_cons, List.any_nil, tyNames, Option.map_some, iRn1, iRn2, iRn3, iLst, nIt, iTp, iEn, iZp, iSt, wipeD, atI0, atI1, atI2, atI3, ixN0, ixN1, ixN2, ixN3, wSub, wLt, wLe, wGt, wGe, wDiv, wMod, wPow, wShl, Mp.set_same, Mp.set_set, cSortedA, cDictP, wNewD, wEqS, nEqS, wFrzT, mExt, mCnt, nIxL, sAugS, wSlS, wJoin, cSumL, dUnl, cSortLL, cMinLL, wLenSetT, wLenDictT, mIndexB, wLenSetJ, wAddT, wSortSet, wDNewT, sDPutT, cSortDT, wBMd, wDGet1, wDGet2, mUpd, wPairs, wDisp, wLtS, cMinS, cListD, cGcd, cAbs]; exact h) trivial (by unfold Sz; omega) (fun c hc C h => ?_) ?_
  · have m0 := Int.emod_nonneg c (show (vs.length : Int) ≠ 0 by omega)
    have m1 := Int.emod_lt_of_pos c (show (0 : Int) < (vs.length : Int) by omega)
    simp only [sSeq, sRet, sRetN, sIf, sDrop, sNever, sNext, sBreak, sCont, sAsg, sPar, sPar3, sAug, dName, dNil, dCons, dTup, dSub, sSetL, wVar, wC, wFrz, wFrzK, wOp, wAdd, nAdd, nI, nI0, wMul, nMul, wNeg, wEq, nEq, wIsN, wB, wAndT, wOrT, wNotT, wAndV, wOrV, wNotV, wIfE, wChain, aNil, aCons, aStar, wLst, wTup, wIx, nIx, pNo, pSo, wSl, wRev, wRevE, mIndex, wLenSet, cRepr, wIsB, wCB, cLen, cAll, cSum, cMax, cMin, cSorted, cInt, cList, cTuple, cIsi, wBits, wLRg, wBM, wBM0, mChg, wDGet, wDIn, wDNew, sDPutD, wIn, nIn, wCall, wCallK, wNew, tYesD, startD, List.map_cons, List.map_nil, List.length_cons, List.length_nil, List.replicate, Nat.sub_self, List.append_nil, List.cons_append, List.nil_append, List.getElem?_cons_zero, List.getElem?_cons_succ, List.set_cons_zero, List.set_cons_succ, Nat.reduceSub, Nat.reduceAdd, ite_true, ite_false, if_true, if_false, Bool.false_eq_true, Bool.true_eq_false, Bool.not_true, Bool.not_false, Option.some.injEq, nrm_non, nrm_bl, nrm_int, nrm_str, nrm_ty, nrm_lst, nrm_tupC, nrm_dct, nrm_scr, nrm_setL, wFgt, tyN_non, tyN_bl, tyN_int, tyN_str, tyN_lst, tyN_tup, tyN_dct, keyD_int, keyD_str, isA, okT, beq_self_eq_true, String.reduceBEq, Bool.or_false, Bool.or_true, Bool.and_false, Bool.and_true, Bool.true_or, Bool.false_or, Bool.true_and, Bool.false_and, true_and, and_true, List.any_cons, List.any_nil, tyNames, Option.map_some, iRn1, iRn2, iRn3, iLst, nIt, iTp, iEn, iZp, iSt, wipeD, atI0, atI1, atI2, atI3, ixN0, ixN1, ixN2, ixN3, wSub, wLt, wLe, wGt, wGe, wDiv, wMod, wPow, wShl, Mp.set_same, Mp.set_set, cSortedA, cDictP, wNewD, wEqS, nEqS, wFrzT, mExt, mCnt, nIxL, sAugS, wSlS, wJoin, cSumL, dUnl, cSortLL, cMinLL, wLenSetT, wLenDictT, mIndexB, wLenSetJ, wAddT, wSortSet, wDNewT, sDPutT, cSortDT, wBMd, wDGet1, wDGet2, mUpd, wPairs, wDisp, wLtS, cMinS, cListD, cGcd, cAbs, List.length_map, atI_int m0 m1]
    exact ⟨by omega, h⟩
  have hcp : (ns.map fun c => vs.getD (c % (vs.length : Int)).toNat 0) = cpI ns vs := rfl
  rw [hcp]
  have hcl : (cpI ns vs).length = ns.length := by unfold cpI; rw [List.length_map]
  generalize hM1 : M.set p (.lst ys3) = M1
  have call : ∀ (M2 : Mp) (Q2 : DK), (∀ a, M2 a = none → Q2 (.ref a) (M2.set a (.lst ((cpI ns vs).map .int)))) → R_counts_of_pack [.lst (ns.map .int), .lst (vs.map .int)] M2 Q2 := fun M2 Q2 h => ⟨_, _, ns, vs, rfl, rfl, hpk, by omega, rfl, fun k hk => (hvb k hk).1, hv0, by omega, h⟩
  simp only [sRet, sRetN, sIf, sDrop, sNever, sNext, sBreak, sCont, sAsg, sPar, sPar3, sAug, dName, dNil, dCons, dTup, dSub, sSetL, wVar, wC, wFrz, wFrzK, wOp, wAdd, nAdd, nI, nI0, wMul, nMul, wNeg, wEq, nEq, wIsN, wB, wAndT, wOrT, wNotT, wAndV, wOrV, wNotV, wIfE, wChain, aNil, aCons, aStar, wLst, wTup, wIx, nIx, pNo, pSo, wSl, wRev, wRevE, mIndex, wLenSet, cRepr, wIsB, wCB, cLen, cAll, cSum, cMax, cMin, cSorted, cInt, cList, cTuple, cIsi, wBits, wLRg, wBM, wBM0, mChg, wDGet, wDIn, wDNew, sDPutD, wIn, nIn, wCall, wCallK, wNew, tYesD, startD, List.map_cons, List.map_nil, List.length_cons, List.length_nil, List.replicate, Nat.sub_self, List.append_nil, List.cons_append, List.nil_append, List.getElem?_cons_zero, List.getElem?_cons_succ, List.set_cons_zero, List.set_cons_succ, Nat.reduceSub, Nat.reduceAdd, ite_true, ite_false, if_true, if_false, Bool.false_eq_true, Bool.true_eq_false, Bool.not_true, Bool.not_false, Option.some.injEq, nrm_non, nrm_bl, nrm_int, nrm_str, nrm_ty, nrm_lst, nrm_tupC, nrm_dct, nrm_scr, nrm_setL, wFgt, tyN_non, tyN_bl, tyN_int, tyN_str, tyN_lst, tyN_tup, tyN_dct, keyD_int, keyD_str, isA, okT, beq_self_eq_true, String.reduceBEq, Bool.or_false, Bool.or_true, Bool.and_false, Bool.and_true, Bool.true_or, Bool.false_or, Bool.true_and, Bool.false_and, true_and, and_true, List.any_cons, List.any_nil, tyNames, Option.map_some, iRn1, iRn2, iRn3, iLst, nIt, iTp, iEn, iZp, iSt, wipeD, atI0, atI1, atI2, atI3, ixN0, ixN1, ixN2, ixN3, wSub, wLt, wLe, wGt, wGe, wDiv, wMod, wPow, wShl, Mp.set_same, Mp.set_set, cSortedA, cDictP, wNewD, wEqS, nEqS, wFrzT, mExt, mCnt, nIxL, sAugS, wSlS, wJoin, cSumL, dUnl, cSortLL, cMinLL, wLenSetT, wLenDictT, mIndexB, wLenSetJ, wAddT, wSortSet, wDNewT, sDPutT, cSortDT, wBMd, wDGet1, wDGet2, mUpd, wPairs, wDisp, wLtS, cMinS, cListD, cGcd, cAbs]
  ((try simp only [sSeq]); simp only [sRet, sRetN, sIf, sDrop, sNever, sNext, sBreak, sCont, sAsg, sPar, sPar3, sAug, dName, dNil, dCons, dTup, dSub, sSetL, wVar, wC, wFrz, wFrzK, wOp, wAdd, nAdd, nI, nI0, wMul, nMul, wNeg, wEq, nEq, wIsN, wB, wAndT, wOrT, wNotT, wAndV, wOrV, wNotV, wIfE, wChain, aNil, aCons, aStar, wLst, wTup, wIx, nIx, pNo, pSo, wSl, wRev, wRevE, mIndex, wLenSet, cRepr, wIsB, wCB, cLen, cAll, cSum, cMax, cMin, cSorted, cInt, cList, cTuple, cIsi, wBits, wLRg, wBM, wBM0, mChg, wDGet, wDIn, wDNew, sDPutD, wIn, nIn, wCall, wCallK, wNew, tYesD, startD, List.map_cons, List.map_nil, List.length_cons, List.length_nil, List.replicate, Nat.sub_self, List.append_nil, List.cons_append, List.nil_append, List.getElem?_cons_zero, List.getElem?_cons_succ, List.set_cons_zero, List.set_cons_succ, Nat.reduceSub, Nat.reduceAdd, ite_true, ite_false, if_true, if_false, Bool.false_eq_true, Bool.true_eq_false, Bool.not_true, Bool.not_false, Option.some.injEq, nrm_non, nrm_bl, nrm_int, nrm_str, nrm_ty, nrm_lst, nrm_tupC, nrm_dct, nrm_scr, nrm_setL, wFgt, tyN_non, tyN_bl, tyN_int, tyN_str, tyN_lst, tyN_tup, tyN_dct, keyD_int, keyD_str, isA, okT, beq_self_eq_true, String.reduceBEq, Bool.or_false, Bool.or_true, Bool.and_false, Bool.and_true, Bool.true_or, Bool.false_or, Bool.true_and, Bool.false_and, true_and, and_true, List.any_cons, List.any_nil, tyNames, Option.map_some, iRn1, iRn2, iRn3, iLst, nIt, iTp, iEn, iZp, iSt, wipeD, atI0, atI1, atI2, atI3, ixN0, ixN1, ixN2, ixN3, wSub, wLt, wLe, wGt, wGe, wDiv, wMod, wPow, wShl, Mp.set_same, Mp.set_set, cSortedA, cDictP, wNewD, wEqS, nEqS, wFrzT, mExt, mCnt, nIxL, sAugS, wSlS, wJoin, cSumL, dUnl, cSortLL, cMinLL, wLenSetT, wLenDictT, mIndexB, wLenSetJ, wAddT, wSortSet, wDNewT, sDPutT, cSortDT, wBMd, wDGet1, wDGet2, mUpd, wPairs, wDisp, wLtS, cMinS, cListD, cGcd, cAbs])
  refine call _ _ fun a ha => ?_
  simp only [sRet, sRetN, sIf, sDrop, sNever, sNext, sBreak, sCont, sAsg, sPar, sPar3, sAug, dName, dNil, dCons, dTup, dSub, sSetL, wVar, wC, wFrz, wFrzK, wOp, wAdd, nAdd, nI, nI0, wMul, nMul, wNeg, wEq, nEq, wIsN, wB, wAndT, wOrT, wNotT, wAndV, wOrV, wNotV, wIfE, wChain, aNil, aCons, aStar, wLst, wTup, wIx, nIx, pNo, pSo, wSl, wRev, wRevE, mIndex, wLenSet, cRepr, wIsB, wCB, cLen, cAll, cSum, cMax, cMin, cSorted, cInt, cList, cTuple, cIsi, wBits, wLRg, wBM, wBM0, mChg, wDGet, wDIn, wDNew, sDPutD, wIn, nIn, wCall, wCallK, wNew, tYesD, startD, List.map_cons, List.map_nil, List.length_cons, List.length_nil, List.replicate, Nat.sub_self, List.append_nil, List.cons_append, List.nil_append, List.getElem?_cons_zero, List.getElem?_cons_succ, List.set_cons_zero, List.set_cons_succ, Nat.reduceSub, Nat.reduceAdd, ite_true, ite_false, if_true, if_false, Bool.false_eq_true, Bool.true_eq_false, Bool.not_true, Bool.not_false, Option.some.injEq, nrm_non, nrm_bl, nrm_int, nrm_str, nrm_ty, nrm_lst, nrm_tupC, nrm_dct, nrm_scr, nrm_setL, wFgt, tyN_non, tyN_bl, tyN_int, tyN_str, tyN_lst, tyN_tup, tyN_dct, keyD_int, keyD_str, isA, okT, beq_self_eq_true, String.reduceBEq, Bool.or_false, Bool.or_true, Bool.and_false, Bool.and_true, Bool.true_or, Bool.false_or, Bool.true_and, Bool.false_and, true_and, and_true, List.any_cons, List.any_nil, tyNames, Option.map_some, iRn1, iRn2, iRn3, iLst, nIt, iTp, iEn, iZp, iSt, wipeD, atI0, atI1, atI2, atI3, ixN0, ixN1, ixN2, ixN3, wSub, wLt, wLe, wGt, wGe, wDiv, wMod, wPow, wShl, Mp.set_same, Mp.set_set, cSortedA, cDictP, wNewD, wEqS, nEqS, wFrzT, mExt, mCnt, nIxL, sAugS, wSlS, wJoin, cSumL, dUnl, cSortLL, cMinLL, wLenSetT, wLenDictT, mIndexB, wLenSetJ, wAddT, wSortSet, wDNewT, sDPutT, cSortDT, wBMd, wDGet1, wDGet2, mUpd, wPairs, wDisp, wLtS, cMinS, cListD, cGcd, cAbs, pick]
  refine call _ _ fun b hb => ?_
  have hab : a ≠ b := fun e => by subst e; rw [Mp.set_same] at hb; cases hb
  have hMb : ((M1.set a (.lst ((cpI ns vs).map .int))).set b (.lst ((cpI ns vs).map .int))) b = some (.lst ((cpI ns vs).map .int)) := Mp.set_same
  have hMa : ((M1.set a (.lst ((cpI ns vs).map .int))).set b (.lst ((cpI ns vs).map .int))) a = some (.lst ((cpI ns vs).map .int)) := by rw [Mp.set_ne hab, Mp.set_same]
  have hb0 : M1 b = none := by rwa [Mp.set_ne hab.symm] at hb
  have hle : MLe M1 ((M1.set a (.lst ((cpI ns vs).map .int))).set b (.lst ((cpI ns vs).map .int))) := ((MLe.refl M1).put ha).put hb0
  generalize (M1.set a (.lst ((cpI ns vs).map .int))).set b (.lst ((cpI ns vs).map .int)) = M2 at hMa hMb hle
  have okU : okD 7 (.lst ((cpI ns vs).map .int)) = true := okD_ints (by omega)
  refine ⟨s8 2 (by omega), ?_⟩
  ((try simp only [sSeq]); simp only [sRet, sRetN, sIf, sDrop, sNever, sNext, sBreak, sCont, sAsg, sPar, sPar3, sAug, dName, dNil, dCons, dTup, dSub, sSetL, wVar, wC, wFrz, wFrzK, wOp, wAdd, nAdd, nI, nI0, wMul, nMul, wNeg, wEq, nEq, wIsN, wB, wAndT, wOrT, wNotT, wAndV, wOrV, wNotV, wIfE, wChain, aNil, aCons, aStar, wLst, wTup, wIx, nIx, pNo, pSo, wSl, wRev, wRevE, mIndex, wLenSet, cRepr, wIsB, wCB, cLen, cAll, cSum, cMax, cMin, cSorted, cInt, cList, cTuple, cIsi, wBits, wLRg, wBM, wBM0, mChg, wDGet, wDIn, wDNew, sDPutD, wIn, nIn, wCall, wCallK, wNew, tYesD, startD, List.map_cons, List.map_nil, List.length_cons, List.length_nil, List.replicate, Nat.sub_self, List.append_nil, List.cons_append, List.nil_append, List.getElem?_cons_zero, List.getElem?_cons_succ, List.set_cons_zero, List.set_cons_succ, Nat.reduceSub, Nat.reduceAdd, ite_true, ite_false, if_true, if_false, Bool.false_eq_true, Bool.true_eq_false, Bool.not_true, Bool.not_false, Option.some.injEq, nrm_non, nrm_bl, nrm_int, nrm_str, nrm_ty, nrm_lst, nrm_tupC, nrm_dct, nrm_scr, nrm_setL, wFgt, tyN_non, tyN_bl, tyN_int, tyN_str, tyN_lst, tyN_tup, tyN_dct, keyD_int, keyD_str, isA, okT, beq_self_eq_true, String.reduceBEq, Bool.or_false, Bool.or_true, Bool.and_false, Bool.and_true, Bool.true_or, Bool.false_or, Bool.true_and, Bool.false_and, true_and, and_true, List.any_cons, List.any_nil, tyNames, Option.map_some, iRn1, iRn2, iRn3, iLst, nIt, iTp, iEn, iZp, iSt, wipeD, atI0, atI1, atI2, atI3, ixN0, ixN1, ixN2, ixN3, wSub, wLt, wLe, wGt, wGe, wDiv, wMod, wPow, wShl, Mp.set_same, Mp.set_set, cSortedA, cDictP, wNewD, wEqS, nEqS, wFrzT, mExt, mCnt, nIxL, sAugS, wSlS, wJoin, cSumL, dUnl, cSortLL, cMinLL, wLenSetT, wLenDictT, mIndexB, wLenSetJ, wAddT, wSortSet, wDNewT, sDPutT, cSortDT, wBMd, wDGet1, wDGet2, mUpd, wPairs, wDisp, wLtS, cMinS, cListD, cGcd, cAbs])
  refine ⟨[some (.ref p), some (.lst (vs.map .int)), some (.lst (ns.map .int)), some (.str (toPD (.lst [.lst (ns.map .int), .lst (vs.map .int)])).shown), some (.lst ((cpI ns vs).map .int)), some (.lst [.lst ((cpI ns vs).map .int), .lst ((cpI ns vs).map .int)]), none, none], .skip (.skip (.skip (.skip (.skip (.cons (.lst (.cons (.ref hMa (.same _)) (.cons (.ref hMb (.same _)) (.same _)))) (.same _)))))), ?_⟩
  simp only [sRet, sRetN, sIf, sDrop, sNever, sNext, sBreak, sCont, sAsg, sPar, sPar3, sAug, dName, dNil, dCons, dTup, dSub, sSetL, wVar, wC, wFrz, wFrzK, wOp, wAdd, nAdd, nI, nI0, wMul, nMul, wNeg, wEq, nEq, wIsN, wB, wAndT, wOrT, wNotT, wAndV, wOrV, wNotV, wIfE, wChain, aNil, aCons, aStar, wLst, wTup, wIx, nIx, pNo, pSo, wSl, wRev, wRevE, mIndex, wLenSet, cRepr, wIsB, wCB, cLen, cAll, cSum, cMax, cMin, cSorted, cInt, cList, cTuple, cIsi, wBits, wLRg, wBM, wBM0, mChg, wDGet, wDIn, wDNew, sDPutD, wIn, nIn, wCall, wCallK, wNew, tYesD, startD, List.map_cons, List.map_nil, List.length_cons, List.length_nil, List.replicate, Nat.sub_self, List.append_nil, List.cons_append, List.nil_append, List.getElem?_cons_zero, List.getElem?_cons_succ, List.set_cons_zero, List.set_cons_succ, Nat.reduceSub, Nat.reduceAdd, ite_true, ite_false, if_true, if_false, Bool.false_eq_true, Bool.true_eq_false, Bool.not_true, Bool.not_false, Option.some.injEq, nrm_non, nrm_bl, nrm_int, nrm_str, nrm_ty, nrm_lst, nrm_tupC, nrm_dct, nrm_scr, nrm_setL, wFgt, tyN_non, tyN_bl, tyN_int, tyN_str, tyN_lst, tyN_tup, tyN_dct, keyD_int, keyD_str, isA, okT, beq_self_eq_true, String.reduceBEq, Bool.or_false, Bool.or_true, Bool.and_false, Bool.and_true, Bool.true_or, Bool.false_or, Bool.true_and, Bool.false_and, true_and, and_true, List.any_cons, List.any_nil, tyNames, Option.map_some, iRn1, iRn2, iRn3, iLst, nIt, iTp, iEn, iZp, iSt, wipeD, atI0, atI1, atI2, atI3, ixN0, ixN1, ixN2, ixN3, wSub, wLt, wLe, wGt, wGe, wDiv, wMod, wPow, wShl, Mp.set_same, Mp.set_set, cSortedA, cDictP, wNewD, wEqS, nEqS, wFrzT, mExt, mCnt, nIxL, sAugS, wSlS, wJoin, cSumL, dUnl, cSortLL, cMinLL, wLenSetT, wLenDictT, mIndexB, wLenSetJ, wAddT, wSortSet, wDNewT, sDPutT, cSortDT, wBMd, wDGet1, wDGet2, mUpd, wPairs, wDisp, wLtS, cMinS, cListD, cGcd, cAbs]
  refine ⟨s8 2 (by omega), _, rfl, okD_L (by simp) (okDs_cons okU (okDs_cons okU okDs_nil)), ?_⟩
  simp only [sRet, sRetN, sIf, sDrop, sNever, sNext, sBreak, sCont, sAsg, sPar, sPar3, sAug, dName, dNil, dCons, dTup, dSub, sSetL, wVar, wC, wFrz, wFrzK, wOp, wAdd, nAdd, nI, nI0, wMul, nMul, wNeg, wEq, nEq, wIsN, wB, wAndT, wOrT, wNotT, wAndV, wOrV, wNotV, wIfE, wChain, aNil, aCons, aStar, wLst, wTup, wIx, nIx, pNo, pSo, wSl, wRev, wRevE, mIndex, wLenSet, cRepr, wIsB, wCB, cLen, cAll, cSum, cMax, cMin, cSorted, cInt, cList, cTuple, cIsi, wBits, wLRg, wBM, wBM0, mChg, wDGet, wDIn, wDNew, sDPutD, wIn, nIn, wCall, wCallK, wNew, tYesD, startD, List.map_cons, List.map_nil, List.length_cons, List.length_nil, List.replicate, Nat.sub_self, List.append_nil, List.cons_append, List.nil_append, List.getElem?_cons_zero, List.getElem?_cons_succ, List.set_cons_zero, List.set_cons_succ, Nat.reduceSub, Nat.reduceAdd, ite_true, ite_false, if_true, if_false, Bool.false_eq_true, Bool.true_eq_false, Bool.not_true, Bool.not_false, Option.some.injEq, nrm_non, nrm_bl, nrm_int, nrm_str, nrm_ty, nrm_lst, nrm_tupC, nrm_dct, nrm_scr, nrm_setL, wFgt, tyN_non, tyN_bl, tyN_int, tyN_str, tyN_lst, tyN_tup, tyN_dct, keyD_int, keyD_str, isA, okT, beq_self_eq_true, String.reduceBEq, Bool.or_false, Bool.or_true, Bool.and_false, Bool.and_true, Bool.true_or, Bool.false_or, Bool.true_and, Bool.false_and, true_and, and_true, List.any_cons, List.any_nil, tyNames, Option.map_some, iRn1, iRn2, iRn3, iLst, nIt, iTp, iEn, iZp, iSt, wipeD, atI0, atI1, atI2, atI3, ixN0, ixN1, ixN2, ixN3, wSub, wLt, wLe, wGt, wGe, wDiv, wMod, wPow, wShl, Mp.set_same, Mp.set_set, cSortedA, cDictP, wNewD, wEqS, nEqS, wFrzT, mExt, mCnt, nIxL, sAugS, wSlS, wJoin, cSumL, dUnl, cSortLL, cMinLL, wLenSetT, wLenDictT, mIndexB, wLenSetJ, wAddT, wSortSet, wDNewT, sDPutT, cSortDT, wBMd, wDGet1, wDGet2, mUpd, wPairs, wDisp, wLtS, cMinS, cListD, cGcd, cAbs]
  have ga := gAppend_ok (xs := (cpI ns vs).map D.int) (x := .str "more") (by rw [List.length_map]; omega)
  ((try simp only [sSeq]); simp only [sRet, sRetN, sIf, sDrop, sNever, sNext, sBreak, sCont, sAsg, sPar, sPar3, sAug, dName, dNil, dCons, dTup, dSub, sSetL, wVar, wC, wFrz, wFrzK, wOp, wAdd, nAdd, nI, nI0, wMul, nMul, wNeg, wEq, nEq, wIsN, wB, wAndT, wOrT, wNotT, wAndV, wOrV, wNotV, wIfE, wChain, aNil, aCons, aStar, wLst, wTup, wIx, nIx, pNo, pSo, wSl, wRev, wRevE, mIndex, wLenSet, cRepr, wIsB, wCB, cLen, cAll, cSum, cMax, cMin, cSorted, cInt, cList, cTuple, cIsi, wBits, wLRg, wBM, wBM0, mChg, wDGet, wDIn, wDNew, sDPutD, wIn, nIn, wCall, wCallK, wNew, tYesD, startD, List.map_cons, List.map_nil, List.length_cons, List.length_nil, List.replicate, Nat.sub_self, List.append_nil, List.cons_append, List.nil_append, List.getElem?_cons_zero, List.getElem?_cons_succ, List.set_cons_zero, List.set_cons_succ, Nat.reduceSub, Nat.reduceAdd, ite_true, ite_false, if_true, if_false, Bool.false_eq_true, Bool.true_eq_false, Bool.not_true, Bool.not_false, Option.some.injEq, nrm_non, nrm_bl, nrm_int, nrm_str, nrm_ty, nrm_lst, nrm_tupC, nrm_dct, nrm_scr, nrm_setL, wFgt, tyN_non, tyN_bl, tyN_int, tyN_str, tyN_lst, tyN_tup, tyN_dct, keyD_int, keyD_str, isA, okT, beq_self_eq_true, String.reduceBEq, Bool.or_false, Bool.or_true, Bool.and_false, Bool.and_true, Bool.true_or, Bool.false_or, Bool.true_and, Bool.false_and, true_and, and_true, List.any_cons, List.any_nil, tyNames, Option.map_some, iRn1, iRn2, iRn3, iLst, nIt, iTp, iEn, iZp, iSt, wipeD, atI0, atI1, atI2, atI3, ixN0, ixN1, ixN2, ixN3, wSub, wLt, wLe, wGt, wGe, wDiv, wMod, wPow, wShl, Mp.set_same, Mp.set_set, cSortedA, cDictP, wNewD, wEqS, nEqS, wFrzT, mExt, mCnt, nIxL, sAugS, wSlS, wJoin, cSumL, dUnl, cSortLL, cMinLL, wLenSetT, wLenDictT, mIndexB, wLenSetJ, wAddT, wSortSet, wDNewT, sDPutT, cSortDT, wBMd, wDGet1, wDGet2, mUpd, wPairs, wDisp, wLtS, cMinS, cListD, cGcd, cAbs, isL_lst hMa, hMa, ga])
  refine call _ _ fun r1 h1 => frz_new h1 ?_
  refine ⟨_, rfl, okD_ints (by omega), ?_⟩
  simp only [sRet, sRetN, sIf, sDrop, sNever, sNext, sBreak, sCont, sAsg, sPar, sPar3, sAug, dName, dNil, dCons, dTup, dSub, sSetL, wVar, wC, wFrz, wFrzK, wOp, wAdd, nAdd, nI, nI0, wMul, nMul, wNeg, wEq, nEq, wIsN, wB, wAndT, wOrT, wNotT, wAndV, wOrV, wNotV, wIfE, wChain, aNil, aCons, aStar, wLst, wTup, wIx, nIx, pNo, pSo, wSl, wRev, wRevE, mIndex, wLenSet, cRepr, wIsB, wCB, cLen, cAll, cSum, cMax, cMin, cSorted, cInt, cList, cTuple, cIsi, wBits, wLRg, wBM, wBM0, mChg, wDGet, wDIn, wDNew, sDPutD, wIn, nIn, wCall, wCallK, wNew, tYesD, startD, List.map_cons, List.map_nil, List.length_cons, List.length_nil, List.replicate, Nat.sub_self, List.append_nil, List.cons_append, List.nil_append, List.getElem?_cons_zero, List.getElem?_cons_succ, List.set_cons_zero, List.set_cons_succ, Nat.reduceSub, Nat.reduceAdd, ite_true, ite_false, if_true, if_false, Bool.false_eq_true, Bool.true_eq_false, Bool.not_true, Bool.not_false, Option.some.injEq, nrm_non, nrm_bl, nrm_int, nrm_str, nrm_ty, nrm_lst, nrm_tupC, nrm_dct, nrm_scr, nrm_setL, wFgt, tyN_non, tyN_bl, tyN_int, tyN_str, tyN_lst, tyN_tup, tyN_dct, keyD_int, keyD_str, isA, okT, beq_self_eq_true, String.reduceBEq, Bool.or_false, Bool.or_true, Bool.and_false, Bool.and_true, Bool.true_or, Bool.false_or, Bool.true_and, Bool.false_and, true_and, and_true, List.any_cons, List.any_nil, tyNames, Option.map_some, iRn1, iRn2, iRn3, iLst, nIt, iTp, iEn, iZp, iSt, wipeD, atI0, atI1, atI2, atI3, ixN0, ixN1, ixN2, ixN3, wSub, wLt, wLe, wGt, wGe, wDiv, wMod, wPow, wShl, Mp.set_same, Mp.set_set, cSortedA, cDictP, wNewD, wEqS, nEqS, wFrzT, mExt, mCnt, nIxL, sAugS, wSlS, wJoin, cSumL, dUnl, cSortLL, cMinLL, wLenSetT, wLenDictT, mIndexB, wLenSetJ, wAddT, wSortSet, wDNewT, sDPutT, cSortDT, wBMd, wDGet1, wDGet2, mUpd, wPairs, wDisp, wLtS, cMinS, cListD, cGcd, cAbs, hro, decide_true]
  exact ⟨s8 2 (by omega), M1, hle.put ha, by rw [← hM1]; exact q ys3 (hy3.mono (by omega))⟩
abbrev s_law : Stmt := topS 43
theorem sc_law : FnScope ["script", "purse", "spin", "counts", "told", "due"] ["script"] (defScope s_law) := ⟨rfl, rfl, rfl, by decide +kernel, rfl, by decide +kernel, by decide +kernel⟩
theorem ok_law {f : Addr} {fd : FuncData} (F : FnP K "law" s_law [] f fd)
    {f_law_purses : Addr} {fd_law_purses : FuncData} {ds_law_purses : List Value} (G_law_purses : Kn P w K mg base "_law_purses" ["script", "few"] (R_law_purses K) 2 [] ds_law_purses f_law_purses fd_law_purses)
    {f_law_case_right : Addr} {fd_law_case_right : FuncData} {ds_law_case_right : List Value} (G_law_case_right : Kn P w K mg base "_law_case_right" ["purse"] R_law_case_right 10 [] ds_law_case_right f_law_case_right fd_law_case_right)
    {f_law_pack_right : Addr} {fd_law_pack_right : FuncData} {ds_law_pack_right : List Value} (G_law_pack_right : Kn P w K mg base "_law_pack_right" ["purse"] R_law_pack_right 10 [] ds_law_pack_right f_law_pack_right fd_law_pack_right)
    {f_first_common : Addr} {fd_first_common : FuncData} {ds_first_common : List Value} (G_first_common : Kn P w K mg base "first_common" ["counts", "one", "other"] R_first_common 6 [] ds_first_common f_first_common fd_first_common)
    {f_ends_of : Addr} {fd_ends_of : FuncData} {ds_ends_of : List Value} (G_ends_of : Kn P w K mg base "ends_of" ["counts"] R_ends_of 5 [] ds_ends_of f_ends_of fd_ends_of)
    {f_way_from : Addr} {fd_way_from : FuncData} {ds_way_from : List Value} (G_way_from : Kn P w K mg base "way_from" ["counts", "start"] R_way_from 6 [] ds_way_from f_way_from fd_way_from)
    {f_counts_of_pack : Addr} {fd_counts_of_pack : FuncData} {ds_counts_of_pack : List Value} (G_counts_of_pack : Kn P w K mg base "counts_of_pack" ["pack", "values"] R_counts_of_pack 5 [] ds_counts_of_pack f_counts_of_pack fd_counts_of_pack)
    {f_alike_share : Addr} {fd_alike_share : FuncData} {ds_alike_share : List Value} (G_alike_share : Kn P w K mg base "alike_share" ["counts", "starts"] R_alike_share 6 [] ds_alike_share f_alike_share fd_alike_share)
    {f_law_exact : Addr} {fd_law_exact : FuncData} {ds_law_exact : List Value} (G_law_exact : Kn P w K mg base "_law_exact" ["mine", "theirs"] R_law_exact 9 [] ds_law_exact f_law_exact fd_law_exact)
    (m_range : mg "range" = none) :
    FnG P w K mg base 11 f fd ["script"] (spD (R_law K)) := by
  have nd := sc_law.nd
  refine fnD (k := 10) F sc_law (len_law K) fun cdv A outer s H E hr hq => ?_
  have hu := hu_of hr
  have hr65 := room65 hr
  have hr66 := room66 hr
  refine ⟨_, _, pss_cons (ps_for PassesOwn.never rfl (pi_list (pe_callG (G_law_purses.ok.mono (by decide)) hr hq (by rfl) G_law_purses.m G_law_purses.kp G_law_purses.b G_law_purses.dv (pa_cons (pv 0) (pa_cons (pe_int) (pa_nil))))) (pg_name (i := 1) nd rfl (by first | exact .inl rfl | exact .inr rfl)) (pss_one (ps_for PassesOwn.never rfl (pi_range1 (by rfl) m_range (pa_cons (pe_int) (pa_nil))) (pg_name (i := 2) nd rfl (by first | exact .inl rfl | exact .inr rfl)) (pss_one (ps_if (PW.pt (pw_or (pt_not (pt_val (pe_callG (G_law_case_right.ok.mono (by decide)) hr hq (by rfl) G_law_case_right.m G_law_case_right.kp G_law_case_right.b G_law_case_right.dv (pa_cons (pv 1) (pa_nil))))) (pw_or1 (pt_not (pt_val (pe_callG (G_law_pack_right.ok.mono (by decide)) hr hq (by rfl) G_law_pack_right.m G_law_pack_right.kp G_law_pack_right.b G_law_pack_right.dv (pa_cons (pv 1) (pa_nil)))))))) (pss_one (ps_ret (pe_bl))) (pss_nil))))))
      (pss_cons (ps_set (i := 3) nd rfl (by first | exact .inl rfl | exact .inr rfl) (pe_lst (pa_cons (pe_int) (pa_cons (pe_int) (pa_cons (pe_int) (pa_cons (pe_int) (pa_cons (pe_int) (pa_cons (pe_int) (pa_nil)))))))))
      (pss_cons (ps_set (i := 4) nd rfl (by first | exact .inl rfl | exact .inr rfl) (pe_lst (pa_cons (pe_callG (G_way_from.ok.mono (by decide)) hr hq (by rfl) G_way_from.m G_way_from.kp G_way_from.b G_way_from.dv (pa_cons (pv 3) (pa_cons (pe_int) (pa_nil)))) (pa_cons (pe_callG (G_ends_of.ok.mono (by decide)) hr hq (by rfl) G_ends_of.m G_ends_of.kp G_ends_of.b G_ends_of.dv (pa_cons (pv 3) (pa_nil))) (pa_cons (pe_callG (G_first_common.ok.mono (by decide)) hr hq (by rfl) G_first_common.m G_first_common.kp G_first_common.b G_first_common.dv (pa_cons (pv 3) (pa_cons (pe_int) (pa_cons (pe_int) (pa_nil))))) (pa_nil))))))
      (pss_cons (ps_set (i := 4) nd rfl (by first | exact .inl rfl | exact .inr rfl) (pe_op op_addA (pv 4) (pe_lst (pa_cons (pe_callG (G_alike_share.ok.mono (by decide)) hr hq (by rfl) G_alike_share.m G_alike_share.kp G_alike_share.b G_alike_share.dv (pa_cons (pv 3) (pa_cons (pe_int) (pa_nil)))) (pa_cons (pe_callG (G_counts_of_pack.ok.mono (by decide)) hr hq (by rfl) G_counts_of_pack.m G_counts_of_pack.kp G_counts_of_pack.b G_counts_of_pack.dv (pa_cons (pe_lst (pa_cons (pe_int) (pa_cons (pe_int) (pa_cons (pe_int) (pa_nil))))) (pa_cons (pe_lst (pa_cons (pe_int) (pa_cons (pe_int) (pa_cons (pe_int) (pa_nil))))) (pa_nil)))) (pa_nil))))))
      (pss_cons (ps_set (i := 4) nd rfl (by first | exact .inl rfl | exact .inr rfl) (pe_op op_addA (pv 4) (pe_lst (pa_cons (pe_callG (G_first_common.ok.mono (by decide)) hr hq (by rfl) G_first_common.m G_first_common.kp G_first_common.b G_first_common.dv (pa_cons (pe_lst (pa_cons (pe_int) (pa_cons (pe_int) (pa_nil)))) (pa_cons (pe_int) (pa_cons (pe_int) (pa_nil))))) (pa_cons (pe_callG (G_alike_share.ok.mono (by decide)) hr hq (by rfl) G_alike_share.m G_alike_share.kp G_alike_share.b G_alike_share.dv (pa_cons (pe_lst (pa_cons (pe_int) (pa_cons (pe_int) (pa_cons (pe_int) (pa_cons (pe_int) (pa_nil)))))) (pa_cons (pe_int) (pa_nil)))) (pa_cons (pe_callG (G_ends_of.ok.mono (by decide)) hr hq (by rfl) G_ends_of.m G_ends_of.kp G_ends_of.b G_ends_of.dv (pa_cons (pe_lst (pa_nil)) (pa_nil))) (pa_nil)))))))
      (pss_cons (ps_set (i := 4) nd rfl (by first | exact .inl rfl | exact .inr rfl) (pe_op op_addA (pv 4) (pe_lst (pa_cons (pe_callG (G_counts_of_pack.ok.mono (by decide)) hr hq (by rfl) G_counts_of_pack.m G_counts_of_pack.kp G_counts_of_pack.b G_counts_of_pack.dv (pa_cons (pe_lst (pa_nil)) (pa_cons (pe_lst (pa_cons (pe_int) (pa_nil))) (pa_nil)))) (pa_cons (pe_callG (G_way_from.ok.mono (by decide)) hr hq (by rfl) G_way_from.m G_way_from.kp G_way_from.b G_way_from.dv (pa_cons (pe_lst (pa_cons (pe_op op_powW (pe_int) (pe_int)) (pa_nil))) (pa_cons (pe_int) (pa_nil)))) (pa_nil))))))
      (pss_cons (ps_set (i := 5) nd rfl (by first | exact .inl rfl | exact .inr rfl) (pe_lst (pa_cons (pe_lst (pa_cons (pe_int) (pa_cons (pe_int) (pa_cons (pe_int) (pa_nil))))) (pa_cons (pe_lst (pa_cons (pe_int) (pa_cons (pe_int) (pa_cons (pe_int) (pa_cons (pe_int) (pa_cons (pe_int) (pa_cons (pe_int) (pa_nil)))))))) (pa_cons (pe_int) (pa_cons (pe_tup (pa_cons (pe_int) (pa_cons (pe_int) (pa_nil)))) (pa_cons (pe_lst (pa_cons (pe_int) (pa_cons (pe_int) (pa_cons (pe_int) (pa_nil))))) (pa_cons (pe_non) (pa_cons (pe_tup (pa_cons (pe_int) (pa_cons (pe_int) (pa_nil)))) (pa_cons (pe_lst (pa_nil)) (pa_cons (pe_lst (pa_nil)) (pa_cons (pe_lst (pa_cons (pe_int) (pa_nil))) (pa_nil)))))))))))))
      (pss_one (ps_ret (pe_and (pe_callG (G_law_exact.ok.mono (by decide)) hr hq (by rfl) G_law_exact.m G_law_exact.kp G_law_exact.b G_law_exact.dv (pa_cons (pv 5) (pa_cons (pv 4) (pa_nil)))) (pe_one (pe_callG (G_law_exact.ok.mono (by decide)) hr hq (by rfl) G_law_exact.m G_law_exact.kp G_law_exact.b G_law_exact.dv (pa_cons (pe_lst (pa_cons (pe_tup (pa_cons (pe_int) (pa_cons (pe_int) (pa_nil)))) (pa_cons (pe_tup (pa_cons (pe_int) (pa_cons (pe_int) (pa_nil)))) (pa_nil)))) (pa_cons (pe_lst (pa_cons (pe_callG (G_alike_share.ok.mono (by decide)) hr hq (by rfl) G_alike_share.m G_alike_share.kp G_alike_share.b G_alike_share.dv (pa_cons (pe_lst (pa_cons (pe_int) (pa_cons (pe_int) (pa_nil)))) (pa_cons (pe_int) (pa_nil)))) (pa_cons (pe_callG (G_alike_share.ok.mono (by decide)) hr hq (by rfl) G_alike_share.m G_alike_share.kp G_alike_share.b G_alike_share.dv (pa_cons (pe_lst (pa_cons (pe_int) (pa_cons (pe_int) (pa_cons (pe_int) (pa_nil))))) (pa_cons (pe_int) (pa_nil)))) (pa_nil)))) (pa_nil)))))))))))))),
    ts_seq (ts_for (ti_list (tr_call (ta_cons (tr_var (i := 0)) (ta_cons (tr_int) (ta_nil))))) (tg_name (i := 1)) (ts_for (ti_rng1 (ta_cons (tr_int) (ta_nil))) (tg_name (i := 2)) (ts_if (tt_or (tt_not (tt_B (tr_call (ta_cons (tr_var (i := 1)) (ta_nil))))) (tt_not (tt_B (tr_call (ta_cons (tr_var (i := 1)) (ta_nil)))))) (ts_ret (tr_bl)) (ts_next))))
      (ts_seq (ts_asg (tr_lst (md := .frz) (ta_cons (tr_int) (ta_cons (tr_int) (ta_cons (tr_int) (ta_cons (tr_int) (ta_cons (tr_int) (ta_cons (tr_int) (ta_nil)))))))) (tg_name (i := 3)))
      (ts_seq (ts_asg (tr_lst (md := .frz) (ta_cons (tr_frz (tr_call (ta_cons (tr_var (i := 3)) (ta_cons (tr_int) (ta_nil))))) (ta_cons (tr_frz (tr_call (ta_cons (tr_var (i := 3)) (ta_nil)))) (ta_cons (tr_call (ta_cons (tr_var (i := 3)) (ta_cons (tr_int) (ta_cons (tr_int) (ta_nil))))) (ta_nil))))) (tg_name (i := 4)))
      (ts_seq (ts_asg (tr_op (ot_add (K := K) (md := .frz)) (tr_var (i := 4)) (tr_lst (md := .frz) (ta_cons (tr_call (ta_cons (tr_var (i := 3)) (ta_cons (tr_int) (ta_nil)))) (ta_cons (tr_frz (tr_call (ta_cons (tr_lst (md := .frz) (ta_cons (tr_int) (ta_cons (tr_int) (ta_cons (tr_int) (ta_nil))))) (ta_cons (tr_lst (md := .frz) (ta_cons (tr_int) (ta_cons (tr_int) (ta_cons (tr_int) (ta_nil))))) (ta_nil))))) (ta_nil))))) (tg_name (i := 4)))
      (ts_seq (ts_asg (tr_op (ot_add (K := K) (md := .frz)) (tr_var (i := 4)) (tr_lst (md := .frz) (ta_cons (tr_call (ta_cons (tr_lst (md := .frz) (ta_cons (tr_int) (ta_cons (tr_int) (ta_nil)))) (ta_cons (tr_int) (ta_cons (tr_int) (ta_nil))))) (ta_cons (tr_call (ta_cons (tr_lst (md := .frz) (ta_cons (tr_int) (ta_cons (tr_int) (ta_cons (tr_int) (ta_cons (tr_int) (ta_nil)))))) (ta_cons (tr_int) (ta_nil)))) (ta_cons (tr_frz (tr_call (ta_cons (tr_lst (md := .frz) (ta_nil)) (ta_nil)))) (ta_nil)))))) (tg_name (i := 4)))
      (ts_seq (ts_asg (tr_op (ot_add (K := K) (md := .frz)) (tr_var (i := 4)) (tr_lst (md := .frz) (ta_cons (tr_frz (tr_call (ta_cons (tr_lst (md := .frz) (ta_nil)) (ta_cons (tr_lst (md := .frz) (ta_cons (tr_int) (ta_nil))) (ta_nil))))) (ta_cons (tr_frz (tr_call (ta_cons (tr_lst (md := .frz) (ta_cons (tr_op (ot_pow) (tr_int) (tr_int)) (ta_nil))) (ta_cons (tr_int) (ta_nil))))) (ta_nil))))) (tg_name (i := 4)))
      (ts_seq (ts_asg (tr_lst (md := .frz) (ta_cons (tr_lst (md := .frz) (ta_cons (tr_int) (ta_cons (tr_int) (ta_cons (tr_int) (ta_nil))))) (ta_cons (tr_lst (md := .frz) (ta_cons (tr_int) (ta_cons (tr_int) (ta_cons (tr_int) (ta_cons (tr_int) (ta_cons (tr_int) (ta_cons (tr_int) (ta_nil)))))))) (ta_cons (tr_int) (ta_cons (tr_tup (ta_cons (tr_int) (ta_cons (tr_int) (ta_nil)))) (ta_cons (tr_lst (md := .frz) (ta_cons (tr_int) (ta_cons (tr_int) (ta_cons (tr_int) (ta_nil))))) (ta_cons (tr_non) (ta_cons (tr_tup (ta_cons (tr_int) (ta_cons (tr_int) (ta_nil)))) (ta_cons (tr_lst (md := .frz) (ta_nil)) (ta_cons (tr_lst (md := .frz) (ta_nil)) (ta_cons (tr_lst (md := .frz) (ta_cons (tr_int) (ta_nil))) (ta_nil)))))))))))) (tg_name (i := 5)))
      (ts_ret (tr_and (tr_call (ta_cons (tr_var (i := 5)) (ta_cons (tr_var (i := 4)) (ta_nil)))) (tr_call (ta_cons (tr_lst (md := .frz) (ta_cons (tr_tup (ta_cons (tr_int) (ta_cons (tr_int) (ta_nil)))) (ta_cons (tr_tup (ta_cons (tr_int) (ta_cons (tr_int) (ta_nil)))) (ta_nil)))) (ta_cons (tr_lst (md := .frz) (ta_cons (tr_call (ta_cons (tr_lst (md := .frz) (ta_cons (tr_int) (ta_cons (tr_int) (ta_nil)))) (ta_cons (tr_int) (ta_nil)))) (ta_cons (tr_call (ta_cons (tr_lst (md := .frz) (ta_cons (tr_int) (ta_cons (tr_int) (ta_cons (tr_int) (ta_nil))))) (ta_cons (tr_int) (ta_nil)))) (ta_nil)))) (ta_nil)))))))))))), ?_⟩
  rintro ds M Q ⟨ns, rfl, hl, q⟩
  have s8 : ∀ k : Nat, k ≤ 20 → Sz k := fun k h => (by first | omega | (unfold Sz; omega) | (simp only [List.length_map, List.length_append, List.length_cons, List.length_nil, rngI_length, List.length_take, List.length_drop, List.length_reverse]; unfold Sz; omega))
  refine seq_mid (fun ρ' M' => ∃ y1 y2, ρ' = [some (.scr K (ns.map .int)), y1, y2, none, none, none]) (fun nx hnx => ?_) (fun ρ' M' w => ?_)
  · simp only [sRet, sRetN, sIf, sDrop, sNever, sNext, sBreak, sCont, sAsg, sPar, sPar3, sAug, dName, dNil, dCons, dTup, dSub, sSetL, wVar, wC, wFrz, wFrzK, wOp, wAdd, nAdd, nI, nI0, wMul, nMul, wNeg, wEq, nEq, wIsN, wB, wAndT, wOrT, wNotT, wAndV, wOrV, wNotV, wIfE, wChain, aNil, aCons, aStar, wLst, wTup, wIx, nIx, pNo, pSo, wSl, wRev, wRevE, mIndex, wLenSet, cRepr, wIsB, wCB, cLen, cAll, cSum, cMax, cMin, cSorted, cInt, cList, cTuple, cIsi, wBits, wLRg, wBM, wBM0, mChg, wDGet, wDIn, wDNew, sDPutD, wIn, nIn, wCall, wCallK, wNew, tYesD, startD, List.map_cons, List.map_nil, List.length_cons, List.length_nil, List.replicate, Nat.sub_self, List.append_nil, List.cons_append, List.nil_append, List.getElem?_cons_zero, List.getElem?_cons_succ, List.set_cons_zero, List.set_cons_succ, Nat.reduceSub, Nat.reduceAdd, ite_true, ite_false, if_true, if_false, Bool.false_eq_true, Bool.true_eq_false, Bool.not_true, Bool.not_false, Option.some.injEq, nrm_non, nrm_bl, nrm_int, nrm_str, nrm_ty, nrm_lst, nrm_tupC, nrm_dct, nrm_scr, nrm_setL, wFgt, tyN_non, tyN_bl, tyN_int, tyN_str, tyN_lst, tyN_tup, tyN_dct, keyD_int, keyD_str, isA, okT, beq_self_eq_true, String.reduceBEq, Bool.or_false, Bool.or_true, Bool.and_false, Bool.and_true, Bool.true_or, Bool.false_or, Bool.true_and, Bool.false_and, true_and, and_true, List.any_cons, List.any_nil, tyNames, Option.map_some, iRn1, iRn2, iRn3, iLst, nIt, iTp, iEn, iZp, iSt, wipeD, atI0, atI1, atI2, atI3, ixN0, ixN1, ixN2, ixN3, wSub, wLt, wLe, wGt, wGe, wDiv, wMod, wPow, wShl, Mp.set_same, Mp.set_set, cSortedA, cDictP, wNewD, wEqS, nEqS, wFrzT, mExt, mCnt, nIxL, sAugS, wSlS, wJoin, cSumL, dUnl, cSortLL, cMinLL, wLenSetT, wLenDictT, mIndexB, wLenSetJ, wAddT, wSortSet, wDNewT, sDPutT, cSortDT, wBMd, wDGet1, wDGet2, mUpd, wPairs, wDisp, wLtS, cMinS, cListD, cGcd, cAbs]
    refine ⟨ns, 3, rfl, hl, by omega, fun ps M1 hpn hnd hle hps => ?_⟩
    simp only [nIt, nrm_lst]
    refine ⟨fun i ρ M' => (∃ y1 y2, ρ = [some (.scr K (ns.map .int)), y1, y2, none, none, none]) ∧ ∀ p ∈ ps.drop i, ∃ xs, PurseOk 0 xs ∧ M' p = some (.lst xs),
      ⟨⟨_, _, rfl⟩, fun p hp => (hps p hp).2⟩, fun _ _ _ _ _ => by first | rfl | trivial, fun i d ρ M2 hi w => ?_, fun ρ M2 w => ?_⟩
    · obtain ⟨⟨y1, y2, rfl⟩, hps⟩ := w
      obtain ⟨p, hp, rfl⟩ : ∃ p, ps[i]? = some p ∧ d = .ref p := by
        rw [List.getElem?_map] at hi
        obtain ⟨n, h1, h2⟩ := Option.map_eq_some_iff.mp hi
        exact ⟨n, h1, h2.symm⟩
      obtain ⟨hpi, hpn'⟩ := drop_facts hp hnd
      obtain ⟨xs0, hx0, hM0⟩ := hps p hpi
      have fin : ∀ ys, ∀ r ∈ ps.drop (i + 1), ∃ xs, PurseOk 0 xs ∧ (M2.set p (.lst ys)) r = some (.lst xs) := fun ys r hr => by
        obtain ⟨hr1, hrp⟩ := hpn' r hr
        obtain ⟨xr, hxr, hMr⟩ := hps r hr1
        exact ⟨xr, hxr, by rw [Mp.set_ne hrp]; exact hMr⟩
      simp only [sRet, sRetN, sIf, sDrop, sNever, sNext, sBreak, sCont, sAsg, sPar, sPar3, sAug, dName, dNil, dCons, dTup, dSub, sSetL, wVar, wC, wFrz, wFrzK, wOp, wAdd, nAdd, nI, nI0, wMul, nMul, wNeg, wEq, nEq, wIsN, wB, wAndT, wOrT, wNotT, wAndV, wOrV, wNotV, wIfE, wChain, aNil, aCons, aStar, wLst, wTup, wIx, nIx, pNo, pSo, wSl, wRev, wRevE, mIndex, wLenSet, cRepr, wIsB, wCB, cLen, cAll, cSum, cMax, cMin, cSorted, cInt, cList, cTuple, cIsi, wBits, wLRg, wBM, wBM0, mChg, wDGet, wDIn, wDNew, sDPutD, wIn, nIn, wCall, wCallK, wNew, tYesD, startD, List.map_cons, List.map_nil, List.length_cons, List.length_nil, List.replicate, Nat.sub_self, List.append_nil, List.cons_append, List.nil_append, List.getElem?_cons_zero, List.getElem?_cons_succ, List.set_cons_zero, List.set_cons_succ, Nat.reduceSub, Nat.reduceAdd, ite_true, ite_false, if_true, if_false, Bool.false_eq_true, Bool.true_eq_false, Bool.not_true, Bool.not_false, Option.some.injEq, nrm_non, nrm_bl, nrm_int, nrm_str, nrm_ty, nrm_lst, nrm_tupC, nrm_dct, nrm_scr, nrm_setL, wFgt, tyN_non, tyN_bl, tyN_int, tyN_str, tyN_lst, tyN_tup, tyN_dct, keyD_int, keyD_str, isA, okT, beq_self_eq_true, String.reduceBEq, Bool.or_false, Bool.or_true, Bool.and_false, Bool.and_true, Bool.true_or, Bool.false_or, Bool.true_and, Bool.false_and, true_and, and_true, List.any_cons, List.any_nil, tyNames, Option.map_some, iRn1, iRn2, iRn3, iLst, nIt, iTp, iEn, iZp, iSt, wipeD, atI0, atI1, atI2, atI3, ixN0, ixN1, ixN2, ixN3, wSub, wLt, wLe, wGt, wGe, wDiv, wMod, wPow, wShl, Mp.set_same, Mp.set_set, cSortedA, cDictP, wNewD, wEqS, nEqS, wFrzT, mExt, mCnt, nIxL, sAugS, wSlS, wJoin, cSumL, dUnl, cSortLL, cMinLL, wLenSetT, wLenDictT, mIndexB, wLenSetJ, wAddT, wSortSet, wDNewT, sDPutT, cSortDT, wBMd, wDGet1, wDGet2, mUpd, wPairs, wDisp, wLtS, cMinS, cListD, cGcd, cAbs]
      refine for_ints (ns := rngI 0 1 2) (P := fun _ => True) (fun j ρ M' => ∃ (y2 : Option D) (xs : List D), ρ = [some (.scr K (ns.map .int)), some (.ref p), y2, none, none, none] ∧ PurseOk (1000 * (j : Nat)) xs ∧ M' = M2.set p (.lst xs)) (fun R h => by simp only [sSeq, sRet, sRetN, sIf, sDrop, sNever, sNext, sBreak, sCont, sAsg, sPar, sPar3, sAug, dName, dNil, dCons, dTup, dSub, sSetL, wVar, wC, wFrz, wFrzK, wOp, wAdd, nAdd, nI, nI0, wMul, nMul, wNeg, wEq, nEq, wIsN, wB, wAndT, wOrT, wNotT, wAndV, wOrV, wNotV, wIfE, wChain, aNil, aCons, aStar, wLst, wTup, wIx, nIx, pNo, pSo, wSl, wRev, wRevE, mIndex, wLenSet, cRepr, wIsB, wCB, cLen, cAll, cSum, cMax, cMin, cSorted, cInt, cList, cTuple, cIsi, wBits, wLRg, wBM, wBM0, mChg, wDGet, wDIn, wDNew, sDPutD, wIn, nIn, wCall, wCallK, wNew, tYesD, startD, List.map_cons, List.map_nil, List.length_cons, List.length_nil, List.replicate, Nat.sub_self, List.append_nil, List.cons_append, List.nil_append, List.getElem?_cons_zero, List.getElem?_cons_succ, List.set_cons_zero, List.set_cons_succ, Nat.reduceSub, Nat.reduceAdd, ite_true, ite_false, if_true, if_false, Bool.false_eq_true, Bool.true_eq_false, Bool.not_true, Bool.not_false, Option.some.injEq, nrm_non, nrm_bl, nrm_int, nrm_str, nrm_ty, nrm_lst, nrm_tupC, nrm_dct, nrm_scr, nrm_setL, wFgt, tyN_non, tyN_bl, tyN_int, tyN_str, tyN_lst, tyN_tup, tyN_dct, keyD_int, keyD_str, isA, okT, beq_self_eq_true, String.reduceBEq, Bool.or_false, Bool.or_true, Bool.and_false, Bool.and_true, Bool.true_or, Bool.false_or, Bool.true_and, Bool.false_and, true_and, and_true, List.any_cons, List.any_nil, tyNames, Option.map_some, iRn1, iRn2, iRn3, iLst, nIt, iTp, iEn, iZp, iSt, wipeD, atI0, atI1, atI2, atI3, ixN0, ixN1, ixN2, ixN3, wSub, wLt, wLe, wGt, wGe, wDiv, wMod, wPow, wShl, Mp.set_same, Mp.set_set, cSortedA, cDictP, wNewD, wEqS, nEqS, wFrzT, mExt, mCnt, nIxL, sAugS, wSlS, wJoin, cSumL, dUnl, cSortLL, cMinLL, wLenSetT, wLenDictT, mIndexB, wLenSetJ, wAddT, wSortSet, wDNewT, sDPutT, cSortDT, wBMd, wDGet1, wDGet2, mUpd, wPairs, wDisp, wLtS, cMinS, cListD, cGcd, cAbs]; exact ⟨⟨by omega, by omega⟩, rngD_ints ▸ h⟩)
        ⟨y2, xs0, rfl, hx0.mono (by omega), (Mp.set_self hM0).symm⟩ (fun _ _ _ _ _ => trivial) (fun j k ρ M' hk w => ?_) (fun ρ M' w => ?_)
      · obtain ⟨y2, xs, rfl, hx, rfl⟩ := w
        obtain ⟨hj, _⟩ := rngI_get hk
        simp only [sRet, sRetN, sIf, sDrop, sNever, sNext, sBreak, sCont, sAsg, sPar, sPar3, sAug, dName, dNil, dCons, dTup, dSub, sSetL, wVar, wC, wFrz, wFrzK, wOp, wAdd, nAdd, nI, nI0, wMul, nMul, wNeg, wEq, nEq, wIsN, wB, wAndT, wOrT, wNotT, wAndV, wOrV, wNotV, wIfE, wChain, aNil, aCons, aStar, wLst, wTup, wIx, nIx, pNo, pSo, wSl, wRev, wRevE, mIndex, wLenSet, cRepr, wIsB, wCB, cLen, cAll, cSum, cMax, cMin, cSorted, cInt, cList, cTuple, cIsi, wBits, wLRg, wBM, wBM0, mChg, wDGet, wDIn, wDNew, sDPutD, wIn, nIn, wCall, wCallK, wNew, tYesD, startD, List.map_cons, List.map_nil, List.length_cons, List.length_nil, List.replicate, Nat.sub_self, List.append_nil, List.cons_append, List.nil_append, List.getElem?_cons_zero, List.getElem?_cons_succ, List.set_cons_zero, List.set_cons_succ, Nat.reduceSub, Nat.reduceAdd, ite_true, ite_false, if_true, if_false, Bool.false_eq_true, Bool.true_eq_false, Bool.not_true, Bool.not_false, Option.some.injEq, nrm_non, nrm_bl, nrm_int, nrm_str, nrm_ty, nrm_lst, nrm_tupC, nrm_dct, nrm_scr, nrm_setL, wFgt, tyN_non, tyN_bl, tyN_int, tyN_str, tyN_lst, tyN_tup, tyN_dct, keyD_int, keyD_str, isA, okT, beq_self_eq_true, String.reduceBEq, Bool.or_false, Bool.or_true, Bool.and_false, Bool.and_true, Bool.true_or, Bool.false_or, Bool.true_and, Bool.false_and, true_and, and_true, List.any_cons, List.any_nil, tyNames, Option.map_some, iRn1, iRn2, iRn3, iLst, nIt, iTp, iEn, iZp, iSt, wipeD, atI0, atI1, atI2, atI3, ixN0, ixN1, ixN2, ixN3, wSub, wLt, wLe, wGt, wGe, wDiv, wMod, wPow, wShl, Mp.set_same, Mp.set_set, cSortedA, cDictP, wNewD, wEqS, nEqS, wFrzT, mExt, mCnt, nIxL, sAugS, wSlS, wJoin, cSumL, dUnl, cSortLL, cMinLL, wLenSetT, wLenDictT, mIndexB, wLenSetJ, wAddT, wSortSet, wDNewT, sDPutT, cSortDT, wBMd, wDGet1, wDGet2, mUpd, wPairs, wDisp, wLtS, cMinS, cListD, cGcd, cAbs]
        refine ⟨p, xs, _, rfl, Mp.set_same, hx, by omega, fun ys1 hy1 => ?_⟩
        rw [Mp.set_set]
        refine ⟨p, ys1, _, rfl, Mp.set_same, hy1, by omega, fun ys2 hy2 => ?_⟩
        rw [Mp.set_set]
        simp only [sRet, sRetN, sIf, sDrop, sNever, sNext, sBreak, sCont, sAsg, sPar, sPar3, sAug, dName, dNil, dCons, dTup, dSub, sSetL, wVar, wC, wFrz, wFrzK, wOp, wAdd, nAdd, nI, nI0, wMul, nMul, wNeg, wEq, nEq, wIsN, wB, wAndT, wOrT, wNotT, wAndV, wOrV, wNotV, wIfE, wChain, aNil, aCons, aStar, wLst, wTup, wIx, nIx, pNo, pSo, wSl, wRev, wRevE, mIndex, wLenSet, cRepr, wIsB, wCB, cLen, cAll, cSum, cMax, cMin, cSorted, cInt, cList, cTuple, cIsi, wBits, wLRg, wBM, wBM0, mChg, wDGet, wDIn, wDNew, sDPutD, wIn, nIn, wCall, wCallK, wNew, tYesD, startD, List.map_cons, List.map_nil, List.length_cons, List.length_nil, List.replicate, Nat.sub_self, List.append_nil, List.cons_append, List.nil_append, List.getElem?_cons_zero, List.getElem?_cons_succ, List.set_cons_zero, List.set_cons_succ, Nat.reduceSub, Nat.reduceAdd, ite_true, ite_false, if_true, if_false, Bool.false_eq_true, Bool.true_eq_false, Bool.not_true, Bool.not_false, Option.some.injEq, nrm_non, nrm_bl, nrm_int, nrm_str, nrm_ty, nrm_lst, nrm_tupC, nrm_dct, nrm_scr, nrm_setL, wFgt, tyN_non, tyN_bl, tyN_int, tyN_str, tyN_lst, tyN_tup, tyN_dct, keyD_int, keyD_str, isA, okT, beq_self_eq_true, String.reduceBEq, Bool.or_false, Bool.or_true, Bool.and_false, Bool.and_true, Bool.true_or, Bool.false_or, Bool.true_and, Bool.false_and, true_and, and_true, List.any_cons, List.any_nil, tyNames, Option.map_some, iRn1, iRn2, iRn3, iLst, nIt, iTp, iEn, iZp, iSt, wipeD, atI0, atI1, atI2, atI3, ixN0, ixN1, ixN2, ixN3, wSub, wLt, wLe, wGt, wGe, wDiv, wMod, wPow, wShl, Mp.set_same, Mp.set_set, cSortedA, cDictP, wNewD, wEqS, nEqS, wFrzT, mExt, mCnt, nIxL, sAugS, wSlS, wJoin, cSumL, dUnl, cSortLL, cMinLL, wLenSetT, wLenDictT, mIndexB, wLenSetJ, wAddT, wSortSet, wDNewT, sDPutT, cSortDT, wBMd, wDGet1, wDGet2, mUpd, wPairs, wDisp, wLtS, cMinS, cListD, cGcd, cAbs]
        exact ⟨_, ys2, rfl, hy2.mono (by omega), rfl⟩
      · obtain ⟨y2, xs, rfl, hx, rfl⟩ := w
        exact ⟨⟨_, _, rfl⟩, fin xs⟩
    · exact hnx _ _ w.1
  · obtain ⟨y1, y2, rfl⟩ := w
    ((try simp only [sSeq]); simp only [sRet, sRetN, sIf, sDrop, sNever, sNext, sBreak, sCont, sAsg, sPar, sPar3, sAug, dName, dNil, dCons, dTup, dSub, sSetL, wVar, wC, wFrz, wFrzK, wOp, wAdd, nAdd, nI, nI0, wMul, nMul, wNeg, wEq, nEq, wIsN, wB, wAndT, wOrT, wNotT, wAndV, wOrV, wNotV, wIfE, wChain, aNil, aCons, aStar, wLst, wTup, wIx, nIx, pNo, pSo, wSl, wRev, wRevE, mIndex, wLenSet, cRepr, wIsB, wCB, cLen, cAll, cSum, cMax, cMin, cSorted, cInt, cList, cTuple, cIsi, wBits, wLRg, wBM, wBM0, mChg, wDGet, wDIn, wDNew, sDPutD, wIn, nIn, wCall, wCallK, wNew, tYesD, startD, List.map_cons, List.map_nil, List.length_cons, List.length_nil, List.replicate, Nat.sub_self, List.append_nil, List.cons_append, List.nil_append, List.getElem?_cons_zero, List.getElem?_cons_succ, List.set_cons_zero, List.set_cons_succ, Nat.reduceSub, Nat.reduceAdd, ite_true, ite_false, if_true, if_false, Bool.false_eq_true, Bool.true_eq_false, Bool.not_true, Bool.not_false, Option.some.injEq, nrm_non, nrm_bl, nrm_int, nrm_str, nrm_ty, nrm_lst, nrm_tupC, nrm_dct, nrm_scr, nrm_setL, wFgt, tyN_non, tyN_bl, tyN_int, tyN_str, tyN_lst, tyN_tup, tyN_dct, keyD_int, keyD_str, isA, okT, beq_self_eq_true, String.reduceBEq, Bool.or_false, Bool.or_true, Bool.and_false, Bool.and_true, Bool.true_or, Bool.false_or, Bool.true_and, Bool.false_and, true_and, and_true, List.any_cons, List.any_nil, tyNames, Option.map_some, iRn1, iRn2, iRn3, iLst, nIt, iTp, iEn, iZp, iSt, wipeD, atI0, atI1, atI2, atI3, ixN0, ixN1, ixN2, ixN3, wSub, wLt, wLe, wGt, wGe, wDiv, wMod, wPow, wShl, Mp.set_same, Mp.set_set, cSortedA, cDictP, wNewD, wEqS, nEqS, wFrzT, mExt, mCnt, nIxL, sAugS, wSlS, wJoin, cSumL, dUnl, cSortLL, cMinLL, wLenSetT, wLenDictT, mIndexB, wLenSetJ, wAddT, wSortSet, wDNewT, sDPutT, cSortDT, wBMd, wDGet1, wDGet2, mUpd, wPairs, wDisp, wLtS, cMinS, cListD, cGcd, cAbs])
    refine ⟨s8 6 (by omega), ?_⟩
    ((try simp only [sSeq]); simp only [sRet, sRetN, sIf, sDrop, sNever, sNext, sBreak, sCont, sAsg, sPar, sPar3, sAug, dName, dNil, dCons, dTup, dSub, sSetL, wVar, wC, wFrz, wFrzK, wOp, wAdd, nAdd, nI, nI0, wMul, nMul, wNeg, wEq, nEq, wIsN, wB, wAndT, wOrT, wNotT, wAndV, wOrV, wNotV, wIfE, wChain, aNil, aCons, aStar, wLst, wTup, wIx, nIx, pNo, pSo, wSl, wRev, wRevE, mIndex, wLenSet, cRepr, wIsB, wCB, cLen, cAll, cSum, cMax, cMin, cSorted, cInt, cList, cTuple, cIsi, wBits, wLRg, wBM, wBM0, mChg, wDGet, wDIn, wDNew, sDPutD, wIn, nIn, wCall, wCallK, wNew, tYesD, startD, List.map_cons, List.map_nil, List.length_cons, List.length_nil, List.replicate, Nat.sub_self, List.append_nil, List.cons_append, List.nil_append, List.getElem?_cons_zero, List.getElem?_cons_succ, List.set_cons_zero, List.set_cons_succ, Nat.reduceSub, Nat.reduceAdd, ite_true, ite_false, if_true, if_false, Bool.false_eq_true, Bool.true_eq_false, Bool.not_true, Bool.not_false, Option.some.injEq, nrm_non, nrm_bl, nrm_int, nrm_str, nrm_ty, nrm_lst, nrm_tupC, nrm_dct, nrm_scr, nrm_setL, wFgt, tyN_non, tyN_bl, tyN_int, tyN_str, tyN_lst, tyN_tup, tyN_dct, keyD_int, keyD_str, isA, okT, beq_self_eq_true, String.reduceBEq, Bool.or_false, Bool.or_true, Bool.and_false, Bool.and_true, Bool.true_or, Bool.false_or, Bool.true_and, Bool.false_and, true_and, and_true, List.any_cons, List.any_nil, tyNames, Option.map_some, iRn1, iRn2, iRn3, iLst, nIt, iTp, iEn, iZp, iSt, wipeD, atI0, atI1, atI2, atI3, ixN0, ixN1, ixN2, ixN3, wSub, wLt, wLe, wGt, wGe, wDiv, wMod, wPow, wShl, Mp.set_same, Mp.set_set, cSortedA, cDictP, wNewD, wEqS, nEqS, wFrzT, mExt, mCnt, nIxL, sAugS, wSlS, wJoin, cSumL, dUnl, cSortLL, cMinLL, wLenSetT, wLenDictT, mIndexB, wLenSetJ, wAddT, wSortSet, wDNewT, sDPutT, cSortDT, wBMd, wDGet1, wDGet2, mUpd, wPairs, wDisp, wLtS, cMinS, cListD, cGcd, cAbs])
    have c6 : ∀ k ∈ ([2, 1, 3, 1, 1, 2] : List Int), 1 ≤ k := by decide
    refine x_way [2, 1, 3, 1, 1, 2] 0 _ rfl c6 (by decide) (by decide) v1 (x_ends [2, 1, 3, 1, 1, 2] _ rfl c6 (by decide) v2 (x_com [2, 1, 3, 1, 1, 2] 0 1 _ rfl c6 (by decide) (by decide) (by decide) v3 ⟨s8 3 (by omega), ?_⟩))
    ((try simp only [sSeq]); simp only [sRet, sRetN, sIf, sDrop, sNever, sNext, sBreak, sCont, sAsg, sPar, sPar3, sAug, dName, dNil, dCons, dTup, dSub, sSetL, wVar, wC, wFrz, wFrzK, wOp, wAdd, nAdd, nI, nI0, wMul, nMul, wNeg, wEq, nEq, wIsN, wB, wAndT, wOrT, wNotT, wAndV, wOrV, wNotV, wIfE, wChain, aNil, aCons, aStar, wLst, wTup, wIx, nIx, pNo, pSo, wSl, wRev, wRevE, mIndex, wLenSet, cRepr, wIsB, wCB, cLen, cAll, cSum, cMax, cMin, cSorted, cInt, cList, cTuple, cIsi, wBits, wLRg, wBM, wBM0, mChg, wDGet, wDIn, wDNew, sDPutD, wIn, nIn, wCall, wCallK, wNew, tYesD, startD, List.map_cons, List.map_nil, List.length_cons, List.length_nil, List.replicate, Nat.sub_self, List.append_nil, List.cons_append, List.nil_append, List.getElem?_cons_zero, List.getElem?_cons_succ, List.set_cons_zero, List.set_cons_succ, Nat.reduceSub, Nat.reduceAdd, ite_true, ite_false, if_true, if_false, Bool.false_eq_true, Bool.true_eq_false, Bool.not_true, Bool.not_false, Option.some.injEq, nrm_non, nrm_bl, nrm_int, nrm_str, nrm_ty, nrm_lst, nrm_tupC, nrm_dct, nrm_scr, nrm_setL, wFgt, tyN_non, tyN_bl, tyN_int, tyN_str, tyN_lst, tyN_tup, tyN_dct, keyD_int, keyD_str, isA, okT, beq_self_eq_true, String.reduceBEq, Bool.or_false, Bool.or_true, Bool.and_false, Bool.and_true, Bool.true_or, Bool.false_or, Bool.true_and, Bool.false_and, true_and, and_true, List.any_cons, List.any_nil, tyNames, Option.map_some, iRn1, iRn2, iRn3, iLst, nIt, iTp, iEn, iZp, iSt, wipeD, atI0, atI1, atI2, atI3, ixN0, ixN1, ixN2, ixN3, wSub, wLt, wLe, wGt, wGe, wDiv, wMod, wPow, wShl, Mp.set_same, Mp.set_set, cSortedA, cDictP, wNewD, wEqS, nEqS, wFrzT, mExt, mCnt, nIxL, sAugS, wSlS, wJoin, cSumL, dUnl, cSortLL, cMinLL, wLenSetT, wLenDictT, mIndexB, wLenSetJ, wAddT, wSortSet, wDNewT, sDPutT, cSortDT, wBMd, wDGet1, wDGet2, mUpd, wPairs, wDisp, wLtS, cMinS, cListD, cGcd, cAbs])
    refine x_al [2, 1, 3, 1, 1, 2] 4 1 1 rfl c6 (by decide) (by decide) (by decide) v4 ⟨s8 3 (by omega), s8 3 (by omega), x_cp [0, 5, 14] [1, 2, 3] _ rfl ⟨by decide, by decide, by decide⟩ (by decide) (by decide) (by decide) (by decide) v5 ⟨s8 2 (by omega), s8 5 (by omega), ?_⟩⟩
    ((try simp only [sSeq]); simp only [sRet, sRetN, sIf, sDrop, sNever, sNext, sBreak, sCont, sAsg, sPar, sPar3, sAug, dName, dNil, dCons, dTup, dSub, sSetL, wVar, wC, wFrz, wFrzK, wOp, wAdd, nAdd, nI, nI0, wMul, nMul, wNeg, wEq, nEq, wIsN, wB, wAndT, wOrT, wNotT, wAndV, wOrV, wNotV, wIfE, wChain, aNil, aCons, aStar, wLst, wTup, wIx, nIx, pNo, pSo, wSl, wRev, wRevE, mIndex, wLenSet, cRepr, wIsB, wCB, cLen, cAll, cSum, cMax, cMin, cSorted, cInt, cList, cTuple, cIsi, wBits, wLRg, wBM, wBM0, mChg, wDGet, wDIn, wDNew, sDPutD, wIn, nIn, wCall, wCallK, wNew, tYesD, startD, List.map_cons, List.map_nil, List.length_cons, List.length_nil, List.replicate, Nat.sub_self, List.append_nil, List.cons_append, List.nil_append, List.getElem?_cons_zero, List.getElem?_cons_succ, List.set_cons_zero, List.set_cons_succ, Nat.reduceSub, Nat.reduceAdd, ite_true, ite_false, if_true, if_false, Bool.false_eq_true, Bool.true_eq_false, Bool.not_true, Bool.not_false, Option.some.injEq, nrm_non, nrm_bl, nrm_int, nrm_str, nrm_ty, nrm_lst, nrm_tupC, nrm_dct, nrm_scr, nrm_setL, wFgt, tyN_non, tyN_bl, tyN_int, tyN_str, tyN_lst, tyN_tup, tyN_dct, keyD_int, keyD_str, isA, okT, beq_self_eq_true, String.reduceBEq, Bool.or_false, Bool.or_true, Bool.and_false, Bool.and_true, Bool.true_or, Bool.false_or, Bool.true_and, Bool.false_and, true_and, and_true, List.any_cons, List.any_nil, tyNames, Option.map_some, iRn1, iRn2, iRn3, iLst, nIt, iTp, iEn, iZp, iSt, wipeD, atI0, atI1, atI2, atI3, ixN0, ixN1, ixN2, ixN3, wSub, wLt, wLe, wGt, wGe, wDiv, wMod, wPow, wShl, Mp.set_same, Mp.set_set, cSortedA, cDictP, wNewD, wEqS, nEqS, wFrzT, mExt, mCnt, nIxL, sAugS, wSlS, wJoin, cSumL, dUnl, cSortLL, cMinLL, wLenSetT, wLenDictT, mIndexB, wLenSetJ, wAddT, wSortSet, wDNewT, sDPutT, cSortDT, wBMd, wDGet1, wDGet2, mUpd, wPairs, wDisp, wLtS, cMinS, cListD, cGcd, cAbs])
    refine ⟨s8 2 (by omega), x_com [2, 2] 0 1 _ rfl (by decide) (by decide) (by decide) (by decide) v6 ⟨s8 4 (by omega), x_al [2, 2, 1, 1] 2 1 1 rfl (by decide) (by decide) (by decide) (by decide) v7 ⟨s8 0 (by omega), x_ends [] [] rfl (by decide) (by decide) rfl ⟨s8 3 (by omega), s8 8 (by omega), ?_⟩⟩⟩⟩
    ((try simp only [sSeq]); simp only [sRet, sRetN, sIf, sDrop, sNever, sNext, sBreak, sCont, sAsg, sPar, sPar3, sAug, dName, dNil, dCons, dTup, dSub, sSetL, wVar, wC, wFrz, wFrzK, wOp, wAdd, nAdd, nI, nI0, wMul, nMul, wNeg, wEq, nEq, wIsN, wB, wAndT, wOrT, wNotT, wAndV, wOrV, wNotV, wIfE, wChain, aNil, aCons, aStar, wLst, wTup, wIx, nIx, pNo, pSo, wSl, wRev, wRevE, mIndex, wLenSet, cRepr, wIsB, wCB, cLen, cAll, cSum, cMax, cMin, cSorted, cInt, cList, cTuple, cIsi, wBits, wLRg, wBM, wBM0, mChg, wDGet, wDIn, wDNew, sDPutD, wIn, nIn, wCall, wCallK, wNew, tYesD, startD, List.map_cons, List.map_nil, List.length_cons, List.length_nil, List.replicate, Nat.sub_self, List.append_nil, List.cons_append, List.nil_append, List.getElem?_cons_zero, List.getElem?_cons_succ, List.set_cons_zero, List.set_cons_succ, Nat.reduceSub, Nat.reduceAdd, ite_true, ite_false, if_true, if_false, Bool.false_eq_true, Bool.true_eq_false, Bool.not_true, Bool.not_false, Option.some.injEq, nrm_non, nrm_bl, nrm_int, nrm_str, nrm_ty, nrm_lst, nrm_tupC, nrm_dct, nrm_scr, nrm_setL, wFgt, tyN_non, tyN_bl, tyN_int, tyN_str, tyN_lst, tyN_tup, tyN_dct, keyD_int, keyD_str, isA, okT, beq_self_eq_true, String.reduceBEq, Bool.or_false, Bool.or_true, Bool.and_false, Bool.and_true, Bool.true_or, Bool.false_or, Bool.true_and, Bool.false_and, true_and, and_true, List.any_cons, List.any_nil, tyNames, Option.map_some, iRn1, iRn2, iRn3, iLst, nIt, iTp, iEn, iZp, iSt, wipeD, atI0, atI1, atI2, atI3, ixN0, ixN1, ixN2, ixN3, wSub, wLt, wLe, wGt, wGe, wDiv, wMod, wPow, wShl, Mp.set_same, Mp.set_set, cSortedA, cDictP, wNewD, wEqS, nEqS, wFrzT, mExt, mCnt, nIxL, sAugS, wSlS, wJoin, cSumL, dUnl, cSortLL, cMinLL, wLenSetT, wLenDictT, mIndexB, wLenSetJ, wAddT, wSortSet, wDNewT, sDPutT, cSortDT, wBMd, wDGet1, wDGet2, mUpd, wPairs, wDisp, wLtS, cMinS, cListD, cGcd, cAbs])
    have e11 : (10 : Int) ^ Int.toNat 11 = 100000000000 := by decide +kernel
    rw [e11]
    refine ⟨s8 0 (by omega), s8 1 (by omega), x_cp [] [4] [] rfl ⟨by decide, by decide, by decide⟩ (by decide) (by decide) (by decide) (by decide) rfl ⟨⟨by decide, by decide⟩, s8 1 (by omega), x_way [100000000000] 0 _ rfl (by decide) (by decide) (by decide) v8 ⟨s8 2 (by omega), s8 10 (by omega), ?_⟩⟩⟩
    ((try simp only [sSeq]); simp only [sRet, sRetN, sIf, sDrop, sNever, sNext, sBreak, sCont, sAsg, sPar, sPar3, sAug, dName, dNil, dCons, dTup, dSub, sSetL, wVar, wC, wFrz, wFrzK, wOp, wAdd, nAdd, nI, nI0, wMul, nMul, wNeg, wEq, nEq, wIsN, wB, wAndT, wOrT, wNotT, wAndV, wOrV, wNotV, wIfE, wChain, aNil, aCons, aStar, wLst, wTup, wIx, nIx, pNo, pSo, wSl, wRev, wRevE, mIndex, wLenSet, cRepr, wIsB, wCB, cLen, cAll, cSum, cMax, cMin, cSorted, cInt, cList, cTuple, cIsi, wBits, wLRg, wBM, wBM0, mChg, wDGet, wDIn, wDNew, sDPutD, wIn, nIn, wCall, wCallK, wNew, tYesD, startD, List.map_cons, List.map_nil, List.length_cons, List.length_nil, List.replicate, Nat.sub_self, List.append_nil, List.cons_append, List.nil_append, List.getElem?_cons_zero, List.getElem?_cons_succ, List.set_cons_zero, List.set_cons_succ, Nat.reduceSub, Nat.reduceAdd, ite_true, ite_false, if_true, if_false, Bool.false_eq_true, Bool.true_eq_false, Bool.not_true, Bool.not_false, Option.some.injEq, nrm_non, nrm_bl, nrm_int, nrm_str, nrm_ty, nrm_lst, nrm_tupC, nrm_dct, nrm_scr, nrm_setL, wFgt, tyN_non, tyN_bl, tyN_int, tyN_str, tyN_lst, tyN_tup, tyN_dct, keyD_int, keyD_str, isA, okT, beq_self_eq_true, String.reduceBEq, Bool.or_false, Bool.or_true, Bool.and_false, Bool.and_true, Bool.true_or, Bool.false_or, Bool.true_and, Bool.false_and, true_and, and_true, List.any_cons, List.any_nil, tyNames, Option.map_some, iRn1, iRn2, iRn3, iLst, nIt, iTp, iEn, iZp, iSt, wipeD, atI0, atI1, atI2, atI3, ixN0, ixN1, ixN2, ixN3, wSub, wLt, wLe, wGt, wGe, wDiv, wMod, wPow, wShl, Mp.set_same, Mp.set_set, cSortedA, cDictP, wNewD, wEqS, nEqS, wFrzT, mExt, mCnt, nIxL, sAugS, wSlS, wJoin, cSumL, dUnl, cSortLL, cMinLL, wLenSetT, wLenDictT, mIndexB, wLenSetJ, wAddT, wSortSet, wDNewT, sDPutT, cSortDT, wBMd, wDGet1, wDGet2, mUpd, wPairs, wDisp, wLtS, cMinS, cListD, cGcd, cAbs])
    refine ⟨s8 3 (by omega), s8 6 (by omega), s8 2 (by omega), s8 3 (by omega), s8 2 (by omega), s8 0 (by omega), s8 0 (by omega), s8 1 (by omega), s8 10 (by omega), _, rfl, by decide +kernel, ?_⟩
    refine ⟨s8 2 (by omega), s8 2 (by omega), s8 2 (by omega), s8 2 (by omega), x_al [2, 2] 2 1 2 rfl (by decide) (by decide) (by decide) (by decide) v9 ⟨s8 3 (by omega), x_al [2, 2, 1] 3 5 9 rfl (by decide) (by decide) (by decide) (by decide) v10 ⟨s8 2 (by omega), _, rfl, by decide +kernel, q _⟩⟩⟩
end
def d_is_whole : He.DefD := ⟨("is_whole", none), "is_whole", "is_whole", defArgs s_is_whole, defBody s_is_whole, defScope s_is_whole, [], []⟩
def d_fraction : He.DefD := ⟨("fraction", none), "fraction", "fraction", defArgs s_fraction, defBody s_fraction, defScope s_fraction, [], []⟩
def d_way_there : He.DefD := ⟨("way_there", none), "way_there", "way_there", defArgs s_way_there, defBody s_way_there, defScope s_way_there, [], []⟩
def d_ends_there : He.DefD := ⟨("ends_there", none), "ends_there", "ends_there", defArgs s_ends_there, defBody s_ends_there, defScope s_ends_there, [], []⟩
def d_law_purse : He.DefD := ⟨("_law_purse", none), "_law_purse", "_law_purse", defArgs s_law_purse, defBody s_law_purse, defScope s_law_purse, [], []⟩
def d_law_mixed : He.DefD := ⟨("_law_mixed", none), "_law_mixed", "_law_mixed", defArgs s_law_mixed, defBody s_law_mixed, defScope s_law_mixed, [], []⟩
def d_law_way : He.DefD := ⟨("_law_way", none), "_law_way", "_law_way", defArgs s_law_way, defBody s_law_way, defScope s_law_way, [], []⟩
def d_law_part : He.DefD := ⟨("_law_part", none), "_law_part", "_law_part", defArgs s_law_part, defBody s_law_part, defScope s_law_part, [], []⟩
def d_is_count : He.DefD := ⟨("is_count", none), "is_count", "is_count", defArgs s_is_count, defBody s_is_count, defScope s_is_count, [.int 0], []⟩
def d_law_draw : He.DefD := ⟨("_law_draw", none), "_law_draw", "_law_draw", defArgs s_law_draw, defBody s_law_draw, defScope s_law_draw, [], []⟩
def d_law_purses : He.DefD := ⟨("_law_purses", none), "_law_purses", "_law_purses", defArgs s_law_purses, defBody s_law_purses, defScope s_law_purses, [], []⟩
def d_is_pack : He.DefD := ⟨("is_pack", none), "is_pack", "is_pack", defArgs s_is_pack, defBody s_is_pack, defScope s_is_pack, [], []⟩
def d_are_counts : He.DefD := ⟨("are_counts", none), "are_counts", "are_counts", defArgs s_are_counts, defBody s_are_counts, defScope s_are_counts, [], []⟩
def d_law_one_of : He.DefD := ⟨("_law_one_of", none), "_law_one_of", "_law_one_of", defArgs s_law_one_of, defBody s_law_one_of, defScope s_law_one_of, [], []⟩
def d_law_shuffled : He.DefD := ⟨("_law_shuffled", none), "_law_shuffled", "_law_shuffled", defArgs s_law_shuffled, defBody s_law_shuffled, defScope s_law_shuffled, [], []⟩
def d_check_pack : He.DefD := ⟨("check_pack", none), "check_pack", "check_pack", defArgs s_check_pack, defBody s_check_pack, defScope s_check_pack, [], []⟩
def d_check_counts : He.DefD := ⟨("check_counts", none), "check_counts", "check_counts", defArgs s_check_counts, defBody s_check_counts, defScope s_check_counts, [], []⟩
def d_law_counts : He.DefD := ⟨("_law_counts", none), "_law_counts", "_law_counts", defArgs s_law_counts, defBody s_law_counts, defScope s_law_counts, [], []⟩
def d_check_start : He.DefD := ⟨("check_start", none), "check_start", "check_start", defArgs s_check_start, defBody s_check_start, defScope s_check_start, [], []⟩
def d_ends_of : He.DefD := ⟨("ends_of", none), "ends_of", "ends_of", defArgs s_ends_of, defBody s_ends_of, defScope s_ends_of, [], []⟩
def d_check_starts : He.DefD := ⟨("check_starts", none), "check_starts", "check_starts", defArgs s_check_starts, defBody s_check_starts, defScope s_check_starts, [], []⟩
def d_counts_of_pack : He.DefD := ⟨("counts_of_pack", none), "counts_of_pack", "counts_of_pack", defArgs s_counts_of_pack, defBody s_counts_of_pack, defScope s_counts_of_pack, [], []⟩
def d_way_from : He.DefD := ⟨("way_from", none), "way_from", "way_from", defArgs s_way_from, defBody s_way_from, defScope s_way_from, [], []⟩
def d_first_common : He.DefD := ⟨("first_common", none), "first_common", "first_common", defArgs s_first_common, defBody s_first_common, defScope s_first_common, [], []⟩
def d_alike_share : He.DefD := ⟨("alike_share", none), "alike_share", "alike_share", defArgs s_alike_share, defBody s_alike_share, defScope s_alike_share, [], []⟩
def d_law_exact : He.DefD := ⟨("_law_exact", none), "_law_exact", "_law_exact", defArgs s_law_exact, defBody s_law_exact, defScope s_law_exact, [], []⟩
def d_law_case_right : He.DefD := ⟨("_law_case_right", none), "_law_case_right", "_law_case_right", defArgs s_law_case_right, defBody s_law_case_right, defScope s_law_case_right, [], []⟩
def d_law_pack_right : He.DefD := ⟨("_law_pack_right", none), "_law_pack_right", "_law_pack_right", defArgs s_law_pack_right, defBody s_law_pack_right, defScope s_law_pack_right, [], []⟩
def d_law : He.DefD := ⟨("law", none), "law", "law", defArgs s_law, defBody s_law, defScope s_law, [], []⟩
def fnL : List He.DefD := [d_is_whole, d_fraction, d_way_there, d_ends_there, d_law_purse, d_law_mixed, d_law_way, d_law_part, d_is_count, d_law_draw, d_law_purses, d_is_pack, d_are_counts, d_law_one_of, d_law_shuffled, d_check_pack, d_check_counts, d_law_counts, d_check_start, d_ends_of, d_check_starts, d_counts_of_pack, d_way_from, d_first_common, d_alike_share, d_law_exact, d_law_case_right, d_law_pack_right, d_law]
def faL : List He.Fa := [.glo "is_whole", .glo "fraction", .glo "way_there", .glo "ends_there", .glo "_law_purse", .glo "_law_mixed", .glo "_law_way", .glo "_law_part", .glo "is_count", .glo "_law_draw", .glo "_law_purses", .glo "is_pack", .glo "are_counts", .glo "_law_one_of", .glo "_law_shuffled", .glo "check_pack", .glo "check_counts", .glo "_law_counts", .glo "check_start", .glo "ends_of", .glo "check_starts", .glo "counts_of_pack", .glo "way_from", .glo "first_common", .glo "alike_share", .glo "_law_exact", .glo "_law_case_right", .glo "_law_pack_right", .glo "law", .free "isinstance", .free "int", .free "bool", .free "len", .free "range", .free "sum", .free "max", .free "min", .free "list", .free "all", .free "set", .free "tuple", .free "zip", .free "str", .free "repr"]
abbrev rowL : PySem.W.OpenRow := PySem.W.OpenLaw.row PySem.Challenge.rw_suretricks_k62_whole_counting_on
def bfL : List (PySem.Str × String) := [("gcd", "math.gcd")]
abbrev hkL : PySem.W.Hook := hookB 4 bfL faL fnL
def obL (s : PySem.W.SharedT) : AlB := obsBG 4 bfL faL fnL (HandSHeadRun.getT s)
theorem obL_eq (s : PySem.W.SharedT) : obL s = hkL.obs s.abs := obsBG_eq (HandSHeadRun.getT_eq s)
def loose0 : List PySem.Str := ["is_whole", "is_count", "TrickError", "InvalidCounts", "InvalidPack", "is_pack", "check_pack", "fraction", "InvalidStart", "InvalidOtherStart", "InvalidStarts", "InvalidValues", "are_counts", "check_counts", "check_start"]
def loose1 : List PySem.Str := ["way_there", "way_from", "ends_there", "ends_of", "first_common", "check_starts", "alike_share", "counts_of_pack", "_law_purse", "_law_mixed", "_law_draw", "_law_purses", "_law_one_of", "_law_shuffled", "_law_exact"]
def loose2 : List PySem.Str := ["_law_way", "_law_counts", "_law_part", "_law_case_right", "_law_pack_right"]
def looseL : List PySem.Str := loose0 ++ loose1 ++ loose2
theorem runL (w : World) : HandSHeadRun.RunEqI rowL (PySem.W.view rowL.prog [0, 43]) hkL obL 8100 looseL w := by
  unfold HandSHeadRun.RunEqI
  kernel_rfl
theorem factsL {P : Program} {w : World} {K : PySem.W.Frag} {h : Heap} {mg : Str → Option Value} {f : Addr} (X : K.In h) (G : h.Ns mainGlobals mg) (hfa : mg ("law" : Str) = some (.ref f)) (c0 : SaysB bfL faL fnL K) :
    ∃ fd : FuncData, (∀ (s : Shared) (v : Value), BindsTo s fd ⟨[v], []⟩ [("script", v)]) ∧ ∀ base : Heap, K.In base → base.Ns mainGlobals mg → FnG P w K mg base 11 f fd ["script"] (spD (R_law K)) := by
  have c := c0.d
  obtain ⟨fd_is_whole, F_is_whole⟩ : ∃ fd, FnP K "is_whole" s_is_whole [] (He.fAd K ("is_whole", none)) fd := c.def_ 0 (d := d_is_whole) rfl
  have g_is_whole := He.glo_ok X G (c.fact 0 (f := .glo "is_whole") rfl)
  have b_is_whole : Binds K fd_is_whole ["value"] [] := F_is_whole.bindsN fun _ _ _ _ _ _ us hl => match us, hl with | [_], _ => rfl
  obtain ⟨fd_fraction, F_fraction⟩ : ∃ fd, FnP K "fraction" s_fraction [] (He.fAd K ("fraction", none)) fd := c.def_ 1 (d := d_fraction) rfl
  have g_fraction := He.glo_ok X G (c.fact 1 (f := .glo "fraction") rfl)
  have b_fraction : Binds K fd_fraction ["above", "below"] [] := F_fraction.bindsN fun _ _ _ _ _ _ us hl => match us, hl with | [_, _], _ => rfl
  obtain ⟨fd_way_there, F_way_there⟩ : ∃ fd, FnP K "way_there" s_way_there [] (He.fAd K ("way_there", none)) fd := c.def_ 2 (d := d_way_there) rfl
  have g_way_there := He.glo_ok X G (c.fact 2 (f := .glo "way_there") rfl)
  have b_way_there : Binds K fd_way_there ["counts", "start"] [] := F_way_there.bindsN fun _ _ _ _ _ _ us hl => match us, hl with | [_, _], _ => rfl
  obtain ⟨fd_ends_there, F_ends_there⟩ : ∃ fd, FnP K "ends_there" s_ends_there [] (He.fAd K ("ends_there", none)) fd := c.def_ 3 (d := d_ends_there) rfl
  have g_ends_there := He.glo_ok X G (c.fact 3 (f := .glo "ends_there") rfl)
  have b_ends_there : Binds K fd_ends_there ["counts"] [] := F_ends_there.bindsN fun _ _ _ _ _ _ us hl => match us, hl with | [_], _ => rfl
  obtain ⟨fd_law_purse, F_law_purse⟩ : ∃ fd, FnP K "_law_purse" s_law_purse [] (He.fAd K ("_law_purse", none)) fd := c.def_ 4 (d := d_law_purse) rfl
  have g_law_purse := He.glo_ok X G (c.fact 4 (f := .glo "_law_purse") rfl)
  have b_law_purse : Binds K fd_law_purse ["script", "at"] [] := F_law_purse.bindsN fun _ _ _ _ _ _ us hl => match us, hl with | [_, _], _ => rfl
  obtain ⟨fd_law_mixed, F_law_mixed⟩ : ∃ fd, FnP K "_law_mixed" s_law_mixed [] (He.fAd K ("_law_mixed", none)) fd := c.def_ 5 (d := d_law_mixed) rfl
  have g_law_mixed := He.glo_ok X G (c.fact 5 (f := .glo "_law_mixed") rfl)
  have b_law_mixed : Binds K fd_law_mixed ["seed", "spin", "at"] [] := F_law_mixed.bindsN fun _ _ _ _ _ _ us hl => match us, hl with | [_, _, _], _ => rfl
  obtain ⟨fd_law_way, F_law_way⟩ : ∃ fd, FnP K "_law_way" s_law_way [] (He.fAd K ("_law_way", none)) fd := c.def_ 6 (d := d_law_way) rfl
  have g_law_way := He.glo_ok X G (c.fact 6 (f := .glo "_law_way") rfl)
  have b_law_way : Binds K fd_law_way ["counts", "start"] [] := F_law_way.bindsN fun _ _ _ _ _ _ us hl => match us, hl with | [_, _], _ => rfl
  obtain ⟨fd_law_part, F_law_part⟩ : ∃ fd, FnP K "_law_part" s_law_part [] (He.fAd K ("_law_part", none)) fd := c.def_ 7 (d := d_law_part) rfl
  have g_law_part := He.glo_ok X G (c.fact 7 (f := .glo "_law_part") rfl)
  have b_law_part : Binds K fd_law_part ["above", "below"] [] := F_law_part.bindsN fun _ _ _ _ _ _ us hl => match us, hl with | [_, _], _ => rfl
  obtain ⟨fd_is_count, F_is_count⟩ : ∃ fd, FnP K "is_count" s_is_count [.int 0] (He.fAd K ("is_count", none)) fd := c.def_ 8 (d := d_is_count) rfl
  have g_is_count := He.glo_ok X G (c.fact 8 (f := .glo "is_count") rfl)
  obtain ⟨da_is_count, va_is_count, ba_is_count⟩ := F_is_count.binds1 (ps := ["value", "least"]) 2 1 (by simp) rfl fun T _ _ _ _ _ _ us its h1 h2 => match us, h1, its, h2 with | [_, _], _, [_], _ => ⟨_, rfl, rfl⟩
  cases va_is_count
  obtain ⟨ds_is_count, v_is_count, b_is_count⟩ := F_is_count.binds1 (ps := ["value", "least"]) 1 0 (by simp) rfl fun T _ _ _ _ _ _ us its h1 h2 => match us, h1, its, h2 with | [_], _, [_], _ => ⟨_, rfl, rfl⟩
  obtain ⟨fd_law_draw, F_law_draw⟩ : ∃ fd, FnP K "_law_draw" s_law_draw [] (He.fAd K ("_law_draw", none)) fd := c.def_ 9 (d := d_law_draw) rfl
  have g_law_draw := He.glo_ok X G (c.fact 9 (f := .glo "_law_draw") rfl)
  have b_law_draw : Binds K fd_law_draw ["purse", "many"] [] := F_law_draw.bindsN fun _ _ _ _ _ _ us hl => match us, hl with | [_, _], _ => rfl
  obtain ⟨fd_law_purses, F_law_purses⟩ : ∃ fd, FnP K "_law_purses" s_law_purses [] (He.fAd K ("_law_purses", none)) fd := c.def_ 10 (d := d_law_purses) rfl
  have g_law_purses := He.glo_ok X G (c.fact 10 (f := .glo "_law_purses") rfl)
  have b_law_purses : Binds K fd_law_purses ["script", "few"] [] := F_law_purses.bindsN fun _ _ _ _ _ _ us hl => match us, hl with | [_, _], _ => rfl
  obtain ⟨fd_is_pack, F_is_pack⟩ : ∃ fd, FnP K "is_pack" s_is_pack [] (He.fAd K ("is_pack", none)) fd := c.def_ 11 (d := d_is_pack) rfl
  have g_is_pack := He.glo_ok X G (c.fact 11 (f := .glo "is_pack") rfl)
  have b_is_pack : Binds K fd_is_pack ["value"] [] := F_is_pack.bindsN fun _ _ _ _ _ _ us hl => match us, hl with | [_], _ => rfl
  obtain ⟨fd_are_counts, F_are_counts⟩ : ∃ fd, FnP K "are_counts" s_are_counts [] (He.fAd K ("are_counts", none)) fd := c.def_ 12 (d := d_are_counts) rfl
  have g_are_counts := He.glo_ok X G (c.fact 12 (f := .glo "are_counts") rfl)
  have b_are_counts : Binds K fd_are_counts ["value"] [] := F_are_counts.bindsN fun _ _ _ _ _ _ us hl => match us, hl with | [_], _ => rfl
  obtain ⟨fd_law_one_of, F_law_one_of⟩ : ∃ fd, FnP K "_law_one_of" s_law_one_of [] (He.fAd K ("_law_one_of", none)) fd := c.def_ 13 (d := d_law_one_of) rfl
  have g_law_one_of := He.glo_ok X G (c.fact 13 (f := .glo "_law_one_of") rfl)
  have b_law_one_of : Binds K fd_law_one_of ["purse", "some"] [] := F_law_one_of.bindsN fun _ _ _ _ _ _ us hl => match us, hl with | [_, _], _ => rfl
  obtain ⟨fd_law_shuffled, F_law_shuffled⟩ : ∃ fd, FnP K "_law_shuffled" s_law_shuffled [] (He.fAd K ("_law_shuffled", none)) fd := c.def_ 14 (d := d_law_shuffled) rfl
  have g_law_shuffled := He.glo_ok X G (c.fact 14 (f := .glo "_law_shuffled") rfl)
  have b_law_shuffled : Binds K fd_law_shuffled ["purse", "some"] [] := F_law_shuffled.bindsN fun _ _ _ _ _ _ us hl => match us, hl with | [_, _], _ => rfl
  obtain ⟨fd_check_pack, F_check_pack⟩ : ∃ fd, FnP K "check_pack" s_check_pack [] (He.fAd K ("check_pack", none)) fd := c.def_ 15 (d := d_check_pack) rfl
  have g_check_pack := He.glo_ok X G (c.fact 15 (f := .glo "check_pack") rfl)
  have b_check_pack : Binds K fd_check_pack ["value"] [] := F_check_pack.bindsN fun _ _ _ _ _ _ us hl => match us, hl with | [_], _ => rfl
  obtain ⟨fd_check_counts, F_check_counts⟩ : ∃ fd, FnP K "check_counts" s_check_counts [] (He.fAd K ("check_counts", none)) fd := c.def_ 16 (d := d_check_counts) rfl
  have g_check_counts := He.glo_ok X G (c.fact 16 (f := .glo "check_counts") rfl)
  have b_check_counts : Binds K fd_check_counts ["counts"] [] := F_check_counts.bindsN fun _ _ _ _ _ _ us hl => match us, hl with | [_], _ => rfl
  obtain ⟨fd_law_counts, F_law_counts⟩ : ∃ fd, FnP K "_law_counts" s_law_counts [] (He.fAd K ("_law_counts", none)) fd := c.def_ 17 (d := d_law_counts) rfl
  have g_law_counts := He.glo_ok X G (c.fact 17 (f := .glo "_law_counts") rfl)
  have b_law_counts : Binds K fd_law_counts ["purse", "most"] [] := F_law_counts.bindsN fun _ _ _ _ _ _ us hl => match us, hl with | [_, _], _ => rfl
  obtain ⟨fd_check_start, F_check_start⟩ : ∃ fd, FnP K "check_start" s_check_start [] (He.fAd K ("check_start", none)) fd := c.def_ 18 (d := d_check_start) rfl
  have g_check_start := He.glo_ok X G (c.fact 18 (f := .glo "check_start") rfl)
  have b_check_start : Binds K fd_check_start ["counts", "start"] [] := F_check_start.bindsN fun _ _ _ _ _ _ us hl => match us, hl with | [_, _], _ => rfl
  obtain ⟨fd_ends_of, F_ends_of⟩ : ∃ fd, FnP K "ends_of" s_ends_of [] (He.fAd K ("ends_of", none)) fd := c.def_ 19 (d := d_ends_of) rfl
  have g_ends_of := He.glo_ok X G (c.fact 19 (f := .glo "ends_of") rfl)
  have b_ends_of : Binds K fd_ends_of ["counts"] [] := F_ends_of.bindsN fun _ _ _ _ _ _ us hl => match us, hl with | [_], _ => rfl
  have KB_ends_of_0 : KBinds K fd_ends_of ["counts"] ["counts"] (pick 0 1 [0]) (pick 0 1 [0]) := kb_of 0 1 [0] F_ends_of (by simp) fun _ _ _ _ _ _ us ws h1 h2 => match us, h1, ws, h2 with | [], _, [_], _ => rfl
  obtain ⟨fd_check_starts, F_check_starts⟩ : ∃ fd, FnP K "check_starts" s_check_starts [] (He.fAd K ("check_starts", none)) fd := c.def_ 20 (d := d_check_starts) rfl
  have g_check_starts := He.glo_ok X G (c.fact 20 (f := .glo "check_starts") rfl)
  have b_check_starts : Binds K fd_check_starts ["counts", "starts"] [] := F_check_starts.bindsN fun _ _ _ _ _ _ us hl => match us, hl with | [_, _], _ => rfl
  obtain ⟨fd_counts_of_pack, F_counts_of_pack⟩ : ∃ fd, FnP K "counts_of_pack" s_counts_of_pack [] (He.fAd K ("counts_of_pack", none)) fd := c.def_ 21 (d := d_counts_of_pack) rfl
  have g_counts_of_pack := He.glo_ok X G (c.fact 21 (f := .glo "counts_of_pack") rfl)
  have b_counts_of_pack : Binds K fd_counts_of_pack ["pack", "values"] [] := F_counts_of_pack.bindsN fun _ _ _ _ _ _ us hl => match us, hl with | [_, _], _ => rfl
  have KB_counts_of_pack_4 : KBinds K fd_counts_of_pack ["pack", "values"] ["values", "pack"] (pick 0 2 [1, 0]) (pick 0 2 [1, 0]) := kb_of 0 2 [1, 0] F_counts_of_pack (by simp) fun _ _ _ _ _ _ us ws h1 h2 => match us, h1, ws, h2 with | [], _, [_, _], _ => rfl
  obtain ⟨fd_way_from, F_way_from⟩ : ∃ fd, FnP K "way_from" s_way_from [] (He.fAd K ("way_from", none)) fd := c.def_ 22 (d := d_way_from) rfl
  have g_way_from := He.glo_ok X G (c.fact 22 (f := .glo "way_from") rfl)
  have b_way_from : Binds K fd_way_from ["counts", "start"] [] := F_way_from.bindsN fun _ _ _ _ _ _ us hl => match us, hl with | [_, _], _ => rfl
  have KB_way_from_1 : KBinds K fd_way_from ["counts", "start"] ["start", "counts"] (pick 0 2 [1, 0]) (pick 0 2 [1, 0]) := kb_of 0 2 [1, 0] F_way_from (by simp) fun _ _ _ _ _ _ us ws h1 h2 => match us, h1, ws, h2 with | [], _, [_, _], _ => rfl
  obtain ⟨fd_first_common, F_first_common⟩ : ∃ fd, FnP K "first_common" s_first_common [] (He.fAd K ("first_common", none)) fd := c.def_ 23 (d := d_first_common) rfl
  have g_first_common := He.glo_ok X G (c.fact 23 (f := .glo "first_common") rfl)
  have b_first_common : Binds K fd_first_common ["counts", "one", "other"] [] := F_first_common.bindsN fun _ _ _ _ _ _ us hl => match us, hl with | [_, _, _], _ => rfl
  have KB_first_common_2 : KBinds K fd_first_common ["counts", "one", "other"] ["other", "one", "counts"] (pick 0 3 [2, 1, 0]) (pick 0 3 [2, 1, 0]) := kb_of 0 3 [2, 1, 0] F_first_common (by simp) fun _ _ _ _ _ _ us ws h1 h2 => match us, h1, ws, h2 with | [], _, [_, _, _], _ => rfl
  obtain ⟨fd_alike_share, F_alike_share⟩ : ∃ fd, FnP K "alike_share" s_alike_share [] (He.fAd K ("alike_share", none)) fd := c.def_ 24 (d := d_alike_share) rfl
  have g_alike_share := He.glo_ok X G (c.fact 24 (f := .glo "alike_share") rfl)
  have b_alike_share : Binds K fd_alike_share ["counts", "starts"] [] := F_alike_share.bindsN fun _ _ _ _ _ _ us hl => match us, hl with | [_, _], _ => rfl
  have KB_alike_share_3 : KBinds K fd_alike_share ["counts", "starts"] ["starts", "counts"] (pick 0 2 [1, 0]) (pick 0 2 [1, 0]) := kb_of 0 2 [1, 0] F_alike_share (by simp) fun _ _ _ _ _ _ us ws h1 h2 => match us, h1, ws, h2 with | [], _, [_, _], _ => rfl
  obtain ⟨fd_law_exact, F_law_exact⟩ : ∃ fd, FnP K "_law_exact" s_law_exact [] (He.fAd K ("_law_exact", none)) fd := c.def_ 25 (d := d_law_exact) rfl
  have g_law_exact := He.glo_ok X G (c.fact 25 (f := .glo "_law_exact") rfl)
  have b_law_exact : Binds K fd_law_exact ["mine", "theirs"] [] := F_law_exact.bindsN fun _ _ _ _ _ _ us hl => match us, hl with | [_, _], _ => rfl
  obtain ⟨fd_law_case_right, F_law_case_right⟩ : ∃ fd, FnP K "_law_case_right" s_law_case_right [] (He.fAd K ("_law_case_right", none)) fd := c.def_ 26 (d := d_law_case_right) rfl
  have g_law_case_right := He.glo_ok X G (c.fact 26 (f := .glo "_law_case_right") rfl)
  have b_law_case_right : Binds K fd_law_case_right ["purse"] [] := F_law_case_right.bindsN fun _ _ _ _ _ _ us hl => match us, hl with | [_], _ => rfl
  obtain ⟨fd_law_pack_right, F_law_pack_right⟩ : ∃ fd, FnP K "_law_pack_right" s_law_pack_right [] (He.fAd K ("_law_pack_right", none)) fd := c.def_ 27 (d := d_law_pack_right) rfl
  have g_law_pack_right := He.glo_ok X G (c.fact 27 (f := .glo "_law_pack_right") rfl)
  have b_law_pack_right : Binds K fd_law_pack_right ["purse"] [] := F_law_pack_right.bindsN fun _ _ _ _ _ _ us hl => match us, hl with | [_], _ => rfl
  obtain ⟨fd_law, F_law⟩ : ∃ fd, FnP K "law" s_law [] (He.fAd K ("law", none)) fd := c.def_ 28 (d := d_law) rfl
  have g_law := He.glo_ok X G (c.fact 28 (f := .glo "law") rfl)
  have m_isinstance := He.free_ok X G (c.fact 29 (f := .free "isinstance") rfl)
  have m_int := He.free_ok X G (c.fact 30 (f := .free "int") rfl)
  have m_bool := He.free_ok X G (c.fact 31 (f := .free "bool") rfl)
  have m_len := He.free_ok X G (c.fact 32 (f := .free "len") rfl)
  have m_range := He.free_ok X G (c.fact 33 (f := .free "range") rfl)
  have m_sum := He.free_ok X G (c.fact 34 (f := .free "sum") rfl)
  have m_max := He.free_ok X G (c.fact 35 (f := .free "max") rfl)
  have m_min := He.free_ok X G (c.fact 36 (f := .free "min") rfl)
  have m_list := He.free_ok X G (c.fact 37 (f := .free "list") rfl)
  have m_all := He.free_ok X G (c.fact 38 (f := .free "all") rfl)
  have m_set := He.free_ok X G (c.fact 39 (f := .free "set") rfl)
  have m_tuple := He.free_ok X G (c.fact 40 (f := .free "tuple") rfl)
  have m_zip := He.free_ok X G (c.fact 41 (f := .free "zip") rfl)
  have m_str := He.free_ok X G (c.fact 42 (f := .free "str") rfl)
  have m_repr := He.free_ok X G (c.fact 43 (f := .free "repr") rfl)
  have m_gcd : mg "gcd" = some (.builtin "math.gcd") := c0.bfun X G 0 (p := ("gcd", "math.gcd")) rfl
  have e := hfa.symm.trans g_law
  cases e
  refine ⟨fd_law, fun s v => FunD.bindsA (ps := ["script"]) F_law (fun _ _ _ _ _ _ us hl => match us, hl with | [_], _ => rfl) s [v] rfl, fun base _ _ => ?_⟩
  have G_is_whole : Kn P w K mg base "is_whole" ["value"] R_is_whole 1 [] [] _ fd_is_whole := ⟨ok_is_whole F_is_whole m_isinstance m_int m_bool, g_is_whole, F_is_whole.kp, b_is_whole, .nil⟩
  have G_fraction : Kn P w K mg base "fraction" ["above", "below"] R_fraction 1 [] [] _ fd_fraction := ⟨ok_fraction F_fraction m_gcd, g_fraction, F_fraction.kp, b_fraction, .nil⟩
  have G_way_there : Kn P w K mg base "way_there" ["counts", "start"] R_way_there 1 [] [] _ fd_way_there := ⟨ok_way_there F_way_there m_len, g_way_there, F_way_there.kp, b_way_there, .nil⟩
  have G_ends_there : Kn P w K mg base "ends_there" ["counts"] R_ends_there 1 [] [] _ fd_ends_there := ⟨ok_ends_there F_ends_there m_len m_range, g_ends_there, F_ends_there.kp, b_ends_there, .nil⟩
  have G_law_purse : Kn P w K mg base "_law_purse" ["script", "at"] (R_law_purse K) 1 [] [] _ fd_law_purse := ⟨ok_law_purse F_law_purse m_sum m_int m_max, g_law_purse, F_law_purse.kp, b_law_purse, .nil⟩
  have G_law_mixed : Kn P w K mg base "_law_mixed" ["seed", "spin", "at"] R_law_mixed 1 [] [] _ fd_law_mixed := ⟨ok_law_mixed F_law_mixed m_int, g_law_mixed, F_law_mixed.kp, b_law_mixed, .nil⟩
  have G_law_way : Kn P w K mg base "_law_way" ["counts", "start"] R_law_way 1 [] [] _ fd_law_way := ⟨ok_law_way F_law_way m_len, g_law_way, F_law_way.kp, b_law_way, .nil⟩
  have G_law_part : Kn P w K mg base "_law_part" ["above", "below"] R_law_part 1 [] [] _ fd_law_part := ⟨ok_law_part F_law_part , g_law_part, F_law_part.kp, b_law_part, .nil⟩
  have G_is_count : Kn P w K mg base "is_count" ["value", "least"] R_is_count 2 [.int 0] ds_is_count _ fd_is_count := ⟨ok_is_count F_is_count G_is_whole m_max, g_is_count, F_is_count.kp, b_is_count, v_is_count⟩
  have G_is_count_all : Kn P w K mg base "is_count" ["value", "least"] R_is_count 2 [] [] _ fd_is_count := ⟨G_is_count.ok, G_is_count.m, G_is_count.kp, ba_is_count, .nil⟩
  have G_law_draw : Kn P w K mg base "_law_draw" ["purse", "many"] R_law_draw 2 [] [] _ fd_law_draw := ⟨ok_law_draw F_law_draw G_law_mixed m_int m_range, g_law_draw, F_law_draw.kp, b_law_draw, .nil⟩
  have G_law_purses : Kn P w K mg base "_law_purses" ["script", "few"] (R_law_purses K) 2 [] [] _ fd_law_purses := ⟨ok_law_purses F_law_purses G_law_purse m_range m_max m_min m_len, g_law_purses, F_law_purses.kp, b_law_purses, .nil⟩
  have G_is_pack : Kn P w K mg base "is_pack" ["value"] R_is_pack 3 [] [] _ fd_is_pack := ⟨ok_is_pack F_is_pack G_is_count m_isinstance m_list m_all m_len m_set, g_is_pack, F_is_pack.kp, b_is_pack, .nil⟩
  have G_are_counts : Kn P w K mg base "are_counts" ["value"] R_are_counts 3 [] [] _ fd_are_counts := ⟨ok_are_counts F_are_counts G_is_count_all m_isinstance m_list m_all, g_are_counts, F_are_counts.kp, b_are_counts, .nil⟩
  have G_law_one_of : Kn P w K mg base "_law_one_of" ["purse", "some"] R_law_one_of 3 [] [] _ fd_law_one_of := ⟨ok_law_one_of F_law_one_of G_law_draw m_len, g_law_one_of, F_law_one_of.kp, b_law_one_of, .nil⟩
  have G_law_shuffled : Kn P w K mg base "_law_shuffled" ["purse", "some"] R_law_shuffled 3 [] [] _ fd_law_shuffled := ⟨ok_law_shuffled F_law_shuffled G_law_draw m_len, g_law_shuffled, F_law_shuffled.kp, b_law_shuffled, .nil⟩
  have G_check_pack : Kn P w K mg base "check_pack" ["value"] R_check_pack 4 [] [] _ fd_check_pack := ⟨ok_check_pack F_check_pack G_is_pack, g_check_pack, F_check_pack.kp, b_check_pack, .nil⟩
  have G_check_counts : Kn P w K mg base "check_counts" ["counts"] R_check_counts 4 [] [] _ fd_check_counts := ⟨ok_check_counts F_check_counts G_are_counts, g_check_counts, F_check_counts.kp, b_check_counts, .nil⟩
  have G_law_counts : Kn P w K mg base "_law_counts" ["purse", "most"] R_law_counts 4 [] [] _ fd_law_counts := ⟨ok_law_counts F_law_counts G_law_one_of G_law_draw m_range, g_law_counts, F_law_counts.kp, b_law_counts, .nil⟩
  have G_check_start : Kn P w K mg base "check_start" ["counts", "start"] R_check_start 5 [] [] _ fd_check_start := ⟨ok_check_start F_check_start G_check_counts G_is_count m_len, g_check_start, F_check_start.kp, b_check_start, .nil⟩
  have G_ends_of : Kn P w K mg base "ends_of" ["counts"] R_ends_of 5 [] [] _ fd_ends_of := ⟨ok_ends_of F_ends_of G_check_counts G_ends_there, g_ends_of, F_ends_of.kp, b_ends_of, .nil⟩
  have G_check_starts : Kn P w K mg base "check_starts" ["counts", "starts"] R_check_starts 5 [] [] _ fd_check_starts := ⟨ok_check_starts F_check_starts G_check_counts G_is_count_all m_len, g_check_starts, F_check_starts.kp, b_check_starts, .nil⟩
  have G_counts_of_pack : Kn P w K mg base "counts_of_pack" ["pack", "values"] R_counts_of_pack 5 [] [] _ fd_counts_of_pack := ⟨ok_counts_of_pack F_counts_of_pack G_check_pack G_are_counts m_len, g_counts_of_pack, F_counts_of_pack.kp, b_counts_of_pack, .nil⟩
  have G_way_from : Kn P w K mg base "way_from" ["counts", "start"] R_way_from 6 [] [] _ fd_way_from := ⟨ok_way_from F_way_from G_check_start G_way_there, g_way_from, F_way_from.kp, b_way_from, .nil⟩
  have G_first_common : Kn P w K mg base "first_common" ["counts", "one", "other"] R_first_common 6 [] [] _ fd_first_common := ⟨ok_first_common F_first_common G_check_start G_is_count G_way_there m_len, g_first_common, F_first_common.kp, b_first_common, .nil⟩
  have G_alike_share : Kn P w K mg base "alike_share" ["counts", "starts"] R_alike_share 6 [] [] _ fd_alike_share := ⟨ok_alike_share F_alike_share G_check_starts G_ends_there G_fraction m_sum, g_alike_share, F_alike_share.kp, b_alike_share, .nil⟩
  have G_law_exact : Kn P w K mg base "_law_exact" ["mine", "theirs"] R_law_exact 9 [] [] _ fd_law_exact := ⟨ok_law_exact 8 F_law_exact m_isinstance m_tuple m_list m_len m_all m_zip m_int m_str m_bool g_law_exact b_law_exact, g_law_exact, F_law_exact.kp, b_law_exact, .nil⟩
  have G_law_case_right : Kn P w K mg base "_law_case_right" ["purse"] R_law_case_right 10 [] [] _ fd_law_case_right := ⟨ok_law_case_right F_law_case_right G_law_counts G_law_draw G_law_way G_law_part G_alike_share G_first_common G_ends_of G_way_from G_law_exact KB_ends_of_0 KB_way_from_1 KB_first_common_2 KB_alike_share_3 m_len m_repr m_range, g_law_case_right, F_law_case_right.kp, b_law_case_right, .nil⟩
  have G_law_pack_right : Kn P w K mg base "_law_pack_right" ["purse"] R_law_pack_right 10 [] [] _ fd_law_pack_right := ⟨ok_law_pack_right F_law_pack_right G_law_draw G_law_shuffled G_counts_of_pack G_law_exact KB_counts_of_pack_4 m_range m_list m_len m_repr, g_law_pack_right, F_law_pack_right.kp, b_law_pack_right, .nil⟩
  exact ok_law F_law G_law_purses G_law_case_right G_law_pack_right G_first_common G_ends_of G_way_from G_counts_of_pack G_alike_share G_law_exact m_range
end DL
open PySem PySem.W PySem.Calls PyProof.Rows
theorem PySem.Challenge.cw_suretricks_k62_whole_counting_on_holds : PySem.Challenge.rw_suretricks_k62_whole_counting_on.Holds := by
  w_on; o_law
  refine HandSHeadRun.head_imp (r := OpenLaw.row PySem.Challenge.rw_suretricks_k62_whole_counting_on) (q := view (OpenLaw.row PySem.Challenge.rw_suretricks_k62_whole_counting_on).prog [0, 43]) (H := DL.hkL) (ob := DL.obL) (M := 8100) (loose := DL.looseL) (d := HandSHeadRun.topDef (OpenLaw.row PySem.Challenge.rw_suretricks_k62_whole_counting_on).prog 43) (kwd := []) DL.obL_eq
    DL.runL (by kernel_rfl) (by kernel_rfl) (by kernel_rfl) (by rfl) (by first | assumption | decide +kernel) (by decide +kernel) ⟨rfl, rfl, rfl, rfl, rfl, by decide +kernel⟩ ?hw ?hc
  case hw => w_witness2
  case hc =>
    refine DL.walkG (l := PySem.Challenge.rw_suretricks_k62_whole_counting_on) (n := 63) (k := 11) (x := "script") rfl (by decide) (by kernel_rfl) ⟨rfl, by decide, by decide⟩ ?F
    intro w mg fa h Y G hmg0
    obtain ⟨K, KX, c⟩ := Y
    have hmg : mg ("law" : PySem.Str) = some (.ref fa) := by
      have e : (HandSHeadRun.topDef (OpenLaw.row PySem.Challenge.rw_suretricks_k62_whole_counting_on).prog 43).name = ("law" : PySem.Str) := by kernel_rfl
      rw [← e]
      exact hmg0
    obtain ⟨fd, hb, hF⟩ := DL.factsL (P := (PySem.Challenge.rw_suretricks_k62_whole_counting_on).prog) (w := w) KX G hmg c
    refine ⟨K, fd, DL.spD (DL.R_law K), KX, hb, fun H a ns hl hS => ?_, hF⟩
    exact DL.law_end hS fun Q q => ⟨ns, rfl, hl, q⟩
