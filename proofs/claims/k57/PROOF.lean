import PyProof.Rows.All
import Wide.All
import OpenK.AllK
import Wide.FinOn
import HandS.ForMost
import HandS.Exc
import HandS.ExcOwn
import HandS.TryOnly
import HandS.TryMany
import HandS.WordsExc
import HandS.CallSlots
import HandS.ExcInit
import HandS.Style
import HandS.Defaults
import OpenK.KMore
import KE.GoesEnum
import HandS.Iter
import PyProof.LongRange
import PyProof.Rows.CompRangeObj
import HandS.Comp
import HandS.Wide
import HandS.TupMul
import HandS.TupAny
import HandS.IsInst
import HandS.Gcd
import HandS.Small
import HandS.RaiseMore
import HandS.SortInts
import HandS.Dict
import HandS.Deep
import HandS.DictComp
import HandS.Codes
import HandS.Text
import KE.SortData
import HandS.TupLen
import KE.KDictSum
import KE.KDictPairs
import KE.KDictDisplayH
import HandS.Conv
import HandS.HeadEnd
import HandS.HeadHook1
import HandS.HeadHook2
import HandS.Head0
import HandS.Head1
import HandS.Head2
import HandS.StrMore
import HandS.TupLe
import HandS.Star
import HandS.FStr
import HandS.ExcField
import PySem.Challenge.RW_weylweights_k57_whole_pictures_there_and
import HandS.Head3
import PyProof.ExcBaseAll.ValueError
import KE.KIntText
import PyProof.StrLawsFrom
set_option Elab.async false
set_option linter.all false
set_option maxRecDepth 100000
set_option maxHeartbeats 4000000
namespace DL
open PySem PySem.Spec PyProof.Rows L2
abbrev St := L2.St

/-- a value as a tree: tuples by value, mutable objects by their number -/
inductive D where
  | non | bl (b : Bool) | int (i : Int) | str (s : List Nat) | tup (xs : List D) | ktup (xs : List D) | rol (xs : List D) | ref (n : Nat) | fn (n : Nat)
  deriving Inhabited
inductive MO where
  | lst (xs : List D) | dic (t : Bool) (kvs : List (D × D)) | lck (t : Bool) (kvs : List (D × D)) | ins (c : Nat) (fs : List (Str × D))
  deriving Inhabited
abbrev Mem := List MO
abbrev Env := List (Option D)
inductive Res (α : Type) where
  | ok (a : α) (m : Mem) | exc (c : Nat) (d : D) (m : Mem) | bad
inductive Fl where
  | nx (ρ : DL.Env) | bk (ρ : DL.Env) | ct (ρ : DL.Env) | rt (d : D) | ex (c : Nat) (d : D) (ρ : DL.Env)
abbrev SRes := Option (Fl × Mem)
/-- what the text has: classes, their one attribute, defs as values -/
structure Pr where
  cA : Nat → Addr
  cF : Nat → Option Str
  fA : Nat → Addr

/-- a tuple whose object is plain (no dict of its own) -/
def PlT (K : PySem.W.Frag) (H : Hp) (a : Addr) (vs : List V) : Prop := (∃ o, H a = some (.frz o (.tup vs)) ∧ o.dict = none) ∨ ((∀ H', SqT K H' a vs) ∧ ∃ o, K.lookup a = some o ∧ o.cls = .type "tuple" ∧ o.dict = none)
theorem PlT.sq {K : PySem.W.Frag} {H : Hp} {a : Addr} {vs : List V} (h : PlT K H a vs) : SqT K H a vs := by
  rcases h with ⟨o, h, _⟩ | ⟨h, _⟩
  · exact .inl (.inr ⟨o, h⟩)
  · exact h H
theorem PlT.keep {K : PySem.W.Frag} {H H' : Hp} {a : Addr} {vs : List V} (h : PlT K H a vs) (k : ∀ o, H a = some (.frz o (.tup vs)) → H' a = some (.frz o (.tup vs))) : PlT K H' a vs := by
  rcases h with ⟨o, h, d⟩ | h
  · exact .inl ⟨o, k o h, d⟩
  · exact .inr h
section
variable (K : PySem.W.Frag) (p : Pr) (φ : List Addr) (H : Hp)
mutual
def VR : D → V → Prop
  | .non, v => v = .non
  | .bl b, v => v = .bl b
  | .int i, v => v = .int i
  | .str s, v => v = .str ⟨s.toArray⟩
  | .tup xs, v => ∃ a vs, v = .ref a ∧ H a = some (.tup vs) ∧ VRs xs vs
  | .ktup xs, v => ∃ a vs, v = .ref a ∧ PlT K H a vs ∧ VRs xs vs
  | .rol xs, v => ∃ a vs, v = .ref a ∧ ((∃ o, H a = some (.frz o (.lst vs))) ∨ (∀ H', SqL K H' a vs)) ∧ VRs xs vs
  | .ref n, v => ∃ a, φ[n]? = some a ∧ v = .ref a
  | .fn n, v => v = .ref (p.fA n)
def VRs : List D → List V → Prop
  | [], vs => vs = []
  | x :: xs, vs => ∃ v r, vs = v :: r ∧ VR x v ∧ VRs xs r
end
/-- the slots -/
def ER : DL.Env → St → Prop
  | [], σ => σ = []
  | o :: r, σ => ∃ u t, σ = u :: t ∧ (∀ d, o = some d → ∃ v, u = some v ∧ VR K p φ H d v) ∧ ER r t
/-- keys of dicts -/
def key1 : D → Option Key
  | .int i => some (.inl i)
  | .str s => some (.inr ⟨s.toArray⟩)
  | _ => none
def keys1 : List D → Option (List Key)
  | [] => some []
  | d :: r => match key1 d, keys1 r with
    | some k, some ks => some (k :: ks)
    | _, _ => none
def keyT : D → Option (List Key)
  | .tup xs => keys1 xs
  | _ => none
def KR : List (D × D) → List (Key × V) → Prop
  | [], vs => vs = []
  | x :: xs, vs => ∃ k v r, vs = (k, v) :: r ∧ key1 x.1 = some k ∧ VR K p φ H x.2 v ∧ KR xs r
def TR : List (D × D) → List (List Key × V) → Prop
  | [], vs => vs = []
  | x :: xs, vs => ∃ k v r, vs = (k, v) :: r ∧ keyT x.1 = some k ∧ VR K p φ H x.2 v ∧ TR xs r
def FR : List (Str × D) → List (Str × V) → Prop
  | [], vs => vs = []
  | x :: xs, vs => ∃ v r, vs = (x.1, v) :: r ∧ VR K p φ H x.2 v ∧ FR xs r
/-- what the memory's object is -/
def OR : MO → Option HO → Prop
  | .lst xs, o => ∃ vs, o = some (.lst vs) ∧ VRs K p φ H xs vs
  | .dic false kvs, o => ∃ vs, o = some (.dK vs) ∧ KR K p φ H kvs vs
  | .dic true kvs, o => ∃ vs, o = some (.dT vs) ∧ TR K p φ H kvs vs
  | .lck false kvs, o => ∃ od vs, o = some (.frz od (.dK vs)) ∧ KR K p φ H kvs vs
  | .lck true kvs, o => ∃ od vs, o = some (.frz od (.dT vs)) ∧ TR K p φ H kvs vs
  | .ins c fs, o => ∃ dx vs, o = some (.ins (p.cA c) dx vs) ∧ FR K p φ H fs vs
end
structure HR (K : PySem.W.Frag) (p : Pr) (φ : List Addr) (m : Mem) (H : Hp) : Prop where
  len : φ.length = m.length
  nd : φ.Nodup
  obj : ∀ (n : Nat) (o : MO) (a : Addr), m[n]? = some o → φ[n]? = some a → OR K p φ H o (H a)
def isFz : HO → Bool
  | .frz _ _ => true
  | _ => false
/-- what may come behind: what is not ours stays, and what is locked -/
structure Nx (φ : List Addr) (H : Hp) (φ' : List Addr) (H' : Hp) : Prop where
  ext : ∃ new, φ' = φ ++ new ∧ ∀ b ∈ new, H b = none
  kp : ∀ b o, H b = some o → (b ∈ φ → isFz o = true) → H' b = some o
  there : ∀ b, H' b = none → H b = none
theorem Nx.keep {φ : List Addr} {H : Hp} {φ' : List Addr} {H' : Hp} (n : Nx φ H φ' H') : ∀ b o, H b = some o → b ∉ φ → H' b = some o := fun b o e h => n.kp b o e fun z => absurd z h
theorem Nx.refl {φ : List Addr} {H : Hp} : Nx φ H φ H := ⟨⟨[], by simp, by simp⟩, fun _ _ e _ => e, fun _ e => e⟩
theorem Nx.trans {φ φ1 φ2 : List Addr} {H H1 H2 : Hp} (a : Nx φ H φ1 H1) (b : Nx φ1 H1 φ2 H2) : Nx φ H φ2 H2 := by
  obtain ⟨n1, e1, f1⟩ := a.ext
  obtain ⟨n2, e2, f2⟩ := b.ext
  refine ⟨⟨n1 ++ n2, by rw [e2, e1, List.append_assoc], fun x hx => ?_⟩, fun x o e hn => ?_, fun x e => a.there x (b.there x e)⟩
  · rcases List.mem_append.mp hx with h | h
    · exact f1 x h
    · exact a.there x (f2 x h)
  · refine b.kp x o (a.kp x o e hn) ?_
    rw [e1]
    intro h
    rcases List.mem_append.mp h with h | h
    · exact hn h
    · rw [f1 x h] at e; cases e
/-- the kinds that the memory's objects have -/
theorem HR.kind {K : PySem.W.Frag} {p : Pr} {φ : List Addr} {m : Mem} {H : Hp} (h : HR K p φ m H) {a : Addr} (ha : a ∈ φ) : ∃ (n : Nat) (o : MO), m[n]? = some o ∧ φ[n]? = some a ∧ OR K p φ H o (H a) := by
  obtain ⟨n, hn, rfl⟩ := List.mem_iff_getElem.mp ha
  have hm : n < m.length := h.len ▸ hn
  exact ⟨n, m[n], List.getElem?_eq_getElem hm, List.getElem?_eq_getElem hn, h.obj n _ _ (List.getElem?_eq_getElem hm) (List.getElem?_eq_getElem hn)⟩
def okKind : HO → Bool
  | .lst _ => true
  | .dK _ => true
  | .dT _ => true
  | .ins _ _ _ => true
  | .frz _ (.dK _) => true
  | .frz _ (.dT _) => true
  | _ => false
theorem HR.okKind {K : PySem.W.Frag} {p : Pr} {φ : List Addr} {m : Mem} {H : Hp} (h : HR K p φ m H) {a : Addr} {o : HO} (e : H a = some o) (hb : DL.okKind o = false) : a ∉ φ := by
  intro ha
  obtain ⟨n, u, _, _, q⟩ := h.kind ha
  rw [e] at q
  cases u with
  | lst xs => obtain ⟨_, q, _⟩ := q; cases q; cases hb
  | dic t kvs => cases t <;> (obtain ⟨_, q, _⟩ := q; cases q; cases hb)
  | lck t kvs => cases t <;> (obtain ⟨_, _, q, _⟩ := q; cases q; cases hb)
  | ins c fs => obtain ⟨_, _, q, _⟩ := q; cases q; cases hb
section
variable {K : PySem.W.Frag} {p : Pr} {φ φ' : List Addr} {m : Mem} {H H' : Hp}
mutual
theorem VR.keep (kk : ∀ b o, H b = some o → okKind o = false → H' b = some o) (ext : ∃ new, φ' = φ ++ new) : ∀ (d : D) (v : V), VR K p φ H d v → VR K p φ' H' d v
  | .non, _, q => by simpa [VR] using q
  | .bl b, _, q => by simpa [VR] using q
  | .int i, _, q => by simpa [VR] using q
  | .str s, _, q => by simpa [VR] using q
  | .fn k, _, q => by simpa [VR] using q
  | .ref k, v, q => by
    simp only [VR] at q ⊢
    obtain ⟨a, e, rfl⟩ := q
    obtain ⟨new, e1⟩ := ext
    refine ⟨a, ?_, rfl⟩
    rw [e1, List.getElem?_append_left (List.getElem?_eq_some_iff.mp e).1]
    exact e
  | .tup xs, v, q => by
    simp only [VR] at q ⊢
    obtain ⟨a, vs, rfl, s, r⟩ := q
    exact ⟨a, vs, rfl, kk _ _ s rfl, VRs.keep kk ext xs vs r⟩
  | .ktup xs, v, q => by
    simp only [VR] at q ⊢
    obtain ⟨a, vs, rfl, s, r⟩ := q
    exact ⟨a, vs, rfl, s.keep fun o e => kk _ _ e rfl, VRs.keep kk ext xs vs r⟩
  | .rol xs, v, q => by
    simp only [VR] at q ⊢
    obtain ⟨a, vs, rfl, s, r⟩ := q
    refine ⟨a, vs, rfl, ?_, VRs.keep kk ext xs vs r⟩
    rcases s with ⟨o, s⟩ | s
    · exact .inl ⟨o, kk _ _ s rfl⟩
    · exact .inr s
theorem VRs.keep (kk : ∀ b o, H b = some o → okKind o = false → H' b = some o) (ext : ∃ new, φ' = φ ++ new) : ∀ (ds : List D) (vs : List V), VRs K p φ H ds vs → VRs K p φ' H' ds vs
  | [], _, q => by simpa [VRs] using q
  | d :: ds, vs, q => by
    simp only [VRs] at q ⊢
    obtain ⟨v, r, rfl, a, b⟩ := q
    exact ⟨v, r, rfl, VR.keep kk ext d v a, VRs.keep kk ext ds r b⟩
end
theorem VR.mono (h : HR K p φ m H) (n : Nx φ H φ' H') (d : D) (v : V) (q : VR K p φ H d v) : VR K p φ' H' d v := VR.keep (fun b o e z => n.keep b o e (h.okKind e z)) (n.ext.imp fun _ q => q.1) d v q
theorem VRs.mono (h : HR K p φ m H) (n : Nx φ H φ' H') (ds : List D) (vs : List V) (q : VRs K p φ H ds vs) : VRs K p φ' H' ds vs := VRs.keep (fun b o e z => n.keep b o e (h.okKind e z)) (n.ext.imp fun _ q => q.1) ds vs q
theorem ER.mono (h : HR K p φ m H) (n : Nx φ H φ' H') : ∀ {ρ : DL.Env} {σ : St}, ER K p φ H ρ σ → ER K p φ' H' ρ σ
  | [], _, q => q
  | o :: r, σ, q => by
    obtain ⟨u, t, rfl, a, b⟩ := q
    exact ⟨u, t, rfl, fun d e => let ⟨v, e1, e2⟩ := a d e; ⟨v, e1, VR.mono h n d v e2⟩, ER.mono h n b⟩
theorem KR.keep (kk : ∀ b o, H b = some o → okKind o = false → H' b = some o) (ext : ∃ new, φ' = φ ++ new) : ∀ {kvs : List (D × D)} {vs : List (Key × V)}, KR K p φ H kvs vs → KR K p φ' H' kvs vs
  | [], _, q => q
  | x :: xs, _, q => by
    obtain ⟨k, v, r, rfl, a, b, c⟩ := q
    exact ⟨k, v, r, rfl, a, VR.keep kk ext _ _ b, KR.keep kk ext c⟩
theorem TR.keep (kk : ∀ b o, H b = some o → okKind o = false → H' b = some o) (ext : ∃ new, φ' = φ ++ new) : ∀ {kvs : List (D × D)} {vs : List (List Key × V)}, TR K p φ H kvs vs → TR K p φ' H' kvs vs
  | [], _, q => q
  | x :: xs, _, q => by
    obtain ⟨k, v, r, rfl, a, b, c⟩ := q
    exact ⟨k, v, r, rfl, a, VR.keep kk ext _ _ b, TR.keep kk ext c⟩
theorem FR.keep (kk : ∀ b o, H b = some o → okKind o = false → H' b = some o) (ext : ∃ new, φ' = φ ++ new) : ∀ {kvs : List (Str × D)} {vs : List (Str × V)}, FR K p φ H kvs vs → FR K p φ' H' kvs vs
  | [], _, q => q
  | x :: xs, _, q => by
    obtain ⟨v, r, rfl, b, c⟩ := q
    exact ⟨v, r, rfl, VR.keep kk ext _ _ b, FR.keep kk ext c⟩
theorem OR.keep (kk : ∀ b o, H b = some o → okKind o = false → H' b = some o) (ext : ∃ new, φ' = φ ++ new) : ∀ {o : MO} {u : Option HO}, OR K p φ H o u → OR K p φ' H' o u
  | .lst xs, _, q => let ⟨vs, e, r⟩ := q; ⟨vs, e, VRs.keep kk ext _ _ r⟩
  | .dic false kvs, _, q => let ⟨vs, e, r⟩ := q; ⟨vs, e, KR.keep kk ext r⟩
  | .dic true kvs, _, q => let ⟨vs, e, r⟩ := q; ⟨vs, e, TR.keep kk ext r⟩
  | .lck false kvs, _, q => let ⟨od, vs, e, r⟩ := q; ⟨od, vs, e, KR.keep kk ext r⟩
  | .lck true kvs, _, q => let ⟨od, vs, e, r⟩ := q; ⟨od, vs, e, TR.keep kk ext r⟩
  | .ins c fs, _, q => let ⟨dx, vs, e, r⟩ := q; ⟨dx, vs, e, FR.keep kk ext r⟩
theorem KR.mono (h : HR K p φ m H) (n : Nx φ H φ' H') {kvs : List (D × D)} {vs : List (Key × V)} (q : KR K p φ H kvs vs) : KR K p φ' H' kvs vs := KR.keep (fun b o e z => n.keep b o e (h.okKind e z)) (n.ext.imp fun _ q => q.1) q
theorem TR.mono (h : HR K p φ m H) (n : Nx φ H φ' H') {kvs : List (D × D)} {vs : List (List Key × V)} (q : TR K p φ H kvs vs) : TR K p φ' H' kvs vs := TR.keep (fun b o e z => n.keep b o e (h.okKind e z)) (n.ext.imp fun _ q => q.1) q
theorem FR.mono (h : HR K p φ m H) (n : Nx φ H φ' H') {kvs : List (Str × D)} {vs : List (Str × V)} (q : FR K p φ H kvs vs) : FR K p φ' H' kvs vs := FR.keep (fun b o e z => n.keep b o e (h.okKind e z)) (n.ext.imp fun _ q => q.1) q
theorem OR.mono (h : HR K p φ m H) (n : Nx φ H φ' H') {o : MO} {u : Option HO} (q : OR K p φ H o u) : OR K p φ' H' o u := OR.keep (fun b o e z => n.keep b o e (h.okKind e z)) (n.ext.imp fun _ q => q.1) q
theorem Nx.new {a : Addr} {o : HO} (h : H a = none) : Nx φ H φ (upd H a o) := ⟨⟨[], by simp, by simp⟩, fun b u e _ => by
    rw [upd_ne (ne_of_none e h)]; exact e, fun b e => by
    by_cases z : b = a
    · subst z; rw [upd_same] at e; cases e
    · rw [upd_ne z] at e; exact e⟩
theorem Nx.alloc {a : Addr} {o : HO} (h : H a = none) : Nx φ H (φ ++ [a]) (upd H a o) := ⟨⟨[a], rfl, by simpa using h⟩, (Nx.new (φ := φ) h).kp, (Nx.new (φ := φ) h).there⟩
theorem Nx.put {a : Addr} {o : HO} (h : a ∈ φ) (hf : ∀ u, H a = some u → isFz u = false) : Nx φ H φ (upd H a o) := ⟨⟨[], by simp, by simp⟩, fun b u e hb => by
    have z : b ≠ a := fun z => by
      subst z
      have := hb h
      rw [hf u e] at this; cases this
    rw [upd_ne z]; exact e, fun b e => by
    by_cases z : b = a
    · subst z; rw [upd_same] at e; cases e
    · rw [upd_ne z] at e; exact e⟩
def MO.lk : MO → Bool
  | .lck _ _ => true
  | _ => false
theorem OR.nofz {o : MO} {u : HO} (q : OR K p φ H o (some u)) (h : o.lk = false) : isFz u = false := by
  cases o with
  | lst xs => obtain ⟨_, e, _⟩ := q; cases e; rfl
  | dic t kvs => cases t <;> (obtain ⟨_, e, _⟩ := q; cases e; rfl)
  | lck t kvs => cases h
  | ins c fs => obtain ⟨_, _, e, _⟩ := q; cases e; rfl
theorem OR.some {o : MO} {u : Option HO} (q : OR K p φ H o u) : ∃ z, u = some z := by
  cases o with
  | lst xs => obtain ⟨_, e, _⟩ := q; exact ⟨_, e⟩
  | dic t kvs => cases t <;> (obtain ⟨_, e, _⟩ := q; exact ⟨_, e⟩)
  | lck t kvs => cases t <;> (obtain ⟨_, _, e, _⟩ := q; exact ⟨_, e⟩)
  | ins c fs => obtain ⟨_, _, e, _⟩ := q; exact ⟨_, e⟩
theorem HR.tracked (h : HR K p φ m H) {a : Addr} (ha : a ∈ φ) : H a ≠ none := by
  obtain ⟨n, o, _, _, q⟩ := h.kind ha
  obtain ⟨z, e⟩ := q.some
  rw [e]; simp
theorem HR.new (h : HR K p φ m H) {a : Addr} {o : HO} (ha : H a = none) : HR K p φ m (upd H a o) := ⟨h.len, h.nd, fun n u b e1 e2 => by
  have z : b ≠ a := fun z => h.tracked (List.mem_of_getElem? e2) (z ▸ ha)
  rw [upd_ne z]
  exact (h.obj n u b e1 e2).mono h (Nx.new ha)⟩
theorem HR.alloc (h : HR K p φ m H) {a : Addr} {o : HO} {u : MO} (ha : H a = none) (q : OR K p (φ ++ [a]) (upd H a o) u (some o)) : HR K p (φ ++ [a]) (m ++ [u]) (upd H a o) := by
  have na : a ∉ φ := fun z => h.tracked z ha
  refine ⟨by simp [h.len], List.nodup_append.mpr ⟨h.nd, by simp, fun x hx y hy => ?_⟩, fun n u' b e1 e2 => ?_⟩
  · simp at hy; subst hy; exact fun z => na (z ▸ hx)
  · by_cases hn : n < m.length
    · rw [List.getElem?_append_left hn] at e1
      rw [List.getElem?_append_left (h.len ▸ hn)] at e2
      have z : b ≠ a := fun z => h.tracked (List.mem_of_getElem? e2) (z ▸ ha)
      rw [upd_ne z]
      exact (h.obj n u' b e1 e2).mono h (Nx.alloc ha)
    · rw [List.getElem?_append_right (by omega)] at e1
      rw [List.getElem?_append_right (by have := h.len; omega), h.len] at e2
      have z : n - m.length = 0 := by
        have := (List.getElem?_eq_some_iff.mp e1).1
        simp at this; omega
      rw [z] at e1 e2
      simp at e1 e2
      subst e1 e2
      rw [upd_same]; exact q
theorem HR.put (h : HR K p φ m H) {n : Nat} {a : Addr} {o : HO} {u u0 : MO} (e2 : φ[n]? = some a) (e0 : m[n]? = some u0) (hl : u0.lk = false) (q : OR K p φ (upd H a o) u (some o)) : HR K p φ (m.set n u) (upd H a o) := by
  have ha : a ∈ φ := List.mem_of_getElem? e2
  have hn : n < φ.length := (List.getElem?_eq_some_iff.mp e2).1
  refine ⟨by simp [h.len], h.nd, fun j u' b e1 e3 => ?_⟩
  by_cases z : j = n
  · subst z
    rw [e2] at e3; cases e3
    rw [List.getElem?_set_self (h.len ▸ hn)] at e1; cases e1
    rw [upd_same]; exact q
  · rw [List.getElem?_set_ne (Ne.symm z)] at e1
    have zb : b ≠ a := fun zb => z (by
      subst zb
      obtain ⟨h1, q1⟩ := List.getElem?_eq_some_iff.mp e3
      obtain ⟨h2, q2⟩ := List.getElem?_eq_some_iff.mp e2
      exact (List.getElem_inj h.nd).mp (q1.trans q2.symm))
    rw [upd_ne zb]
    exact (h.obj j u' b e1 e3).mono h (Nx.put ha fun w ew => OR.nofz (ew ▸ h.obj n u0 a e0 e2) hl)
theorem HR.nil : HR K p [] [] H := ⟨rfl, .nil, fun n o a e => by simp at e⟩
theorem ER.get : ∀ {ρ : DL.Env} {σ : St} {i : Nat} {d : D}, ER K p φ H ρ σ → ρ[i]? = some (some d) → ∃ v, σ[i]? = some (some v) ∧ VR K p φ H d v
  | [], _, i, d, _, e => by simp at e
  | o :: r, _, 0, d, q, e => by
    obtain ⟨u, t, rfl, a, b⟩ := q
    simp at e
    obtain ⟨v, e1, e2⟩ := a d e
    exact ⟨v, by simp [e1], e2⟩
  | o :: r, _, i + 1, d, q, e => by
    obtain ⟨u, t, rfl, a, b⟩ := q
    obtain ⟨v, e1, e2⟩ := ER.get (i := i) b (by simpa using e)
    exact ⟨v, by simpa using e1, e2⟩
theorem ER.set {d : D} {v : V} (r : VR K p φ H d v) : ∀ {ρ : DL.Env} {σ : St} (i : Nat), ER K p φ H ρ σ → ER K p φ H (ρ.set i (some d)) (σ.set i (some v))
  | [], _, i, q => by obtain rfl := q; exact rfl
  | o :: s, _, 0, q => by
    obtain ⟨u, t, rfl, a, b⟩ := q
    exact ⟨some v, t, rfl, fun d' e => by cases e; exact ⟨v, rfl, r⟩, b⟩
  | o :: s, _, i + 1, q => by
    obtain ⟨u, t, rfl, a, b⟩ := q
    exact ⟨u, t.set i (some v), rfl, a, ER.set r i b⟩
theorem ER.unset : ∀ {ρ : DL.Env} {σ : St} (i : Nat) (u : Option V), ER K p φ H ρ σ → ER K p φ H (ρ.set i none) (σ.set i u)
  | [], _, i, _, q => by obtain rfl := q; exact rfl
  | o :: s, _, 0, w, q => by
    obtain ⟨u, t, rfl, a, b⟩ := q
    exact ⟨w, t, rfl, (fun d' e => by cases e), b⟩
  | o :: s, _, i + 1, w, q => by
    obtain ⟨u, t, rfl, a, b⟩ := q
    exact ⟨u, t.set i w, rfl, a, ER.unset i w b⟩
theorem ER.length : ∀ {ρ : DL.Env} {σ : St}, ER K p φ H ρ σ → ρ.length = σ.length
  | [], _, q => by obtain rfl := q; rfl
  | o :: s, _, q => by
    obtain ⟨u, t, rfl, a, b⟩ := q
    simp [ER.length b]
theorem VRs.length : ∀ {ds : List D} {vs : List V}, VRs K p φ H ds vs → ds.length = vs.length
  | [], _, q => by simp only [VRs] at q; subst q; rfl
  | d :: ds, vs, q => by
    simp only [VRs] at q
    obtain ⟨v, r, rfl, a, b⟩ := q
    simp [VRs.length b]
theorem VRs.get : ∀ {ds : List D} {vs : List V} {i : Nat} {d : D}, VRs K p φ H ds vs → ds[i]? = some d → ∃ v, vs[i]? = some v ∧ VR K p φ H d v
  | [], _, i, d, _, e => by simp at e
  | d' :: ds, vs, i, d, q, e => by
    simp only [VRs] at q
    obtain ⟨v, r, rfl, a, b⟩ := q
    cases i with
    | zero => simp at e; subst e; exact ⟨v, by simp, a⟩
    | succ i => simpa using VRs.get (i := i) b (by simpa using e)
theorem VRs.append : ∀ {ds es : List D} {vs ws : List V}, VRs K p φ H ds vs → VRs K p φ H es ws → VRs K p φ H (ds ++ es) (vs ++ ws)
  | [], _, _, _, q, r => by simp only [VRs] at q; subst q; exact r
  | d :: ds, es, vs, ws, q, r => by
    simp only [VRs] at q
    obtain ⟨v, t, rfl, a, b⟩ := q
    show VRs K p φ H (d :: (ds ++ es)) (v :: (t ++ ws))
    simp only [VRs]
    exact ⟨v, _, rfl, a, VRs.append b r⟩
theorem VRs.set {d : D} {v : V} (r : VR K p φ H d v) : ∀ {ds : List D} {vs : List V} (i : Nat), VRs K p φ H ds vs → VRs K p φ H (ds.set i d) (vs.set i v)
  | [], _, i, q => by simp only [VRs] at q; subst q; simp [VRs]
  | d' :: ds, vs, i, q => by
    simp only [VRs] at q
    obtain ⟨w, t, rfl, a, b⟩ := q
    cases i with
    | zero => simp only [List.set_cons_zero, VRs]; exact ⟨v, t, rfl, r, b⟩
    | succ i => simp only [List.set_cons_succ, VRs]; exact ⟨w, _, rfl, a, VRs.set r i b⟩
theorem VRs.take : ∀ {ds : List D} {vs : List V} (n : Nat), VRs K p φ H ds vs → VRs K p φ H (ds.take n) (vs.take n)
  | [], _, n, q => by simp only [VRs] at q; subst q; simp [VRs]
  | d' :: ds, vs, n, q => by
    simp only [VRs] at q
    obtain ⟨w, t, rfl, a, b⟩ := q
    cases n with
    | zero => simp [VRs]
    | succ n => simp only [List.take_succ_cons, VRs]; exact ⟨w, _, rfl, a, VRs.take n b⟩
theorem VRs.drop : ∀ {ds : List D} {vs : List V} (n : Nat), VRs K p φ H ds vs → VRs K p φ H (ds.drop n) (vs.drop n)
  | [], _, n, q => by simp only [VRs] at q; subst q; simp [VRs]
  | d' :: ds, vs, n, q => by
    simp only [VRs] at q
    obtain ⟨w, t, rfl, a, b⟩ := q
    cases n with
    | zero => simp only [List.drop_zero, VRs]; exact ⟨w, t, rfl, a, b⟩
    | succ n => simpa using VRs.drop n b
theorem VRs.nil_iff {ds : List D} {vs : List V} (q : VRs K p φ H ds vs) : ds = [] ↔ vs = [] := by
  rw [← List.length_eq_zero_iff, ← List.length_eq_zero_iff, q.length]
theorem VRs.one {d : D} {vs : List V} : VRs K p φ H [d] vs ↔ ∃ v, vs = [v] ∧ VR K p φ H d v := by
  simp only [VRs]
  exact ⟨fun ⟨v, r, e, a, b⟩ => ⟨v, by rw [e, b], a⟩, fun ⟨v, e, a⟩ => ⟨v, [], e, a, rfl⟩⟩
theorem VRs.two {d e : D} {vs : List V} : VRs K p φ H [d, e] vs ↔ ∃ v w, vs = [v, w] ∧ VR K p φ H d v ∧ VR K p φ H e w := by
  simp only [VRs]
  exact ⟨fun ⟨v, r, z, a, w, r', z', a', b⟩ => ⟨v, w, by rw [z, z', b], a, a'⟩, fun ⟨v, w, z, a, b⟩ => ⟨v, [w], z, a, w, [], rfl, b, rfl⟩⟩
/-- the items of a tuple -/
def tupD : D → Option (List D)
  | .tup xs => some xs
  | .ktup xs => some xs
  | _ => none
theorem tup_at {d : D} {v : V} {xs : List D} (r : VR K p φ H d v) (e : tupD d = some xs) : ∃ a vs, v = .ref a ∧ SqT K H a vs ∧ VRs K p φ H xs vs := by
  cases d with
  | tup ys => cases e; simp only [VR] at r; obtain ⟨a, vs, rfl, s, r⟩ := r; exact ⟨a, vs, rfl, SqT.of s, r⟩
  | ktup ys => cases e; simp only [VR] at r; obtain ⟨a, vs, rfl, s, r⟩ := r; exact ⟨a, vs, rfl, s.sq, r⟩
  | _ => cases e
end
end DL

set_option Elab.async false
set_option linter.all false
set_option maxRecDepth 100000
set_option maxHeartbeats 4000000
namespace DL
open PySem PySem.Spec PyProof.Rows L2

def Res.bind {α β : Type} (r : Res α) (k : α → Mem → Res β) : Res β := match r with
  | .ok a m => k a m
  | .exc c d m => .exc c d m
  | .bad => .bad
@[simp] theorem Res.bind_ok {α β : Type} {a : α} {m : Mem} {k : α → Mem → Res β} : (Res.ok a m).bind k = k a m := rfl
@[simp] theorem Res.bind_exc {α β : Type} {c : Nat} {d : D} {m : Mem} {k : α → Mem → Res β} : (Res.exc c d m : Res α).bind k = .exc c d m := rfl
@[simp] theorem Res.bind_bad {α β : Type} {k : α → Mem → Res β} : (Res.bad : Res α).bind k = .bad := rfl
/-- an operation's answer -/
abbrev OAns := Option (D × Mem)
def liftO (r : OAns) : Res D := match r with
  | some (d, m) => .ok d m
  | none => .bad
@[simp] theorem liftO_some {d : D} {m : Mem} : liftO (some (d, m)) = .ok d m := rfl
@[simp] theorem liftO_none : liftO none = .bad := rfl
abbrev FX := DL.Env → Mem → Res D
abbrev FB := DL.Env → Mem → Res Bool
abbrev FL := DL.Env → Mem → Res (List D)
abbrev FS := DL.Env → Mem → SRes

section
variable (K : PySem.W.Frag) (p : Pr)
/-- how an exception's own dict stands -/
def XD (φ : List Addr) (H : Hp) (c : Nat) (d : D) (dx : Option Addr) : Prop := match p.cF c with
  | none => dx = none
  | some f => ∃ a v, dx = some a ∧ H a = some (.xd [(f, v)]) ∧ VR K p φ H d v
def postE (W : WX) (σ : St) (φ : List Addr) (H : Hp) (r : Res D) (Q : VK) : Prop := match r with
  | .ok d m' => ∀ φ' H' v, Nx φ H φ' H' → HR K p φ' m' H' → VR K p φ' H' d v → Q v H'
  | .exc c d m' => ∀ φ' H' dx, Nx φ H φ' H' → HR K p φ' m' H' → XD K p φ' H' c d dx → W (.ref (p.cA c)) dx σ H'
  | .bad => False
def postB (W : WX) (σ : St) (φ : List Addr) (H : Hp) (r : Res Bool) (Q : Bool → Hp → Prop) : Prop := match r with
  | .ok b m' => ∀ φ' H', Nx φ H φ' H' → HR K p φ' m' H' → Q b H'
  | .exc c d m' => ∀ φ' H' dx, Nx φ H φ' H' → HR K p φ' m' H' → XD K p φ' H' c d dx → W (.ref (p.cA c)) dx σ H'
  | .bad => False
def postL (W : WX) (σ : St) (φ : List Addr) (H : Hp) (r : Res (List D)) (Q : List V → Hp → Prop) : Prop := match r with
  | .ok ds m' => ∀ φ' H' vs, Nx φ H φ' H' → HR K p φ' m' H' → VRs K p φ' H' ds vs → Q vs H'
  | .exc c d m' => ∀ φ' H' dx, Nx φ H φ' H' → HR K p φ' m' H' → XD K p φ' H' c d dx → W (.ref (p.cA c)) dx σ H'
  | .bad => False
def postO (φ : List Addr) (H : Hp) (r : OAns) (Q : VK) : Prop := match r with
  | some (d, m') => ∀ φ' H' v, Nx φ H φ' H' → HR K p φ' m' H' → VR K p φ' H' d v → Q v H'
  | none => False
def postS (W : WX) (φ : List Addr) (H : Hp) (r : SRes) (D' : Ends) : Prop := match r with
  | some (.nx ρ', m') => ∀ φ' H' σ', Nx φ H φ' H' → HR K p φ' m' H' → ER K p φ' H' ρ' σ' → D'.nx σ' H'
  | some (.bk ρ', m') => ∀ φ' H' σ', Nx φ H φ' H' → HR K p φ' m' H' → ER K p φ' H' ρ' σ' → D'.bk σ' H'
  | some (.ct ρ', m') => ∀ φ' H' σ', Nx φ H φ' H' → HR K p φ' m' H' → ER K p φ' H' ρ' σ' → D'.ct σ' H'
  | some (.rt d, m') => ∀ φ' H' v, Nx φ H φ' H' → HR K p φ' m' H' → VR K p φ' H' d v → D'.rt v H'
  | some (.ex c d ρ', m') => ∀ φ' H' σ' dx, Nx φ H φ' H' → HR K p φ' m' H' → ER K p φ' H' ρ' σ' → XD K p φ' H' c d dx → W (.ref (p.cA c)) dx σ' H'
  | none => False
def tE (W : WX) (f : FX) : TE := fun σ H Q => ∃ φ ρ m, HR K p φ m H ∧ ER K p φ H ρ σ ∧ postE K p W σ φ H (f ρ m) Q
def tT (W : WX) (f : FB) : TT := fun σ H Q => ∃ φ ρ m, HR K p φ m H ∧ ER K p φ H ρ σ ∧ postB K p W σ φ H (f ρ m) Q
def tA (W : WX) (f : FL) : TA := fun σ H Q => ∃ φ ρ m, HR K p φ m H ∧ ER K p φ H ρ σ ∧ postL K p W σ φ H (f ρ m) Q
def tS (W : WX) (f : FS) : TS := fun D' σ H => ∃ φ ρ m, HR K p φ m H ∧ ER K p φ H ρ σ ∧ postS K p W φ H (f ρ m) D'
def tO1 (o : D → Mem → OAns) : V → Hp → VK → Prop := fun x H Q => ∃ φ m d, HR K p φ m H ∧ VR K p φ H d x ∧ postO K p φ H (o d m) Q
def tO2 (o : D → D → Mem → OAns) : R2 := fun x y H Q => ∃ φ m d e, HR K p φ m H ∧ VR K p φ H d x ∧ VR K p φ H e y ∧ postO K p φ H (o d e m) Q
def tOn (o : List D → Mem → OAns) : List V → Hp → VK → Prop := fun xs H Q => ∃ φ m ds, HR K p φ m H ∧ VRs K p φ H ds xs ∧ postO K p φ H (o ds m) Q
def tOm (o : D → List D → Mem → OAns) : V → List V → Hp → VK → Prop := fun x xs H Q => ∃ φ m d ds, HR K p φ m H ∧ VR K p φ H d x ∧ VRs K p φ H ds xs ∧ postO K p φ H (o d ds m) Q
end
section
variable {K : PySem.W.Frag} {p : Pr} {W : WX} {σ : St} {φ φ1 : List Addr} {H H1 : Hp} {m : Mem}
theorem postE.nx {r : Res D} {Q : VK} (n : Nx φ H φ1 H1) (h : postE K p W σ φ H r Q) : postE K p W σ φ1 H1 r Q := by
  cases r with
  | ok d m' => exact fun φ' H' v n' h' q => h φ' H' v (n.trans n') h' q
  | exc c d m' => exact fun φ' H' dx n' h' q => h φ' H' dx (n.trans n') h' q
  | bad => exact h
theorem postB.nx {r : Res Bool} {Q : Bool → Hp → Prop} (n : Nx φ H φ1 H1) (h : postB K p W σ φ H r Q) : postB K p W σ φ1 H1 r Q := by
  cases r with
  | ok d m' => exact fun φ' H' n' h' => h φ' H' (n.trans n') h'
  | exc c d m' => exact fun φ' H' dx n' h' q => h φ' H' dx (n.trans n') h' q
  | bad => exact h
theorem postL.nx {r : Res (List D)} {Q : List V → Hp → Prop} (n : Nx φ H φ1 H1) (h : postL K p W σ φ H r Q) : postL K p W σ φ1 H1 r Q := by
  cases r with
  | ok d m' => exact fun φ' H' v n' h' q => h φ' H' v (n.trans n') h' q
  | exc c d m' => exact fun φ' H' dx n' h' q => h φ' H' dx (n.trans n') h' q
  | bad => exact h
theorem postS.nx {r : SRes} {D' : Ends} (n : Nx φ H φ1 H1) (h : postS K p W φ H r D') : postS K p W φ1 H1 r D' := by
  match r, h with
  | some (.nx ρ', m'), h => exact fun φ' H' v n' h' q => h φ' H' v (n.trans n') h' q
  | some (.bk ρ', m'), h => exact fun φ' H' v n' h' q => h φ' H' v (n.trans n') h' q
  | some (.ct ρ', m'), h => exact fun φ' H' v n' h' q => h φ' H' v (n.trans n') h' q
  | some (.rt d, m'), h => exact fun φ' H' v n' h' q => h φ' H' v (n.trans n') h' q
  | some (.ex c d ρ', m'), h => exact fun φ' H' v dx n' h' q => h φ' H' v dx (n.trans n') h' q
  | none, h => exact h
theorem postE.imp {r : Res D} {Q Q' : VK} (i : ∀ v H, Q v H → Q' v H) (h : postE K p W σ φ H r Q) : postE K p W σ φ H r Q' := by
  cases r with
  | ok d m' => exact fun φ' H' v n' h' q => i _ _ (h φ' H' v n' h' q)
  | exc c d m' => exact h
  | bad => exact h
theorem postB.imp {r : Res Bool} {Q Q' : Bool → Hp → Prop} (i : ∀ v H, Q v H → Q' v H) (h : postB K p W σ φ H r Q) : postB K p W σ φ H r Q' := by
  cases r with
  | ok d m' => exact fun φ' H' n' h' => i _ _ (h φ' H' n' h')
  | exc c d m' => exact h
  | bad => exact h
theorem postL.imp {r : Res (List D)} {Q Q' : List V → Hp → Prop} (i : ∀ v H, Q v H → Q' v H) (h : postL K p W σ φ H r Q) : postL K p W σ φ H r Q' := by
  cases r with
  | ok d m' => exact fun φ' H' v n' h' q => i _ _ (h φ' H' v n' h' q)
  | exc c d m' => exact h
  | bad => exact h
theorem thE {f : FX} {Q Q' : VK} (i : ∀ v H, Q v H → Q' v H) (h : tE K p W f σ H Q) : tE K p W f σ H Q' :=
  let ⟨φ, ρ, m, a, b, c⟩ := h; ⟨φ, ρ, m, a, b, c.imp i⟩
theorem thT {f : FB} {Q Q' : Bool → Hp → Prop} (i : ∀ v H, Q v H → Q' v H) (h : tT K p W f σ H Q) : tT K p W f σ H Q' :=
  let ⟨φ, ρ, m, a, b, c⟩ := h; ⟨φ, ρ, m, a, b, c.imp i⟩
theorem thA {f : FL} {Q Q' : List V → Hp → Prop} (i : ∀ v H, Q v H → Q' v H) (h : tA K p W f σ H Q) : tA K p W f σ H Q' :=
  let ⟨φ, ρ, m, a, b, c⟩ := h; ⟨φ, ρ, m, a, b, c.imp i⟩
/-- one thing behind another -/
theorem postE.bindE {r : Res D} {k : D → Mem → Res D} {Q : VK} (h : postE K p W σ φ H (r.bind k) Q) :
    postE K p W σ φ H r (fun v H1 => ∃ φ1 d m1, Nx φ H φ1 H1 ∧ HR K p φ1 m1 H1 ∧ VR K p φ1 H1 d v ∧ postE K p W σ φ1 H1 (k d m1) Q) := by
  cases r with
  | ok d m' => exact fun φ' H' v n h' q => ⟨φ', d, m', n, h', q, postE.nx n h⟩
  | exc c d m' => exact h
  | bad => exact h
theorem postB.bindE {r : Res D} {k : D → Mem → Res Bool} {Q : Bool → Hp → Prop} (h : postB K p W σ φ H (r.bind k) Q) :
    postE K p W σ φ H r (fun v H1 => ∃ φ1 d m1, Nx φ H φ1 H1 ∧ HR K p φ1 m1 H1 ∧ VR K p φ1 H1 d v ∧ postB K p W σ φ1 H1 (k d m1) Q) := by
  cases r with
  | ok d m' => exact fun φ' H' v n h' q => ⟨φ', d, m', n, h', q, postB.nx n h⟩
  | exc c d m' => exact h
  | bad => exact h
theorem postE.bindB {r : Res Bool} {k : Bool → Mem → Res D} {Q : VK} (h : postE K p W σ φ H (r.bind k) Q) :
    postB K p W σ φ H r (fun b H1 => ∃ φ1 m1, Nx φ H φ1 H1 ∧ HR K p φ1 m1 H1 ∧ postE K p W σ φ1 H1 (k b m1) Q) := by
  cases r with
  | ok d m' => exact fun φ' H' n h' => ⟨φ', m', n, h', postE.nx n h⟩
  | exc c d m' => exact h
  | bad => exact h
theorem postB.bindB {r : Res Bool} {k : Bool → Mem → Res Bool} {Q : Bool → Hp → Prop} (h : postB K p W σ φ H (r.bind k) Q) :
    postB K p W σ φ H r (fun b H1 => ∃ φ1 m1, Nx φ H φ1 H1 ∧ HR K p φ1 m1 H1 ∧ postB K p W σ φ1 H1 (k b m1) Q) := by
  cases r with
  | ok d m' => exact fun φ' H' n h' => ⟨φ', m', n, h', postB.nx n h⟩
  | exc c d m' => exact h
  | bad => exact h
theorem postE.bindL {r : Res (List D)} {k : List D → Mem → Res D} {Q : VK} (h : postE K p W σ φ H (r.bind k) Q) :
    postL K p W σ φ H r (fun vs H1 => ∃ φ1 ds m1, Nx φ H φ1 H1 ∧ HR K p φ1 m1 H1 ∧ VRs K p φ1 H1 ds vs ∧ postE K p W σ φ1 H1 (k ds m1) Q) := by
  cases r with
  | ok d m' => exact fun φ' H' v n h' q => ⟨φ', d, m', n, h', q, postE.nx n h⟩
  | exc c d m' => exact h
  | bad => exact h
theorem postL.bindE {r : Res D} {k : D → Mem → Res (List D)} {Q : List V → Hp → Prop} (h : postL K p W σ φ H (r.bind k) Q) :
    postE K p W σ φ H r (fun v H1 => ∃ φ1 d m1, Nx φ H φ1 H1 ∧ HR K p φ1 m1 H1 ∧ VR K p φ1 H1 d v ∧ postL K p W σ φ1 H1 (k d m1) Q) := by
  cases r with
  | ok d m' => exact fun φ' H' v n h' q => ⟨φ', d, m', n, h', q, postL.nx n h⟩
  | exc c d m' => exact h
  | bad => exact h
theorem postL.bindL {r : Res (List D)} {k : List D → Mem → Res (List D)} {Q : List V → Hp → Prop} (h : postL K p W σ φ H (r.bind k) Q) :
    postL K p W σ φ H r (fun vs H1 => ∃ φ1 ds m1, Nx φ H φ1 H1 ∧ HR K p φ1 m1 H1 ∧ VRs K p φ1 H1 ds vs ∧ postL K p W σ φ1 H1 (k ds m1) Q) := by
  cases r with
  | ok d m' => exact fun φ' H' v n h' q => ⟨φ', d, m', n, h', q, postL.nx n h⟩
  | exc c d m' => exact h
  | bad => exact h
theorem postE.lift {r : OAns} {Q : VK} (h : postE K p W σ φ H (liftO r) Q) : postO K p φ H r Q := by
  match r, h with
  | some (d, m'), h => exact h
  | none, h => exact h
/-- a statement's part: an expression -/
def Res.toS {α : Type} (r : Res α) (ρ : DL.Env) (k : α → Mem → SRes) : SRes := match r with
  | .ok a m => k a m
  | .exc c d m => some (.ex c d ρ, m)
  | .bad => none
@[simp] theorem Res.toS_ok {α : Type} {a : α} {m : Mem} {ρ : DL.Env} {k : α → Mem → SRes} : (Res.ok a m).toS ρ k = k a m := rfl
@[simp] theorem Res.toS_exc {α : Type} {c : Nat} {d : D} {m : Mem} {ρ : DL.Env} {k : α → Mem → SRes} : (Res.exc c d m : Res α).toS ρ k = some (.ex c d ρ, m) := rfl
@[simp] theorem Res.toS_bad {α : Type} {ρ : DL.Env} {k : α → Mem → SRes} : (Res.bad : Res α).toS ρ k = none := rfl
theorem postS.bindE {r : Res D} {ρ : DL.Env} {k : D → Mem → SRes} {D' : Ends} (hm : HR K p φ m H) (hr : ER K p φ H ρ σ) (h : postS K p W φ H (r.toS ρ k) D') :
    postE K p W σ φ H r (fun v H1 => ∃ φ1 d m1, Nx φ H φ1 H1 ∧ HR K p φ1 m1 H1 ∧ VR K p φ1 H1 d v ∧ postS K p W φ1 H1 (k d m1) D') := by
  cases r with
  | ok d m' => exact fun φ' H' v n h' q => ⟨φ', d, m', n, h', q, postS.nx n h⟩
  | exc c d m' => exact fun φ' H' dx n h' q => h φ' H' σ dx n h' (hr.mono hm n) q
  | bad => exact h
theorem postS.bindB {r : Res Bool} {ρ : DL.Env} {k : Bool → Mem → SRes} {D' : Ends} (hm : HR K p φ m H) (hr : ER K p φ H ρ σ) (h : postS K p W φ H (r.toS ρ k) D') :
    postB K p W σ φ H r (fun b H1 => ∃ φ1 m1, Nx φ H φ1 H1 ∧ HR K p φ1 m1 H1 ∧ postS K p W φ1 H1 (k b m1) D') := by
  cases r with
  | ok d m' => exact fun φ' H' n h' => ⟨φ', m', n, h', postS.nx n h⟩
  | exc c d m' => exact fun φ' H' dx n h' q => h φ' H' σ dx n h' (hr.mono hm n) q
  | bad => exact h
end

/-! ### judgements -/
structure FE (p : Pr) (W : WX) (X : Cx) (e : Expr) (f : FX) : Prop where
  pe : PE X e (tE X.K p W f)
structure FT (p : Pr) (W : WX) (X : Cx) (e : Expr) (f : FB) : Prop where
  pt : PT X e (tT X.K p W f)
structure FW (p : Pr) (W : WX) (X : Cx) (e : Expr) (f : FB) : Prop where
  pw : PW X e (tT X.K p W f)
structure FA (p : Pr) (W : WX) (X : Cx) (es : List Expr) (f : FL) : Prop where
  pa : PA X es (tA X.K p W f)
structure FSt (p : Pr) (W : WX) (X : Cx) (st : Stmt) (f : FS) : Prop where
  ps : PS X st (tS X.K p W f)
structure FSs (p : Pr) (W : WX) (X : Cx) (st : List Stmt) (f : FS) : Prop where
  ps : PSs X st (tS X.K p W f)
section
variable {X : Cx} {e : Expr} {es : List Expr} {st : Stmt} {sts : List Stmt}
theorem pe_imp {t t' : TE} (h : PE X e t) (i : ∀ σ H Q, t' σ H Q → t σ H Q) : PE X e t' := ⟨fun pins s σ H Q I q => h.run pins s σ H Q I (i σ H Q q)⟩
theorem pt_imp {t t' : TT} (h : PT X e t) (i : ∀ σ H Q, t' σ H Q → t σ H Q) : PT X e t' := ⟨fun pins s σ H Q I q => h.run pins s σ H Q I (i σ H Q q)⟩
theorem pw_imp {t t' : TT} (h : PW X e t) (i : ∀ σ H Q, t' σ H Q → t σ H Q) : PW X e t' := ⟨fun w pins s σ H Q I q => h.run w pins s σ H Q I (i σ H Q q)⟩
theorem pa_imp {t t' : TA} (h : PA X es t) (i : ∀ σ H Q, t' σ H Q → t σ H Q) : PA X es t' := ⟨fun pos pins s σ H Q I q => h.run pos pins s σ H Q I (i σ H Q q)⟩
theorem ps_imp {t t' : TS} (h : PS X st t) (i : ∀ D σ H, t' D σ H → t D σ H) : PS X st t' := ⟨fun pins s σ H D I q => h.run pins s σ H D I (i D σ H q)⟩
theorem pss_imp {t t' : TS} (h : PSs X sts t) (i : ∀ D σ H, t' D σ H → t D σ H) : PSs X sts t' := ⟨fun pins s σ H D I q => h.run pins s σ H D I (i D σ H q)⟩
end

/-! ### expressions -/
def eVar (i : Nat) : FX := fun ρ m => match ρ[i]? with
  | some (some d) => .ok d m
  | _ => .bad
def eC (d : D) : FX := fun _ m => .ok d m
def eOp (o : D → D → Mem → OAns) (f g : FX) : FX := fun ρ m => (f ρ m).bind fun a m1 => (g ρ m1).bind fun b m2 => liftO (o a b m2)
def eUn (o : D → Mem → OAns) (f : FX) : FX := fun ρ m => (f ρ m).bind fun a m1 => liftO (o a m1)
def eAnd (f g : FX) : FX := fun ρ m => (f ρ m).bind fun a m1 => match a with
  | .bl true => g ρ m1
  | .bl false => .ok (.bl false) m1
  | _ => .bad
def eOr (f g : FX) : FX := fun ρ m => (f ρ m).bind fun a m1 => match a with
  | .bl false => g ρ m1
  | .bl true => .ok (.bl true) m1
  | _ => .bad
def eNot (f : FX) : FX := fun ρ m => (f ρ m).bind fun a m1 => match a with
  | .bl b => .ok (.bl (!b)) m1
  | _ => .bad
def eIf (t : FB) (f g : FX) : FX := fun ρ m => (t ρ m).bind fun b m1 => match b with
  | true => f ρ m1
  | false => g ρ m1
def bAnd (f g : FB) : FB := fun ρ m => (f ρ m).bind fun b m1 => match b with
  | true => g ρ m1
  | false => .ok false m1
def bOr (f g : FB) : FB := fun ρ m => (f ρ m).bind fun b m1 => match b with
  | true => .ok true m1
  | false => g ρ m1
def bNot (f : FB) : FB := fun ρ m => (f ρ m).bind fun b m1 => .ok (!b) m1
def aNil : FL := fun _ m => .ok [] m
def aCons (f : FX) (g : FL) : FL := fun ρ m => (f ρ m).bind fun d m1 => (g ρ m1).bind fun ds m2 => .ok (d :: ds) m2
/-- truth -/
def truD (d : D) (m : Mem) : Option Bool := match d with
  | .non => some false
  | .bl b => some b
  | .int i => some (i != 0)
  | .str s => if s.length ≤ sizeLine then some (!s.isEmpty) else none
  | .tup xs => some (!xs.isEmpty)
  | .ktup xs => some (!xs.isEmpty)
  | .rol xs => some (!xs.isEmpty)
  | .ref n => match m[n]? with
    | some (.lst xs) => some (!xs.isEmpty)
    | some (.dic false kvs) => some (!kvs.isEmpty)
    | _ => none
  | .fn _ => none
def bTru (f : FX) : FB := fun ρ m => (f ρ m).bind fun d m1 => match truD d m1 with
  | some b => .ok b m1
  | none => .bad
section
variable {p : Pr} {W : WX} {X : Cx} {e a b c : Expr} {es : List Expr} {f g h : FX} {u v : FB} {l : FL} {pos : Pos}
theorem fe_var (i : Nat) {x : Str} (hN : X.N[i]? = some x := by rfl) (hv : Vis X.env.scope x := by first | exact Or.inl rfl | exact Or.inr (Or.inl rfl) | exact Or.inr (Or.inr rfl)) (hd : (x == ("__debug__" : Str)) = false := by decide)
    (hcd : (x == ("__classdict__" : Str)) = false := by decide) : FE p W X (.Name x pos) (eVar i) := ⟨pe_imp (pe_var (i := i) hN hv hd hcd) fun σ H Q q => by
  obtain ⟨φ, ρ, m, h, r, q⟩ := q
  unfold eVar at q
  split at q
  · rename_i d e
    obtain ⟨v, e1, e2⟩ := r.get e
    exact ⟨v, e1, q φ H v Nx.refl h e2⟩
  · exact q.elim⟩
theorem fe_c {d : D} {v : V} (hp : PE X e (tC v)) (hv : ∀ φ H, VR X.K p φ H d v) : FE p W X e (eC d) := ⟨pe_imp hp fun σ H Q q => by
  obtain ⟨φ, ρ, m, h, r, q⟩ := q
  exact q φ H v Nx.refl h (hv φ H)⟩
theorem fe_int {i : Int} {j : Nat} : FE p W X (.Constant (.int i) j pos) (eC (.int i)) := fe_c pe_int fun _ _ => by simp [VR]
theorem fe_bl {b : Bool} {j : Nat} : FE p W X (.Constant (.bool b) j pos) (eC (.bl b)) := fe_c pe_bl fun _ _ => by simp [VR]
theorem fe_non {j : Nat} : FE p W X (.Constant .none j pos) (eC .non) := fe_c pe_non fun _ _ => by simp [VR]
theorem fe_str {x : Str} {j : Nat} (s : List Nat) (hs : x = ⟨s.toArray⟩ := by rfl) : FE p W X (.Constant (.str x) j pos) (eC (.str s)) := fe_c pe_str fun _ _ => by simp [VR, hs]
theorem fe_glob {x : Str} {d : D} {w : V} {z : Value} (hg : Gl X x) (hm : X.mg x = some z) (r : RelV w z) (hv : ∀ φ H, VR X.K p φ H d w) (hd : (x == ("__debug__" : Str)) = false := by decide) : FE p W X (.Name x pos) (eC d) := fe_c (pe_glob hg hm r hd) hv

/-- a two-place operation in trees -/
def FOp (p : Pr) (X : Cx) (h : Value → Value → Sem Value) (o : D → D → Mem → OAns) : Prop := OpR X h (tO2 X.K p o)
def FUn (p : Pr) (X : Cx) (h : Value → Sem Value) (o : D → Mem → OAns) : Prop := UnR X h (tO1 X.K p o)
def FCall (p : Pr) (X : Cx) (h : Value) (o : List D → Mem → OAns) : Prop := CallR X h (tOn X.K p o)
def FMt (p : Pr) (X : Cx) (id : String) (o : D → List D → Mem → OAns) : Prop := MtR X id (tOm X.K p o)
section
variable {K : PySem.W.Frag} {ρ : DL.Env} {m : Mem} {φ : List Addr} {H : Hp} {σ : St}
theorem stepE {k : D → Mem → Res D} {Q : VK} (h : HR K p φ m H) (r : ER K p φ H ρ σ) (q : postE K p W σ φ H ((f ρ m).bind k) Q) :
    tE K p W f σ H (fun v H1 => ∃ φ1 d m1, Nx φ H φ1 H1 ∧ HR K p φ1 m1 H1 ∧ ER K p φ1 H1 ρ σ ∧ VR K p φ1 H1 d v ∧ postE K p W σ φ1 H1 (k d m1) Q) := by
  refine ⟨φ, ρ, m, h, r, ?_⟩
  have q1 := postE.bindE q
  revert q1
  cases f ρ m with
  | bad => exact fun z => z
  | exc c d m' => exact fun z => z
  | ok d m' =>
    intro q1 φ1 H1 v n1 h1 r1
    obtain ⟨φ1', d', m1, n1', h1', r1', q2⟩ := q1 φ1 H1 v n1 h1 r1
    exact ⟨φ1', d', m1, n1', h1', r.mono h n1', r1', q2⟩
theorem stepB {k : Bool → Mem → Res D} {Q : VK} (h : HR K p φ m H) (r : ER K p φ H ρ σ) (q : postE K p W σ φ H ((u ρ m).bind k) Q) :
    tT K p W u σ H (fun b H1 => ∃ φ1 m1, Nx φ H φ1 H1 ∧ HR K p φ1 m1 H1 ∧ ER K p φ1 H1 ρ σ ∧ postE K p W σ φ1 H1 (k b m1) Q) := by
  refine ⟨φ, ρ, m, h, r, ?_⟩
  have q1 := postE.bindB q
  revert q1
  cases u ρ m with
  | bad => exact fun z => z
  | exc c d m' => exact fun z => z
  | ok d m' =>
    intro q1 φ1 H1 n1 h1
    obtain ⟨φ1', m1, n1', h1', q2⟩ := q1 φ1 H1 n1 h1
    exact ⟨φ1', m1, n1', h1', r.mono h n1', q2⟩
theorem stepL {k : List D → Mem → Res D} {Q : VK} (h : HR K p φ m H) (r : ER K p φ H ρ σ) (q : postE K p W σ φ H ((l ρ m).bind k) Q) :
    tA K p W l σ H (fun v H1 => ∃ φ1 d m1, Nx φ H φ1 H1 ∧ HR K p φ1 m1 H1 ∧ ER K p φ1 H1 ρ σ ∧ VRs K p φ1 H1 d v ∧ postE K p W σ φ1 H1 (k d m1) Q) := by
  refine ⟨φ, ρ, m, h, r, ?_⟩
  have q1 := postE.bindL q
  revert q1
  cases l ρ m with
  | bad => exact fun z => z
  | exc c d m' => exact fun z => z
  | ok d m' =>
    intro q1 φ1 H1 v n1 h1 r1
    obtain ⟨φ1', d', m1, n1', h1', r1', q2⟩ := q1 φ1 H1 v n1 h1 r1
    exact ⟨φ1', d', m1, n1', h1', r.mono h n1', r1', q2⟩
theorem stepEB {k : D → Mem → Res Bool} {Q : Bool → Hp → Prop} (h : HR K p φ m H) (r : ER K p φ H ρ σ) (q : postB K p W σ φ H ((f ρ m).bind k) Q) :
    tE K p W f σ H (fun v H1 => ∃ φ1 d m1, Nx φ H φ1 H1 ∧ HR K p φ1 m1 H1 ∧ ER K p φ1 H1 ρ σ ∧ VR K p φ1 H1 d v ∧ postB K p W σ φ1 H1 (k d m1) Q) := by
  refine ⟨φ, ρ, m, h, r, ?_⟩
  have q1 := postB.bindE q
  revert q1
  cases f ρ m with
  | bad => exact fun z => z
  | exc c d m' => exact fun z => z
  | ok d m' =>
    intro q1 φ1 H1 v n1 h1 r1
    obtain ⟨φ1', d', m1, n1', h1', r1', q2⟩ := q1 φ1 H1 v n1 h1 r1
    exact ⟨φ1', d', m1, n1', h1', r.mono h n1', r1', q2⟩
theorem stepBB {k : Bool → Mem → Res Bool} {Q : Bool → Hp → Prop} (h : HR K p φ m H) (r : ER K p φ H ρ σ) (q : postB K p W σ φ H ((u ρ m).bind k) Q) :
    tT K p W u σ H (fun b H1 => ∃ φ1 m1, Nx φ H φ1 H1 ∧ HR K p φ1 m1 H1 ∧ ER K p φ1 H1 ρ σ ∧ postB K p W σ φ1 H1 (k b m1) Q) := by
  refine ⟨φ, ρ, m, h, r, ?_⟩
  have q1 := postB.bindB q
  revert q1
  cases u ρ m with
  | bad => exact fun z => z
  | exc c d m' => exact fun z => z
  | ok d m' =>
    intro q1 φ1 H1 n1 h1
    obtain ⟨φ1', m1, n1', h1', q2⟩ := q1 φ1 H1 n1 h1
    exact ⟨φ1', m1, n1', h1', r.mono h n1', q2⟩
theorem stepEL {k : D → Mem → Res (List D)} {Q : List V → Hp → Prop} (h : HR K p φ m H) (r : ER K p φ H ρ σ) (q : postL K p W σ φ H ((f ρ m).bind k) Q) :
    tE K p W f σ H (fun v H1 => ∃ φ1 d m1, Nx φ H φ1 H1 ∧ HR K p φ1 m1 H1 ∧ ER K p φ1 H1 ρ σ ∧ VR K p φ1 H1 d v ∧ postL K p W σ φ1 H1 (k d m1) Q) := by
  refine ⟨φ, ρ, m, h, r, ?_⟩
  have q1 := postL.bindE q
  revert q1
  cases f ρ m with
  | bad => exact fun z => z
  | exc c d m' => exact fun z => z
  | ok d m' =>
    intro q1 φ1 H1 v n1 h1 r1
    obtain ⟨φ1', d', m1, n1', h1', r1', q2⟩ := q1 φ1 H1 v n1 h1 r1
    exact ⟨φ1', d', m1, n1', h1', r.mono h n1', r1', q2⟩
theorem stepLL {k : List D → Mem → Res (List D)} {Q : List V → Hp → Prop} (h : HR K p φ m H) (r : ER K p φ H ρ σ) (q : postL K p W σ φ H ((l ρ m).bind k) Q) :
    tA K p W l σ H (fun v H1 => ∃ φ1 d m1, Nx φ H φ1 H1 ∧ HR K p φ1 m1 H1 ∧ ER K p φ1 H1 ρ σ ∧ VRs K p φ1 H1 d v ∧ postL K p W σ φ1 H1 (k d m1) Q) := by
  refine ⟨φ, ρ, m, h, r, ?_⟩
  have q1 := postL.bindL q
  revert q1
  cases l ρ m with
  | bad => exact fun z => z
  | exc c d m' => exact fun z => z
  | ok d m' =>
    intro q1 φ1 H1 v n1 h1 r1
    obtain ⟨φ1', d', m1, n1', h1', r1', q2⟩ := q1 φ1 H1 v n1 h1 r1
    exact ⟨φ1', d', m1, n1', h1', r.mono h n1', r1', q2⟩
theorem stepES {k : D → Mem → SRes} {D' : Ends} (h : HR K p φ m H) (r : ER K p φ H ρ σ) (q : postS K p W φ H ((f ρ m).toS ρ k) D') :
    tE K p W f σ H (fun v H1 => ∃ φ1 d m1, Nx φ H φ1 H1 ∧ HR K p φ1 m1 H1 ∧ ER K p φ1 H1 ρ σ ∧ VR K p φ1 H1 d v ∧ postS K p W φ1 H1 (k d m1) D') := by
  refine ⟨φ, ρ, m, h, r, ?_⟩
  have q1 := postS.bindE h r q
  revert q1
  cases f ρ m with
  | bad => exact fun z => z
  | exc c d m' => exact fun z => z
  | ok d m' =>
    intro q1 φ1 H1 v n1 h1 r1
    obtain ⟨φ1', d', m1, n1', h1', r1', q2⟩ := q1 φ1 H1 v n1 h1 r1
    exact ⟨φ1', d', m1, n1', h1', r.mono h n1', r1', q2⟩
theorem stepBS {k : Bool → Mem → SRes} {D' : Ends} (h : HR K p φ m H) (r : ER K p φ H ρ σ) (q : postS K p W φ H ((u ρ m).toS ρ k) D') :
    tT K p W u σ H (fun b H1 => ∃ φ1 m1, Nx φ H φ1 H1 ∧ HR K p φ1 m1 H1 ∧ ER K p φ1 H1 ρ σ ∧ postS K p W φ1 H1 (k b m1) D') := by
  refine ⟨φ, ρ, m, h, r, ?_⟩
  have q1 := postS.bindB h r q
  revert q1
  cases u ρ m with
  | bad => exact fun z => z
  | exc c d m' => exact fun z => z
  | ok d m' =>
    intro q1 φ1 H1 n1 h1
    obtain ⟨φ1', m1, n1', h1', q2⟩ := q1 φ1 H1 n1 h1
    exact ⟨φ1', m1, n1', h1', r.mono h n1', q2⟩
end
theorem op_body {K : PySem.W.Frag} {o : D → D → Mem → OAns} {σ : St} {H : Hp} {Q : VK} (q : tE K p W (eOp o f g) σ H Q) : tOp (tO2 K p o) (tE K p W f) (tE K p W g) σ H Q := by
  obtain ⟨φ, ρ, m, h, r, q⟩ := q
  refine (thE ?_ (stepE h r q))
  rintro v H1 ⟨φ1, d, m1, n1, h1, r1, v1, q1⟩
  refine (thE ?_ (stepE h1 r1 q1))
  rintro w H2 ⟨φ2, d2, m2, n2, h2, r2, v2, q2⟩
  exact ⟨φ2, m2, d, d2, h2, VR.mono h1 n2 _ _ v1, v2, postE.lift q2⟩
end
end DL

set_option Elab.async false
set_option linter.all false
set_option maxRecDepth 100000
set_option maxHeartbeats 4000000
namespace DL
open PySem PySem.Spec PyProof.Rows L2

/-- lengths within the line -/
def fits (n : Nat) : Bool := Nat.ble n 16777216
theorem fits_iff {n : Nat} : fits n = true ↔ n ≤ sizeLine := by unfold fits; rw [Nat.ble_eq]; rfl
def eChain (o o' : D → D → Mem → OAns) (f g h : FX) : FX := fun ρ m => (f ρ m).bind fun a m1 => (g ρ m1).bind fun b m2 => (liftO (o a b m2)).bind fun z m3 => match z with
  | .bl true => (h ρ m3).bind fun c m4 => liftO (o' b c m4)
  | .bl false => .ok (.bl false) m3
  | _ => .bad
def eTup (l : FL) : FX := fun ρ m => (l ρ m).bind fun ds m1 => match fits ds.length with
  | true => .ok (.tup ds) m1
  | false => .bad
def eLst (l : FL) : FX := fun ρ m => (l ρ m).bind fun ds m1 => match fits ds.length with
  | true => .ok (.ref m1.length) (m1 ++ [.lst ds])
  | false => .bad
def eCall (o : List D → Mem → OAns) (l : FL) : FX := fun ρ m => (l ρ m).bind fun ds m1 => liftO (o ds m1)
/-- a built-in type's name for a value -/
def tyD (T : String) (d : D) (m : Mem) : Bool := match d with
  | .str _ => T == "str"
  | .int _ => T == "int"
  | .ref n => match m[n]? with
    | some (.lst _) => T == "list"
    | some (.dic _ _) => T == "dict"
    | _ => false
  | .rol _ => T == "list"
  | _ => false
def eMt (T : String) (o : D → List D → Mem → OAns) (f : FX) (l : FL) : FX := fun ρ m => (f ρ m).bind fun d m1 => match tyD T d m1 with
  | true => (l ρ m1).bind fun ds m2 => liftO (o d ds m2)
  | false => .bad
section
variable {K : PySem.W.Frag} {p : Pr} {W : WX} {X : Cx} {e a b c : Expr} {es : List Expr} {f g h : FX} {u v : FB} {l : FL} {pos : Pos} {rest : List Expr}
theorem postO.bind {σ : St} {φ : List Addr} {H : Hp} {r : OAns} {k : D → Mem → Res D} {Q : VK} (q : postE K p W σ φ H ((liftO r).bind k) Q) :
    postO K p φ H r (fun v H1 => ∃ φ1 d m1, Nx φ H φ1 H1 ∧ HR K p φ1 m1 H1 ∧ VR K p φ1 H1 d v ∧ postE K p W σ φ1 H1 (k d m1) Q) := by
  match r, q with
  | some (d, m), q => exact fun φ' H' v n h r => ⟨φ', d, m, n, h, r, postE.nx n q⟩
  | none, q => exact q
theorem fe_op {op : Operator} {o : D → D → Mem → OAns} (ho : FOp p X (binaryOp op) o) (ha : FE p W X a f) (hb : FE p W X b g) : FE p W X (.BinOp a op b pos) (eOp o f g) := ⟨pe_imp (pe_op ho ha.pe hb.pe) fun _ _ _ q => op_body q⟩
theorem fe_cmp {op : CmpOp} {o : D → D → Mem → OAns} (ho : FOp p X (compareOp op) o) (ha : FE p W X a f) (hb : FE p W X b g) (hm : behindInMarks op b = false := by first | exact nomark _ | rfl | with_unfolding_all rfl) : FE p W X (.Compare a [op] [b] pos) (eOp o f g) :=
  ⟨pe_imp (pe_cmpR ho ha.pe hb.pe hm) fun _ _ _ q => op_body q⟩
theorem fe_un {op : UnaryOp} {o : D → Mem → OAns} (ho : FUn p X (unaryOp op) o) (ha : FE p W X a f) : FE p W X (.UnaryOp op a pos) (eUn o f) := ⟨pe_imp (pe_un ho ha.pe) fun σ H Q q => by
  obtain ⟨φ, ρ, m, hm, r, q⟩ := q
  refine thE ?_ (stepE hm r q)
  rintro v H1 ⟨φ1, d, m1, n1, h1, r1, v1, q1⟩
  exact ⟨φ1, m1, d, h1, v1, postE.lift q1⟩⟩
theorem fe_chain {op op' : CmpOp} {o o' : D → D → Mem → OAns} (ho : FOp p X (compareOp op) o) (ho' : FOp p X (compareOp op') o') (ha : FE p W X a f) (hb : FE p W X b g) (hc : FE p W X c h)
    (hm : lastMarks [op, op'] [b, c] = false := by with_unfolding_all rfl) : FE p W X (.Compare a [op, op'] [b, c] pos) (eChain o o' f g h) := ⟨pe_imp (pe_chain ho ho' ha.pe hb.pe hc.pe hm) fun σ H Q q => by
  obtain ⟨φ, ρ, m, hm, r, q⟩ := q
  refine thE ?_ (stepE hm r q)
  rintro v H1 ⟨φ1, d, m1, n1, h1, r1, v1, q1⟩
  refine thE ?_ (stepE h1 r1 q1)
  rintro w H2 ⟨φ2, d2, m2, n2, h2, r2, v2, q2⟩
  refine ⟨φ2, m2, d, d2, h2, VR.mono h1 n2 _ _ v1, v2, ?_⟩
  have q3 := postO.bind q2
  revert q3
  match o d d2 m2 with
  | none => exact fun z => z
  | some (z, m3) =>
    intro q3 φ3 H3 y n3 h3 v3
    obtain ⟨φ3', z', m3', n3', h3', v3', q4⟩ := q3 φ3 H3 y n3 h3 v3
    cases z' with
    | bl k =>
      simp only [VR] at v3'
      cases k with
      | true =>
        refine ⟨true, v3', ?_⟩
        rw [if_pos rfl]
        refine thE ?_ (stepE h3' (r2.mono h2 n3') q4)
        rintro w4 H4 ⟨φ4, d4, m4, n4, h4, r4, v4, q5⟩
        exact ⟨φ4, m4, d2, d4, h4, VR.mono h3' n4 _ _ (VR.mono h2 n3' _ _ v2), v4, postE.lift q5⟩
      | false =>
        refine ⟨false, v3', ?_⟩
        rw [if_neg (by simp)]
        exact q4 φ3' H3 _ Nx.refl h3' (by simp [VR])
    | _ => exact False.elim q4⟩
theorem fe_and (ha : FE p W X a f) (hb : FE p W X (.BoolOp .And (b :: rest) pos) g) : FE p W X (.BoolOp .And (a :: b :: rest) pos) (eAnd f g) := ⟨pe_imp (pe_and ha.pe hb.pe) fun σ H Q q => by
  obtain ⟨φ, ρ, m, hm, r, q⟩ := q
  refine thE ?_ (stepE hm r q)
  rintro v H1 ⟨φ1, d, m1, n1, h1, r1, v1, q1⟩
  cases d with
  | bl k =>
    simp only [VR] at v1
    cases k with
    | true =>
      refine ⟨true, v1, ?_⟩
      rw [if_pos rfl]
      exact ⟨φ1, ρ, m1, h1, r1, q1⟩
    | false =>
      refine ⟨false, v1, ?_⟩
      rw [if_neg (by simp)]
      exact q1 φ1 H1 _ Nx.refl h1 (by simp [VR])
  | _ => exact False.elim q1⟩
theorem fe_or (ha : FE p W X a f) (hb : FE p W X (.BoolOp .Or (b :: rest) pos) g) : FE p W X (.BoolOp .Or (a :: b :: rest) pos) (eOr f g) := ⟨pe_imp (pe_or ha.pe hb.pe) fun σ H Q q => by
  obtain ⟨φ, ρ, m, hm, r, q⟩ := q
  refine thE ?_ (stepE hm r q)
  rintro v H1 ⟨φ1, d, m1, n1, h1, r1, v1, q1⟩
  cases d with
  | bl k =>
    simp only [VR] at v1
    cases k with
    | false =>
      refine ⟨false, v1, ?_⟩
      rw [if_neg (by simp)]
      exact ⟨φ1, ρ, m1, h1, r1, q1⟩
    | true =>
      refine ⟨true, v1, ?_⟩
      rw [if_pos rfl]
      exact q1 φ1 H1 _ Nx.refl h1 (by simp [VR])
  | _ => exact False.elim q1⟩
theorem fe_one {op : BoolOp} (ha : FE p W X a f) : FE p W X (.BoolOp op [a] pos) f := ⟨pe_one ha.pe⟩
theorem fe_not (ha : FE p W X a f) : FE p W X (.UnaryOp .Not a pos) (eNot f) := ⟨pe_imp (pe_not ha.pe) fun σ H Q q => by
  obtain ⟨φ, ρ, m, hm, r, q⟩ := q
  refine thE ?_ (stepE hm r q)
  rintro v H1 ⟨φ1, d, m1, n1, h1, r1, v1, q1⟩
  cases d with
  | bl b =>
    simp only [VR] at v1
    exact ⟨b, v1, q1 φ1 H1 _ Nx.refl h1 (by simp [VR])⟩
  | _ => exact False.elim q1⟩
theorem fe_ifExp (hc : FT p W X c u) (ha : FE p W X a f) (hb : FE p W X b g) : FE p W X (.IfExp c a b pos) (eIf u f g) := ⟨pe_imp (pe_ifExp hc.pt ha.pe hb.pe) fun σ H Q q => by
  obtain ⟨φ, ρ, m, hm, r, q⟩ := q
  refine thT ?_ (stepB hm r q)
  rintro k H1 ⟨φ1, m1, n1, h1, r1, q1⟩
  cases k with
  | true => rw [if_pos rfl]; exact ⟨φ1, ρ, m1, h1, r1, q1⟩
  | false => rw [if_neg (by simp)]; exact ⟨φ1, ρ, m1, h1, r1, q1⟩⟩
theorem fw_and1 (ha : FT p W X a u) : FW p W X (.BoolOp .And [a] pos) u := ⟨pw_and1 ha.pt⟩
theorem fw_or1 (ha : FT p W X a u) : FW p W X (.BoolOp .Or [a] pos) u := ⟨pw_or1 ha.pt⟩
theorem fw_and (ha : FT p W X a u) (hb : FW p W X (.BoolOp .And (b :: rest) pos) v) : FW p W X (.BoolOp .And (a :: b :: rest) pos) (bAnd u v) := ⟨pw_imp (pw_and ha.pt hb.pw) fun σ H Q q => by
  obtain ⟨φ, ρ, m, hm, r, q⟩ := q
  refine thT ?_ (stepBB hm r q)
  rintro k H1 ⟨φ1, m1, n1, h1, r1, q1⟩
  cases k with
  | true => rw [if_pos rfl]; exact ⟨φ1, ρ, m1, h1, r1, q1⟩
  | false => rw [if_neg (by simp)]; exact q1 φ1 H1 Nx.refl h1⟩
theorem fw_or (ha : FT p W X a u) (hb : FW p W X (.BoolOp .Or (b :: rest) pos) v) : FW p W X (.BoolOp .Or (a :: b :: rest) pos) (bOr u v) := ⟨pw_imp (pw_or ha.pt hb.pw) fun σ H Q q => by
  obtain ⟨φ, ρ, m, hm, r, q⟩ := q
  refine thT ?_ (stepBB hm r q)
  rintro k H1 ⟨φ1, m1, n1, h1, r1, q1⟩
  cases k with
  | false => rw [if_neg (by simp)]; exact ⟨φ1, ρ, m1, h1, r1, q1⟩
  | true => rw [if_pos rfl]; exact q1 φ1 H1 Nx.refl h1⟩
theorem FW.ft (h : FW p W X e u) : FT p W X e u := ⟨h.pw.pt⟩
theorem ft_not (ha : FT p W X a u) : FT p W X (.UnaryOp .Not a pos) (bNot u) := ⟨pt_imp (pt_not ha.pt) fun σ H Q q => by
  obtain ⟨φ, ρ, m, hm, r, q⟩ := q
  refine thT ?_ (stepBB hm r q)
  rintro k H1 ⟨φ1, m1, n1, h1, r1, q1⟩
  exact q1 φ1 H1 Nx.refl h1⟩
theorem tru_of {φ : List Addr} {H : Hp} {m : Mem} {d : D} {x : V} {k : Bool} (h : HR K p φ m H) (r : VR K p φ H d x) (e : truD d m = some k) : TruV K x H k := by
  cases d with
  | non => simp only [VR] at r; subst r; simp [truD] at e; first | exact e | exact e.symm
  | bl b => simp only [VR] at r; subst r; simp [truD] at e; first | exact e | exact e.symm
  | int i => simp only [VR] at r; subst r; simp [truD] at e; first | exact e | exact e.symm
  | str s =>
    simp only [VR] at r; subst r
    simp only [truD] at e
    split at e
    · cases e
      refine ⟨by simpa [Str.length] using ‹_›, ?_⟩
      cases s with
      | nil => simp [Str.length]
      | cons c s => simp [Str.length]; omega
    · cases e
  | tup xs =>
    simp only [VR] at r
    obtain ⟨a, vs, rfl, s, r⟩ := r
    simp only [truD] at e; cases e
    refine .inr (.inl ⟨vs, SqT.of s, ?_⟩)
    have := r.nil_iff
    cases xs <;> cases vs <;> simp_all
  | ktup xs =>
    simp only [VR] at r
    obtain ⟨a, vs, rfl, s, r⟩ := r
    simp only [truD] at e; cases e
    refine .inr (.inl ⟨vs, s.sq, ?_⟩)
    have := r.nil_iff
    cases xs <;> cases vs <;> simp_all
  | rol xs =>
    simp only [VR] at r
    obtain ⟨a, vs, rfl, s, r⟩ := r
    simp only [truD] at e; cases e
    refine .inl ⟨vs, ?_, ?_⟩
    · rcases s with ⟨o, s⟩ | s
      · exact .inl (.inr ⟨o, s⟩)
      · exact s H
    · have := r.nil_iff
      cases xs <;> cases vs <;> simp_all
  | fn n => simp [truD] at e
  | ref n =>
    simp only [VR] at r
    obtain ⟨a, ea, rfl⟩ := r
    simp only [truD] at e
    split at e
    · rename_i xs em
      cases e
      obtain ⟨vs, e1, e2⟩ := h.obj n _ a em ea
      refine .inl ⟨vs, SqL.of e1, ?_⟩
      have := e2.nil_iff
      cases xs <;> cases vs <;> simp_all
    · rename_i kvs em
      cases e
      obtain ⟨vs, e1, e2⟩ := h.obj n _ a em ea
      refine .inr (.inr ⟨vs, e1, ?_⟩)
      cases kvs with
      | nil => obtain rfl := e2; rfl
      | cons x xs => obtain ⟨k, v, r, rfl, _⟩ := e2; rfl
    · cases e
theorem ft_tru (ha : FE p W X a f) (he : ∀ whole, isTrue a X.env whole = (do let v ← whole; standAt a.pos; holding [v] (truthy v)) := by intro _; rfl) : FT p W X a (bTru f) := ⟨pt_imp (pt_truth ha.pe he) fun σ H Q q => by
  obtain ⟨φ, ρ, m, hm, r, q⟩ := q
  refine thE ?_ (stepEB hm r q)
  rintro v H1 ⟨φ1, d, m1, n1, h1, r1, v1, q1⟩
  revert q1
  cases e : truD d m1 with
  | none => exact fun z => z.elim
  | some k => exact fun q1 => ⟨k, tru_of h1 v1 e, q1 φ1 H1 Nx.refl h1⟩⟩
theorem fa_nil : FA p W X [] aNil := ⟨pa_imp pa_nil fun σ H Q q => by
  obtain ⟨φ, ρ, m, hm, r, q⟩ := q
  exact q φ H [] Nx.refl hm (by simp [VRs])⟩
theorem fa_cons (ha : FE p W X e f) (hr : FA p W X es l) (hs : starEach (e :: es) X.env = (false, eval e X.env) :: starEach es X.env := by rfl) : FA p W X (e :: es) (aCons f l) := ⟨pa_imp (pa_cons ha.pe hr.pa hs) fun σ H Q q => by
  obtain ⟨φ, ρ, m, hm, r, q⟩ := q
  refine thE ?_ (stepEL hm r q)
  rintro v H1 ⟨φ1, d, m1, n1, h1, r1, v1, q1⟩
  refine thA ?_ (stepLL h1 r1 q1)
  rintro vs H2 ⟨φ2, ds, m2, n2, h2, r2, v2, q2⟩
  exact q2 φ2 H2 _ Nx.refl h2 (by simp only [VRs]; exact ⟨v, vs, rfl, VR.mono h1 n2 _ _ v1, v2⟩)⟩
theorem fe_tup {x1} (hl : FA p W X es l) : FE p W X (.Tuple es x1 pos) (eTup l) := ⟨pe_imp (pe_tup hl.pa) fun σ H Q q => by
  obtain ⟨φ, ρ, m, hm, r, q⟩ := q
  refine thA ?_ (stepL hm r q)
  rintro vs H1 ⟨φ1, ds, m1, n1, h1, r1, v1, q1⟩
  revert q1
  cases e : fits ds.length with
  | false => exact fun z => z.elim
  | true =>
    intro q1
    refine ⟨(by rw [← v1.length]; exact fits_iff.mp e), fun a na => q1 φ1 _ _ (Nx.new na) (h1.new na) ?_⟩
    simp only [VR]
    exact ⟨a, vs, rfl, upd_same, VRs.mono h1 (Nx.new na) _ _ v1⟩⟩
theorem HR.allocL {φ : List Addr} {H : Hp} {m : Mem} {x : Addr} {ds : List D} {vs : List V} (h : HR K p φ m H) (ha : H x = none) (v : VRs K p φ H ds vs) : HR K p (φ ++ [x]) (m ++ [.lst ds]) (upd H x (.lst vs)) :=
  h.alloc ha ⟨vs, rfl, VRs.mono h (Nx.alloc ha) _ _ v⟩
theorem VR.last {φ : List Addr} {H : Hp} {m : Mem} {x : Addr} (h : φ.length = m.length) : VR K p (φ ++ [x]) H (.ref m.length) (.ref x) := by
  simp only [VR]
  exact ⟨x, by rw [← h]; simp, rfl⟩
theorem fe_lst (hl : FA p W X es l) : FE p W X (.List es pos) (eLst l) := ⟨pe_imp (pe_lst hl.pa) fun σ H Q q => by
  obtain ⟨φ, ρ, m, hm, r, q⟩ := q
  refine thA ?_ (stepL hm r q)
  rintro vs H1 ⟨φ1, ds, m1, n1, h1, r1, v1, q1⟩
  revert q1
  cases e : fits ds.length with
  | false => exact fun z => z.elim
  | true =>
    intro q1
    exact ⟨(by rw [← v1.length]; exact fits_iff.mp e), fun a na => q1 (φ1 ++ [a]) _ _ (Nx.alloc na) (h1.allocL na v1) (VR.last h1.len)⟩⟩
/-- a built-in by its name -/
theorem fe_callB {x : Str} {id : String} {pp : Pos} {o : List D → Mem → OAns} (hc : FCall p X (.builtin id) o) (hm : X.mg x = none) (hv : bootBuiltins x = some (.builtin id)) (ha : FA p W X (e :: es) l) (hg : Gl X x := by rfl) (hn : x ≠ "__name__" := by decide) (hdb : (x == ("__debug__" : Str)) = false := by decide)
    (he : starEach (e :: es) X.env = (false, eval e X.env) :: starEach es X.env := by rfl) (hpl : (backTo pos (starEach es X.env)).any (·.1) = false := by rfl) : FE p W X (.Call (.Name x pp) (e :: es) [] pos) (eCall o l) :=
  ⟨pe_imp (pe_callB hc hg hm hv ha.pa hn hdb he hpl) fun σ H Q q => by
    obtain ⟨φ, ρ, m, hm, r, q⟩ := q
    refine thA ?_ (stepL hm r q)
    rintro vs H1 ⟨φ1, ds, m1, n1, h1, r1, v1, q1⟩
    exact ⟨φ1, m1, ds, h1, v1, postE.lift q1⟩⟩
theorem fe_callTy {x : Str} {T : String} {pp : Pos} {o : List D → Mem → OAns} (hc : FCall p X (.type T) o) (hm : X.mg x = none) (hv : bootBuiltins x = some (.type T)) (ha : FA p W X (e :: es) l) (hg : Gl X x := by rfl) (hn : x ≠ "__name__" := by decide) (hdb : (x == ("__debug__" : Str)) = false := by decide)
    (he : starEach (e :: es) X.env = (false, eval e X.env) :: starEach es X.env := by rfl) (hpl : (backTo pos (starEach es X.env)).any (·.1) = false := by rfl) : FE p W X (.Call (.Name x pp) (e :: es) [] pos) (eCall o l) :=
  ⟨pe_imp (pe_callTy hc hg hm hv ha.pa hn hdb he hpl) fun σ H Q q => by
    obtain ⟨φ, ρ, m, hm, r, q⟩ := q
    refine thA ?_ (stepL hm r q)
    rintro vs H1 ⟨φ1, ds, m1, n1, h1, r1, v1, q1⟩
    exact ⟨φ1, m1, ds, h1, v1, postE.lift q1⟩⟩
theorem tyD_ok {φ : List Addr} {H : Hp} {m : Mem} {T : String} {d : D} {x : V} (h : HR K p φ m H) (r : VR K p φ H d x) (e : tyD T d m = true) : tyV K T x H := by
  cases d with
  | str s => simp only [VR] at r; subst r; simpa [tyD, tyV] using e
  | int s => simp only [VR] at r; subst r; simpa [tyD, tyV] using e
  | ref n =>
    simp only [VR] at r
    obtain ⟨a, ea, rfl⟩ := r
    simp only [tyD] at e
    split at e
    · rename_i xs em
      obtain ⟨vs, e1, _⟩ := h.obj n _ a em ea
      exact .inl ⟨by simpa using e, vs, SqL.of e1⟩
    · rename_i t kvs em
      cases t with
      | false =>
        obtain ⟨vs, e1, _⟩ := h.obj n _ a em ea
        exact .inr (.inr (.inl ⟨by simpa using e, .inl ⟨vs, e1⟩⟩))
      | true =>
        obtain ⟨vs, e1, _⟩ := h.obj n _ a em ea
        exact .inr (.inr (.inl ⟨by simpa using e, .inr ⟨vs, e1⟩⟩))
    · cases e
  | rol xs =>
    simp only [VR] at r
    obtain ⟨a, vs, rfl, s, r⟩ := r
    refine .inl ⟨by simpa [tyD] using e, vs, ?_⟩
    rcases s with ⟨o, s⟩ | s
    · exact .inl (.inr ⟨o, s⟩)
    · exact s H
  | non => simp [tyD] at e
  | bl b => simp [tyD] at e
  | tup xs => simp [tyD] at e
  | ktup xs => simp [tyD] at e
  | fn n => simp [tyD] at e
theorem fe_mt {ob : Expr} {name : Str} {apos cpos : Pos} {T id : String} {o : D → List D → Mem → OAns} (pa : PlainAttrs T) (slot : Slot T name id) (hty : typeOf (.builtin id) = pure (.type "method_descriptor")) (hm : FMt p X id o) (ho : FE p W X ob f) (ha : FA p W X (e :: es) l)
    (hbase : attributeBase ob name X.env (eval ob X.env) = eval ob X.env := by rfl)
    (hfew : ((backTo cpos (starEach (e :: es) X.env)).all (fun x => !x.1) && (backToKw cpos (keywordEach [] X.env)).all (fun x => x.1.isSome)
      && decide ((e :: es).length + ([] : List Keyword).length + (if ([] : List Keyword).isEmpty then 0 else 1) < 30)) = true := by rfl)
    (hline : (apos.endLine == cpos.line) = true := by rfl) (hs : starEach (e :: es) X.env = (false, eval e X.env) :: starEach es X.env := by rfl) (hplain : (backTo cpos (starEach es X.env)).any (·.1) = false := by rfl) :
    FE p W X (.Call (.Attribute ob name apos) (e :: es) [] cpos) (eMt T o f l) := ⟨pe_imp (pe_bm pa slot hty hm ho.pe ha.pa hbase hfew hline hs hplain) fun σ H Q q => by
  obtain ⟨φ, ρ, m, hm, r, q⟩ := q
  refine thE ?_ (stepE hm r q)
  rintro v H1 ⟨φ1, d, m1, n1, h1, r1, v1, q1⟩
  revert q1
  cases e : tyD T d m1 with
  | false => exact fun z => z.elim
  | true =>
    intro q1
    refine ⟨tyD_ok h1 v1 e, thA ?_ (stepL h1 r1 q1)⟩
    rintro vs H2 ⟨φ2, ds, m2, n2, h2, r2, v2, q2⟩
    exact ⟨φ2, m2, d, ds, h2, VR.mono h1 n2 _ _ v1, v2, postE.lift q2⟩⟩
theorem fe_mt0 {ob : Expr} {name : Str} {apos cpos : Pos} {T id : String} {o : D → List D → Mem → OAns} (pa : PlainAttrs T) (slot : Slot T name id) (hty : typeOf (.builtin id) = pure (.type "method_descriptor")) (hm : FMt p X id o) (ho : FE p W X ob f)
    (hbase : attributeBase ob name X.env (eval ob X.env) = eval ob X.env := by rfl) (hline : (apos.endLine == cpos.line) = true := by rfl) :
    FE p W X (.Call (.Attribute ob name apos) [] [] cpos) (eMt T o f aNil) := ⟨pe_imp (pe_bm0 pa slot hty hm ho.pe hbase hline) fun σ H Q q => by
  obtain ⟨φ, ρ, m, hm, r, q⟩ := q
  refine thE ?_ (stepE hm r q)
  rintro v H1 ⟨φ1, d, m1, n1, h1, r1, v1, q1⟩
  revert q1
  cases e : tyD T d m1 with
  | false => exact fun z => z.elim
  | true =>
    intro q1
    exact ⟨tyD_ok h1 v1 e, φ1, m1, d, [], h1, v1, by simp [VRs], postE.lift q1⟩⟩
end
end DL

set_option Elab.async false
set_option linter.all false
set_option maxRecDepth 100000
set_option maxHeartbeats 4000000
namespace DL
open PySem PySem.Spec PyProof.Rows L2

/-! ### statements -/
def sSeq (f g : FS) : FS := fun ρ m => match f ρ m with
  | some (.nx ρ1, m1) => g ρ1 m1
  | r => r
def sNop : FS := fun ρ m => some (.nx ρ, m)
def sBrk : FS := fun ρ m => some (.bk ρ, m)
def sCnt : FS := fun ρ m => some (.ct ρ, m)
def sRet (f : FX) : FS := fun ρ m => (f ρ m).toS ρ fun d m1 => some (.rt d, m1)
def sRetN : FS := fun ρ m => some (.rt .non, m)
def sExp (f : FX) : FS := fun ρ m => (f ρ m).toS ρ fun _ m1 => some (.nx ρ, m1)
def sIf (t : FB) (f g : FS) : FS := fun ρ m => (t ρ m).toS ρ fun b m1 => match b with
  | true => f ρ m1
  | false => g ρ m1
def sSet (i : Nat) (f : FX) : FS := fun ρ m => (f ρ m).toS ρ fun d m1 => some (.nx (ρ.set i (some d)), m1)
def sPar (i j : Nat) (f g : FX) : FS := fun ρ m => (f ρ m).toS ρ fun d m1 => (g ρ m1).toS ρ fun e m2 => some (.nx ((ρ.set i (some d)).set j (some e)), m2)
def sPar3 (i j l : Nat) (f g h : FX) : FS := fun ρ m => (f ρ m).toS ρ fun d m1 => (g ρ m1).toS ρ fun e m2 => (h ρ m2).toS ρ fun c m3 => some (.nx (((ρ.set i (some d)).set j (some e)).set l (some c)), m3)
def sNever : FS := fun _ _ => none
def sWhile (c : FB) (b : FS) : Nat → FS
  | 0 => fun _ _ => none
  | n + 1 => fun ρ m => (c ρ m).toS ρ fun t m1 => match t with
    | false => some (.nx ρ, m1)
    | true => match b ρ m1 with
      | some (.nx ρ2, m2) => sWhile c b n ρ2 m2
      | some (.ct ρ2, m2) => sWhile c b n ρ2 m2
      | some (.bk ρ2, m2) => some (.nx ρ2, m2)
      | r => r
section
variable {p : Pr} {W : WX} {X : Cx} {e a b c : Expr} {es : List Expr} {f g h : FX} {u v : FB} {l : FL} {pos : Pos} {st : Stmt} {sts rest : List Stmt} {s t : FS}
theorem fss_nil : FSs p W X [] sNop := ⟨pss_imp pss_nil fun D σ H q => by
  obtain ⟨φ, ρ, m, hm, r, q⟩ := q
  exact q φ H σ Nx.refl hm r⟩
theorem fss_cons (h1 : FSt p W X st s) (h2 : FSs p W X rest t) : FSs p W X (st :: rest) (sSeq s t) := ⟨pss_imp (pss_cons h1.ps h2.ps) fun D σ H q => by
  obtain ⟨φ, ρ, m, hm, r, q⟩ := q
  refine ⟨φ, ρ, m, hm, r, ?_⟩
  unfold sSeq at q
  match s ρ m, q with
  | some (.nx ρ', m'), q => exact fun φ' H' σ' n' h' r' => ⟨φ', ρ', m', h', r', postS.nx n' q⟩
  | some (.bk ρ', m'), q => exact q
  | some (.ct ρ', m'), q => exact q
  | some (.rt d, m'), q => exact q
  | some (.ex c d ρ', m'), q => exact q
  | none, q => exact q⟩
theorem fss_one (h1 : FSt p W X st s) : FSs p W X [st] s := ⟨pss_one h1.ps⟩
theorem fs_pass : FSt p W X (.Pass pos) sNop := ⟨ps_imp ps_pass fun D σ H q => by
  obtain ⟨φ, ρ, m, hm, r, q⟩ := q
  exact q φ H σ Nx.refl hm r⟩
theorem fs_brk : FSt p W X (.Break pos) sBrk := ⟨ps_imp ps_break fun D σ H q => by
  obtain ⟨φ, ρ, m, hm, r, q⟩ := q
  exact q φ H σ Nx.refl hm r⟩
theorem fs_cnt : FSt p W X (.Continue pos) sCnt := ⟨ps_imp ps_continue fun D σ H q => by
  obtain ⟨φ, ρ, m, hm, r, q⟩ := q
  exact q φ H σ Nx.refl hm r⟩
theorem fs_never : FSt p W X st sNever := ⟨ps_imp ps_never fun D σ H q => by
  obtain ⟨φ, ρ, m, hm, r, q⟩ := q
  exact q⟩
theorem fs_ret (he : FE p W X e f) : FSt p W X (.Return (some e) pos) (sRet f) := ⟨ps_imp (ps_ret he.pe) fun D σ H q => by
  obtain ⟨φ, ρ, m, hm, r, q⟩ := q
  refine thE ?_ (stepES hm r q)
  rintro v H1 ⟨φ1, d, m1, n1, h1, r1, v1, q1⟩
  exact q1 φ1 H1 v Nx.refl h1 v1⟩
theorem fs_retN : FSt p W X (.Return none pos) sRetN := ⟨ps_imp ps_retN fun D σ H q => by
  obtain ⟨φ, ρ, m, hm, r, q⟩ := q
  exact q φ H .non Nx.refl hm (by simp [VR])⟩
theorem fs_exp (he : FE p W X e f) (hs : swapsWith e none pos.line X.env = pure false := by rfl) : FSt p W X (.Expr e pos) (sExp f) := ⟨ps_imp (ps_expr he.pe hs) fun D σ H q => by
  obtain ⟨φ, ρ, m, hm, r, q⟩ := q
  refine thE ?_ (stepES hm r q)
  rintro v H1 ⟨φ1, d, m1, n1, h1, r1, v1, q1⟩
  exact q1 φ1 H1 σ Nx.refl h1 r1⟩
theorem fs_if (hc : FT p W X c u) (ha : FSs p W X sts s) (hb : FSs p W X rest t) : FSt p W X (.If c sts rest pos) (sIf u s t) := ⟨ps_imp (ps_if hc.pt ha.ps hb.ps) fun D σ H q => by
  obtain ⟨φ, ρ, m, hm, r, q⟩ := q
  refine thT ?_ (stepBS hm r q)
  rintro k H1 ⟨φ1, m1, n1, h1, r1, q1⟩
  cases k with
  | true => rw [if_pos rfl]; exact ⟨φ1, ρ, m1, h1, r1, q1⟩
  | false => rw [if_neg (by simp)]; exact ⟨φ1, ρ, m1, h1, r1, q1⟩⟩
theorem fs_set {x : Str} {pos' : Pos} (i : Nat) (hN : X.N.Nodup) (he : FE p W X e f) (hi : X.N[i]? = some x := by rfl) (hx : Loc X.env.scope x := by first | exact .inl rfl | exact .inr rfl) (hs : swapsWith e (some (.Name x pos')) pos.line X.env = pure false := by rfl) (hf : X.fn x = true ∨ X.env.scope.names.lookup x = some .local := by first | exact .inl rfl | exact .inr rfl | assumption) :
    FSt p W X (.Assign [.Name x pos'] e pos) (sSet i f) := ⟨ps_imp (ps_set (i := i) hN hi hx he.pe hs hf) fun D σ H q => by
  obtain ⟨φ, ρ, m, hm, r, q⟩ := q
  refine thE ?_ (stepES hm r q)
  rintro v H1 ⟨φ1, d, m1, n1, h1, r1, v1, q1⟩
  exact q1 φ1 H1 _ Nx.refl h1 (ER.set v1 i r1)⟩
theorem fs_par {x y : Str} {px py pt : Pos} {kt k2 pt2} (i j : Nat) (hc : X.calm = true) (hN : X.N.Nodup) (ha : FE p W X a f) (hb : FE p W X b g) (hi : X.N[i]? = some x := by rfl) (hj : X.N[j]? = some y := by rfl) (hij : i ≠ j := by decide)
    (hx : X.env.scope.names.lookup x = some .local := by rfl) (hy : X.env.scope.names.lookup y = some .local := by rfl)
    (hw : swappedStores [.Tuple [.Name x px, .Name y py] kt pt] (.Tuple [a, b] k2 pt2) X.env = pure (some [x, y]) := by rfl)
    (hs : swapsWithSole [.Tuple [.Name x px, .Name y py] kt pt] (.Tuple [a, b] k2 pt2) pos.line X.env = pure false := by rfl)
    (s1 : starEach [a, b] X.env = (false, eval a X.env) :: starEach [b] X.env := by rfl) (s2 : starEach [b] X.env = (false, eval b X.env) :: starEach [] X.env := by rfl) :
    FSt p W X (.Assign [.Tuple [.Name x px, .Name y py] kt pt] (.Tuple [a, b] k2 pt2) pos) (sPar i j f g) := ⟨ps_imp (ps_par hc hN hi hj hij hx hy (pa_cons ha.pe (pa_cons hb.pe pa_nil s2) s1) hw hs) fun D σ H q => by
  obtain ⟨φ, ρ, m, hm, r, q⟩ := q
  refine thE ?_ (stepES hm r q)
  rintro v H1 ⟨φ1, d, m1, n1, h1, r1, v1, q1⟩
  refine thE ?_ (stepES h1 r1 q1)
  rintro w H2 ⟨φ2, e2, m2, n2, h2, r2, v2, q2⟩
  exact ⟨v, w, rfl, q2 φ2 H2 _ Nx.refl h2 (ER.set v2 j (ER.set (VR.mono h1 n2 _ _ v1) i r2))⟩⟩
theorem fs_par3 {x y z : Str} {px py pz pt : Pos} {kt k2 pt2} (i j k : Nat) (hc : X.calm = true) (hN : X.N.Nodup) (ha : FE p W X a f) (hb : FE p W X b g) (hd : FE p W X c h) (hi : X.N[i]? = some x := by rfl) (hj : X.N[j]? = some y := by rfl) (hk : X.N[k]? = some z := by rfl) (hij : i ≠ j := by decide) (hik : i ≠ k := by decide) (hjk : j ≠ k := by decide)
    (hx : X.env.scope.names.lookup x = some .local := by rfl) (hy : X.env.scope.names.lookup y = some .local := by rfl) (hz : X.env.scope.names.lookup z = some .local := by rfl)
    (hw : swappedStores [.Tuple [.Name x px, .Name y py, .Name z pz] kt pt] (.Tuple [a, b, c] k2 pt2) X.env = pure (some [x, y, z]) := by rfl)
    (hs : swapsWithSole [.Tuple [.Name x px, .Name y py, .Name z pz] kt pt] (.Tuple [a, b, c] k2 pt2) pos.line X.env = pure false := by rfl)
    (s1 : starEach [a, b, c] X.env = (false, eval a X.env) :: starEach [b, c] X.env := by rfl) (s2 : starEach [b, c] X.env = (false, eval b X.env) :: starEach [c] X.env := by rfl) (s3 : starEach [c] X.env = (false, eval c X.env) :: starEach [] X.env := by rfl) :
    FSt p W X (.Assign [.Tuple [.Name x px, .Name y py, .Name z pz] kt pt] (.Tuple [a, b, c] k2 pt2) pos) (sPar3 i j k f g h) := ⟨ps_imp (ps_par3 hc hN hi hj hk hij hik hjk hx hy hz (pa_cons ha.pe (pa_cons hb.pe (pa_cons hd.pe pa_nil s3) s2) s1) hw hs) fun D σ H q => by
  obtain ⟨φ, ρ, m, hm, r, q⟩ := q
  refine thE ?_ (stepES hm r q)
  rintro v H1 ⟨φ1, d, m1, n1, h1, r1, v1, q1⟩
  refine thE ?_ (stepES h1 r1 q1)
  rintro w H2 ⟨φ2, e2, m2, n2, h2, r2, v2, q2⟩
  refine thE ?_ (stepES h2 r2 q2)
  rintro w3 H3 ⟨φ3, e3, m3, n3, h3, r3, v3, q3⟩
  exact ⟨v, w, w3, rfl, q3 φ3 H3 _ Nx.refl h3 (ER.set v3 k (ER.set (VR.mono h2 n3 _ _ v2) j (ER.set (VR.mono h2 n3 _ _ (VR.mono h1 n2 _ _ v1)) i r3)))⟩⟩
theorem fs_while (n : Nat) (hp : PassesOwn (model X.prog X.w) X.A X.env X.xe) (hc : FT p W X c u) (hb : FSs p W X sts s) : FSt p W X (.While c sts [] pos) (sWhile u s n) := ⟨ps_imp (ps_while hp hc.pt hb.ps) fun D σ H q => by
  refine ⟨fun k σ' H' => ∃ φ' ρ' m', HR X.K p φ' m' H' ∧ ER X.K p φ' H' ρ' σ' ∧ postS X.K p W φ' H' (sWhile u s k ρ' m') D, ⟨n, q⟩, ?_⟩
  rintro k σ1 H1 ⟨φ1, ρ1, m1, h1, r1, q1⟩
  cases k with
  | zero => exact False.elim q1
  | succ k =>
    refine thT ?_ (stepBS h1 r1 q1)
    rintro t H2 ⟨φ2, m2, n2, h2, r2, q2⟩
    cases t with
    | false => rw [if_neg (by simp)]; exact q2 φ2 H2 σ1 Nx.refl h2 r2
    | true =>
      rw [if_pos rfl]
      refine ⟨fun σ' H' => ∃ φ' ρ' m', HR X.K p φ' m' H' ∧ ER X.K p φ' H' ρ' σ' ∧ postS X.K p W φ' H' (sWhile u s k ρ' m') D, fun σ' H' z => ⟨k, Nat.lt_succ_self k, z⟩, φ2, ρ1, m2, h2, r2, ?_⟩
      simp only at q2
      match s ρ1 m2, q2 with
      | some (.nx ρ', m'), q => exact fun φ' H' σ' n' h' r' => ⟨φ', ρ', m', h', r', postS.nx n' q⟩
      | some (.ct ρ', m'), q => exact fun φ' H' σ' n' h' r' => ⟨φ', ρ', m', h', r', postS.nx n' q⟩
      | some (.bk ρ', m'), q => exact q
      | some (.rt d, m'), q => exact q
      | some (.ex c d ρ', m'), q => exact q
      | none, q => exact q⟩
end

/-! ### defs -/
section
variable (K : PySem.W.Frag) (p : Pr)
def postF (φ : List Addr) (H : Hp) (r : Res D) (Q : VK) (E : XK) : Prop := match r with
  | .ok d m' => ∀ φ' H' v, Nx φ H φ' H' → HR K p φ' m' H' → VR K p φ' H' d v → Q v H'
  | .exc c d m' => ∀ φ' H' dx, Nx φ H φ' H' → HR K p φ' m' H' → XD K p φ' H' c d dx → E (.ref (p.cA c)) dx H'
  | .bad => False
def spD (n : Nat) (F : List D → Mem → Res D) : Sp := fun vs H Q E => vs.length = n ∧ ∃ φ m ds, HR K p φ m H ∧ VRs K p φ H ds vs ∧ postF K p φ H (F ds m) Q E
end
/-- a def by its body -/
def fnF (np nl : Nat) (b : FS) (ds : List D) (m : Mem) : Res D := match Nat.beq ds.length np with
  | true => match b (ds.map some ++ List.replicate (nl - np) none) m with
    | some (.rt d, m') => .ok d m'
    | some (.nx _, m') => .ok .non m'
    | some (.ex c d _, m') => .exc c d m'
    | _ => .bad
  | false => .bad
theorem er_start {K : PySem.W.Frag} {p : Pr} {φ : List Addr} {H : Hp} (k : Nat) : ∀ {ds : List D} {vs : List V}, VRs K p φ H ds vs → ER K p φ H (ds.map some ++ List.replicate k none) (vs.map some ++ List.replicate k none)
  | [], vs, q => by
    simp only [VRs] at q; subst q
    simp only [List.map_nil, List.nil_append]
    induction k with
    | zero => exact rfl
    | succ k ih => rw [List.replicate_succ, List.replicate_succ]; exact ⟨_, _, rfl, (fun d e => by cases e), ih⟩
  | d :: ds, vs, q => by
    simp only [VRs] at q
    obtain ⟨v, r, rfl, a, b⟩ := q
    exact ⟨_, _, rfl, (fun d' e => by cases e; exact ⟨v, rfl, a⟩), er_start k b⟩
theorem fn_ok {P : Program} {w : World} {K : PySem.W.Frag} {mg : Str → Option Value} {base : Heap} {p : Pr} {x qual : Str} {params : Arguments} {body : List Stmt} {scope : Scope} {dvs : List V} {kws : List (Str × V)} {f : Addr} {fd : FuncData} {N ps : List Str} {k : Nat} {b : FS}
    (F : FunD K x qual params body scope dvs kws f fd) (S : FnScope N ps scope)
    (hb : ∀ (X : Cx) (E : XK), X.prog = P → X.w = w → X.K = K → X.mg = mg → X.base = base → Room k X.A → (∃ A outer s H cdv, X = cxOf (L2.CX P w) P w K mg base N qual scope f cdv A outer s H E) → FSs p (fun cls d _ H => E cls d H) X body b) :
    FnOk P w K mg base (L2.CX P w) (k + 1) f fd ps (spD K p ps.length (fnF ps.length N.length b)) := by
  refine F.ok S (fun vs H Q E h => h.1) fun cdv A outer s H vs Q E hr hsp => ?_
  obtain ⟨hl, φ, m, ds, hm, rv, q⟩ := hsp
  refine ⟨_, (hb _ E rfl rfl rfl rfl rfl hr ⟨A, outer, s, H, cdv, rfl⟩).ps, φ, ds.map some ++ List.replicate (N.length - ps.length) none, m, hm, ?_, ?_⟩
  · unfold L2.start
    rw [hl]
    exact er_start _ rv
  · unfold fnF at q
    have e : Nat.beq ds.length ps.length = true := by rw [rv.length, hl]; simp [Nat.beq_eq]
    rw [e] at q
    simp only at q
    match b (ds.map some ++ List.replicate (N.length - ps.length) none) m, q with
    | some (.rt d, m'), q => exact q
    | some (.nx ρ', m'), q => exact fun φ' H' σ' n' h' r' => q φ' H' .non n' h' (by simp [VR])
    | some (.ex c d ρ', m'), q => exact fun φ' H' σ' dx n' h' r' x => q φ' H' dx n' h' x
    | some (.bk ρ', m'), q => exact False.elim q
    | some (.ct ρ', m'), q => exact False.elim q
    | none, q => exact False.elim q
end DL

set_option Elab.async false
set_option linter.all false
set_option maxRecDepth 100000
set_option maxHeartbeats 4000000
namespace DL
open PySem PySem.Spec PyProof.Rows L2

/-! ### calls: a call whose arguments name no object runs in a memory of its own -/
mutual
def D.pure : D → Bool
  | .tup xs => D.pures xs
  | .ktup xs => D.pures xs
  | .rol xs => D.pures xs
  | .ref _ => false
  | _ => true
def D.pures : List D → Bool
  | [] => true
  | x :: xs => D.pure x && D.pures xs
end
mutual
def D.sh (k : Nat) : D → D
  | .tup xs => .tup (D.shs k xs)
  | .ktup xs => .ktup (D.shs k xs)
  | .rol xs => .rol (D.shs k xs)
  | .ref n => .ref (k + n)
  | d => d
def D.shs (k : Nat) : List D → List D
  | [] => []
  | x :: xs => D.sh k x :: D.shs k xs
end
def shKV (k : Nat) : List (D × D) → List (D × D)
  | [] => []
  | x :: xs => (x.1, D.sh k x.2) :: shKV k xs
def shF (k : Nat) : List (Str × D) → List (Str × D)
  | [] => []
  | x :: xs => (x.1, D.sh k x.2) :: shF k xs
def MO.sh (k : Nat) : MO → MO
  | .lst xs => .lst (D.shs k xs)
  | .dic t kvs => .dic t (shKV k kvs)
  | .lck t kvs => .lck t (shKV k kvs)
  | .ins c fs => .ins c (shF k fs)
def callS (F : List D → Mem → Res D) (ds : List D) (m : Mem) : Res D := match D.pures ds with
  | true => match F ds [] with
    | .ok r m1 => (match D.pure r with
      | true => .ok r m
      | false => .ok (D.sh m.length r) (m ++ m1.map (MO.sh m.length)))
    | .exc c d _ => (match D.pure d with
      | true => .exc c d m
      | false => .bad)
    | .bad => .bad
  | false => F ds m
section
variable {K : PySem.W.Frag} {p : Pr} {φ φ' φ1 : List Addr} {H H' : Hp} {m m1 : Mem}
mutual
/-- a pure value stands whatever the memory -/
theorem VR.pure (h : HR K p φ m H) (k : ∀ b o, H b = some o → b ∉ φ → H' b = some o) : ∀ (d : D) (v : V), D.pure d = true → VR K p φ H d v → VR K p φ' H' d v
  | .non, _, _, q => by simpa [VR] using q
  | .bl b, _, _, q => by simpa [VR] using q
  | .int i, _, _, q => by simpa [VR] using q
  | .str s, _, _, q => by simpa [VR] using q
  | .fn k, _, _, q => by simpa [VR] using q
  | .ref k, v, e, q => by simp [D.pure] at e
  | .tup xs, v, e, q => by
    simp only [VR] at q ⊢
    simp only [D.pure] at e
    obtain ⟨a, vs, rfl, s, r⟩ := q
    exact ⟨a, vs, rfl, k _ _ s (h.okKind s rfl), VRs.pure h k xs vs e r⟩
  | .ktup xs, v, e, q => by
    simp only [VR] at q ⊢
    simp only [D.pure] at e
    obtain ⟨a, vs, rfl, s, r⟩ := q
    exact ⟨a, vs, rfl, s.keep fun o e => k _ _ e (h.okKind e rfl), VRs.pure h k xs vs e r⟩
  | .rol xs, v, e, q => by
    simp only [VR] at q ⊢
    simp only [D.pure] at e
    obtain ⟨a, vs, rfl, s, r⟩ := q
    refine ⟨a, vs, rfl, ?_, VRs.pure h k xs vs e r⟩
    rcases s with ⟨o, s⟩ | s
    · exact .inl ⟨o, k _ _ s (h.okKind s rfl)⟩
    · exact .inr s
theorem VRs.pure (h : HR K p φ m H) (k : ∀ b o, H b = some o → b ∉ φ → H' b = some o) : ∀ (ds : List D) (vs : List V), D.pures ds = true → VRs K p φ H ds vs → VRs K p φ' H' ds vs
  | [], _, _, q => by simpa [VRs] using q
  | d :: ds, vs, e, q => by
    simp only [VRs] at q ⊢
    simp only [D.pures, Bool.and_eq_true] at e
    obtain ⟨v, r, rfl, a, b⟩ := q
    exact ⟨v, r, rfl, VR.pure h k d v e.1 a, VRs.pure h k ds r e.2 b⟩
end
mutual
theorem VR.sh : ∀ (d : D) (v : V), VR K p φ1 H d v → VR K p (φ ++ φ1) H (D.sh φ.length d) v
  | .non, _, q => by simpa [VR, D.sh] using q
  | .bl b, _, q => by simpa [VR, D.sh] using q
  | .int i, _, q => by simpa [VR, D.sh] using q
  | .str s, _, q => by simpa [VR, D.sh] using q
  | .fn k, _, q => by simpa [VR, D.sh] using q
  | .ref k, v, q => by
    simp only [VR, D.sh] at q ⊢
    obtain ⟨a, e, rfl⟩ := q
    refine ⟨a, ?_, rfl⟩
    rw [List.getElem?_append_right (by omega)]
    simpa using e
  | .tup xs, v, q => by
    simp only [VR, D.sh] at q ⊢
    obtain ⟨a, vs, rfl, s, r⟩ := q
    exact ⟨a, vs, rfl, s, VRs.sh xs vs r⟩
  | .ktup xs, v, q => by
    simp only [VR, D.sh] at q ⊢
    obtain ⟨a, vs, rfl, s, r⟩ := q
    exact ⟨a, vs, rfl, s, VRs.sh xs vs r⟩
  | .rol xs, v, q => by
    simp only [VR, D.sh] at q ⊢
    obtain ⟨a, vs, rfl, s, r⟩ := q
    exact ⟨a, vs, rfl, s, VRs.sh xs vs r⟩
theorem VRs.sh : ∀ (ds : List D) (vs : List V), VRs K p φ1 H ds vs → VRs K p (φ ++ φ1) H (D.shs φ.length ds) vs
  | [], _, q => by simpa [VRs, D.shs] using q
  | d :: ds, vs, q => by
    simp only [VRs, D.shs] at q ⊢
    obtain ⟨v, r, rfl, a, b⟩ := q
    exact ⟨v, r, rfl, VR.sh d v a, VRs.sh ds r b⟩
end
theorem KR.sh : ∀ {kvs : List (D × D)} {vs : List (Key × V)}, KR K p φ1 H kvs vs → KR K p (φ ++ φ1) H (shKV φ.length kvs) vs
  | [], _, q => q
  | x :: xs, _, q => by
    obtain ⟨k, v, r, rfl, a, b, c⟩ := q
    exact ⟨k, v, r, rfl, a, VR.sh _ _ b, KR.sh c⟩
theorem TR.sh : ∀ {kvs : List (D × D)} {vs : List (List Key × V)}, TR K p φ1 H kvs vs → TR K p (φ ++ φ1) H (shKV φ.length kvs) vs
  | [], _, q => q
  | x :: xs, _, q => by
    obtain ⟨k, v, r, rfl, a, b, c⟩ := q
    exact ⟨k, v, r, rfl, a, VR.sh _ _ b, TR.sh c⟩
theorem FR.sh : ∀ {kvs : List (Str × D)} {vs : List (Str × V)}, FR K p φ1 H kvs vs → FR K p (φ ++ φ1) H (shF φ.length kvs) vs
  | [], _, q => q
  | x :: xs, _, q => by
    obtain ⟨v, r, rfl, b, c⟩ := q
    exact ⟨v, r, rfl, VR.sh _ _ b, FR.sh c⟩
theorem OR.sh {u : Option HO} : ∀ {o : MO}, OR K p φ1 H o u → OR K p (φ ++ φ1) H (o.sh φ.length) u
  | .lst xs, q => let ⟨vs, e, r⟩ := q; ⟨vs, e, VRs.sh _ _ r⟩
  | .dic false kvs, q => let ⟨vs, e, r⟩ := q; ⟨vs, e, KR.sh r⟩
  | .dic true kvs, q => let ⟨vs, e, r⟩ := q; ⟨vs, e, TR.sh r⟩
  | .lck false kvs, q => let ⟨od, vs, e, r⟩ := q; ⟨od, vs, e, KR.sh r⟩
  | .lck true kvs, q => let ⟨od, vs, e, r⟩ := q; ⟨od, vs, e, TR.sh r⟩
  | .ins c fs, q => let ⟨dx, vs, e, r⟩ := q; ⟨dx, vs, e, FR.sh r⟩
/-- behind a call that ran in a memory of its own -/
theorem Nx.own (n : Nx [] H φ1 H') : Nx φ H (φ ++ φ1) H' := by
  obtain ⟨nw, e, f⟩ := n.ext
  simp at e
  subst e
  exact ⟨⟨_, rfl, f⟩, fun b o e _ => n.keep b o e (by simp), n.there⟩
theorem Nx.own0 (n : Nx [] H φ1 H') : Nx φ H φ H' := ⟨⟨[], by simp, by simp⟩, fun b o e _ => n.keep b o e (by simp), n.there⟩
theorem HR.own0 (h : HR K p φ m H) (n : Nx [] H φ1 H') : HR K p φ m H' := ⟨h.len, h.nd, fun i o a e1 e2 => by
  have q := h.obj i o a e1 e2
  obtain ⟨z, ez⟩ := q.some
  rw [n.keep a z ez (by simp), ← ez]
  exact q.mono h (Nx.own0 n)⟩
theorem HR.own (h : HR K p φ m H) (n : Nx [] H φ1 H') (h1 : HR K p φ1 m1 H') : HR K p (φ ++ φ1) (m ++ m1.map (MO.sh m.length)) H' := by
  obtain ⟨new, e, f⟩ := n.ext
  simp at e
  refine ⟨by simp [h.len, h1.len], List.nodup_append.mpr ⟨h.nd, h1.nd, fun x hx y hy z => h.tracked hx (f x (by rw [← e]; exact z ▸ hy))⟩, fun i o a e1 e2 => ?_⟩
  by_cases hi : i < m.length
  · rw [List.getElem?_append_left hi] at e1
    rw [List.getElem?_append_left (h.len ▸ hi)] at e2
    have q := h.obj i o a e1 e2
    obtain ⟨z, ez⟩ := q.some
    rw [n.keep a z ez (by simp), ← ez]
    exact q.mono h (Nx.own n)
  · rw [List.getElem?_append_right (by omega)] at e1
    rw [List.getElem?_append_right (by have := h.len; omega), h.len] at e2
    rw [List.getElem?_map] at e1
    cases e3 : m1[i - m.length]? with
    | none => rw [e3] at e1; cases e1
    | some u =>
      rw [e3] at e1
      simp at e1
      subst e1
      rw [← h.len]
      exact (h1.obj _ u a e3 e2).sh
theorem postF_call {σ : St} {W : WX} {F : List D → Mem → Res D} {ds : List D} {vs : List V} {Q : VK} (h : HR K p φ m H) (r : VRs K p φ H ds vs) (hl : vs.length = n) (q : postE K p W σ φ H (callS F ds m) Q) : spD K p n F vs H Q (WE W σ) := by
  unfold callS at q
  cases e : D.pures ds with
  | false =>
    rw [e] at q
    refine ⟨hl, φ, m, ds, h, r, ?_⟩
    revert q
    cases F ds m with
    | ok d m' => exact fun z => z
    | exc c d m' => exact fun z => z
    | bad => exact fun z => z
  | true =>
    rw [e] at q
    refine ⟨hl, [], [], ds, HR.nil, VRs.pure h (fun b o eb _ => eb) ds vs e r, ?_⟩
    revert q
    cases F ds [] with
    | bad => exact fun z => z
    | exc c d m1 =>
      cases ed : D.pure d with
      | false => intro q; simp only [ed] at q; exact False.elim q
      | true =>
        intro q
        simp only [ed] at q
        intro φ' H' dx n' h' x
        refine q φ H' dx (Nx.own0 n') (h.own0 n') ?_
        unfold XD at x ⊢
        split at x
        · exact x
        · obtain ⟨a, v, x1, x2, x3⟩ := x
          exact ⟨a, v, x1, x2, VR.pure h' (fun b o eb _ => eb) _ _ ed x3⟩
    | ok d m1 =>
      cases ed : D.pure d with
      | true =>
        intro q
        simp only [ed] at q
        intro φ' H' v n' h' x
        exact q φ H' v (Nx.own0 n') (h.own0 n') (VR.pure h' (fun b o eb _ => eb) _ _ ed x)
      | false =>
        intro q
        simp only [ed] at q
        intro φ' H' v n' h' x
        refine q (φ ++ φ') H' v (Nx.own n') (h.own n' h') ?_
        rw [← h.len]
        exact VR.sh _ _ x
end

def eFn (F : List D → Mem → Res D) (l : FL) : FX := fun ρ m => (l ρ m).bind fun ds m1 => callS F ds m1
/-- the keywords' values, put in the parameters' order -/
def permD {α : Type} (pm : List Nat) (xs : List α) : List α := pm.filterMap fun i => xs[i]?
def eFnK (F : List D → Mem → Res D) (n : Nat) (pm : List Nat) (l k : FL) : FX := fun ρ m => (l ρ m).bind fun ds m1 => (k ρ m1).bind fun es m2 => match Nat.beq (permD pm (ds ++ es)).length n with
  | true => callS F (permD pm (ds ++ es)) m2
  | false => .bad
structure FK (p : Pr) (W : WX) (X : Cx) (kws : List Keyword) (f : FL) : Prop where
  pk : PK X kws (tA X.K p W f)
theorem pk_imp {X : Cx} {kws : List Keyword} {t t' : TA} (h : PK X kws t) (i : ∀ σ H Q, t' σ H Q → t σ H Q) : PK X kws t' := ⟨fun pos pins s σ H Q I q => h.run pos pins s σ H Q I (i σ H Q q)⟩
theorem VRs.perm {K : PySem.W.Frag} {p : Pr} {φ : List Addr} {H : Hp} {ds : List D} {vs : List V} (r : VRs K p φ H ds vs) : ∀ pm : List Nat, VRs K p φ H (permD pm ds) (permD pm vs)
  | [] => by simp [permD, VRs]
  | i :: pm => by
    have ih := VRs.perm r pm
    unfold permD at ih ⊢
    cases e : ds[i]? with
    | none =>
      have e2 : vs[i]? = none := by
        rw [List.getElem?_eq_none_iff] at e ⊢
        rw [← r.length]; exact e
      simp only [List.filterMap_cons, e, e2]; exact ih
    | some d =>
      obtain ⟨v, e2, rv⟩ := r.get e
      simp only [List.filterMap_cons, e, e2, VRs]; exact ⟨v, _, rfl, rv, ih⟩
theorem Vals.perm {vs : List V} {us : List Value} (r : Vals vs us) : ∀ pm : List Nat, Vals (permD pm vs) (permD pm us)
  | [] => .nil
  | i :: pm => by
    have ih := Vals.perm r pm
    unfold permD at ih ⊢
    cases e : vs[i]? with
    | none => simp only [List.filterMap_cons, e, r.none_of e]; exact ih
    | some d =>
      obtain ⟨v, e2, rv⟩ := r.get e
      simp only [List.filterMap_cons, e, e2]; exact .cons rv ih
/-- how a call with keywords binds -/
def KBd (K : PySem.W.Frag) (fd : FuncData) (ps ks : List Str) (n : Nat) (pm : List Nat) : Prop :=
  ∀ (s : Shared) (us ws : List Value), us.length = n → ws.length = ks.length → BindsTo s fd ⟨us, ks.zip ws⟩ (ps.zip (permD pm (us ++ ws)))
/-- a def with its promise -/
structure DefOk (p : Pr) (P : Program) (w : World) (K : PySem.W.Frag) (mg : Str → Option Value) (base : Heap) (x : Str) (st : Stmt) (ps : List Str) (k : Nat) (F : List D → Mem → Res D) : Prop where
  ex : ∃ f fd, FnOk P w K mg base (L2.CX P w) k f fd ps (spD K p ps.length F) ∧ mg x = some (.ref f) ∧ FunD K x x (defArgs st) (defBody st) (defScope st) [] [] f fd ∧ Binds K fd ps []
  bad : ∀ ds m, ds.length ≠ ps.length → F ds m = .bad
theorem kbd_of {K : PySem.W.Frag} {x qual : Str} {params : Arguments} {body : List Stmt} {scope : Scope} {kws : List (Str × V)} {f : Addr} {fd : FuncData} {ps ks : List Str} {n : Nat} {pm : List Nat} (F : FunD K x qual params body scope [] kws f fd)
    (h : ∀ (kV doc pm' : Value) (an : Option Addr) (cdv ct : Value) (us ws : List Value), us.length = n → ws.length = ks.length → bindArgs (PySem.W.fnOf x qual params body scope .none kV doc pm' an cdv ct) ⟨us, ks.zip ws⟩ = pure (ps.zip (permD pm (us ++ ws)))) : KBd K fd ps ks n pm := by
  obtain ⟨oc, od, dV, kV, doc, pm', an, cdv, ct, osl, rfl, lk, hcd, hdf, _⟩ := F.ex
  intro s us ws h1 h2
  rcases hdf with ⟨_, rfl⟩ | ⟨z, _⟩
  · exact .of_eq (h kV doc pm' an cdv ct us ws h1 h2)
  · exact absurd rfl z
theorem fnF_bad {np nl : Nat} {b : FS} {ds : List D} {m : Mem} (h : ds.length ≠ np) : fnF np nl b ds m = .bad := by
  unfold fnF
  have e : Nat.beq ds.length np = false := by
    cases z : Nat.beq ds.length np with
    | false => rfl
    | true => exact absurd (Nat.eq_of_beq_eq_true z) h
  rw [e]
section
variable {p : Pr} {W : WX} {X : Cx} {e : Expr} {es : List Expr} {l kl : FL} {x : Str} {st : Stmt} {pp pos : Pos} {k : Nat} {ps ks : List Str} {F : List D → Mem → Res D} {kws : List Keyword} {kpos : Pos} {nm : Option Str} {g : FX}
theorem callS_bad {ds : List D} {m : Mem} {n : Nat} (hb : ∀ ds m, ds.length ≠ n → F ds m = .bad) (hl : ds.length ≠ n) : callS F ds m = .bad := by
  unfold callS
  rw [hb ds _ hl, hb ds _ hl]
  cases D.pures ds <;> rfl
theorem fe_fn (G : DefOk p X.prog X.w X.K X.mg X.base x st ps k F) (tk : Takes X W) (hr : Room k X.A) (ha : FA p W X (e :: es) l) (hg : Gl X x := by rfl)
    (hdb : (x == ("__debug__" : Str)) = false := by decide) (he : starEach (e :: es) X.env = (false, eval e X.env) :: starEach es X.env := by rfl) (hpl : (backTo pos (starEach es X.env)).any (·.1) = false := by rfl) :
    FE p W X (.Call (.Name x pp) (e :: es) [] pos) (eFn F l) := ⟨⟨fun pins s σ H Q I q => by
  obtain ⟨φ, ρ, m, hm', r, q⟩ := q
  obtain ⟨f, fd, GF, hm, FD, hb⟩ := G.ex
  have hk := FD.kp
  refine wpAny_Call_Name_kw (ld_glob I hg hm ?_ hdb)
  refine PySem.W.callWith_K (h₀ := X.base) I.ok.mod.kin hk (thn (ha.pa.run pos pins s σ H _ I (stepL hm' r q)) ?_) he hpl
  rintro us s1 ⟨vs, H1, I1, rv, φ1, ds, m1, n1, h1, r1, v1, q1⟩
  refine ⟨I1.kIn, ?_⟩
  by_cases hl : vs.length = ps.length
  · exact run_fnSD (dvs := []) (ds := []) (E := WE W) GF hr hb .nil (passAt tk σ) I1 rv (by rw [List.append_nil]; exact postF_call h1 v1 hl q1)
  · rw [callS_bad G.bad (by rw [v1.length]; exact hl)] at q1
    exact False.elim q1⟩⟩
theorem fe_fn0 (G : DefOk p X.prog X.w X.K X.mg X.base x st ps k F) (tk : Takes X W) (hr : Room k X.A) (hg : Gl X x := by rfl) (hdb : (x == ("__debug__" : Str)) = false := by decide) :
    FE p W X (.Call (.Name x pp) [] [] pos) (eFn F aNil) := ⟨⟨fun pins s σ H Q I q => by
  obtain ⟨φ, ρ, m, hm', r, q⟩ := q
  obtain ⟨f, fd, GF, hm, FD, hb⟩ := G.ex
  have hk := FD.kp
  refine wpAny_Call_Name_kw (ld_glob I hg hm ?_ hdb)
  refine PySem.W.callWith_K0 I.kIn hk ?_
  have q' : postE X.K p W σ φ H (callS F [] m) Q := q
  by_cases hl : ([] : List V).length = ps.length
  · exact run_fnSD (us := []) (vs := []) (dvs := []) (ds := []) (E := WE W) GF hr hb .nil (passAt tk σ) I .nil (postF_call hm' (by simp [VRs]) hl q')
  · rw [callS_bad G.bad (by exact hl)] at q'
    exact False.elim q'⟩⟩
theorem fk_nil : FK p W X [] aNil := ⟨pk_imp pk_nil fun σ H Q q => by
  obtain ⟨φ, ρ, m, hm, r, q⟩ := q
  exact q φ H [] Nx.refl hm (by simp [VRs])⟩
theorem fk_cons (ha : FE p W X e g) (hr : FK p W X kws kl) : FK p W X (⟨nm, e, kpos⟩ :: kws) (aCons g kl) := ⟨pk_imp (pk_cons ha.pe hr.pk) fun σ H Q q => by
  obtain ⟨φ, ρ, m, hm, r, q⟩ := q
  refine thE ?_ (stepEL hm r q)
  rintro v H1 ⟨φ1, d, m1, n1, h1, r1, v1, q1⟩
  refine thA ?_ (stepLL h1 r1 q1)
  rintro vs H2 ⟨φ2, ds, m2, n2, h2, r2, v2, q2⟩
  exact q2 φ2 H2 _ Nx.refl h2 (by simp only [VRs]; exact ⟨v, vs, rfl, VR.mono h1 n2 _ _ v1, v2⟩)⟩
theorem run_fnKD {f : Addr} {fd : FuncData} {pm : List Nat} {n : Nat} {pins : List (Addr × Obj)} {σ : St} {H : Hp} {s : Shared} {Q : VK} {us ws : List Value} {vs zs : List V} {sp : Sp} {E : XK} (GF : FnOk X.prog X.w X.K X.mg X.base (L2.CX X.prog X.w) k f fd ps sp) (hr : Room k X.A) (hb : KBd X.K fd ps ks n pm) (hx : PassesAt (L2.CX X.prog X.w) X σ E)
    (I : Inv X pins σ H s) (r : Vals vs us) (rz : Vals zs ws) (h1 : vs.length = n) (h2 : zs.length = ks.length) (h : sp (permD pm (vs ++ zs)) H Q E) : wpAny (model X.prog X.w) X.A (call (.ref f) us (ks.zip ws)) (EP X pins σ Q) X.xe s := by
  have r2 := Vals.perm (r.append rz) pm
  refine wpAny_call (codeAny_mono (GF.run X.A X.stack s H ⟨us, ks.zip ws⟩ _ _ Q E hr I.env0 (hb s us ws (by rw [← r.length]; exact h1) (by rw [← rz.length]; exact h2)) r2 h) fun r s' hq => ?_)
  cases r with
  | error e => exact hx pins H s e s' I hq
  | ok fl =>
    cases fl with
    | ret u => exact I.after hq
    | next => exact False.elim hq
    | brk => exact False.elim hq
    | cont => exact False.elim hq
/-- f(k = v, ..), keywords alone -/
theorem fe_fnK0 (pm : List Nat) (G : DefOk p X.prog X.w X.K X.mg X.base x st ps k F) (tk : Takes X W) (hr : Room k X.A) (hkw : FK p W X kws kl)
    (hbd : ∀ (kV doc pm' : Value) (an : Option Addr) (cdv ct : Value) (us ws : List Value), us.length = 0 → ws.length = ks.length → bindArgs (PySem.W.fnOf x x (defArgs st) (defBody st) (defScope st) .none kV doc pm' an cdv ct) ⟨us, ks.zip ws⟩ = pure (ps.zip (permD pm (us ++ ws))))
    (hkl : ∀ ρ m ds m', kl ρ m = .ok ds m' → ds.length = ks.length)
    (hg : Gl X x := by rfl) (hall : (backToKw pos (keywordEach kws X.env)).all (·.1.isSome) = true := by rfl) (hks : (backToKw pos (keywordEach kws X.env)).filterMap (·.1) = ks := by rfl)
    (hdb : (x == ("__debug__" : Str)) = false := by decide)
    (hpl : ((backTo pos (starEach [] X.env)).any (·.1) || (backToKw pos (keywordEach kws X.env)).any (·.1.isNone)) = false := by rfl) :
    FE p W X (.Call (.Name x pp) [] kws pos) (eFnK F ps.length pm aNil kl) := ⟨⟨fun pins s σ H Q I q => by
  obtain ⟨φ, ρ, m, hm', r, q⟩ := q
  obtain ⟨f, fd, GF, hm, FD, _⟩ := G.ex
  have hk := FD.kp
  refine wpAny_Call_Name_kw (ld_glob I hg hm ?_ hdb)
  have q' : postE X.K p W σ φ H ((kl ρ m).bind fun es m2 => match Nat.beq (permD pm ([] ++ es)).length ps.length with
  | true => callS F (permD pm ([] ++ es)) m2
  | false => .bad) Q := q
  have q2 : tA X.K p W kl σ H (fun v H1 => ∃ φ1 d m1, d.length = ks.length ∧ Nx φ H φ1 H1 ∧ HR X.K p φ1 m1 H1 ∧ ER X.K p φ1 H1 ρ σ ∧ VRs X.K p φ1 H1 d v ∧ postE X.K p W σ φ1 H1 (match Nat.beq (permD pm ([] ++ d)).length ps.length with
  | true => callS F (permD pm ([] ++ d)) m1
  | false => .bad) Q) := by
    refine ⟨φ, ρ, m, hm', r, ?_⟩
    have hkl' := hkl ρ m
    revert q' hkl'
    cases kl ρ m with
    | bad => exact fun z _ => z
    | exc c d m' => exact fun z _ => z
    | ok d m' =>
      intro q1 hkl' φ1 H1 v n1 h1 r1
      have hln := hkl' d m' rfl
      exact ⟨φ1, d, m', hln, n1, h1, r.mono hm' n1, r1, postE.nx n1 q1⟩
  refine PySem.W.callWith_KW0 (h₀ := X.base) I.ok.mod.kin hk hall (thn (hkw.pk.run pos pins s σ H _ I q2) ?_) hpl
  rintro ws s2 ⟨zs, H2, I2, rz, φ1, ds, m1, hln, n1, h1, r1, v1, q3⟩
  refine ⟨I2.kIn, ?_⟩
  rw [hks]
  cases e : Nat.beq (permD pm ([] ++ ds)).length ps.length with
  | false => rw [e] at q3; exact False.elim q3
  | true =>
    rw [e] at q3
    have vp := VRs.perm v1 pm
    simp only [List.nil_append] at e q3
    have el := Nat.eq_of_beq_eq_true e
    refine run_fnKD (us := []) (vs := []) (E := WE W σ) GF hr (kbd_of FD hbd) (passAt tk σ) I2 .nil rz rfl (by rw [← v1.length]; exact hln) ?_
    simp only [List.nil_append]
    exact postF_call h1 vp (by rw [← vp.length]; exact el) q3⟩⟩
end
end DL

set_option Elab.async false
set_option linter.all false
set_option maxRecDepth 100000
set_option maxHeartbeats 4000000
namespace DL
open PySem PySem.Spec PyProof.Rows L2

/-! ### lists, tuples, texts as sources of enumerate and zip -/
inductive Sr where
  | L (a : Addr) | T (a : Addr) | S (z : Str)
def SrOk (K : PySem.W.Frag) (H : Hp) : Sr → List V → Prop
  | .L a, xs => SqL K H a xs
  | .T a, xs => SqT K H a xs
  | .S z, xs => xs = z.cps.toList.map fun c => V.str ⟨#[c]⟩
def SrAt (h : Heap) (it : Addr) (i : Nat) : Sr → Prop
  | .L a => h.IsListIter it a i
  | .T a => h.IsTupleIter it a i
  | .S z => ∃ t, h.IsStrIter it (strIterType z) z t i
def Sr.addr : Sr → Option Addr
  | .L a => some a
  | .T a => some a
  | .S _ => none
theorem SrAt.obj {h : Heap} {it : Addr} {i : Nat} : ∀ {sr : Sr}, SrAt h it i sr → ∃ o, h.get? it = some o ∧ ∀ v, o.data ≠ .cell v
  | .L a, x => let ⟨o, e, _, d⟩ := x; ⟨o, e, fun v q => by rw [d] at q; cases q⟩
  | .T a, x => let ⟨o, e, _, d⟩ := x; ⟨o, e, fun v q => by rw [d] at q; cases q⟩
  | .S z, x => let ⟨t, o, e, _, d⟩ := x; ⟨o, e, fun v q => by rw [d] at q; cases q⟩
theorem SrAt.keep {h h' : Heap} {it : Addr} {i : Nat} (k : ∀ o, h.get? it = some o → h'.get? it = some o) : ∀ {sr : Sr}, SrAt h it i sr → SrAt h' it i sr
  | .L a, x => let ⟨o, e, r⟩ := x; ⟨o, k o e, r⟩
  | .T a, x => let ⟨o, e, r⟩ := x; ⟨o, k o e, r⟩
  | .S z, x => let ⟨t, o, e, r⟩ := x; ⟨t, o, k o e, r⟩
/-- what an iterator over such a source draws -/
theorem sr_draws {X : Cx} {pins : List (Addr × Obj)} {σ : L2.St} {H : Hp} {s : Shared} (I : Inv X pins σ H s) (A : Around) (hh : A.handled = none) {sr : Sr} {xs : List V} {it : Addr} {i : Nat} (ok : SrOk X.K H sr xs) (st : SrAt s.heap it i sr) (ha : ∀ a, sr.addr = some a → a ≠ it) :
    ∃ (fp : List Addr) (P : Nat → Value → Prop) (St : Nat → Heap → Prop), Draws X.prog X.w A it fp xs.length P St ∧ St i s.heap ∧ (∀ j v x, P j v → xs[j]? = some x → RelV x v) ∧ (∀ j h, St j h → SrAt h it j sr) ∧ it ∈ fp ∧ ∀ b ∈ fp, b = it ∨ sr.addr = some b := by
  cases sr with
  | L a =>
    obtain ⟨its, rv, p, hz⟩ := I.list ok
    have hl := rv.length
    refine ⟨[it, a], fun i v => its.toArray[i]? = some v, fun i h => h.IsListIter it a i ∧ h.IsList a its.toArray, by rw [show xs.length = its.toArray.size by simpa using hl]; exact Draws.list hh it a (ha a rfl) its.toArray, ⟨st, p.isList⟩, fun j v x hp hx => ?_, fun j h q => q.1, by simp, fun b hb => ?_⟩
    · obtain ⟨u, hu, ru⟩ := rv.get hx
      have e2 : its.toArray[j]? = some u := by simpa using hu
      have e3 := hp.symm.trans e2
      cases e3; exact ru
    · have : b = it ∨ b = a := by simpa using hb
      rcases this with z | z
      · exact .inl z
      · exact .inr (by rw [z]; rfl)
  | T a =>
    obtain ⟨its, rv, p, hz⟩ := I.tuple ok
    have hl := rv.length
    refine ⟨[it, a], fun i v => its.toArray[i]? = some v, fun i h => h.IsTupleIter it a i ∧ h.IsTuple a its.toArray, by rw [show xs.length = its.toArray.size by simpa using hl]; exact Draws.tuple hh it a (ha a rfl) its.toArray, ⟨st, p⟩, fun j v x hp hx => ?_, fun j h q => q.1, by simp, fun b hb => ?_⟩
    · obtain ⟨u, hu, ru⟩ := rv.get hx
      have e2 : its.toArray[j]? = some u := by simpa using hu
      have e3 := hp.symm.trans e2
      cases e3; exact ru
    · have : b = it ∨ b = a := by simpa using hb
      rcases this with z | z
      · exact .inl z
      · exact .inr (by rw [z]; rfl)
  | S z =>
    obtain ⟨t, st⟩ := st
    have e : xs = z.cps.toList.map fun c => V.str ⟨#[c]⟩ := ok
    subst e
    refine ⟨[it], fun i v => ∃ c u, z.cps[i]? = some c ∧ v = .str ⟨#[c]⟩ u, fun i h => h.IsStrIter it (strIterType z) z t i, by rw [show (z.cps.toList.map fun c => V.str ⟨#[c]⟩).length = z.cps.size by simp]; exact Draws.text hh it z t, st, fun j v x hp hx => ?_, fun j h q => ⟨t, q⟩, by simp, fun b hb => .inl (by simpa using hb)⟩
    obtain ⟨c, u, hc, rfl⟩ := hp
    simp at hx
    obtain ⟨a, ha, rfl⟩ := hx
    have e3 := hc.symm.trans ha
    cases e3
    exact ⟨u, rfl⟩
theorem sr_inj {X : Cx} {pins : List (Addr × Obj)} {σ : L2.St} {H : Hp} {s : Shared} (I : Inv X pins σ H s) {xs ys : List V} : ∀ {sr : Sr}, SrOk X.K H sr xs → SrOk X.K H sr ys → xs = ys
  | .L a, h, h' => I.list_inj h h'
  | .T a, h, h' => I.tuple_inj h h'
  | .S z, h, h' => Eq.trans h (Eq.symm h')
/-- for i, x in enumerate(..) -/
def Jen (K : PySem.W.Frag) (sr : Sr) : It :=
  ⟨fun i H => ∃ (xs : List V) (x : V), SrOk K H sr xs ∧ xs[i]? = some x, fun i H v H' => ∃ T x, v = .ref T ∧ H T = none ∧ H' = upd H T (.tup [.int (i : Nat), x]) ∧ ∀ xs, SrOk K H sr xs → xs[i]? = some x, fun i H => ∃ xs : List V, SrOk K H sr xs ∧ xs.length = i⟩
theorem turn_en {P : Program} {w : World} {K : PySem.W.Frag} {elts : List Expr} {kk : Nat} {tpos : Pos} (sr : Sr) (e it : Addr) (hne : e ≠ it) (ha : ∀ a, sr.addr = some a → a ≠ e ∧ a ≠ it) :
    Turn P w K (.Tuple elts kk tpos) (Jen K sr) [e, it] e (fun i h => (∃ old, IsEnum h e it ((i : Nat) : Int) old) ∧ SrAt h it i sr) where
  mem := by simp
  obj := fun i h st b hb => by
    obtain ⟨⟨old, he⟩, hs⟩ := st
    have e' : b = e ∨ b = it := by simpa using hb
    rcases e' with z | z
    · rw [z]; exact ⟨_, he, fun v q => nomatch q⟩
    · rw [z]; exact hs.obj
  keep := fun i h h' st k => let ⟨⟨old, he⟩, hi⟩ := st; ⟨⟨old, k e (by simp) _ he⟩, hi.keep fun o q => k it (by simp) o q⟩
  item := by
    intro X hP hw hK hc i pins s σ H E I hf st hg
    subst hP hw hK
    obtain ⟨⟨old, he⟩, hit⟩ := st
    obtain ⟨xs, x, hq, hx⟩ := hg
    have hel : e < s.heap.objs.size := Heap.lt_size he
    have hil : it < s.heap.objs.size := by obtain ⟨_, q, _⟩ := hit.obj; exact Heap.lt_size q
    obtain ⟨fp, P', St, Dr, st0, hP', hS', hmem, hfp⟩ := sr_draws I X.A.in1 (I.ok.hd hc) hq hit (fun a z => (ha a z).2)
    have hef : e ∉ fp := fun z => by
      rcases hfp e z with z | z
      · exact hne z
      · exact (ha e z).1 rfl
    refine wpAny_pyNext_enum_itemC Dr he st0 (List.getElem?_eq_some_iff.mp hx).1 hne hef fun u h' tk hPu ho hst' hT hsz hk => ?_
    have ru := hP' i u x hPu hx
    refine ⟨_, rfl, wpAny_letOwnedTupleGo_enum (s := { s with heap := h', toks := tk + 1 }) ho fun h'' he' sb => ?_⟩
    have hT2 : h''.get? s.heap.objs.size = some { cls := .type "tuple", data := .seq #[.int i tk, u] } := (sb.2 _ (Nat.ne_of_gt hel)).trans hT
    have new : ObjOk X.prog X.w (upd H s.heap.objs.size (.tup [.int (i : Nat), x])) h'' s.heap.objs.size (.tup [.int (i : Nat), x]) :=
      ⟨by show 2 ≤ sizeLine; decide, [.int i tk, u], .cons ⟨_, rfl⟩ (.cons ru .nil), ⟨_, hT2, rfl, _, rfl⟩⟩
    have I1 : Inv X pins σ (upd H s.heap.objs.size (.tup [.int (i : Nat), x])) { s with heap := h'', toks := tk + 1 } :=
      I.turnedNew (ch := [e, it]) (fun b ob hb q => (sb.2 b (fun z => hb (by simp [z]))).trans (hk b ob (fun z => hb (by simp [z])) (fun z => hb (by simp [z])) q)) hf (Nat.le_refl _) new
    refine ⟨.ref s.heap.objs.size, _, I1, rfl, ⟨_, x, rfl, I.hok.fresh (Nat.le_refl _), rfl, fun l hl => by rw [sr_inj I hl hq]; exact hx⟩, ⟨⟨u, ?_⟩, (hS' _ _ hst').keep fun o q => (sb.2 it (Ne.symm hne)).trans q⟩, fun b hb => ?_⟩
    · have e1 : ((i + 1 : Nat) : Int) = (i : Int) + 1 := by omega
      rw [e1]; exact he'
    · have hb' : b < s.heap.objs.size := by
        have e' : b = e ∨ b = it := by simpa using hb
        rcases e' with z | z
        · rw [z]; exact hel
        · rw [z]; exact hil
      rw [upd_ne (Nat.ne_of_lt hb')]
      exact (hf b hb).1
  done := by
    intro X hP hw hK hc i pins s σ H E I hf st hg
    subst hP hw hK
    obtain ⟨⟨old, he⟩, hit⟩ := st
    obtain ⟨xs, hq, hx⟩ := hg
    obtain ⟨fp, P', St, Dr, st0, hP', hS', hmem, hfp⟩ := sr_draws I X.A.in1 (I.ok.hd hc) hq hit (fun a z => (ha a z).2)
    obtain ⟨f0, f1, f2, f3, f4, f5⟩ := hf it (by simp)
    rw [← hx] at st0
    exact wpAny_pyNext_enum_endD Dr he st0 fun h' eb => ⟨rfl, I.turned (t' := s.toks) (fun b o hb q => eb b o hb q) f0 f1 f3 f4 f5⟩
  self := fun A i s Q E st h => let ⟨⟨_, he⟩, _⟩ := st; wpAny_pyIter_enum he h
/-- for a, b in zip(.., ..) -/
def Jzp (K : PySem.W.Frag) (s1 s2 : Sr) : It :=
  ⟨fun i H => ∃ (xs ys : List V) (x y : V), SrOk K H s1 xs ∧ SrOk K H s2 ys ∧ xs[i]? = some x ∧ ys[i]? = some y,
    fun i H v H' => ∃ T x y, v = .ref T ∧ H T = none ∧ H' = upd H T (.tup [x, y]) ∧ (∀ xs, SrOk K H s1 xs → xs[i]? = some x) ∧ ∀ ys, SrOk K H s2 ys → ys[i]? = some y,
    fun i H => ∃ xs ys : List V, SrOk K H s1 xs ∧ SrOk K H s2 ys ∧ min xs.length ys.length = i⟩
structure ZApart (z TI TO i1 i2 : Addr) (s1 s2 : Sr) : Prop where
  nd : [z, TI, TO, i1, i2].Nodup
  a1 : ∀ a, s1.addr = some a → a ∉ [z, TI, TO, i1, i2]
  a2 : ∀ a, s2.addr = some a → a ∉ [z, TI, TO, i1, i2]
theorem turn_zp {P : Program} {w : World} {K : PySem.W.Frag} {elts : List Expr} {kk : Nat} {tpos : Pos} (s1 s2 : Sr) {z TI TO i1 i2 : Addr} (D : ZApart z TI TO i1 i2 s1 s2) :
    Turn P w K (.Tuple elts kk tpos) (Jzp K s1 s2) [z, TI, TO, i1, i2] z (fun i h => IsZip h z TI TO .none ∧ IsTupOf2 h TI (.ref i1) (.ref i2) ∧ (∃ x y, IsTupOf2 h TO x y) ∧ SrAt h i1 i s1 ∧ SrAt h i2 i s2) where
  mem := by simp
  obj := fun i h st c hc => by
    obtain ⟨hz, hTI, ⟨x, y, hTO⟩, h1, h2⟩ := st
    have e' : c = z ∨ c = TI ∨ c = TO ∨ c = i1 ∨ c = i2 := by simpa using hc
    rcases e' with q | q | q | q | q
    · rw [q]; exact ⟨_, hz, fun v q => nomatch q⟩
    · rw [q]; exact ⟨_, hTI, fun v q => nomatch q⟩
    · rw [q]; exact ⟨_, hTO, fun v q => nomatch q⟩
    · rw [q]; exact h1.obj
    · rw [q]; exact h2.obj
  keep := fun i h h' st k => by
    obtain ⟨hz, hTI, ⟨x, y, hTO⟩, h1, h2⟩ := st
    exact ⟨k z (by simp) _ hz, k TI (by simp) _ hTI, ⟨x, y, k TO (by simp) _ hTO⟩, h1.keep fun o q => k i1 (by simp) o q, h2.keep fun o q => k i2 (by simp) o q⟩
  item := by
    intro X hP hw hK hc i pins s σ H E I hf st hg
    subst hP hw hK
    obtain ⟨hz, hTI, ⟨x0, y0, hTO⟩, h1, h2⟩ := st
    obtain ⟨xs, ys, x, y, hqx, hqy, hx, hy⟩ := hg
    have nd := D.nd
    simp only [List.nodup_cons, List.mem_cons, List.not_mem_nil, not_or, or_false, List.nodup_nil, not_false_eq_true, and_true] at nd
    obtain ⟨⟨n1, n2, n3, n4⟩, ⟨n5, n6, n7⟩, ⟨n8, n9⟩, n10⟩ := nd
    have A1 : ∀ a, s1.addr = some a → a ≠ z ∧ a ≠ TI ∧ a ≠ TO ∧ a ≠ i1 ∧ a ≠ i2 := fun a e => by simpa using D.a1 a e
    have A2 : ∀ a, s2.addr = some a → a ≠ z ∧ a ≠ TI ∧ a ≠ TO ∧ a ≠ i1 ∧ a ≠ i2 := fun a e => by simpa using D.a2 a e
    obtain ⟨fp1, P1, St1, Dr1, st1, hP1, hS1, hm1, hfp1⟩ := sr_draws I X.A.in1 (I.ok.hd hc) hqx h1 (fun a e => (A1 a e).2.2.2.1)
    obtain ⟨fp2, P2, St2, Dr2, st2, hP2, hS2, hm2, hfp2⟩ := sr_draws I X.A.in1 (I.ok.hd hc) hqy h2 (fun a e => (A2 a e).2.2.2.2)
    have sep : ZipSep2 z TI TO i1 i2 fp1 fp2 := by
      refine ⟨Ne.symm n1, Ne.symm n2, n5, n6, hm1, ?_, ?_, n7, hm2, ?_, ?_, ?_, ?_⟩
      · intro q; rcases hfp1 _ q with e | e
        · exact n3 e
        · exact (A1 _ e).1 rfl
      · intro q; rcases hfp1 _ q with e | e
        · exact n8 e
        · exact (A1 _ e).2.2.1 rfl
      · intro q; rcases hfp2 _ q with e | e
        · exact n4 e
        · exact (A2 _ e).1 rfl
      · intro q; rcases hfp2 _ q with e | e
        · exact n9 e
        · exact (A2 _ e).2.2.1 rfl
      · intro q; rcases hfp2 _ q with e | e
        · exact n10 e
        · exact (A2 _ e).2.2.2.1 rfl
      · intro q; rcases hfp1 _ q with e | e
        · exact n10 e.symm
        · exact (A1 _ e).2.2.2.2 rfl
    have hzl : z < s.heap.objs.size := Heap.lt_size hz
    refine wpAny_pyNext_zipD2_item sep Dr1 Dr2 hz hTI hTO st1 st2 (List.getElem?_eq_some_iff.mp hx).1 (List.getElem?_eq_some_iff.mp hy).1 fun u u2 h' tk q1 q2 z' TO' st1' st2' hT hsz hk => ?_
    have ru := hP1 i u x q1 hx
    have ru2 := hP2 i u2 y q2 hy
    refine ⟨_, rfl, wpAny_letOwnedTupleGo_zip (s := { s with heap := h', toks := tk }) z' fun h'' z'' sb => ?_⟩
    have hT2 : h''.get? s.heap.objs.size = some { cls := .type "tuple", data := .seq #[u, u2] } := (sb.2 _ (Nat.ne_of_gt hzl)).trans hT
    have new : ObjOk X.prog X.w (upd H s.heap.objs.size (.tup [x, y])) h'' s.heap.objs.size (.tup [x, y]) :=
      ⟨by show 2 ≤ sizeLine; decide, [u, u2], .cons ru (.cons ru2 .nil), ⟨_, hT2, rfl, _, rfl⟩⟩
    have I1 : Inv X pins σ (upd H s.heap.objs.size (.tup [x, y])) { s with heap := h'', toks := tk } :=
      I.turnedNew (t' := tk) (ch := [z, TI, TO, i1, i2]) (fun c o hb q => (sb.2 c (fun q' => hb (by simp [q']))).trans (hk c o (fun q' => hb (by simp [q'])) (fun q' => hb (by simp [q'])) (fun q' => hb (by simp [q'])) (fun q' => hb (by simp [q'])) q)) hf (Nat.le_refl _) new
    refine ⟨.ref s.heap.objs.size, _, I1, rfl, ⟨_, x, y, rfl, I.hok.fresh (Nat.le_refl _), rfl, fun l hl => by rw [sr_inj I hl hqx]; exact hx, fun l hl => by rw [sr_inj I hl hqy]; exact hy⟩, ⟨z'', ?_, ⟨u, u2, ?_⟩, ?_, ?_⟩, fun c hcm => ?_⟩
    · exact (sb.2 _ (Ne.symm n1)).trans (hk _ _ (Ne.symm n1) n5 n6 n7 hTI)
    · exact (sb.2 _ (Ne.symm n2)).trans TO'
    · exact (hS1 _ _ st1').keep fun o q => (sb.2 _ (Ne.symm n3)).trans q
    · exact (hS2 _ _ st2').keep fun o q => (sb.2 _ (Ne.symm n4)).trans q
    · have hlt : c < s.heap.objs.size := by
        have e' : c = z ∨ c = TI ∨ c = TO ∨ c = i1 ∨ c = i2 := by simpa using hcm
        rcases e' with q | q | q | q | q
        · rw [q]; exact hzl
        · rw [q]; exact Heap.lt_size hTI
        · rw [q]; exact Heap.lt_size hTO
        · rw [q]; obtain ⟨_, e1, _⟩ := h1.obj; exact Heap.lt_size e1
        · rw [q]; obtain ⟨_, e2, _⟩ := h2.obj; exact Heap.lt_size e2
      rw [upd_ne (Nat.ne_of_lt hlt)]
      exact (hf c hcm).1
  done := by
    intro X hP hw hK hc i pins s σ H E I hf st hg
    subst hP hw hK
    obtain ⟨hz, hTI, ⟨x0, y0, hTO⟩, h1, h2⟩ := st
    obtain ⟨xs, ys, hqx, hqy, hend⟩ := hg
    have nd := D.nd
    simp only [List.nodup_cons, List.mem_cons, List.not_mem_nil, not_or, or_false, List.nodup_nil, not_false_eq_true, and_true] at nd
    obtain ⟨⟨n1, n2, n3, n4⟩, ⟨n5, n6, n7⟩, ⟨n8, n9⟩, n10⟩ := nd
    have A1 : ∀ a, s1.addr = some a → a ≠ z ∧ a ≠ TI ∧ a ≠ TO ∧ a ≠ i1 ∧ a ≠ i2 := fun a e => by simpa using D.a1 a e
    have A2 : ∀ a, s2.addr = some a → a ≠ z ∧ a ≠ TI ∧ a ≠ TO ∧ a ≠ i1 ∧ a ≠ i2 := fun a e => by simpa using D.a2 a e
    obtain ⟨fp1, P1, St1, Dr1, st1, hP1, hS1, hm1, hfp1⟩ := sr_draws I X.A.in1 (I.ok.hd hc) hqx h1 (fun a e => (A1 a e).2.2.2.1)
    obtain ⟨fp2, P2, St2, Dr2, st2, hP2, hS2, hm2, hfp2⟩ := sr_draws I X.A.in1 (I.ok.hd hc) hqy h2 (fun a e => (A2 a e).2.2.2.2)
    have sep : ZipSep2 z TI TO i1 i2 fp1 fp2 := by
      refine ⟨Ne.symm n1, Ne.symm n2, n5, n6, hm1, ?_, ?_, n7, hm2, ?_, ?_, ?_, ?_⟩
      · intro q; rcases hfp1 _ q with e | e
        · exact n3 e
        · exact (A1 _ e).1 rfl
      · intro q; rcases hfp1 _ q with e | e
        · exact n8 e
        · exact (A1 _ e).2.2.1 rfl
      · intro q; rcases hfp2 _ q with e | e
        · exact n4 e
        · exact (A2 _ e).1 rfl
      · intro q; rcases hfp2 _ q with e | e
        · exact n9 e
        · exact (A2 _ e).2.2.1 rfl
      · intro q; rcases hfp2 _ q with e | e
        · exact n10 e
        · exact (A2 _ e).2.2.2.1 rfl
      · intro q; rcases hfp1 _ q with e | e
        · exact n10 e.symm
        · exact (A1 _ e).2.2.2.2 rfl
    refine wpAny_pyNext_zipD2_end sep Dr1 Dr2 hz hTI hTO st1 st2 (by omega) (by omega) (by omega) fun h' tk hk => ⟨rfl, I.turnedL (t' := tk) (ch := [z, TI, TO, i1, i2]) (fun c o hb q =>
      hk c o (fun q' => hb (by simp [q'])) (fun q' => hb (by simp [q'])) (fun q' => hb (by simp [q'])) (fun q' => hb (by simp [q'])) q) hf⟩
  self := fun A i s Q E st h => wpAny_pyIter_zip st.1 h

/-! ### the calls that make them -/
def SrV : V → Sr → Prop
  | .ref a, .L b => a = b
  | .ref a, .T b => a = b
  | .str x, .S z => x = z
  | _, _ => False
/-- the new iterator of a source -/
def SrO (v : Value) : Sr → Obj
  | .L a => { cls := .type "list_iterator", data := .fields #[.ref a, .int 0 0] }
  | .T a => { cls := .type "tuple_iterator", data := .fields #[.ref a, .int 0 0] }
  | .S z => { cls := .type (strIterType z), data := .fields #[v, .int 0 0] }
theorem sr_begins {X : Cx} {pins : List (Addr × Obj)} {σ : L2.St} {H : Hp} {s : Shared} (I : Inv X pins σ H s) {x : V} {u : Value} {sr : Sr} {xs : List V} (r : RelV x u) (hv : SrV x sr) (ok : SrOk X.K H sr xs) :
    ∃ Hh : Heap → Prop, Begins u (SrO u sr) Hh ∧ Hh s.heap ∧ (∀ (h : Heap) (it : Addr), h.get? it = some (SrO u sr) → SrAt h it 0 sr) ∧ ∀ a, sr.addr = some a → a < s.heap.objs.size := by
  cases sr with
  | L a =>
    cases x with
    | ref b =>
      obtain rfl : b = a := hv
      obtain rfl : u = .ref b := r
      obtain ⟨its, rv, p, hz⟩ := I.list ok
      exact ⟨_, begins_list b its.toArray, p.isList, fun h it e => ⟨_, e, rfl, rfl⟩, fun a' e => by cases e; exact p.lt⟩
    | _ => exact False.elim hv
  | T a =>
    cases x with
    | ref b =>
      obtain rfl : b = a := hv
      obtain rfl : u = .ref b := r
      obtain ⟨its, rv, p, hz⟩ := I.tuple ok
      exact ⟨_, begins_tuple b its.toArray, p, fun h it e => ⟨_, e, rfl, rfl⟩, fun a' e => by cases e; exact p.lt⟩
    | _ => exact False.elim hv
  | S z =>
    cases x with
    | str y =>
      obtain rfl : y = z := hv
      obtain ⟨t, rfl⟩ := r
      exact ⟨_, begins_text y t, trivial, fun h it e => ⟨t, _, e, rfl, rfl⟩, fun a' e => by cases e⟩
    | _ => exact False.elim hv
set_option maxHeartbeats 1000000 in
theorem meets_en1 {v : Value} {o : Obj} {Hh : Heap → Prop} (B : Begins v o Hh) :
    Meets (Builtin.«enumerate.__new__» ⟨[.type "enumerate", v], []⟩) (fun _ R s => Hh s.heap ∧
      R (.ok (.ret (.ref (s.heap.push o).objs.size))) { s with heap := (s.heap.push o).push { cls := .type "enumerate", data := .fields #[.none, .bool false, .ref s.heap.objs.size, rawInt 0, .none, .none] } }) :=
  .of_wp fun prog w A R s h => by
    obtain ⟨hp, g, d, tk, os⟩ := s; obtain ⟨h1, h⟩ := h
    have hs := sub_enumerate
    have q1 : ∀ {A' : Around} {E : Value → Shared → Prop} {Q : Value → Shared → Prop}, Q (.ref hp.objs.size) ⟨hp.push o, g, d, tk, os⟩ → wpAny (model prog w) A' (pyIter v) Q E ⟨hp, g, d, tk, os⟩ :=
      fun q => B.iter prog w _ _ ⟨hp, g, d, tk, os⟩ _ h1 q
    wp_walk using q1
    refine wpAny_stack_any fun st => wpAny_pure ?_
    split
    · rename_i c _ _ _ _ _
      cases (c == Value.type "enumerate")
      · wp_walk using q1
        exact ⟨_, rfl, h⟩
      · wp_walk using q1
        exact ⟨_, rfl, h⟩
    · wp_walk using q1
      exact ⟨_, rfl, h⟩
theorem en1_begins {prog : Program} {w : World} {A : Around} {E : Value → Shared → Prop} {s : Shared} {v : Value} {o : Obj} {Hh : Heap → Prop} {Q : Value → Shared → Prop} (B : Begins v o Hh) (h1 : Hh s.heap)
    (h : ∀ h', IsEnum h' (s.heap.objs.size + 1) s.heap.objs.size 0 .none → h'.get? s.heap.objs.size = some o → h'.objs.size = s.heap.objs.size + 2 →
      (∀ b o, s.heap.get? b = some o → h'.get? b = some o) → Q (.ref (s.heap.objs.size + 1)) { s with heap := h' }) :
    wpAny (model prog w) A (call (.type "enumerate") [v]) Q E s := by
  refine callType_new F.called_enumerate (by decide) (F.typeCall_enumerate_1 _) (F.newCall_enumerate_1 _) (fun obj => F.args_object_init_2 obj _) F.entry_enumerate_new (meets_en1 B) ⟨h1, ?_⟩
  have hz : (s.heap.push o).objs.size = s.heap.objs.size + 1 := Heap.size_push ..
  show _ ∧ _
  rw [hz]
  have he : IsEnum ((s.heap.push o).push { cls := .type "enumerate", data := .fields #[.none, .bool false, .ref s.heap.objs.size, rawInt 0, .none, .none] }) (s.heap.objs.size + 1) s.heap.objs.size 0 .none := by
    have e := Heap.get?_push_size (s.heap.push o) (o := { cls := .type "enumerate", data := .fields #[.none, .bool false, .ref s.heap.objs.size, rawInt 0, .none, .none] }) rfl
    rw [hz] at e; exact e
  exact ⟨⟨_, he, rfl⟩, h _ he (Heap.get?_push_of_some _ (Heap.get?_push_size _ B.free)) (by rw [Heap.size_push, hz]) fun b o x => Heap.get?_push_of_some _ (Heap.get?_push_of_some _ x)⟩
def iEn (K : PySem.W.Frag) (ta : TA) : TI := fun σ H R => ta σ H fun vs H1 => ∃ x sr xs, vs = [x] ∧ SrV x sr ∧ SrOk K H1 sr xs ∧ R (Jen K sr) H1
theorem pi_en {X : Cx} {e : Expr} {ta : TA} {pp pos tpos : Pos} {elts : List Expr} {kk : Nat} (hg : Gl X "enumerate") (hm : X.mg "enumerate" = none) (ha : PA X [e] ta) (hs : starEach [e] X.env = [(false, eval e X.env)] := by rfl) :
    PI X (.Tuple elts kk tpos) (.Call (.Name "enumerate" pp) [e] [] pos) (iEn X.K ta) := by
  refine ⟨fun pins s σ H R I h => ?_⟩
  refine Call_ (ld_blt I hg hm boot_enumerate (PyProof.Rows.callWith_type1 (thn (ha.run pos pins s σ H _ I h) fun us s1 ⟨vs, H1, I1, r1, q1⟩ => ?_) hs rfl))
  obtain ⟨x, sr, xs, ex, hv, hq, q⟩ := q1
  subst ex
  obtain ⟨u, rfl, r⟩ := vals1 r1
  obtain ⟨Hh, B, hb, hat, hlt⟩ := sr_begins I1 r hv hq
  refine en1_begins B hb fun h' he hit hsz hk => wpAny_pyIter_enum he ?_
  have I2 : Inv X pins σ H1 { s1 with heap := h' } := I1.kept (t' := s1.toks) hk
  refine ⟨s1.heap.objs.size + 1, [s1.heap.objs.size + 1, s1.heap.objs.size], _, _, H1, rfl, I2, turn_en sr (s1.heap.objs.size + 1) s1.heap.objs.size (Nat.succ_ne_self _) (fun a e => ?_), ⟨⟨.none, he⟩, hat _ _ hit⟩, fun b hb => ?_, q⟩
  · exact ⟨Nat.ne_of_lt (Nat.lt_succ_of_lt (hlt a e)), Nat.ne_of_lt (hlt a e)⟩
  · have e' : b = s1.heap.objs.size + 1 ∨ b = s1.heap.objs.size := by simpa using hb
    have hle : s1.heap.objs.size ≤ b := by rcases e' with z | z <;> rw [z] <;> first | exact Nat.le_add_right _ _ | exact Nat.le_refl _
    exact I1.fpOk hle (I1.hok.fresh hle)
theorem nd5 (N : Nat) : [N + 4, N + 2, N + 3, N, N + 1].Nodup := by simp
theorem out5 {N a : Nat} (h : a < N) : a ∉ [N + 4, N + 2, N + 3, N, N + 1] := by simp; omega
def iZp (K : PySem.W.Frag) (ta : TA) : TI := fun σ H R => ta σ H fun vs H1 => ∃ x y s1 s2 xs ys, vs = [x, y] ∧ SrV x s1 ∧ SrV y s2 ∧ SrOk K H1 s1 xs ∧ SrOk K H1 s2 ys ∧ R (Jzp K s1 s2) H1
theorem pi_zp {X : Cx} {e e2 : Expr} {ta : TA} {pp pos tpos : Pos} {elts : List Expr} {kk : Nat} (hg : Gl X "zip") (hm : X.mg "zip" = none) (ha : PA X [e, e2] ta)
    (hs : starEach [e, e2] X.env = (false, eval e X.env) :: starEach [e2] X.env := by rfl) (hpl : (backTo pos (starEach [e2] X.env)).any (·.1) = false := by rfl) :
    PI X (.Tuple elts kk tpos) (.Call (.Name "zip" pp) [e, e2] [] pos) (iZp X.K ta) := by
  refine ⟨fun pins s σ H R I h => ?_⟩
  refine Call_ (ld_blt I hg hm PyProof.Rows.boot_zip (PyProof.Rows.callWith_type1 (thn (ha.run pos pins s σ H _ I h) fun us s1 ⟨vs, H1, I1, r1, q1⟩ => ?_) hs hpl))
  obtain ⟨x, y, sa, sb, xs, ys, ex, hv, hw, hqx, hqy, q⟩ := q1
  subst ex
  obtain ⟨u, u2, rfl, r, r'⟩ := vals2 r1
  obtain ⟨Hh, B, hb, hat, hlt⟩ := sr_begins I1 r hv hqx
  obtain ⟨Hh2, B2, hb2, hat2, hlt2⟩ := sr_begins I1 r' hw hqy
  refine zip_begins2 B B2 hb hb2 fun h' hz hTI hTO h1 h2 hsz hk => wpAny_pyIter_zip hz ?_
  have I2 : Inv X pins σ H1 { s1 with heap := h' } := I1.kept (t' := s1.toks) hk
  refine ⟨s1.heap.objs.size + 4, [s1.heap.objs.size + 4, s1.heap.objs.size + 2, s1.heap.objs.size + 3, s1.heap.objs.size, s1.heap.objs.size + 1], _, _, H1, rfl, I2, turn_zp sa sb ⟨?_, fun a e => ?_, fun a e => ?_⟩, ⟨hz, hTI, ⟨_, _, hTO⟩, hat _ _ h1, hat2 _ _ h2⟩, fun c hcm => ?_, q⟩
  · exact nd5 _
  · exact out5 (hlt a e)
  · exact out5 (hlt2 a e)
  · have e' : c = s1.heap.objs.size + 4 ∨ c = s1.heap.objs.size + 2 ∨ c = s1.heap.objs.size + 3 ∨ c = s1.heap.objs.size ∨ c = s1.heap.objs.size + 1 := by simpa using hcm
    have hle : s1.heap.objs.size ≤ c := by rcases e' with z | z | z | z | z <;> rw [z] <;> first | exact Nat.le_add_right _ _ | exact Nat.le_refl _
    exact I1.fpOk hle (I1.hok.fresh hle)
end DL

set_option Elab.async false
set_option linter.all false
set_option maxRecDepth 100000
set_option maxHeartbeats 4000000
namespace DL
open PySem PySem.Spec PyProof.Rows L2
/-- a range past the machine's numbers, walked -/
theorem turn_longC {P : Program} {w : World} {K : PySem.W.Frag} {tg : Expr} (it : Addr) (lo c : Int) (n : Nat) : Turn P w K tg (Itc lo c n) [it] it (fun i h => IsLongIter h it (lo + (i : Nat) * c) ((n : Int) - (i : Nat)) c) := by
  refine { mem := by simp, obj := fun i h st b hb => ?_, keep := fun i h h' st k => k it (by simp) _ st, item := ?_, done := ?_, self := fun A i s Q E st h => wpAny_pyIter_longiter st h }
  · obtain rfl : b = it := by simpa using hb
    exact ⟨_, st, fun v z => nomatch z⟩
  · intro X hP hw hK hc i pins s σ H E I hf st hg
    subst hP hw hK
    obtain ⟨g0, g1, g2, g3, g4, g5⟩ := hf it (by simp)
    refine (Walks.longrange (prog := X.prog) (w := X.w) (I.ok.hd hc) it lo c n).item i s _ _ hg st fun v h' tk hv st' kk => ?_
    obtain ⟨t, rfl⟩ := hv
    have J : Inv X pins σ H { s with heap := h', toks := tk } := I.turned (fun b o hb e => kk b o (by simpa using hb) e) g0 g1 g3 g4 g5
    exact ⟨_, rfl, go_of (s := { s with heap := h', toks := tk }) (n := "longrange_iterator") st' rfl rfl (by decide) ⟨.int (lo + (i : Nat) * c), H, J, ⟨t, rfl⟩, ⟨rfl, rfl⟩, st', fun b hb => (hf b hb).1⟩⟩
  · intro X hP hw hK hc i pins s σ H E I hf st hg
    subst hP hw hK
    obtain ⟨g0, g1, g2, g3, g4, g5⟩ := hf it (by simp)
    have hz : (n : Int) - (i : Nat) ≤ 0 := by
      have : n ≤ i := hg
      omega
    exact wpAny_pyNext_long_end (I.ok.hd hc) st hz fun h' eb => ⟨rfl, I.turned (t' := s.toks) (fun b o hb e => eb b o hb e) g0 g1 g3 g4 g5⟩
/-- any range object just made, walked: short or long -/
theorem rangeC_it {X : Cx} {tg : Expr} {pins : List (Addr × Obj)} {σ : L2.St} {H : Hp} {s : Shared} {R : It → Hp → Prop} {E : Value → Shared → Prop} {i j c : Int} {n : Nat} {t u v : Tok} {tk : Nat} (I : Inv X pins σ H s) (hn : Builtin.Range.rangeSize i j c = n)
    (q : R (Itc i c n) H) : wpAny (model X.prog X.w) X.A (pyIter (.ref s.heap.objs.size)) (PIE X pins σ tg R) E { s with heap := s.heap.push { cls := .type "range", data := .fields #[.int i t, .int j u, .int c v] }, toks := tk } := by
  have J : Inv X pins σ H { s with heap := s.heap.push { cls := .type "range", data := .fields #[.int i t, .int j u, .int c v] }, toks := tk } := I.kept fun b o e => Heap.get?_push_of_some _ e
  have e1 : i + ((0 : Nat) : Int) * c = i := by simp
  have e2 : (n : Int) - ((0 : Nat) : Int) = Builtin.Range.rangeSize i j c := by rw [hn]; simp
  cases hs : Builtin.Range.small i j c with
  | true =>
    refine wpAny_pyIter_range (IsRange.new ..) hs ?_
    refine pi_one (tk := tk) J _ (turn_rangeC _ i c n) ?_ q
    show IsRangeIter _ _ (i + ((0 : Nat) : Int) * c) ((n : Int) - ((0 : Nat) : Int)) c
    rw [e1, e2]
    exact Heap.get?_push_size _ rfl
  | false =>
    refine wpAny_pyIter_longrange (IsRange.new ..) hs ?_
    refine pi_one (tk := tk) J _ (turn_longC _ i c n) ?_ q
    show IsLongIter _ _ (i + ((0 : Nat) : Int) * c) ((n : Int) - ((0 : Nat) : Int)) c
    rw [e1, e2]
    exact Heap.get?_push_size _ rfl
def iRgL2 (ta : TA) : TI := fun σ H R => ta σ H fun vs H1 => ∃ i j : Int, vs = [.int i, .int j] ∧ R (Itc i 1 (j - i).toNat) H1
def iRgL3 (ta : TA) : TI := fun σ H R => ta σ H fun vs H1 => ∃ i j : Int, vs = [.int i, .int j, .int (-1)] ∧ R (Itc i (-1) (i - j).toNat) H1
section
variable {X : Cx} {tg a b c : Expr} {ta : TA} {p pos : Pos}
theorem pi_rgL2 (hg : Gl X "range") (hm : X.mg "range" = none) (ha : PA X [a, b] ta) (hs : starEach [a, b] X.env = [(false, eval a X.env), (false, eval b X.env)] := by rfl) (hs2 : starEach [b] X.env = [(false, eval b X.env)] := by rfl) :
    PI X tg (.Call (.Name "range" p) [a, b] [] pos) (iRgL2 ta) := by
  refine ⟨fun pins s σ H R I h => Call_ (ld_blt I hg hm boot_range (PyProof.Rows.callWith_type1 (thn (ha.run pos pins s σ H _ I h) fun us s1 hq => ?_) (by rw [hs, hs2]) (by rw [hs2]; rfl)))⟩
  obtain ⟨vs, H1, I1, r1, i, j, rfl, q⟩ := hq
  obtain ⟨t, u, rfl⟩ := Vals.int2 r1
  refine call_range_2 (rangeC_it I1 ?_ q)
  rw [rangeSize_one]; split <;> omega
theorem pi_rgL3 (hg : Gl X "range") (hm : X.mg "range" = none) (ha : PA X [a, b, c] ta) (hs : starEach [a, b, c] X.env = (false, eval a X.env) :: starEach [b, c] X.env := by rfl) (hpl : (backTo pos (starEach [b, c] X.env)).any (·.1) = false := by rfl) :
    PI X tg (.Call (.Name "range" p) [a, b, c] [] pos) (iRgL3 ta) := by
  refine ⟨fun pins s σ H R I h => Call_ (ld_blt I hg hm boot_range (PyProof.Rows.callWith_type1 (thn (ha.run pos pins s σ H _ I h) fun us s1 hq => ?_) hs hpl))⟩
  obtain ⟨vs, H1, I1, r1, i, j, rfl, q⟩ := hq
  cases r1 with
  | cons x1 r1 => cases r1 with
    | cons x2 r1 => cases r1 with
      | cons x3 r1 =>
        cases r1
        obtain ⟨t1, rfl⟩ := x1
        obtain ⟨t2, rfl⟩ := x2
        obtain ⟨t3, rfl⟩ := x3
        exact call_range_3 (by decide) (rangeC_it (tk := s1.toks) I1 (PySem.W.rangeSize_downNat i j) q) (.inl (PyProof.noPylong_small (by decide)))
end
end DL

set_option Elab.async false
set_option linter.all false
set_option maxRecDepth 100000
set_option maxHeartbeats 4000000
namespace DL
open PySem PySem.Spec PyProof.Rows L2

/-! ### targets that are names -/
abbrev Pat := Mem → D → Option (List (Nat × D))
def setsD (ρ : DL.Env) : List (Nat × D) → DL.Env
  | [] => ρ
  | b :: bs => setsD (ρ.set b.1 (some b.2)) bs
def setsV (σ : St) : List (Nat × V) → St
  | [] => σ
  | b :: bs => setsV (σ.set b.1 (some b.2)) bs
def BR (K : PySem.W.Frag) (p : Pr) (φ : List Addr) (H : Hp) : List (Nat × D) → List (Nat × V) → Prop
  | [], vs => vs = []
  | x :: xs, vs => ∃ v r, vs = (x.1, v) :: r ∧ VR K p φ H x.2 v ∧ BR K p φ H xs r
def pName (i : Nat) : Pat := fun _ d => some [(i, d)]
def pList : List Pat → Mem → List D → Option (List (Nat × D))
  | [], _, [] => some []
  | q :: qs, m, d :: ds => match q m d, pList qs m ds with
    | some a, some b => some (a ++ b)
    | _, _ => none
  | _, _, _ => none
def pTup (qs : List Pat) : Pat := fun m d => match tupD d with
  | some xs => pList qs m xs
  | none => none
/-- a tuple's or a list's items -/
def pSeq (qs : List Pat) : Pat := fun m d => match d with
  | .tup xs => pList qs m xs
  | .ktup xs => pList qs m xs
  | .ref n => match m[n]? with
    | some (.lst xs) => pList qs m xs
    | _ => none
  | _ => none
section
variable {K : PySem.W.Frag} {p : Pr} {φ : List Addr} {H : Hp}
theorem BR.append : ∀ {bs cs : List (Nat × D)} {vs ws : List (Nat × V)}, BR K p φ H bs vs → BR K p φ H cs ws → BR K p φ H (bs ++ cs) (vs ++ ws)
  | [], _, _, _, q, r => by obtain rfl := q; exact r
  | b :: bs, _, _, _, q, r => by
    obtain ⟨v, t, rfl, a, b⟩ := q
    exact ⟨v, _, rfl, a, BR.append b r⟩
theorem setsV_append : ∀ (vs ws : List (Nat × V)) (σ : St), setsV σ (vs ++ ws) = setsV (setsV σ vs) ws
  | [], _, _ => rfl
  | v :: vs, ws, σ => setsV_append vs ws _
theorem BR.split : ∀ {bs cs : List (Nat × D)} {zs : List (Nat × V)}, BR K p φ H (bs ++ cs) zs → ∃ vs ws, zs = vs ++ ws ∧ BR K p φ H bs vs ∧ BR K p φ H cs ws
  | [], cs, zs, q => ⟨[], zs, rfl, rfl, q⟩
  | b :: bs, cs, zs, q => by
    obtain ⟨v, t, rfl, a, c⟩ := q
    obtain ⟨vs, ws, rfl, h1, h2⟩ := BR.split c
    exact ⟨_, ws, rfl, ⟨v, vs, rfl, a, h1⟩, h2⟩
theorem ER.sets : ∀ {bs : List (Nat × D)} {vs : List (Nat × V)} {ρ : DL.Env} {σ : St}, BR K p φ H bs vs → ER K p φ H ρ σ → ER K p φ H (setsD ρ bs) (setsV σ vs)
  | [], _, ρ, σ, q, r => by obtain rfl := q; exact r
  | b :: bs, _, ρ, σ, q, r => by
    obtain ⟨v, t, rfl, a, c⟩ := q
    show ER K p φ H (setsD (ρ.set b.1 (some b.2)) bs) (setsV (σ.set b.1 (some v)) t)
    exact ER.sets c (ER.set a b.1 r)
def tP (K : PySem.W.Frag) (p : Pr) (q : Pat) : TG := fun v σ H Q => ∃ φ m d bs, HR K p φ m H ∧ VR K p φ H d v ∧ q m d = some bs ∧ ∀ vs, BR K p φ H bs vs → Q (setsV σ vs) H
def tPs (K : PySem.W.Frag) (p : Pr) (q : List Pat) : TGs := fun vs σ H Q => ∃ φ m ds bs, HR K p φ m H ∧ VRs K p φ H ds vs ∧ pList q m ds = some bs ∧ ∀ vs, BR K p φ H bs vs → Q (setsV σ vs) H
end
theorem pList_length : ∀ {qs : List Pat} {m : Mem} {ds : List D} {bs : List (Nat × D)}, pList qs m ds = some bs → ds.length = qs.length
  | [], _, [], _, _ => rfl
  | [], _, _ :: _, _, e => by simp [pList] at e
  | _ :: _, _, [], _, e => by simp [pList] at e
  | q :: qs, m, d :: ds, bs, e => by
    simp only [pList] at e
    split at e
    · rename_i h2
      simp [pList_length h2]
    · cases e
theorem pg_imp {X : Cx} {tgt : Expr} {t t' : TG} (h : PG X tgt t) (i : ∀ v σ H Q, t' v σ H Q → t v σ H Q) : PG X tgt t' := ⟨fun pins s σ H v u Q I r q => h.run pins s σ H v u Q I r (i v σ H Q q)⟩
theorem pgs_imp {X : Cx} {tgt : List Expr} {t t' : TGs} (h : PGs X tgt t) (i : ∀ v σ H Q, t' v σ H Q → t v σ H Q) : PGs X tgt t' := ⟨fun pins s σ H v u Q I r q => h.run pins s σ H v u Q I r (i v σ H Q q)⟩
structure FP (p : Pr) (X : Cx) (tgt : Expr) (q : Pat) : Prop where
  pg : PG X tgt (tP X.K p q)
structure FPs (p : Pr) (X : Cx) (tgt : List Expr) (q : List Pat) : Prop where
  pgs : PGs X tgt (tPs X.K p q)
  len : tgt.length = q.length
section
variable {p : Pr} {X : Cx} {e : Expr} {es : List Expr} {q : Pat} {qs : List Pat} {pos : Pos}
theorem fp_name {x : Str} (i : Nat) (hN : X.N.Nodup) (hi : X.N[i]? = some x := by rfl) (hx : Loc X.env.scope x := by first | exact .inl rfl | exact .inr rfl) (hf : X.fn x = true ∨ X.env.scope.names.lookup x = some .local := by first | exact .inl rfl | exact .inr rfl | assumption) : FP p X (.Name x pos) (pName i) := ⟨pg_imp (pg_name (i := i) hN hi hx hf) fun v σ H Q z => by
  obtain ⟨φ, m, d, bs, h, r, e, z⟩ := z
  cases e
  exact z [(i, v)] ⟨v, [], rfl, r, rfl⟩⟩
theorem fps_nil : FPs p X [] [] := by
  refine ⟨pgs_imp pgs_nil fun v σ H Q z => ?_, rfl⟩
  obtain ⟨φ, m, ds, bs, h, r, e, z⟩ := z
  cases ds with
  | nil =>
    cases e
    simp only [VRs] at r
    exact ⟨r, z [] rfl⟩
  | cons d ds => simp [pList] at e
theorem fps_cons (h1 : FP p X e q) (h2 : FPs p X es qs) (hs : (assignEach (e :: es) X.env).map (·.2) = assign e X.env :: (assignEach es X.env).map (·.2) := by rfl) : FPs p X (e :: es) (q :: qs) := by
  refine ⟨pgs_imp (pgs_cons h1.pg h2.pgs hs) fun v σ H Q z => ?_, by simp [h2.len]⟩
  obtain ⟨φ, m, ds, bs, h, r, e, z⟩ := z
  cases ds with
  | nil => simp [pList] at e
  | cons d ds =>
    simp only [pList] at e
    split at e
    · rename_i a b ea eb
      cases e
      simp only [VRs] at r
      obtain ⟨v1, rr, rfl, ra, rb⟩ := r
      refine ⟨v1, rr, rfl, φ, m, d, a, h, ra, ea, fun vs hvs => ⟨φ, m, ds, b, h, rb, eb, fun ws hws => ?_⟩⟩
      rw [← setsV_append]
      exact z _ (hvs.append hws)
    · cases e
theorem fp_tup {k : Nat} (hc : X.calm = true) (h : FPs p X es qs) (hn : (assignEach es X.env).length = es.length := by rfl) (hst : (assignEach es X.env).findIdx? (·.1) = none := by rfl) : FP p X (.Tuple es k pos) (pTup qs) := ⟨pg_imp (pg_tup hc h.pgs hn hst) fun v σ H Q z => by
  obtain ⟨φ, m, d, bs, hm, r, e, z⟩ := z
  simp only [pTup] at e
  cases et : tupD d with
  | none => rw [et] at e; cases e
  | some xs =>
    rw [et] at e
    obtain ⟨a, vs, rfl, s, r⟩ := tup_at r et
    have e' : pList qs m xs = some bs := e
    exact ⟨a, vs, rfl, s, by rw [← r.length, pList_length e', h.len], φ, m, xs, bs, hm, r, e', z⟩⟩
theorem pg_or {tgt : Expr} {t t' : TG} (h : PG X tgt t) (h' : PG X tgt t') : PG X tgt (fun v σ H Q => t v σ H Q ∨ t' v σ H Q) := ⟨fun pins s σ H v u Q I r q => q.elim (h.run pins s σ H v u Q I r) (h'.run pins s σ H v u Q I r)⟩
theorem fp_seq {k : Nat} (hc : X.calm = true) (h : FPs p X es qs) (hn : (assignEach es X.env).length = es.length := by rfl) (hst : (assignEach es X.env).findIdx? (·.1) = none := by rfl) : FP p X (.Tuple es k pos) (pSeq qs) := ⟨pg_imp (pg_or (pg_tup hc h.pgs hn hst) (pg_lst hc h.pgs hn hst)) fun v σ H Q z => by
  obtain ⟨φ, m, d, bs, hm, r, e, z⟩ := z
  cases d with
  | tup xs =>
    simp only [VR] at r
    obtain ⟨a, vs, rfl, s, r⟩ := r
    have e' : pList qs m xs = some bs := e
    exact .inl ⟨a, vs, rfl, SqT.of s, by rw [← r.length, pList_length e', h.len], φ, m, xs, bs, hm, r, e', z⟩
  | ktup xs =>
    simp only [VR] at r
    obtain ⟨a, vs, rfl, s, r⟩ := r
    have e' : pList qs m xs = some bs := e
    exact .inl ⟨a, vs, rfl, s.sq, by rw [← r.length, pList_length e', h.len], φ, m, xs, bs, hm, r, e', z⟩
  | ref n =>
    simp only [VR] at r
    obtain ⟨a, ea, rfl⟩ := r
    simp only [pSeq] at e
    split at e
    · rename_i xs em
      obtain ⟨vs, e1, e2⟩ := hm.obj n _ a em ea
      exact .inr ⟨a, vs, rfl, SqL.of e1, by rw [← e2.length, pList_length e, h.len], φ, m, xs, bs, hm, e2, e, z⟩
    · cases e
  | _ => cases e⟩
end
/-! ### what is walked -/
inductive NextR where
  | item (d : D) | stop | bad
abbrev Nxt := Nat → Mem → NextR
structure Src where
  n : Nat
  nx : Nxt
def atN (xs : List D) (i : Nat) : NextR := match xs[i]? with
  | some d => .item d
  | none => match Nat.beq xs.length i with
    | true => .stop
    | false => .bad
def chD (s : List Nat) : List D := s.map fun c => D.str [c]
def seqN : D → Nxt
  | .tup xs, i, _ => atN xs i
  | .ktup xs, i, _ => atN xs i
  | .rol xs, i, _ => atN xs i
  | .str s, i, _ => atN (chD s) i
  | .ref n, i, m => match m[n]? with
    | some (.lst xs) => atN xs i
    | _ => .bad
  | _, _, _ => .bad
/-- the items, when the walk begins -/
def itemsD : D → Mem → Option (List D)
  | .tup xs, _ => some xs
  | .ktup xs, _ => some xs
  | .rol xs, _ => some xs
  | .str s, _ => some (chD s)
  | .ref n, m => match m[n]? with
    | some (.lst xs) => some xs
    | _ => none
  | _, _ => none
def enC (i : Nat) : NextR → NextR
  | .item d => .item (.tup [.int i, d])
  | .stop => .stop
  | .bad => .bad
def enN (s : Nxt) : Nxt := fun i m => enC i (s i m)
def zpC : NextR → NextR → NextR
  | .item a, .item b => .item (.tup [a, b])
  | .item _, .stop => .stop
  | .stop, .item _ => .stop
  | .stop, .stop => .stop
  | _, _ => .bad
def zpN (s t : Nxt) : Nxt := fun i m => zpC (s i m) (t i m)
def rgN (lo c : Int) (n : Nat) : Nxt := fun i _ => match Nat.blt i n with
  | true => .item (.int (lo + i * c))
  | false => .stop
abbrev FI := DL.Env → Mem → Res Src
def JAt (K : PySem.W.Frag) (p : Pr) (J : It) (φ : List Addr) (m : Mem) (H : Hp) (i : Nat) : NextR → Prop
  | .item d => J.go i H ∧ ∀ x H', J.yld i H x H' → Nx φ H φ H' ∧ HR K p φ m H' ∧ VR K p φ H' d x
  | .stop => J.stop i H
  | .bad => True
def JOk (K : PySem.W.Frag) (p : Pr) (J : It) (φ0 : List Addr) (H0 : Hp) (nx : Nxt) : Prop :=
  ∀ i φ m H, HR K p φ m H → Nx φ0 H0 φ H → JAt K p J φ m H i (nx i m)
def postI (K : PySem.W.Frag) (p : Pr) (W : WX) (σ : St) (φ : List Addr) (H : Hp) (r : Res Src) (R : It → Hp → Prop) : Prop := match r with
  | .ok s m' => ∀ φ' H' J, Nx φ H φ' H' → HR K p φ' m' H' → JOk K p J φ' H' s.nx → R J H'
  | .exc c d m' => ∀ φ' H' dx, Nx φ H φ' H' → HR K p φ' m' H' → XD K p φ' H' c d dx → W (.ref (p.cA c)) dx σ H'
  | .bad => False
def tI (K : PySem.W.Frag) (p : Pr) (W : WX) (f : FI) : TI := fun σ H R => ∃ φ ρ m, HR K p φ m H ∧ ER K p φ H ρ σ ∧ postI K p W σ φ H (f ρ m) R
structure FIt (p : Pr) (W : WX) (X : Cx) (tg it : Expr) (f : FI) : Prop where
  pi : PI X tg it (tI X.K p W f)
def iVal (f : FX) : FI := fun ρ m => (f ρ m).bind fun d m1 => match itemsD d m1 with
  | some xs => .ok ⟨xs.length, seqN d⟩ m1
  | none => .bad
def iEnD (l : FL) : FI := fun ρ m => (l ρ m).bind fun ds m1 => match ds with
  | [d] => (match itemsD d m1 with
    | some xs => .ok ⟨xs.length, enN (seqN d)⟩ m1
    | none => .bad)
  | _ => .bad
def iZpD (l : FL) : FI := fun ρ m => (l ρ m).bind fun ds m1 => match ds with
  | [d, e] => (match itemsD d m1, itemsD e m1 with
    | some xs, some _ => .ok ⟨xs.length, zpN (seqN d) (seqN e)⟩ m1
    | _, _ => .bad)
  | _ => .bad
def intD : D → Option Int
  | .int i => some i
  | _ => none
def intsD : List D → Option (List Int)
  | [] => some []
  | d :: ds => match intD d, intsD ds with
    | some i, some is => some (i :: is)
    | _, _ => none
def rgOk (i : Int) : Bool := decide (-(2 ^ 62) ≤ i) && decide (i < 2 ^ 62)
def iRg1 (l : FL) : FI := fun ρ m => (l ρ m).bind fun ds m1 => match intsD ds with
  | some [j] => (match rgOk j with
    | true => .ok ⟨j.toNat, rgN 0 1 j.toNat⟩ m1
    | false => .bad)
  | _ => .bad
def iRg2 (l : FL) : FI := fun ρ m => (l ρ m).bind fun ds m1 => match intsD ds with
  | some [i, j] => .ok ⟨(j - i).toNat, rgN i 1 (j - i).toNat⟩ m1
  | _ => .bad
/-- range(i, j, -1) -/
def iRg3 (l : FL) : FI := fun ρ m => (l ρ m).bind fun ds m1 => match intsD ds with
  | some [i, j, c] => (match decide (c = -1) with
    | true => .ok ⟨(i - j).toNat, rgN i (-1) (i - j).toNat⟩ m1
    | false => .bad)
  | _ => .bad
section
variable {p : Pr} {W : WX} {X : Cx} {e tg it a b c : Expr} {es elts : List Expr} {f : FX} {l : FL} {pos pp tpos : Pos} {kk : Nat}
theorem pi_imp {t t' : TI} (h : PI X tg it t) (i : ∀ σ H R, t' σ H R → t σ H R) : PI X tg it t' := ⟨fun pins s σ H R I q => h.run pins s σ H R I (i σ H R q)⟩
theorem pi_or {t t' : TI} (h : PI X tg it t) (h' : PI X tg it t') : PI X tg it (fun σ H R => t σ H R ∨ t' σ H R) := ⟨fun pins s σ H R I q => q.elim (h.run pins s σ H R I) (h'.run pins s σ H R I)⟩
theorem postI.nx {K : PySem.W.Frag} {σ : St} {φ φ1 : List Addr} {H H1 : Hp} {r : Res Src} {R : It → Hp → Prop} (n : Nx φ H φ1 H1) (h : postI K p W σ φ H r R) : postI K p W σ φ1 H1 r R := by
  cases r with
  | ok d m' => exact fun φ' H' v n' h' q => h φ' H' v (n.trans n') h' q
  | exc c d m' => exact fun φ' H' dx n' h' q => h φ' H' dx (n.trans n') h' q
  | bad => exact h
theorem stepEI {K : PySem.W.Frag} {ρ : DL.Env} {m : Mem} {φ : List Addr} {H : Hp} {σ : St} {k : D → Mem → Res Src} {R : It → Hp → Prop} (h : HR K p φ m H) (r : ER K p φ H ρ σ) (q : postI K p W σ φ H ((f ρ m).bind k) R) :
    tE K p W f σ H (fun v H1 => ∃ φ1 d m1, f ρ m = .ok d m1 ∧ Nx φ H φ1 H1 ∧ HR K p φ1 m1 H1 ∧ ER K p φ1 H1 ρ σ ∧ VR K p φ1 H1 d v ∧ postI K p W σ φ1 H1 (k d m1) R) := by
  refine ⟨φ, ρ, m, h, r, ?_⟩
  revert q
  cases f ρ m with
  | bad => exact fun z => z
  | exc c d m' => exact fun z => z
  | ok d m' =>
    intro q φ1 H1 v n1 h1 r1
    exact ⟨φ1, d, m', rfl, n1, h1, r.mono h n1, r1, postI.nx n1 q⟩
theorem stepLI {K : PySem.W.Frag} {l : FL} {ρ : DL.Env} {m : Mem} {φ : List Addr} {H : Hp} {σ : St} {k : List D → Mem → Res Src} {R : It → Hp → Prop} (h : HR K p φ m H) (r : ER K p φ H ρ σ) (q : postI K p W σ φ H ((l ρ m).bind k) R) :
    tA K p W l σ H (fun v H1 => ∃ φ1 d m1, Nx φ H φ1 H1 ∧ HR K p φ1 m1 H1 ∧ ER K p φ1 H1 ρ σ ∧ VRs K p φ1 H1 d v ∧ postI K p W σ φ1 H1 (k d m1) R) := by
  refine ⟨φ, ρ, m, h, r, ?_⟩
  revert q
  cases l ρ m with
  | bad => exact fun z => z
  | exc c d m' => exact fun z => z
  | ok d m' =>
    intro q φ1 H1 v n1 h1 r1
    exact ⟨φ1, d, m', n1, h1, r.mono h n1, r1, postI.nx n1 q⟩
/-- what seqN tells, of the source -/
def SqAt (K : PySem.W.Frag) (p : Pr) (sr : Sr) (φ : List Addr) (H : Hp) (i : Nat) : NextR → Prop
  | .item d => ∃ xs x, SrOk K H sr xs ∧ xs[i]? = some x ∧ VR K p φ H d x
  | .stop => ∃ xs, SrOk K H sr xs ∧ xs.length = i
  | .bad => True
theorem atN_at {K : PySem.W.Frag} {sr : Sr} {φ : List Addr} {H : Hp} {xs : List D} {vs : List V} (h : SrOk K H sr vs) (r : VRs K p φ H xs vs) (i : Nat) : SqAt K p sr φ H i (atN xs i) := by
  unfold atN
  cases e : xs[i]? with
  | some d =>
    obtain ⟨v, ev, rv⟩ := r.get e
    exact ⟨vs, v, h, ev, rv⟩
  | none =>
    show SqAt K p sr φ H i (match Nat.beq xs.length i with | true => NextR.stop | false => .bad)
    cases z : Nat.beq xs.length i with
    | true => exact ⟨vs, h, by rw [← r.length]; exact Nat.eq_of_beq_eq_true z⟩
    | false => exact trivial
theorem vrs_ch {K : PySem.W.Frag} {φ : List Addr} {H : Hp} : ∀ s : List Nat, VRs K p φ H (chD s) (s.map fun c => V.str ⟨#[c]⟩)
  | [] => by simp [chD, VRs]
  | c :: s => by
    show VRs K p φ H (D.str [c] :: chD s) (V.str ⟨#[c]⟩ :: s.map fun c => V.str ⟨#[c]⟩)
    simp only [VRs]
    exact ⟨_, _, rfl, by simp [VR], vrs_ch s⟩
theorem src_of {K : PySem.W.Frag} {φ0 : List Addr} {H0 : Hp} {m0 : Mem} {d : D} {v : V} {ys : List D} (h0 : HR K p φ0 m0 H0) (r0 : VR K p φ0 H0 d v) (e0 : itemsD d m0 = some ys) :
    ∃ sr, SrV v sr ∧ (∃ xs, SrOk K H0 sr xs) ∧ ∀ i φ m H, HR K p φ m H → Nx φ0 H0 φ H → SqAt K p sr φ H i (seqN d i m) := by
  cases d with
  | tup xs =>
    simp only [VR] at r0
    obtain ⟨a, vs, rfl, s, r⟩ := r0
    refine ⟨.T a, rfl, ⟨vs, SqT.of s⟩, fun i φ m H hm n => ?_⟩
    exact atN_at (sr := .T a) (SqT.of (n.keep _ _ s (h0.okKind s rfl))) (VRs.mono h0 n _ _ r) i
  | ktup xs =>
    simp only [VR] at r0
    obtain ⟨a, vs, rfl, s, r⟩ := r0
    refine ⟨.T a, rfl, ⟨vs, s.sq⟩, fun i φ m H hm n => ?_⟩
    exact atN_at (sr := .T a) (s.keep fun o e => n.keep _ _ e (h0.okKind e rfl)).sq (VRs.mono h0 n _ _ r) i
  | rol xs =>
    simp only [VR] at r0
    obtain ⟨a, vs, rfl, s, r⟩ := r0
    have s0 : SqL K H0 a vs := by
      rcases s with ⟨o, s⟩ | s
      · exact .inl (.inr ⟨o, s⟩)
      · exact s H0
    refine ⟨.L a, rfl, ⟨vs, s0⟩, fun i φ m H hm n => ?_⟩
    have s' : SqL K H a vs := by
      rcases s with ⟨o, s⟩ | s
      · exact .inl (.inr ⟨o, n.keep _ _ s (h0.okKind s rfl)⟩)
      · exact s H
    exact atN_at (sr := .L a) s' (VRs.mono h0 n _ _ r) i
  | str z =>
    simp only [VR] at r0
    subst r0
    exact ⟨.S ⟨z.toArray⟩, rfl, ⟨_, rfl⟩, fun i φ m H hm n => atN_at (sr := .S ⟨z.toArray⟩) (by simp [SrOk]) (vrs_ch z) i⟩
  | ref k =>
    simp only [VR] at r0
    obtain ⟨a, ea, rfl⟩ := r0
    simp only [itemsD] at e0
    split at e0
    · rename_i xs em
      obtain ⟨vs, e1, _⟩ := h0.obj k _ a em ea
      refine ⟨.L a, rfl, ⟨vs, SqL.of e1⟩, fun i φ m H hm n => ?_⟩
      obtain ⟨new, en, _⟩ := n.ext
      have e' : φ[k]? = some a := by rw [en, List.getElem?_append_left (List.getElem?_eq_some_iff.mp ea).1]; exact ea
      simp only [seqN]
      split
      · rename_i ys2 em2
        obtain ⟨vs2, e2, r2⟩ := hm.obj k _ a em2 e'
        exact atN_at (sr := .L a) (SqL.of e2) r2 i
      · exact trivial
    · cases e0
  | _ => cases e0
theorem jok_L {K : PySem.W.Frag} {φ0 : List Addr} {H0 : Hp} {a : Addr} {nx : Nxt} (h : ∀ i φ m H, HR K p φ m H → Nx φ0 H0 φ H → SqAt K p (.L a) φ H i (nx i m)) : JOk K p (Itl K a) φ0 H0 nx := by
  intro i φ m H hm n
  have q := h i φ m H hm n
  revert q
  cases nx i m with
  | bad => exact fun _ => trivial
  | stop => exact fun ⟨xs, s, e⟩ => ⟨xs, s, Nat.le_of_eq e⟩
  | item d => exact fun ⟨xs, x, s, e, r⟩ => ⟨⟨xs, x, s, e⟩, fun y H' z => by
      obtain ⟨rfl, z⟩ := z
      have z' := z xs s
      rw [e] at z'; cases z'
      exact ⟨Nx.refl, hm, r⟩⟩
theorem jok_T {K : PySem.W.Frag} {φ0 : List Addr} {H0 : Hp} {a : Addr} {nx : Nxt} (h : ∀ i φ m H, HR K p φ m H → Nx φ0 H0 φ H → SqAt K p (.T a) φ H i (nx i m)) : JOk K p (Itt K a) φ0 H0 nx := by
  intro i φ m H hm n
  have q := h i φ m H hm n
  revert q
  cases nx i m with
  | bad => exact fun _ => trivial
  | stop => exact fun ⟨xs, s, e⟩ => ⟨xs, s, Nat.le_of_eq e⟩
  | item d => exact fun ⟨xs, x, s, e, r⟩ => ⟨⟨xs, x, s, e⟩, fun y H' z => by
      obtain ⟨rfl, z⟩ := z
      have z' := z xs s
      rw [e] at z'; cases z'
      exact ⟨Nx.refl, hm, r⟩⟩
theorem jok_S {K : PySem.W.Frag} {φ0 : List Addr} {H0 : Hp} {z : Str} {nx : Nxt} (h : ∀ i φ m H, HR K p φ m H → Nx φ0 H0 φ H → SqAt K p (.S z) φ H i (nx i m)) : JOk K p (Its z) φ0 H0 nx := by
  intro i φ m H hm n
  have q := h i φ m H hm n
  revert q
  cases nx i m with
  | bad => exact fun _ => trivial
  | stop =>
    rintro ⟨xs, s, e⟩
    have s' : xs = z.cps.toList.map fun c => V.str ⟨#[c]⟩ := s
    subst s'
    show z.cps.size ≤ i
    simp at e
    omega
  | item d =>
    rintro ⟨xs, x, s, e, r⟩
    have s' : xs = z.cps.toList.map fun c => V.str ⟨#[c]⟩ := s
    subst s'
    have e' : (z.cps[i]?).map (fun c => V.str ⟨#[c]⟩) = some x := by simpa using e
    cases ec : z.cps[i]? with
    | none => rw [ec] at e'; cases e'
    | some c =>
      rw [ec] at e'; cases e'
      refine ⟨?_, fun y H' w => ?_⟩
      · show i < z.cps.size
        exact (Array.getElem?_eq_some_iff.mp ec).1
      · obtain ⟨rfl, c', hc, rfl⟩ := w
        rw [ec] at hc; cases hc
        exact ⟨Nx.refl, hm, r⟩
/-- a list, a tuple, a text -/
theorem fi_val (he : FE p W X it f) : FIt p W X tg it (iVal f) := ⟨pi_imp (pi_or (pi_list he.pe) (pi_or (pi_tup he.pe) (pi_str he.pe))) fun σ H R q => by
  obtain ⟨φ, ρ, m, hm, r, q⟩ := q
  have q0 : postI X.K p W σ φ H ((f ρ m).bind fun d m1 => match itemsD d m1 with | some xs => .ok ⟨xs.length, seqN d⟩ m1 | none => .bad) R := q
  clear q
  cases ef : f ρ m with
  | bad => rw [ef] at q0; exact False.elim q0
  | exc c d m' =>
    refine .inl ⟨φ, ρ, m, hm, r, ?_⟩
    rw [ef] at q0 ⊢
    exact q0
  | ok d m' =>
    rw [ef] at q0
    simp only [Res.bind_ok] at q0
    have go : ∀ Q : VK, (∀ φ1 H1 v, Nx φ H φ1 H1 → HR X.K p φ1 m' H1 → VR X.K p φ1 H1 d v → Q v H1) → tE X.K p W f σ H Q := fun Q h => ⟨φ, ρ, m, hm, r, by rw [ef]; exact h⟩
    cases ei : itemsD d m' with
    | none => rw [ei] at q0; exact False.elim q0
    | some ys =>
      rw [ei] at q0
      cases d with
      | tup xs =>
        refine .inr (.inl (go _ fun φ1 H1 v n1 h1 r1 => ?_))
        simp only [VR] at r1
        obtain ⟨a, vs, rfl, s, r1⟩ := r1
        exact ⟨a, rfl, ⟨vs, SqT.of s⟩, q0 φ1 H1 _ n1 h1 (jok_T fun i φ m H hm n => atN_at (sr := .T a) (SqT.of (n.keep _ _ s (h1.okKind s rfl))) (VRs.mono h1 n _ _ r1) i)⟩
      | ktup xs =>
        refine .inr (.inl (go _ fun φ1 H1 v n1 h1 r1 => ?_))
        simp only [VR] at r1
        obtain ⟨a, vs, rfl, s, r1⟩ := r1
        exact ⟨a, rfl, ⟨vs, s.sq⟩, q0 φ1 H1 _ n1 h1 (jok_T fun i φ m H hm n => atN_at (sr := .T a) (s.keep fun o e => n.keep _ _ e (h1.okKind e rfl)).sq (VRs.mono h1 n _ _ r1) i)⟩
      | rol xs =>
        refine .inl (go _ fun φ1 H1 v n1 h1 r1 => ?_)
        simp only [VR] at r1
        obtain ⟨a, vs, rfl, s, r1⟩ := r1
        have s0 : ∀ {φ H}, Nx φ1 H1 φ H → SqL X.K H a vs := fun n => by
          rcases s with ⟨o, s⟩ | s
          · exact .inl (.inr ⟨o, n.keep _ _ s (h1.okKind s rfl)⟩)
          · exact s _
        exact ⟨a, rfl, ⟨vs, s0 Nx.refl⟩, q0 φ1 H1 _ n1 h1 (jok_L fun i φ m H hm n => atN_at (sr := .L a) (s0 n) (VRs.mono h1 n _ _ r1) i)⟩
      | str z =>
        refine .inr (.inr (go _ fun φ1 H1 v n1 h1 r1 => ?_))
        simp only [VR] at r1
        subst r1
        exact ⟨_, rfl, q0 φ1 H1 _ n1 h1 (jok_S fun i φ m H hm n => atN_at (sr := .S ⟨z.toArray⟩) (by simp [SrOk]) (vrs_ch z) i)⟩
      | ref k =>
        refine .inl (go _ fun φ1 H1 v n1 h1 r1 => ?_)
        simp only [VR] at r1
        obtain ⟨a, ea, rfl⟩ := r1
        simp only [itemsD] at ei
        split at ei
        · rename_i xs em
          obtain ⟨vs, e1, _⟩ := h1.obj k _ a em ea
          refine ⟨a, rfl, ⟨vs, SqL.of e1⟩, q0 φ1 H1 _ n1 h1 (jok_L fun i φ m H hm n => ?_)⟩
          obtain ⟨new, en, _⟩ := n.ext
          have e' : φ[k]? = some a := by rw [en, List.getElem?_append_left (List.getElem?_eq_some_iff.mp ea).1]; exact ea
          show SqAt X.K p (.L a) φ H i (seqN (.ref k) i m)
          simp only [seqN]
          split
          · rename_i ys2 em2
            obtain ⟨vs2, e2, r2⟩ := hm.obj k _ a em2 e'
            exact atN_at (sr := .L a) (SqL.of e2) r2 i
          · exact trivial
        · cases ei
      | _ => cases ei⟩
/-- enumerate -/
theorem fi_en (hm : X.mg "enumerate" = none) (ha : FA p W X [e] l) (hg : Gl X "enumerate" := by rfl) (hs : starEach [e] X.env = [(false, eval e X.env)] := by rfl) : FIt p W X (.Tuple elts kk tpos) (.Call (.Name "enumerate" pp) [e] [] pos) (iEnD l) := ⟨pi_imp (pi_en hg hm ha.pa hs) fun σ H R q => by
  obtain ⟨φ, ρ, m, hm', r, q⟩ := q
  refine thA ?_ (stepLI hm' r q)
  rintro vs H1 ⟨φ1, ds, m1, n1, h1, r1, v1, q1⟩
  match ds, v1, q1 with
  | [], _, q1 => exact False.elim q1
  | _ :: _ :: _, _, q1 => exact False.elim q1
  | [d], v1, q1 =>
    simp only [VRs] at v1
    obtain ⟨v, _, rfl, rv, rfl⟩ := v1
    simp only at q1
    cases ei : itemsD d m1 with
    | none => rw [ei] at q1; exact False.elim q1
    | some ys =>
      rw [ei] at q1
      obtain ⟨sr, hv, ⟨zs, ok⟩, hs⟩ := src_of h1 rv ei
      refine ⟨v, sr, zs, rfl, hv, ok, q1 φ1 H1 _ Nx.refl h1 fun i φ m H hm n => ?_⟩
      have z := hs i φ m H hm n
      show JAt X.K p (Jen X.K sr) φ m H i (enC i (seqN d i m))
      revert z
      cases seqN d i m with
      | bad => exact fun _ => trivial
      | stop => exact fun z => z
      | item d => exact fun ⟨xs, x, s, e, r⟩ => ⟨⟨xs, x, s, e⟩, fun y H' w => by
          obtain ⟨T, x', rfl, hT, rfl, w⟩ := w
          have w' := w xs s
          rw [e] at w'; cases w'
          refine ⟨Nx.new hT, hm.new hT, ?_⟩
          simp only [VR, VRs]
          exact ⟨T, _, rfl, upd_same, _, _, rfl, rfl, _, _, rfl, VR.mono hm (Nx.new hT) _ _ r, rfl⟩⟩⟩
theorem fi_zp (hm : X.mg "zip" = none) (ha : FA p W X [a, b] l) (hg : Gl X "zip" := by rfl) (hs : starEach [a, b] X.env = (false, eval a X.env) :: starEach [b] X.env := by rfl) (hpl : (backTo pos (starEach [b] X.env)).any (·.1) = false := by rfl) :
    FIt p W X (.Tuple elts kk tpos) (.Call (.Name "zip" pp) [a, b] [] pos) (iZpD l) := ⟨pi_imp (pi_zp hg hm ha.pa hs hpl) fun σ H R q => by
  obtain ⟨φ, ρ, m, hm', r, q⟩ := q
  refine thA ?_ (stepLI hm' r q)
  rintro vs H1 ⟨φ1, ds, m1, n1, h1, r1, v1, q1⟩
  match ds, v1, q1 with
  | [], _, q1 => exact False.elim q1
  | [_], _, q1 => exact False.elim q1
  | _ :: _ :: _ :: _, _, q1 => exact False.elim q1
  | [d, e], v1, q1 =>
    simp only [VRs] at v1
    obtain ⟨v, _, rfl, rv, u, _, rfl, ru, rfl⟩ := v1
    simp only at q1
    cases ei : itemsD d m1 with
    | none => rw [ei] at q1; exact False.elim q1
    | some ys =>
      cases ej : itemsD e m1 with
      | none => rw [ei, ej] at q1; exact False.elim q1
      | some ys2 =>
        rw [ei, ej] at q1
        obtain ⟨s1, hv, ⟨zs, ok⟩, hs⟩ := src_of h1 rv ei
        obtain ⟨s2, hv2, ⟨zs2, ok2⟩, hs2⟩ := src_of h1 ru ej
        refine ⟨v, u, s1, s2, zs, zs2, rfl, hv, hv2, ok, ok2, q1 φ1 H1 _ Nx.refl h1 fun i φ m H hm n => ?_⟩
        have z := hs i φ m H hm n
        have z2 := hs2 i φ m H hm n
        show JAt X.K p (Jzp X.K s1 s2) φ m H i (zpC (seqN d i m) (seqN e i m))
        revert z z2
        generalize seqN d i m = A
        generalize seqN e i m = B
        intro z z2
        match A, B, z, z2 with
        | .bad, _, _, _ => exact trivial
        | .item _, .bad, _, _ => exact trivial
        | .stop, .bad, _, _ => exact trivial
        | .stop, .stop, ⟨xs, s, e⟩, ⟨ys, s', e'⟩ => exact ⟨xs, ys, s, s', by omega⟩
        | .stop, .item d2, ⟨xs, s, e⟩, ⟨ys, y, s', e', _⟩ => exact ⟨xs, ys, s, s', by have := (List.getElem?_eq_some_iff.mp e').1; omega⟩
        | .item d1, .stop, ⟨xs, x, s, e, _⟩, ⟨ys, s', e'⟩ => exact ⟨xs, ys, s, s', by have := (List.getElem?_eq_some_iff.mp e).1; omega⟩
        | .item d1, .item d2, ⟨xs, x, s, e, r⟩, ⟨ys, y, s', e', r'⟩ =>
          refine ⟨⟨xs, ys, x, y, s, s', e, e'⟩, fun y' H' w => ?_⟩
          obtain ⟨T, x1, y1, rfl, hT, rfl, w, w2⟩ := w
          have w' := w xs s
          rw [e] at w'; cases w'
          have w2' := w2 ys s'
          rw [e'] at w2'; cases w2'
          refine ⟨Nx.new hT, hm.new hT, ?_⟩
          simp only [VR, VRs]
          exact ⟨T, _, rfl, upd_same, _, _, rfl, VR.mono hm (Nx.new hT) _ _ r, _, _, rfl, VR.mono hm (Nx.new hT) _ _ r', rfl⟩⟩
theorem intsD_ok {K : PySem.W.Frag} {φ : List Addr} {H : Hp} : ∀ {ds : List D} {vs : List V} {is : List Int}, VRs K p φ H ds vs → intsD ds = some is → vs = is.map V.int
  | [], vs, is, r, e => by
    simp only [VRs] at r; subst r
    cases e; rfl
  | d :: ds, vs, is, r, e => by
    simp only [VRs] at r
    obtain ⟨v, t, rfl, rv, rt⟩ := r
    simp only [intsD] at e
    cases d with
    | int i =>
      cases e2 : intsD ds with
      | none => simp [intD, e2] at e
      | some js =>
        simp only [intD, e2] at e
        cases e
        simp only [VR] at rv
        subst rv
        rw [intsD_ok rt e2]; rfl
    | _ => simp [intD] at e
theorem rgOk_iff {i : Int} (h : rgOk i = true) : -(2 ^ 62) ≤ i ∧ i < 2 ^ 62 := by
  unfold rgOk at h
  rw [Bool.and_eq_true] at h
  exact ⟨of_decide_eq_true h.1, of_decide_eq_true h.2⟩
theorem jok_rg {K : PySem.W.Frag} {φ0 : List Addr} {H0 : Hp} {lo : Int} {n : Nat} : JOk K p (Itr lo n) φ0 H0 (rgN lo 1 n) := by
  intro i φ m H hm nx
  unfold rgN
  cases e : Nat.blt i n with
  | true =>
    have : i < n := by simpa [Nat.blt_eq] using e
    refine ⟨this, fun x H' y => ?_⟩
    obtain ⟨rfl, rfl⟩ := y
    exact ⟨Nx.refl, hm, by simp [VR]⟩
  | false =>
    show n ≤ i
    have : ¬ i < n := fun h => by rw [(Nat.blt_eq).mpr h] at e; cases e
    omega
theorem jok_rgC {K : PySem.W.Frag} {φ0 : List Addr} {H0 : Hp} {lo c : Int} {n : Nat} : JOk K p (Itc lo c n) φ0 H0 (rgN lo c n) := by
  intro i φ m H hm nx
  unfold rgN
  cases e : Nat.blt i n with
  | true =>
    have : i < n := by simpa [Nat.blt_eq] using e
    refine ⟨this, fun x H' y => ?_⟩
    obtain ⟨rfl, rfl⟩ := y
    exact ⟨Nx.refl, hm, by simp [VR]⟩
  | false =>
    show n ≤ i
    have : ¬ i < n := fun h => by rw [(Nat.blt_eq).mpr h] at e; cases e
    omega
theorem fi_rg1 (hm : X.mg "range" = none) (ha : FA p W X [a] l) (hg : Gl X "range" := by rfl) (hs : starEach [a] X.env = [(false, eval a X.env)] := by rfl) : FIt p W X tg (.Call (.Name "range" pp) [a] [] pos) (iRg1 l) := ⟨pi_imp (pi_range1 hg hm ha.pa hs) fun σ H R q => by
  obtain ⟨φ, ρ, m, hm', r, q⟩ := q
  refine thA ?_ (stepLI hm' r q)
  rintro vs H1 ⟨φ1, ds, m1, n1, h1, r1, v1, q1⟩
  split at q1
  · rename_i j ej
    split at q1
    · rename_i ok
      have := rgOk_iff ok
      exact ⟨j, intsD_ok v1 ej, this.1, this.2, q1 φ1 H1 _ Nx.refl h1 jok_rg⟩
    · exact False.elim q1
  · exact False.elim q1⟩
theorem fi_rg2 (hm : X.mg "range" = none) (ha : FA p W X [a, b] l) (hg : Gl X "range" := by rfl) (hs : starEach [a, b] X.env = [(false, eval a X.env), (false, eval b X.env)] := by rfl) (hs2 : starEach [b] X.env = [(false, eval b X.env)] := by rfl) : FIt p W X tg (.Call (.Name "range" pp) [a, b] [] pos) (iRg2 l) := ⟨pi_imp (pi_rgL2 hg hm ha.pa hs hs2) fun σ H R q => by
  obtain ⟨φ, ρ, m, hm', r, q⟩ := q
  refine thA ?_ (stepLI hm' r q)
  rintro vs H1 ⟨φ1, ds, m1, n1, h1, r1, v1, q1⟩
  split at q1
  · rename_i i j ej
    exact ⟨i, j, intsD_ok v1 ej, q1 φ1 H1 _ Nx.refl h1 jok_rgC⟩
  · exact False.elim q1⟩
theorem fi_rg3 (hm : X.mg "range" = none) (ha : FA p W X [a, b, c] l) (hg : Gl X "range" := by rfl) (hs : starEach [a, b, c] X.env = (false, eval a X.env) :: starEach [b, c] X.env := by rfl) (hpl : (backTo pos (starEach [b, c] X.env)).any (·.1) = false := by rfl) : FIt p W X tg (.Call (.Name "range" pp) [a, b, c] [] pos) (iRg3 l) := ⟨pi_imp (pi_rgL3 hg hm ha.pa hs hpl) fun σ H R q => by
  obtain ⟨φ, ρ, m, hm', r, q⟩ := q
  refine thA ?_ (stepLI hm' r q)
  rintro vs H1 ⟨φ1, ds, m1, n1, h1, r1, v1, q1⟩
  split at q1
  · rename_i i j c ej
    split at q1
    · rename_i ok
      obtain rfl := of_decide_eq_true ok
      exact ⟨i, j, intsD_ok v1 ej, q1 φ1 H1 _ Nx.refl h1 jok_rgC⟩
    · exact False.elim q1
  · exact False.elim q1⟩
end

/-! ### for -/
def forGo (s : Nxt) (q : Pat) (b : FS) : Nat → Nat → FS
  | 0, _, _, _ => none
  | k + 1, i, ρ, m => match s i m with
    | .bad => none
    | .stop => some (.nx ρ, m)
    | .item d => match q m d with
      | none => none
      | some bs => match b (setsD ρ bs) m with
        | some (.nx ρ2, m2) => forGo s q b k (i + 1) ρ2 m2
        | some (.ct ρ2, m2) => forGo s q b k (i + 1) ρ2 m2
        | some (.bk ρ2, m2) => some (.nx ρ2, m2)
        | r => r
def sFor (it : FI) (q : Pat) (b : FS) : FS := fun ρ m => (it ρ m).toS ρ fun s m1 => forGo s.nx q b (s.n + 1) 0 ρ m1
section
variable {p : Pr} {W : WX} {X : Cx} {tg it : Expr} {sts : List Stmt} {pos : Pos} {f : FI} {q : Pat} {b : FS}
theorem fs_for (hp : PassesOwn (model X.prog X.w) X.A X.env X.xe) (hc : X.calm = true) (hi : FIt p W X tg it f) (hq : FP p X tg q) (hb : FSs p W X sts b) (hs : ∀ x, foldedSetIterable it X.env x = pure x := by intro _; rfl) :
    FSt p W X (.For tg it sts [] pos) (sFor f q b) := ⟨ps_imp (ps_for hp hc hi.pi hq.pg hb.ps hs) fun D σ H z => by
  obtain ⟨φ, ρ, m, hm, r, z⟩ := z
  refine ⟨φ, ρ, m, hm, r, ?_⟩
  unfold sFor at z
  cases ef : f ρ m with
  | bad => rw [ef] at z; exact False.elim z
  | exc c d m' => rw [ef] at z; exact fun φ' H' dx n h' q => z φ' H' σ dx n h' (r.mono hm n) q
  | ok s m0 =>
    rw [ef] at z
    simp only [Res.toS_ok] at z
    intro φ0 H0 J n0 h0 hJ
    refine ⟨fun i k σ' H' => ∃ φ' ρ' m', HR X.K p φ' m' H' ∧ ER X.K p φ' H' ρ' σ' ∧ Nx φ0 H0 φ' H' ∧ postS X.K p W φ' H' (forGo s.nx q b k i ρ' m') D, ⟨s.n + 1, φ0, ρ, m0, h0, r.mono hm n0, Nx.refl, postS.nx n0 z⟩, ?_⟩
    rintro i k σ1 H1 ⟨φ1, ρ1, m1, h1, r1, n1, q1⟩
    cases k with
    | zero => exact False.elim q1
    | succ k =>
      have jj := hJ i φ1 m1 H1 h1 n1
      unfold forGo at q1
      cases es : s.nx i m1 with
      | bad => rw [es] at q1; exact False.elim q1
      | stop =>
        rw [es] at q1 jj
        exact .inl ⟨jj, q1 φ1 H1 σ1 Nx.refl h1 r1⟩
      | item d =>
        rw [es] at q1 jj
        simp only at q1 jj
        obtain ⟨jg, jy⟩ := jj
        cases eq : q m1 d with
        | none => rw [eq] at q1; exact False.elim q1
        | some bs =>
          rw [eq] at q1
          simp only at q1
          refine .inr ⟨jg, fun σ' H' => ∃ φ' ρ' m', HR X.K p φ' m' H' ∧ ER X.K p φ' H' ρ' σ' ∧ Nx φ0 H0 φ' H' ∧ postS X.K p W φ' H' (forGo s.nx q b k (i + 1) ρ' m') D, fun σ' H' z => ⟨k, Nat.lt_succ_self k, z⟩, fun x H2 y => ?_⟩
          obtain ⟨n2, h2, r2⟩ := jy x H2 y
          refine ⟨φ1, m1, d, bs, h2, r2, eq, fun vs hvs => ⟨φ1, setsD ρ1 bs, m1, h2, ER.sets hvs (r1.mono h1 n2), ?_⟩⟩
          replace q1 := postS.nx n2 q1
          revert q1
          match b (setsD ρ1 bs) m1 with
          | some (.nx ρ', m') => exact fun q φ' H' σ' n' h' r' => ⟨φ', ρ', m', h', r', (n1.trans n2).trans n', postS.nx n' q⟩
          | some (.ct ρ', m') => exact fun q φ' H' σ' n' h' r' => ⟨φ', ρ', m', h', r', (n1.trans n2).trans n', postS.nx n' q⟩
          | some (.bk ρ', m') => exact fun q => q
          | some (.rt d, m') => exact fun q => q
          | some (.ex c d ρ', m') => exact fun q => q
          | none => exact fun q => q⟩
end
end DL

set_option Elab.async false
set_option linter.all false
set_option maxRecDepth 100000
set_option maxHeartbeats 4000000
namespace DL
open PySem PySem.Spec PyProof.Rows L2

/-! ### a dict that is walked is locked -/
section
variable {K : PySem.W.Frag} {p : Pr} {φ φ' : List Addr} {m m' : Mem} {H H' : Hp}
/-- the dict's object -/
theorem dic_at {n : Nat} {t : Bool} {kvs : List (D × D)} {a : Addr} (h : HR K p φ m H) (em : m[n]? = some (.dic t kvs)) (ea : φ[n]? = some a) :
    ∃ u, H a = some u ∧ Mut (some u) ∧ isFz u = false ∧ ∀ od, OR K p φ (upd H a (.frz od u)) (.lck t kvs) (some (.frz od u)) := by
  have q := h.obj n _ a em ea
  have ha : a ∈ φ := List.mem_of_getElem? ea
  cases t with
  | false =>
    obtain ⟨vs, e, r⟩ := q
    exact ⟨_, e, trivial, rfl, fun od => ⟨od, vs, rfl, r.mono h (Nx.put ha fun u e' => by rw [e] at e'; cases e'; rfl)⟩⟩
  | true =>
    obtain ⟨vs, e, r⟩ := q
    exact ⟨_, e, trivial, rfl, fun od => ⟨od, vs, rfl, r.mono h (Nx.put ha fun u e' => by rw [e] at e'; cases e'; rfl)⟩⟩
structure Locked (K : PySem.W.Frag) (p : Pr) (φ : List Addr) (m : Mem) (H : Hp) (n : Nat) (t : Bool) (kvs : List (D × D)) (a : Addr) (u : HO) : Prop where
  at_ : H a = some u
  mu : Mut (some u)
  fz : isFz u = false
  dict : (∃ vs, u = .dK vs) ∨ ∃ vs, u = .dT vs
  in_ : ∀ od, HR K p φ (m.set n (.lck t kvs)) (upd H a (.frz od u)) ∧ Nx φ H φ (upd H a (.frz od u))
  out : ∀ od φ' m' H', Nx φ (upd H a (.frz od u)) φ' H' → HR K p φ' m' H' → H' a = some (.frz od u) ∧ Nx φ H φ' (upd H' a u) ∧ HR K p φ' (m'.set n (.dic t kvs)) (upd H' a u) ∧ (∀ d v, VR K p φ' H' d v → VR K p φ' (upd H' a u) d v)
theorem locked {n : Nat} {t : Bool} {kvs : List (D × D)} {a : Addr} (h : HR K p φ m H) (em : m[n]? = some (.dic t kvs)) (ea : φ[n]? = some a) : ∃ u, Locked K p φ m H n t kvs a u := by
  obtain ⟨u, e, mu, fz, ol⟩ := dic_at h em ea
  have q := h.obj n _ a em ea
  have ha : a ∈ φ := List.mem_of_getElem? ea
  have hd : (∃ vs, u = .dK vs) ∨ ∃ vs, u = .dT vs := by
    cases t with
    | false => obtain ⟨vs, e', _⟩ := q; rw [e] at e'; cases e'; exact .inl ⟨_, rfl⟩
    | true => obtain ⟨vs, e', _⟩ := q; rw [e] at e'; cases e'; exact .inr ⟨_, rfl⟩
  refine ⟨u, e, mu, fz, hd, fun od => ⟨h.put ea em rfl (ol od), Nx.put ha fun w e' => by rw [e] at e'; cases e'; exact fz⟩, fun od φ' m' H' n' h' => ?_⟩
  have k : H' a = some (.frz od u) := n'.kp a _ upd_same fun _ => rfl
  obtain ⟨new, en, fn⟩ := n'.ext
  have vk : ∀ b o, H' b = some o → okKind o = false → (upd H' a u) b = some o := fun b o eb ho => by
    have z : b ≠ a := fun z => by
      subst z
      rw [k] at eb; cases eb
      rcases hd with ⟨vs, rfl⟩ | ⟨vs, rfl⟩ <;> cases ho
    rw [upd_ne z]; exact eb
  have nx : Nx φ H φ' (upd H' a u) := by
    refine ⟨⟨new, en, fun b hb => ?_⟩, fun b o eb hb => ?_, fun b eb => ?_⟩
    · have := fn b hb
      by_cases z : b = a
      · subst z; rw [upd_same] at this; cases this
      · rwa [upd_ne z] at this
    · have z : b ≠ a := fun z => by
        subst z
        rw [e] at eb; cases eb
        have := hb ha
        rw [fz] at this; cases this
      rw [upd_ne z]
      exact n'.kp b o (by rw [upd_ne z]; exact eb) hb
    · have z : b ≠ a := fun z => by subst z; rw [upd_same] at eb; cases eb
      rw [upd_ne z] at eb
      have := n'.there b eb
      rwa [upd_ne z] at this
  refine ⟨k, nx, ?_, fun d v r => VR.keep vk ⟨[], by simp⟩ d v r⟩
  have ea' : φ'[n]? = some a := by rw [en, List.getElem?_append_left (List.getElem?_eq_some_iff.mp ea).1]; exact ea
  refine ⟨by simp [h'.len], h'.nd, fun j o b e1 e2 => ?_⟩
  by_cases z : j = n
  · subst z
    rw [ea'] at e2; cases e2
    have hn : j < m'.length := h'.len ▸ (List.getElem?_eq_some_iff.mp ea').1
    rw [List.getElem?_set_self hn] at e1; cases e1
    rw [upd_same, ← e]
    exact q.mono h nx
  · rw [List.getElem?_set_ne (Ne.symm z)] at e1
    have zb : b ≠ a := fun zb => z (by
      subst zb
      obtain ⟨h1, q1⟩ := List.getElem?_eq_some_iff.mp e2
      obtain ⟨h2, q2⟩ := List.getElem?_eq_some_iff.mp ea'
      exact (List.getElem_inj h'.nd).mp (q1.trans q2.symm))
    rw [upd_ne zb]
    exact (h'.obj j o b e1 e2).keep vk ⟨[], by simp⟩
theorem ER.keep (kk : ∀ d v, VR K p φ H d v → VR K p φ' H' d v) : ∀ {ρ : DL.Env} {σ : St}, ER K p φ H ρ σ → ER K p φ' H' ρ σ
  | [], _, q => q
  | o :: r, σ, q => by
    obtain ⟨u, t, rfl, a, b⟩ := q
    exact ⟨u, t, rfl, fun d e => let ⟨v, e1, e2⟩ := a d e; ⟨v, e1, kk d v e2⟩, ER.keep kk b⟩
end
def refD : D → Option Nat
  | .ref n => some n
  | _ => none
theorem refD_ok {d : D} {n : Nat} (h : refD d = some n) : d = .ref n := by
  cases d with
  | ref k => cases h; rfl
  | _ => cases h
/-- the dict that an expression tells -/
def dicAt (f : FX) (ρ : DL.Env) (m : Mem) : Option (Nat × Bool × List (D × D)) := match f ρ m with
  | .ok d _ => (match refD d with
    | some n => (match m[n]? with
      | some (.dic t kvs) => some (n, t, kvs)
      | _ => none)
    | none => none)
  | _ => none
def unl (n : Nat) (t : Bool) (kvs : List (D × D)) : SRes → SRes
  | some (.ex _ _ _, _) => none
  | some (fl, m') => some (fl, m'.set n (.dic t kvs))
  | none => none
/-- the statement g, the dict of f locked -/
def sLock (f : FX) (g : FS) : FS := fun ρ m => match dicAt f ρ m with
  | some (n, t, kvs) => unl n t kvs (g ρ (m.set n (.lck t kvs)))
  | none => none
theorem dicAt_ok {f : FX} {ρ : DL.Env} {m : Mem} {n : Nat} {t : Bool} {kvs : List (D × D)} (h : dicAt f ρ m = some (n, t, kvs)) : m[n]? = some (.dic t kvs) := by
  unfold dicAt at h
  split at h
  · split at h
    · split at h
      · rename_i e2 _ _ _ e; cases h; exact e
      · cases h
    · cases h
  · cases h
section
variable {p : Pr} {W : WX} {X : Cx} {st : Stmt} {f : FX} {g : FS}
theorem HR.addr {K : PySem.W.Frag} {φ : List Addr} {m : Mem} {H : Hp} {n : Nat} {o : MO} (h : HR K p φ m H) (e : m[n]? = some o) : ∃ a, φ[n]? = some a := by
  have := (List.getElem?_eq_some_iff.mp e).1
  exact ⟨_, List.getElem?_eq_getElem (h.len ▸ this)⟩
theorem fs_lock (f : FX) (h : FSt p W X st g) : FSt p W X st (sLock f g) := ⟨ps_imp (ps_lock h.ps) fun E σ H q => by
  obtain ⟨φ, ρ, m, hm, r, q⟩ := q
  unfold sLock at q
  cases ed : dicAt f ρ m with
  | none => rw [ed] at q; exact False.elim q
  | some z =>
    obtain ⟨n, t, kvs⟩ := z
    rw [ed] at q
    simp only at q
    obtain ⟨a, ea⟩ := hm.addr (dicAt_ok ed)
    obtain ⟨u, L⟩ := locked hm (dicAt_ok ed) ea
    refine ⟨a, u, L.at_, L.mu, fun od => ?_⟩
    obtain ⟨h1, n1⟩ := L.in_ od
    refine ⟨φ, ρ, _, h1, r.mono hm n1, ?_⟩
    revert q
    match g ρ (m.set n (.lck t kvs)) with
    | none => exact fun q => q
    | some (.ex _ _ _, _) => exact fun q => False.elim q
    | some (.nx ρ', m') => exact fun q φ' H' σ' n' h' r' => let ⟨k, n2, h2, v2⟩ := L.out od φ' m' H' n' h'; ⟨k, q φ' _ σ' n2 h2 (r'.keep v2)⟩
    | some (.bk ρ', m') => exact fun q φ' H' σ' n' h' r' => let ⟨k, n2, h2, v2⟩ := L.out od φ' m' H' n' h'; ⟨k, q φ' _ σ' n2 h2 (r'.keep v2)⟩
    | some (.ct ρ', m') => exact fun q φ' H' σ' n' h' r' => let ⟨k, n2, h2, v2⟩ := L.out od φ' m' H' n' h'; ⟨k, q φ' _ σ' n2 h2 (r'.keep v2)⟩
    | some (.rt d, m') => exact fun q φ' H' v n' h' r' => let ⟨k, n2, h2, v2⟩ := L.out od φ' m' H' n' h'; ⟨k, q φ' _ v n2 h2 (v2 _ _ r')⟩⟩
end

/-! ### the keys, values, items of a locked dict -/
def lkN (n : Nat) : Nxt := fun i m => match m[n]? with
  | some (.lck _ kvs) => atN (kvs.map (·.1)) i
  | _ => .bad
def lvN (n : Nat) : Nxt := fun i m => match m[n]? with
  | some (.lck _ kvs) => atN (kvs.map (·.2)) i
  | _ => .bad
def liN (n : Nat) : Nxt := fun i m => match m[n]? with
  | some (.lck _ kvs) => atN (kvs.map fun x => .tup [x.1, x.2]) i
  | _ => .bad
def iLk (g : Nat → Nxt) (anyT : Bool) (f : FX) : FI := fun ρ m => (f ρ m).bind fun d m1 => match refD d with
  | some n => (match m1[n]? with
    | some (.lck t kvs) => (match anyT || !t with
      | true => .ok ⟨kvs.length, g n⟩ m1
      | false => .bad)
    | _ => .bad)
  | none => .bad
def iKeyD : FX → FI := iLk lkN true
def iKeyM : FX → FI := iLk lkN false
def iValD : FX → FI := iLk lvN false
def iItmD : FX → FI := iLk liN false
section
variable {K : PySem.W.Frag} {p : Pr} {φ φ' : List Addr} {m m' : Mem} {H H' : Hp}
theorem vr_key1 {d : D} {k : Key} (h : key1 d = some k) : VR K p φ H d (kV k) := by
  cases d with
  | int i => cases h; simp [VR, kV]
  | str s => cases h; simp [VR, kV]
  | _ => cases h
theorem vrs_keys1 : ∀ {ds : List D} {ks : List Key}, keys1 ds = some ks → VRs K p φ H ds (ks.map kV)
  | [], ks, h => by cases h; simp [VRs]
  | d :: ds, ks, h => by
    simp only [keys1] at h
    split at h
    · rename_i k ks' e1 e2
      cases h
      simp only [List.map_cons, VRs]
      exact ⟨_, _, rfl, vr_key1 e1, vrs_keys1 e2⟩
    · cases h
theorem vr_keyT {d : D} {ks : List Key} {q : Addr} (h : keyT d = some ks) (e : H q = some (.tup (ks.map kV))) : VR K p φ H d (.ref q) := by
  cases d with
  | tup xs => simp only [VR]; exact ⟨q, _, rfl, e, vrs_keys1 h⟩
  | _ => cases h
theorem KR.get : ∀ {kvs : List (D × D)} {vs : List (Key × V)} {i : Nat} {x : D × D}, KR K p φ H kvs vs → kvs[i]? = some x → ∃ k v, vs[i]? = some (k, v) ∧ key1 x.1 = some k ∧ VR K p φ H x.2 v
  | [], _, i, x, _, e => by simp at e
  | y :: ys, vs, 0, x, q, e => by
    obtain ⟨k, v, r, rfl, a, b, c⟩ := q
    simp at e; subst e
    exact ⟨k, v, by simp, a, b⟩
  | y :: ys, vs, i + 1, x, q, e => by
    obtain ⟨k, v, r, rfl, a, b, c⟩ := q
    obtain ⟨k', v', e1, e2, e3⟩ := KR.get (i := i) c (by simpa using e)
    exact ⟨k', v', by simpa using e1, e2, e3⟩
theorem TR.get : ∀ {kvs : List (D × D)} {vs : List (List Key × V)} {i : Nat} {x : D × D}, TR K p φ H kvs vs → kvs[i]? = some x → ∃ k v, vs[i]? = some (k, v) ∧ keyT x.1 = some k ∧ VR K p φ H x.2 v
  | [], _, i, x, _, e => by simp at e
  | y :: ys, vs, 0, x, q, e => by
    obtain ⟨k, v, r, rfl, a, b, c⟩ := q
    simp at e; subst e
    exact ⟨k, v, by simp, a, b⟩
  | y :: ys, vs, i + 1, x, q, e => by
    obtain ⟨k, v, r, rfl, a, b, c⟩ := q
    obtain ⟨k', v', e1, e2, e3⟩ := TR.get (i := i) c (by simpa using e)
    exact ⟨k', v', by simpa using e1, e2, e3⟩
theorem KR.length : ∀ {kvs : List (D × D)} {vs : List (Key × V)}, KR K p φ H kvs vs → kvs.length = vs.length
  | [], _, q => by obtain rfl := q; rfl
  | y :: ys, vs, q => by obtain ⟨k, v, r, rfl, a, b, c⟩ := q; simp [c.length]
theorem TR.length : ∀ {kvs : List (D × D)} {vs : List (List Key × V)}, TR K p φ H kvs vs → kvs.length = vs.length
  | [], _, q => by obtain rfl := q; rfl
  | y :: ys, vs, q => by obtain ⟨k, v, r, rfl, a, b, c⟩ := q; simp [c.length]
theorem atN_item {xs : List D} {i : Nat} {d : D} (h : atN xs i = .item d) : xs[i]? = some d := by
  unfold atN at h
  split at h
  · rename_i e; cases h; exact e
  · split at h <;> cases h
theorem atN_stop {xs : List D} {i : Nat} (h : atN xs i = .stop) : xs.length = i := by
  unfold atN at h
  split at h
  · cases h
  · split at h
    · rename_i e; exact Nat.eq_of_beq_eq_true e
    · cases h
/-- a locked dict stays -/
theorem lck_at {φ0 : List Addr} {H0 : Hp} {n : Nat} {a : Addr} {od : Obj} {u : HO} (n0 : Nx φ0 H0 φ H) (ea : φ0[n]? = some a) (e : H0 a = some (.frz od u)) : φ[n]? = some a ∧ H a = some (.frz od u) := by
  obtain ⟨new, en, _⟩ := n0.ext
  exact ⟨by rw [en, List.getElem?_append_left (List.getElem?_eq_some_iff.mp ea).1]; exact ea, n0.kp a _ e fun _ => rfl⟩
theorem jok_lkT {φ0 : List Addr} {H0 : Hp} {n : Nat} {a : Addr} {od : Obj} {kvs : List (List Key × V)} (ea : φ0[n]? = some a) (e : H0 a = some (.frz od (.dT kvs))) : JOk K p (Itkt a od kvs) φ0 H0 (lkN n) := by
  intro i φ m H hm n0
  obtain ⟨ea', e'⟩ := lck_at n0 ea e
  show JAt K p _ φ m H i (match m[n]? with | some (.lck _ kvs) => atN (kvs.map (·.1)) i | _ => .bad)
  split
  · rename_i t xs em
    have o := hm.obj n _ a em ea'
    rw [e'] at o
    cases t with
    | false => obtain ⟨od', vs, z, _⟩ := o; cases z
    | true =>
      obtain ⟨od', vs, z, r⟩ := o
      cases z
      cases hx : atN (xs.map (·.1)) i with
      | bad => exact trivial
      | stop => exact ⟨e', by rw [← r.length, ← atN_stop hx, List.length_map]; exact Nat.le_refl _⟩
      | item d =>
        have hx' := atN_item hx
        rw [List.getElem?_map] at hx'
        cases hy : xs[i]? with
        | none => rw [hy] at hx'; cases hx'
        | some y =>
          rw [hy] at hx'; cases hx'
          obtain ⟨k, v, e1, e2, e3⟩ := r.get hy
          refine ⟨⟨e', (List.getElem?_eq_some_iff.mp e1).1⟩, fun x H' w => ?_⟩
          obtain ⟨rfl, k', v', q, w1, rfl, w2⟩ := w
          rw [e1] at w1; cases w1
          exact ⟨Nx.refl, hm, vr_keyT e2 w2⟩
  · exact trivial
theorem jok_lkK {φ0 : List Addr} {H0 : Hp} {n : Nat} {a : Addr} {od : Obj} {kvs : List (Key × V)} (ea : φ0[n]? = some a) (e : H0 a = some (.frz od (.dK kvs))) : JOk K p (Itk a od kvs) φ0 H0 (lkN n) := by
  intro i φ m H hm n0
  obtain ⟨ea', e'⟩ := lck_at n0 ea e
  show JAt K p _ φ m H i (match m[n]? with | some (.lck _ kvs) => atN (kvs.map (·.1)) i | _ => .bad)
  split
  · rename_i t xs em
    have o := hm.obj n _ a em ea'
    rw [e'] at o
    cases t with
    | true => obtain ⟨od', vs, z, _⟩ := o; cases z
    | false =>
      obtain ⟨od', vs, z, r⟩ := o
      cases z
      cases hx : atN (xs.map (·.1)) i with
      | bad => exact trivial
      | stop => exact ⟨e', by rw [← r.length, ← atN_stop hx, List.length_map]; exact Nat.le_refl _⟩
      | item d =>
        have hx' := atN_item hx
        rw [List.getElem?_map] at hx'
        cases hy : xs[i]? with
        | none => rw [hy] at hx'; cases hx'
        | some y =>
          rw [hy] at hx'; cases hx'
          obtain ⟨k, v, e1, e2, e3⟩ := r.get hy
          refine ⟨⟨e', (List.getElem?_eq_some_iff.mp e1).1⟩, fun x H' w => ?_⟩
          obtain ⟨rfl, k', v', w1, rfl⟩ := w
          rw [e1] at w1; cases w1
          exact ⟨Nx.refl, hm, vr_key1 e2⟩
  · exact trivial
theorem jok_lv {φ0 : List Addr} {H0 : Hp} {n : Nat} {a : Addr} {od : Obj} {kvs : List (Key × V)} (ea : φ0[n]? = some a) (e : H0 a = some (.frz od (.dK kvs))) : JOk K p (Itd a od kvs) φ0 H0 (lvN n) := by
  intro i φ m H hm n0
  obtain ⟨ea', e'⟩ := lck_at n0 ea e
  show JAt K p _ φ m H i (match m[n]? with | some (.lck _ kvs) => atN (kvs.map (·.2)) i | _ => .bad)
  split
  · rename_i t xs em
    have o := hm.obj n _ a em ea'
    rw [e'] at o
    cases t with
    | true => obtain ⟨od', vs, z, _⟩ := o; cases z
    | false =>
      obtain ⟨od', vs, z, r⟩ := o
      cases z
      cases hx : atN (xs.map (·.2)) i with
      | bad => exact trivial
      | stop => exact ⟨e', by rw [← r.length, ← atN_stop hx, List.length_map]; exact Nat.le_refl _⟩
      | item d =>
        have hx' := atN_item hx
        rw [List.getElem?_map] at hx'
        cases hy : xs[i]? with
        | none => rw [hy] at hx'; cases hx'
        | some y =>
          rw [hy] at hx'; cases hx'
          obtain ⟨k, v, e1, e2, e3⟩ := r.get hy
          refine ⟨⟨e', (List.getElem?_eq_some_iff.mp e1).1⟩, fun x H' w => ?_⟩
          obtain ⟨rfl, k', w1⟩ := w
          rw [e1] at w1; cases w1
          exact ⟨Nx.refl, hm, e3⟩
  · exact trivial
theorem jok_li {φ0 : List Addr} {H0 : Hp} {n : Nat} {a : Addr} {od : Obj} {kvs : List (Key × V)} (ea : φ0[n]? = some a) (e : H0 a = some (.frz od (.dK kvs))) : JOk K p (Iti a od kvs) φ0 H0 (liN n) := by
  intro i φ m H hm n0
  obtain ⟨ea', e'⟩ := lck_at n0 ea e
  show JAt K p _ φ m H i (match m[n]? with | some (.lck _ kvs) => atN (kvs.map fun x => .tup [x.1, x.2]) i | _ => .bad)
  split
  · rename_i t xs em
    have o := hm.obj n _ a em ea'
    rw [e'] at o
    cases t with
    | true => obtain ⟨od', vs, z, _⟩ := o; cases z
    | false =>
      obtain ⟨od', vs, z, r⟩ := o
      cases z
      cases hx : atN (xs.map fun x => D.tup [x.1, x.2]) i with
      | bad => exact trivial
      | stop => exact ⟨e', by rw [← r.length, ← atN_stop hx, List.length_map]; exact Nat.le_refl _⟩
      | item d =>
        have hx' := atN_item hx
        rw [List.getElem?_map] at hx'
        cases hy : xs[i]? with
        | none => rw [hy] at hx'; cases hx'
        | some y =>
          rw [hy] at hx'; cases hx'
          obtain ⟨k, v, e1, e2, e3⟩ := r.get hy
          refine ⟨⟨e', (List.getElem?_eq_some_iff.mp e1).1⟩, fun x H' w => ?_⟩
          obtain ⟨T, k', v', w1, rfl, hT, rfl⟩ := w
          rw [e1] at w1; cases w1
          refine ⟨Nx.new hT, hm.new hT, ?_⟩
          simp only [VR, VRs]
          exact ⟨T, _, rfl, upd_same, _, _, rfl, vr_key1 e2, _, _, rfl, VR.mono hm (Nx.new hT) _ _ e3, rfl⟩
  · exact trivial
end
section
variable {p : Pr} {W : WX} {X : Cx} {e tg : Expr} {elts : List Expr} {f : FX} {apos cpos tpos : Pos} {kk : Nat}
theorem lk_step {g : Nat → Nxt} {anyT : Bool} {σ : St} {H : Hp} {R : It → Hp → Prop} (q : tI X.K p W (iLk g anyT f) σ H R) :
    tE X.K p W f σ H fun v H1 => ∃ φ1 n m1 a od, HR X.K p φ1 m1 H1 ∧ v = .ref a ∧ φ1[n]? = some a ∧ (∀ J, JOk X.K p J φ1 H1 (g n) → R J H1) ∧ ((∃ kvs, H1 a = some (.frz od (.dK kvs))) ∨ (anyT = true ∧ ∃ kvs, H1 a = some (.frz od (.dT kvs)))) := by
  obtain ⟨φ, ρ, m, hm, r, q⟩ := q
  refine thE ?_ (stepEI hm r q)
  rintro v H1 ⟨φ1, d, m1, ef, n1, h1, r1, v1, q1⟩
  cases er : refD d with
  | none => rw [er] at q1; exact False.elim q1
  | some n =>
    rw [er] at q1
    obtain rfl := refD_ok er
    simp only at q1
    split at q1
    · rename_i t kvs em
      split at q1
      · rename_i ht
        simp only [VR] at v1
        obtain ⟨a, ea, rfl⟩ := v1
        have o := h1.obj n _ a em ea
        cases t with
        | false =>
          obtain ⟨od, vs, z, _⟩ := o
          exact ⟨φ1, n, m1, a, od, h1, rfl, ea, fun J j => q1 φ1 H1 J Nx.refl h1 j, .inl ⟨vs, z⟩⟩
        | true =>
          obtain ⟨od, vs, z, _⟩ := o
          exact ⟨φ1, n, m1, a, od, h1, rfl, ea, fun J j => q1 φ1 H1 J Nx.refl h1 j, .inr ⟨by simpa using ht, vs, z⟩⟩
      · exact False.elim q1
    · exact False.elim q1
theorem fi_key (he : FE p W X e f) : FIt p W X tg e (iKeyD f) := ⟨pi_imp (pi_keys he.pe) fun σ H R q => by
  refine thE ?_ (lk_step q)
  rintro v H1 ⟨φ1, n, m1, a, od, h1, rfl, ea, k, ⟨kvs, z⟩ | ⟨_, kvs, z⟩⟩
  · exact ⟨a, od, rfl, .inl ⟨kvs, z, k _ (jok_lkK ea z)⟩⟩
  · exact ⟨a, od, rfl, .inr ⟨kvs, z, k _ (jok_lkT ea z)⟩⟩⟩
theorem fi_keyM (he : FE p W X e f) (hbase : attributeBase e "keys" X.env (eval e X.env) = eval e X.env := by rfl) (hline : (apos.endLine == cpos.line) = true := by rfl) : FIt p W X tg (.Call (.Attribute e "keys" apos) [] [] cpos) (iKeyM f) := ⟨pi_imp (pi_keysM he.pe hbase hline) fun σ H R q => by
  refine thE ?_ (lk_step q)
  rintro v H1 ⟨φ1, n, m1, a, od, h1, rfl, ea, k, ⟨kvs, z⟩ | ⟨y, _⟩⟩
  · exact ⟨a, od, kvs, rfl, z, k _ (jok_lkK ea z)⟩
  · cases y⟩
theorem fi_vals (he : FE p W X e f) (hbase : attributeBase e "values" X.env (eval e X.env) = eval e X.env := by rfl) (hline : (apos.endLine == cpos.line) = true := by rfl) : FIt p W X tg (.Call (.Attribute e "values" apos) [] [] cpos) (iValD f) := ⟨pi_imp (pi_values he.pe hbase hline) fun σ H R q => by
  refine thE ?_ (lk_step q)
  rintro v H1 ⟨φ1, n, m1, a, od, h1, rfl, ea, k, ⟨kvs, z⟩ | ⟨y, _⟩⟩
  · exact ⟨a, od, kvs, rfl, z, k _ (jok_lv ea z)⟩
  · cases y⟩
theorem fi_items (he : FE p W X e f) (hbase : attributeBase e "items" X.env (eval e X.env) = eval e X.env := by rfl) (hline : (apos.endLine == cpos.line) = true := by rfl) : FIt p W X (.Tuple elts kk tpos) (.Call (.Attribute e "items" apos) [] [] cpos) (iItmD f) := ⟨pi_imp (pi_items he.pe hbase hline) fun σ H R q => by
  refine thE ?_ (lk_step q)
  rintro v H1 ⟨φ1, n, m1, a, od, h1, rfl, ea, k, ⟨kvs, z⟩ | ⟨y, _⟩⟩
  · exact ⟨a, od, kvs, rfl, z, k _ (jok_li ea z)⟩
  · cases y⟩
/-- either reading -/
def sSel (c : DL.Env → Mem → Bool) (g g' : FS) : FS := fun ρ m => match c ρ m with
  | true => g ρ m
  | false => g' ρ m
def eSel (c : DL.Env → Mem → Bool) (g g' : FX) : FX := fun ρ m => match c ρ m with
  | true => g ρ m
  | false => g' ρ m
theorem fs_or {st : Stmt} {g g' : FS} (c : DL.Env → Mem → Bool) (h : FSt p W X st g) (h' : FSt p W X st g') : FSt p W X st (sSel c g g') := ⟨⟨fun pins s σ H D I q => by
  obtain ⟨φ, ρ, m, hm, r, q⟩ := q
  unfold sSel at q
  cases e : c ρ m with
  | true => rw [e] at q; exact h.ps.run pins s σ H D I ⟨φ, ρ, m, hm, r, q⟩
  | false => rw [e] at q; exact h'.ps.run pins s σ H D I ⟨φ, ρ, m, hm, r, q⟩⟩⟩
theorem fe_sel {st : Expr} {g g' : FX} (c : DL.Env → Mem → Bool) (h : FE p W X st g) (h' : FE p W X st g') : FE p W X st (eSel c g g') := ⟨⟨fun pins s σ H D I q => by
  obtain ⟨φ, ρ, m, hm, r, q⟩ := q
  unfold eSel at q
  cases e : c ρ m with
  | true => rw [e] at q; exact h.pe.run pins s σ H D I ⟨φ, ρ, m, hm, r, q⟩
  | false => rw [e] at q; exact h'.pe.run pins s σ H D I ⟨φ, ρ, m, hm, r, q⟩⟩⟩
end
/-- for x in e, whatever e is -/
def isDic (f : FX) (ρ : DL.Env) (m : Mem) : Bool := (dicAt f ρ m).isSome
def sForV (f : FX) (q : Pat) (b : FS) : FS := sSel (isDic f) (sLock f (sFor (iKeyD f) q b)) (sFor (iVal f) q b)
theorem fs_forV {p : Pr} {W : WX} {X : Cx} {tg it : Expr} {sts : List Stmt} {pos : Pos} {f : FX} {q : Pat} {b : FS} (hp : PassesOwn (model X.prog X.w) X.A X.env X.xe) (hc : X.calm = true) (hi : FE p W X it f) (hq : FP p X tg q) (hb : FSs p W X sts b) (hs : ∀ x, foldedSetIterable it X.env x = pure x := by intro _; rfl) :
    FSt p W X (.For tg it sts [] pos) (sForV f q b) :=
  fs_or (isDic f) (fs_lock f (fs_for hp hc (fi_key hi) hq hb hs)) (fs_for hp hc (fi_val hi) hq hb hs)
end DL

set_option Elab.async false
set_option linter.all false
set_option maxRecDepth 100000
set_option maxHeartbeats 4000000
namespace DL
open PySem PySem.Spec PyProof.Rows L2

/-! ### new lists, list comprehensions -/
abbrev FQ := DL.Env → Mem → Res (List D)
section
variable (K : PySem.W.Frag) (p : Pr)
/-- a new list, of no number yet -/
def postN (W : WX) (σ : St) (φ : List Addr) (H : Hp) (r : Res (List D)) (Q : VK) : Prop := match r with
  | .ok ds m' => ∀ φ' H' a vs, Nx φ H φ' H' → HR K p φ' m' H' → H a = none → a ∉ φ' → H' a = some (.lst vs) → VRs K p φ' H' ds vs → Q (.ref a) H'
  | .exc c d m' => ∀ φ' H' dx, Nx φ H φ' H' → HR K p φ' m' H' → XD K p φ' H' c d dx → W (.ref (p.cA c)) dx σ H'
  | .bad => False
def tN (W : WX) (f : FQ) : TE := fun σ H Q => ∃ φ ρ m, HR K p φ m H ∧ ER K p φ H ρ σ ∧ postN K p W σ φ H (f ρ m) Q
/-- a list's items -/
def postQ (W : WX) (σ : St) (φ : List Addr) (H : Hp) (r : Res (List D)) (Q : VK) : Prop := match r with
  | .ok ds m' => ∀ φ' H' a vs, Nx φ H φ' H' → HR K p φ' m' H' → SqL K H' a vs → VRs K p φ' H' ds vs → Q (.ref a) H'
  | .exc c d m' => ∀ φ' H' dx, Nx φ H φ' H' → HR K p φ' m' H' → XD K p φ' H' c d dx → W (.ref (p.cA c)) dx σ H'
  | .bad => False
def tQ (W : WX) (f : FQ) : TE := fun σ H Q => ∃ φ ρ m, HR K p φ m H ∧ ER K p φ H ρ σ ∧ postQ K p W σ φ H (f ρ m) Q
end
structure FN (p : Pr) (W : WX) (X : Cx) (e : Expr) (f : FQ) : Prop where
  pe : PE X e (tN X.K p W f)
structure FLi (p : Pr) (W : WX) (X : Cx) (e : Expr) (f : FQ) : Prop where
  pe : PE X e (tQ X.K p W f)
/-- with a number -/
def eNew (f : FQ) : FX := fun ρ m => (f ρ m).bind fun ds m1 => .ok (.ref m1.length) (m1 ++ [.lst ds])
def lstD : D → Mem → Option (List D)
  | .rol xs, _ => some xs
  | .ref n, m => match m[n]? with
    | some (.lst xs) => some xs
    | _ => none
  | _, _ => none
/-- of a value that is a list -/
def qVal (f : FX) : FQ := fun ρ m => (f ρ m).bind fun d m1 => match lstD d m1 with
  | some xs => .ok xs m1
  | none => .bad
def qLst (l : FL) : FQ := fun ρ m => (l ρ m).bind fun ds m1 => match fits ds.length with
  | true => .ok ds m1
  | false => .bad
section
variable {K : PySem.W.Frag} {p : Pr} {φ φ' : List Addr} {m m' : Mem} {H H' : Hp}
theorem HR.adopt {a : Addr} {ds : List D} {vs : List V} (h : HR K p φ m H) (na : a ∉ φ) (e : H a = some (.lst vs)) (r : VRs K p φ H ds vs) : HR K p (φ ++ [a]) (m ++ [.lst ds]) H := by
  have kk : ∀ b o, H b = some o → DL.okKind o = false → H b = some o := fun _ _ e _ => e
  refine ⟨by simp [h.len], List.nodup_append.mpr ⟨h.nd, by simp, fun x hx y hy => ?_⟩, fun n u' b e1 e2 => ?_⟩
  · simp at hy; subst hy; exact fun z => na (z ▸ hx)
  · by_cases hn : n < m.length
    · rw [List.getElem?_append_left hn] at e1
      rw [List.getElem?_append_left (h.len ▸ hn)] at e2
      exact (h.obj n u' b e1 e2).keep kk ⟨_, rfl⟩
    · rw [List.getElem?_append_right (by omega)] at e1
      rw [List.getElem?_append_right (by have := h.len; omega), h.len] at e2
      have z : n - m.length = 0 := by
        have := (List.getElem?_eq_some_iff.mp e1).1
        simp at this; omega
      rw [z] at e1 e2
      simp at e1 e2
      subst e1 e2
      exact ⟨vs, e, VRs.keep kk ⟨_, rfl⟩ _ _ r⟩
theorem Nx.adopt {a : Addr} (n : Nx φ H φ' H') (e : H a = none) : Nx φ H (φ' ++ [a]) H' := by
  obtain ⟨new, en, f⟩ := n.ext
  refine ⟨⟨new ++ [a], by rw [en, List.append_assoc], fun b hb => ?_⟩, n.kp, n.there⟩
  rcases List.mem_append.mp hb with h | h
  · exact f b h
  · simp at h; subst h; exact e
/-- an untracked list is written -/
theorem side_kk {a : Addr} {o : HO} {vs : List V} (e : H a = some (.lst vs)) : ∀ b u, H b = some u → DL.okKind u = false → (upd H a o) b = some u := fun b u eb ho => by
  have z : b ≠ a := fun z => by subst z; rw [e] at eb; cases eb; cases ho
  rw [upd_ne z]; exact eb
theorem HR.side {a : Addr} {o : HO} {vs : List V} (h : HR K p φ m H) (na : a ∉ φ) (e : H a = some (.lst vs)) : HR K p φ m (upd H a o) := ⟨h.len, h.nd, fun n u b e1 e2 => by
  have z : b ≠ a := fun z => na (z ▸ List.mem_of_getElem? e2)
  rw [upd_ne z]
  exact (h.obj n u b e1 e2).keep (side_kk e) ⟨[], by simp⟩⟩
theorem Nx.side {a : Addr} {o : HO} (n : Nx φ H φ' H') (e : H a = none) : Nx φ H φ' (upd H' a o) := ⟨n.ext, fun b u eb hb => by
  have z : b ≠ a := fun z => by subst z; rw [e] at eb; cases eb
  rw [upd_ne z]; exact n.kp b u eb hb, fun b eb => by
  by_cases z : b = a
  · subst z; exact e
  · rw [upd_ne z] at eb; exact n.there b eb⟩
end
section
variable {p : Pr} {W : WX} {X : Cx} {e : Expr} {es : List Expr} {f : FX} {g : FQ} {l : FL} {pos : Pos}
theorem fe_new (h : FN p W X e g) : FE p W X e (eNew g) := ⟨pe_imp h.pe fun σ H Q q => by
  obtain ⟨φ, ρ, m, hm, r, q⟩ := q
  refine ⟨φ, ρ, m, hm, r, ?_⟩
  unfold eNew at q
  cases eg : g ρ m with
  | bad => rw [eg] at q; exact q
  | exc c d m' => rw [eg] at q; exact q
  | ok ds m' =>
    rw [eg] at q
    intro φ' H' a vs n' h' na na' e' v'
    exact q (φ' ++ [a]) H' (.ref a) (n'.adopt na) (h'.adopt na' e' v') (VR.last h'.len)⟩
theorem fl_new (h : FN p W X e g) : FLi p W X e g := ⟨pe_imp h.pe fun σ H Q q => by
  obtain ⟨φ, ρ, m, hm, r, q⟩ := q
  refine ⟨φ, ρ, m, hm, r, ?_⟩
  cases eg : g ρ m with
  | bad => rw [eg] at q; exact q
  | exc c d m' => rw [eg] at q; exact q
  | ok ds m' =>
    rw [eg] at q
    exact fun φ' H' a vs n' h' na na' e' v' => q φ' H' a vs n' h' (SqL.of e') v'⟩
theorem fl_val (h : FE p W X e f) : FLi p W X e (qVal f) := ⟨pe_imp h.pe fun σ H Q q => by
  obtain ⟨φ, ρ, m, hm, r, q⟩ := q
  refine ⟨φ, ρ, m, hm, r, ?_⟩
  unfold qVal at q
  cases eg : f ρ m with
  | bad => rw [eg] at q; exact q
  | exc c d m' => rw [eg] at q; exact q
  | ok d m' =>
    rw [eg] at q
    simp only [Res.bind_ok] at q
    intro φ' H' v n' h' v'
    cases el : lstD d m' with
    | none => rw [el] at q; exact False.elim q
    | some xs =>
      rw [el] at q
      cases d with
      | rol ys =>
        cases el
        simp only [VR] at v'
        obtain ⟨a, vs, rfl, s, r1⟩ := v'
        refine q φ' H' a vs n' h' ?_ r1
        rcases s with ⟨o, s⟩ | s
        · exact .inl (.inr ⟨o, s⟩)
        · exact s H'
      | ref n =>
        simp only [VR] at v'
        obtain ⟨a, ea, rfl⟩ := v'
        simp only [lstD] at el
        split at el
        · rename_i ys em
          cases el
          obtain ⟨vs, e1, r1⟩ := h'.obj n _ a em ea
          exact q φ' H' a vs n' h' (SqL.of e1) r1
        · cases el
      | _ => cases el⟩
theorem fn_lst (hl : FA p W X es l) : FN p W X (.List es pos) (qLst l) := ⟨pe_imp (pe_lst hl.pa) fun σ H Q q => by
  obtain ⟨φ, ρ, m, hm, r, q⟩ := q
  refine ⟨φ, ρ, m, hm, r, ?_⟩
  unfold qLst at q
  cases eg : l ρ m with
  | bad => rw [eg] at q; exact q
  | exc c d m' => rw [eg] at q; exact q
  | ok ds m' =>
    rw [eg] at q
    simp only [Res.bind_ok] at q
    intro φ' H' vs n' h' v'
    cases ef : fits ds.length with
    | false => rw [ef] at q; exact False.elim q
    | true =>
      rw [ef] at q
      refine ⟨(by rw [← v'.length]; exact fits_iff.mp ef), fun a na => ?_⟩
      exact q φ' _ a vs (n'.trans (Nx.new na)) (h'.new na) (n'.there a na) (fun z => h'.tracked z na) upd_same (VRs.mono h' (Nx.new na) _ _ v')⟩
end

/-! ### the comprehension -/
def wipeD (ρ : DL.Env) : List Nat → DL.Env
  | [] => ρ
  | v :: vs => (wipeD ρ vs).set v none
theorem ER.wipe {K : PySem.W.Frag} {p : Pr} {φ : List Addr} {H : Hp} {ρ : DL.Env} {σ : St} (r : ER K p φ H ρ σ) : ∀ vs : List Nat, ER K p φ H (wipeD ρ vs) (L2.wipe σ vs)
  | [] => r
  | v :: vs => ER.unset v none (ER.wipe r vs)
theorem wipe_get {σ : St} {j : Nat} : ∀ {vs : List Nat}, (L2.wipe σ vs)[j]? = if j ∈ vs then (σ[j]?).map (fun _ => none) else σ[j]?
  | [] => by simp [L2.wipe]
  | v :: vs => by
    show ((L2.wipe σ vs).set v none)[j]? = _
    by_cases h : v = j
    · subst h
      rw [List.getElem?_set_self']
      rw [wipe_get (vs := vs)]
      by_cases h2 : v ∈ vs
      · simp only [h2, if_true, List.mem_cons, true_or]
        cases σ[v]? <;> rfl
      · simp only [h2, if_false, List.mem_cons, true_or, if_true]
        rfl
    · rw [List.getElem?_set_ne h, wipe_get (vs := vs)]
      have : (j ∈ v :: vs) ↔ j ∈ vs := by simp [Ne.symm h]
      simp only [this]
def okIx (vs : List Nat) : List (Nat × D) → Bool
  | [] => true
  | b :: bs => (vs.any fun v => Nat.beq v b.1) && okIx vs bs
theorem wipe_set {σ : St} {vs : List Nat} {i : Nat} {x : Option V} (h : i ∈ vs) : L2.wipe (σ.set i x) vs = L2.wipe σ vs := by
  apply List.ext_getElem?
  intro j
  rw [wipe_get, wipe_get]
  by_cases hj : j ∈ vs
  · rw [if_pos hj, if_pos hj]
    by_cases z : i = j
    · subst z
      rw [List.getElem?_set_self']
      cases σ[i]? <;> rfl
    · rw [List.getElem?_set_ne z]
  · rw [if_neg hj, if_neg hj, List.getElem?_set_ne (fun z : i = j => hj (z ▸ h))]
theorem wipe_idem {σ : St} {vs : List Nat} : L2.wipe (L2.wipe σ vs) vs = L2.wipe σ vs := by
  apply List.ext_getElem?
  intro j
  rw [wipe_get, wipe_get]
  by_cases hj : j ∈ vs
  · rw [if_pos hj, if_pos hj]
    cases σ[j]? <;> rfl
  · rw [if_neg hj, if_neg hj]
theorem wipe_sets {K : PySem.W.Frag} {p : Pr} {φ : List Addr} {H : Hp} {vs : List Nat} : ∀ {bs : List (Nat × D)} {zs : List (Nat × V)} {σ : St}, BR K p φ H bs zs → okIx vs bs = true → L2.wipe (setsV σ zs) vs = L2.wipe σ vs
  | [], _, σ, q, _ => by obtain rfl := q; rfl
  | b :: bs, _, σ, q, h => by
    obtain ⟨v, t, rfl, a, c⟩ := q
    simp only [okIx, Bool.and_eq_true, List.any_eq_true] at h
    obtain ⟨⟨w, hw, e⟩, h2⟩ := h
    have := Nat.eq_of_beq_eq_true e
    subst this
    show L2.wipe (setsV (σ.set b.1 (some v)) t) vs = _
    rw [wipe_sets c h2, wipe_set hw]
abbrev WN : WX := fun _ _ _ _ => False
def bYes : FB := fun _ m => .ok true m
def lcGo (s : Nxt) (q : Pat) (vs : List Nat) (t : FB) (f : FX) (ρ : DL.Env) : Nat → Nat → List D → Mem → Res (List D)
  | 0, _, _, _ => .bad
  | k + 1, i, acc, m => match s i m with
    | .bad => .bad
    | .stop => .ok acc m
    | .item d => match q m d with
      | none => .bad
      | some bs => match okIx vs bs with
        | false => .bad
        | true => match t (setsD (wipeD ρ vs) bs) m with
          | .ok true m1 => (match f (setsD (wipeD ρ vs) bs) m1 with
            | .ok y m2 => (match fits (acc.length + 1) with
              | true => lcGo s q vs t f ρ k (i + 1) (acc ++ [y]) m2
              | false => .bad)
            | _ => .bad)
          | .ok false m1 => lcGo s q vs t f ρ k (i + 1) acc m1
          | _ => .bad
def lcD (it : FI) (q : Pat) (vs : List Nat) (t : FB) (f : FX) : FQ := fun ρ m => (it ρ m).bind fun s m1 => lcGo s.nx q vs t f ρ (s.n + 1) 0 [] m1
structure FTs (p : Pr) (X : Cx) (ifs : List Expr) (t : FB) : Prop where
  pts : PTs X ifs (tT X.K p WN t)
theorem fts_nil {p : Pr} {X : Cx} : FTs p X [] bYes := ⟨⟨fun pins s σ H Q I q => by
  obtain ⟨φ, ρ, m, hm, r, q⟩ := q
  exact pts_nil.run pins s σ H Q I (q φ H Nx.refl hm)⟩⟩
theorem fts_one {p : Pr} {X : Cx} {c : Expr} {t : FB} (h : FT p WN X c t) : FTs p X [c] t := ⟨pts_one h.pt⟩
theorem lc_in {K : PySem.W.Frag} {p : Pr} {W : WX} {it : FI} {q : Pat} {vs : List Nat} {t : FB} {f : FX} {σ : St} {H : Hp} {Q : VK} (z : tN K p W (lcD it q vs t f) σ H Q) : tLc (tI K p W it) (tP K p q) (tT K p WN t) (tE K p WN f) vs σ H Q := by
  obtain ⟨φ, ρ, m, hm, r, z⟩ := z
  refine ⟨φ, ρ, m, hm, r, ?_⟩
  unfold lcD at z
  cases ef : it ρ m with
  | bad => rw [ef] at z; exact False.elim z
  | exc c d m' => rw [ef] at z; exact z
  | ok s m0 =>
    rw [ef] at z
    simp only [Res.bind_ok] at z
    intro φ0 H0 J n0 h0 hJ A hA
    refine ⟨fun i k H' => ∃ φ' m' ds us, HR K p φ' m' H' ∧ Nx φ0 H0 φ' H' ∧ H' A = some (.lst us) ∧ A ∉ φ' ∧ VRs K p φ' H' ds us ∧ ER K p φ' H' ρ σ ∧ postN K p W σ φ H (lcGo s.nx q vs t f ρ k i ds m') Q,
      ⟨s.n + 1, φ0, m0, [], [], h0.new hA, Nx.new hA, upd_same, fun z => h0.tracked z hA, by simp [VRs], (r.mono hm n0).mono h0 (Nx.new hA), z⟩, ?_⟩
    rintro i k H1 ⟨φ1, m1, ds, us, h1, n1, eA, nA, v1, r1, q1⟩
    cases k with
    | zero => exact False.elim q1
    | succ k =>
      have jj := hJ i φ1 m1 H1 h1 n1
      unfold lcGo at q1
      cases es : s.nx i m1 with
      | bad => rw [es] at q1; exact False.elim q1
      | stop =>
        rw [es] at q1 jj
        exact .inl ⟨jj, q1 φ1 H1 A us (n0.trans n1) h1 (n0.there A hA) nA eA v1⟩
      | item d =>
        rw [es] at q1 jj
        simp only at q1
        obtain ⟨jg, jy⟩ := jj
        cases eq : q m1 d with
        | none => rw [eq] at q1; exact False.elim q1
        | some bs =>
          rw [eq] at q1
          simp only at q1
          cases eo : okIx vs bs with
          | false => rw [eo] at q1; exact False.elim q1
          | true =>
            rw [eo] at q1
            simp only at q1
            refine .inr ⟨jg, fun H' => ∃ φ' m' ds us, HR K p φ' m' H' ∧ Nx φ0 H0 φ' H' ∧ H' A = some (.lst us) ∧ A ∉ φ' ∧ VRs K p φ' H' ds us ∧ ER K p φ' H' ρ σ ∧ postN K p W σ φ H (lcGo s.nx q vs t f ρ k (i + 1) ds m') Q, fun H' z => ⟨k, Nat.lt_succ_self k, z⟩, fun x H2 y => ?_⟩
            obtain ⟨n2, h2, r2⟩ := jy x H2 y
            have stay : ∀ {φ3 H3}, Nx φ1 H1 φ3 H3 → H3 A = some (.lst us) ∧ A ∉ φ3 := fun {φ3 H3} n3 => by
              refine ⟨n3.keep A _ eA nA, fun hz => ?_⟩
              obtain ⟨new, en, fn⟩ := n3.ext
              rw [en] at hz
              rcases List.mem_append.mp hz with hz | hz
              · exact nA hz
              · rw [fn A hz] at eA; cases eA
            refine ⟨φ1, m1, d, bs, h2, r2, eq, fun zs hzs => ⟨by rw [wipe_sets hzs eo, wipe_idem], φ1, setsD (wipeD ρ vs) bs, m1, h2, ER.sets hzs ((r1.mono h1 n2).wipe vs), ?_⟩⟩
            cases et : t (setsD (wipeD ρ vs) bs) m1 with
            | bad => rw [et] at q1; exact False.elim q1
            | exc c d m' => rw [et] at q1; exact False.elim q1
            | ok b m3 =>
              rw [et] at q1
              intro φ3 H3 n3 h3
              have n13 := n2.trans n3
              obtain ⟨eA3, nA3⟩ := stay n13
              cases b with
              | false =>
                rw [if_neg (by simp)]
                exact ⟨φ3, m3, ds, us, h3, n1.trans n13, eA3, nA3, VRs.mono h1 n13 _ _ v1, r1.mono h1 n13, q1⟩
              | true =>
                rw [if_pos rfl]
                simp only at q1
                refine ⟨φ3, setsD (wipeD ρ vs) bs, m3, h3, (ER.sets hzs ((r1.mono h1 n2).wipe vs)).mono h2 n3, ?_⟩
                cases ee : f (setsD (wipeD ρ vs) bs) m3 with
                | bad => rw [ee] at q1; exact False.elim q1
                | exc c d m' => rw [ee] at q1; exact False.elim q1
                | ok yd m4 =>
                  rw [ee] at q1
                  simp only at q1
                  cases efi : fits (ds.length + 1) with
                  | false => rw [efi] at q1; exact False.elim q1
                  | true =>
                    rw [efi] at q1
                    intro φ4 H4 y4 n4 h4 v4
                    have n14 := n13.trans n4
                    obtain ⟨eA4, nA4⟩ := stay n14
                    have hl := fits_iff.mp efi
                    rw [v1.length] at hl
                    refine ⟨us, eA4, Nat.lt_of_succ_le hl, φ4, m4, ds ++ [yd], us ++ [y4], h4.side nA4 eA4, (n1.trans n14).side hA, upd_same, nA4, ?_, ?_, q1⟩
                    · have kk := VRs.keep (K := K) (p := p) (φ := φ4) (φ' := φ4) (side_kk (o := .lst (us ++ [y4])) eA4) ⟨[], by simp⟩
                      refine VRs.append (kk _ _ (VRs.mono h1 n14 _ _ v1)) ?_
                      simp only [VRs]
                      exact ⟨y4, [], rfl, VR.keep (side_kk eA4) ⟨[], by simp⟩ _ _ v4, rfl⟩
                    · exact (r1.mono h1 n14).keep fun d v => VR.keep (φ := φ4) (φ' := φ4) (side_kk eA4) ⟨[], by simp⟩ d v
theorem fn_lc {p : Pr} {W : WX} {X : Cx} {elt tg iter : Expr} {ifs : List Expr} {scope : Scope} {own : List (Str × Nat)} {pos : Pos} {it : FI} {q : Pat} {t : FB} {f : FX} (hc : X.calm = true) (hN : X.N.Nodup) (hi : FIt p W X tg iter it) (ok : BlkOk X.N X.env.scope scope own)
    (hg : ∀ (s : Shared) (H : Hp) (C : Addr) (cl : List (Str × Addr)) (fp : List Addr), FP p (X.blk s H scope (compEnvC scope cl C X.env) fp) tg q)
    (ht : ∀ (s : Shared) (H : Hp) (C : Addr) (cl : List (Str × Addr)) (fp : List Addr), FTs p (X.blk s H scope (compEnvC scope cl C X.env) fp) ifs t)
    (he : ∀ (s : Shared) (H : Hp) (C : Addr) (cl : List (Str × Addr)) (fp : List Addr), FE p WN (X.blk s H scope (compEnvC scope cl C X.env) fp) elt f) (hs : ∀ x, foldedSetIterable iter X.env x = pure x := by intro _; rfl) :
    FN p W X (.ListComp elt [⟨tg, iter, ifs, 0⟩] scope pos) (lcD it q (own.map (·.2)) t f) := ⟨pe_imp (pe_lc (g := tP X.K p q) (tt := tT X.K p WN t) (te := tE X.K p WN f) hc hN hi.pi ok (fun s H C cl fp => (hg s H C cl fp).pg) (fun s H C cl fp => (ht s H C cl fp).pts) (fun s H C cl fp => (he s H C cl fp).pe) hs) fun _ _ _ z => lc_in z⟩
end DL

set_option Elab.async false
set_option linter.all false
set_option maxRecDepth 100000
set_option maxHeartbeats 4000000
namespace DL
open PySem PySem.Spec PyProof.Rows L2

section
open PySem.SeqAt
open PySem.AutoSeq1 (wpAny_loadPart')
open PySem.MeetsSeq PySem.MeetsSeq2 PySem.MeetsSeq3
theorem tuple_mul1W (l : Addr) (items : Array Value) (n : Nat) (dd : Option Addr) (sl : Array (Option Value)) (u : Tok) :
    Meets (Builtin.«tuple.__mul__» ⟨[.ref l, .int 1 u], []⟩) (fun _ R s => s.heap.get? l = some { cls := .type "tuple", dict := dd, data := .seq items n, slots := sl } ∧
      R (.ok (.ret (Value.ref l))) s) :=
  .of_wp fun prog w A R s h => by
    obtain ⟨hp, g, d, tk, os⟩ := s
    obtain ⟨hl, h⟩ := h
    have f1 := AutoSeq1.idx_int
    have c0 : (decide ((1 : Int) < -(2 ^ 63)) || decide ((1 : Int) ≥ 2 ^ 63)) = false := by decide
    have c1 : (items.isEmpty || (1 : Int) == 1) = true := by simp
    wp_walk using wpAny_loadPart' hl
    repeat (first
      | (refine wpAny_ite_false (decide_eq_false (by rw [c0]; exact Bool.false_ne_true)) ?_; wp_walk using wpAny_loadPart' hl)
      | (refine wpAny_ite_true (decide_eq_true c1) ?_; wp_walk using wpAny_loadPart' hl))
    exact ⟨_, rfl, h⟩
end
section
variable {X : Cx}
def rRep1 (K : PySem.W.Frag) : R2 := fun x y H Q => ∃ l xs, x = .ref l ∧ y = .int 1 ∧ SqT K H l xs ∧ Q (.ref l) H
theorem op_rep1 : OpR X (binaryOp .Mult) (rRep1 X.K) := by
  intro pins s σ H x y v u Q I rx ry h
  obtain ⟨l, xs, rfl, rfl, hT, q⟩ := h
  cases rx
  obtain ⟨t, rfl⟩ := ry
  obtain ⟨its, r, ⟨⟨cls, dd, data, sl⟩, ho, hc, n, hd⟩, hs⟩ := I.tuple hT
  simp only at hc hd
  subst hc hd
  refine wpAny_binaryOp_repeat_ref (T := "tuple") (U := "int") (by decide) ⟨_, ho, rfl⟩ (fun s' => typeIs_int s' 1 t) noFill_tuple_mul F.fills_int_mul F.slot_int_rmul repeat_tuple F.slot_int_index.lookup
    (call_meets F.slot_int_rmul (typeIs_int s 1 t) F.entry_int_rmul (F.args_int_rmul_2 _ _) (int_rmul_tuple 1 t l its.toArray n dd sl)
      ⟨ho, rfl, ⟨_, ho, rfl⟩, call_meets F.slot_tuple_mul ⟨_, ho, rfl⟩ F.entry_tuple_mul (F.args_tuple_mul_2 _ _) (tuple_mul1W l its.toArray n dd sl t) ⟨ho, ?_⟩⟩)
  exact ⟨.ref l, H, I, rfl, q⟩
end
/-! ### operators -/
def ob2i (b : Bool) : Int := match b with
  | true => 1
  | false => 0
theorem ob2i_eq (b : Bool) : ob2i b = b2i b := by cases b <;> rfl
def strD : D → Option (List Nat)
  | .str s => some s
  | _ => none
/-- a list of the memory -/
def mlst (d : D) (m : Mem) : Option (List D) := match d with
  | .ref n => (match m[n]? with
    | some (.lst xs) => some xs
    | _ => none)
  | _ => none
def newL (xs : List D) (m : Mem) : OAns := some (.ref m.length, m ++ [.lst xs])
def catT (xs : List D) (e : D) (ys : List D) : D := match xs with
  | [] => e
  | x :: r => .tup ((x :: r) ++ ys)
def oAdd (d e : D) (m : Mem) : OAns := match d with
  | .int i => (match e with
    | .int j => some (.int (i + j), m)
    | .bl b => some (.int (i + ob2i b), m)
    | _ => none)
  | .str s => (match strD e with
    | some t => (match fits (s.length + t.length) with
      | true => some (.str (s ++ t), m)
      | false => none)
    | none => none)
  | .tup xs => (match tupD e with
    | some ys => (match fits (xs.length + ys.length) with
      | true => some (catT xs e ys, m)
      | false => none)
    | none => none)
  | .ref n => (match mlst (.ref n) m, mlst e m with
    | some xs, some ys => (match fits (xs.length + ys.length) with
      | true => newL (xs ++ ys) m
      | false => none)
    | _, _ => none)
  | _ => none
def oSub (d e : D) (m : Mem) : OAns := match d with
  | .int i => (match intD e with
    | some j => some (.int (i - j), m)
    | none => none)
  | .bl a => (match e with
    | .bl b => some (.int (ob2i a - ob2i b), m)
    | _ => none)
  | _ => none
def mulOk (i j : Int) : Bool := Nat.blt (i.natAbs.log2 + j.natAbs.log2) 1000000
def oMul (d e : D) (m : Mem) : OAns := match intD e with
  | none => none
  | some j => match d with
    | .int i => (match mulOk i j with
      | true => some (.int (i * j), m)
      | false => none)
    | .tup xs => (match xs with
      | [] => none
      | x :: r => (match decide (1 ≤ j) && (decide (j ≤ 1000) && Nat.ble (x :: r).length 1000) with
        | true => some (.tup (List.replicate j.toNat (x :: r)).flatten, m)
        | false => none))
    | .ref n => (match mlst (.ref n) m with
      | some xs => (match rgOk j && fits (xs.length * j.toNat) with
        | true => newL (List.replicate j.toNat xs).flatten m
        | false => none)
      | none => none)
    | _ => none
def divOk (j : Int) : Bool := decide (0 < j) && Nat.blt j.natAbs.log2 9000
def oFdiv (d e : D) (m : Mem) : OAns := match intD d, intD e with
  | some i, some j => (match divOk j with
    | true => some (.int (i / j), m)
    | false => none)
  | _, _ => none
def oMod (d e : D) (m : Mem) : OAns := match intD d, intD e with
  | some i, some j => (match decide (0 < j) with
    | true => some (.int (i % j), m)
    | false => none)
  | _, _ => none
def powOk (i j : Int) : Bool := decide (0 ≤ j) && (decide (j ≤ 1000000) && decide (i.natAbs < 2 ^ 64))
def oPow (d e : D) (m : Mem) : OAns := match intD d, intD e with
  | some i, some j => (match powOk i j with
    | true => some (.int (i ^ j.toNat), m)
    | false => none)
  | _, _ => none
def oNeg (d : D) (m : Mem) : OAns := match intD d with
  | some i => some (.int (-i), m)
  | none => none
theorem intD_ok {d : D} {i : Int} (h : intD d = some i) : d = .int i := by
  cases d with
  | int k => cases h; rfl
  | _ => cases h
theorem strD_ok {d : D} {i : List Nat} (h : strD d = some i) : d = .str i := by
  cases d with
  | str k => cases h; rfl
  | _ => cases h
theorem mlst_ok {d : D} {m : Mem} {xs : List D} (h : mlst d m = some xs) : ∃ n, d = .ref n ∧ m[n]? = some (.lst xs) := by
  cases d with
  | ref k =>
    refine ⟨k, rfl, ?_⟩
    simp only [mlst] at h
    split at h
    · rename_i e; cases h; exact e
    · cases h
  | _ => cases h
section
variable {p : Pr} {X : Cx} {K : PySem.W.Frag} {φ : List Addr} {m : Mem} {H : Hp}
theorem mlst_at {d : D} {v : V} {xs : List D} (hm : HR K p φ m H) (r : VR K p φ H d v) (e : mlst d m = some xs) : ∃ a vs, v = .ref a ∧ H a = some (.lst vs) ∧ VRs K p φ H xs vs := by
  obtain ⟨n, rfl, em⟩ := mlst_ok e
  simp only [VR] at r
  obtain ⟨a, ea, rfl⟩ := r
  obtain ⟨vs, e1, r1⟩ := hm.obj n _ a em ea
  exact ⟨a, vs, rfl, e1, r1⟩
/-- a new list of these -/
theorem newL_ok {xs : List D} {vs : List V} {Q : VK} (hm : HR K p φ m H) (r : VRs K p φ H xs vs) (q : postO K p φ H (newL xs m) Q) : ∀ a, H a = none → Q (.ref a) (upd H a (.lst vs)) := fun a na =>
  q (φ ++ [a]) _ _ (Nx.alloc na) (hm.allocL na r) (VR.last hm.len)
/-- a new tuple of these -/
theorem newT_ok {xs : List D} {vs : List V} {Q : VK} (hm : HR K p φ m H) (r : VRs K p φ H xs vs) (q : postO K p φ H (some (.tup xs, m)) Q) : ∀ a, H a = none → Q (.ref a) (upd H a (.tup vs)) := fun a na =>
  q φ _ _ (Nx.new na) (hm.new na) (by simp only [VR]; exact ⟨a, vs, rfl, upd_same, VRs.mono hm (Nx.new na) _ _ r⟩)
theorem VRs.rep {xs : List D} {vs : List V} (r : VRs K p φ H xs vs) : ∀ k : Nat, VRs K p φ H (List.replicate k xs).flatten (List.replicate k vs).flatten
  | 0 => by simp [VRs]
  | k + 1 => by rw [List.replicate_succ, List.replicate_succ, List.flatten_cons, List.flatten_cons]; exact r.append (VRs.rep r k)
theorem str_app (s t : List Nat) : (⟨s.toArray⟩ : Str) ++ ⟨t.toArray⟩ = ⟨(s ++ t).toArray⟩ := by
  show Str.append _ _ = _
  simp [Str.append]
theorem fo_add : FOp p X (binaryOp .Add) oAdd := fun pins s σ H x y v u Q I rx ry q => by
  obtain ⟨φ, m, d, e, hm, r1, r2, q⟩ := q
  cases d with
  | int i =>
    simp only [VR] at r1; subst r1
    cases e with
    | int j =>
      simp only [VR] at r2; subst r2
      exact op_add pins s σ H _ _ v u Q I rx ry ⟨i, j, rfl, rfl, q φ H _ Nx.refl hm (by simp [VR])⟩
    | bl j =>
      simp only [VR] at r2; subst r2
      exact op_add_ib pins s σ H _ _ v u Q I rx ry ⟨i, j, rfl, rfl, q φ H _ Nx.refl hm (by simp [VR, ob2i_eq])⟩
    | _ => exact False.elim q
  | str a =>
    simp only [VR] at r1; subst r1
    simp only [oAdd] at q
    cases eb : strD e with
    | none => rw [eb] at q; exact False.elim q
    | some b =>
      rw [eb] at q
      obtain rfl := strD_ok eb
      simp only [VR] at r2; subst r2
      simp only at q
      cases ef : fits (a.length + b.length) with
      | false => rw [ef] at q; exact False.elim q
      | true =>
        rw [ef] at q
        refine op_add_str pins s σ H _ _ v u Q I rx ry ⟨_, _, rfl, rfl, by simpa [Str.length] using fits_iff.mp ef, ?_⟩
        rw [str_app]
        exact q φ H _ Nx.refl hm (by simp [VR])
  | tup xs =>
    simp only [oAdd] at q
    cases eb : tupD e with
    | none => rw [eb] at q; exact False.elim q
    | some ys =>
      rw [eb] at q
      simp only at q
      cases ef : fits (xs.length + ys.length) with
      | false => rw [ef] at q; exact False.elim q
      | true =>
        rw [ef] at q
        have r1' := r1
        have r2' := r2
        obtain ⟨a, vs, rfl, s1, r1⟩ := tup_at r1 rfl
        obtain ⟨b, ws, rfl, s2, r2⟩ := tup_at r2 eb
        have hl := fits_iff.mp ef
        rw [r1.length, r2.length] at hl
        refine op_catA pins s σ H _ _ v u Q I rx ry ⟨a, b, vs, ws, rfl, rfl, s1, s2, hl, fun z => ?_, fun nz z => ?_, fun nz _ => ?_⟩
        · subst z
          have : xs = [] := by have := r1.length; simpa using this
          subst this
          exact q φ H _ Nx.refl hm r2'
        · subst z
          have : ys = [] := by have := r2.length; simpa using this
          subst this
          cases xs with
          | nil => have := r1.length; exact absurd (List.length_eq_zero_iff.mp this.symm) nz
          | cons x xs =>
            have q' : postO X.K p φ H (some (.tup ((x :: xs) ++ []), m)) Q := q
            rw [List.append_nil] at q'
            exact q' φ H _ Nx.refl hm r1'
        · cases xs with
          | nil => have := r1.length; exact absurd (List.length_eq_zero_iff.mp this.symm) nz
          | cons x xs => exact newT_ok hm (r1.append r2) q
  | ref n =>
    simp only [oAdd] at q
    split at q
    · rename_i xs ys e1 e2
      cases ef : fits (xs.length + ys.length) with
      | false => rw [ef] at q; exact False.elim q
      | true =>
        rw [ef] at q
        obtain ⟨a, vs, rfl, h1, r1⟩ := mlst_at hm r1 e1
        obtain ⟨b, ws, rfl, h2, r2⟩ := mlst_at hm r2 e2
        have hl := fits_iff.mp ef
        rw [r1.length, r2.length] at hl
        exact op_cat pins s σ H _ _ v u Q I rx ry ⟨a, b, vs, ws, rfl, rfl, h1, h2, hl, newL_ok hm (r1.append r2) q⟩
    · exact False.elim q
  | _ => exact False.elim q
theorem op_sub_bb : OpR X (binaryOp .Sub) (fun x y H Q => ∃ a b, x = .bl a ∧ y = .bl b ∧ Q (.int (b2i a - b2i b)) H) := fun pins s σ H x y v u Q I rx ry q => by
  obtain ⟨a, b, rfl, rfl, q⟩ := q
  obtain rfl : v = .bool a := rx
  obtain rfl : u = .bool b := ry
  exact sub_bool ⟨.int (b2i a - b2i b), H, I.tok _, ⟨_, rfl⟩, q⟩
theorem fo_sub : FOp p X (binaryOp .Sub) oSub := fun pins s σ H x y v u Q I rx ry q => by
  obtain ⟨φ, m, d, e, hm, r1, r2, q⟩ := q
  cases d with
  | int i =>
    simp only [VR] at r1; subst r1
    simp only [oSub] at q
    cases eb : intD e with
    | none => rw [eb] at q; exact False.elim q
    | some j =>
      rw [eb] at q
      obtain rfl := intD_ok eb
      simp only [VR] at r2; subst r2
      exact op_sub pins s σ H _ _ v u Q I rx ry ⟨i, j, rfl, rfl, q φ H _ Nx.refl hm (by simp [VR])⟩
  | bl i =>
    simp only [VR] at r1; subst r1
    cases e with
    | bl j =>
      simp only [VR] at r2; subst r2
      exact op_sub_bb pins s σ H _ _ v u Q I rx ry ⟨i, j, rfl, rfl, q φ H _ Nx.refl hm (by simp [VR, ob2i_eq])⟩
    | _ => exact False.elim q
  | _ => exact False.elim q
theorem fo_mul : FOp p X (binaryOp .Mult) oMul := fun pins s σ H x y v u Q I rx ry q => by
  obtain ⟨φ, m, d, e, hm, r1, r2, q⟩ := q
  simp only [oMul] at q
  cases eb : intD e with
  | none => rw [eb] at q; exact False.elim q
  | some j =>
    rw [eb] at q
    obtain rfl := intD_ok eb
    simp only [VR] at r2; subst r2
    simp only at q
    cases d with
    | int i =>
      simp only [VR] at r1; subst r1
      simp only at q
      cases em : mulOk i j with
      | false => rw [em] at q; exact False.elim q
      | true =>
        rw [em] at q
        exact op_mulW pins s σ H _ _ v u Q I rx ry ⟨i, j, rfl, rfl, by simpa [mulOk, CMulW, Nat.blt_eq] using em, q φ H _ Nx.refl hm (by simp [VR])⟩
    | tup xs =>
      simp only at q
      cases xs with
      | nil => exact False.elim q
      | cons x0 xs =>
        simp only at q
        cases em : decide (1 ≤ j) && (decide (j ≤ 1000) && Nat.ble (x0 :: xs).length 1000) with
        | false => rw [em] at q; exact False.elim q
        | true =>
          rw [em] at q
          simp only [Bool.and_eq_true, decide_eq_true_eq, Nat.ble_eq] at em
          obtain ⟨k1, k2, k3⟩ := em
          have r1' := r1
          obtain ⟨a, vs, rfl, s1, r1⟩ := tup_at r1 rfl
          have hl := r1.length
          have hne : vs ≠ [] := by intro z; subst z; simp at hl
          by_cases hj : j = 1
          · subst hj
            have e1 : (List.replicate (1 : Int).toNat (x0 :: xs)).flatten = x0 :: xs := by simp
            rw [e1] at q
            exact op_rep1 pins s σ H _ _ v u Q I rx ry ⟨a, vs, rfl, rfl, s1, q φ H _ Nx.refl hm r1'⟩
          · exact op_repT pins s σ H _ _ v u Q I rx ry ⟨a, j, vs, rfl, rfl, s1, hne, by omega, k2, by rw [← hl]; exact k3, newT_ok hm (r1.rep _) q⟩
    | ref n =>
      simp only at q
      split at q
      · rename_i xs e1
        cases em : rgOk j && fits (xs.length * j.toNat) with
        | false => rw [em] at q; exact False.elim q
        | true =>
          rw [em] at q
          rw [Bool.and_eq_true] at em
          obtain ⟨a, vs, rfl, h1, r1⟩ := mlst_at hm r1 e1
          have k := rgOk_iff em.1
          exact op_rep pins s σ H _ _ v u Q I rx ry ⟨a, j, vs, rfl, rfl, h1, by have := k.1; omega, by have := k.2; omega, by rw [← r1.length]; exact fits_iff.mp em.2, newL_ok hm (r1.rep _) q⟩
      · exact False.elim q
    | _ => exact False.elim q
theorem fo_fdiv : FOp p X (binaryOp .FloorDiv) oFdiv := fun pins s σ H x y v u Q I rx ry q => by
  obtain ⟨φ, m, d, e, hm, r1, r2, q⟩ := q
  simp only [oFdiv] at q
  split at q
  · rename_i i j e1 e2
    obtain rfl := intD_ok e1
    obtain rfl := intD_ok e2
    simp only [VR] at r1 r2; subst r1 r2
    cases em : divOk j with
    | false => rw [em] at q; exact False.elim q
    | true =>
      rw [em] at q
      simp only [divOk, Bool.and_eq_true, decide_eq_true_eq, Nat.blt_eq] at em
      exact op_fdivW pins s σ H _ _ v u Q I rx ry ⟨i, j, rfl, rfl, em, q φ H _ Nx.refl hm (by simp [VR])⟩
  · exact False.elim q
theorem fo_mod : FOp p X (binaryOp .Mod) oMod := fun pins s σ H x y v u Q I rx ry q => by
  obtain ⟨φ, m, d, e, hm, r1, r2, q⟩ := q
  simp only [oMod] at q
  split at q
  · rename_i i j e1 e2
    obtain rfl := intD_ok e1
    obtain rfl := intD_ok e2
    simp only [VR] at r1 r2; subst r1 r2
    cases em : decide (0 < j) with
    | false => rw [em] at q; exact False.elim q
    | true =>
      rw [em] at q
      exact op_mod pins s σ H _ _ v u Q I rx ry ⟨i, j, rfl, rfl, of_decide_eq_true em, q φ H _ Nx.refl hm (by simp [VR])⟩
  · exact False.elim q
theorem fo_pow : FOp p X (binaryOp .Pow) oPow := fun pins s σ H x y v u Q I rx ry q => by
  obtain ⟨φ, m, d, e, hm, r1, r2, q⟩ := q
  simp only [oPow] at q
  split at q
  · rename_i i j e1 e2
    obtain rfl := intD_ok e1
    obtain rfl := intD_ok e2
    simp only [VR] at r1 r2; subst r1 r2
    cases em : powOk i j with
    | false => rw [em] at q; exact False.elim q
    | true =>
      rw [em] at q
      simp only [powOk, Bool.and_eq_true, decide_eq_true_eq] at em
      exact op_pow pins s σ H _ _ v u Q I rx ry ⟨i, j, rfl, rfl, em, q φ H _ Nx.refl hm (by simp [VR])⟩
  · exact False.elim q
theorem fu_neg : FUn p X (unaryOp .USub) oNeg := fun pins s σ H x v Q I rx q => by
  obtain ⟨φ, m, d, hm, r1, q⟩ := q
  simp only [oNeg] at q
  split at q
  · rename_i i e1
    obtain rfl := intD_ok e1
    simp only [VR] at r1; subst r1
    exact un_neg pins s σ H _ v Q I rx ⟨i, rfl, q φ H _ Nx.refl hm (by simp [VR])⟩
  · exact False.elim q
end
end DL

set_option Elab.async false
set_option linter.all false
set_option maxRecDepth 100000
set_option maxHeartbeats 4000000
namespace DL
open PySem PySem.Spec PyProof.Rows L2

/-! ### data -/
mutual
def pyR (g : Nat → Option PyData) : D → Option PyData
  | .non => some .none
  | .bl b => some (.bool b)
  | .int i => some (.int i)
  | .str s => some (.str ⟨s.toArray⟩)
  | .tup xs => match pyRs g xs with
    | some ds => some (.tuple ds)
    | none => none
  | .ktup xs => match pyRs g xs with
    | some ds => some (.tuple ds)
    | none => none
  | .rol xs => match pyRs g xs with
    | some ds => some (.list ds)
    | none => none
  | .ref n => g n
  | .fn _ => none
def pyRs (g : Nat → Option PyData) : List D → Option (List PyData)
  | [] => some []
  | d :: ds => match pyR g d, pyRs g ds with
    | some x, some xs => some (x :: xs)
    | _, _ => none
end
def mapO {α β : Type} (f : α → Option β) : List α → Option (List β)
  | [] => some []
  | x :: xs => match f x, mapO f xs with
    | some y, some ys => some (y :: ys)
    | _, _ => none
def pyN (m : Mem) : Nat → D → Option PyData
  | 0 => pyR fun _ => none
  | k + 1 => pyR fun n => match m[n]? with
    | some (.lst xs) => (match mapO (pyN m k) xs with
      | some ds => some (.list ds)
      | none => none)
    | _ => none
section
variable {K : PySem.W.Frag} {p : Pr} {φ : List Addr} {m : Mem} {H : Hp}
mutual
theorem pyR_ok {g : Nat → Option PyData} (hg : ∀ n a x, φ[n]? = some a → g n = some x → Dp K H (.ref a) x) : ∀ (d : D) (v : V) (x : PyData), VR K p φ H d v → pyR g d = some x → Dp K H v x
  | .non, v, x, r, e => by simp only [VR] at r; subst r; cases e; exact .non
  | .bl b, v, x, r, e => by simp only [VR] at r; subst r; cases e; exact .bl b
  | .int i, v, x, r, e => by simp only [VR] at r; subst r; cases e; exact .int i
  | .str s, v, x, r, e => by simp only [VR] at r; subst r; cases e; exact .str _
  | .tup xs, v, x, r, e => by
    simp only [VR] at r
    obtain ⟨a, vs, rfl, s, r⟩ := r
    simp only [pyR] at e
    split at e
    · rename_i ds e2; cases e; exact .tup (SqT.of s) (pyRs_ok hg xs vs ds r e2)
    · cases e
  | .ktup xs, v, x, r, e => by
    simp only [VR] at r
    obtain ⟨a, vs, rfl, s, r⟩ := r
    simp only [pyR] at e
    split at e
    · rename_i ds e2; cases e; exact .tup s.sq (pyRs_ok hg xs vs ds r e2)
    · cases e
  | .rol xs, v, x, r, e => by
    simp only [VR] at r
    obtain ⟨a, vs, rfl, s, r⟩ := r
    simp only [pyR] at e
    split at e
    · rename_i ds e2
      cases e
      refine .lst ?_ (pyRs_ok hg xs vs ds r e2)
      rcases s with ⟨o, s⟩ | s
      · exact .inl (.inr ⟨o, s⟩)
      · exact s H
    · cases e
  | .ref n, v, x, r, e => by
    simp only [VR] at r
    obtain ⟨a, ea, rfl⟩ := r
    exact hg n a x ea e
  | .fn _, v, x, r, e => by cases e
theorem pyRs_ok {g : Nat → Option PyData} (hg : ∀ n a x, φ[n]? = some a → g n = some x → Dp K H (.ref a) x) : ∀ (ds : List D) (vs : List V) (xs : List PyData), VRs K p φ H ds vs → pyRs g ds = some xs → DpAll K H vs xs
  | [], vs, xs, r, e => by simp only [VRs] at r; subst r; cases e; exact .nil
  | d :: ds, vs, xs, r, e => by
    simp only [VRs] at r
    obtain ⟨v, t, rfl, r1, r2⟩ := r
    simp only [pyRs] at e
    split at e
    · rename_i x ys e1 e2
      cases e
      exact .cons (pyR_ok hg d v x r1 e1) (pyRs_ok hg ds t ys r2 e2)
    · cases e
end
theorem mapO_ok {f : D → Option PyData} (hf : ∀ (d : D) (v : V) (x : PyData), VR K p φ H d v → f d = some x → Dp K H v x) : ∀ (ds : List D) (vs : List V) (xs : List PyData), VRs K p φ H ds vs → mapO f ds = some xs → DpAll K H vs xs
  | [], vs, xs, r, e => by simp only [VRs] at r; subst r; cases e; exact .nil
  | d :: ds, vs, xs, r, e => by
    simp only [VRs] at r
    obtain ⟨v, t, rfl, r1, r2⟩ := r
    simp only [mapO] at e
    split at e
    · rename_i x ys e1 e2
      cases e
      exact .cons (hf d v x r1 e1) (mapO_ok hf ds t ys r2 e2)
    · cases e
theorem pyN_ok (hm : HR K p φ m H) : ∀ (k : Nat) (d : D) (v : V) (x : PyData), VR K p φ H d v → pyN m k d = some x → Dp K H v x
  | 0, d, v, x, r, e => pyR_ok (fun n a x _ e => by cases e) d v x r e
  | k + 1, d, v, x, r, e => pyR_ok (fun n a x ea e => by
      split at e
      · rename_i xs em
        split at e
        · rename_i ds e2
          cases e
          obtain ⟨vs, e1, r1⟩ := hm.obj n _ a em ea
          exact .lst (SqL.of e1) (mapO_ok (pyN_ok hm k) xs vs ds r1 e2)
        · cases e
      · cases e) d v x r e
end
/-- scalars told apart at once -/
def eqInt (i : Int) : D → Option Bool
  | .int j => some (i == j)
  | .str _ => some false
  | .non => some false
  | _ => none
def eqNs : List Nat → List Nat → Bool
  | [], [] => true
  | x :: xs, y :: ys => Nat.beq x y && eqNs xs ys
  | _, _ => false
theorem eqNs_eq : ∀ (xs ys : List Nat), eqNs xs ys = true ↔ xs = ys
  | [], [] => by simp [eqNs]
  | x :: xs, y :: ys => by
    simp only [eqNs, Bool.and_eq_true, eqNs_eq xs ys, List.cons.injEq, Nat.beq_eq]
  | [], _ :: _ => by simp [eqNs]
  | _ :: _, [] => by simp [eqNs]
theorem eqNs_dec (xs ys : List Nat) : decide (V.str ⟨xs.toArray⟩ = V.str ⟨ys.toArray⟩) = eqNs xs ys := by
  cases h : eqNs xs ys with
  | true => rw [(eqNs_eq xs ys).mp h]; simp
  | false =>
    refine decide_eq_false fun z => ?_
    have : xs = ys := by simpa using z
    rw [(eqNs_eq xs ys).mpr this] at h; cases h
def eqStr (s : List Nat) : D → Option Bool
  | .str t => some (eqNs s t)
  | .int _ => some false
  | .non => some false
  | _ => none
def eqNon : D → Option Bool
  | .non => some true
  | .int _ => some false
  | .str _ => some false
  | .bl _ => some false
  | _ => none
def eqBl (a : Bool) : D → Option Bool
  | .bl b => some (a == b)
  | .non => some false
  | .str _ => some false
  | _ => none
def eqS : D → D → Option Bool
  | .int i, e => eqInt i e
  | .str s, e => eqStr s e
  | .non, e => eqNon e
  | .bl b, e => eqBl b e
  | _, _ => none
/-- == of data at any depth -/
def eqDt (m : Mem) (d e : D) : Option Bool := match pyN m 3 d, pyN m 3 e with
  | some x, some y => (match SeqAt.shaped x && SeqAt.shaped y with
    | true => some (PyData.eqv x y)
    | false => none)
  | _, _ => none
/-- dicts, one of them empty -/
def emEq : List (D × D) → List (D × D) → Option Bool
  | [], [] => some true
  | [], _ :: _ => some false
  | _ :: _, [] => some false
  | _, _ => none
def dicD (d : D) (m : Mem) : Option (Bool × List (D × D)) := match refD d with
  | some n => (match m[n]? with
    | some (.dic t kvs) => some (t, kvs)
    | _ => none)
  | none => none
def eqEm (m : Mem) (d e : D) : Option Bool := match dicD d m, dicD e m with
  | some (_, ks), some (_, ls) => emEq ks ls
  | _, _ => none
def eqD (m : Mem) (d e : D) : Option Bool := match eqS d e with
  | some b => some b
  | none => match eqDt m d e with
    | some b => some b
    | none => eqEm m d e
def oEq (d e : D) (m : Mem) : OAns := match eqD m d e with
  | some b => some (.bl b, m)
  | none => none
def oNe (d e : D) (m : Mem) : OAns := match eqD m d e with
  | some b => some (.bl (!b), m)
  | none => none
/-! == of dicts, one of them empty -/
section
variable {prog : Program} {w : World} {A : Around} {E : Value → Shared → Prop} {s : Shared}
theorem raw_same {nm : String} {a b : Addr} {oa ob : Obj} {es es' : Array DictEntry} {ep ep' : Nat} {r : Bool} {Q : Bool → Shared → Prop} (ha : (a == sysModules) = false) (hb : (b == sysModules) = false)
    (hoa : s.heap.get? a = some oa) (hda : oa.data = .dict es ep) (hob : s.heap.get? b = some ob) (hdb : ob.data = .dict es' ep') (hr : (es.size ≠ es'.size ∧ r = false) ∨ (es.size = 0 ∧ es'.size = 0 ∧ r = true)) (h : Q r s) :
    wpAny (model prog w) A (Builtin.Dict.samePairs nm a b) Q E s := by
  unfold Builtin.Dict.samePairs Builtin.Dict.showsAll
  rw [if_neg (show ¬ (a == sysModules) = true by rw [ha]; exact Bool.false_ne_true), if_neg (show ¬ (b == sysModules) = true by rw [hb]; exact Bool.false_ne_true)]
  refine wpAny_bind (wpAny_pure (wpAny_bind (wpAny_pure ?_)))
  refine wpAny_bind (wpAny_dictEntries hoa hda ?_)
  dsimp only
  refine wpAny_bind (wpAny_dictEntries hob hdb ?_)
  rcases hr with ⟨hsz, rfl⟩ | ⟨h0, h0', rfl⟩
  · rw [if_pos (by simpa using hsz)]
    exact wpAny_bind (wpAny_rule (wpAny_pure h))
  · rw [if_neg (by rw [h0, h0']; simp)]
    refine wpAny_bind (wpAny_dictEpoch hoa hda ?_)
    refine wpAny_bind ?_
    rw [Std.Legacy.Range.forIn_eq_forIn_range']
    simp only [Std.Legacy.Range.size, Nat.sub_zero, Nat.add_sub_cancel, Nat.div_one]
    rw [h0]
    exact wpAny_pure (wpAny_pure h)
theorem raw_eq {a b : Addr} {oa ob : Obj} {es es' : Array DictEntry} {ep ep' : Nat} {r : Bool} {Q : Value → Shared → Prop} (ha : (a == sysModules) = false) (hb : (b == sysModules) = false)
    (hoa : s.heap.get? a = some oa) (hca : oa.ExactDict) (hda : oa.data = .dict es ep) (hob : s.heap.get? b = some ob) (hcb : ob.ExactDict) (hdb : ob.data = .dict es' ep') (hr : (es.size ≠ es'.size ∧ r = false) ∨ (es.size = 0 ∧ es'.size = 0 ∧ r = true))
    (hu : A.units < cLine) (h : Q (.bool r) s) : wpAny (model prog w) A (compareOp .Eq (.ref a) (.ref b)) Q E s := by
  have ta : s.TypeIs (.ref a) "dict" := ⟨oa, hoa, hca.1⟩
  have tb : s.TypeIs (.ref b) "dict" := ⟨ob, hob, hcb.1⟩
  refine wpAny_richCompare_same_room (op := .Eq) ta tb PySem.F.slot_dict_eq (wpAny_call_entry PySem.F.slot_dict_eq ta PySem.F.entry_dict_eq ?_ (PySem.F.args_dict_eq_2 _ _)) hu
  show wpAny _ _ (Builtin.Dict.dictSlotArgs "__eq__" ⟨[.ref a, .ref b], []⟩ >>= _) _ _ s
  refine wpAny_bind ?_
  unfold Builtin.Dict.dictSlotArgs
  refine wpAny_bind (wpAny_notOrdered_dict ta ?_)
  show wpAny _ _ (pure (Value.ref a, Value.ref b)) _ _ s
  refine wpAny_pure ?_
  refine wpAny_bind (wpAny_isInstance (T := "dict") tb PySem.F.sub_dict_dict ?_)
  simp only [Bool.not_true, Bool.false_eq_true, if_false]
  refine wpAny_bind (wpAny_pure (wpAny_bind (wpAny_pure ?_)))
  refine wpAny_bind (raw_same ha hb hoa hda hob hdb hr ?_)
  refine wpAny_pure ⟨_, rfl, ?_, ?_⟩
  · exact fun x => nomatch x
  · simpa using h
theorem raw_ne {a b : Addr} {oa ob : Obj} {es es' : Array DictEntry} {ep ep' : Nat} {r : Bool} {Q : Value → Shared → Prop} (ha : (a == sysModules) = false) (hb : (b == sysModules) = false)
    (hoa : s.heap.get? a = some oa) (hca : oa.ExactDict) (hda : oa.data = .dict es ep) (hob : s.heap.get? b = some ob) (hcb : ob.ExactDict) (hdb : ob.data = .dict es' ep') (hr : (es.size ≠ es'.size ∧ r = false) ∨ (es.size = 0 ∧ es'.size = 0 ∧ r = true))
    (hu : A.units < cLine) (h : Q (.bool (!r)) s) : wpAny (model prog w) A (compareOp .NotEq (.ref a) (.ref b)) Q E s := by
  have ta : s.TypeIs (.ref a) "dict" := ⟨oa, hoa, hca.1⟩
  have tb : s.TypeIs (.ref b) "dict" := ⟨ob, hob, hcb.1⟩
  refine wpAny_richCompare_same_room (op := .NotEq) ta tb PySem.F.slot_dict_ne (wpAny_call_entry PySem.F.slot_dict_ne ta PySem.F.entry_dict_ne ?_ (PySem.F.args_dict_ne_2 _ _)) hu
  show wpAny _ _ (Builtin.Dict.dictSlotArgs "__ne__" ⟨[.ref a, .ref b], []⟩ >>= _) _ _ s
  refine wpAny_bind ?_
  unfold Builtin.Dict.dictSlotArgs
  refine wpAny_bind (wpAny_notOrdered_dict ta ?_)
  show wpAny _ _ (pure (Value.ref a, Value.ref b)) _ _ s
  refine wpAny_pure ?_
  refine wpAny_bind (wpAny_isInstance (T := "dict") tb PySem.F.sub_dict_dict ?_)
  simp only [Bool.not_true, Bool.false_eq_true, if_false]
  refine wpAny_bind (wpAny_pure (wpAny_bind (wpAny_pure ?_)))
  refine wpAny_bind (raw_same ha hb hoa hda hob hdb hr ?_)
  refine wpAny_pure ⟨_, rfl, ?_, ?_⟩
  · exact fun x => nomatch x
  · simpa using h
end
section
variable {p : Pr} {X : Cx} {K : PySem.W.Frag} {φ : List Addr} {m : Mem} {H : Hp}
theorem eqS_ok {d e : D} {x y : V} {b : Bool} (r1 : VR K p φ H d x) (r2 : VR K p φ H e y) (h : eqS d e = some b) : scal x y = true ∧ decide (x = y) = b := by
  cases d with
  | int i =>
    simp only [VR] at r1; subst r1
    cases e <;> simp only [VR] at r2 <;> simp only [eqS, eqInt] at h <;> (try cases h) <;> subst r2
    · exact ⟨rfl, by simp⟩
    · exact ⟨rfl, dec_int⟩
    · exact ⟨rfl, by simp⟩
  | str s =>
    simp only [VR] at r1; subst r1
    cases e <;> simp only [VR] at r2 <;> simp only [eqS, eqStr] at h <;> (try cases h) <;> subst r2
    · exact ⟨rfl, by simp⟩
    · exact ⟨rfl, by simp⟩
    · exact ⟨rfl, eqNs_dec _ _⟩
  | non =>
    simp only [VR] at r1; subst r1
    cases e <;> simp only [VR] at r2 <;> simp only [eqS, eqNon] at h <;> (try cases h) <;> subst r2
    · exact ⟨rfl, by simp⟩
    · exact ⟨rfl, by simp⟩
    · exact ⟨rfl, by simp⟩
    · exact ⟨rfl, by simp⟩
  | bl k =>
    simp only [VR] at r1; subst r1
    cases e <;> simp only [VR] at r2 <;> simp only [eqS, eqBl] at h <;> (try cases h) <;> subst r2
    · exact ⟨rfl, by simp⟩
    · exact ⟨rfl, dec_bl⟩
    · exact ⟨rfl, by simp⟩
  | _ => cases h
theorem dicD_ok {d : D} {t : Bool} {kvs : List (D × D)} (e : dicD d m = some (t, kvs)) : ∃ n, d = .ref n ∧ m[n]? = some (.dic t kvs) := by
  unfold dicD at e
  cases er : refD d with
  | none => rw [er] at e; cases e
  | some n =>
    rw [er] at e
    refine ⟨n, refD_ok er, ?_⟩
    simp only at e
    split at e
    · rename_i em; cases e; exact em
    · cases e
theorem dic_raw {pins : List (Addr × Obj)} {σ : St} {s : Shared} {d : D} {x : V} {t : Bool} {kvs : List (D × D)} (I : Inv X pins σ H s) (hm : HR X.K p φ m H) (r : VR X.K p φ H d x) (e : dicD d m = some (t, kvs)) :
    ∃ a o es ep, x = .ref a ∧ (a == sysModules) = false ∧ s.heap.get? a = some o ∧ o.ExactDict ∧ o.data = .dict es ep ∧ es.size = kvs.length := by
  obtain ⟨n, rfl, em⟩ := dicD_ok e
  simp only [VR] at r
  obtain ⟨a, ea, rfl⟩ := r
  have q := hm.obj n _ a em ea
  cases t with
  | false =>
    obtain ⟨vs, eh, rr⟩ := q
    obtain ⟨_, na, us, kv, o, es, ep, ho, hc, hd, _, hp, _⟩ := dk_of I.hok eh
    refine ⟨a, o, es, ep, rfl, na, ho, hc, hd, ?_⟩
    rw [rr.length, kv.length, ← hp.length]
    exact Array.length_toList.symm
  | true =>
    obtain ⟨vs, eh, rr⟩ := q
    obtain ⟨_, na, us, kv, o, es, ep, ho, hc, hd, he, _, _⟩ := dt_of I.hok eh
    refine ⟨a, o, es, ep, rfl, na, ho, hc, hd, ?_⟩
    rw [rr.length, kv.length, size_of_entries he]
theorem emEq_ok {ks ls : List (D × D)} {b : Bool} (h : emEq ks ls = some b) : (ks.length ≠ ls.length ∧ b = false) ∨ (ks.length = 0 ∧ ls.length = 0 ∧ b = true) := by
  cases ks with
  | nil => cases ls with
    | nil => cases h; exact .inr ⟨rfl, rfl, rfl⟩
    | cons y ys => cases h; exact .inl ⟨by simp, rfl⟩
  | cons x xs => cases ls with
    | nil => cases h; exact .inl ⟨by simp, rfl⟩
    | cons y ys => cases h
/-- what eqD tells -/
theorem eqD_run (hu : X.A.units + 64 < cLine) {pins : List (Addr × Obj)} {s : Shared} {σ : St} {d e : D} {x y : V} {v u : Value} {Q : VK} {b : Bool} (I : Inv X pins σ H s) (hm : HR X.K p φ m H) (rx : RelV x v) (ry : RelV y u) (r1 : VR X.K p φ H d x) (r2 : VR X.K p φ H e y) (h : eqD m d e = some b) :
    (Q (.bl b) H → wpAny (model X.prog X.w) X.A (compareOp .Eq v u) (EP X pins σ Q) X.xe s) ∧ (Q (.bl (!b)) H → wpAny (model X.prog X.w) X.A (compareOp .NotEq v u) (EP X pins σ Q) X.xe s) := by
  unfold eqD at h
  cases h1 : eqS d e with
  | some c =>
    rw [h1] at h
    cases h
    obtain ⟨k1, k2⟩ := eqS_ok r1 r2 h1
    exact ⟨fun q => op_eq pins s σ H x y v u Q I rx ry ⟨k1, by rw [k2]; exact q⟩, fun q => op_ne pins s σ H x y v u Q I rx ry ⟨k1, by rw [k2]; exact q⟩⟩
  | none =>
    rw [h1] at h
    simp only at h
    cases h2 : eqDt m d e with
    | some c =>
      rw [h2] at h
      cases h
      unfold eqDt at h2
      split at h2
      · rename_i a c e1 e2
        cases sh : SeqAt.shaped a && SeqAt.shaped c with
        | false => rw [sh] at h2; cases h2
        | true =>
          rw [sh] at h2
          rw [Bool.and_eq_true] at sh
          cases h2
          exact ⟨fun q => op_eqD hu pins s σ H x y v u Q I rx ry ⟨a, c, pyN_ok hm 3 d x a r1 e1, pyN_ok hm 3 e y c r2 e2, sh.1, sh.2, q⟩,
            fun q => op_neD hu pins s σ H x y v u Q I rx ry ⟨a, c, pyN_ok hm 3 d x a r1 e1, pyN_ok hm 3 e y c r2 e2, sh.1, sh.2, q⟩⟩
      · cases h2
    | none =>
      rw [h2] at h
      unfold eqEm at h
      simp only at h
      split at h
      · rename_i t ks t' ls e1 e2
        obtain ⟨a, oa, es, ep, rfl, na, ha, ca, da, la⟩ := dic_raw I hm r1 e1
        obtain ⟨a', ob, es', ep', rfl, nb, hb, cb, db, lb⟩ := dic_raw I hm r2 e2
        obtain rfl : v = .ref a := rx
        obtain rfl : u = .ref a' := ry
        have hr := emEq_ok h
        rw [← la, ← lb] at hr
        exact ⟨fun q => raw_eq na nb ha ca da hb cb db hr (by omega) ⟨.bl b, H, I, rfl, q⟩, fun q => raw_ne na nb ha ca da hb cb db hr (by omega) ⟨.bl (!b), H, I, rfl, q⟩⟩
      · cases h
theorem fo_eq (hu : X.A.units + 64 < cLine) : FOp p X (compareOp .Eq) oEq := fun pins s σ H x y v u Q I rx ry q => by
  obtain ⟨φ, m, d, e, hm, r1, r2, q⟩ := q
  unfold oEq at q
  cases h : eqD m d e with
  | none => rw [h] at q; exact False.elim q
  | some b =>
    rw [h] at q
    exact (eqD_run hu I hm rx ry r1 r2 h).1 (q φ H _ Nx.refl hm (by simp [VR]))
theorem fo_ne (hu : X.A.units + 64 < cLine) : FOp p X (compareOp .NotEq) oNe := fun pins s σ H x y v u Q I rx ry q => by
  obtain ⟨φ, m, d, e, hm, r1, r2, q⟩ := q
  unfold oNe at q
  cases h : eqD m d e with
  | none => rw [h] at q; exact False.elim q
  | some b =>
    rw [h] at q
    exact (eqD_run hu I hm rx ry r1 r2 h).2 (q φ H _ Nx.refl hm (by simp [VR]))
end

/-! ### order, is -/
def ltNs : List Nat → List Nat → Bool
  | _, [] => false
  | [], _ :: _ => true
  | x :: xs, y :: ys => match Nat.blt x y with
    | true => true
    | false => match Nat.beq x y with
      | true => ltNs xs ys
      | false => false
theorem ltNs_eq : ∀ (xs ys : List Nat), ltNs xs ys = decide (xs < ys)
  | [], [] => by simp [ltNs]
  | _ :: _, [] => by simp [ltNs]
  | [], _ :: _ => by simp [ltNs]
  | x :: xs, y :: ys => by
    simp only [ltNs]
    rw [ltNs_eq xs ys]
    cases h : Nat.blt x y with
    | true =>
      have h' := Nat.blt_eq.mp h
      symm; exact decide_eq_true (List.cons_lt_cons_iff.mpr (.inl h'))
    | false =>
      have h' : ¬ x < y := fun z => by rw [Nat.blt_eq.mpr z] at h; cases h
      cases h2 : Nat.beq x y with
      | true =>
        obtain rfl := Nat.eq_of_beq_eq_true h2
        simp [List.cons_lt_cons_iff]
      | false =>
        have h3 : x ≠ y := fun z => by subst z; simp at h2
        symm; exact decide_eq_false fun z => by
          rcases List.cons_lt_cons_iff.mp z with z | z
          · exact h' z
          · exact h3 z.1
def oLt (d e : D) (m : Mem) : OAns := match d with
  | .int i => (match intD e with
    | some j => some (.bl (decide (i < j)), m)
    | none => none)
  | .str s => (match strD e with
    | some t => some (.bl (ltNs s t), m)
    | none => none)
  | .tup xs => (match intsD xs, tupD e with
    | some is, some ys => (match intsD ys with
      | some js => some (.bl (HT.lexLt is js), m)
      | none => none)
    | _, _ => none)
  | _ => none
def oCmp (g : Int → Int → Bool) (d e : D) (m : Mem) : OAns := match intD d, intD e with
  | some i, some j => some (.bl (g i j), m)
  | _, _ => none
def oLe : D → D → Mem → OAns := oCmp fun i j => decide (i ≤ j)
def oGt : D → D → Mem → OAns := oCmp fun i j => decide (j < i)
def oGe : D → D → Mem → OAns := oCmp fun i j => decide (j ≤ i)
def isNon : D → Bool
  | .non => true
  | _ => false
def oIs (d e : D) (m : Mem) : OAns := match isNon e with
  | true => some (.bl (isNon d), m)
  | false => none
def oIsNot (d e : D) (m : Mem) : OAns := match isNon e with
  | true => some (.bl (!isNon d), m)
  | false => none
section
variable {p : Pr} {X : Cx} {K : PySem.W.Frag} {φ : List Addr} {m : Mem} {H : Hp}
theorem fo_cmpI {op : CmpOp} {g : Int → Int → Bool} (ho : OpR X (compareOp op) (rI0 fun i j => .bl (g i j))) : FOp p X (compareOp op) (oCmp g) := fun pins s σ H x y v u Q I rx ry q => by
  obtain ⟨φ, m, d, e, hm, r1, r2, q⟩ := q
  unfold oCmp at q
  split at q
  · rename_i i j e1 e2
    obtain rfl := intD_ok e1
    obtain rfl := intD_ok e2
    simp only [VR] at r1 r2; subst r1 r2
    exact ho pins s σ H _ _ v u Q I rx ry ⟨i, j, rfl, rfl, q φ H _ Nx.refl hm (by simp [VR])⟩
  · exact False.elim q
theorem fo_le : FOp p X (compareOp .LtE) oLe := fo_cmpI op_le
theorem fo_gt : FOp p X (compareOp .Gt) oGt := fo_cmpI op_gt
theorem fo_ge : FOp p X (compareOp .GtE) oGe := fo_cmpI op_ge
theorem fo_lt (hu : X.A.units < cLine) : FOp p X (compareOp .Lt) oLt := fun pins s σ H x y v u Q I rx ry q => by
  obtain ⟨φ, m, d, e, hm, r1, r2, q⟩ := q
  cases d with
  | int i =>
    simp only [oLt] at q
    cases eb : intD e with
    | none => rw [eb] at q; exact False.elim q
    | some j =>
      rw [eb] at q
      obtain rfl := intD_ok eb
      simp only [VR] at r1 r2; subst r1 r2
      exact op_lt pins s σ H _ _ v u Q I rx ry ⟨i, j, rfl, rfl, q φ H _ Nx.refl hm (by simp [VR])⟩
  | str a =>
    simp only [oLt] at q
    cases eb : strD e with
    | none => rw [eb] at q; exact False.elim q
    | some b =>
      rw [eb] at q
      obtain rfl := strD_ok eb
      simp only [VR] at r1 r2; subst r1 r2
      exact op_lt_str pins s σ H _ _ v u Q I rx ry ⟨_, _, rfl, rfl, q φ H _ Nx.refl hm (by simp [VR, ltNs_eq])⟩
  | tup xs =>
    simp only [oLt] at q
    split at q
    · rename_i is ys e1 e2
      split at q
      · rename_i js e3
        obtain ⟨a, vs, rfl, s1, r1⟩ := tup_at r1 rfl
        obtain ⟨b, ws, rfl, s2, r2⟩ := tup_at r2 e2
        obtain rfl := intsD_ok r1 e1
        obtain rfl := intsD_ok r2 e3
        exact op_ltT hu pins s σ H _ _ v u Q I rx ry ⟨a, b, is, js, rfl, rfl, s1, s2, q φ H _ Nx.refl hm (by simp [VR])⟩
      · exact False.elim q
    · exact False.elim q
  | _ => exact False.elim q
theorem isNon_ok {d : D} {x : V} (r : VR K p φ H d x) : decide (x = .non) = isNon d := by
  cases d <;> simp only [VR] at r
  case non => subst r; rfl
  case tup => obtain ⟨a, vs, rfl, _⟩ := r; rfl
  case ktup => obtain ⟨a, vs, rfl, _⟩ := r; rfl
  case rol => obtain ⟨a, vs, rfl, _⟩ := r; rfl
  case ref => obtain ⟨a, _, rfl⟩ := r; rfl
  all_goals (subst r; rfl)
theorem isNon_at {d : D} {x : V} (r : VR K p φ H d x) (h : isNon d = true) : x = .non := by
  have := isNon_ok r
  rw [h] at this
  exact of_decide_eq_true this
theorem fo_is : FOp p X (compareOp .Is) oIs := fun pins s σ H x y v u Q I rx ry q => by
  obtain ⟨φ, m, d, e, hm, r1, r2, q⟩ := q
  unfold oIs at q
  cases h : isNon e with
  | false => rw [h] at q; exact False.elim q
  | true =>
    rw [h] at q
    exact op_isN pins s σ H x y v u Q I rx ry ⟨isNon_at r2 h, by rw [isNon_ok r1]; exact q φ H _ Nx.refl hm (by simp [VR])⟩
theorem fo_isNot : FOp p X (compareOp .IsNot) oIsNot := fun pins s σ H x y v u Q I rx ry q => by
  obtain ⟨φ, m, d, e, hm, r1, r2, q⟩ := q
  unfold oIsNot at q
  cases h : isNon e with
  | false => rw [h] at q; exact False.elim q
  | true =>
    rw [h] at q
    exact op_notN pins s σ H x y v u Q I rx ry ⟨isNon_at r2 h, by rw [isNon_ok r1]; exact q φ H _ Nx.refl hm (by simp [VR])⟩
end
end DL

set_option Elab.async false
set_option linter.all false
set_option maxRecDepth 100000
set_option maxHeartbeats 4000000
namespace DL
open PySem PySem.Spec PyProof.Rows L2

/-! ### dicts: look up, put -/
def eqK1 : D → D → Bool
  | .int i, e => (match intD e with
    | some j => decide (i = j)
    | none => false)
  | .str s, e => (match strD e with
    | some t => eqNs s t
    | none => false)
  | _, _ => false
def eqKs : List D → List D → Bool
  | [], [] => true
  | x :: xs, y :: ys => eqK1 x y && eqKs xs ys
  | _, _ => false
/-- a tuple that can be a key -/
def tupK : D → Option (List D)
  | .tup xs => some xs
  | _ => none
def eqKT (d e : D) : Bool := match tupK d, tupK e with
  | some xs, some ys => eqKs xs ys
  | _, _ => false
def isK1 : D → Bool
  | .int _ => true
  | .str _ => true
  | _ => false
def isKs : List D → Bool
  | [] => true
  | x :: xs => isK1 x && isKs xs
def isKT (d : D) : Bool := match tupK d with
  | some xs => isKs xs
  | none => false
def isK (t : Bool) (d : D) : Bool := match t with
  | false => isK1 d
  | true => isKT d
def eqK (t : Bool) (d e : D) : Bool := match t with
  | false => eqK1 d e
  | true => eqKT d e
def valD (t : Bool) (d : D) : List (D × D) → Option D
  | [] => none
  | x :: xs => match eqK t x.1 d with
    | true => some x.2
    | false => valD t d xs
def hasD (t : Bool) (d : D) : List (D × D) → Bool
  | [] => false
  | x :: xs => match eqK t x.1 d with
    | true => true
    | false => hasD t d xs
def repD (t : Bool) (d v : D) : List (D × D) → List (D × D)
  | [] => []
  | x :: xs => (x.1, match eqK t x.1 d with
    | true => v
    | false => x.2) :: repD t d v xs
def putD (t : Bool) (kvs : List (D × D)) (d v : D) : List (D × D) := match hasD t d kvs with
  | true => repD t d v kvs
  | false => kvs ++ [(d, v)]
theorem key1_some {d : D} (h : isK1 d = true) : ∃ k, key1 d = some k := by
  cases d with
  | int i => exact ⟨_, rfl⟩
  | str i => exact ⟨_, rfl⟩
  | _ => cases h
theorem eqK1_ok {d e : D} {k j : Key} (h1 : key1 d = some k) (h2 : key1 e = some j) : eqK1 d e = true ↔ k = j := by
  cases d with
  | int i =>
    cases h1
    cases e with
    | int i' => cases h2; simp [eqK1, intD]
    | str s => cases h2; simp [eqK1, intD]
    | _ => cases h2
  | str s =>
    cases h1
    cases e with
    | int i' => cases h2; simp [eqK1, strD]
    | str s' =>
      cases h2
      simp only [eqK1, strD, eqNs_eq]
      constructor
      · rintro rfl; rfl
      · intro z; simpa using z
    | _ => cases h2
  | _ => cases h1
theorem keys1_some : ∀ {ds : List D}, isKs ds = true → ∃ ks, keys1 ds = some ks
  | [], _ => ⟨[], rfl⟩
  | d :: ds, h => by
    simp only [isKs, Bool.and_eq_true] at h
    obtain ⟨k, e1⟩ := key1_some h.1
    obtain ⟨ks, e2⟩ := keys1_some h.2
    exact ⟨k :: ks, by simp [keys1, e1, e2]⟩
theorem eqKs_ok : ∀ {ds es : List D} {ks js : List Key}, keys1 ds = some ks → keys1 es = some js → (eqKs ds es = true ↔ ks = js)
  | [], [], _, _, h1, h2 => by cases h1; cases h2; simp [eqKs]
  | [], e :: es, _, js, h1, h2 => by
    cases h1
    simp only [keys1] at h2
    split at h2
    · cases h2; simp [eqKs]
    · cases h2
  | d :: ds, [], _, _, h1, h2 => by
    cases h2
    simp only [keys1] at h1
    split at h1
    · cases h1; simp [eqKs]
    · cases h1
  | d :: ds, e :: es, _, _, h1, h2 => by
    simp only [keys1] at h1 h2
    split at h1
    · rename_i k ks a b
      split at h2
      · rename_i j js a' b'
        cases h1; cases h2
        simp only [eqKs, Bool.and_eq_true, eqK1_ok a a', eqKs_ok b b', List.cons.injEq]
      · cases h2
    · cases h1
theorem tupK_ok {d : D} {xs : List D} (h : tupK d = some xs) : d = .tup xs := by
  cases d with
  | tup ys => cases h; rfl
  | _ => cases h
theorem keyT_some {d : D} (h : isKT d = true) : ∃ k, keyT d = some k := by
  unfold isKT at h
  cases e : tupK d with
  | none => rw [e] at h; cases h
  | some xs =>
    rw [e] at h
    obtain rfl := tupK_ok e
    exact keys1_some h
theorem eqKT_ok {d e : D} {k j : List Key} (h1 : keyT d = some k) (h2 : keyT e = some j) : eqKT d e = true ↔ k = j := by
  cases d with
  | tup xs =>
    cases e with
    | tup ys => exact eqKs_ok h1 h2
    | _ => cases h2
  | _ => cases h1
section
variable {K : PySem.W.Frag} {p : Pr} {φ : List Addr} {m : Mem} {H : Hp}
/-- found or not -/
def FoundR (K : PySem.W.Frag) (p : Pr) (φ : List Addr) (H : Hp) : Option D → Option V → Prop
  | some d, some v => VR K p φ H d v
  | none, none => True
  | _, _ => False
theorem valD_K {d : D} {k : Key} (hk : key1 d = some k) : ∀ {kvs : List (D × D)} {vs : List (Key × V)}, KR K p φ H kvs vs → FoundR K p φ H (valD false d kvs) (valV vs k)
  | [], _, r => by obtain rfl := r; rw [valV_nil]; exact trivial
  | x :: xs, _, r => by
    obtain ⟨k', v, t, rfl, a, b, c⟩ := r
    have q := eqK1_ok a hk
    show FoundR K p φ H (match eqK1 x.1 d with | true => some x.2 | false => valD false d xs) _
    cases e : eqK1 x.1 d with
    | true => rw [valV_pos (q.mp e)]; exact b
    | false => rw [valV_neg (fun z => by rw [q.mpr z] at e; cases e)]; exact valD_K hk c
theorem valD_T {d : D} {k : List Key} (hk : keyT d = some k) : ∀ {kvs : List (D × D)} {vs : List (List Key × V)}, TR K p φ H kvs vs → FoundR K p φ H (valD true d kvs) (valV vs k)
  | [], _, r => by obtain rfl := r; rw [valV_nil]; exact trivial
  | x :: xs, _, r => by
    obtain ⟨k', v, t, rfl, a, b, c⟩ := r
    have q := eqKT_ok a hk
    show FoundR K p φ H (match eqKT x.1 d with | true => some x.2 | false => valD true d xs) _
    cases e : eqKT x.1 d with
    | true => rw [valV_pos (q.mp e)]; exact b
    | false => rw [valV_neg (fun z => by rw [q.mpr z] at e; cases e)]; exact valD_T hk c
theorem hasD_val (t : Bool) (d : D) : ∀ kvs, hasD t d kvs = (valD t d kvs).isSome
  | [] => rfl
  | x :: xs => by
    simp only [hasD, valD]
    cases eqK t x.1 d with
    | true => rfl
    | false => exact hasD_val t d xs
theorem FoundR.isSome {o : Option D} {u : Option V} (h : FoundR K p φ H o u) : o.isSome = u.isSome := by
  cases o <;> cases u <;> first | rfl | exact h.elim
theorem repD_K {d e : D} {k : Key} {v : V} (hk : key1 d = some k) (rv : VR K p φ H e v) : ∀ {kvs : List (D × D)} {vs : List (Key × V)}, KR K p φ H kvs vs → KR K p φ H (repD false d e kvs) (vs.map fun kv => if kv.1 = k then (kv.1, v) else kv)
  | [], _, r => by obtain rfl := r; rfl
  | x :: xs, _, r => by
    obtain ⟨k', w, t, rfl, a, b, c⟩ := r
    have q := eqK1_ok a hk
    show KR K p φ H ((x.1, match eqK1 x.1 d with | true => e | false => x.2) :: repD false d e xs) _
    rw [List.map_cons]
    cases z : eqK1 x.1 d with
    | true => rw [if_pos (q.mp z)]; exact ⟨k', v, _, rfl, a, rv, repD_K hk rv c⟩
    | false => rw [if_neg (fun y => by rw [q.mpr y] at z; cases z)]; exact ⟨k', w, _, rfl, a, b, repD_K hk rv c⟩
theorem repD_T {d e : D} {k : List Key} {v : V} (hk : keyT d = some k) (rv : VR K p φ H e v) : ∀ {kvs : List (D × D)} {vs : List (List Key × V)}, TR K p φ H kvs vs → TR K p φ H (repD true d e kvs) (vs.map fun kv => if kv.1 = k then (kv.1, v) else kv)
  | [], _, r => by obtain rfl := r; rfl
  | x :: xs, _, r => by
    obtain ⟨k', w, t, rfl, a, b, c⟩ := r
    have q := eqKT_ok a hk
    show TR K p φ H ((x.1, match eqKT x.1 d with | true => e | false => x.2) :: repD true d e xs) _
    rw [List.map_cons]
    cases z : eqKT x.1 d with
    | true => rw [if_pos (q.mp z)]; exact ⟨k', v, _, rfl, a, rv, repD_T hk rv c⟩
    | false => rw [if_neg (fun y => by rw [q.mpr y] at z; cases z)]; exact ⟨k', w, _, rfl, a, b, repD_T hk rv c⟩
theorem KR.append : ∀ {a b : List (D × D)} {us ws : List (Key × V)}, KR K p φ H a us → KR K p φ H b ws → KR K p φ H (a ++ b) (us ++ ws)
  | [], _, _, _, q, r => by obtain rfl := q; exact r
  | x :: xs, _, _, _, q, r => by
    obtain ⟨k, v, t, rfl, a, b, c⟩ := q
    exact ⟨k, v, _, rfl, a, b, KR.append c r⟩
theorem TR.append : ∀ {a b : List (D × D)} {us ws : List (List Key × V)}, TR K p φ H a us → TR K p φ H b ws → TR K p φ H (a ++ b) (us ++ ws)
  | [], _, _, _, q, r => by obtain rfl := q; exact r
  | x :: xs, _, _, _, q, r => by
    obtain ⟨k, v, t, rfl, a, b, c⟩ := q
    exact ⟨k, v, _, rfl, a, b, TR.append c r⟩
theorem putD_K {d e : D} {k : Key} {v : V} {kvs : List (D × D)} {vs : List (Key × V)} (hk : key1 d = some k) (rv : VR K p φ H e v) (r : KR K p φ H kvs vs) : KR K p φ H (putD false kvs d e) (putK vs k v) := by
  unfold putD putK
  have h := (valD_K hk r).isSome
  rw [← hasD_val, ← valV_any] at h
  rw [h]
  cases vs.any fun kv => decide (kv.1 = k) with
  | true => rw [if_pos rfl]; exact repD_K hk rv r
  | false => rw [if_neg (by simp)]; exact r.append ⟨k, v, [], rfl, hk, rv, rfl⟩
theorem putD_T {d e : D} {k : List Key} {v : V} {kvs : List (D × D)} {vs : List (List Key × V)} (hk : keyT d = some k) (rv : VR K p φ H e v) (r : TR K p φ H kvs vs) : TR K p φ H (putD true kvs d e) (putK vs k v) := by
  unfold putD putK
  have h := (valD_T hk r).isSome
  rw [← hasD_val, ← valV_any] at h
  rw [h]
  cases vs.any fun kv => decide (kv.1 = k) with
  | true => rw [if_pos rfl]; exact repD_T hk rv r
  | false => rw [if_neg (by simp)]; exact r.append ⟨k, v, [], rfl, hk, rv, rfl⟩
theorem keys1_vs : ∀ {ds : List D} {ks : List Key} {vs : List V}, VRs K p φ H ds vs → keys1 ds = some ks → vs = ks.map kV
  | [], _, vs, r, h => by simp only [VRs] at r; subst r; cases h; rfl
  | d :: ds, _, vs, r, h => by
    simp only [VRs] at r
    obtain ⟨v, t, rfl, r1, r2⟩ := r
    simp only [keys1] at h
    split at h
    · rename_i k ks e1 e2
      cases h
      rw [keys1_vs r2 e2]
      have : v = kV k := by
        cases d with
        | int i => cases e1; simpa [VR, kV] using r1
        | str i => cases e1; simpa [VR, kV] using r1
        | _ => cases e1
      rw [this]; rfl
    · cases h
theorem key1_v {d : D} {k : Key} {v : V} (r : VR K p φ H d v) (h : key1 d = some k) : v = kV k := by
  cases d with
  | int i => cases h; simpa [VR, kV] using r
  | str i => cases h; simpa [VR, kV] using r
  | _ => cases h
theorem keyT_v {d : D} {k : List Key} {v : V} (r : VR K p φ H d v) (h : keyT d = some k) : ∃ b, v = .ref b ∧ H b = some (.tup (k.map kV)) := by
  cases d with
  | tup xs =>
    simp only [VR] at r
    obtain ⟨a, vs, rfl, s, r⟩ := r
    exact ⟨a, rfl, by rw [← keys1_vs r h]; exact s⟩
  | _ => cases h
end
/-- a dict, read (walked or not) -/
def dicR (d : D) (m : Mem) : Option (Bool × List (D × D)) := match refD d with
  | some n => (match m[n]? with
    | some (.dic t kvs) => some (t, kvs)
    | some (.lck t kvs) => some (t, kvs)
    | _ => none)
  | none => none
section
variable {K : PySem.W.Frag} {p : Pr} {φ : List Addr} {m : Mem} {H : Hp}
/-- the dict holds, at a key -/
theorem dget_at {d e : D} {x y : V} {t : Bool} {kvs : List (D × D)} (hm : HR K p φ m H) (r1 : VR K p φ H d x) (r2 : VR K p φ H e y) (h : dicR d m = some (t, kvs)) (hk : isK t e = true) : ∃ a o, x = .ref a ∧ DGet H a y o ∧ FoundR K p φ H (valD t e kvs) o := by
  unfold dicR at h
  cases er : refD d with
  | none => rw [er] at h; cases h
  | some n =>
    rw [er] at h
    obtain rfl := refD_ok er
    simp only [VR] at r1
    obtain ⟨a, ea, rfl⟩ := r1
    simp only at h
    have fin : ∀ (rd : ∃ u, Rd H a u ∧ ((∃ vs, u = .dK vs ∧ t = false ∧ KR K p φ H kvs vs) ∨ ∃ vs, u = .dT vs ∧ t = true ∧ TR K p φ H kvs vs)), ∃ a' o, V.ref a = .ref a' ∧ DGet H a' y o ∧ FoundR K p φ H (valD t e kvs) o := by
      rintro ⟨u, rd, ⟨vs, rfl, rfl, rr⟩ | ⟨vs, rfl, rfl, rr⟩⟩
      · obtain ⟨k, ek⟩ := key1_some hk
        exact ⟨a, _, rfl, .inl ⟨vs, k, rd, key1_v r2 ek, rfl⟩, valD_K ek rr⟩
      · obtain ⟨k, ek⟩ := keyT_some hk
        obtain ⟨b, rfl, hb⟩ := keyT_v r2 ek
        exact ⟨a, _, rfl, .inr ⟨vs, k, b, rd, rfl, hb, rfl⟩, valD_T ek rr⟩
    split at h
    · rename_i t' ks em
      cases h
      have q := hm.obj n _ a em ea
      cases t with
      | false => obtain ⟨vs, e1, rr⟩ := q; exact fin ⟨_, .inl e1, .inl ⟨vs, rfl, rfl, rr⟩⟩
      | true => obtain ⟨vs, e1, rr⟩ := q; exact fin ⟨_, .inl e1, .inr ⟨vs, rfl, rfl, rr⟩⟩
    · rename_i t' ks em
      cases h
      have q := hm.obj n _ a em ea
      cases t with
      | false => obtain ⟨od, vs, e1, rr⟩ := q; exact fin ⟨_, .inr ⟨od, e1⟩, .inl ⟨vs, rfl, rfl, rr⟩⟩
      | true => obtain ⟨od, vs, e1, rr⟩ := q; exact fin ⟨_, .inr ⟨od, e1⟩, .inr ⟨vs, rfl, rfl, rr⟩⟩
    · cases h
end
/-! ### in -/
/-- the items of a list or a tuple as they stand -/
def inSeq (m : Mem) (d e : D) : Option Bool := match itemsD e m with
  | none => none
  | some ys => match pyN m 3 d, mapO (pyN m 2) ys with
    | some x, some zs => (match SeqAt.shaped x && SeqAt.shaped (.list zs) with
      | true => some (zs.any fun z => PyData.eqv z x)
      | false => none)
    | _, _ => none
/-- one sign within a text -/
def inStr (d e : D) : Option Bool := match strD d, strD e with
  | some [c], some s => some (s.any fun x => Nat.beq x c)
  | _, _ => none
def inD (m : Mem) (d e : D) : Option Bool := match dicR e m with
  | some (t, kvs) => (match isK t d with
    | true => some (hasD t d kvs)
    | false => none)
  | none => match inStr d e with
    | some b => some b
    | none => match strD e with
      | some _ => none
      | none => inSeq m d e
def oIn (d e : D) (m : Mem) : OAns := match inD m d e with
  | some b => some (.bl b, m)
  | none => none
def oNotIn (d e : D) (m : Mem) : OAns := match inD m d e with
  | some b => some (.bl (!b), m)
  | none => none
section
variable {p : Pr} {X : Cx} {K : PySem.W.Frag} {φ : List Addr} {m : Mem} {H : Hp}
def rInT (K : PySem.W.Frag) (neg : Bool) : R2 := fun x y H Q => ∃ d ds, Dp K H x d ∧ Dp K H y (.tuple ds) ∧ SeqAt.shaped d = true ∧ SeqAt.shaped (.list ds) = true ∧ Q (.bl (if neg then !(ds.any fun z => PyData.eqv z d) else ds.any fun z => PyData.eqv z d)) H
theorem op_inT (hu : X.A.units + 65 < cLine) : OpR X (compareOp .In) (rInT X.K false) := by
  intro pins s σ H x y v u Q I rx ry h
  obtain ⟨d, ds, hd, he, sd, se, q⟩ := h
  obtain ⟨as, r1⟩ := Dp.reads I d x v hd rx
  obtain ⟨bs, r2⟩ := Dp.reads I (.tuple ds) y u he ry
  exact SeqAt.in_tuple_reads r2 r1 (SeqAt.canLay_of_shaped se) (SeqAt.canLay_of_shaped sd) (room_in_shaped sd hu) ⟨.bl _, H, I, rfl, q⟩
theorem op_notInT (hu : X.A.units + 65 < cLine) : OpR X (compareOp .NotIn) (rInT X.K true) := by
  intro pins s σ H x y v u Q I rx ry h
  obtain ⟨d, ds, hd, he, sd, se, q⟩ := h
  obtain ⟨as, r1⟩ := Dp.reads I d x v hd rx
  obtain ⟨bs, r2⟩ := Dp.reads I (.tuple ds) y u he ry
  exact SeqAt.notIn_tuple_reads r2 r1 (SeqAt.canLay_of_shaped se) (SeqAt.canLay_of_shaped sd) (room_in_shaped sd hu) ⟨.bl _, H, I, rfl, q⟩
theorem inD_run (hu : X.A.units + 65 < cLine) {pins : List (Addr × Obj)} {s : Shared} {σ : St} {d e : D} {x y : V} {v u : Value} {Q : VK} {b : Bool} (I : Inv X pins σ H s) (hm : HR X.K p φ m H) (rx : RelV x v) (ry : RelV y u) (r1 : VR X.K p φ H d x) (r2 : VR X.K p φ H e y) (h : inD m d e = some b) :
    (Q (.bl b) H → wpAny (model X.prog X.w) X.A (compareOp .In v u) (EP X pins σ Q) X.xe s) ∧ (Q (.bl (!b)) H → wpAny (model X.prog X.w) X.A (compareOp .NotIn v u) (EP X pins σ Q) X.xe s) := by
  unfold inD at h
  cases h1 : dicR e m with
  | some z =>
    obtain ⟨t, kvs⟩ := z
    rw [h1] at h
    simp only at h
    cases hk : isK t d with
    | false => rw [hk] at h; cases h
    | true =>
      rw [hk] at h
      cases h
      obtain ⟨a, o, rfl, g, f⟩ := dget_at hm r2 r1 h1 hk
      obtain rfl : u = .ref a := ry
      have e1 : hasD t d kvs = o.isSome := by rw [hasD_val]; exact f.isSome
      exact ⟨fun q => d_in (by omega) I g rx fun s' I' => ⟨.bl o.isSome, H, I', rfl, by rw [← e1]; exact q⟩, fun q => d_notIn (by omega) I g rx fun s' I' => ⟨.bl (!o.isSome), H, I', rfl, by rw [← e1]; exact q⟩⟩
  | none =>
    rw [h1] at h
    simp only at h
    cases h2 : inStr d e with
    | some c =>
      rw [h2] at h
      cases h
      unfold inStr at h2
      split at h2
      · rename_i c t e1 e2
        obtain rfl := strD_ok e1
        obtain rfl := strD_ok e2
        simp only [VR] at r1 r2; subst r1 r2
        cases h2
        have key : (!(Builtin.Str.occurrences ⟨t.toArray⟩ ⟨[c].toArray⟩ 0 (⟨t.toArray⟩ : Str).length 1).isEmpty) = t.any fun x => Nat.beq x c := by
          rw [StrLaws.found_one ⟨t.toArray⟩ c]
          have e2 : (c ∈ t) ↔ (t.any fun x => Nat.beq x c) = true := by simp [List.any_eq_true, Nat.beq_eq]
          cases e3 : t.any fun x => Nat.beq x c with
          | true => exact decide_eq_true (by simpa using e2.mpr e3)
          | false => exact decide_eq_false (by intro z; rw [e2.mp (by simpa using z)] at e3; cases e3)
        exact ⟨fun q => op_in_str pins s σ H _ _ v u Q I rx ry ⟨_, _, rfl, rfl, by rw [key]; exact q⟩, fun q => op_notIn_str pins s σ H _ _ v u Q I rx ry ⟨_, _, rfl, rfl, by rw [key]; exact q⟩⟩
      · cases h2
    | none =>
      rw [h2] at h
      simp only at h
      cases h3 : strD e with
      | some _ => rw [h3] at h; cases h
      | none =>
        rw [h3] at h
        unfold inSeq at h
        cases h4 : itemsD e m with
        | none => rw [h4] at h; cases h
        | some ys =>
          rw [h4] at h
          simp only at h
          split at h
          · rename_i xd zs e1 e2
            cases sh : SeqAt.shaped xd && SeqAt.shaped (.list zs) with
            | false => rw [sh] at h; cases h
            | true =>
              rw [sh] at h
              rw [Bool.and_eq_true] at sh
              cases h
              have dx := pyN_ok hm 3 d x xd r1 e1
              have lists : Dp X.K H y (.list zs) → (Q (.bl (zs.any fun z => PyData.eqv z xd)) H → wpAny (model X.prog X.w) X.A (compareOp .In v u) (EP X pins σ Q) X.xe s) ∧ (Q (.bl (!(zs.any fun z => PyData.eqv z xd))) H → wpAny (model X.prog X.w) X.A (compareOp .NotIn v u) (EP X pins σ Q) X.xe s) := fun dy =>
                ⟨fun q => op_inD hu pins s σ H x y v u Q I rx ry ⟨xd, zs, dx, dy, sh.1, sh.2, q⟩, fun q => op_notInD hu pins s σ H x y v u Q I rx ry ⟨xd, zs, dx, dy, sh.1, sh.2, q⟩⟩
              have tups : Dp X.K H y (.tuple zs) → (Q (.bl (zs.any fun z => PyData.eqv z xd)) H → wpAny (model X.prog X.w) X.A (compareOp .In v u) (EP X pins σ Q) X.xe s) ∧ (Q (.bl (!(zs.any fun z => PyData.eqv z xd))) H → wpAny (model X.prog X.w) X.A (compareOp .NotIn v u) (EP X pins σ Q) X.xe s) := fun dy =>
                ⟨fun q => op_inT hu pins s σ H x y v u Q I rx ry ⟨xd, zs, dx, dy, sh.1, sh.2, q⟩, fun q => op_notInT hu pins s σ H x y v u Q I rx ry ⟨xd, zs, dx, dy, sh.1, sh.2, q⟩⟩
              cases e with
              | str t => cases h3
              | tup xs => cases h4; obtain ⟨a, vs, rfl, sq, rr⟩ := tup_at r2 rfl; exact tups (.tup sq (mapO_ok (pyN_ok hm 2) _ vs zs rr e2))
              | ktup xs => cases h4; obtain ⟨a, vs, rfl, sq, rr⟩ := tup_at r2 rfl; exact tups (.tup sq (mapO_ok (pyN_ok hm 2) _ vs zs rr e2))
              | rol xs =>
                cases h4
                simp only [VR] at r2
                obtain ⟨a, vs, rfl, sq, rr⟩ := r2
                refine lists (.lst ?_ (mapO_ok (pyN_ok hm 2) _ vs zs rr e2))
                rcases sq with ⟨o, sq⟩ | sq
                · exact .inl (.inr ⟨o, sq⟩)
                · exact sq H
              | ref n =>
                simp only [VR] at r2
                obtain ⟨a, ea, rfl⟩ := r2
                simp only [itemsD] at h4
                split at h4
                · rename_i xs em
                  cases h4
                  obtain ⟨vs, e3, rr⟩ := hm.obj n _ a em ea
                  exact lists (.lst (SqL.of e3) (mapO_ok (pyN_ok hm 2) _ vs zs rr e2))
                · cases h4
              | _ => cases h4
          · cases h
theorem fo_in (hu : X.A.units + 65 < cLine) : FOp p X (compareOp .In) oIn := fun pins s σ H x y v u Q I rx ry q => by
  obtain ⟨φ, m, d, e, hm, r1, r2, q⟩ := q
  unfold oIn at q
  cases h : inD m d e with
  | none => rw [h] at q; exact False.elim q
  | some b =>
    rw [h] at q
    exact (inD_run hu I hm rx ry r1 r2 h).1 (q φ H _ Nx.refl hm (by simp [VR]))
theorem fo_notIn (hu : X.A.units + 65 < cLine) : FOp p X (compareOp .NotIn) oNotIn := fun pins s σ H x y v u Q I rx ry q => by
  obtain ⟨φ, m, d, e, hm, r1, r2, q⟩ := q
  unfold oNotIn at q
  cases h : inD m d e with
  | none => rw [h] at q; exact False.elim q
  | some b =>
    rw [h] at q
    exact (inD_run hu I hm rx ry r1 r2 h).2 (q φ H _ Nx.refl hm (by simp [VR]))
end
end DL

set_option Elab.async false
set_option linter.all false
set_option maxRecDepth 100000
set_option maxHeartbeats 4000000
namespace DL
open PySem PySem.Spec PyProof.Rows L2

/-! ### subscripts -/
/-- the items of a list or a tuple -/
def itemsS : D → Mem → Option (List D)
  | .tup xs, _ => some xs
  | .ktup xs, _ => some xs
  | .rol xs, _ => some xs
  | .ref n, m => match m[n]? with
    | some (.lst xs) => some xs
    | _ => none
  | _, _ => none
def oIx (d e : D) (m : Mem) : OAns := match dicR d m with
  | some (t, kvs) => (match isK t e with
    | true => (match valD t e kvs with
      | some v => some (v, m)
      | none => none)
    | false => none)
  | none => match intD e with
    | none => none
    | some i => match itemsS d m with
      | some xs => (match atI xs i with
        | some v => some (v, m)
        | none => none)
      | none => match strD d with
        | some s => (match fits s.length with
          | true => (match atI s i with
            | some c => some (.str [c], m)
            | none => none)
          | false => none)
        | none => none
def FIx (p : Pr) (X : Cx) (o : D → D → Mem → OAns) : Prop := IxR X (tO2 X.K p o)
section
variable {p : Pr} {X : Cx} {K : PySem.W.Frag} {φ : List Addr} {m : Mem} {H : Hp}
theorem items_at {d : D} {v : V} {xs : List D} (hm : HR K p φ m H) (r : VR K p φ H d v) (e : itemsS d m = some xs) : ∃ a vs, v = .ref a ∧ (SqL K H a vs ∨ SqT K H a vs) ∧ VRs K p φ H xs vs := by
  cases d with
  | tup ys => cases e; obtain ⟨a, vs, rfl, s, r⟩ := tup_at r rfl; exact ⟨a, vs, rfl, .inr s, r⟩
  | ktup ys => cases e; obtain ⟨a, vs, rfl, s, r⟩ := tup_at r rfl; exact ⟨a, vs, rfl, .inr s, r⟩
  | rol ys =>
    cases e
    simp only [VR] at r
    obtain ⟨a, vs, rfl, s, r⟩ := r
    refine ⟨a, vs, rfl, .inl ?_, r⟩
    rcases s with ⟨o, s⟩ | s
    · exact .inl (.inr ⟨o, s⟩)
    · exact s H
  | ref n =>
    simp only [VR] at r
    obtain ⟨a, ea, rfl⟩ := r
    simp only [itemsS] at e
    split at e
    · rename_i ys em
      cases e
      obtain ⟨vs, e1, r1⟩ := hm.obj n _ a em ea
      exact ⟨a, vs, rfl, .inl (SqL.of e1), r1⟩
    · cases e
  | _ => cases e
theorem atI_vs {xs : List D} {vs : List V} {i : Int} {d : D} (r : VRs K p φ H xs vs) (e : atI xs i = some d) : ∃ v, atI vs i = some v ∧ VR K p φ H d v := by
  unfold atI at e ⊢
  rw [← r.length]
  cases h : ixN xs.length i with
  | none => rw [h] at e; cases e
  | some j =>
    rw [h] at e
    obtain ⟨v, e1, e2⟩ := r.get (i := j) e
    exact ⟨v, e1, e2⟩
theorem ix_dict (hu : X.A.units + 1 < cLine) : IxR X (fun x y H Q => ∃ a v, x = .ref a ∧ DGet H a y (some v) ∧ Q v H) := by
  intro value slice pins s σ H x y v u Q I rx ry h hs
  obtain ⟨a, w, rfl, g, q⟩ := h
  obtain rfl : v = .ref a := rx
  have hT := dict_typeIs I g
  unfold subscriptTail
  refine wpAny_bind ?_
  rw [getitemInPython_of_ne hT.not_modules]
  refine wpAny_bind (wpAny_specialOf hT PySem.F.slot_dict_getitem.lookup ?_)
  have fin : wpAny (model X.prog X.w) X.A (subscripted slice false (.ref a) u) (fun r s₃ => wpAny (model X.prog X.w) X.A (letTemporaryGo value (.ref a) r >>= fun _ => pure r) (EP X pins σ Q) X.xe s₃) X.xe s := by
    rw [hs]
    refine wpAny_operating (d_getItem hu I g ry fun w' s' I' rw' => ?_)
    exact wpAny_bind (wpAny_letTemporaryGo (wpAny_pure ⟨w, H, I', rw', q⟩))
  first
    | exact wpAny_pure (wpAny_bind fin)
    | exact wpAny_bind (wpAny_pure (wpAny_bind fin))
    | exact wpAny_bind fin
theorem fo_ix (hu : X.A.units + 1 < cLine) : FIx p X oIx := fun value slice pins s σ H x y v u Q I rx ry q hs => by
  obtain ⟨φ, m, d, e, hm, r1, r2, q⟩ := q
  unfold oIx at q
  cases h1 : dicR d m with
  | some z =>
    obtain ⟨t, kvs⟩ := z
    rw [h1] at q
    simp only at q
    cases hk : isK t e with
    | false => rw [hk] at q; exact False.elim q
    | true =>
      rw [hk] at q
      simp only at q
      obtain ⟨a, o, rfl, g, f⟩ := dget_at hm r1 r2 h1 hk
      cases hv : valD t e kvs with
      | none => rw [hv] at q; exact False.elim q
      | some w =>
        rw [hv] at q f
        cases o with
        | none => exact f.elim
        | some w' => exact ix_dict hu value slice pins s σ H _ y v u Q I rx ry ⟨a, w', rfl, g, q φ H w' Nx.refl hm f⟩ hs
  | none =>
    rw [h1] at q
    simp only at q
    cases h2 : intD e with
    | none => rw [h2] at q; exact False.elim q
    | some i =>
      rw [h2] at q
      obtain rfl := intD_ok h2
      simp only [VR] at r2; subst r2
      simp only at q
      cases h3 : itemsS d m with
      | some xs =>
        rw [h3] at q
        simp only at q
        cases h4 : atI xs i with
        | none => rw [h4] at q; exact False.elim q
        | some w =>
          rw [h4] at q
          obtain ⟨a, vs, rfl, sq, rr⟩ := items_at hm r1 h3
          obtain ⟨w', e1, e2⟩ := atI_vs rr h4
          have q' := q φ H w' Nx.refl hm e2
          rcases sq with sq | sq
          · exact ix_list value slice pins s σ H _ _ v u Q I rx ry ⟨a, vs, i, w', rfl, rfl, sq, e1, q'⟩ hs
          · exact ix_tup value slice pins s σ H _ _ v u Q I rx ry ⟨a, vs, i, w', rfl, rfl, sq, e1, q'⟩ hs
      | none =>
        rw [h3] at q
        simp only at q
        cases h4 : strD d with
        | none => rw [h4] at q; exact False.elim q
        | some t =>
          rw [h4] at q
          obtain rfl := strD_ok h4
          simp only [VR] at r1; subst r1
          simp only at q
          cases hf : fits t.length with
          | false => rw [hf] at q; exact False.elim q
          | true =>
            rw [hf] at q
            simp only at q
            cases h5 : atI t i with
            | none => rw [h5] at q; exact False.elim q
            | some c =>
              rw [h5] at q
              exact ix_str value slice pins s σ H _ _ v u Q I rx ry ⟨⟨t.toArray⟩, i, c, rfl, rfl, by simpa [Str.length] using fits_iff.mp hf, by simpa using h5, q φ H _ Nx.refl hm (by simp [VR])⟩ hs
theorem fe_ix {W : WX} {a b : Expr} {f g : FX} {o : D → D → Mem → OAns} {pos : Pos} (hr : FIx p X o) (ha : FE p W X a f) (hb : FE p W X b g) (hs : PlainIx b := by first | (intro _ _; rfl) | exact fun _ _ => rfl) : FE p W X (.Subscript a b pos) (eOp o f g) :=
  ⟨pe_imp (pe_ix hr ha.pe hb.pe hs) fun _ _ _ q => op_body q⟩
end

/-! ### slices -/
abbrev FP0 := DL.Env → Mem → Res (Option Int)
section
variable (K : PySem.W.Frag) (p : Pr)
def postP (W : WX) (σ : St) (φ : List Addr) (H : Hp) (r : Res (Option Int)) (Q : Option Int → Hp → Prop) : Prop := match r with
  | .ok i m' => ∀ φ' H', Nx φ H φ' H' → HR K p φ' m' H' → Q i H'
  | .exc c d m' => ∀ φ' H' dx, Nx φ H φ' H' → HR K p φ' m' H' → XD K p φ' H' c d dx → W (.ref (p.cA c)) dx σ H'
  | .bad => False
def tP0 (W : WX) (f : FP0) : TO := fun σ H Q => ∃ φ ρ m, HR K p φ m H ∧ ER K p φ H ρ σ ∧ postP K p W σ φ H (f ρ m) Q
end
structure FPa (p : Pr) (W : WX) (X : Cx) (e : Option Expr) (f : FP0) : Prop where
  po : PO X e (tP0 X.K p W f)
def pNo : FP0 := fun _ m => .ok none m
def pSo (f : FX) : FP0 := fun ρ m => (f ρ m).bind fun d m1 => match intD d with
  | some i => .ok (some i) m1
  | none => .bad
def cutD {α : Type} (xs : List α) (lo hi : Option Int) : List α := (xs.drop (HT.sIx xs.length 0 lo)).take (HT.sIx xs.length xs.length hi - HT.sIx xs.length 0 lo)
def whole (n : Nat) (lo hi : Option Int) : Bool := Nat.beq (HT.sIx n 0 lo) 0 && Nat.beq (HT.sIx n n hi) n
def oSl (d : D) (lo hi : Option Int) (m : Mem) : OAns := match d with
  | .str s => (match fits s.length with
    | true => some (.str (cutD s lo hi), m)
    | false => none)
  | .tup xs => (match whole xs.length lo hi with
    | true => some (.tup xs, m)
    | false => some (.tup (cutD xs lo hi), m))
  | .ktup xs => (match whole xs.length lo hi with
    | true => some (.ktup xs, m)
    | false => some (.tup (cutD xs lo hi), m))
  | .rol xs => newL (cutD xs lo hi) m
  | .ref n => (match mlst (.ref n) m with
    | some xs => newL (cutD xs lo hi) m
    | none => none)
  | _ => none
def eSl (f : FX) (a b : FP0) : FX := fun ρ m => (f ρ m).bind fun d m1 => (a ρ m1).bind fun lo m2 => (b ρ m2).bind fun hi m3 => liftO (oSl d lo hi m3)
section
variable {p : Pr} {X : Cx} {W : WX} {K : PySem.W.Frag} {φ : List Addr} {m : Mem} {H : Hp} {e : Expr} {lo hi : Option Expr} {f : FX} {a b : FP0} {pos p2 : Pos}
theorem postP.nx {σ : St} {φ1 : List Addr} {H1 : Hp} {r : Res (Option Int)} {Q : Option Int → Hp → Prop} (n : Nx φ H φ1 H1) (h : postP K p W σ φ H r Q) : postP K p W σ φ1 H1 r Q := by
  cases r with
  | ok d m' => exact fun φ' H' n' h' => h φ' H' (n.trans n') h'
  | exc c d m' => exact fun φ' H' dx n' h' q => h φ' H' dx (n.trans n') h' q
  | bad => exact h
theorem fpa_no : FPa p W X none pNo := ⟨⟨fun pins s σ H Q I q => by
  obtain ⟨φ, ρ, m, hm, r, q⟩ := q
  exact po_none.run pins s σ H Q I (q φ H Nx.refl hm)⟩⟩
theorem fpa_so (he : FE p W X e f) : FPa p W X (some e) (pSo f) := ⟨⟨fun pins s σ H Q I q => by
  obtain ⟨φ, ρ, m, hm, r, q⟩ := q
  refine (po_some he.pe).run pins s σ H Q I ⟨φ, ρ, m, hm, r, ?_⟩
  unfold pSo at q
  cases ef : f ρ m with
  | bad => rw [ef] at q; exact q
  | exc c d m' => rw [ef] at q; exact q
  | ok d m' =>
    rw [ef] at q
    simp only [Res.bind_ok] at q
    intro φ' H' v n' h' r'
    cases ei : intD d with
    | none => rw [ei] at q; exact False.elim q
    | some i =>
      rw [ei] at q
      obtain rfl := intD_ok ei
      simp only [VR] at r'; subst r'
      exact ⟨i, rfl, q φ' H' n' h'⟩⟩⟩
theorem VRs.cut {xs : List D} {vs : List V} (r : VRs K p φ H xs vs) (lo hi : Option Int) : VRs K p φ H (cutD xs lo hi) (cutV vs lo hi) := by
  unfold cutD cutV
  rw [← r.length]
  exact (r.drop _).take _
theorem whole_iff {n : Nat} {lo hi : Option Int} : whole n lo hi = true ↔ (HT.sIx n 0 lo = 0 ∧ HT.sIx n n hi = n) := by
  unfold whole
  rw [Bool.and_eq_true, Nat.beq_eq, Nat.beq_eq]
theorem cutS_eq (s : List Nat) (lo hi : Option Int) : cutS ⟨s.toArray⟩ lo hi = ⟨(cutD s lo hi).toArray⟩ := by
  simp [cutS, cutD, Str.length]
def slR (p : Pr) (K : PySem.W.Frag) : V → Option Int → Option Int → Hp → VK → Prop := fun x lo hi H Q => ∃ φ m d, HR K p φ m H ∧ VR K p φ H d x ∧ postO K p φ H (oSl d lo hi m) Q
theorem sl_ok : SlR X (slR p X.K) := fun pins s σ H x v vl vu lo hi sl Q I rx hs pl pu q => by
  obtain ⟨φ, m, d, hm, r1, q⟩ := q
  cases d with
  | str t =>
    simp only [VR] at r1; subst r1
    simp only [oSl] at q
    cases hf : fits t.length with
    | false => rw [hf] at q; exact False.elim q
    | true =>
      rw [hf] at q
      exact sl_str pins s σ H _ v vl vu lo hi sl Q I rx hs pl pu ⟨⟨t.toArray⟩, rfl, by simpa [Str.length] using fits_iff.mp hf, by rw [cutS_eq]; exact q φ H _ Nx.refl hm (by simp [VR])⟩
  | tup xs =>
    have r1' := r1
    obtain ⟨a, vs, rfl, sq, rr⟩ := tup_at r1 rfl
    simp only [oSl] at q
    refine sl_tupA pins s σ H _ v vl vu lo hi sl Q I rx hs pl pu ⟨a, vs, rfl, sq, fun w => ?_, fun w => ?_⟩
    · rw [← rr.length] at w
      rw [whole_iff.mpr w] at q
      exact q φ H _ Nx.refl hm r1'
    · rw [← rr.length] at w
      cases hw : whole xs.length lo hi with
      | true => exact absurd (whole_iff.mp hw) w
      | false => rw [hw] at q; exact newT_ok hm (rr.cut lo hi) q
  | ktup xs =>
    have r1' := r1
    obtain ⟨a, vs, rfl, sq, rr⟩ := tup_at r1 rfl
    simp only [oSl] at q
    refine sl_tupA pins s σ H _ v vl vu lo hi sl Q I rx hs pl pu ⟨a, vs, rfl, sq, fun w => ?_, fun w => ?_⟩
    · rw [← rr.length] at w
      rw [whole_iff.mpr w] at q
      exact q φ H _ Nx.refl hm r1'
    · rw [← rr.length] at w
      cases hw : whole xs.length lo hi with
      | true => exact absurd (whole_iff.mp hw) w
      | false => rw [hw] at q; exact newT_ok hm (rr.cut lo hi) q
  | rol xs =>
    simp only [VR] at r1
    obtain ⟨a, vs, rfl, sq, rr⟩ := r1
    refine sl_list pins s σ H _ v vl vu lo hi sl Q I rx hs pl pu ⟨a, vs, rfl, ?_, newL_ok hm (rr.cut lo hi) q⟩
    rcases sq with ⟨o, sq⟩ | sq
    · exact .inl (.inr ⟨o, sq⟩)
    · exact sq H
  | ref n =>
    simp only [oSl] at q
    split at q
    · rename_i xs e1
      obtain ⟨a, vs, rfl, h1, rr⟩ := mlst_at hm r1 e1
      exact sl_list pins s σ H _ v vl vu lo hi sl Q I rx hs pl pu ⟨a, vs, rfl, SqL.of h1, newL_ok hm (rr.cut lo hi) q⟩
    · exact False.elim q
  | _ => exact False.elim q
theorem stepPE {k : Option Int → Mem → Res D} {σ : St} {ρ : DL.Env} {Q : VK} {c : FP0} (h : HR K p φ m H) (r : ER K p φ H ρ σ) (q : postE K p W σ φ H ((c ρ m).bind k) Q) :
    tP0 K p W c σ H (fun b H1 => ∃ φ1 m1, Nx φ H φ1 H1 ∧ HR K p φ1 m1 H1 ∧ ER K p φ1 H1 ρ σ ∧ postE K p W σ φ1 H1 (k b m1) Q) := by
  refine ⟨φ, ρ, m, h, r, ?_⟩
  revert q
  cases c ρ m with
  | bad => exact fun z => z
  | exc c d m' => exact fun z => z
  | ok d m' => exact fun q φ1 H1 n1 h1 => ⟨φ1, m', n1, h1, r.mono h n1, postE.nx n1 q⟩
theorem fe_sl (he : FE p W X e f) (ha : FPa p W X lo a) (hb : FPa p W X hi b) : FE p W X (.Subscript e (.Slice lo hi none p2) pos) (eSl f a b) := ⟨pe_imp (pe_slice (sl_ok (p := p)) he.pe ha.po hb.po) fun σ H Q q => by
  obtain ⟨φ, ρ, m, hm, r, q⟩ := q
  refine thE ?_ (stepE hm r q)
  rintro v H1 ⟨φ1, d, m1, n1, h1, r1, v1, q1⟩
  have s2 := stepPE h1 r1 q1
  obtain ⟨φa, ρa, ma, hma, ra, qa⟩ := s2
  refine ⟨φa, ρa, ma, hma, ra, ?_⟩
  cases ea : a ρa ma with
  | bad => rw [ea] at qa; exact qa
  | exc c d m' => rw [ea] at qa; exact qa
  | ok lov m2 =>
    rw [ea] at qa
    intro φ2 H2 n2 h2
    obtain ⟨φ2', m2', n2', h2', r2', q2⟩ := qa φ2 H2 n2 h2
    have s3 := stepPE h2' r2' q2
    obtain ⟨φb, ρb, mb, hmb, rb, qb⟩ := s3
    refine ⟨φb, ρb, mb, hmb, rb, ?_⟩
    cases eb : b ρb mb with
    | bad => rw [eb] at qb; exact qb
    | exc c d m' => rw [eb] at qb; exact qb
    | ok hiv m3 =>
      rw [eb] at qb
      intro φ3 H3 n3 h3
      obtain ⟨φ3', m3', n3', h3', r3', q3⟩ := qb φ3 H3 n3 h3
      exact ⟨φ3', m3', d, h3', VR.mono h2' n3' _ _ (VR.mono h1 n2' _ _ v1), postE.lift q3⟩⟩
end
end DL

set_option Elab.async false
set_option linter.all false
set_option maxRecDepth 100000
set_option maxHeartbeats 4000000
namespace DL
open PySem PySem.Spec PyProof.Rows L2

/-! ### stores -/
abbrev FT0 := D → DL.Env → Mem → Option (DL.Env × Mem)
section
variable (K : PySem.W.Frag) (p : Pr)
def postG (φ : List Addr) (H : Hp) (r : Option (DL.Env × Mem)) (Q : St → Hp → Prop) : Prop := match r with
  | some (ρ', m') => ∀ φ' H' σ', Nx φ H φ' H' → HR K p φ' m' H' → ER K p φ' H' ρ' σ' → Q σ' H'
  | none => False
def tG0 (g : FT0) : TG := fun v σ H Q => ∃ φ ρ m d, HR K p φ m H ∧ ER K p φ H ρ σ ∧ VR K p φ H d v ∧ postG K p φ H (g d ρ m) Q
end
structure FG (p : Pr) (X : Cx) (tgt : Expr) (g : FT0) : Prop where
  pg : PG X tgt (tG0 X.K p g)
abbrev FT0s := List D → DL.Env → Mem → Option (DL.Env × Mem)
def tGs0 (K : PySem.W.Frag) (p : Pr) (g : FT0s) : TGs := fun vs σ H Q => ∃ φ ρ m ds, HR K p φ m H ∧ ER K p φ H ρ σ ∧ VRs K p φ H ds vs ∧ postG K p φ H (g ds ρ m) Q
structure FGs (p : Pr) (X : Cx) (tgt : List Expr) (n : Nat) (g : FT0s) : Prop where
  pgs : PGs X tgt (tGs0 X.K p g)
  len : ∀ ds ρ m, ds.length ≠ n → g ds ρ m = none
  ln : tgt.length = n
def gNam (i : Nat) : FT0 := fun d ρ m => some (ρ.set i (some d), m)
def setIx (d e v : D) (m : Mem) : Option Mem := match refD d with
  | none => none
  | some n => match m[n]? with
    | some (.lst xs) => (match intD e with
      | some i => (match ixN xs.length i with
        | some j => some (m.set n (.lst (xs.set j v)))
        | none => none)
      | none => none)
    | some (.dic t kvs) => (match isK t e && fits (kvs.length + 1) with
      | true => some (m.set n (.dic t (putD t kvs e v)))
      | false => none)
    | _ => none
def gIx (f g : FX) : FT0 := fun v ρ m => match f ρ m with
  | .ok d m1 => (match g ρ m1 with
    | .ok e m2 => (match setIx d e v m2 with
      | some m3 => some (ρ, m3)
      | none => none)
    | _ => none)
  | _ => none
def gsNil : FT0s := fun ds ρ m => match ds with
  | [] => some (ρ, m)
  | _ => none
def gsCons (g : FT0) (h : FT0s) : FT0s := fun ds ρ m => match ds with
  | d :: r => (match g d ρ m with
    | some (ρ1, m1) => h r ρ1 m1
    | none => none)
  | [] => none
def gTp (h : FT0s) : FT0 := fun d ρ m => match tupD d with
  | some xs => h xs ρ m
  | none => match mlst d m with
    | some xs => h xs ρ m
    | none => none
section
variable {p : Pr} {X : Cx} {W : WX} {K : PySem.W.Frag} {φ : List Addr} {m : Mem} {H : Hp} {e a b tgt : Expr} {es : List Expr} {f g : FX} {t : FT0} {ts : FT0s} {pos pos' : Pos} {n : Nat}
theorem postG.nx {φ1 : List Addr} {H1 : Hp} {r : Option (DL.Env × Mem)} {Q : St → Hp → Prop} (n : Nx φ H φ1 H1) (h : postG K p φ H r Q) : postG K p φ1 H1 r Q := by
  match r, h with
  | some (ρ, m), h => exact fun φ' H' σ' n' h' q => h φ' H' σ' (n.trans n') h' q
  | none, h => exact h
theorem fg_name {x : Str} (i : Nat) (hN : X.N.Nodup) (hi : X.N[i]? = some x := by rfl) (hx : Loc X.env.scope x := by first | exact .inl rfl | exact .inr rfl) (hf : X.fn x = true ∨ X.env.scope.names.lookup x = some .local := by first | exact .inl rfl | exact .inr rfl | assumption) : FG p X (.Name x pos) (gNam i) := ⟨pg_imp (pg_name (i := i) hN hi hx hf) fun v σ H Q z => by
  obtain ⟨φ, ρ, m, d, h, r, rv, z⟩ := z
  exact z φ H _ Nx.refl h (ER.set rv i r)⟩
def rSetA (p : Pr) (K : PySem.W.Frag) : TSet := fun o i v H Q => ∃ φ m d e x m', HR K p φ m H ∧ VR K p φ H d o ∧ VR K p φ H e i ∧ VR K p φ H x v ∧ setIx d e x m = some m' ∧ ∀ H', Nx φ H φ H' → HR K p φ m' H' → Q H'
theorem dk_dput {kvs : List (Key × V)} {a : Addr} {k : Key} {v : V} (e : H a = some (.dK kvs)) (hl : kvs.length < sizeLine) : DPut H a (kV k) v (upd H a (.dK (putK kvs k v))) := .inl ⟨kvs, k, e, rfl, hl, rfl⟩
theorem set_any (hu : X.A.units + 1 < cLine) : PSet X (rSetA p X.K) := fun pins s σ H o i v ov iv u Q I ro ri rv q => by
  obtain ⟨φ, m, d, e, x, m', hm, r1, r2, r3, es, q⟩ := q
  unfold setIx at es
  cases er : refD d with
  | none => rw [er] at es; cases es
  | some n =>
    rw [er] at es
    obtain rfl := refD_ok er
    have r1' := r1
    simp only [VR] at r1
    obtain ⟨a, ea, rfl⟩ := r1
    have ha : a ∈ φ := List.mem_of_getElem? ea
    simp only at es
    split at es
    · rename_i xs em
      split at es
      · rename_i k ek
        split at es
        · rename_i j ej
          cases es
          obtain rfl := intD_ok ek
          simp only [VR] at r2; subst r2
          obtain ⟨vs, e1, rr⟩ := hm.obj n _ a em ea
          have nx : Nx φ H φ (upd H a (.lst (vs.set j v))) := Nx.put ha fun w ew => by rw [e1] at ew; cases ew; rfl
          exact set_list pins s σ H _ _ v ov iv u Q I ro ri rv ⟨a, vs, k, j, rfl, rfl, e1, by rw [← rr.length]; exact ej, q _ nx (hm.put ea em rfl ⟨_, rfl, VRs.mono hm nx _ _ (rr.set (VR.mono hm Nx.refl _ _ r3) j)⟩)⟩
        · cases es
      · cases es
    · rename_i tt kvs em
      cases hk : isK tt e && fits (kvs.length + 1) with
      | false => rw [hk] at es; cases es
      | true =>
        rw [hk] at es
        rw [Bool.and_eq_true] at hk
        cases es
        have hl := fits_iff.mp hk.2
        have o := hm.obj n _ a em ea
        cases tt with
        | false =>
          obtain ⟨vs, e1, rr⟩ := o
          obtain ⟨k, ek⟩ := key1_some hk.1
          obtain rfl := key1_v r2 ek
          have nx : Nx φ H φ (upd H a (.dK (putK vs k v))) := Nx.put ha fun w ew => by rw [e1] at ew; cases ew; rfl
          exact set_dict hu pins s σ H _ _ v ov iv u Q I ro ri rv ⟨a, _, rfl, dk_dput e1 (by rw [← rr.length]; omega), q _ nx (hm.put ea em rfl ⟨_, rfl, (putD_K ek r3 rr).mono hm nx⟩)⟩
        | true =>
          obtain ⟨vs, e1, rr⟩ := o
          obtain ⟨k, ek⟩ := keyT_some hk.1
          obtain ⟨b, rfl, hb⟩ := keyT_v r2 ek
          have nx : Nx φ H φ (upd H a (.dT (putK vs k v))) := Nx.put ha fun w ew => by rw [e1] at ew; cases ew; rfl
          exact set_dict hu pins s σ H _ _ v ov iv u Q I ro ri rv ⟨a, _, rfl, .inr ⟨vs, k, b, e1, rfl, hb, by rw [← rr.length]; omega, rfl⟩, q _ nx (hm.put ea em rfl ⟨_, rfl, (putD_T ek r3 rr).mono hm nx⟩)⟩
    · cases es
theorem fg_ix (hu : X.A.units + 1 < cLine) (ha : FE p W X a f) (hb : FE p W X b g)
    (has : ∀ v, assign (.Subscript a b pos) X.env v = (do
      let ov ← holding [v] (eval a X.env)
      let iv ← holding [v, ov] (eval b X.env)
      standAt pos
      holding [v, ov, iv] (setItem ov iv v)
      release [v, ov, iv] []) := by intro _; rfl) : FG p X (.Subscript a b pos) (gIx f g) := ⟨pg_imp (pg_sub ha.pe hb.pe (set_any (p := p) hu) has) fun v σ H Q z => by
  obtain ⟨φ, ρ, m, d, h, r, rv, z⟩ := z
  refine ⟨φ, ρ, m, h, r, ?_⟩
  unfold gIx at z
  cases ef : f ρ m with
  | bad => rw [ef] at z; exact False.elim z
  | exc c d m' => rw [ef] at z; exact False.elim z
  | ok x m1 =>
    rw [ef] at z
    intro φ1 H1 v1 n1 h1 r1
    refine ⟨φ1, ρ, m1, h1, r.mono h n1, ?_⟩
    simp only at z
    cases eg : g ρ m1 with
    | bad => rw [eg] at z; exact False.elim z
    | exc c d m' => rw [eg] at z; exact False.elim z
    | ok y m2 =>
      rw [eg] at z
      intro φ2 H2 v2 n2 h2 r2
      simp only at z
      cases es : setIx x y d m2 with
      | none => rw [es] at z; exact False.elim z
      | some m3 =>
        rw [es] at z
        refine ⟨φ2, m2, x, y, d, m3, h2, VR.mono h1 n2 _ _ r1, r2, VR.mono h1 n2 _ _ (VR.mono h n1 _ _ rv), es, fun H3 n3 h3 => ?_⟩
        exact z φ2 H3 σ ((n1.trans n2).trans n3) h3 ((((r.mono h n1).mono h1 n2)).mono h2 n3)⟩
theorem fgs_nil : FGs p X [] 0 gsNil := ⟨pgs_imp pgs_nil fun vs σ H Q z => by
  obtain ⟨φ, ρ, m, ds, h, r, rv, z⟩ := z
  cases ds with
  | nil => simp only [VRs] at rv; exact ⟨rv, z φ H σ Nx.refl h r⟩
  | cons d ds => exact False.elim z, fun ds ρ m h => by cases ds with | nil => exact absurd rfl h | cons d ds => rfl, rfl⟩
theorem fgs_cons (h1 : FG p X e t) (h2 : FGs p X es n ts) (hs : (assignEach (e :: es) X.env).map (·.2) = assign e X.env :: (assignEach es X.env).map (·.2) := by rfl) : FGs p X (e :: es) (n + 1) (gsCons t ts) := by
  refine ⟨pgs_imp (pgs_cons h1.pg h2.pgs hs) fun vs σ H Q z => ?_, fun ds ρ m h => ?_, by simp [h2.ln]⟩
  · obtain ⟨φ, ρ, m, ds, h, r, rv, z⟩ := z
    cases ds with
    | nil => exact False.elim z
    | cons d ds =>
      simp only [VRs] at rv
      obtain ⟨v, vr, rfl, ra, rb⟩ := rv
      refine ⟨v, vr, rfl, φ, ρ, m, d, h, r, ra, ?_⟩
      unfold gsCons at z
      simp only at z
      match t d ρ m, z with
      | none, z => exact z
      | some (ρ1, m1), z => exact fun φ1 H1 σ1 n1 h1 r1 => ⟨φ1, ρ1, m1, ds, h1, r1, VRs.mono h n1 _ _ rb, postG.nx n1 z⟩
  · cases ds with
    | nil => rfl
    | cons d ds =>
      show (match t d ρ m with | some (ρ1, m1) => ts ds ρ1 m1 | none => none) = none
      match t d ρ m with
      | none => rfl
      | some (ρ1, m1) => exact h2.len ds ρ1 m1 (fun z => h (by simp [z]))
theorem fg_tup {k : Nat} (hc : X.calm = true) (h : FGs p X es n ts) (hn : (assignEach es X.env).length = n := by rfl) (hst : (assignEach es X.env).findIdx? (·.1) = none := by rfl) : FG p X (.Tuple es k pos) (gTp ts) := ⟨pg_imp (pg_or (pg_tup hc h.pgs hn hst) (pg_lst hc h.pgs hn hst)) fun v σ H Q z => by
  obtain ⟨φ, ρ, m, d, hm, r, rv, z⟩ := z
  unfold gTp at z
  cases et : tupD d with
  | some xs =>
    rw [et] at z
    simp only at z
    obtain ⟨a, vs, rfl, s, rr⟩ := tup_at rv et
    refine .inl ⟨a, vs, rfl, s, ?_, φ, ρ, m, xs, hm, r, rr, z⟩
    rw [← rr.length]
    exact Decidable.byContradiction fun hl => by rw [h.len xs ρ m hl] at z; exact z
  | none =>
    rw [et] at z
    simp only at z
    cases el : mlst d m with
    | none => rw [el] at z; exact False.elim z
    | some xs =>
      rw [el] at z
      simp only at z
      obtain ⟨a, vs, rfl, s, rr⟩ := mlst_at hm rv el
      refine .inr ⟨a, vs, rfl, SqL.of s, ?_, φ, ρ, m, xs, hm, r, rr, z⟩
      rw [← rr.length]
      exact Decidable.byContradiction fun hl => by rw [h.len xs ρ m hl] at z; exact z⟩
end
/-- target = value -/
def sAsg (f : FX) (g : FT0) : FS := fun ρ m => (f ρ m).toS ρ fun d m1 => match g d ρ m1 with
  | some (ρ1, m2) => some (.nx ρ1, m2)
  | none => none
theorem fs_asg {p : Pr} {X : Cx} {W : WX} {tg e : Expr} {f : FX} {g : FT0} {pos : Pos} (he : FE p W X e f) (hg : FG p X tg g) (hs : swapsWithSole [tg] e pos.line X.env = pure false := by rfl) (hw : swappedStores [tg] e X.env = pure none := by rfl)
    (h1 : (assignEach [tg] X.env).map (·.2) = [assign tg X.env] := by rfl) : FSt p W X (.Assign [tg] e pos) (sAsg f g) := ⟨ps_imp (ps_asg he.pe hg.pg hs hw h1) fun D σ H q => by
  obtain ⟨φ, ρ, m, hm, r, q⟩ := q
  refine thE ?_ (stepES hm r q)
  rintro v H1 ⟨φ1, d, m1, n1, h1, r1, v1, q1⟩
  refine ⟨φ1, ρ, m1, d, h1, r1, v1, ?_⟩
  match g d ρ m1, q1 with
  | none, q1 => exact q1
  | some (ρ1, m2), q1 => exact q1⟩
/-- name = [..] -/
theorem fs_setLc {p : Pr} {X : Cx} {W : WX} {i : Nat} {y : Str} {py : Pos} {elt tg iter : Expr} {ifs : List Expr} {scope : Scope} {own : List (Str × Nat)} {pos spos : Pos} {it : FI} {q : Pat} {t : FB} {f : FX} (hc : X.calm = true) (hN : X.N.Nodup) (hy : X.N[i]? = some y) (hyl : X.env.scope.names.lookup y = some .local)
    (hsw : swapsWith (.ListComp elt [⟨tg, iter, ifs, 0⟩] scope pos) (some (.Name y py)) spos.line X.env = pure true)
    (hi : FIt p W X tg iter it) (ok : BlkOk X.N X.env.scope scope own)
    (hg : ∀ (s : Shared) (H : Hp) (C : Addr) (cl : List (Str × Addr)) (fp : List Addr), FP p (X.blk s H scope (compEnvC scope cl C X.env) fp) tg q)
    (ht : ∀ (s : Shared) (H : Hp) (C : Addr) (cl : List (Str × Addr)) (fp : List Addr), FTs p (X.blk s H scope (compEnvC scope cl C X.env) fp) ifs t)
    (he : ∀ (s : Shared) (H : Hp) (C : Addr) (cl : List (Str × Addr)) (fp : List Addr), FE p WN (X.blk s H scope (compEnvC scope cl C X.env) fp) elt f) (hs : ∀ x, foldedSetIterable iter X.env x = pure x := by intro _; rfl) :
    FSt p W X (.Assign [.Name y py] (.ListComp elt [⟨tg, iter, ifs, 0⟩] scope pos) spos) (sSet i (eNew (lcD it q (own.map (·.2)) t f))) := by
  refine ⟨ps_imp (ps_setLc (g := tP X.K p q) (tt := tT X.K p WN t) (te := tE X.K p WN f) hc hN hy hyl hsw hi.pi ok (fun s H C cl fp => (hg s H C cl fp).pg) (fun s H C cl fp => (ht s H C cl fp).pts) (fun s H C cl fp => (he s H C cl fp).pe) hs) fun D σ H z => ?_⟩
  obtain ⟨φ, ρ, m, hm, r, z⟩ := z
  refine lc_in (W := W) ⟨φ, ρ, m, hm, r, ?_⟩
  unfold sSet eNew at z
  cases eg : lcD it q (own.map (·.2)) t f ρ m with
  | bad => rw [eg] at z; exact z
  | exc c d m' => rw [eg] at z; exact fun φ' H' dx n h' x => z φ' H' σ dx n h' (r.mono hm n) x
  | ok ds m' =>
    rw [eg] at z
    intro φ' H' a vs n' h' na na' e' v'
    have hm' := h'.adopt na' e' v'
    exact z (φ' ++ [a]) H' _ (n'.adopt na) hm' (ER.set (VR.last h'.len) i (r.mono hm (n'.adopt na)))
end DL

set_option Elab.async false
set_option linter.all false
set_option maxRecDepth 100000
set_option maxHeartbeats 4000000
namespace DL
open PySem PySem.Spec PyProof.Rows L2

/-! ### calls of built-ins with one list -/
def FCallL (p : Pr) (X : Cx) (h : Value) (o : List D → Mem → OAns) : Prop := CallR X h fun xs H Q => ∃ φ m ds a vs, xs = [.ref a] ∧ HR X.K p φ m H ∧ SqL X.K H a vs ∧ VRs X.K p φ H ds vs ∧ postO X.K p φ H (o ds m) Q
def eCallL (o : List D → Mem → OAns) (g : FQ) : FX := fun ρ m => (g ρ m).bind fun ds m1 => liftO (o ds m1)
section
variable {p : Pr} {W : WX} {X : Cx} {e : Expr} {g : FQ} {pp pos : Pos} {o : List D → Mem → OAns}
theorem tQ_tA {σ : St} {H : Hp} {Q : List V → Hp → Prop} (q : tQ X.K p W g σ H fun v H1 => Q [v] H1) : (tCons (tQ X.K p W g) tNil) σ H Q := q
theorem eCallL_in {σ : St} {H : Hp} {Q : VK} (q : tE X.K p W (eCallL o g) σ H Q) : tCB (fun xs H Q => ∃ φ m ds a vs, xs = [.ref a] ∧ HR X.K p φ m H ∧ SqL X.K H a vs ∧ VRs X.K p φ H ds vs ∧ postO X.K p φ H (o ds m) Q) (tCons (tQ X.K p W g) tNil) σ H Q := by
  obtain ⟨φ, ρ, m, hm, r, q⟩ := q
  refine ⟨φ, ρ, m, hm, r, ?_⟩
  unfold eCallL at q
  cases eg : g ρ m with
  | bad => rw [eg] at q; exact q
  | exc c d m' => rw [eg] at q; exact q
  | ok ds m' =>
    rw [eg] at q
    exact fun φ' H' a vs n' h' s' v' => ⟨φ', m', ds, a, vs, rfl, h', s', v', postE.lift (postE.nx n' q)⟩
theorem fe_callLB {x : Str} {id : String} (hc : FCallL p X (.builtin id) o) (hm : X.mg x = none) (hv : bootBuiltins x = some (.builtin id)) (ha : FLi p W X e g) (hg : Gl X x := by rfl) (hn : x ≠ "__name__" := by decide) (hdb : (x == ("__debug__" : Str)) = false := by decide)
    (he : starEach [e] X.env = (false, eval e X.env) :: starEach [] X.env := by rfl) (hpl : (backTo pos (starEach [] X.env)).any (·.1) = false := by rfl) : FE p W X (.Call (.Name x pp) [e] [] pos) (eCallL o g) :=
  ⟨pe_imp (pe_callB hc hg hm hv (pa_cons ha.pe pa_nil he) hn hdb he hpl) fun _ _ _ q => eCallL_in q⟩
theorem fe_callLT {x : Str} {T : String} (hc : FCallL p X (.type T) o) (hm : X.mg x = none) (hv : bootBuiltins x = some (.type T)) (ha : FLi p W X e g) (hg : Gl X x := by rfl) (hn : x ≠ "__name__" := by decide) (hdb : (x == ("__debug__" : Str)) = false := by decide)
    (he : starEach [e] X.env = (false, eval e X.env) :: starEach [] X.env := by rfl) (hpl : (backTo pos (starEach [] X.env)).any (·.1) = false := by rfl) : FE p W X (.Call (.Name x pp) [e] [] pos) (eCallL o g) :=
  ⟨pe_imp (pe_callTy hc hg hm hv (pa_cons ha.pe pa_nil he) hn hdb he hpl) fun _ _ _ q => eCallL_in q⟩
end

/-! ### sorting -/
def insB {α : Type} (le : α → α → Bool) (x : α) : List α → List α
  | [] => [x]
  | y :: ys => match le x y with
    | true => x :: y :: ys
    | false => y :: insB le x ys
def isortB {α : Type} (le : α → α → Bool) : List α → List α
  | [] => []
  | x :: xs => insB le x (isortB le xs)
section
variable {α : Type} {le : α → α → Bool}
theorem insB_perm (x : α) : ∀ l : List α, (insB le x l).Perm (x :: l)
  | [] => .refl _
  | y :: ys => by
    show (match le x y with | true => x :: y :: ys | false => y :: insB le x ys).Perm _
    cases le x y with
    | true => exact .refl _
    | false => exact ((insB_perm x ys).cons y).trans (.swap x y ys)
theorem isortB_perm : ∀ l : List α, (isortB le l).Perm l
  | [] => .refl _
  | x :: xs => (insB_perm x _).trans ((isortB_perm xs).cons x)
theorem insB_sorted (tr : ∀ a b c, le a b = true → le b c = true → le a c = true) (to : ∀ a b, le a b = true ∨ le b a = true) (x : α) : ∀ l : List α, l.Pairwise (fun a b => le a b = true) → (insB le x l).Pairwise (fun a b => le a b = true)
  | [], _ => by simp [insB]
  | y :: ys, h => by
    obtain ⟨h1, h2⟩ := List.pairwise_cons.mp h
    show (match le x y with | true => x :: y :: ys | false => y :: insB le x ys).Pairwise _
    cases e : le x y with
    | true => exact List.pairwise_cons.mpr ⟨fun z hz => by
        rcases List.mem_cons.mp hz with rfl | hz
        · exact e
        · exact tr _ _ _ e (h1 z hz), h⟩
    | false =>
      have yx : le y x = true := (to y x).resolve_right (by rw [e]; simp)
      refine List.pairwise_cons.mpr ⟨fun z hz => ?_, insB_sorted tr to x ys h2⟩
      rcases List.mem_cons.mp ((insB_perm x ys).mem_iff.mp hz) with rfl | hz
      · exact yx
      · exact h1 z hz
theorem isortB_sorted (tr : ∀ a b c, le a b = true → le b c = true → le a c = true) (to : ∀ a b, le a b = true ∨ le b a = true) : ∀ l : List α, (isortB le l).Pairwise (fun a b => le a b = true)
  | [] => .nil
  | x :: xs => insB_sorted tr to x _ (isortB_sorted tr to xs)
theorem isortB_eq (tr : ∀ a b c, le a b = true → le b c = true → le a c = true) (to : ∀ a b, le a b = true ∨ le b a = true) (an : ∀ a b, le a b = true → le b a = true → a = b) (l : List α) : l.mergeSort le = isortB le l :=
  List.Perm.eq_of_pairwise (fun a b _ _ => an a b) (List.pairwise_mergeSort tr (fun a b => by rcases to a b with h | h <;> simp [h]) l) (isortB_sorted tr to l) ((List.mergeSort_perm l le).trans (isortB_perm l).symm)
end
def leI (a b : Int) : Bool := decide (a ≤ b)
def leN (a b : List Nat) : Bool := !ltNs b a
def leT (a b : List Int) : Bool := !HT.lexLt b a
theorem lexLt_dec : ∀ xs ys : List Int, HT.lexLt xs ys = decide (xs < ys)
  | [], [] => by simp [HT.lexLt]
  | [], y :: ys => by simp [HT.lexLt]
  | x :: xs, [] => by simp [HT.lexLt]
  | x :: xs, y :: ys => by
    show (if x = y then HT.lexLt xs ys else decide (x < y)) = _
    by_cases h : x = y
    · subst h
      rw [if_pos rfl, lexLt_dec xs ys]
      simp [List.cons_lt_cons_iff]
    · rw [if_neg h]
      simp [List.cons_lt_cons_iff, h]
theorem leT_eq (a b : List Int) : leT a b = decide (a ≤ b) := by
  unfold leT
  rw [lexLt_dec]
  by_cases h : b < a
  · have : ¬ a ≤ b := fun q => List.not_lt.mpr q h
    simp [h, this]
  · have : a ≤ b := List.not_lt.mp h
    simp [h, this]
theorem leN_eq (a b : List Nat) : leN a b = decide (a ≤ b) := by
  unfold leN
  rw [ltNs_eq]
  by_cases h : b < a
  · have : ¬ a ≤ b := fun q => List.not_lt.mpr q h
    simp [h, this]
  · have : a ≤ b := List.not_lt.mp h
    simp [h, this]
/-- texts, tuples of ints -/
def strsD : List D → Option (List (List Nat))
  | [] => some []
  | d :: ds => match strD d, strsD ds with
    | some s, some r => some (s :: r)
    | _, _ => none
def tupsI : List D → Option (List (List Int))
  | [] => some []
  | d :: ds => match tupK d with
    | some xs => (match intsD xs, tupsI ds with
      | some (i :: is), some r => some ((i :: is) :: r)
      | _, _ => none)
    | none => none
def mkT (is : List Int) : D := .tup (is.map .int)
def qSort (ds : List D) (m : Mem) : OAns := match fits ds.length with
  | false => none
  | true => match intsD ds with
    | some is => newL ((isortB leI is).map .int) m
    | none => match strsD ds with
      | some ss => newL ((isortB leN ss).map .str) m
      | none => match tupsI ds with
        | some ts => newL ((isortB leT ts).map mkT) m
        | none => none
section
variable {p : Pr} {X : Cx} {K : PySem.W.Frag} {φ : List Addr} {m : Mem} {H : Hp}
theorem eachIs_of {β : Type} {R : Value → β → Prop} {toD : β → D} (hR : ∀ b (v : V) u, VR K p φ H (toD b) v → RelV v u → R u b) : ∀ {bs : List β} {vs : List V} {us : List Value}, VRs K p φ H (bs.map toD) vs → Vals vs us → PySem.W.EachIs R us bs
  | [], vs, us, r, rv => by
    simp only [List.map_nil, VRs] at r; subst r
    cases rv; exact .nil
  | b :: bs, vs, us, r, rv => by
    simp only [List.map_cons, VRs] at r
    obtain ⟨v, t, rfl, r1, r2⟩ := r
    cases rv with
    | cons a c => exact .cons (hR b v _ r1 a) (eachIs_of hR r2 c)
theorem of_eachIs {β : Type} {R : Value → β → Prop} {toD : β → D} (hR : ∀ b u, R u b → ∃ v, RelV v u ∧ VR K p φ H (toD b) v) : ∀ {bs : List β} {us : List Value}, PySem.W.EachIs R us bs → ∃ vs, Vals vs us ∧ VRs K p φ H (bs.map toD) vs
  | _, _, .nil => ⟨[], .nil, by simp [VRs]⟩
  | _, _, .cons a c => by
    obtain ⟨v, r1, r2⟩ := hR _ _ a
    obtain ⟨vs, q1, q2⟩ := of_eachIs hR c
    exact ⟨v :: vs, .cons r1 q1, by simp only [List.map_cons, VRs]; exact ⟨v, vs, rfl, r2, q2⟩⟩
/-- sorted(xs) of what is encoded -/
theorem sorted_enc {β : Type} {toD : β → D} {enc : β → PyData} {le : β → β → Bool} {pins : List (Addr × Obj)} {s : Shared} {σ : St} {bs : List β} {a : Addr} {vs : List V} {Q : VK} (hu : X.A.units + 66 < cLine) (I : Inv X pins σ H s) (hm : HR X.K p φ m H) (sq : SqL X.K H a vs) (r : VRs X.K p φ H (bs.map toD) vs)
    (hD : ∀ b v, VR X.K p φ H (toD b) v → Dp X.K H v (enc b)) (hal : PySem.W.AllAlike (bs.map enc)) (hk : PySem.W.Sortable (bs.map enc)) (hd : ∀ b ∈ bs, (enc b).depth ≤ 64) (hle : PySem.W.dataLe false enc = le)
    (tr : ∀ a b c, le a b = true → le b c = true → le a c = true) (to : ∀ a b, le a b = true ∨ le b a = true) (an : ∀ a b, le a b = true → le b a = true → a = b) (q : postO X.K p φ H (newL ((isortB le bs).map toD) m) Q) :
    wpAny (model X.prog X.w) X.A (call (.builtin "sorted") [.ref a]) (EP X pins σ Q) X.xe s := by
  obtain ⟨its, rv, hl, hz⟩ := I.list sq
  have hlen : bs.length = its.length := by rw [← rv.length, ← r.length, List.length_map]
  refine PySem.W.sorted_data (R := fun u b => ∃ v, RelV v u ∧ VR X.K p φ H (toD b) v) (enc := enc) (bs := bs) hl.isList (eachIs_of (fun b v u h1 h2 => ⟨v, h2, h1⟩) r rv) (eachIs_of (fun b v u h1 h2 => Dp.reads I (enc b) v u (hD b v h1) h2) r rv) hal hk (by rw [hlen, ← rv.length]; exact hz) (fun b hb => by have := hd b hb; omega) fun out h1 h2 => ?_
  rw [hle, isortB_eq tr to an] at h2
  obtain ⟨ws, w1, w2⟩ := of_eachIs (fun b u h => h) h2
  obtain ⟨ep, he'⟩ := PyProof.Rows.sortedAll_at s.heap its out.toArray
  have hlen2 : ws.length ≤ sizeLine := by rw [w1.length, h1, hlen, ← rv.length]; exact hz
  exact ⟨.ref _, upd H (s.heap.objs.size + 1) (.lst ws), I.laid (t' := s.toks) (fun _ _ => PyProof.Rows.sortedAll_old) (Nat.le_succ _) ⟨hlen2, out, ep, w1, he'⟩, rfl, newL_ok hm w2 q _ (I.hok.fresh (Nat.le_succ _))⟩
theorem intsD_map : ∀ {ds : List D} {is : List Int}, intsD ds = some is → ds = is.map .int
  | [], is, e => by cases e; rfl
  | d :: ds, is, e => by
    simp only [intsD] at e
    split at e
    · rename_i i js e1 e2
      cases e
      rw [intD_ok e1, intsD_map e2]; rfl
    · cases e
theorem intsD_of : ∀ is : List Int, intsD (is.map .int) = some is
  | [] => rfl
  | i :: is => by simp [intsD, intD, intsD_of is]
theorem strsD_map : ∀ {ds : List D} {is : List (List Nat)}, strsD ds = some is → ds = is.map .str
  | [], is, e => by cases e; rfl
  | d :: ds, is, e => by
    simp only [strsD] at e
    split at e
    · rename_i i js e1 e2
      cases e
      rw [strD_ok e1, strsD_map e2]; rfl
    · cases e
theorem tupsI_map : ∀ {ds : List D} {is : List (List Int)}, tupsI ds = some is → ds = is.map mkT ∧ ∀ t ∈ is, t ≠ []
  | [], is, e => by cases e; exact ⟨rfl, by simp⟩
  | d :: ds, is, e => by
    simp only [tupsI] at e
    split at e
    · rename_i xs e0
      split at e
      · rename_i i js r e1 e2
        cases e
        obtain ⟨k1, k2⟩ := tupsI_map e2
        refine ⟨?_, ?_⟩
        · rw [tupK_ok e0, intsD_map e1, k1]; rfl
        · intro t ht
          rcases List.mem_cons.mp ht with rfl | ht
          · simp
          · exact k2 t ht
      · cases e
    · cases e
theorem dpAll_ints {vs : List V} : ∀ {is : List Int}, vs = is.map V.int → DpAll K H vs (is.map .int)
  | [], e => by subst e; exact .nil
  | i :: is, e => by subst e; exact .cons (.int i) (dpAll_ints rfl)
theorem cl_sorted (hu : X.A.units + 66 < cLine) : FCallL p X (.builtin "sorted") qSort := fun pins s σ H xs us Q I r q => by
  obtain ⟨φ, m, ds, a, vs, rfl, hm, sq, rv, q⟩ := q
  rw [Vals.ref1 r]
  unfold qSort at q
  cases hf : fits ds.length with
  | false => rw [hf] at q; exact False.elim q
  | true =>
    rw [hf] at q
    simp only at q
    cases h1 : intsD ds with
    | some is =>
      rw [h1] at q
      obtain rfl := intsD_map h1
      refine sorted_enc (enc := .int) (le := leI) hu I hm sq rv (fun b v h => by simp only [VR] at h; subst h; exact .int b) (PySem.W.AllAlike.of fun _ _ => by simp [PySem.W.alike]) (PySem.W.Sortable.others fun b => ⟨by simp, by simp⟩) (fun b _ => by simp [PyData.depth]) (PySem.W.dataLe_int id) ?_ ?_ ?_ q
      · intro a b c h1 h2; simp only [leI, decide_eq_true_eq] at *; omega
      · intro a b; simp only [leI, decide_eq_true_eq]; omega
      · intro a b h1 h2; simp only [leI, decide_eq_true_eq] at *; omega
    | none =>
      rw [h1] at q
      simp only at q
      cases h2 : strsD ds with
      | some ss =>
        rw [h2] at q
        obtain rfl := strsD_map h2
        refine sorted_enc (enc := fun b => .str ⟨b.toArray⟩) (le := leN) hu I hm sq rv (fun b v h => by simp only [VR] at h; subst h; exact .str _) (PySem.W.AllAlike.of fun _ _ => by simp [PySem.W.alike]) (PySem.W.Sortable.others fun b => ⟨by simp, by simp⟩) (fun b _ => by simp [PyData.depth]) ?_ ?_ ?_ ?_ q
        · rw [PySem.W.dataLe_str fun b : List Nat => (⟨b.toArray⟩ : Str)]; funext a b; simp [leN_eq]
        · intro a b c h1 h2; rw [leN_eq, decide_eq_true_eq] at *; exact List.le_trans h1 h2
        · intro a b; rw [leN_eq, leN_eq, decide_eq_true_eq, decide_eq_true_eq]; exact List.le_total a b
        · intro a b h1 h2; rw [leN_eq, decide_eq_true_eq] at *; exact List.le_antisymm h1 h2
      | none =>
        rw [h2] at q
        simp only at q
        cases h3 : tupsI ds with
        | none => rw [h3] at q; exact False.elim q
        | some ts =>
          rw [h3] at q
          obtain ⟨rfl, hne⟩ := tupsI_map h3
          refine sorted_enc (enc := fun b => .tuple (b.map .int)) (le := leT) hu I hm sq rv (fun b v h => ?_) ?_ ?_ (fun b _ => ?_) ?_ ?_ ?_ ?_ q
          · obtain ⟨a, vs, rfl, s1, r1⟩ := tup_at h rfl
            have := intsD_ok (is := b) r1 (intsD_of b)
            exact .tup s1 (dpAll_ints this)
          · exact PySem.W.AllAlike.of fun b b' => by simp only [PySem.W.alike]; exact PySem.W.alike_ints b b'
          · refine .inl fun d hd => ?_
            obtain ⟨b, hb, rfl⟩ := List.mem_map.mp hd
            cases b with
            | nil => exact absurd rfl (hne _ hb)
            | cons i is => exact ⟨_, _, rfl⟩
          · show (PyData.tuple (b.map .int)).depth ≤ 64
            simp only [PyData.depth]
            rw [PySem.W.depth_ints]; omega
          · funext a b
            show (!PySem.W.dataLt (.tuple (b.map .int)) (.tuple (a.map .int))) = _
            rw [PySem.W.dataLt_tuple]
            show (!PySem.W.rowLt (b.map .int) (a.map .int)) = _
            rw [PySem.W.dataLt_ints, leT, lexLt_dec]
          · intro a b c h1 h2; rw [leT_eq, decide_eq_true_eq] at *; exact List.le_trans h1 h2
          · intro a b; rw [leT_eq, leT_eq, decide_eq_true_eq, decide_eq_true_eq]; exact List.le_total a b
          · intro a b h1 h2; rw [leT_eq, decide_eq_true_eq] at *; exact List.le_antisymm h1 h2
/-! ### sum, all, any, max, min, len, tuple, list -/
def blsD : List D → Option (List Bool)
  | [] => some []
  | d :: ds => match d with
    | .bl b => (match blsD ds with
      | some r => some (b :: r)
      | none => none)
    | _ => none
theorem blsD_map : ∀ {ds : List D} {is : List Bool}, blsD ds = some is → ds = is.map .bl
  | [], is, e => by cases e; rfl
  | d :: ds, is, e => by
    cases d with
    | bl b =>
      simp only [blsD] at e
      split at e
      · rename_i r e2; cases e; rw [blsD_map e2]; rfl
      · cases e
    | _ => cases e
theorem vrs_bls : ∀ {is : List Bool} {vs : List V}, VRs K p φ H (is.map .bl) vs → vs = is.map V.bl
  | [], vs, r => by simp only [List.map_nil, VRs] at r; exact r
  | b :: bs, vs, r => by
    simp only [List.map_cons, VRs, VR] at r
    obtain ⟨v, t, rfl, rfl, r2⟩ := r
    rw [vrs_bls r2]; rfl
def sumI : List Int → Int
  | [] => 0
  | x :: xs => x + sumI xs
theorem sumI_eq : ∀ xs : List Int, sumI xs = xs.sum
  | [] => rfl
  | x :: xs => by rw [List.sum_cons, ← sumI_eq xs]; rfl
def qSum (ds : List D) (m : Mem) : OAns := match intsD ds with
  | some is => some (.int (sumI is), m)
  | none => none
def allB : List Bool → Bool
  | [] => true
  | b :: bs => b && allB bs
def anyB : List Bool → Bool
  | [] => false
  | b :: bs => b || anyB bs
theorem allB_eq : ∀ bs : List Bool, allB bs = bs.all id
  | [] => rfl
  | b :: bs => by simp [allB, allB_eq bs]
theorem anyB_eq : ∀ bs : List Bool, anyB bs = bs.any id
  | [] => rfl
  | b :: bs => by simp [anyB, anyB_eq bs]
def qAll (ds : List D) (m : Mem) : OAns := match blsD ds with
  | some is => some (.bl (allB is), m)
  | none => none
def qAny (ds : List D) (m : Mem) : OAns := match blsD ds with
  | some is => some (.bl (anyB is), m)
  | none => none
def maxI (x : Int) : List Int → Int
  | [] => x
  | y :: ys => match decide (x < y) with
    | true => maxI y ys
    | false => maxI x ys
def minI (x : Int) : List Int → Int
  | [] => x
  | y :: ys => match decide (y < x) with
    | true => minI y ys
    | false => minI x ys
theorem maxI_ge : ∀ (ys : List Int) (x : Int), x ≤ maxI x ys ∧ (∀ y ∈ ys, y ≤ maxI x ys) ∧ (maxI x ys = x ∨ maxI x ys ∈ ys)
  | [], x => ⟨Int.le_refl _, by simp, .inl rfl⟩
  | y :: ys, x => by
    simp only [maxI]
    cases e : decide (x < y) with
    | true =>
      obtain ⟨a, b, c⟩ := maxI_ge ys y
      have := of_decide_eq_true e
      refine ⟨by simp only; omega, fun z hz => ?_, ?_⟩
      · rcases List.mem_cons.mp hz with rfl | hz
        · exact a
        · exact b z hz
      · rcases c with c | c
        · exact .inr (by simp only; rw [c]; simp)
        · exact .inr (List.mem_cons_of_mem _ c)
    | false =>
      obtain ⟨a, b, c⟩ := maxI_ge ys x
      have := of_decide_eq_false e
      refine ⟨a, fun z hz => ?_, ?_⟩
      · rcases List.mem_cons.mp hz with rfl | hz
        · simp only; omega
        · exact b z hz
      · rcases c with c | c
        · exact .inl c
        · exact .inr (List.mem_cons_of_mem _ c)
theorem minI_le : ∀ (ys : List Int) (x : Int), minI x ys ≤ x ∧ (∀ y ∈ ys, minI x ys ≤ y) ∧ (minI x ys = x ∨ minI x ys ∈ ys)
  | [], x => ⟨Int.le_refl _, by simp, .inl rfl⟩
  | y :: ys, x => by
    simp only [minI]
    cases e : decide (y < x) with
    | true =>
      obtain ⟨a, b, c⟩ := minI_le ys y
      have := of_decide_eq_true e
      refine ⟨by simp only; omega, fun z hz => ?_, ?_⟩
      · rcases List.mem_cons.mp hz with rfl | hz
        · exact a
        · exact b z hz
      · rcases c with c | c
        · exact .inr (by simp only; rw [c]; simp)
        · exact .inr (List.mem_cons_of_mem _ c)
    | false =>
      obtain ⟨a, b, c⟩ := minI_le ys x
      have := of_decide_eq_false e
      refine ⟨a, fun z hz => ?_, ?_⟩
      · rcases List.mem_cons.mp hz with rfl | hz
        · simp only; omega
        · exact b z hz
      · rcases c with c | c
        · exact .inl c
        · exact .inr (List.mem_cons_of_mem _ c)
def qMax (ds : List D) (m : Mem) : OAns := match intsD ds with
  | some (i :: is) => some (.int (maxI i is), m)
  | _ => none
def qMin (ds : List D) (m : Mem) : OAns := match intsD ds with
  | some (i :: is) => some (.int (minI i is), m)
  | _ => none
def qLen (ds : List D) (m : Mem) : OAns := some (.int ds.length, m)
def qTup (ds : List D) (m : Mem) : OAns := some (.tup ds, m)
def qList (ds : List D) (m : Mem) : OAns := newL ds m
theorem cl_sum (hc : X.calm = true) : FCallL p X (.builtin "sum") qSum := fun pins s σ H xs us Q I r q => by
  obtain ⟨φ, m, ds, a, vs, rfl, hm, sq, rv, q⟩ := q
  unfold qSum at q
  cases h1 : intsD ds with
  | none => rw [h1] at q; exact False.elim q
  | some is =>
    rw [h1] at q
    obtain rfl := intsD_ok rv h1
    exact cr_sum hc pins s σ H _ us Q I r ⟨a, is, rfl, sq, by rw [← sumI_eq]; exact q φ H _ Nx.refl hm (by simp [VR])⟩
theorem cl_all (hc : X.calm = true) : FCallL p X (.builtin "all") qAll := fun pins s σ H xs us Q I r q => by
  obtain ⟨φ, m, ds, a, vs, rfl, hm, sq, rv, q⟩ := q
  unfold qAll at q
  cases h1 : blsD ds with
  | none => rw [h1] at q; exact False.elim q
  | some is =>
    rw [h1] at q
    obtain rfl := blsD_map h1
    obtain rfl := vrs_bls rv
    exact cr_all hc pins s σ H _ us Q I r ⟨a, is, rfl, sq, by rw [← allB_eq]; exact q φ H _ Nx.refl hm (by simp [VR])⟩
theorem cl_any (hc : X.calm = true) : FCallL p X (.builtin "any") qAny := fun pins s σ H xs us Q I r q => by
  obtain ⟨φ, m, ds, a, vs, rfl, hm, sq, rv, q⟩ := q
  unfold qAny at q
  cases h1 : blsD ds with
  | none => rw [h1] at q; exact False.elim q
  | some is =>
    rw [h1] at q
    obtain rfl := blsD_map h1
    obtain rfl := vrs_bls rv
    exact cr_any hc pins s σ H _ us Q I r ⟨a, is, rfl, sq, by rw [← anyB_eq]; exact q φ H _ Nx.refl hm (by simp [VR])⟩
theorem cl_max (hc : X.calm = true) : FCallL p X (.builtin "max") qMax := fun pins s σ H xs us Q I r q => by
  obtain ⟨φ, m, ds, a, vs, rfl, hm, sq, rv, q⟩ := q
  unfold qMax at q
  split at q
  · rename_i i is h1
    obtain rfl := intsD_ok rv h1
    refine cr_max hc pins s σ H _ us Q I r ⟨a, i :: is, rfl, sq, by simp, fun M hM hle => ?_⟩
    obtain ⟨k1, k2, k3⟩ := maxI_ge is i
    have : M = maxI i is := by
      have a1 : M ≤ maxI i is := by
        rcases List.mem_cons.mp hM with rfl | h
        · exact k1
        · exact k2 _ h
      have a2 : maxI i is ≤ M := by
        rcases k3 with h | h
        · rw [h]; exact hle _ (by simp)
        · exact hle _ (List.mem_cons_of_mem _ h)
      omega
    rw [this]
    exact q φ H _ Nx.refl hm (by simp [VR])
  · exact False.elim q
theorem cl_min (hc : X.calm = true) : FCallL p X (.builtin "min") qMin := fun pins s σ H xs us Q I r q => by
  obtain ⟨φ, m, ds, a, vs, rfl, hm, sq, rv, q⟩ := q
  unfold qMin at q
  split at q
  · rename_i i is h1
    obtain rfl := intsD_ok rv h1
    refine cr_min hc pins s σ H _ us Q I r ⟨a, i :: is, rfl, sq, by simp, fun M hM hle => ?_⟩
    obtain ⟨k1, k2, k3⟩ := minI_le is i
    have : M = minI i is := by
      have a1 : minI i is ≤ M := by
        rcases List.mem_cons.mp hM with rfl | h
        · exact k1
        · exact k2 _ h
      have a2 : M ≤ minI i is := by
        rcases k3 with h | h
        · rw [h]; exact hle _ (by simp)
        · exact hle _ (List.mem_cons_of_mem _ h)
      omega
    rw [this]
    exact q φ H _ Nx.refl hm (by simp [VR])
  · exact False.elim q
theorem cl_len : FCallL p X (.builtin "len") qLen := fun pins s σ H xs us Q I r q => by
  obtain ⟨φ, m, ds, a, vs, rfl, hm, sq, rv, q⟩ := q
  exact call_len_seq pins s σ H _ us Q I r ⟨a, vs, rfl, .inl sq, by rw [← rv.length]; exact q φ H _ Nx.refl hm (by simp [VR])⟩
theorem cl_tup : FCallL p X (.type "tuple") qTup := fun pins s σ H xs us Q I r q => by
  obtain ⟨φ, m, ds, a, vs, rfl, hm, sq, rv, q⟩ := q
  exact call_tuple_of pins s σ H _ us Q I r ⟨a, vs, rfl, .inl ⟨sq, newT_ok hm rv q⟩⟩
theorem cl_list : FCallL p X (.type "list") qList := fun pins s σ H xs us Q I r q => by
  obtain ⟨φ, m, ds, a, vs, rfl, hm, sq, rv, q⟩ := q
  exact call_list_of pins s σ H _ us Q I r ⟨a, vs, rfl, .inl sq, newL_ok hm rv q⟩
end
end DL

set_option Elab.async false
set_option linter.all false
set_option maxRecDepth 100000
set_option maxHeartbeats 4000000
namespace DL
open PySem PySem.Spec PyProof.Rows L2

/-! ### calls of built-ins with values -/
def one (o : D → Mem → OAns) (ds : List D) (m : Mem) : OAns := match ds with
  | [d] => o d m
  | _ => none
def two (o : D → D → Mem → OAns) (ds : List D) (m : Mem) : OAns := match ds with
  | [d, e] => o d e m
  | _ => none
def lenD (d : D) (m : Mem) : Option Nat := match itemsS d m with
  | some xs => some xs.length
  | none => match strD d with
    | some s => (match fits s.length with
      | true => some s.length
      | false => none)
    | none => match dicR d m with
      | some (_, kvs) => some kvs.length
      | none => none
def vLen (d : D) (m : Mem) : OAns := match lenD d m with
  | some n => some (.int n, m)
  | none => none
def vTup (d : D) (m : Mem) : OAns := match tupD d with
  | some _ => some (d, m)
  | none => match lstD d m with
    | some xs => some (.tup xs, m)
    | none => none
def vList (d : D) (m : Mem) : OAns := match itemsS d m with
  | some xs => newL xs m
  | none => none
def vAbs (d : D) (m : Mem) : OAns := match intD d with
  | some i => some (.int (match decide (i < 0) with | true => -i | false => i), m)
  | none => none
def vInt (d : D) (m : Mem) : OAns := match d with
  | .int i => some (.int i, m)
  | .bl b => some (.int (ob2i b), m)
  | _ => none
def vMax (d e : D) (m : Mem) : OAns := match intD d, intD e with
  | some i, some j => some (.int (match decide (j > i) with | true => j | false => i), m)
  | _, _ => none
def vMin (d e : D) (m : Mem) : OAns := match intD d, intD e with
  | some i, some j => some (.int (match decide (j < i) with | true => j | false => i), m)
  | _, _ => none
def dmOk (j : Int) : Bool := decide (0 < j) && decide (j < 1073741824)
def vDm (d e : D) (m : Mem) : OAns := match intD d, intD e with
  | some i, some j => (match dmOk j with
    | true => some (.tup [.int (i / j), .int (i % j)], m)
    | false => none)
  | _, _ => none
def vGcd (d e : D) (m : Mem) : OAns := match intD d, intD e with
  | some i, some j => some (.int ((Nat.gcd i.natAbs j.natAbs : Nat) : Int), m)
  | _, _ => none
section
variable {p : Pr} {X : Cx} {K : PySem.W.Frag} {φ : List Addr} {m : Mem} {H : Hp}
theorem fc_one {h : Value} {o : D → Mem → OAns} (hh : CallR X h fun xs H Q => ∃ φ m d x, xs = [x] ∧ HR X.K p φ m H ∧ VR X.K p φ H d x ∧ postO X.K p φ H (o d m) Q) : FCall p X h (one o) := fun pins s σ H xs us Q I r q => by
  obtain ⟨φ, m, ds, hm, rv, q⟩ := q
  match ds, rv, q with
  | [], _, q => exact False.elim q
  | _ :: _ :: _, _, q => exact False.elim q
  | [d], rv, q =>
    simp only [VRs] at rv
    obtain ⟨v, _, rfl, r1, rfl⟩ := rv
    exact hh pins s σ H _ us Q I r ⟨φ, m, d, v, rfl, hm, r1, q⟩
theorem fc_two {h : Value} {o : D → D → Mem → OAns} (hh : CallR X h fun xs H Q => ∃ φ m d e x y, xs = [x, y] ∧ HR X.K p φ m H ∧ VR X.K p φ H d x ∧ VR X.K p φ H e y ∧ postO X.K p φ H (o d e m) Q) : FCall p X h (two o) := fun pins s σ H xs us Q I r q => by
  obtain ⟨φ, m, ds, hm, rv, q⟩ := q
  match ds, rv, q with
  | [], _, q => exact False.elim q
  | [_], _, q => exact False.elim q
  | _ :: _ :: _ :: _, _, q => exact False.elim q
  | [d, e], rv, q =>
    simp only [VRs] at rv
    obtain ⟨v, _, rfl, r1, u, _, rfl, r2, rfl⟩ := rv
    exact hh pins s σ H _ us Q I r ⟨φ, m, d, e, v, u, rfl, hm, r1, r2, q⟩
theorem line62 : (sizeLine : Nat) < 2 ^ 62 := by decide
theorem dicR_at {d : D} {x : V} {t : Bool} {kvs : List (D × D)} (hm : HR K p φ m H) (r : VR K p φ H d x) (h : dicR d m = some (t, kvs)) : ∃ a, x = .ref a ∧ ((t = false ∧ ∃ vs, Rd H a (.dK vs) ∧ KR K p φ H kvs vs) ∨ t = true ∧ ∃ vs, Rd H a (.dT vs) ∧ TR K p φ H kvs vs) := by
  unfold dicR at h
  cases er : refD d with
  | none => rw [er] at h; cases h
  | some n =>
    rw [er] at h
    obtain rfl := refD_ok er
    simp only [VR] at r
    obtain ⟨a, ea, rfl⟩ := r
    refine ⟨a, rfl, ?_⟩
    simp only at h
    split at h
    · rename_i t' ks em
      cases h
      have q := hm.obj n _ a em ea
      cases t with
      | false => obtain ⟨vs, e1, rr⟩ := q; exact .inl ⟨rfl, vs, .inl e1, rr⟩
      | true => obtain ⟨vs, e1, rr⟩ := q; exact .inr ⟨rfl, vs, .inl e1, rr⟩
    · rename_i t' ks em
      cases h
      have q := hm.obj n _ a em ea
      cases t with
      | false => obtain ⟨od, vs, e1, rr⟩ := q; exact .inl ⟨rfl, vs, .inr ⟨od, e1⟩, rr⟩
      | true => obtain ⟨od, vs, e1, rr⟩ := q; exact .inr ⟨rfl, vs, .inr ⟨od, e1⟩, rr⟩
    · cases h
theorem fc_len : FCall p X (.builtin "len") (one vLen) := fc_one fun pins s σ H xs us Q I r q => by
  obtain ⟨φ, m, d, x, rfl, hm, r1, q⟩ := q
  unfold vLen lenD at q
  cases h1 : itemsS d m with
  | some ys =>
    rw [h1] at q
    obtain ⟨a, vs, rfl, sq, rr⟩ := items_at hm r1 h1
    exact call_len_seq pins s σ H _ us Q I r ⟨a, vs, rfl, sq, by rw [← rr.length]; exact q φ H _ Nx.refl hm (by simp [VR])⟩
  | none =>
    rw [h1] at q
    simp only at q
    cases h2 : strD d with
    | some t =>
      rw [h2] at q
      obtain rfl := strD_ok h2
      simp only [VR] at r1; subst r1
      simp only at q
      cases hf : fits t.length with
      | false => rw [hf] at q; exact False.elim q
      | true =>
        rw [hf] at q
        exact call_len_str pins s σ H _ us Q I r ⟨⟨t.toArray⟩, rfl, by simpa [Str.length] using fits_iff.mp hf, q φ H _ Nx.refl hm (by simp [VR, Str.length])⟩
    | none =>
      rw [h2] at q
      simp only at q
      cases h3 : dicR d m with
      | none => rw [h3] at q; exact False.elim q
      | some z =>
        obtain ⟨t, kvs⟩ := z
        rw [h3] at q
        obtain ⟨a, rfl, ⟨_, vs, rd, rr⟩ | ⟨_, vs, rd, rr⟩⟩ := dicR_at hm r1 h3
        · rw [Vals.ref1 r]
          exact d_len I rd fun t s' I' => ⟨.int vs.length, H, I', ⟨t, rfl⟩, by rw [← rr.length]; exact q φ H _ Nx.refl hm (by simp [VR])⟩
        · rw [Vals.ref1 r]
          obtain ⟨z, na, ys, kt, dd⟩ := dt_rd I.hok rd
          have hl : ys.length = kvs.length := by rw [rr.length, kt.length]
          refine PySem.call_len_dictH na dd (by have := line62; rw [kt.length] at z; omega) ⟨.int ys.length, H, I.tok _, ⟨_, rfl⟩, by rw [hl]; exact q φ H _ Nx.refl hm (by simp [VR])⟩
theorem lst_at {d : D} {v : V} {xs : List D} (hm : HR K p φ m H) (r : VR K p φ H d v) (e : lstD d m = some xs) : ∃ a vs, v = .ref a ∧ SqL K H a vs ∧ VRs K p φ H xs vs := by
  cases d with
  | rol ys =>
    cases e
    simp only [VR] at r
    obtain ⟨a, vs, rfl, s, r⟩ := r
    refine ⟨a, vs, rfl, ?_, r⟩
    rcases s with ⟨o, s⟩ | s
    · exact .inl (.inr ⟨o, s⟩)
    · exact s H
  | ref n =>
    simp only [VR] at r
    obtain ⟨a, ea, rfl⟩ := r
    simp only [lstD] at e
    split at e
    · rename_i ys em
      cases e
      obtain ⟨vs, e1, r1⟩ := hm.obj n _ a em ea
      exact ⟨a, vs, rfl, SqL.of e1, r1⟩
    · cases e
  | _ => cases e
theorem fc_tup : FCall p X (.type "tuple") (one vTup) := fc_one fun pins s σ H xs us Q I r q => by
  obtain ⟨φ, m, d, x, rfl, hm, r1, q⟩ := q
  unfold vTup at q
  cases h1 : tupD d with
  | some ys =>
    rw [h1] at q
    have r1' := r1
    obtain ⟨a, vs, rfl, sq, rr⟩ := tup_at r1 h1
    exact call_tuple_of pins s σ H _ us Q I r ⟨a, vs, rfl, .inr ⟨sq, q φ H _ Nx.refl hm r1'⟩⟩
  | none =>
    rw [h1] at q
    simp only at q
    cases h2 : lstD d m with
    | none => rw [h2] at q; exact False.elim q
    | some ys =>
      rw [h2] at q
      obtain ⟨a, vs, rfl, sq, rr⟩ := lst_at hm r1 h2
      exact call_tuple_of pins s σ H _ us Q I r ⟨a, vs, rfl, .inl ⟨sq, newT_ok hm rr q⟩⟩
theorem fc_list : FCall p X (.type "list") (one vList) := fc_one fun pins s σ H xs us Q I r q => by
  obtain ⟨φ, m, d, x, rfl, hm, r1, q⟩ := q
  unfold vList at q
  cases h1 : itemsS d m with
  | none => rw [h1] at q; exact False.elim q
  | some ys =>
    rw [h1] at q
    obtain ⟨a, vs, rfl, sq, rr⟩ := items_at hm r1 h1
    exact call_list_of pins s σ H _ us Q I r ⟨a, vs, rfl, sq, newL_ok hm rr q⟩
theorem fc_abs : FCall p X (.builtin "abs") (one vAbs) := fc_one fun pins s σ H xs us Q I r q => by
  obtain ⟨φ, m, d, x, rfl, hm, r1, q⟩ := q
  unfold vAbs at q
  cases h1 : intD d with
  | none => rw [h1] at q; exact False.elim q
  | some i =>
    rw [h1] at q
    obtain rfl := intD_ok h1
    simp only [VR] at r1; subst r1
    refine call_abs pins s σ H _ us Q I r ⟨i, rfl, q φ H _ Nx.refl hm ?_⟩
    simp only [VR]
    by_cases h : i < 0 <;> simp [h]
theorem fc_int : FCall p X (.type "int") (one vInt) := fc_one fun pins s σ H xs us Q I r q => by
  obtain ⟨φ, m, d, x, rfl, hm, r1, q⟩ := q
  cases d with
  | int i =>
    simp only [VR] at r1; subst r1
    exact call_int1 pins s σ H _ us Q I r (.inl ⟨i, rfl, q φ H _ Nx.refl hm (by simp [VR])⟩)
  | bl b =>
    simp only [VR] at r1; subst r1
    exact call_int1 pins s σ H _ us Q I r (.inr ⟨b, rfl, q φ H _ Nx.refl hm (by cases b <;> simp [VR, ob2i])⟩)
  | _ => exact False.elim q
theorem fc_max2 (hc : X.calm = true) : FCall p X (.builtin "max") (two vMax) := fc_two fun pins s σ H xs us Q I r q => by
  obtain ⟨φ, m, d, e, x, y, rfl, hm, r1, r2, q⟩ := q
  unfold vMax at q
  split at q
  · rename_i i j e1 e2
    obtain rfl := intD_ok e1
    obtain rfl := intD_ok e2
    simp only [VR] at r1 r2; subst r1 r2
    refine call_max2 hc pins s σ H _ us Q I r ⟨i, j, rfl, q φ H _ Nx.refl hm ?_⟩
    simp only [VR]
    by_cases h : j > i <;> simp [h]
  · exact False.elim q
theorem fc_min2 (hc : X.calm = true) : FCall p X (.builtin "min") (two vMin) := fc_two fun pins s σ H xs us Q I r q => by
  obtain ⟨φ, m, d, e, x, y, rfl, hm, r1, r2, q⟩ := q
  unfold vMin at q
  split at q
  · rename_i i j e1 e2
    obtain rfl := intD_ok e1
    obtain rfl := intD_ok e2
    simp only [VR] at r1 r2; subst r1 r2
    refine call_min2 hc pins s σ H _ us Q I r ⟨i, j, rfl, q φ H _ Nx.refl hm ?_⟩
    simp only [VR]
    by_cases h : j < i <;> simp [h]
  · exact False.elim q
theorem fc_dm : FCall p X (.builtin "divmod") (two vDm) := fc_two fun pins s σ H xs us Q I r q => by
  obtain ⟨φ, m, d, e, x, y, rfl, hm, r1, r2, q⟩ := q
  unfold vDm at q
  split at q
  · rename_i i j e1 e2
    obtain rfl := intD_ok e1
    obtain rfl := intD_ok e2
    simp only [VR] at r1 r2; subst r1 r2
    cases hj : dmOk j with
    | false => rw [hj] at q; exact False.elim q
    | true =>
      rw [hj] at q
      unfold dmOk at hj
      rw [Bool.and_eq_true] at hj
      exact call_divmod pins s σ H _ us Q I r ⟨i, j, rfl, ⟨of_decide_eq_true hj.1, of_decide_eq_true hj.2⟩, newT_ok (xs := [.int (i / j), .int (i % j)]) hm (by simp [VRs, VR]) q⟩
  · exact False.elim q
theorem fc_gcd : FCall p X (.builtin "math.gcd") (two vGcd) := fc_two fun pins s σ H xs us Q I r q => by
  obtain ⟨φ, m, d, e, x, y, rfl, hm, r1, r2, q⟩ := q
  unfold vGcd at q
  split at q
  · rename_i i j e1 e2
    obtain rfl := intD_ok e1
    obtain rfl := intD_ok e2
    simp only [VR] at r1 r2; subst r1 r2
    exact cr_gcd pins s σ H _ us Q I r ⟨i, j, rfl, q φ H _ Nx.refl hm (by simp [VR])⟩
  · exact False.elim q
/-- a module's name for a built-in -/
theorem fe_callBf {W : WX} {e : Expr} {es : List Expr} {l : FL} {x : Str} {id : String} {pp pos : Pos} {o : List D → Mem → OAns} (hc : FCall p X (.builtin id) o) (hm : X.mg x = some (.builtin id)) (ha : FA p W X (e :: es) l) (hg : Gl X x := by rfl) (hdb : (x == ("__debug__" : Str)) = false := by decide)
    (he : starEach (e :: es) X.env = (false, eval e X.env) :: starEach es X.env := by rfl) (hpl : (backTo pos (starEach es X.env)).any (·.1) = false := by rfl) : FE p W X (.Call (.Name x pp) (e :: es) [] pos) (eCall o l) :=
  ⟨pe_imp (pe_callBfun hc hg hm ha.pa hdb he hpl) fun σ H Q q => by
    obtain ⟨φ, ρ, m, hm, r, q⟩ := q
    refine thA ?_ (stepL hm r q)
    rintro vs H1 ⟨φ1, ds, m1, n1, h1, r1, v1, q1⟩
    exact ⟨φ1, m1, ds, h1, v1, postE.lift q1⟩⟩
end
end DL

set_option Elab.async false
set_option linter.all false
set_option maxRecDepth 100000
set_option maxHeartbeats 4000000
namespace DL
open PySem PySem.Spec PyProof.Rows L2

/-! ### isinstance -/
/-- a value's built-in type, by number -/
def tyNo (d : D) (m : Mem) : Option Nat := match d with
  | .non => some 0
  | .bl _ => some 1
  | .int _ => some 2
  | .str _ => some 3
  | .tup _ => some 4
  | .ktup _ => some 4
  | .ref n => (match m[n]? with
    | some (.lst _) => some 5
    | some (.dic _ _) => some 6
    | _ => none)
  | _ => none
def tyStr : Nat → String
  | 0 => "NoneType"
  | 1 => "bool"
  | 2 => "int"
  | 3 => "str"
  | 4 => "tuple"
  | 5 => "list"
  | _ => "dict"
/-- of a value of type a the class c (both by number) -/
def isNo (a c : Nat) : Bool := Nat.beq a c || (Nat.beq a 1 && Nat.beq c 2)
def eIsi (c : Nat) (f : FX) : FX := fun ρ m => (f ρ m).bind fun d m1 => match tyNo d m1 with
  | some a => .ok (.bl (isNo a c)) m1
  | none => .bad
section
variable {p : Pr} {X : Cx} {W : WX} {K : PySem.W.Frag} {φ : List Addr} {m : Mem} {H : Hp} {e : Expr} {f : FX} {pp pp2 pos : Pos}
theorem tyNo_at {d : D} {x : V} {a : Nat} (hm : HR K p φ m H) (r : VR K p φ H d x) (h : tyNo d m = some a) : a ≤ 6 ∧ TyX K H x (.type (tyStr a)) := by
  cases d with
  | non => cases h; simp only [VR] at r; subst r; exact ⟨by omega, .base .non⟩
  | bl b => cases h; simp only [VR] at r; subst r; exact ⟨by omega, .base (.bl b)⟩
  | int b => cases h; simp only [VR] at r; subst r; exact ⟨by omega, .base (.int b)⟩
  | str b => cases h; simp only [VR] at r; subst r; exact ⟨by omega, .base (.str _)⟩
  | tup b => cases h; simp only [VR] at r; obtain ⟨a, vs, rfl, s, _⟩ := r; exact ⟨by omega, .base (.tup s)⟩
  | ktup b =>
    cases h
    simp only [VR] at r
    obtain ⟨a, vs, rfl, s, _⟩ := r
    rcases s with ⟨o, s, _⟩ | ⟨_, o, s, c, _⟩
    · exact ⟨by omega, .fTuple s⟩
    · exact ⟨by omega, .kTuple s c⟩
  | ref n =>
    simp only [VR] at r
    obtain ⟨a, ea, rfl⟩ := r
    simp only [tyNo] at h
    split at h
    · rename_i xs em
      cases h
      obtain ⟨vs, e1, _⟩ := hm.obj n _ a em ea
      exact ⟨by omega, .base (.lst e1)⟩
    · rename_i t kvs em
      cases h
      have q := hm.obj n _ a em ea
      cases t with
      | false => obtain ⟨vs, e1, _⟩ := q; exact ⟨by omega, .base (.dK e1)⟩
      | true => obtain ⟨vs, e1, _⟩ := q; exact ⟨by omega, .base (.dT e1)⟩
    · cases h
  | _ => cases h
theorem kit_no {K : PySem.W.Frag} : ∀ {a c : Nat}, a ≤ 6 → 1 ≤ c → c ≤ 6 → PySem.W.kitOne K (.type (tyStr a)) (.type (tyStr c)) = some (isNo a c) := by
  intro a c ha h1 hc
  have : kitB (tyStr a) (tyStr c) = some (isNo a c) := by
    have key : ∀ a ∈ [0, 1, 2, 3, 4, 5, 6], ∀ c ∈ [1, 2, 3, 4, 5, 6], kitB (tyStr a) (tyStr c) = some (isNo a c) := by decide +kernel
    exact key a (by simp; omega) c (by simp; omega)
  exact kit_ty this
theorem fe_isi (c : Nat) {T : Str} (hf : FE p W X e f) (hg : Gl X "isinstance" := by rfl) (hm : X.mg "isinstance" = none) (hgT : Gl X T := by rfl) (hmT : X.mg T = none) (hvT : bootBuiltins T = some (.type (tyStr c)) := by rfl) (h1 : 1 ≤ c := by decide) (h6 : c ≤ 6 := by decide) (hn : T ≠ "__name__" := by decide) (hd : (T == ("__debug__" : Str)) = false := by decide)
    (hs1 : starEach [e, .Name T pp2] X.env = (false, eval e X.env) :: starEach [.Name T pp2] X.env := by rfl) (hs2 : starEach [.Name T pp2] X.env = (false, eval (.Name T pp2) X.env) :: starEach [] X.env := by rfl) (hpl : (backTo pos (starEach [.Name T pp2] X.env)).any (·.1) = false := by rfl) :
    FE p W X (.Call (.Name "isinstance" pp) [e, .Name T pp2] [] pos) (eIsi c f) :=
  ⟨pe_imp (pe_callB (call_isi (X := X)) hg hm (by rfl) (pa_cons hf.pe (pa_cons (pe_bltn hgT hmT hvT (v := .ty (tyStr c)) rfl hn hd) pa_nil hs2) hs1) (by decide) (by decide) hs1 hpl) fun σ H Q q => by
    obtain ⟨φ, ρ, m, hm, r, q⟩ := q
    refine thE ?_ (stepE hm r q)
    rintro v H1 ⟨φ1, d, m1, n1, h1', r1, v1, q1⟩
    cases et : tyNo d m1 with
    | none => rw [et] at q1; exact False.elim q1
    | some a =>
      rw [et] at q1
      obtain ⟨k1, k2⟩ := tyNo_at h1' v1 et
      exact ⟨v, .ty (tyStr c), .type (tyStr a), .type (tyStr c), isNo a c, rfl, .ty _, k2, kit_no k1 h1 h6, q1 φ1 H1 _ Nx.refl h1' (by simp [VR])⟩⟩
end

/-! ### methods of lists, dicts, texts -/
def mApp (d : D) (ds : List D) (m : Mem) : OAns := match refD d, ds with
  | some n, [y] => (match m[n]? with
    | some (.lst xs) => (match fits (xs.length + 1) with
      | true => some (.non, m.set n (.lst (xs ++ [y])))
      | false => none)
    | _ => none)
  | _, _ => none
def mPop (d : D) (ds : List D) (m : Mem) : OAns := match refD d, ds with
  | some n, [] => (match m[n]? with
    | some (.lst xs) => (match xs[xs.length - 1]? with
      | some y => some (y, m.set n (.lst xs.dropLast))
      | none => none)
    | _ => none)
  | _, _ => none
def mGet (d : D) (ds : List D) (m : Mem) : OAns := match ds with
  | [k, z] => (match dicR d m with
    | some (t, kvs) => (match isK t k with
      | true => (match valD t k kvs with
        | some v => some (v, m)
        | none => some (z, m))
      | false => none)
    | none => none)
  | _ => none
section
variable {p : Pr} {X : Cx} {W : WX} {K : PySem.W.Frag} {φ : List Addr} {m : Mem} {H : Hp}
theorem VRs.dropLast : ∀ {ds : List D} {vs : List V}, VRs K p φ H ds vs → VRs K p φ H ds.dropLast vs.dropLast
  | [], vs, r => by simp only [VRs] at r; subst r; simp [VRs]
  | [d], vs, r => by
    simp only [VRs] at r
    obtain ⟨v, _, rfl, r1, rfl⟩ := r
    simp [VRs]
  | d :: e :: ds, vs, r => by
    simp only [VRs] at r
    obtain ⟨v, _, rfl, r1, u, t, rfl, r2, r3⟩ := r
    have ih := VRs.dropLast (ds := e :: ds) (vs := u :: t) (by simp only [VRs]; exact ⟨u, t, rfl, r2, r3⟩)
    show VRs K p φ H (d :: (e :: ds).dropLast) (v :: (u :: t).dropLast)
    simp only [VRs]
    exact ⟨v, _, rfl, r1, ih⟩
theorem fm_app : FMt p X "list.append" mApp := fun pins s σ H x xs v us Q I rx rxs q => by
  obtain ⟨φ, m, d, ds, hm, r1, r2, q⟩ := q
  unfold mApp at q
  split at q
  · rename_i n y er
    obtain rfl := refD_ok er
    simp only [VR] at r1
    obtain ⟨a, ea, rfl⟩ := r1
    simp only [VRs] at r2
    obtain ⟨w, _, rfl, r2, rfl⟩ := r2
    split at q
    · rename_i zs em
      cases hf : fits (zs.length + 1) with
      | false => rw [hf] at q; exact False.elim q
      | true =>
        rw [hf] at q
        obtain ⟨vs, e1, rr⟩ := hm.obj n _ a em ea
        have hl := fits_iff.mp hf
        rw [rr.length] at hl
        have nx : Nx φ H φ (upd H a (.lst (vs ++ [w]))) := Nx.put (List.mem_of_getElem? ea) fun u ew => by rw [e1] at ew; cases ew; rfl
        exact mt_append pins s σ H _ _ v us Q I rx rxs ⟨a, vs, w, rfl, rfl, e1, Nat.lt_of_succ_le hl, q φ _ _ nx (hm.put ea em rfl ⟨_, rfl, VRs.mono hm nx _ _ (rr.append (by simp only [VRs]; exact ⟨w, [], rfl, r2, rfl⟩))⟩) (by simp [VR])⟩
    · exact False.elim q
  · exact False.elim q
theorem fm_pop : FMt p X "list.pop" mPop := fun pins s σ H x xs v us Q I rx rxs q => by
  obtain ⟨φ, m, d, ds, hm, r1, r2, q⟩ := q
  unfold mPop at q
  split at q
  · rename_i n er
    obtain rfl := refD_ok er
    simp only [VR] at r1
    obtain ⟨a, ea, rfl⟩ := r1
    simp only [VRs] at r2
    subst r2
    split at q
    · rename_i zs em
      split at q
      · rename_i y ey
        obtain ⟨vs, e1, rr⟩ := hm.obj n _ a em ea
        obtain ⟨w, e2, rw'⟩ := rr.get ey
        have nx : Nx φ H φ (upd H a (.lst vs.dropLast)) := Nx.put (List.mem_of_getElem? ea) fun u ew => by rw [e1] at ew; cases ew; rfl
        exact mt_pop pins s σ H _ _ v us Q I rx rxs ⟨a, vs, w, rfl, rfl, e1, by rw [← rr.length]; exact e2, q φ _ _ nx (hm.put ea em rfl ⟨_, rfl, VRs.mono hm nx _ _ rr.dropLast⟩) (VR.mono hm nx _ _ rw')⟩
      · exact False.elim q
    · exact False.elim q
  · exact False.elim q
theorem fm_get (hu : X.A.units + 1 < cLine) : FMt p X "dict.get" mGet := fun pins s σ H x xs v us Q I rx rxs q => by
  obtain ⟨φ, m, d, ds, hm, r1, r2, q⟩ := q
  unfold mGet at q
  split at q
  · rename_i k z
    simp only [VRs] at r2
    obtain ⟨y, _, rfl, ry, w, _, rfl, rw', rfl⟩ := r2
    cases hd : dicR d m with
    | none => rw [hd] at q; exact False.elim q
    | some tk =>
      obtain ⟨t, kvs⟩ := tk
      rw [hd] at q
      simp only at q
      cases hk : isK t k with
      | false => rw [hk] at q; exact False.elim q
      | true =>
        rw [hk] at q
        simp only at q
        obtain ⟨a, o, rfl, g, f⟩ := dget_at hm r1 ry hd hk
        obtain rfl : v = .ref a := rx
        obtain ⟨u1, u2, rfl, q1, q2⟩ := vals2 rxs
        refine d_get2 hu I g q1 q2 fun w' s' I' r' => ⟨o.getD w, H, I', r', ?_⟩
        cases hv : valD t k kvs with
        | none =>
          rw [hv] at q f
          cases o with
          | none => exact q φ H _ Nx.refl hm rw'
          | some _ => exact f.elim
        | some e =>
          rw [hv] at q f
          cases o with
          | none => exact f.elim
          | some o' => exact q φ H _ Nx.refl hm f
  · exact False.elim q
/-! ### sep.join([..]) -/
def joinN (S : List Nat) : List (List Nat) → List Nat
  | [] => []
  | [p] => p
  | p :: q :: r => p ++ (S ++ joinN S (q :: r))
def sumL : List (List Nat) → Nat
  | [] => 0
  | x :: xs => x.length + sumL xs
def qJoin (S : List Nat) (ds : List D) (m : Mem) : OAns := match strsD ds with
  | some ss => (match fits (sumL ss + ss.length * S.length) with
    | true => some (.str (joinN S ss), m)
    | false => none)
  | none => none
def eJoin (f : FX) (g : FQ) : FX := fun ρ m => (f ρ m).bind fun d m1 => match strD d with
  | some S => (g ρ m1).bind fun ds m2 => liftO (qJoin S ds m2)
  | none => .bad
theorem joinN_TL (S : List Nat) : ∀ ss : List (List Nat), joinN S ss = TL.joinL S ss
  | [] => rfl
  | [_] => rfl
  | p :: q :: r => by
    show p ++ (S ++ joinN S (q :: r)) = p ++ (S ++ TL.joinL S (q :: r))
    rw [joinN_TL S (q :: r)]
theorem joinN_eq (S : List Nat) (ss : List (List Nat)) : Txt.join ⟨S.toArray⟩ (ss.map fun s => (⟨s.toArray⟩ : Str)) = ⟨(joinN S ss).toArray⟩ := by
  rw [joinN_TL]; exact SX.join_S S ss
theorem sumL_eq : ∀ ss : List (List Nat), ((ss.map fun s => (⟨s.toArray⟩ : Str)).map (·.length)).sum = sumL ss
  | [] => rfl
  | s :: ss => by
    simp only [List.map_cons, List.sum_cons, sumL]
    rw [sumL_eq ss]
    simp [Str.length]
theorem fe_join {o e : Expr} {f : FX} {g : FQ} {apos pos : Pos} (ho : FE p W X o f) (he : FLi p W X e g) (hs : starEach [e] X.env = [(false, eval e X.env)] := by rfl) (hbase : attributeBase o "join" X.env (eval o X.env) = eval o X.env := by rfl) (hline : (apos.endLine == pos.line) = true := by rfl) :
    FE p W X (.Call (.Attribute o "join" apos) [e] [] pos) (eJoin f g) := ⟨pe_imp (pe_join ho.pe he.pe hs hbase hline) fun σ H Q q => by
  obtain ⟨φ, ρ, m, hm, r, q⟩ := q
  refine thE ?_ (stepE hm r q)
  rintro v H1 ⟨φ1, d, m1, n1, h1, r1, v1, q1⟩
  cases es : strD d with
  | none => rw [es] at q1; exact False.elim q1
  | some S =>
    rw [es] at q1
    obtain rfl := strD_ok es
    simp only [VR] at v1; subst v1
    refine ⟨⟨_, rfl⟩, φ1, ρ, m1, h1, r1, ?_⟩
    simp only at q1
    cases eg : g ρ m1 with
    | bad => rw [eg] at q1; exact q1
    | exc c d m' => rw [eg] at q1; exact q1
    | ok ds m2 =>
      rw [eg] at q1
      intro φ2 H2 a vs n2 h2 s2 v2
      have q2 := postE.lift (postE.nx n2 q1)
      unfold qJoin at q2
      cases hss : strsD ds with
      | none => rw [hss] at q2; exact False.elim q2
      | some ss =>
        rw [hss] at q2
        simp only at q2
        cases hf : fits (sumL ss + ss.length * S.length) with
        | false => rw [hf] at q2; exact False.elim q2
        | true =>
          rw [hf] at q2
          obtain rfl := strsD_map hss
          have hv : vs = (ss.map fun s => (⟨s.toArray⟩ : Str)).map V.str := by
            clear hss hf q2 s2 q1 eg
            induction ss generalizing vs with
            | nil => simp only [List.map_nil, VRs] at v2; simp [v2]
            | cons s ss ih =>
              simp only [List.map_cons, VRs, VR] at v2
              obtain ⟨w, t, rfl, rfl, v2⟩ := v2
              rw [ih _ v2]; rfl
          subst hv
          refine ⟨⟨S.toArray⟩, a, ss.map fun s => (⟨s.toArray⟩ : Str), rfl, rfl, .inl s2, ?_, ?_⟩
          · rw [sumL_eq]
            have := fits_iff.mp hf
            rw [sizeLine_eq] at this
            simpa [Str.length] using this
          · rw [joinN_eq]
            exact q2 φ2 H2 _ Nx.refl h2 (by simp [VR])⟩
end
end DL

set_option Elab.async false
set_option linter.all false
set_option maxRecDepth 100000
set_option maxHeartbeats 4000000
namespace DL
open PySem PySem.Spec PyProof.Rows L2

/-! ### tuple([..]) whose object is known -/
def qTupP (ds : List D) (m : Mem) : OAns := some (.ktup ds, m)
section
variable {p : Pr} {X : Cx} {W : WX} {K : PySem.W.Frag} {φ : List Addr} {m : Mem} {H : Hp}
theorem call_tupleP : CallR X (.type "tuple") (fun xs H Q => ∃ a ys, xs = [.ref a] ∧ SqL X.K H a ys ∧ ∀ l o, H l = none → o.dict = none → Q (.ref l) (upd H l (.frz o (.tup ys)))) := by
  intro pins s σ H xs us Q I r h
  obtain ⟨a, ys, rfl, hq, q⟩ := h
  obtain ⟨u, rfl, rx⟩ := vals1 r
  cases rx
  obtain ⟨its, r', pl, hz⟩ := I.list hq
  have hlen := r'.length
  refine call_tuple_list pl.isList (fun h' kp => ?_) (by simp only [List.size_toArray] <;> omega)
  have I1 : Inv X pins σ H { s with heap := h' } := I.kept (t' := s.toks) kp
  have I2 : Inv X pins σ (upd H h'.objs.size (.frz { cls := .type "tuple", data := .seq its.toArray } (.tup ys))) { s with heap := h'.push { cls := .type "tuple", data := .seq its.toArray } } :=
    I1.laid (t' := s.toks) (fun b o e => Heap.get?_push_of_some _ e) (Nat.le_refl _) (show ObjOk X.prog X.w _ _ _ (.frz _ (.tup ys)) from ⟨Heap.get?_push_size _ rfl, hz, its, r', IsTup.new _ _⟩)
  exact ⟨.ref h'.objs.size, _, I2, rfl, q _ _ (I1.hok.fresh (Nat.le_refl _)) rfl⟩
theorem cl_tupP : FCallL p X (.type "tuple") qTupP := fun pins s σ H xs us Q I r q => by
  obtain ⟨φ, m, ds, a, vs, rfl, hm, sq, rv, q⟩ := q
  exact call_tupleP pins s σ H _ us Q I r ⟨a, vs, rfl, sq, fun l o nl hd => q φ _ _ (Nx.new nl) (hm.new nl) (by simp only [VR]; exact ⟨l, vs, rfl, .inl ⟨o, upd_same, hd⟩, VRs.mono hm (Nx.new nl) _ _ rv⟩)⟩

/-! ### dict displays -/
theorem side_kkO {a : Addr} {o o1 : HO} (e : H a = some o1) (k : DL.okKind o1 = true) : ∀ b u, H b = some u → DL.okKind u = false → (upd H a o) b = some u := fun b u eb ho => by
  have z : b ≠ a := fun z => by subst z; rw [e] at eb; cases eb; rw [k] at ho; cases ho
  rw [upd_ne z]; exact eb
theorem HR.sideO {a : Addr} {o o1 : HO} (h : HR K p φ m H) (na : a ∉ φ) (e : H a = some o1) (k : DL.okKind o1 = true) : HR K p φ m (upd H a o) := ⟨h.len, h.nd, fun n u b e1 e2 => by
  have z : b ≠ a := fun z => na (z ▸ List.mem_of_getElem? e2)
  rw [upd_ne z]
  exact (h.obj n u b e1 e2).keep (side_kkO e k) ⟨[], by simp⟩⟩
theorem HR.adoptO {a : Addr} {o : HO} {u : MO} (h : HR K p φ m H) (na : a ∉ φ) (e : H a = some o) (r : OR K p (φ ++ [a]) H u (some o)) : HR K p (φ ++ [a]) (m ++ [u]) H := by
  have kk : ∀ b o, H b = some o → DL.okKind o = false → H b = some o := fun _ _ e _ => e
  refine ⟨by simp [h.len], List.nodup_append.mpr ⟨h.nd, by simp, fun x hx y hy => ?_⟩, fun n u' b e1 e2 => ?_⟩
  · simp at hy; subst hy; exact fun z => na (z ▸ hx)
  · by_cases hn : n < m.length
    · rw [List.getElem?_append_left hn] at e1
      rw [List.getElem?_append_left (h.len ▸ hn)] at e2
      exact (h.obj n u' b e1 e2).keep kk ⟨_, rfl⟩
    · rw [List.getElem?_append_right (by omega)] at e1
      rw [List.getElem?_append_right (by have := h.len; omega), h.len] at e2
      have z : n - m.length = 0 := by
        have := (List.getElem?_eq_some_iff.mp e1).1
        simp at this; omega
      rw [z] at e1 e2
      simp at e1 e2
      subst e1 e2
      rw [e]; exact r
end
/-- {} -/
def eDict0 (t : Bool) : FX := fun _ m => .ok (.ref m.length) (m ++ [.dic t []])
/-- {k: v} -/
def eDict1 (t : Bool) (f g : FX) : FX := fun ρ m => (f ρ m).bind fun k m1 => (g ρ m1).bind fun v m2 => match isK t k with
  | true => .ok (.ref m2.length) (m2 ++ [.dic t [(k, v)]])
  | false => .bad
section
variable {p : Pr} {X : Cx} {W : WX} {K : PySem.W.Frag} {φ : List Addr} {m : Mem} {H : Hp} {k v : Expr} {f g : FX} {pos : Pos}
theorem fe_dict0K : FE p W X (.Dict [] [] pos) (eDict0 false) := ⟨pe_imp pe_dnewK fun σ H Q q => by
  obtain ⟨φ, ρ, m, hm, r, q⟩ := q
  exact fun a na => q (φ ++ [a]) _ _ (Nx.alloc na) (hm.alloc na ⟨[], rfl, rfl⟩) (VR.last hm.len)⟩
theorem fe_dict0T : FE p W X (.Dict [] [] pos) (eDict0 true) := ⟨pe_imp pe_dnewT fun σ H Q q => by
  obtain ⟨φ, ρ, m, hm, r, q⟩ := q
  exact fun a na => q (φ ++ [a]) _ _ (Nx.alloc na) (hm.alloc na ⟨[], rfl, rfl⟩) (VR.last hm.len)⟩
theorem dict1_in {t : Bool} {σ : St} {Q : VK} {a : Addr} {o0 : HO} (k0 : DL.okKind o0 = true) (na : H a = none) (q : tE X.K p W (eDict1 t f g) σ H Q) :
    tE X.K p W f σ (upd H a o0) fun x H1 => tE X.K p W g σ H1 fun y H2 => H2 a = some o0 ∧ ∃ φ2 kd vd, isK t kd = true ∧ VR X.K p φ2 H2 kd x ∧ VR X.K p φ2 H2 vd y ∧ ∀ o, OR X.K p (φ2 ++ [a]) (upd H2 a o) (.dic t [(kd, vd)]) (some o) → Q (.ref a) (upd H2 a o) := by
  obtain ⟨φ, ρ, m, hm, r, q⟩ := q
  have n0 : Nx φ H φ (upd H a o0) := Nx.new na
  refine ⟨φ, ρ, m, hm.new na, r.mono hm n0, ?_⟩
  unfold eDict1 at q
  cases ef : f ρ m with
  | bad => rw [ef] at q; exact q
  | exc c d m' => rw [ef] at q; exact postE.nx n0 q
  | ok kd m1 =>
    rw [ef] at q
    intro φ1 H1 x n1 h1 r1
    have nA : a ∉ φ := fun z => hm.tracked z na
    have k1 : H1 a = some o0 := n1.keep a _ upd_same nA
    have nA1 : a ∉ φ1 := fun z => by
      obtain ⟨new, en, fn⟩ := n1.ext
      rw [en] at z
      rcases List.mem_append.mp z with z | z
      · exact nA z
      · have := fn a z; rw [upd_same] at this; cases this
    refine ⟨φ1, ρ, m1, h1, (r.mono hm n0).mono (hm.new na) n1, ?_⟩
    simp only [Res.bind_ok] at q
    cases eg : g ρ m1 with
    | bad => rw [eg] at q; exact q
    | exc c d m' => rw [eg] at q; exact postE.nx (n0.trans n1) q
    | ok vd m2 =>
      rw [eg] at q
      intro φ2 H2 y n2 h2 r2
      have k2 : H2 a = some o0 := n2.keep a _ k1 nA1
      have nA2 : a ∉ φ2 := fun z => by
        obtain ⟨new, en, fn⟩ := n2.ext
        rw [en] at z
        rcases List.mem_append.mp z with z | z
        · exact nA1 z
        · have := fn a z; rw [k1] at this; cases this
      simp only [Res.bind_ok] at q
      cases hk : isK t kd with
      | false => rw [hk] at q; exact False.elim q
      | true =>
        rw [hk] at q
        refine ⟨k2, φ2, kd, vd, hk, VR.mono h1 n2 _ _ r1, r2, fun o ho => ?_⟩
        have nn : Nx φ H φ2 (upd H2 a o) := by
          have := (n0.trans n1).trans n2
          exact this.side na
        exact q (φ2 ++ [a]) _ _ (nn.adopt na) ((h2.sideO nA2 k2 k0).adoptO nA2 upd_same ho) (VR.last h2.len)
theorem fe_dict1K (hk : FE p W X k f) (hv : FE p W X v g) : FE p W X (.Dict [some k] [v] pos) (eDict1 false f g) := ⟨pe_imp (pe_disp (pps_cons hk.pe hv.pe pps_nil) (by rfl) (by rfl) (by simp) (by simp)) fun σ H Q q => by
  intro a na
  refine thE ?_ (dict1_in (o0 := .dK []) rfl na q)
  intro x H1 q1
  refine thE ?_ q1
  rintro y H2 ⟨e, φ2, kd, vd, hkd, r1, r2, fin⟩
  obtain ⟨kk, ek⟩ := key1_some hkd
  obtain rfl := key1_v r1 ek
  refine ⟨e, [(kk, y)], rfl, by simp, ?_⟩
  exact fin (.dK [(kk, y)]) ⟨[(kk, y)], rfl, kk, y, [], rfl, ek, VR.keep (side_kkO e rfl) ⟨_, rfl⟩ _ _ r2, rfl⟩⟩
/-- {k: v}, k a tuple -/
def tDispT (tk tv : TE) : TE := fun σ H Q => ∀ a, H a = none → tk σ (upd H a (.dT [])) fun x H1 => tv σ H1 fun y H2 => H2 a = some (.dT []) ∧ ∃ x' y' b ks, [(x, y)] = [(x', y')] ∧ x' = V.ref b ∧ H2 b = some (.tup (ks.map kV)) ∧ Q (.ref a) (upd H2 a (.dT [(ks, y')]))
theorem pe_dispT {tk tv : TE} (hu : X.A.units + 1 < cLine) (hk : PE X k tk) (hv : PE X v tv) : PE X (.Dict [some k] [v] pos) (tDispT tk tv) := by
  refine ⟨fun pins s σ H Q I q => ?_⟩
  have hn := I.hok.fresh (Nat.le_refl s.heap.objs.size)
  have I1 := I.laid (a := s.heap.objs.size) (o := .dT []) (h' := s.heap.push { cls := .type "dict", data := .dict #[] }) (t' := s.toks) (fun _ _ q => Heap.get?_push_of_some _ q) (Nat.le_refl _) (dt_empty s.heap I.big)
  have hw := (pps_cons hk hv (pps_nil (pos := pos))).run pins _ σ _ (fun ps H2 => H2 s.heap.objs.size = some (.dT []) ∧ ∃ x y b ks, ps = [(x, y)] ∧ x = .ref b ∧ H2 b = some (.tup (ks.map kV)) ∧ Q (.ref s.heap.objs.size) (upd H2 s.heap.objs.size (.dT [(ks, y)]))) I1 ?_
  · rw [arm_eval_Dict, zip_pairTrees [some k] [v] X.env pos (by rfl) (by rfl), dictDisplay_pairs (pairTrees [some k] [v] X.env pos) (by simp [pairTrees]) (by simp [pairTrees])]
    refine wpAny_bind (wpAny_standAt (wpAny_bind (wpAny_subDictH (knd := tupleKind (mixKind X.prog X.w)) (Q := fun d s' => wpAny (model X.prog X.w) X.A (pure (Value.ref d)) (EP X pins σ Q) X.xe s') (show X.A.units < cLine by omega) (by simp [pairTrees]) (thn hw ?_))))
    rintro ws s2 ⟨ps, H2, I2, rel, e, x, y, b, ks, rfl, rfl, hb, q2⟩
    obtain ⟨z, nd, xs0, k0, d0⟩ := dt_of I2.hok e
    cases k0
    cases rel with
    | cons r1 r0 =>
      cases r0
      obtain ⟨r1, r2⟩ := r1
      rename_i wv
      obtain ⟨w1, w2⟩ := wv
      obtain rfl : w1 = .ref b := r1
      refine ⟨[(ks, b, w2)], ⟨rfl, rfl, key_of I2.hok hb, trivial⟩, d0, fun h' tk dd hs => wpAny_pure ⟨.ref s.heap.objs.size, _, ?_, rfl, q2⟩⟩
      have nb : b ≠ s.heap.objs.size := fun z => by subst z; rw [e] at hb; cases hb
      obtain ⟨o, es, ep, e1, e2, e3, e4, e5, e6⟩ := dd
      refine d_write I2 (by rw [e]; trivial) hs ⟨o, e1⟩ ⟨by simp [sizeLine_eq], nd, [(ks, b, w2)], .cons ⟨rfl, by rw [upd_ne nb]; exact hb, r2⟩ .nil, o, es, ep, e1, e2, e3, e4, e6⟩
  · exact q _ hn
theorem fe_dict1T (hu : X.A.units + 1 < cLine) (hk : FE p W X k f) (hv : FE p W X v g) : FE p W X (.Dict [some k] [v] pos) (eDict1 true f g) := ⟨pe_imp (pe_dispT hu hk.pe hv.pe) fun σ H Q q => by
  intro a na
  refine thE ?_ (dict1_in (o0 := .dT []) rfl na q)
  intro x H1 q1
  refine thE ?_ q1
  rintro y H2 ⟨e, φ2, kd, vd, hkd, r1, r2, fin⟩
  obtain ⟨kk, ek⟩ := keyT_some hkd
  obtain ⟨b, rfl, hb⟩ := keyT_v r1 ek
  refine ⟨e, _, _, b, kk, rfl, rfl, hb, ?_⟩
  exact fin (.dT [(kk, y)]) ⟨[(kk, y)], rfl, kk, y, [], rfl, ek, VR.keep (side_kkO e rfl) ⟨_, rfl⟩ _ _ r2, rfl⟩⟩
end
end DL

set_option Elab.async false
set_option linter.all false
set_option maxRecDepth 100000
set_option maxHeartbeats 4000000
namespace DL
open PySem PySem.Spec PyProof.Rows L2

/-! ### dict(x), x a tuple of pairs -/
def pairsD : List D → Option (List (D × D))
  | [] => some []
  | d :: ds => match tupK d, pairsD ds with
    | some [k, v], some r => some ((k, v) :: r)
    | _, _ => none
def allK (t : Bool) : List (D × D) → Bool
  | [] => true
  | x :: xs => isK t x.1 && allK t xs
def mergeD (t : Bool) (acc : List (D × D)) : List (D × D) → List (D × D)
  | [] => acc
  | x :: xs => mergeD t (putD t acc x.1 x.2) xs
def plD : D → Option (List D)
  | .ktup xs => some xs
  | _ => none
def vDict (t : Bool) (d : D) (m : Mem) : OAns := match plD d with
  | some xs => (match pairsD xs with
    | some prs => (match allK t prs && fits prs.length with
      | true => some (.ref m.length, m ++ [.dic t (mergeD t [] prs)])
      | false => none)
    | none => none)
  | none => none
structure PE5 where
  a : Addr
  k : Value
  v : Value
  x : V
  y : V
section
variable {p : Pr} {X : Cx} {W : WX} {K : PySem.W.Frag} {φ : List Addr} {m : Mem} {H : Hp}
theorem pairs_at {pins : List (Addr × Obj)} {σ : St} {s : Shared} (I : Inv X pins σ H s) : ∀ {xs : List D} {prs : List (D × D)} {vs : List V} {us : List Value}, pairsD xs = some prs → VRs X.K p φ H xs vs → Vals vs us →
    ∃ L : List PE5, us = L.map (fun e => .ref e.a) ∧ Paired (fun (q : D × D) (e : PE5) => VR X.K p φ H q.1 e.x ∧ VR X.K p φ H q.2 e.y ∧ RelV e.x e.k ∧ RelV e.y e.v ∧ PairAt s.heap e.a e.k e.v) prs L
  | [], prs, vs, us, e, r, rv => by
    cases e
    simp only [VRs] at r; subst r
    cases rv
    exact ⟨[], rfl, .nil⟩
  | d :: ds, prs, vs, us, e, r, rv => by
    simp only [pairsD] at e
    split at e
    · rename_i k v q e1 e2
      cases e
      obtain rfl := tupK_ok e1
      simp only [VRs] at r
      obtain ⟨z, t, rfl, r1, r2⟩ := r
      cases rv with
      | cons a c =>
        obtain ⟨L, h1, h2⟩ := pairs_at I e2 r2 c
        simp only [VR, VRs] at r1
        obtain ⟨b, ws, rfl, hb, x, _, rfl, rx, y, _, rfl, ry, rfl⟩ := r1
        cases a
        obtain ⟨_, its, iv, it⟩ := I.hok b _ hb
        obtain ⟨u1, u2, rfl, q1, q2⟩ := vals2 iv
        exact ⟨⟨b, u1, u2, x, y⟩ :: L, by simp [h1], .cons ⟨rx, ry, q1, q2, .inl it⟩ h2⟩
    · cases e
theorem paired_at {α β : Type} {G : α → β → Prop} : ∀ {l : List α} {r : List β} {i : Nat} {b : β}, Paired G l r → r[i]? = some b → ∃ a, l[i]? = some a ∧ G a b
  | _, _, _, _, .nil, e => by simp at e
  | _, _, 0, _, .cons r _, e => by simp at e; subst e; exact ⟨_, rfl, r⟩
  | _, _, i + 1, b, .cons _ t, e => by
    obtain ⟨u, h1, h2⟩ := paired_at (i := i) (b := b) t (by simpa using e)
    exact ⟨u, by simpa using h1, h2⟩
theorem paired_len {α β : Type} {G : α → β → Prop} {l : List α} {r : List β} (h : Paired G l r) : l.length = r.length := h.length
theorem merged_T {pins : List (Addr × Obj)} {σ : St} {s : Shared} (I : Inv X pins σ H s) : ∀ {prs : List (D × D)} {L : List PE5} {acc : List (D × D)} {kvs : List (List Key × V)} {xs : List (List Key × Addr × Value)},
    Paired (fun (q : D × D) (e : PE5) => VR X.K p φ H q.1 e.x ∧ VR X.K p φ H q.2 e.y ∧ RelV e.x e.k ∧ RelV e.y e.v ∧ PairAt s.heap e.a e.k e.v) prs L → allK true prs = true → TR X.K p φ H acc kvs → KT H kvs xs →
    ∃ (ps : List (List Key × Addr × Value)) (kvs' : List (List Key × V)), ps.length = L.length ∧ (∀ j : Nat, ∀ e : PE5, L[j]? = some e → ∃ ks b, ps[j]? = some (ks, b, e.v) ∧ e.k = .ref b) ∧ (∀ q ∈ ps, H q.2.1 = some (.tup (q.1.map kV))) ∧ TR X.K p φ H (mergeD true acc prs) kvs' ∧ KT H kvs' (storedAllH xs ps)
  | [], _, acc, kvs, xs, .nil, _, ra, rk => ⟨[], kvs, rfl, by simp, by simp, ra, rk⟩
  | q :: prs, e :: L, acc, kvs, xs, .cons ⟨r1, r2, r3, r4, r5⟩ c, hk, ra, rk => by
    simp only [allK, Bool.and_eq_true] at hk
    obtain ⟨ks, ek⟩ := keyT_some hk.1
    obtain ⟨b, eb, hb⟩ := keyT_v r1 ek
    have r3' : e.k = .ref b := by rw [eb] at r3; exact r3
    obtain ⟨ps, kvs', h1, h2, h3, h4, h5⟩ := merged_T I (acc := putD true acc q.1 q.2) (kvs := putK kvs ks e.y) (xs := storedH xs ks b e.v) c hk.2 (putD_T ek r2 ra) (rk.put ks hb r4)
    refine ⟨(ks, b, e.v) :: ps, kvs', by simp [h1], fun j e' ej => ?_, fun z hz => ?_, h4, h5⟩
    · cases j with
      | zero => simp at ej; subst ej; exact ⟨ks, b, by simp, r3'⟩
      | succ j => simpa using h2 j e' (by simpa using ej)
    · rcases List.mem_cons.mp hz with rfl | hz
      · exact hb
      · exact h3 z hz
theorem PlT.plain {pins : List (Addr × Obj)} {σ : St} {s : Shared} {a : Addr} {vs : List V} (I : Inv X pins σ H s) (h : PlT X.K H a vs) : ∃ its : List Value, Vals vs its ∧ vs.length ≤ sizeLine ∧ PlainSeq "tuple" s.heap a its.toArray := by
  obtain ⟨its, rv, ⟨o, ho, hc, n, hd⟩, hz⟩ := I.tuple h.sq
  refine ⟨its, rv, hz, o, n, ho, hc, ?_, hd⟩
  rcases h with ⟨o', h, d⟩ | ⟨_, o', l, _, d⟩
  · obtain ⟨h1, _⟩ := I.hok a _ h
    rw [ho] at h1; cases h1; exact d
  · have h1 := I.kIn a o' l
    rw [ho] at h1; cases h1; exact d
theorem fc_dictT (hc : X.calm = true) (hu : X.A.units + 2 < cLine) : FCall p X (.type "dict") (one (vDict true)) := fc_one fun pins s σ H xs us Q I r q => by
  obtain ⟨φ, m, d, x, rfl, hm, r1, q⟩ := q
  unfold vDict at q
  cases h1 : plD d with
  | none => rw [h1] at q; exact False.elim q
  | some ys =>
    rw [h1] at q
    simp only at q
    cases h2 : pairsD ys with
    | none => rw [h2] at q; exact False.elim q
    | some prs =>
      rw [h2] at q
      simp only at q
      cases h3 : allK true prs && fits prs.length with
      | false => rw [h3] at q; exact False.elim q
      | true =>
        rw [h3] at q
        rw [Bool.and_eq_true] at h3
        have hd : d = .ktup ys := by cases d with | ktup z => cases h1; rfl | _ => cases h1
        subst hd
        simp only [VR] at r1
        obtain ⟨a, vs, rfl, pl, rr⟩ := r1
        obtain ⟨its, rv, hz, ps0⟩ := PlT.plain I pl
        obtain ⟨L, e1, e2⟩ := pairs_at I h2 rr rv
        obtain ⟨ps, kvs', k1, k2, k3, k4, k5⟩ := merged_T I (acc := []) (kvs := []) (xs := []) e2 h3.1 rfl .nil
        have hL : prs.length = L.length := e2.length
        rw [Vals.ref1 r]
        have P := PairArg.tuple (prog := X.prog) (w := X.w) a its.toArray (fun j => (L[j]?.map PE5.a).getD 0) (L.map fun e => (e.k, e.v))
        have items : PairItems s.heap its.toArray (fun j => (L[j]?.map PE5.a).getD 0) (L.map fun e => (e.k, e.v)) := by
          refine ⟨by rw [e1]; simp, fun j k v hj => ?_⟩
          rw [List.getElem?_map] at hj
          cases hl : L[j]? with
          | none => rw [hl] at hj; cases hj
          | some e =>
            rw [hl] at hj; cases hj
            obtain ⟨q0, _, _, _, _, _, pa⟩ := paired_at e2 hl
            exact ⟨by rw [e1]; simp [hl], by show PairAt s.heap ((Option.map PE5.a L[j]?).getD 0) e.k e.v; rw [hl]; exact pa⟩
        refine PySem.call_dict_pairsH (knd := tupleKind (mixKind X.prog X.w)) (ps := ps) P (I.ok.hd hc) (show X.A.in1.in1.units < cLine from hu) ⟨ps0, items⟩ ⟨by rw [k1]; simp, fun i key v hi => ?_⟩ (fun h' hk q hq => ?_) (by simp only [List.length_map]; rw [← hL]; exact fits_iff.mp h3.2) fun h' tk dd hk => ?_
        · have hi' : (L.map fun e => (e.k, e.v))[i]? = some (key, v) := hi
          rw [List.getElem?_map] at hi'
          cases hl : L[i]? with
          | none => rw [hl] at hi'; cases hi'
          | some e =>
            rw [hl] at hi'; cases hi'
            obtain ⟨ks, b, z1, z2⟩ := k2 i e hl
            exact ⟨ks, b, z1, z2⟩
        · obtain ⟨o, items, n, ho, z⟩ := key_of (P := X.prog) (w := X.w) I.hok (k3 q hq)
          exact ⟨o, items, n, hk _ o (Nat.ne_of_lt (Heap.lt_size ho)) (by simp) ho, z⟩
        · have hn := I.hok.fresh (Nat.le_refl s.heap.objs.size)
          have hl : kvs'.length ≤ sizeLine := by
            have a1 : kvs'.length = (storedAllH [] ps).length := k5.length
            have a2 := storedAllH_length ps []
            have a3 := fits_iff.mp h3.2
            rw [a1]
            simp only [List.length_nil] at a2
            omega
          obtain ⟨o, es, ep, z1, z2, z3, z4, _, z6⟩ := dd
          have nb : (s.heap.objs.size == sysModules) = false := by
            have := I.big
            exact beq_eq_false_iff_ne.mpr (Nat.ne_of_gt this)
          have kt : KT (upd H s.heap.objs.size (.dT kvs')) kvs' (storedAllH [] ps) := k5.keeps fun b ys hb => by
            rw [upd_ne (fun z => by subst z; rw [hn] at hb; cases hb)]; exact hb
          exact ⟨.ref s.heap.objs.size, _, I.laid (o := .dT kvs') (t' := tk) (fun b o e => hk b o (by simp) e) (Nat.le_refl _) ⟨hl, nb, _, kt, o, es, ep, z1, z2, z3, z4, z6⟩, rfl, q (φ ++ [s.heap.objs.size]) _ _ (Nx.alloc hn) (hm.alloc hn ⟨kvs', rfl, k4.mono hm (Nx.alloc hn)⟩) (VR.last hm.len)⟩
end
end DL

set_option Elab.async false
set_option linter.all false
set_option maxRecDepth 100000
set_option maxHeartbeats 4000000
namespace DL
open PySem PySem.Spec PyProof.Rows L2 PySem.W PySem.Calls

/-! ### sorted(d), keys ints -/
theorem eachIs_imp {α β : Type} {R R' : α → β → Prop} (h : ∀ a b, R a b → R' a b) : ∀ {l : List α} {r : List β}, EachIs R l r → EachIs R' l r
  | _, _, .nil => .nil
  | _, _, .cons a c => .cons (h _ _ a) (eachIs_imp h c)
theorem ints_eachIs : ∀ {l : List Value} {is : List Int}, EachIs (fun v (b : Int) => ∃ t, v = Value.int b t) l is → IntsAre l is
  | _, _, .nil => .nil
  | _, _, .cons ⟨t, e⟩ c => by subst e; exact .cons _ t (ints_eachIs c)
section
variable {prog : Program} {w : World} {A : Around} {E : Value → Shared → Prop} {s : Shared}
theorem sorted_dict_ints {d : Addr} {kvs : List (Key × Value)} {is : List Int} {ep : Nat} {Q : Value → Shared → Prop} (lo : (d == sysModules) = false) (hh : A.handled = none) (hd : s.heap.DictAt (mixKind prog w) d kvs ep) (hk : kvs.map (·.1) = is.map Sum.inl) (hz : is.length ≤ sizeLine) (hu : A.units + 3 < cLine)
    (h : ∀ (h' : Heap) (tk : Nat) (D : Addr) (out : List Value) (n : Nat), (∀ b o, s.heap.get? b = some o → h'.get? b = some o) → s.heap.get? D = none → h'.get? D = some (seqObj "list" out.toArray n) → IntsAre out (isortB leI is) → Q (.ref D) { s with heap := h', toks := tk }) :
    wpAny (model prog w) A (call (.builtin "sorted") [.ref d]) Q E s := by
  have hlen : kvs.length = is.length := by have := congrArg List.length hk; simpa using this
  refine call_function_entry kind_sorted plain_sorted entry_sorted (args_sorted1 _) ?_
  unfold Builtin.«sorted»
  refine wpAny_bind (m := checkCount "sorted" 1 1 _) (wpAny_pure ?_)
  refine wpAny_bind (kdu_collect (A := A.in1) (kdl_dict (knd := mixKind prog w) (kvs := kvs) (ep := ep) lo) hh hd (by rw [hlen]; exact hz) fun h' tk acc hk' hacc => ?_)
  have hl : acc.toList.length = is.length := by rw [Array.length_toList, hacc.1, hlen]
  have hints : ∀ j v, acc.toList[j]? = some v → ∃ (i : Int) (t : Tok), is[j]? = some i ∧ v = Value.int i t := fun j v e => by
    obtain ⟨k, x, e1, e2⟩ := hacc.2 j v (by rw [← Array.getElem?_toList]; exact e)
    have e3 : (kvs.map (·.1))[j]? = some k := by rw [List.getElem?_map, e1]; rfl
    rw [hk, List.getElem?_map] at e3
    cases ei : is[j]? with
    | none => rw [ei] at e3; cases e3
    | some i =>
      rw [ei] at e3; cases e3
      obtain ⟨t, e4⟩ := keyIs_rel (k := .inl i) e2
      exact ⟨i, t, ei, e4⟩
  have hI : EachIs (fun v (b : Int) => ∃ t, v = Value.int b t) acc.toList is := by
    generalize acc.toList = l at hl hints
    clear hk hz h hlen hacc hd
    induction l generalizing is with
    | nil => cases is with | nil => exact .nil | cons i is => simp at hl
    | cons v l ih =>
      cases is with
      | nil => simp at hl
      | cons i is =>
        obtain ⟨i', t, e1, e2⟩ := hints 0 v rfl
        simp at e1; subst e1
        exact .cons ⟨t, e2⟩ (ih (by simpa using hl) fun j v e => by simpa using hints (j + 1) v (by simpa using e))
  refine wpAny_bind (wpAny_newList ?_ (by rw [hl]; exact hz))
  have ho : (h'.push { cls := .type "list", data := .seq acc.toList.toArray }).get? h'.objs.size = some (seqObj "list" acc.toList.toArray 0) := Heap.get?_push_size _ rfl
  refine wpAny_bind (wpAny_holding (wpAny_mono (list_sort_data (A := A.in1) (enc := PyData.int) (R := fun v (b : Int) => ∃ t, v = Value.int b t) (Q := fun _ s' => Q (.ref h'.objs.size) s') ho hI ?_ (AllAlike.of fun _ _ => by simp [alike]) (Sortable.others fun b => ⟨by simp, by simp⟩) hz (fun b _ => by show A.units + 1 + 1 + _ < _; simp [PyData.depth]; omega) fun out k1 k2 => ?_) (fun _ s' x => ?_) fun _ _ e => e))
  · exact eachIs_imp (fun v b ⟨t, e⟩ => ⟨[], by subst e; exact .int b t, by simp⟩) hI
  · have hn : s.heap.get? h'.objs.size = none := by
      cases e : s.heap.get? h'.objs.size with
      | none => rfl
      | some o => exact absurd (Heap.lt_size (hk' _ _ e)) (Nat.lt_irrefl _)
    obtain ⟨ep', he⟩ := sortedHeap_at (vs := acc.toList) (out := out.toArray) ho
    rw [show dataLe false PyData.int = leI from dataLe_int id, isortB_eq (le := leI)] at k2
    · refine h _ _ _ out ep' (fun b o e => ?_) hn he (ints_eachIs k2)
      have hb : b ≠ h'.objs.size := fun z => by subst z; rw [hn] at e; cases e
      have e1 := Heap.get?_push_of_some { cls := .type "list", data := .seq acc.toList.toArray } (hk' _ _ e)
      rw [sortedHeap_old hb (Heap.lt_size e1)]
      exact e1
    · intro a b c h1 h2; simp only [leI, decide_eq_true_eq] at *; omega
    · intro a b; simp only [leI, decide_eq_true_eq]; omega
    · intro a b h1 h2; simp only [leI, decide_eq_true_eq] at *; omega
  · exact wpAny_pure ⟨_, rfl, x⟩
end
/-! ### a new object in a place that was free -/
section
variable {P : Program} {w : World} {H : Hp} {h h' : Heap} {a : Addr}
theorem objOk_there : ∀ {o : HO}, ObjOk P w H h a o → ∃ u, h.get? a = some u
  | .lst xs, x => by obtain ⟨_, _, _, _, e⟩ := x; exact ⟨_, e⟩
  | .tup xs, x => by obtain ⟨_, _, _, o, e, _⟩ := x; exact ⟨_, e⟩
  | .dK kvs, x => by obtain ⟨_, _, _, _, o, _, _, e, _⟩ := x; exact ⟨_, e⟩
  | .dT kvs, x => by obtain ⟨_, _, _, _, o, _, _, e, _⟩ := x; exact ⟨_, e⟩
  | .set S n, x => by obtain ⟨o, _, _, _, e, _⟩ := x; exact ⟨_, e⟩
  | .ins C dx fs, x => by obtain ⟨_, _, _, e, _⟩ := x; exact ⟨_, e⟩
  | .own _, x => x
  | .xd fs, x => by obtain ⟨mA, ⟨o, _, _, e, _⟩, _⟩ := x; exact ⟨_, e⟩
  | .rng lo hi, x => by obtain ⟨_, _, _, e⟩ := x; exact ⟨_, e⟩
  | .frz o u, x => ⟨_, x.1⟩
  | .tbl ps, x => ⟨_, x⟩
  | .met f y, x => ⟨_, x⟩
  | .ext f, x => x.2.1
theorem hok_none (x : HOk P w H h) (e : h.get? a = none) : H a = none := by
  cases q : H a with
  | none => rfl
  | some o => obtain ⟨u, eu⟩ := objOk_there (x a o q); rw [e] at eu; cases eu
end
theorem Inv.laidN {X : Cx} {pins : List (Addr × Obj)} {σ : St} {H : Hp} {s : Shared} {h' : Heap} {a : Addr} {o : HO} {t' : Nat} (I : Inv X pins σ H s) (k : ∀ b u, s.heap.get? b = some u → h'.get? b = some u) (hp : s.heap.get? a = none) (new : ObjOk X.prog X.w (upd H a o) h' a o) :
    Inv X pins σ (upd H a o) { s with heap := h', toks := t' } := by
  have hn := hok_none I.hok hp
  have ne : ∀ {b u}, s.heap.get? b = some u → b ≠ a := fun {b u} e z => by subst z; rw [hp] at e; cases e
  refine I.un ⟨fun b u q _ _ _ => k b u q, fun b u q _ _ _ => ⟨u.slots, k b u q⟩, fun b u q n _ => by rw [upd_ne (ne q)]; exact n, fun b u q _ => ⟨u, k b u q⟩, fun b xs q => by rw [upd_ne (ne_of_none q hn)]; exact q, fun b u xs q => by rw [upd_ne (ne_of_none q hn)]; exact q, fun b ps q => ⟨#[], by rw [upd_ne (ne_of_none q hn), q]; simp⟩⟩ fun b u e => ?_
  by_cases hb : b = a
  · subst hb; rw [upd_same] at e; cases e; exact new
  · rw [upd_ne hb] at e
    exact (I.hok b u e).stay (fun c v _ q => k c v q) (fun c q => by rw [upd_ne (ne_of_none q hn)]; exact q) fun c xs q => by rw [upd_ne (ne_of_none q hn)]; exact q
/-! ### sorted of a list or a dict -/
def vSort (d : D) (m : Mem) : OAns := match lstD d m with
  | some xs => qSort xs m
  | none => match dicR d m with
    | some (false, kvs) => (match intsD (kvs.map (·.1)) with
      | some is => (match fits is.length with
        | true => newL ((isortB leI is).map .int) m
        | false => none)
      | none => none)
    | _ => none
section
variable {p : Pr} {X : Cx} {W : WX} {K : PySem.W.Frag} {φ : List Addr} {m : Mem} {H : Hp}
theorem kr_ints : ∀ {kvs : List (D × D)} {vs : List (Key × V)} {is : List Int}, KR K p φ H kvs vs → intsD (kvs.map (·.1)) = some is → vs.map (·.1) = is.map Sum.inl
  | [], vs, is, r, e => by obtain rfl := r; cases e; rfl
  | x :: xs, vs, is, r, e => by
    obtain ⟨k, v, t, rfl, a, b, c⟩ := r
    simp only [List.map_cons, intsD] at e
    split at e
    · rename_i i js e1 e2
      cases e
      have e3 := intD_ok e1
      rw [e3] at a
      cases a
      rw [List.map_cons, kr_ints c e2]; rfl
    · cases e
theorem kv_keys {κ : Type} {kvs : List (κ × V)} {vs : List (κ × Value)} (r : KV kvs vs) : kvs.map (·.1) = vs.map (·.1) := by
  induction r with
  | nil => rfl
  | cons a _ ih => rw [List.map_cons, List.map_cons, ih, a.1]
theorem fc_sorted (hc : X.calm = true) (hu : X.A.units + 66 < cLine) : FCall p X (.builtin "sorted") (one vSort) := fc_one fun pins s σ H xs us Q I r q => by
  obtain ⟨φ, m, d, x, rfl, hm, r1, q⟩ := q
  unfold vSort at q
  cases h1 : lstD d m with
  | some ys =>
    rw [h1] at q
    obtain ⟨a, vs, rfl, sq, rr⟩ := lst_at hm r1 h1
    exact cl_sorted (p := p) hu pins s σ H _ us Q I r ⟨φ, m, ys, a, vs, rfl, hm, sq, rr, q⟩
  | none =>
    rw [h1] at q
    simp only at q
    split at q
    · rename_i kvs h2
      split at q
      · rename_i is h3
        cases hf : fits is.length with
        | false => rw [hf] at q; exact False.elim q
        | true =>
          rw [hf] at q
          obtain ⟨a, rfl, ⟨_, vs, rd, rr⟩ | ⟨z, _⟩⟩ := dicR_at hm r1 h2
          · rw [Vals.ref1 r]
            obtain ⟨z, na, ws, kv, dd⟩ := dk_rd I.hok rd
            obtain ⟨ep, da⟩ := dd.dictAt
            have hk : ws.map (·.1) = is.map Sum.inl := by rw [← kv_keys kv]; exact kr_ints rr h3
            refine sorted_dict_ints na (I.ok.hd hc) da hk (fits_iff.mp hf) (by omega) fun h' tk D out n k1 k2 k3 k4 => ?_
            have hn : H D = none := hok_none I.hok k2
            have hl : ((isortB leI is).map V.int).length ≤ sizeLine := by
              rw [List.length_map, (isortB_perm is).length_eq]; exact fits_iff.mp hf
            refine ⟨.ref D, _, Inv.laidN (o := .lst ((isortB leI is).map V.int)) (t' := tk) I k1 k2 ⟨hl, out, n, vals_of_ints k4, k3⟩, rfl, ?_⟩
            refine newL_ok hm ?_ q D hn
            clear q hf h3 h2 k4 hl hk
            generalize isortB leI is = js
            induction js with
            | nil => simp [VRs]
            | cons j js ih => simp only [List.map_cons, VRs]; exact ⟨_, _, rfl, by simp [VR], ih⟩
          · cases z
      · exact False.elim q
    · exact False.elim q
end
end DL

set_option Elab.async false
set_option linter.all false
set_option maxRecDepth 100000
set_option maxHeartbeats 4000000
namespace DL
open PySem PySem.Spec PyProof.Rows L2

/-! ### str, repr -/
def strI (i : Int) : List Nat := (Str.ofString (toString i)).cps.toList
def vStr (d : D) (m : Mem) : OAns := match d with
  | .int i => (match Nat.blt i.natAbs.log2 1920 with
    | true => some (.str (strI i), m)
    | false => none)
  | .str s => some (.str s, m)
  | _ => none
def isObjD : D → Bool
  | .tup _ => true
  | .ktup _ => true
  | .ref _ => true
  | _ => false
def noneS : List Nat := (Str.ofString "None").cps.toList
def vRepr (d : D) (m : Mem) : OAns := match isNon d with
  | true => some (.str noneS, m)
  | false => match isObjD d with
    | false => none
    | true => match pyN m 3 d with
      | some x => (match x.showable && (!x.hasDict && (Nat.ble x.shown.length 16777216 && Nat.ble x.depth 64)) with
        | true => some (.str x.shown.cps.toList, m)
        | false => none)
      | none => none
section
variable {p : Pr} {X : Cx} {W : WX} {K : PySem.W.Frag} {φ : List Addr} {m : Mem} {H : Hp}
theorem str_eta (z : Str) : (⟨z.cps.toList.toArray⟩ : Str) = z := by
  obtain ⟨c⟩ := z
  simp
theorem fc_str : FCall p X (.type "str") (one vStr) := fc_one fun pins s σ H xs us Q I r q => by
  obtain ⟨φ, m, d, x, rfl, hm, r1, q⟩ := q
  cases d with
  | int i =>
    simp only [VR] at r1; subst r1
    simp only [vStr] at q
    cases hl : Nat.blt i.natAbs.log2 1920 with
    | false => rw [hl] at q; exact False.elim q
    | true =>
      rw [hl] at q
      exact call_str_int pins s σ H _ us Q I r ⟨i, rfl, Nat.blt_eq.mp hl, q φ H _ Nx.refl hm (by simp only [VR, strI, str_eta])⟩
  | str t =>
    simp only [VR] at r1; subst r1
    exact SkE.call_str_str pins s σ H _ us Q I r ⟨_, rfl, q φ H _ Nx.refl hm (by simp [VR])⟩
  | _ => exact False.elim q
theorem fc_repr (hg : X.A.guards = some []) (hu : X.A.units + 66 < cLine) : FCall p X (.builtin "repr") (one vRepr) := fc_one fun pins s σ H xs us Q I r q => by
  obtain ⟨φ, m, d, x, rfl, hm, r1, q⟩ := q
  unfold vRepr at q
  cases hn : isNon d with
  | true =>
    rw [hn] at q
    obtain rfl := isNon_at r1 hn
    obtain ⟨u, rfl, ru⟩ := vals1 r
    obtain rfl : u = .none := ru
    exact PySem.P.repr_of_none ⟨.str ⟨noneS.toArray⟩, H, I.tok _, ⟨_, by rw [noneS, str_eta]⟩, q φ H _ Nx.refl hm (by simp [VR])⟩
  | false =>
    rw [hn] at q
    simp only at q
    cases ho : isObjD d with
    | false => rw [ho] at q; exact False.elim q
    | true =>
      rw [ho] at q
      simp only at q
      cases hp : pyN m 3 d with
      | none => rw [hp] at q; exact False.elim q
      | some z =>
        rw [hp] at q
        simp only at q
        cases hs : z.showable && (!z.hasDict && (Nat.ble z.shown.length 16777216 && Nat.ble z.depth 64)) with
        | false => rw [hs] at q; exact False.elim q
        | true =>
          rw [hs] at q
          simp only [Bool.and_eq_true, Bool.not_eq_true', Nat.ble_eq] at hs
          obtain ⟨s1, s2, s3, s4⟩ := hs
          obtain ⟨u, rfl, ru⟩ := vals1 r
          have dp := pyN_ok hm 3 d x z r1 hp
          have hx : ∃ a, x = .ref a := by
            cases d with
            | tup xs => simp only [VR] at r1; obtain ⟨a, vs, rfl, _⟩ := r1; exact ⟨a, rfl⟩
            | ktup xs => simp only [VR] at r1; obtain ⟨a, vs, rfl, _⟩ := r1; exact ⟨a, rfl⟩
            | ref n => simp only [VR] at r1; obtain ⟨a, _, rfl⟩ := r1; exact ⟨a, rfl⟩
            | _ => cases ho
          obtain ⟨a, rfl⟩ := hx
          obtain rfl : u = .ref a := ru
          obtain ⟨as, rd⟩ := Dp.reads I z (.ref a) (.ref a) dp rfl
          refine PySem.repr_of_reads' rd s1 (fun e => by rw [s2] at e; cases e) hg (by omega) (fun _ _ e => e) (fun h' u tk hk => ?_) (by rw [sizeLine_eq]; exact s3)
          exact ⟨.str z.shown, H, I.kept (t' := tk) hk, ⟨u, rfl⟩, q φ H _ Nx.refl (hm) (by simp only [VR])⟩
end

/-! ### raise X(), try .. except X: -/
def sRaise0 (c : Nat) : FS := fun ρ m => some (.ex c .non ρ, m)
theorem pmk_own0 {X : Cx} {C : Addr} {bmB : List Value} {B newId initId : String} {x : Str} {p pos : Pos} (F : ExcBaseFacts B newId initId bmB) (q : PySem.W.excIn X.K C bmB newId = true) (gC : X.mg x = some (.ref C))
    (kC : PySem.W.keepIn X.K (.ref C) = true) (r : Raises X (.ref C)) (hg : Gl X x) (hdb : (x == ("__debug__" : Str)) = false := by decide) :
    PMk X (.Call (.Name x p) [] [] pos) (fun σ H Q => Q (.ref C) none H) := by
  intro pins s σ H Q I h
  refine wpAny_Call_Name_kw (ld_glob I hg gC ?_ hdb)
  refine PySem.W.callWith_K0 I.kIn kC ?_
  obtain ⟨bm, N, nm, qn, bs, hdct, sn, sub, ab, col, dd, k0, k1, k2, k3, k5, mN, hC, hN, hni, T⟩ := exc_obj I.kIn q
  refine wpAny_call_exc_subT F T hC hN hni (fun h' e hm => ?_)
  exact mk_of I hm r h (I.hok.gone hm.new)
section
variable {p : Pr} {X : Cx} {W : WX} {pos ppos np pos' : Pos} {x : Str} {body suite : List Stmt} {b₀ : Stmt} {f g : FS}
theorem fs_raise0 (c : Nat) {bmB : List Value} {B newId initId : String} (hc : X.calm = true) (tk : Takes X W) (F : ExcBaseFacts B newId initId bmB) (q : PySem.W.excIn X.K (p.cA c) bmB newId = true) (gC : X.mg x = some (.ref (p.cA c)))
    (kC : PySem.W.keepIn X.K (.ref (p.cA c)) = true) (r : Raises X (.ref (p.cA c))) (hf : p.cF c = none) (hg : Gl X x := by rfl) (hdb : (x == ("__debug__" : Str)) = false := by decide) :
    FSt p W X (.Raise (some (.Call (.Name x ppos) [] [] pos')) none pos) (sRaise0 c) := ⟨ps_imp (ps_raise hc tk (pmk_own0 F q gC kC r hg hdb)) fun D σ H z => by
  obtain ⟨φ, ρ, m, hm, r, z⟩ := z
  exact z φ H σ none Nx.refl hm r (by unfold XD; rw [hf])⟩
def noEx : SRes → SRes
  | some (.ex _ _ _, _) => none
  | r => r
/-- cat: does the clause take the class -/
def sTry (f : FS) (cat : Nat → Option Bool) (g : FS) : FS := fun ρ m => match f ρ m with
  | some (.ex c d ρ1, m1) => (match cat c with
    | some true => noEx (g ρ1 m1)
    | some false => some (.ex c d ρ1, m1)
    | none => none)
  | r => r
theorem fs_try {cV : Value} {cat : Nat → Option Bool} (hs : X.stack = X.env :: X.outer) (hf : X.env.frame = some X.env.locals) (hc : Names X x cV) (tk : Takes X W) (hcat : ∀ c b, cat c = some b → PySem.W.exmOne X.K (.ref (p.cA c)) cV = some b)
    (hb : ∀ (W : WX) (pn : List (Addr × Obj)) (xe : Value → Shared → Prop), Takes (X.tr pn xe) W → PassesOwn (model X.prog X.w) X.A X.env xe → FSs p W (X.tr pn xe) body f)
    (hsu : ∀ (a : Addr) (oe : Obj) (pn : List (Addr × Obj)), FSs p WN (X.suite a ((a, oe) :: pn)) (b₀ :: suite) g) :
    FSt p W X (.Try body [.ExceptHandler (some (.Name x np)) none (b₀ :: suite) pos'] [] [] pos) (sTry f cat g) :=
  ⟨ps_imp (ps_try_only (tb := fun W => tS X.K p W f) (ts := fun _ _ _ => tS X.K p WN g) hs hf hc tk (fun W pn xe t1 t2 => (hb W pn xe t1 t2).ps) (fun a oe cls d pn _ _ => (hsu a oe pn).ps)) fun D σ H z => by
    obtain ⟨φ, ρ, m, hm, r, z⟩ := z
    refine ⟨φ, ρ, m, hm, r, ?_⟩
    unfold sTry at z
    revert z
    match f ρ m with
    | none => exact fun z => z
    | some (.nx ρ', m') => exact fun z => z
    | some (.bk ρ', m') => exact fun z => z
    | some (.ct ρ', m') => exact fun z => z
    | some (.rt d, m') => exact fun z => z
    | some (.ex c d ρ', m') =>
      intro z φ' H' σ' dx n' h' r' x'
      simp only at z
      cases hk : cat c with
      | none => rw [hk] at z; exact False.elim z
      | some b =>
        rw [hk] at z
        refine ⟨b, hcat c b hk, fun hb' a ha => ?_, fun hb' => ?_⟩
        · subst hb'
          refine ⟨φ', ρ', m', h', r', ?_⟩
          have z' := postS.nx n' z
          revert z'
          simp only
          match g ρ' m' with
          | none => exact fun z => z
          | some (.nx ρ', m') => exact fun z => z
          | some (.bk ρ', m') => exact fun z => z
          | some (.ct ρ', m') => exact fun z => z
          | some (.rt d, m') => exact fun z => z
          | some (.ex c d ρ', m') => exact fun z => False.elim z
        · subst hb'
          exact z φ' H' σ' dx n' h' r' x'⟩
end
end DL

set_option Elab.async false
set_option linter.all false
set_option maxRecDepth 100000
set_option maxHeartbeats 4000000
namespace DL
open PySem PySem.Spec PyProof.Rows L2

/-! ### comparisons as tests -/
def bOf (f : FX) : FB := fun ρ m => (f ρ m).bind fun d m1 => match d with
  | .bl b => .ok b m1
  | _ => .bad
section
variable {p : Pr} {X : Cx} {W : WX} {K : PySem.W.Frag} {φ : List Addr} {m : Mem} {H : Hp} {e a b c : Expr} {f g h : FX} {pos : Pos}
theorem bOf_in {σ : St} {Q : Bool → Hp → Prop} (q : tT X.K p W (bOf f) σ H Q) : tTest (tE X.K p W f) σ H Q := by
  obtain ⟨φ, ρ, m, hm, r, q⟩ := q
  refine ⟨φ, ρ, m, hm, r, ?_⟩
  unfold bOf at q
  cases ef : f ρ m with
  | bad => rw [ef] at q; exact q
  | exc c d m' => rw [ef] at q; exact q
  | ok d m' =>
    rw [ef] at q
    simp only [Res.bind_ok] at q
    intro φ' H' v n' h' r'
    cases d with
    | bl k => simp only [VR] at r'; exact ⟨k, r', q φ' H' n' h'⟩
    | _ => exact False.elim q
theorem ft_cmp {op : CmpOp} {o : D → D → Mem → OAns} (ho : FOp p X (compareOp op) o) (ha : FE p W X a f) (hb : FE p W X b g) (hm : behindInMarks op b = false := by first | exact nomark _ | rfl | with_unfolding_all rfl) : FT p W X (.Compare a [op] [b] pos) (bOf (eOp o f g)) :=
  ⟨pt_imp (pt_cmpR ho ha.pe hb.pe hm) fun σ H Q q => by
    obtain ⟨φ, ρ, m, hm, r, q⟩ := bOf_in q
    exact op_body ⟨φ, ρ, m, hm, r, q⟩⟩
theorem chain_in {o o' : D → D → Mem → OAns} {σ : St} {Q : VK} (q : tE X.K p W (eChain o o' f g h) σ H Q) : tChain (tO2 X.K p o) (tO2 X.K p o') (tE X.K p W f) (tE X.K p W g) (tE X.K p W h) σ H Q := by
  obtain ⟨φ, ρ, m, hm, r, q⟩ := q
  refine thE ?_ (stepE hm r q)
  rintro v H1 ⟨φ1, d, m1, n1, h1, r1, v1, q1⟩
  refine thE ?_ (stepE h1 r1 q1)
  rintro w H2 ⟨φ2, d2, m2, n2, h2, r2, v2, q2⟩
  refine ⟨φ2, m2, d, d2, h2, VR.mono h1 n2 _ _ v1, v2, ?_⟩
  have q3 := postO.bind q2
  revert q3
  match o d d2 m2 with
  | none => exact fun z => z
  | some (z, m3) =>
    intro q3 φ3 H3 y n3 h3 v3
    obtain ⟨φ3', z', m3', n3', h3', v3', q4⟩ := q3 φ3 H3 y n3 h3 v3
    cases z' with
    | bl k =>
      simp only [VR] at v3'
      cases k with
      | true =>
        refine ⟨true, v3', ?_⟩
        rw [if_pos rfl]
        refine thE ?_ (stepE h3' (r2.mono h2 n3') q4)
        rintro w4 H4 ⟨φ4, d4, m4, n4, h4, r4, v4, q5⟩
        exact ⟨φ4, m4, d2, d4, h4, VR.mono h3' n4 _ _ (VR.mono h2 n3' _ _ v2), v4, postE.lift q5⟩
      | false =>
        refine ⟨false, v3', ?_⟩
        rw [if_neg (by simp)]
        exact q4 φ3' H3 _ Nx.refl h3' (by simp [VR])
    | _ => exact False.elim q4
theorem ft_chain {op op' : CmpOp} {o o' : D → D → Mem → OAns} (ho : FOp p X (compareOp op) o) (ho' : FOp p X (compareOp op') o') (ha : FE p W X a f) (hb : FE p W X b g) (hc : FE p W X c h)
    (hm : lastMarks [op, op'] [b, c] = false := by with_unfolding_all rfl) : FT p W X (.Compare a [op, op'] [b, c] pos) (bOf (eChain o o' f g h)) :=
  ⟨pt_imp (pt_chain ho ho' ha.pe hb.pe hc.pe hm) fun σ H Q q => by
    obtain ⟨φ, ρ, m, hm, r, q⟩ := bOf_in q
    exact chain_in ⟨φ, ρ, m, hm, r, q⟩⟩
/-! ### new lists over a dict that is walked -/
def unlQ (n : Nat) (t : Bool) (kvs : List (D × D)) : Res (List D) → Res (List D)
  | .ok ds m' => .ok ds (m'.set n (.dic t kvs))
  | _ => .bad
def qLock (f : FX) (g : FQ) : FQ := fun ρ m => match dicAt f ρ m with
  | some (n, t, kvs) => unlQ n t kvs (g ρ (m.set n (.lck t kvs)))
  | none => .bad
def qSel (c : DL.Env → Mem → Bool) (g g' : FQ) : FQ := fun ρ m => match c ρ m with
  | true => g ρ m
  | false => g' ρ m
theorem fn_lock {q : FQ} (f : FX) (hq : FN p W X e q) : FN p W X e (qLock f q) := ⟨pe_imp (pe_lock hq.pe) fun σ H Q z => by
  obtain ⟨φ, ρ, m, hm, r, z⟩ := z
  unfold qLock at z
  cases ed : dicAt f ρ m with
  | none => rw [ed] at z; exact False.elim z
  | some w =>
    obtain ⟨n, t, kvs⟩ := w
    rw [ed] at z
    simp only at z
    obtain ⟨a, ea⟩ := hm.addr (dicAt_ok ed)
    obtain ⟨u, L⟩ := locked hm (dicAt_ok ed) ea
    refine ⟨a, u, L.at_, L.mu, fun od => ?_⟩
    obtain ⟨h1, n1⟩ := L.in_ od
    refine ⟨φ, ρ, _, h1, r.mono hm n1, ?_⟩
    cases eg : q ρ (m.set n (.lck t kvs)) with
    | bad => rw [eg] at z; exact False.elim z
    | exc c d m' => rw [eg] at z; exact False.elim z
    | ok ds m' =>
      rw [eg] at z
      intro φ' H' b vs n' h' nb nb' eb v'
      obtain ⟨k, n2, h2, v2⟩ := L.out od φ' m' H' n' h'
      have ha : a ∈ φ := List.mem_of_getElem? ea
      have nba : b ≠ a := fun z => by subst z; rw [upd_same] at nb; cases nb
      rw [upd_ne nba] at nb
      have kk : ∀ (ds : List D) (vs : List V), VRs X.K p φ' H' ds vs → VRs X.K p φ' (upd H' a u) ds vs := by
        intro ds
        induction ds with
        | nil => intro vs r; simpa [VRs] using r
        | cons d ds ih =>
          intro vs r
          simp only [VRs] at r ⊢
          obtain ⟨v, t, rfl, r1, r2⟩ := r
          exact ⟨v, t, rfl, v2 d v r1, ih t r2⟩
      exact ⟨k, z φ' _ b vs n2 h2 nb nb' (by rw [upd_ne nba]; exact eb) (kk ds vs v')⟩⟩
theorem fn_sel {q q' : FQ} (c : DL.Env → Mem → Bool) (h : FN p W X e q) (h' : FN p W X e q') : FN p W X e (qSel c q q') := ⟨⟨fun pins s σ H Q I z => by
  obtain ⟨φ, ρ, m, hm, r, z⟩ := z
  unfold qSel at z
  cases e : c ρ m with
  | true => rw [e] at z; exact h.pe.run pins s σ H Q I ⟨φ, ρ, m, hm, r, z⟩
  | false => rw [e] at z; exact h'.pe.run pins s σ H Q I ⟨φ, ρ, m, hm, r, z⟩⟩⟩
end
/-- [.. for x in e ..], whatever e is -/
def lcV (f : FX) (q : Pat) (vs : List Nat) (t : FB) (g : FX) : FQ := qSel (isDic f) (qLock f (lcD (iKeyD f) q vs t g)) (lcD (iVal f) q vs t g)
theorem fn_lcV {p : Pr} {W : WX} {X : Cx} {elt tg iter : Expr} {ifs : List Expr} {scope : Scope} {own : List (Str × Nat)} {pos : Pos} {it : FX} {q : Pat} {t : FB} {f : FX} (hc : X.calm = true) (hN : X.N.Nodup) (hi : FE p W X iter it) (ok : BlkOk X.N X.env.scope scope own)
    (hg : ∀ (s : Shared) (H : Hp) (C : Addr) (cl : List (Str × Addr)) (fp : List Addr), FP p (X.blk s H scope (compEnvC scope cl C X.env) fp) tg q)
    (ht : ∀ (s : Shared) (H : Hp) (C : Addr) (cl : List (Str × Addr)) (fp : List Addr), FTs p (X.blk s H scope (compEnvC scope cl C X.env) fp) ifs t)
    (he : ∀ (s : Shared) (H : Hp) (C : Addr) (cl : List (Str × Addr)) (fp : List Addr), FE p WN (X.blk s H scope (compEnvC scope cl C X.env) fp) elt f) (hs : ∀ x, foldedSetIterable iter X.env x = pure x := by intro _; rfl) :
    FN p W X (.ListComp elt [⟨tg, iter, ifs, 0⟩] scope pos) (lcV it q (own.map (·.2)) t f) :=
  fn_sel (isDic it) (fn_lock it (fn_lc hc hN (fi_key hi) ok hg ht he hs)) (fn_lc hc hN (fi_val hi) ok hg ht he hs)
/-! ### a call that wants a list, of a value -/
theorem fe_callLV {p : Pr} {W : WX} {X : Cx} {e : Expr} {f : FX} {pp pos : Pos} {o : List D → Mem → OAns} {x : Str} {id : String} (hc : FCallL p X (.builtin id) o) (hm : X.mg x = none) (hv : bootBuiltins x = some (.builtin id)) (ha : FE p W X e f) (hg : Gl X x := by rfl) (hn : x ≠ "__name__" := by decide) (hdb : (x == ("__debug__" : Str)) = false := by decide)
    (he : starEach [e] X.env = (false, eval e X.env) :: starEach [] X.env := by rfl) (hpl : (backTo pos (starEach [] X.env)).any (·.1) = false := by rfl) : FE p W X (.Call (.Name x pp) [e] [] pos) (eCallL o (qVal f)) :=
  fe_callLB hc hm hv (fl_val ha) hg hn hdb he hpl
end DL

set_option Elab.async false
set_option linter.all false
set_option maxRecDepth 100000
set_option maxHeartbeats 4000000
namespace DL
open PySem PySem.Spec PyProof.Rows L2

abbrev UDef (K : PySem.W.Frag) (mg : Str → Option Value) (x : Str) (st : Stmt) : Prop := ∃ f fd, mg x = some (.ref f) ∧ FunD K x x (defArgs st) (defBody st) (defScope st) [] [] f fd
section
variable {P : Program} {w : World} {K : PySem.W.Frag} {mg : Str → Option Value} {base : Heap} {p : Pr} {x : Str} {st : Stmt} {N ps : List Str} {k : Nat} {b : FS}
theorem def_mk (U : UDef K mg x st) (S : FnScope N ps (defScope st))
    (hbn : ∀ (kV doc pm : Value) (an : Option Addr) (cdv ct : Value) (us : List Value), us.length = ps.length → bindArgs (PySem.W.fnOf x x (defArgs st) (defBody st) (defScope st) .none kV doc pm an cdv ct) ⟨us, []⟩ = pure (ps.zip us))
    (hb : ∀ (f : Addr) (cdv : Value) (A : Around) (outer : List PySem.Env) (s : Shared) (H : Hp) (E : XK), Room k (A.deeper (envOfC x (defScope st) s.heap.objs.size f cdv)) →
      FSs p (fun cls d _ H => E cls d H) (cxOf (L2.CX P w) P w K mg base N x (defScope st) f cdv A outer s H E) (defBody st) b) :
    DefOk p P w K mg base x st ps (k + 1) (fnF ps.length N.length b) := by
  obtain ⟨f, fd, hm, F⟩ := U
  refine ⟨⟨f, fd, ?_, hm, F, F.bindsN hbn⟩, fun ds m h => fnF_bad h⟩
  refine F.ok S (fun vs H Q E h => h.1) fun cdv A outer s H vs Q E hr hsp => ?_
  obtain ⟨hl, φ, m, ds, hm, rv, q⟩ := hsp
  refine ⟨_, (hb f cdv A outer s H E hr).ps, φ, ds.map some ++ List.replicate (N.length - ps.length) none, m, hm, ?_, ?_⟩
  · unfold L2.start
    rw [hl]
    exact er_start _ rv
  · unfold fnF at q
    have e : Nat.beq ds.length ps.length = true := by rw [rv.length, hl]; simp [Nat.beq_eq]
    rw [e] at q
    simp only at q
    match b (ds.map some ++ List.replicate (N.length - ps.length) none) m, q with
    | some (.rt d, m'), q => exact q
    | some (.nx ρ', m'), q => exact fun φ' H' σ' n' h' r' => q φ' H' .non n' h' (by simp [VR])
    | some (.ex c d ρ', m'), q => exact fun φ' H' σ' dx n' h' r' x => q φ' H' dx n' h' x
    | some (.bk ρ', m'), q => exact False.elim q
    | some (.ct ρ', m'), q => exact False.elim q
    | none, q => exact False.elim q
end
section
variable {k : Nat} {A : Around}
theorem Room.u66 (r : Room k A) : A.units + 66 < cLine := by have := r.un; omega
theorem Room.u65 (r : Room k A) : A.units + 65 < cLine := by have := r.un; omega
theorem Room.u64 (r : Room k A) : A.units + 64 < cLine := by have := r.un; omega
theorem Room.u2 (r : Room k A) : A.units + 2 < cLine := by have := r.un; omega
theorem Room.u1 (r : Room k A) : A.units + 1 < cLine := by have := r.un; omega
theorem Room.u0 (r : Room k A) : A.units < cLine := by have := r.un; omega
end
theorem fe_ki {p : Pr} {W : WX} {X : Cx} {x : Str} {i : Int} {pos : Pos} (hm : ∃ t, X.mg x = some (.int i t)) (hg : Gl X x := by rfl) (hd : (x == ("__debug__" : Str)) = false := by decide) : FE p W X (.Name x pos) (eC (.int i)) :=
  let ⟨t, h⟩ := hm; fe_glob (w := .int i) hg h ⟨t, rfl⟩ (fun _ _ => by simp [VR]) hd
theorem fe_ks {p : Pr} {W : WX} {X : Cx} {x : Str} {z : Str} {pos : Pos} (s : List Nat) (hz : z = ⟨s.toArray⟩) (hm : ∃ t, X.mg x = some (.str z t)) (hg : Gl X x := by rfl) (hd : (x == ("__debug__" : Str)) = false := by decide) : FE p W X (.Name x pos) (eC (.str s)) :=
  let ⟨t, h⟩ := hm; fe_glob (w := .str z) hg h ⟨t, rfl⟩ (fun _ _ => by simp [VR, hz]) hd
def FKL (n : Nat) (l : FL) : Prop := ∀ ρ m ds m', l ρ m = .ok ds m' → ds.length = n
theorem akl_nil : FKL 0 aNil := fun ρ m ds m' e => by cases e; rfl
theorem akl_cons {n : Nat} {f : FX} {l : FL} (h : FKL n l) : FKL (n + 1) (aCons f l) := fun ρ m ds m' e => by
  unfold aCons at e
  cases ef : f ρ m with
  | bad => rw [ef] at e; cases e
  | exc c d m' => rw [ef] at e; cases e
  | ok d m1 =>
    rw [ef] at e
    simp only [Res.bind_ok] at e
    cases el : l ρ m1 with
    | bad => rw [el] at e; cases e
    | exc c d m' => rw [el] at e; cases e
    | ok es m2 =>
      rw [el] at e
      cases e
      simp [h ρ m1 es m' el]
def catOne (c0 : Nat) (c : Nat) : Option Bool := match Nat.beq c c0 with
  | true => some true
  | false => none
theorem catOne_ok {K : PySem.W.Frag} {p : Pr} {c0 : Nat} {cV : Value} (h : PySem.W.exmOne K (.ref (p.cA c0)) cV = some true) : ∀ c b, catOne c0 c = some b → PySem.W.exmOne K (.ref (p.cA c)) cV = some b := fun c b e => by
  unfold catOne at e
  cases hc : Nat.beq c c0 with
  | false => rw [hc] at e; cases e
  | true =>
    rw [hc] at e
    cases e
    rw [Nat.eq_of_beq_eq_true hc]
    exact h
/-- name = [.. for x in e ..], whatever e is -/
def sSetLcV (i : Nat) (it : FX) (q : Pat) (vs : List Nat) (t : FB) (f : FX) : FS := sSel (isDic it) (sLock it (sSet i (eNew (lcD (iKeyD it) q vs t f)))) (sSet i (eNew (lcD (iVal it) q vs t f)))
theorem fs_setLcV {p : Pr} {X : Cx} {W : WX} {i : Nat} {y : Str} {py : Pos} {elt tg iter : Expr} {ifs : List Expr} {scope : Scope} {own : List (Str × Nat)} {pos spos : Pos} {it : FX} {q : Pat} {t : FB} {f : FX} (hc : X.calm = true) (hN : X.N.Nodup) (hy : X.N[i]? = some y) (hyl : X.env.scope.names.lookup y = some .local)
    (hsw : swapsWith (.ListComp elt [⟨tg, iter, ifs, 0⟩] scope pos) (some (.Name y py)) spos.line X.env = pure true)
    (hi : FE p W X iter it) (ok : BlkOk X.N X.env.scope scope own)
    (hg : ∀ (s : Shared) (H : Hp) (C : Addr) (cl : List (Str × Addr)) (fp : List Addr), FP p (X.blk s H scope (compEnvC scope cl C X.env) fp) tg q)
    (ht : ∀ (s : Shared) (H : Hp) (C : Addr) (cl : List (Str × Addr)) (fp : List Addr), FTs p (X.blk s H scope (compEnvC scope cl C X.env) fp) ifs t)
    (he : ∀ (s : Shared) (H : Hp) (C : Addr) (cl : List (Str × Addr)) (fp : List Addr), FE p WN (X.blk s H scope (compEnvC scope cl C X.env) fp) elt f) (hs : ∀ x, foldedSetIterable iter X.env x = pure x := by intro _; rfl) :
    FSt p W X (.Assign [.Name y py] (.ListComp elt [⟨tg, iter, ifs, 0⟩] scope pos) spos) (sSetLcV i it q (own.map (·.2)) t f) :=
  fs_or (isDic it) (fs_lock it (fs_setLc hc hN hy hyl hsw (fi_key hi) ok hg ht he hs)) (fs_setLc hc hN hy hyl hsw (fi_val hi) ok hg ht he hs)
/-! ### a dict of the module, keys ints, values texts -/
def eKd (tbl : List (D × D)) (f : FX) : FX := fun ρ m => (f ρ m).bind fun d m1 => match isK false d with
  | true => (match valD false d tbl with
    | some v => .ok v m1
    | none => .bad)
  | false => .bad
/-- what must be known of it -/
def KIntD (K : PySem.W.Frag) (w : World) (mg : Str → Option Value) (x : Str) (tbl : List (D × D)) : Prop :=
  ∀ (p : Pr) (W : WX) (X : Cx) (e : Expr) (f : FX) (pp pos : Pos), X.K = K → X.w = w → X.mg = mg → Gl X x → PlainIx e → FE p W X e f → FE p W X (.Subscript (.Name x pp) e pos) (eKd tbl f)
theorem fe_kd {p : Pr} {W : WX} {X : Cx} {x : Str} {tbl : List (D × D)} {e : Expr} {f : FX} {pp pos : Pos} (h : KIntD X.K X.w X.mg x tbl) (he : FE p W X e f) (hg : Gl X x := by rfl) (hs : PlainIx e := by first | (intro _ _; rfl) | exact fun _ _ => rfl) : FE p W X (.Subscript (.Name x pp) e pos) (eKd tbl f) := h p W X e f pp pos rfl rfl rfl hg hs he
end DL

set_option Elab.async false
set_option linter.all false
set_option maxRecDepth 100000
set_option maxHeartbeats 4000000
namespace DL
open PySem PySem.Spec PyProof.Rows L2

/-- a def's promise where no guard is under way -/
structure FnOkG (P : Program) (w : World) (K : PySem.W.Frag) (mg : Str → Option Value) (base : Heap) (CX : CXT) (k : Nat) (f : Addr) (fd : FuncData) (ps : List Str) (sp : Sp) : Prop where
  len : ∀ vs H Q E, sp vs H Q E → vs.length = ps.length
  run : ∀ (A : Around) (outer : List PySem.Env) (s : Shared) (H : Hp) (args : Args) (us : List Value) (vs : List V) (Q : VK) (E : XK), A.guards = some [] → Room k A → Env0 P w K mg base A outer s H → BindsTo s fd args (ps.zip us) → Vals vs us → sp vs H Q E →
    codeAny (model P w) A (.call (.ref f) args) (CR CX outer P w H s Q E) s
section
variable {P : Program} {w : World} {K : PySem.W.Frag} {mg : Str → Option Value} {base : Heap} {x qual : Str} {params : Arguments} {body : List Stmt} {scope : Scope} {dvs : List V} {kws : List (Str × V)} {f : Addr} {fd : FuncData}
theorem okG {CX : CXT} {N ps : List Str} {k : Nat} {sp : Sp} (F : FunD K x qual params body scope dvs kws f fd) (S : FnScope N ps scope) (len : ∀ vs H Q E, sp vs H Q E → vs.length = ps.length)
    (hbody : ∀ (cdv : Value) (A : Around) (outer : List PySem.Env) (s : Shared) (H : Hp) (vs : List V) (Q : VK) (E : XK), A.guards = some [] → Room k (A.deeper (envOfC qual scope s.heap.objs.size f cdv)) → sp vs H Q E →
      ∃ t, PSs (cxOf CX P w K mg base N qual scope f cdv A outer s H E) body t ∧ t { nx := fun _ H' => Q .non H', rt := Q } (L2.start N vs) H) : FnOkG P w K mg base CX (k + 1) f fd ps sp := by
  obtain ⟨oc, od, dV, kV, doc, pm, an, cdv, ct, osl, rfl, lk, hcd, _, _⟩ := F.ex
  refine ⟨len, fun A outer s H args us vs Q E hgd hr e0 hb r hsp => ?_⟩
  have hl := len _ _ _ _ hsp
  have KX : K.In s.heap := e0.mod.kin.keeps fun b o e => (e0.bs b o e).1
  have lim : s.heap.NoLimit := e0.mod.nolimit.keeps fun b o e => (e0.bs b o e).1
  have hkind : ∀ y ∈ ps.zip us, scope.names.lookup y.1 = some .local ∨ (scope.names.lookup y.1 = some .cell ∧ ((cellsFrom (s.heap.objs.size + 1) scope.names []).lookup y.1).isSome = true) := fun ⟨n, v⟩ hy => by
    rcases S.par n (List.of_mem_zip hy).1 with q | q
    · exact .inl q
    · exact .inr ⟨q, PySem.W.cellsFrom_some _ _ _ (.inl q)⟩
  refine codeAny_call_function hr.depth (KX _ _ lk) rfl S.co S.gen rfl (PySem.W.codeRec_of KX hcd) (hb _ _ _ _ ?_)
  refine wpAny_newFunctionEnv_cells S.kind hkind fun env he s1 x => ?_
  subst he
  refine ⟨lim.keeps x.toInCall.keep, codeAny_func ?_⟩
  obtain ⟨t, ht, hq⟩ := hbody cdv A outer s H vs Q E hgd (hr.deeper _) hsp
  have I : Inv (cxOf CX P w K mg base N qual scope f cdv A outer s H E) [] (L2.start N vs) H s1 := inv_start S hr.hd e0 hl r x
  refine wpAny_mono (ht.run [] s1 (L2.start N vs) H _ I hq) (fun fl s' hs => ?_) fun e s' hs => hs
  have fin : ∀ {σ' : L2.St} {H' : Hp} {v : V} {u : Value}, Inv (cxOf CX P w K mg base N qual scope f cdv A outer s H E) [] σ' H' s' → RelV v u → Q v H' → CE outer P w H s Q u s' :=
    fun {σ' H' v u} J rv q => ⟨v, H', J.os, J.bare, J.base, J.hok, rv, q⟩
  cases fl with
  | ret u =>
    obtain ⟨v, σ', H', J, rv, q⟩ := hs
    exact fin J rv q
  | next =>
    obtain ⟨σ', H', J, q⟩ := hs
    exact fin (v := V.non) (u := Value.none) J rfl q
  | brk =>
    obtain ⟨_, _, _, q⟩ := hs
    exact False.elim q
  | cont =>
    obtain ⟨_, _, _, q⟩ := hs
    exact False.elim q
end
structure DefOkG (p : Pr) (P : Program) (w : World) (K : PySem.W.Frag) (mg : Str → Option Value) (base : Heap) (x : Str) (st : Stmt) (ps : List Str) (k : Nat) (F : List D → Mem → Res D) : Prop where
  ex : ∃ f fd, FnOkG P w K mg base (L2.CX P w) k f fd ps (spD K p ps.length F) ∧ mg x = some (.ref f) ∧ FunD K x x (defArgs st) (defBody st) (defScope st) [] [] f fd ∧ Binds K fd ps []
  bad : ∀ ds m, ds.length ≠ ps.length → F ds m = .bad
section
variable {P : Program} {w : World} {K : PySem.W.Frag} {mg : Str → Option Value} {base : Heap} {p : Pr} {x : Str} {st : Stmt} {N ps : List Str} {k : Nat} {b : FS}
theorem def_mkG (U : UDef K mg x st) (S : FnScope N ps (defScope st))
    (hbn : ∀ (kV doc pm : Value) (an : Option Addr) (cdv ct : Value) (us : List Value), us.length = ps.length → bindArgs (PySem.W.fnOf x x (defArgs st) (defBody st) (defScope st) .none kV doc pm an cdv ct) ⟨us, []⟩ = pure (ps.zip us))
    (hb : ∀ (f : Addr) (cdv : Value) (A : Around) (outer : List PySem.Env) (s : Shared) (H : Hp) (E : XK), A.guards = some [] → Room k (A.deeper (envOfC x (defScope st) s.heap.objs.size f cdv)) →
      FSs p (fun cls d _ H => E cls d H) (cxOf (L2.CX P w) P w K mg base N x (defScope st) f cdv A outer s H E) (defBody st) b) :
    DefOkG p P w K mg base x st ps (k + 1) (fnF ps.length N.length b) := by
  obtain ⟨f, fd, hm, F⟩ := U
  refine ⟨⟨f, fd, ?_, hm, F, F.bindsN hbn⟩, fun ds m h => fnF_bad h⟩
  refine okG F S (fun vs H Q E h => h.1) fun cdv A outer s H vs Q E hgd hr hsp => ?_
  obtain ⟨hl, φ, m, ds, hm, rv, q⟩ := hsp
  refine ⟨_, (hb f cdv A outer s H E hgd hr).ps, φ, ds.map some ++ List.replicate (N.length - ps.length) none, m, hm, ?_, ?_⟩
  · unfold L2.start
    rw [hl]
    exact er_start _ rv
  · unfold fnF at q
    have e : Nat.beq ds.length ps.length = true := by rw [rv.length, hl]; simp [Nat.beq_eq]
    rw [e] at q
    simp only at q
    match b (ds.map some ++ List.replicate (N.length - ps.length) none) m, q with
    | some (.rt d, m'), q => exact q
    | some (.nx ρ', m'), q => exact fun φ' H' σ' n' h' r' => q φ' H' .non n' h' (by simp [VR])
    | some (.ex c d ρ', m'), q => exact fun φ' H' σ' dx n' h' r' x => q φ' H' dx n' h' x
    | some (.bk ρ', m'), q => exact False.elim q
    | some (.ct ρ', m'), q => exact False.elim q
    | none, q => exact False.elim q
end
section
variable {p : Pr} {W : WX} {X : Cx} {e : Expr} {es : List Expr} {l : FL} {x : Str} {st : Stmt} {pp pos : Pos} {k : Nat} {ps : List Str} {F : List D → Mem → Res D}
theorem fe_fnG (G : DefOkG p X.prog X.w X.K X.mg X.base x st ps k F) (hgd : X.A.guards = some []) (tk : Takes X W) (hr : Room k X.A) (ha : FA p W X (e :: es) l) (hg : Gl X x := by rfl)
    (hdb : (x == ("__debug__" : Str)) = false := by decide) (he : starEach (e :: es) X.env = (false, eval e X.env) :: starEach es X.env := by rfl) (hpl : (backTo pos (starEach es X.env)).any (·.1) = false := by rfl) :
    FE p W X (.Call (.Name x pp) (e :: es) [] pos) (eFn F l) := ⟨⟨fun pins s σ H Q I q => by
  obtain ⟨φ, ρ, m, hm', r, q⟩ := q
  obtain ⟨f, fd, GF, hm, FD, hb⟩ := G.ex
  have hk := FD.kp
  refine wpAny_Call_Name_kw (ld_glob I hg hm ?_ hdb)
  refine PySem.W.callWith_K (h₀ := X.base) I.ok.mod.kin hk (thn (ha.pa.run pos pins s σ H _ I (stepL hm' r q)) ?_) he hpl
  rintro us s1 ⟨vs, H1, I1, rv, φ1, ds, m1, n1, h1, r1, v1, q1⟩
  refine ⟨I1.kIn, ?_⟩
  by_cases hl : vs.length = ps.length
  · have hs := postF_call h1 v1 hl q1
    refine wpAny_call (codeAny_mono (GF.run X.A X.stack s1 H1 ⟨us, []⟩ us vs Q (WE W σ) hgd hr I1.env0 (by have := hb s1 us I1.kIn (by rw [List.append_nil, ← rv.length]; exact hl); rwa [List.append_nil] at this) rv hs) fun r s' hq => ?_)
    cases r with
    | error e => exact passAt tk σ pins H1 s1 e s' I1 hq
    | ok fl =>
      cases fl with
      | ret u => exact I1.after hq
      | next => exact False.elim hq
      | brk => exact False.elim hq
      | cont => exact False.elim hq
  · rw [callS_bad G.bad (by rw [v1.length]; exact hl)] at q1
    exact False.elim q1⟩⟩
end
/-- the law's promise at the heap behind the top, where no guard is under way (follows the kit's law_call) -/
theorem law_callG {P : Program} {w : World} {K : PySem.W.Frag} {mg mb : Str → Option Value} {CX : CXT} {k : Nat} {fa a : Addr} {fd : FuncData} {x : Str} {sp : Sp} {s₁ : Shared} {vs : List Value} {ns : List Int}
    (KX : K.In s₁.heap) (hns : s₁.heap.Ns mainGlobals mg) (hb : s₁.heap.Ns builtinsNs mb) (hbb : ∀ x : Str, x ≠ "__name__" → mb x = bootBuiltins x) (hlim : s₁.heap.NoLimit) (hg : s₁.gens = #[])
    (ha : s₁.heap.get? a = some { cls := .type "list", data := .seq vs.toArray }) (hi : IntsAre vs ns) (hl : ns.length ≤ sizeLine) (hr : Room k callerA)
    (F : ∀ base : Heap, K.In base → base.Ns mainGlobals mg → FnOkG P w K mg base CX k fa fd [x] sp) (hbind : ∀ (s : Shared) (u : Value), BindsTo s fd ⟨[u], []⟩ [(x, u)])
    (hsp : ∀ H : Hp, Only H → SqL K H a (ns.map V.int) → sp [.ref a] H (fun v _ => v = .bl true) fun _ _ _ => False)
    (hCX : ∀ H e s', CX [] H s₁ (fun _ _ _ => False) e s' → False) :
    codeAny (model P w) callerA (.call (.ref fa) ⟨[.ref a], []⟩) (fun r s' => r = .ok (.ret (.bool true)) ∧ OldK s₁.heap s'.heap ∧ s'.os = s₁.os ∧ AllBare s'.gens) s₁ := by
  have rv := vals_ints hi
  have lenV := hi.length
  -- from an abstract heap in which nothing but the script may be tracked
  have core : ∀ H : Hp, Only H → SqL K H a (ns.map V.int) → HOk P w H s₁.heap → (∀ b, H b ≠ none → b = a) → (H a ≠ none → K.lookup a = none) →
      codeAny (model P w) callerA (.call (.ref fa) ⟨[.ref a], []⟩) (fun r s' => r = .ok (.ret (.bool true)) ∧ OldK s₁.heap s'.heap ∧ s'.os = s₁.os ∧ AllBare s'.gens) s₁ := by
    intro H hO hS hok hA hK
    have base_of : ∀ {b : Addr} {o : Obj}, s₁.heap.get? b = some o → H b = none → (hidT s₁.heap H).get? b = some o := fun e n => hidT_get e n
    have noA : ∀ {b : Addr} {o : Obj} {es : Array DictEntry} {ep : Nat}, s₁.heap.get? b = some o → o.data = .dict es ep → H b = none := fun {b o es ep} e d => by
      cases q : H b with
      | none => rfl
      | some u =>
        have e' : b = a := hA b (by rw [q]; simp)
        subst e'
        rw [ha] at e; cases e
        have d' : Data.seq vs.toArray _ = Data.dict es ep := d
        cases d'
    have nsK : ∀ {b : Addr} {m : Str → Option Value}, s₁.heap.Ns b m → (hidT s₁.heap H).Ns b m := fun {b m} ⟨o, es, ep, e, d, r⟩ => ⟨o, es, ep, base_of e (noA e d), d, r⟩
    have hKb : K.In (hidT s₁.heap H) := fun b o e => base_of (KX b o e) (by
      cases q : H b with
      | none => rfl
      | some u =>
        have e' : b = a := hA b (by rw [q]; simp)
        subst e'
        rw [hK (by rw [q]; simp)] at e; cases e)
    have hM : Mod K mg (hidT s₁.heap H) := ⟨hKb, nsK hns, ⟨mb, nsK hb, hbb⟩, let ⟨mc, h1, h2⟩ := hlim; ⟨mc, nsK h1, h2⟩⟩
    have e0 : Env0 P w K mg (hidT s₁.heap H) callerA [] s₁ H := ⟨rfl, hM, fun b o e => of_hidT e, Nat.le_of_eq (hidT_size _ _), trivial, fun b hb => absurd (show b ∈ ([] : List Addr) from hb) (by simp), hok, .of_eq hg⟩
    refine codeAny_mono ((F _ hKb (nsK hns)).run callerA [] s₁ H ⟨[.ref a], []⟩ [.ref a] [.ref a] _ _ rfl hr e0 (hbind s₁ (.ref a)) (.cons rfl .nil) (hsp H hO hS)) fun r s' h => ?_
    cases r with
    | error e => exact (hCX H e s' h).elim
    | ok fl =>
      cases fl with
      | next => exact False.elim h
      | brk => exact False.elim h
      | cont => exact False.elim h
      | ret u =>
        obtain ⟨v, H', os, bare, un, hok', r', q⟩ := h
        have q' : v = .bl true := q
        subst q'
        obtain rfl : u = Value.bool true := r'
        refine ⟨rfl, OldK.of_keep fun b o e => ?_, os, bare⟩
        cases q : H b with
        | none => exact un.keep b o e q (by intro z; exact absurd (show b ∈ ([] : List Addr) from z) (by simp)) (by simp)
        | some u =>
          rcases hO b with z | ⟨ob, xs, z⟩
          · rw [q] at z; cases z
          · have z2 := un.frzs b ob _ z
            obtain ⟨e1, _⟩ := hok b _ z
            obtain ⟨e2, _⟩ := hok' b _ z2
            rw [e] at e1; cases e1
            exact e2
  cases hk : K.lookup a with
  | some o =>
    -- the script is one of the module's own objects
    have e := KX a o hk
    rw [ha] at e
    cases e
    refine core (fun _ => none) (fun _ => .inl rfl) (.inr ⟨_, vs.toArray, _, hk, rfl, rfl, rfl, by rw [List.size_toArray, lenV]; exact hl, by simpa using rv⟩) (fun b u z => by have z' : (none : Option HO) = some u := z; cases z') (fun b z => absurd rfl z) fun z => absurd rfl z
  | none =>
    refine core (fun b => if b = a then some (.frz { cls := .type "list", data := .seq vs.toArray } (.lst (ns.map V.int))) else none) (fun b => ?_) (.inl (.inr ⟨{ cls := .type "list", data := .seq vs.toArray }, if_pos rfl⟩)) (fun b u z => ?_) (fun b z => ?_) fun _ => hk
    · by_cases hb : b = a
      · exact .inr ⟨_, _, if_pos hb⟩
      · exact .inl (if_neg hb)
    · by_cases hb : b = a
      · have z' := (if_pos hb).symm.trans z
        cases z'
        subst hb
        exact ⟨ha, by rw [List.length_map]; exact hl, vs, _, rv, ha⟩
      · have z' := (if_neg hb).symm.trans z
        cases z'
    · by_cases hb : b = a
      · exact hb
      · exact absurd (if_neg hb) z
theorem walk_ofG {l : PySem.W.OpenLaw} {n k : Nat} {q : Program} {loose : List Str} {XP : (Str → Option Value) → Heap → Prop} {YP : World → Heap → Prop} {d : DefRec} {CX : CXT} {x : Str}
    (hn : l.most = some n) (hn2 : n ≤ sizeLine) (hdf : d.params.defaults = []) (hr : Room k callerA)
    (F : ∀ (w : World) (mg : Str → Option Value) (fa : Addr) (h : Heap), YP w h → h.Ns mainGlobals mg → mg d.name = some (.ref fa) →
      ∃ (K : PySem.W.Frag) (fd : FuncData) (sp : Sp), K.In h ∧ (∀ (s : Shared) (u : Value), BindsTo s fd ⟨[u], []⟩ [(x, u)]) ∧
        (∀ (H : Hp) (a : Addr) (ns : List Int), ns.length ≤ n → Only H → SqL K H a (ns.map V.int) → sp [.ref a] H (fun v _ => v = .bl true) fun _ _ _ => False) ∧
        ∀ base : Heap, K.In base → base.Ns mainGlobals mg → FnOkG l.prog w K mg base CX k fa fd [x] sp)
    (hCX : ∀ (H : Hp) (s : Shared) (e : Value) (s' : Shared), CX [] H s (fun _ _ _ => False) e s' → False) :
    PySem.W.WalkO q loose XP YP l.row.toRowW d [] (fun f vs => PySem.call f vs) := by
  refine Att.attach_call hn hdf fun w s₀ s₁ mg mb fa o pm cd doc a vs ns G Y ho hd hcd hmg hobj hints hlen hg => ?_
  obtain ⟨K, fd, sp, KX, hb, hsp, hF⟩ := F w mg fa _ Y G.T.g hmg
  exact law_callG KX G.T.g G.T.b G.T.builtins G.T.nolimit hg hobj hints (Nat.le_trans hlen hn2) hr hF hb (fun H hO hS => hsp H a ns hlen hO hS) fun H e s' => hCX H s₁ e s'
end DL

set_option Elab.async false
set_option linter.all false
set_option maxRecDepth 100000
set_option maxHeartbeats 4000000
namespace DL
open PySem PySem.Spec PyProof.Rows L2
/-! ### a dict of the module: keys ints, values texts, by a look at its object -/
def kvB : List DictEntry → List (Int × List Nat) → Bool
  | [], [] => true
  | e :: r, z :: t => (match e.key, e.val with
    | .int j _, .str y _ => decide (j = z.1) && (decide (y = ⟨z.2.toArray⟩) && decide (e.hash = hashInt j))
    | _, _ => false) && kvB r t
  | _, _ => false
def kindB (K : PySem.W.Frag) (x : Str) (tbl : List (Int × List Nat)) : Bool := match K.lookup (He.ga K x) with
  | some ⟨.type "dict", none, .dict es _, sl⟩ => decide (sl = #[]) && kvB es.toList tbl
  | _ => false
def tblD (tbl : List (Int × List Nat)) : List (D × D) := tbl.map fun z => (.int z.1, .str z.2)
def getI (i : Int) : List (Int × List Nat) → Option (List Nat)
  | [] => none
  | z :: r => match decide (z.1 = i) with
    | true => some z.2
    | false => getI i r
theorem valD_tbl (i : Int) : ∀ tbl : List (Int × List Nat), valD false (.int i) (tblD tbl) = (getI i tbl).map D.str
  | [] => rfl
  | z :: r => by
    show (match decide (z.1 = i) with
      | true => some (D.str z.2)
      | false => valD false (.int i) (tblD r)) = (match decide (z.1 = i) with
      | true => some z.2
      | false => getI i r).map D.str
    cases decide (z.1 = i) with
    | true => rfl
    | false => exact valD_tbl i r
theorem valD_str (s : List Nat) : ∀ tbl : List (Int × List Nat), valD false (.str s) (tblD tbl) = none
  | [] => rfl
  | z :: r => valD_str s r
theorem kvB_keys : ∀ {es : List DictEntry} {tbl : List (Int × List Nat)}, kvB es tbl = true → ∀ e ∈ es, ∃ j t, e.key = .int j t ∧ e.hash = hashInt j
  | [], _, _, _, he => by cases he
  | d :: r, [], h, _, _ => by cases h
  | d :: r, z :: t, h, e, he => by
    obtain ⟨h1, h2⟩ := He.ba (show ((match d.key, d.val with
      | .int j _, .str y _ => decide (j = z.1) && (decide (y = ⟨z.2.toArray⟩) && decide (d.hash = hashInt j))
      | _, _ => false) && kvB r t) = true from h)
    rcases List.mem_cons.mp he with rfl | he
    · cases hk : e.key with
      | int j tk =>
        rw [hk] at h1
        cases hv : e.val with
        | str y ty =>
          rw [hv] at h1
          obtain ⟨_, h4⟩ := He.ba h1
          obtain ⟨_, h5⟩ := He.ba h4
          exact ⟨j, tk, rfl, of_decide_eq_true h5⟩
        | _ => rw [hv] at h1; cases h1
      | _ => rw [hk] at h1; cases h1
    · exact kvB_keys h2 e he
theorem kvB_find (i : Int) : ∀ {es : List DictEntry} {tbl : List (Int × List Nat)}, kvB es tbl = true → ∀ s, getI i tbl = some s → ∃ t, (es.find? fun e => Value.isInt i e.key).map (·.val) = some (.str ⟨s.toArray⟩ t)
  | [], [], _, s, e => by cases e
  | [], _ :: _, h, _, _ => by cases h
  | d :: r, [], h, _, _ => by cases h
  | d :: r, z :: t, h, s, e => by
    obtain ⟨h1, h2⟩ := He.ba (show ((match d.key, d.val with
      | .int j _, .str y _ => decide (j = z.1) && (decide (y = ⟨z.2.toArray⟩) && decide (d.hash = hashInt j))
      | _, _ => false) && kvB r t) = true from h)
    have e' : (match decide (z.1 = i) with
      | true => some z.2
      | false => getI i t) = some s := e
    cases hk : d.key with
    | int j tk =>
      rw [hk] at h1
      cases hv : d.val with
      | str y ty =>
        rw [hv] at h1
        obtain ⟨h3, h4⟩ := He.ba h1
        obtain ⟨h5, h6⟩ := He.ba h4
        have h3 := of_decide_eq_true h3
        have h5 := of_decide_eq_true h5
        by_cases hz : z.1 = i
        · rw [decide_eq_true hz] at e'
          cases e'
          refine ⟨ty, ?_⟩
          have hf : Value.isInt i d.key = true := by rw [hk]; simp [Value.isInt, h3, hz]
          rw [List.find?_cons_of_pos (p := fun e : DictEntry => Value.isInt i e.key) hf]
          show some d.val = _
          rw [hv, h5]
        · rw [decide_eq_false hz] at e'
          have hf : ¬ Value.isInt i d.key = true := by rw [hk]; simp [Value.isInt, h3]; omega
          rw [List.find?_cons_of_neg (p := fun e : DictEntry => Value.isInt i e.key) hf]
          exact kvB_find i h2 s e'
      | _ => rw [hv] at h1; cases h1
    | _ => rw [hk] at h1; cases h1
theorem kintD {K : PySem.W.Frag} {w : World} {mg : Str → Option Value} {x : Str} {tbl : List (Int × List Nat)} (hm : mg x = some (.ref (He.ga K x))) (h : kindB K x tbl = true) (hd : (x == ("__debug__" : Str)) = false := by decide) : KIntD K w mg x (tblD tbl) := by
  intro p W X e f pp pos hK hw hmg hg hs he
  subst hK hw hmg
  unfold kindB at h
  cases hl : X.K.lookup (He.ga X.K x) with
  | none => rw [hl] at h; cases h
  | some o =>
    rw [hl] at h
    split at h
    case h_2 => cases h
    case h_1 es ep sl heq =>
    cases heq
    obtain ⟨h1, h2⟩ := He.ba h
    obtain rfl := of_decide_eq_true h1
    have hm2 : ∀ {s : Shared} {pins : List (Addr × Obj)} {σ : St} {H : Hp}, Inv X pins σ H s → s.heap.MapOf (intKind X.prog X.w) (He.ga X.K x) (fun k => findBy Value.isInt es k) := fun I => ⟨_, es, ep, I.kIn _ _ hl, ⟨rfl, rfl, rfl⟩, rfl, fun e he => by
      obtain ⟨j, t, e1, e2⟩ := kvB_keys h2 e (Array.mem_toList_iff.mpr he)
      exact ⟨j, by rw [e1]; exact intKind_is X.prog X.w j t, e2⟩, fun _ => rfl⟩
    have hix : IxR X (fun u y H Q => ∃ i s, u = .ref (He.ga X.K x) ∧ y = .int i ∧ getI i tbl = some s ∧ Q (.str ⟨s.toArray⟩) H) := by
      intro value slice pins s σ H x' y v u Q I rx ry hq hsl
      obtain ⟨i, z, rfl, rfl, g, q⟩ := hq
      obtain rfl : v = .ref (He.ga X.K x) := rx
      obtain ⟨t, rfl⟩ := ry
      have hT := (hm2 I).typeIs
      obtain ⟨tz, hz⟩ := kvB_find i h2 z g
      have hv : findBy Value.isInt es i = some (.str ⟨z.toArray⟩ tz) := by
        obtain ⟨l⟩ := es
        unfold findBy
        rw [List.find?_toArray]
        exact hz
      unfold subscriptTail
      refine wpAny_bind ?_
      rw [getitemInPython_of_ne hT.not_modules]
      refine wpAny_bind (wpAny_specialOf hT PySem.F.slot_dict_getitem.lookup ?_)
      have fin : wpAny (model X.prog X.w) X.A (subscripted slice false (.ref (He.ga X.K x)) (.int i t)) (fun r s₃ => wpAny (model X.prog X.w) X.A (letTemporaryGo value (.ref (He.ga X.K x)) r >>= fun _ => pure r) (EP X pins σ Q) X.xe s₃) X.xe s := by
        rw [hsl]
        refine wpAny_operating (wpAny_getItem_of (intKind_is X.prog X.w i t) (hm2 I) hv ?_)
        exact wpAny_bind (wpAny_letTemporaryGo (wpAny_pure ⟨.str ⟨z.toArray⟩, H, I.tok _, ⟨_, rfl⟩, q⟩))
      first
        | exact wpAny_pure (wpAny_bind fin)
        | exact wpAny_bind (wpAny_pure (wpAny_bind fin))
        | exact wpAny_bind fin
    refine ⟨pe_imp (pe_ix hix (pe_glob hg hm (v := .ref (He.ga X.K x)) rfl hd) he.pe hs) fun σ H Q q => ?_⟩
    obtain ⟨φ, ρ, m, h, r, q⟩ := q
    show tE X.K p W f σ H _
    refine (thE ?_ (stepE h r q))
    rintro v H1 ⟨φ1, d, m1, n1, h1, r1, v1, q1⟩
    cases d with
    | int i =>
      have q1' : postE X.K p W σ φ1 H1 (match valD false (.int i) (tblD tbl) with
        | some v => .ok v m1
        | none => .bad) Q := q1
      rw [valD_tbl] at q1'
      cases hg : getI i tbl with
      | none => rw [hg] at q1'; exact False.elim q1'
      | some s =>
        rw [hg] at q1'
        simp only [VR] at v1
        exact ⟨i, s, rfl, v1, hg, q1' φ1 H1 _ Nx.refl h1 (by simp [VR])⟩
    | str s =>
      have q1' : postE X.K p W σ φ1 H1 (match valD false (.str s) (tblD tbl) with
        | some v => .ok v m1
        | none => .bad) Q := q1
      rw [valD_str] at q1'
      exact False.elim q1'
    | _ => exact False.elim q1
end DL

set_option Elab.async false
set_option linter.all false
set_option maxRecDepth 100000
set_option maxHeartbeats 4000000
namespace DL
open PySem PySem.Spec PyProof.Rows L2
/-! ### the head: facts by names and a look of one's own -/
abbrev ObX : Type := He.AlD × Bool
def obX (fa : List He.Fa) (fn : List He.DefD) (ex : PySem.W.Frag → Bool) (K : PySem.W.Frag) : ObX := (He.obsD fa fn K, ex K)
def obXG (n : Nat) (fa : List He.Fa) (fn : List He.DefD) (ex : PySem.W.Frag → Bool) (g : Addr → Option Obj) : ObX := obX fa fn ex (He.frG g (He.asD g n))
def hookX (n : Nat) (fa : List He.Fa) (fn : List He.DefD) (ex : PySem.W.Frag → Bool) : PySem.W.Hook where
  α := ObX
  obs := fun s => obXG n fa fn ex s.heap.get?
  val := fun _ => (He.valD fn, true)
  says := fun _ h => ∃ K : PySem.W.Frag, K.In h ∧ (He.SaysD fa fn K ∧ ex K = true)
  of := fun _ _ e => ⟨_, He.frG_in, congrArg Prod.fst e, congrArg Prod.snd e⟩
  keeps := fun _ _ _ ⟨K, hK, c⟩ k => ⟨K, PySem.W.Frag.In.keeps hK k, c⟩
theorem obXG_eq {n : Nat} {fa : List He.Fa} {fn : List He.DefD} {ex : PySem.W.Frag → Bool} {g : Addr → Option Obj} {s : Shared} (h : ∀ a, g a = s.heap.get? a) : obXG n fa fn ex g = (hookX n fa fn ex).obs s := by
  have e : g = s.heap.get? := funext h
  subst e
  rfl
theorem fun_one {K : PySem.W.Frag} {x y : Str} {q q' : Arguments} {b b' : List Stmt} {sc sc' : Scope} {f : Addr} {fd fd' : FuncData} (F : FunD K x x q b sc [] [] f fd) (G : FunD K y y q' b' sc' [] [] f fd') : fd = fd' := by
  obtain ⟨_, _, _, _, _, _, _, _, _, _, _, l, _⟩ := F.ex
  obtain ⟨_, _, _, _, _, _, _, _, _, _, _, l', _⟩ := G.ex
  rw [l] at l'
  cases l'
  rfl
theorem fnokG_of {p : Pr} {P : Program} {w : World} {K : PySem.W.Frag} {mg : Str → Option Value} {base : Heap} {x : Str} {st : Stmt} {ps : List Str} {k : Nat} {F : List D → Mem → Res D} {f : Addr} {fd : FuncData}
    (G : DefOkG p P w K mg base x st ps k F) (hm : mg x = some (.ref f)) (FD : FunD K x x (defArgs st) (defBody st) (defScope st) [] [] f fd) : FnOkG P w K mg base (L2.CX P w) k f fd ps (spD K p ps.length F) := by
  obtain ⟨f', fd', h, hm', FD', _⟩ := G.ex
  rw [hm] at hm'
  cases hm'
  obtain rfl := fun_one FD FD'
  exact h
/-- the promise of a def that no guard hinders, where none is under way -/
theorem DefOk.g {p : Pr} {P : Program} {w : World} {K : PySem.W.Frag} {mg : Str → Option Value} {base : Heap} {x : Str} {st : Stmt} {ps : List Str} {k : Nat} {F : List D → Mem → Res D} (G : DefOk p P w K mg base x st ps k F) : DefOkG p P w K mg base x st ps k F := by
  obtain ⟨f, fd, h, r⟩ := G.ex
  exact ⟨⟨f, fd, ⟨h.len, fun A outer s H args us vs Q E _ => h.run A outer s H args us vs Q E⟩, r⟩, G.bad⟩
/-- the law's script -/
theorem vrs_ints {K : PySem.W.Frag} {p : Pr} {φ : List Addr} {H : Hp} : ∀ ns : List Int, VRs K p φ H (ns.map D.int) (ns.map V.int)
  | [] => by simp [VRs]
  | n :: ns => by
    have r := vrs_ints (K := K) (p := p) (φ := φ) (H := H) ns
    simp only [List.map_cons, VRs, VR]
    exact ⟨_, _, rfl, rfl, r⟩
theorem sp_script {K : PySem.W.Frag} {p : Pr} {F : List D → Mem → Res D} {H : Hp} {a : Addr} {ns : List Int} (hO : Only H) (hS : SqL K H a (ns.map V.int)) (h : ∃ m, F [.rol (ns.map D.int)] [] = .ok (.bl true) m) :
    spD K p 1 F [.ref a] H (fun v _ => v = .bl true) fun _ _ _ => False := by
  obtain ⟨m, h⟩ := h
  refine ⟨rfl, [], [], [.rol (ns.map D.int)], HR.nil, ?_, ?_⟩
  · simp only [VRs, VR]
    refine ⟨_, _, rfl, ⟨a, _, rfl, ?_, vrs_ints ns⟩, rfl⟩
    rcases hS with (z | z) | z
    · rcases hO a with e | ⟨o, xs, e⟩
      · rw [e] at z; cases z
      · rw [e] at z; cases z
    · exact .inl z
    · exact .inr fun H' => .inr z
  · rw [h]
    intro φ' H' v _ _ hv
    simp only [VR] at hv
    exact hv
end DL

set_option Elab.async false
set_option linter.all false
set_option maxRecDepth 100000
set_option maxHeartbeats 4000000
namespace DL
open PySem PySem.Spec PyProof.Rows L2
/-! texts: split, find from a place, upper, int of a text, repr of a text; order of tuples; stars; f-strings -/
abbrev sxOf (s : List Nat) : Str := SX.S s
def asc (n : Nat) (s : List Nat) : Bool := s.all (· < n)
def mSplit (d : D) (ds : List D) (m : Mem) : OAns := match strD d, ds with
  | some s, [.str t] => (match !t.isEmpty && (asc 256 t && Nat.ble (s.length + 2) 16777216) with
    | true => newL ((TL.spl t 0 [] s).map D.str) m
    | false => none)
  | _, _ => none
def mFind (d : D) (ds : List D) (m : Mem) : OAns := match strD d, ds with
  | some s, [.str t, .int i] => some (.int (Txt.find3 (sxOf s) (sxOf t) i), m)
  | _, _ => none
def mUpper (d : D) (ds : List D) (m : Mem) : OAns := match strD d, ds with
  | some s, [] => (match asc 128 s && Nat.ble s.length 5592405 with
    | true => some (.str (s.map PyProof.Rows.up1), m)
    | false => none)
  | _, _ => none
def vIntS (d : D) (m : Mem) : OAns := match d with
  | .str s => (match Nat.ble s.length 640 with
    | true => (match PySem.intText? (sxOf s) with
      | some n => some (.int n, m)
      | none => none)
    | false => none)
  | _ => vInt d m
def vReprS (d : D) (m : Mem) : OAns := match d with
  | .str s => (match Nat.ble (reprText (sxOf s)).length 16777216 with
    | true => some (.str (reprText (sxOf s)).cps.toList, m)
    | false => none)
  | _ => vRepr d m
def leI2 (a b : List Int) : Bool := !HT.lexLt b a
def oLeT (d e : D) (m : Mem) : OAns := match tupD d, tupD e with
  | some xs, some ys => (match intsD xs, intsD ys with
    | some is, some js => some (.bl (leI2 is js), m)
    | _, _ => none)
  | _, _ => oLe d e m
def oGeT (d e : D) (m : Mem) : OAns := match tupD d, tupD e with
  | some xs, some ys => (match intsD xs, intsD ys with
    | some is, some js => some (.bl (leI2 js is), m)
    | _, _ => none)
  | _, _ => oGe d e m
section
variable {p : Pr} {X : Cx} {W : WX} {K : PySem.W.Frag} {φ : List Addr} {m : Mem} {H : Hp}
theorem vrs_strs : ∀ l : List (List Nat), VRs K p φ H (l.map D.str) ((l.map sxOf).map V.str)
  | [] => by simp [VRs]
  | x :: r => by
    simp only [List.map_cons, VRs, VR]
    exact ⟨_, _, rfl, rfl, vrs_strs r⟩
theorem fm_split : FMt p X "str.split" mSplit := fun pins s σ H x xs v us Q I rx rxs q => by
  obtain ⟨φ, m, d, ds, hm, r1, r2, q⟩ := q
  unfold mSplit at q
  split at q
  · rename_i a t es
    obtain rfl := strD_ok es
    simp only [VR] at r1; subst r1
    simp only [VRs, VR] at r2
    obtain ⟨w, _, rfl, rfl, rfl⟩ := r2
    split at q
    · rename_i hc
      simp only [Bool.and_eq_true, Bool.not_eq_true', Nat.ble_eq] at hc
      obtain ⟨h1, h2, h3⟩ := hc
      have hb : t ≠ [] := fun z => by subst z; simp at h1
      refine mt_split pins s σ H _ _ v us Q I rx rxs ⟨sxOf a, sxOf t, rfl, rfl, ?_, ?_, ?_⟩
      · have hl : (sxOf t).length = t.length := SX.S_len t
        rw [hl]
        cases t with
        | nil => exact absurd rfl hb
        | cons x r => simp
      · rw [SX.S_len, sizeLine_eq]; exact h3
      · rw [SX.split_S hb h2]
        intro p' hp
        exact newL_ok hm (vrs_strs _) q p' hp
    · exact False.elim q
  · exact False.elim q
theorem fm_find : FMt p X "str.find" mFind := fun pins s σ H x xs v us Q I rx rxs q => by
  obtain ⟨φ, m, d, ds, hm, r1, r2, q⟩ := q
  unfold mFind at q
  split at q
  · rename_i a t i es
    obtain rfl := strD_ok es
    simp only [VR] at r1; subst r1
    simp only [VRs, VR] at r2
    obtain ⟨w, _, rfl, rfl, w', _, rfl, rfl, rfl⟩ := r2
    exact mt_find3 pins s σ H _ _ v us Q I rx rxs ⟨sxOf a, sxOf t, i, rfl, rfl, q φ H _ Nx.refl hm (by simp [VR, sxOf])⟩
  · exact False.elim q
theorem fm_upper : FMt p X "str.upper" mUpper := fun pins s σ H x xs v us Q I rx rxs q => by
  obtain ⟨φ, m, d, ds, hm, r1, r2, q⟩ := q
  unfold mUpper at q
  split at q
  · rename_i a es
    obtain rfl := strD_ok es
    simp only [VR] at r1; subst r1
    simp only [VRs] at r2; subst r2
    split at q
    · rename_i hc
      simp only [Bool.and_eq_true, Nat.ble_eq] at hc
      refine mt_upper pins s σ H _ _ v us Q I rx rxs ⟨sxOf a, rfl, rfl, by rw [SX.S_len]; exact hc.2, ?_⟩
      rw [SX.upper_S hc.1]
      exact q φ H _ Nx.refl hm (by simp [VR])
    · exact False.elim q
  · exact False.elim q
theorem fc_intS : FCall p X (.type "int") (one vIntS) := fun pins s σ H xs us Q I r q => by
  obtain ⟨φ, m, ds, hm, rv, q⟩ := q
  match ds, rv, q with
  | [], _, q => exact False.elim q
  | _ :: _ :: _, _, q => exact False.elim q
  | [d], rv, q =>
    cases d with
    | str a =>
      simp only [VRs, VR] at rv
      obtain ⟨w, _, rfl, rfl, rfl⟩ := rv
      simp only [one, vIntS] at q
      split at q
      · rename_i hl
        split at q
        · rename_i n hn
          exact call_int_str pins s σ H _ us Q I r ⟨sxOf a, n, rfl, hn, by rw [SX.S_len]; exact Nat.le_of_ble_eq_true hl, q φ H _ Nx.refl hm (by simp [VR])⟩
        · exact False.elim q
      · exact False.elim q
    | _ => exact fc_int pins s σ H xs us Q I r ⟨φ, m, [_], hm, rv, q⟩
theorem fc_reprS (hg : X.A.guards = some []) (hu : X.A.units + 66 < cLine) : FCall p X (.builtin "repr") (one vReprS) := fun pins s σ H xs us Q I r q => by
  obtain ⟨φ, m, ds, hm, rv, q⟩ := q
  match ds, rv, q with
  | [], _, q => exact False.elim q
  | _ :: _ :: _, _, q => exact False.elim q
  | [d], rv, q =>
    cases d with
    | str a =>
      simp only [VRs, VR] at rv
      obtain ⟨w, _, rfl, rfl, rfl⟩ := rv
      simp only [one, vReprS] at q
      split at q
      · rename_i hl
        obtain ⟨u, rfl, ru⟩ := vals1 r
        obtain ⟨t, rfl⟩ := ru
        exact PySem.P.repr_of_str ⟨.str (reprText (sxOf a)), H, I.tok _, ⟨_, rfl⟩, q φ H _ Nx.refl hm (by simp only [VR])⟩ (by rw [sizeLine_eq]; exact Nat.le_of_ble_eq_true hl)
      · exact False.elim q
    | _ => exact fc_repr hg hu pins s σ H xs us Q I r ⟨φ, m, [_], hm, rv, q⟩
end
end DL

set_option Elab.async false
set_option linter.all false
set_option maxRecDepth 100000
set_option maxHeartbeats 4000000
namespace DL
open PySem PySem.Spec PyProof.Rows L2
/-! ### order of tuples of ints -/
theorem lexAt_shift (e r : Nat → Bool) (z : Bool) : ∀ (k i : Nat), Ob.lexAt e r z (i + 1) k = Ob.lexAt (fun j => e (j + 1)) (fun j => r (j + 1)) z i k
  | 0, _ => rfl
  | k + 1, i => by
    rw [Ob.lexAt_succ, Ob.lexAt_succ, lexAt_shift e r z k (i + 1)]
theorem lexAt_le : ∀ ns ms : List Int, Ob.lexAt (fun j => decide (ns.getD j 0 = ms.getD j 0)) (fun j => decide (ns.getD j 0 ≤ ms.getD j 0)) (decide (ns.length ≤ ms.length)) 0 (min ns.length ms.length) = leI2 ns ms
  | [], ms => by
    cases ms <;> rfl
  | n :: ns, [] => rfl
  | n :: ns, m :: ms => by
    have ih := lexAt_le ns ms
    have hm : min (n :: ns).length (m :: ms).length = min ns.length ms.length + 1 := by simp
    rw [hm, Ob.lexAt_succ, lexAt_shift]
    have hl : decide ((n :: ns).length ≤ (m :: ms).length) = decide (ns.length ≤ ms.length) := by simp
    rw [hl]
    simp only [List.getD_cons_zero, List.getD_cons_succ]
    rw [ih]
    unfold leI2
    rw [HT.lexLt_cons]
    by_cases h : n = m
    · simp [h]
    · have h' : ¬ m = n := fun z => h z.symm
      simp only [h, h', decide_false, if_false, Bool.false_eq_true]
      by_cases q : m < n
      · have : ¬ n ≤ m := by omega
        simp [q, this]
      · have : n ≤ m := by omega
        simp [q, this]
theorem lexAt_ge : ∀ ns ms : List Int, Ob.lexAt (fun j => decide (ns.getD j 0 = ms.getD j 0)) (fun j => decide (ms.getD j 0 ≤ ns.getD j 0)) (decide (ms.length ≤ ns.length)) 0 (min ns.length ms.length) = leI2 ms ns
  | [], ms => by
    cases ms <;> rfl
  | n :: ns, [] => rfl
  | n :: ns, m :: ms => by
    have ih := lexAt_ge ns ms
    have hm : min (n :: ns).length (m :: ms).length = min ns.length ms.length + 1 := by simp
    rw [hm, Ob.lexAt_succ, lexAt_shift]
    have hl : decide ((m :: ms).length ≤ (n :: ns).length) = decide (ms.length ≤ ns.length) := by simp
    rw [hl]
    simp only [List.getD_cons_zero, List.getD_cons_succ]
    rw [ih]
    unfold leI2
    rw [HT.lexLt_cons]
    by_cases h : n = m
    · simp [h]
    · simp only [h, decide_false, if_false, Bool.false_eq_true]
      by_cases q : n < m
      · have : ¬ m ≤ n := by omega
        simp [q, this]
      · have : m ≤ n := by omega
        simp [q, this]
section
variable {p : Pr} {X : Cx} {W : WX} {K : PySem.W.Frag} {φ : List Addr} {m : Mem} {H : Hp}
theorem op_geTup (hu : X.A.units < cLine) : OpR X (compareOp .GtE) (fun x y H Q => ∃ (a b : Addr) (ns ms : List Int), x = .ref a ∧ y = .ref b ∧ SqT X.K H a (ns.map V.int) ∧ SqT X.K H b (ms.map V.int) ∧ Q (.bl (leI2 ms ns)) H) := by
  intro pins s σ H x y v u Q I rx ry ⟨a, b, ns, ms, ex, ey, ha, hb, q⟩
  subst ex ey
  obtain rfl : v = .ref a := rx
  obtain rfl : u = .ref b := ry
  obtain ⟨l1, r1, p1, _⟩ := I.tuple ha
  obtain ⟨l2, r2, p2, _⟩ := I.tuple hb
  have i1 := Vals.ints r1
  have i2 := Vals.ints r2
  have z1 : l1.toArray.size = ns.length := by rw [List.size_toArray]; exact i1.length
  have z2 : l2.toArray.size = ms.length := by rw [List.size_toArray]; exact i2.length
  have g1 : ∀ j (h : j < l1.toArray.size), ∃ t, l1.toArray[j] = .int (ns.getD j 0) t := fun j h => PyProof.Rows.IntsAre.int_at i1 _ _ (by simp at h; simp [h])
  have g2 : ∀ j (h : j < l2.toArray.size), ∃ t, l2.toArray[j] = .int (ms.getD j 0) t := fun j h => PyProof.Rows.IntsAre.int_at i2 _ _ (by simp at h; simp [h])
  have key := Ob.RcOp.tuples_ge (A := X.A) (s := s) (e := fun j => decide (ns.getD j 0 = ms.getD j 0)) (r := fun j => decide (ms.getD j 0 ≤ ns.getD j 0)) p1 p2 hu
    (fun j h1 h2 => by
      obtain ⟨t1, e1⟩ := g1 j h1
      obtain ⟨t2, e2⟩ := g2 j h2
      rw [e1, e2, show decide (ns.getD j 0 = ms.getD j 0) = (ns.getD j 0 == ms.getD j 0) from by rw [Bool.eq_iff_iff]; simp]
      exact SeqAt.EqAt.int_int _ _ _ _)
    (fun j h1 h2 _ => by
      obtain ⟨t1, e1⟩ := g1 j h1
      obtain ⟨t2, e2⟩ := g2 j h2
      rw [e1, e2]
      exact Ob.RcOp.ge_int _ _ _ _)
  rw [z1, z2, lexAt_ge] at key
  exact key X.prog X.w X.xe (EP X pins σ Q) ⟨.bl _, H, I, rfl, q⟩
theorem fo_leT (hu : X.A.units < cLine) : FOp p X (compareOp .LtE) oLeT := fun pins s σ H x y v u Q I rx ry q => by
  obtain ⟨φ, m, d, e, hm, r1, r2, q⟩ := q
  unfold oLeT at q
  split at q
  · rename_i xs ys e1 e2
    split at q
    · rename_i is js e3 e4
      obtain ⟨a, vs, rfl, s1, r1⟩ := tup_at r1 e1
      obtain ⟨b, ws, rfl, s2, r2⟩ := tup_at r2 e2
      obtain rfl := intsD_ok r1 e3
      obtain rfl := intsD_ok r2 e4
      exact op_leT hu pins s σ H _ _ v u Q I rx ry ⟨a, b, is, js, rfl, rfl, s1, s2, by rw [lexAt_le]; exact q φ H _ Nx.refl hm (by simp [VR])⟩
    · exact False.elim q
  · exact fo_le pins s σ H x y v u Q I rx ry ⟨φ, m, d, e, hm, r1, r2, q⟩
theorem fo_geT (hu : X.A.units < cLine) : FOp p X (compareOp .GtE) oGeT := fun pins s σ H x y v u Q I rx ry q => by
  obtain ⟨φ, m, d, e, hm, r1, r2, q⟩ := q
  unfold oGeT at q
  split at q
  · rename_i xs ys e1 e2
    split at q
    · rename_i is js e3 e4
      obtain ⟨a, vs, rfl, s1, r1⟩ := tup_at r1 e1
      obtain ⟨b, ws, rfl, s2, r2⟩ := tup_at r2 e2
      obtain rfl := intsD_ok r1 e3
      obtain rfl := intsD_ok r2 e4
      exact op_geTup hu pins s σ H _ _ v u Q I rx ry ⟨a, b, is, js, rfl, rfl, s1, s2, q φ H _ Nx.refl hm (by simp [VR])⟩
    · exact False.elim q
  · exact fo_ge pins s σ H x y v u Q I rx ry ⟨φ, m, d, e, hm, r1, r2, q⟩
end
/-! ### stars, f-strings -/
def aStar (f : FX) (g : FL) : FL := fun ρ m => (f ρ m).bind fun d m1 => match itemsS d m1 with
  | some xs => (g ρ m1).bind fun ds m2 => .ok (xs ++ ds) m2
  | none => .bad
def fmtD : D → Option (List Nat)
  | .str s => (match fits s.length with
    | true => some s
    | false => none)
  | .int i => (match Nat.blt i.natAbs.log2 1920 with
    | true => some (strI i)
    | false => none)
  | _ => none
def eFmt (f : FX) : FX := fun ρ m => (f ρ m).bind fun d m1 => match fmtD d with
  | some s => .ok (.str s) m1
  | none => .bad
def eJs : List FX → List Nat → FX
  | [], acc => fun _ m => .ok (.str acc) m
  | f :: r, acc => fun ρ m => (f ρ m).bind fun d m1 => match strD d with
    | some s => (match fits (acc.length + s.length) with
      | true => eJs r (acc ++ s) ρ m1
      | false => .bad)
    | none => .bad
section
variable {p : Pr} {X : Cx} {W : WX} {e : Expr} {es : List Expr} {f : FX} {fs : List FX} {g : FL} {pos : Pos}
theorem fa_star {sp : Pos} (hf : FE p W X e f) (hg : FA p W X es g) (hs : starEach (.Starred e sp :: es) X.env = (true, eval e X.env) :: starEach es X.env := by rfl) : FA p W X (.Starred e sp :: es) (aStar f g) :=
  ⟨pa_imp (StX.pa_star hf.pe hg.pa hs) fun σ H Q q => by
    obtain ⟨φ, ρ, m, hm, r, q⟩ := q
    refine thE ?_ (stepEL hm r q)
    rintro v H1 ⟨φ1, d, m1, n1, h1, r1, v1, q1⟩
    cases hi : itemsS d m1 with
    | none => rw [hi] at q1; exact False.elim q1
    | some xs =>
      rw [hi] at q1
      obtain ⟨a, vs, rfl, sq, vr⟩ := items_at h1 v1 hi
      refine ⟨a, vs, rfl, sq.symm, ?_⟩
      refine thA ?_ (stepLL h1 r1 q1)
      rintro ws H2 ⟨φ2, ds, m2, n2, h2, r2, v2, q2⟩
      exact q2 φ2 H2 _ Nx.refl h2 ((VRs.mono h1 n2 _ _ vr).append v2)⟩
theorem fe_fmt (hf : FE p W X e f) : FE p W X (.FormattedValue e (-1) none pos) (eFmt f) := ⟨pe_imp (pe_fmt hf.pe) fun σ H Q q => by
  obtain ⟨φ, ρ, m, hm, r, q⟩ := q
  refine thE ?_ (stepE hm r q)
  rintro v H1 ⟨φ1, d, m1, n1, h1, r1, v1, q1⟩
  cases hd : fmtD d with
  | none => rw [hd] at q1; exact False.elim q1
  | some s =>
    rw [hd] at q1
    cases d with
    | str a =>
      simp only [fmtD] at hd
      split at hd
      · rename_i hz
        cases hd
        simp only [VR] at v1; subst v1
        exact .inl ⟨_, rfl, by rw [SX.S_len, sizeLine_eq]; exact fits_iff.mp hz, q1 φ1 H1 _ Nx.refl h1 (by simp [VR])⟩
      · cases hd
    | int i =>
      simp only [fmtD] at hd
      split at hd
      · rename_i hz
        cases hd
        simp only [VR] at v1; subst v1
        refine .inr ⟨i, rfl, by rw [Nat.blt_eq] at hz; exact hz, q1 φ1 H1 _ Nx.refl h1 ?_⟩
        simp only [VR, strI, str_eta]
      · cases hd
    | _ => cases hd⟩
structure FJ (p : Pr) (W : WX) (X : Cx) (es : List Expr) (fs : List FX) : Prop where
  pj : PJ X es (fs.map fun f => tE X.K p W f)
theorem fj_nil : FJ p W X [] [] := ⟨.nil⟩
theorem fj_cons (h : FE p W X e f) (r : FJ p W X es fs) : FJ p W X (e :: es) (f :: fs) := ⟨.cons h.pe r.pj⟩
theorem js_run {σ : St} {Q : VK} : ∀ (fs : List FX) (acc : List Nat) (φ : List Addr) (ρ : DL.Env) (m : Mem) (H : Hp), HR X.K p φ m H → ER X.K p φ H ρ σ → postE X.K p W σ φ H (eJs fs acc ρ m) Q →
    tJs (fs.map fun f => tE X.K p W f) (sxOf acc) σ H fun out H1 => Q (.str out) H1
  | [], acc, φ, ρ, m, H, hm, r, q => q φ H _ Nx.refl hm (by simp [VR])
  | f :: fs, acc, φ, ρ, m, H, hm, r, q => by
    show tE X.K p W f σ H _
    refine thE ?_ (stepE hm r q)
    rintro v H1 ⟨φ1, d, m1, n1, h1, r1, v1, q1⟩
    cases hs : strD d with
    | none => rw [hs] at q1; exact False.elim q1
    | some s =>
      rw [hs] at q1
      obtain rfl := strD_ok hs
      simp only [VR] at v1; subst v1
      simp only at q1
      cases hz : fits (acc.length + s.length) with
      | false => rw [hz] at q1; exact False.elim q1
      | true =>
        rw [hz] at q1
        have hl := fits_iff.mp hz
        refine ⟨sxOf s, rfl, ?_, ?_⟩
        · show (SX.S acc ++ SX.S s).length ≤ _
          rw [SX.S_cat, SX.S_len, List.length_append, sizeLine_eq]
          exact hl
        · have := js_run (σ := σ) (Q := Q) fs (acc ++ s) φ1 ρ m1 H1 h1 r1 q1
          rw [show sxOf acc ++ sxOf s = sxOf (acc ++ s) from SX.S_cat acc s]
          exact this
theorem fe_js {v1 v2 : Expr} {rest : List Expr} {fs : List FX} (h : FJ p W X (v1 :: v2 :: rest) fs) : FE p W X (.JoinedStr (v1 :: v2 :: rest) pos) (eJs fs []) := ⟨pe_imp (pe_joined h.pj) fun σ H Q q => by
  obtain ⟨φ, ρ, m, hm, r, q⟩ := q
  exact js_run fs [] φ ρ m H hm r q⟩
theorem fe_js1 (h : FE p W X e f) : FE p W X (.JoinedStr [e] pos) f := ⟨pe_joined1 h.pe⟩
end
end DL

set_option Elab.async false
set_option linter.all false
set_option maxRecDepth 100000
set_option maxHeartbeats 4000000
namespace DL
open PySem PySem.Spec PyProof.Rows L2
/-! ### constants of the module: ints, texts, tuples of such; dicts whose keys are tuples of ints -/
def vOf : Value → V
  | .int i _ => .int i
  | .str s _ => .str s
  | .ref a => .ref a
  | _ => .non
def kBs (f : D → Value → Bool) : List D → List Value → Bool
  | [], [] => true
  | d :: ds, u :: us => f d u && kBs f ds us
  | _, _ => false
def kB (K : PySem.W.Frag) : Nat → D → Value → Bool
  | 0, d, u => (match d, u with
    | .int i, .int j _ => decide (i = j)
    | .str s, .str z _ => decide (z = ⟨s.toArray⟩)
    | _, _ => false)
  | n + 1, d, u => (match d, u with
    | .int i, .int j _ => decide (i = j)
    | .str s, .str z _ => decide (z = ⟨s.toArray⟩)
    | .ktup ds, .ref a => (match K.lookup a with
      | some ⟨.type c, none, .seq its _, _⟩ => decide (c = "tuple") && (decide (its.size ≤ sizeLine) && kBs (kB K n) ds its.toList)
      | _ => false)
    | _, _ => false)
def KGood (K : PySem.W.Frag) (d : D) (u : Value) : Prop := RelV (vOf u) u ∧ ∀ p φ H, VR K p φ H d (vOf u)
theorem kBs_ok {K : PySem.W.Frag} {f : D → Value → Bool} (hf : ∀ d u, f d u = true → KGood K d u) : ∀ {ds : List D} {us : List Value}, kBs f ds us = true → Vals (us.map vOf) us ∧ ∀ p φ H, VRs K p φ H ds (us.map vOf)
  | [], [], _ => ⟨.nil, fun _ _ _ => by simp [VRs]⟩
  | [], _ :: _, h => by cases h
  | _ :: _, [], h => by cases h
  | d :: ds, u :: us, h => by
    obtain ⟨h1, h2⟩ := Bool.and_eq_true_iff.mp h
    obtain ⟨a, b⟩ := hf d u h1
    obtain ⟨c, e⟩ := kBs_ok hf h2
    exact ⟨.cons a c, fun p φ H => by simp only [List.map_cons, VRs]; exact ⟨_, _, rfl, b p φ H, e p φ H⟩⟩
theorem kB_ok {K : PySem.W.Frag} : ∀ (n : Nat) (d : D) (u : Value), kB K n d u = true → KGood K d u
  | 0, d, u, h => by
    unfold kB at h
    split at h
    · obtain rfl := of_decide_eq_true h; exact ⟨⟨_, rfl⟩, fun _ _ _ => by simp [VR, vOf]⟩
    · obtain rfl := of_decide_eq_true h; exact ⟨⟨_, rfl⟩, fun _ _ _ => by simp [VR, vOf]⟩
    · cases h
  | n + 1, d, u, h => by
    unfold kB at h
    split at h
    · obtain rfl := of_decide_eq_true h; exact ⟨⟨_, rfl⟩, fun _ _ _ => by simp [VR, vOf]⟩
    · obtain rfl := of_decide_eq_true h; exact ⟨⟨_, rfl⟩, fun _ _ _ => by simp [VR, vOf]⟩
    · rename_i ds a
      split at h
      · rename_i c its ep sl hl
        simp only [Bool.and_eq_true, decide_eq_true_eq] at h
        obtain ⟨rfl, hz, hk⟩ := h
        obtain ⟨v1, v2⟩ := kBs_ok (kB_ok n) hk
        refine ⟨rfl, fun p φ H => ?_⟩
        simp only [VR]
        exact ⟨a, _, rfl, .inr ⟨fun H' => .inr ⟨_, its, ep, hl, rfl, rfl, hz, v1⟩, _, hl, rfl, rfl⟩, v2 p φ H⟩
      · cases h
    · cases h
structure KCon (K : PySem.W.Frag) (mg : Str → Option Value) (x : Str) (d : D) : Prop where
  ex : ∃ u, mg x = some u ∧ KGood K d u
def conB (K : PySem.W.Frag) (x : Str) (d : D) : Bool := match PySem.W.nsIn K mainGlobals x with
  | some (some u) => kB K 4 d u
  | _ => false
theorem conB_ok {K : PySem.W.Frag} {h : Heap} {mg : Str → Option Value} (X : K.In h) (G : h.Ns mainGlobals mg) {x : Str} {d : D} (c : conB K x d = true) : KCon K mg x d := by
  unfold conB at c
  split at c
  · rename_i u e
    exact ⟨u, PySem.W.mg_of X G e, kB_ok 4 d u c⟩
  · cases c
theorem fe_con {p : Pr} {W : WX} {X : Cx} {x : Str} {d : D} {pos : Pos} (h : KCon X.K X.mg x d) (hg : Gl X x := by rfl) (hd : (x == ("__debug__" : Str)) = false := by decide) : FE p W X (.Name x pos) (eC d) :=
  let ⟨u, e, r, v⟩ := h.ex; fe_glob (w := vOf u) hg e r (fun φ H => v p φ H) hd
/-! dicts -/
def hashT (is : List Int) : Int := reduceHash (Builtin.Tuple.tupleHashOf (is.map hashInt))
def intsB : List Int → List Value → Bool
  | [], [] => true
  | i :: is, .int j _ :: us => decide (i = j) && intsB is us
  | _, _ => false
def entB (K : PySem.W.Frag) : List (List Int × D) → List DictEntry → Bool
  | [], [] => true
  | z :: t, e :: r => (match e.key with
    | .ref a => (match K.lookup a with
      | some ⟨.type c, _, .seq its _, _⟩ => decide (c = "tuple") && (intsB z.1 its.toList && (decide (e.hash = hashT z.1) && kB K 3 z.2 e.val))
      | _ => false)
    | _ => false) && entB K t r
  | _, _ => false
def nodT : List (List Int) → Bool
  | [] => true
  | x :: r => !(r.any fun y => decide (y = x)) && nodT r
def dspB (K : PySem.W.Frag) (x : Str) (tbl : List (List Int × D)) : Bool := match K.lookup (He.ga K x) with
  | some ⟨.type c, none, .dict es _, sl⟩ => decide (c = "dict") && (decide (sl = #[]) && (!(He.ga K x == sysModules) && (entB K tbl es.toList && nodT (tbl.map (·.1)))))
  | _ => false
def tblT (tbl : List (List Int × D)) : List (D × D) := tbl.map fun z => (.tup (z.1.map .int), z.2)
def getT2 (k : List Int) : List (List Int × D) → Option D
  | [] => none
  | z :: r => match decide (z.1 = k) with
    | true => some z.2
    | false => getT2 k r
/-- the dict at the key -/
def eKt (tbl : List (List Int × D)) (f : FX) : FX := fun ρ m => (f ρ m).bind fun d m1 => match tupK d with
  | some ds => (match intsD ds with
    | some k => (match getT2 k tbl with
      | some v => .ok v m1
      | none => .bad)
    | none => .bad)
  | none => .bad
def eKin (tbl : List (List Int × D)) (f : FX) : FX := fun ρ m => (f ρ m).bind fun d m1 => match tupK d with
  | some ds => (match intsD ds with
    | some k => .ok (.bl (getT2 k tbl).isSome) m1
    | none => .bad)
  | none => .bad
theorem nodT_ok : ∀ l : List (List Int), nodT l = true → l.Nodup
  | [], _ => by simp
  | x :: r, h => by
    obtain ⟨h1, h2⟩ := Bool.and_eq_true_iff.mp h
    refine List.nodup_cons.mpr ⟨fun z => ?_, nodT_ok r h2⟩
    have : (r.any fun y => decide (y = x)) = true := List.any_eq_true.mpr ⟨x, z, by simp⟩
    rw [this] at h1; cases h1
theorem intsB_ok : ∀ {is : List Int} {us : List Value}, intsB is us = true → IntsAre us is
  | [], [], _ => .nil
  | [], _ :: _, h => by cases h
  | _ :: _, [], h => by cases h
  | i :: is, u :: us, h => by
    cases u with
    | int j t =>
      obtain ⟨h1, h2⟩ := Bool.and_eq_true_iff.mp h
      obtain rfl := of_decide_eq_true h1
      exact .cons i t (intsB_ok h2)
    | _ => cases h
end DL

set_option Elab.async false
set_option linter.all false
set_option maxRecDepth 100000
set_option maxHeartbeats 4000000
namespace DL
open PySem PySem.Spec PyProof.Rows L2
abbrev TK (P : Program) (w : World) := tupleKind (mixKind P w)
abbrev kI (is : List Int) : List L2.Key := is.map Sum.inl
theorem kI_inj {a b : List Int} (h : kI a = kI b) : a = b := by
  induction a generalizing b with
  | nil => cases b with
    | nil => rfl
    | cons y b => cases h
  | cons x a ih => cases b with
    | nil => cases h
    | cons y b =>
      simp only [List.map_cons, List.cons.injEq, Sum.inl.injEq] at h
      rw [h.1, ih h.2]
theorem hashT_eq (P : Program) (w : World) (is : List Int) : tupleKeyHash (mixKind P w) (kI is) = hashT is := by
  unfold tupleKeyHash hashT
  rw [List.map_map]; rfl
theorem items_ints (P : Program) (w : World) : ∀ {is : List Int} {us : List Value}, intsB is us = true → ItemsAre (mixKind P w) (kI is) us
  | [], [], _ => .nil
  | [], _ :: _, h => by cases h
  | _ :: _, [], h => by cases h
  | i :: is, u :: us, h => by
    cases u with
    | int j t =>
      obtain ⟨h1, h2⟩ := Bool.and_eq_true_iff.mp h
      obtain rfl := of_decide_eq_true h1
      refine .cons ?_ (items_ints P w h2)
      show Value.isInt i (.int i t) = true
      simp [Value.isInt]
    | _ => cases h
theorem ent_ok {P : Program} {w : World} {K : PySem.W.Frag} {h : Heap} (X : K.In h) : ∀ {tbl : List (List Int × D)} {es : List DictEntry}, entB K tbl es = true →
    ∃ xs : List (List L2.Key × Addr × Value), es = xs.map (entryOfKey (TK P w)) ∧ (∀ x ∈ xs, (TK P w).is h x.1 x.2.1) ∧ xs.map (·.1) = (tbl.map (·.1)).map kI ∧
      ∀ k, (∀ d, getT2 k tbl = some d → ∃ q, atKey xs (kI k) = some q ∧ KGood K d q.2) ∧ (getT2 k tbl = none → atKey xs (kI k) = none)
  | [], [], _ => ⟨[], rfl, by simp, rfl, fun k => ⟨fun d e => (by cases e), fun _ => rfl⟩⟩
  | [], _ :: _, h => by cases h
  | _ :: _, [], h => by cases h
  | z :: t, e :: r, hh => by
    obtain ⟨h1, h2⟩ := Bool.and_eq_true_iff.mp (show ((match e.key with
      | .ref a => (match K.lookup a with
        | some ⟨.type c, _, .seq its _, _⟩ => decide (c = "tuple") && (intsB z.1 its.toList && (decide (e.hash = hashT z.1) && kB K 3 z.2 e.val))
        | _ => false)
      | _ => false) && entB K t r) = true from hh)
    obtain ⟨xs, e1, e2, e3, e4⟩ := ent_ok (P := P) (w := w) X h2
    obtain ⟨eh, ek, ev⟩ := e
    split at h1
    · rename_i a hk
      split at h1
      · rename_i c dd its n sl hl
        simp only [Bool.and_eq_true, decide_eq_true_eq] at h1
        obtain ⟨rfl, h5, h6, h7⟩ := h1
        have hk' : ek = .ref a := hk
        have h6' : eh = hashT z.1 := h6
        have h7' : kB K 3 z.2 ev = true := h7
        refine ⟨(kI z.1, a, ev) :: xs, ?_, ?_, ?_, fun k => ⟨fun d hd => ?_, fun hd => ?_⟩⟩
        · rw [List.map_cons, ← e1, hk', h6']
          show _ = (⟨tupleKeyHash (mixKind P w) (kI z.1), .ref a, ev⟩ : DictEntry) :: r
          rw [hashT_eq]
        · intro x hx
          rcases List.mem_cons.mp hx with rfl | hx
          · exact ⟨_, its, n, X a _ hl, rfl, rfl, items_ints P w h5⟩
          · exact e2 x hx
        · simp only [List.map_cons, e3]
        · by_cases hz : z.1 = k
          · have hd' : some z.2 = some d := by
              have : getT2 k (z :: t) = some z.2 := by simp [getT2, hz]
              rw [← this]; exact hd
            cases hd'
            refine ⟨(a, ev), ?_, kB_ok 3 _ _ h7'⟩
            simp [atKey, List.find?_cons, hz]
          · have hd' : getT2 k t = some d := by
              have : getT2 k (z :: t) = getT2 k t := by simp [getT2, hz]
              rw [← this]; exact hd
            obtain ⟨q, q1, q2⟩ := (e4 k).1 d hd'
            refine ⟨q, ?_, q2⟩
            have : ¬ kI z.1 = kI k := fun y => hz (kI_inj y)
            simp only [atKey, List.find?_cons, decide_eq_false this]
            exact q1
        · by_cases hz : z.1 = k
          · simp [getT2, hz] at hd
          · have hd' : getT2 k t = none := by
              have : getT2 k (z :: t) = getT2 k t := by simp [getT2, hz]
              rw [← this]; exact hd
            have : ¬ kI z.1 = kI k := fun y => hz (kI_inj y)
            simp only [atKey, List.find?_cons, decide_eq_false this]
            exact (e4 k).2 hd'
      · cases h1
    · cases h1
theorem dsp_at {P : Program} {w : World} {K : PySem.W.Frag} {h : Heap} {x : Str} {tbl : List (List Int × D)} (X : K.In h) (c : dspB K x tbl = true) :
    (He.ga K x == sysModules) = false ∧ ∃ xs : List (List L2.Key × Addr × Value), h.DictOfH (TK P w) (He.ga K x) xs ∧ ∀ k, (∀ d, getT2 k tbl = some d → ∃ q, atKey xs (kI k) = some q ∧ KGood K d q.2) ∧ (getT2 k tbl = none → atKey xs (kI k) = none) := by
  unfold dspB at c
  split at c
  · rename_i cc es ep sl hl
    simp only [Bool.and_eq_true, decide_eq_true_eq, Bool.not_eq_true'] at c
    obtain ⟨rfl, rfl, h1, h2, h3⟩ := c
    obtain ⟨xs, e1, e2, e3, e4⟩ := ent_ok (P := P) (w := w) X h2
    refine ⟨h1, xs, ⟨_, es, ep, X _ _ hl, ⟨rfl, rfl, rfl⟩, rfl, e1, e2, ?_⟩, e4⟩
    rw [e3]
    have := nodT_ok _ h3
    exact List.Pairwise.map kI (fun a b hab z => hab (kI_inj z)) this
  · cases c
section
variable {p : Pr} {W : WX} {X : Cx} {x : Str} {tbl : List (List Int × D)} {e : Expr} {f : FX} {pp pos : Pos}
theorem kI_kV (is : List Int) : (kI is).map kV = is.map V.int := by
  rw [List.map_map]; rfl
theorem ix_kt (hu : X.A.units + 1 < cLine) (c : dspB X.K x tbl = true) : IxR X (fun u y H Q => ∃ (b : Addr) (k : List Int) (d : D), u = .ref (He.ga X.K x) ∧ y = .ref b ∧ H b = some (.tup (k.map V.int)) ∧ getT2 k tbl = some d ∧ ∀ v, (∀ p φ H, VR X.K p φ H d v) → Q v H) := by
  intro value slice pins s σ H x' y v u Q I rx ry ⟨b, k, d, ex, ey, eb, hk, q⟩ hs
  subst ex ey
  obtain rfl : v = .ref (He.ga X.K x) := rx
  obtain rfl : u = .ref b := ry
  obtain ⟨h1, xs, dd, h2⟩ := dsp_at (P := X.prog) (w := X.w) I.kIn c
  obtain ⟨q0, a1, a2, a3⟩ := (h2 k).1 d hk
  have hT := dd.typeIs (s := s)
  unfold subscriptTail
  refine wpAny_bind ?_
  rw [getitemInPython_of_ne hT.not_modules]
  refine wpAny_bind (wpAny_specialOf hT PySem.F.slot_dict_getitem.lookup ?_)
  have key : (TK X.prog X.w).is s.heap (kI k) b := key_of I.hok (by rw [kI_kV]; exact eb)
  have fin : wpAny (model X.prog X.w) X.A (subscripted slice false (.ref (He.ga X.K x)) (.ref b)) (fun r s₃ => wpAny (model X.prog X.w) X.A (letTemporaryGo value (.ref (He.ga X.K x)) r >>= fun _ => pure r) (EP X pins σ Q) X.xe s₃) X.xe s := by
    rw [hs]
    refine wpAny_operating (wpAny_getItem_heap (tupleKind_room_in1 hu) key dd a1 ?_)
    exact wpAny_bind (wpAny_letTemporaryGo (wpAny_pure ⟨vOf q0.2, H, I.tok _, a2, q _ a3⟩))
  first
    | exact wpAny_pure (wpAny_bind fin)
    | exact wpAny_bind (wpAny_pure (wpAny_bind fin))
    | exact wpAny_bind fin
theorem op_inKt (hu : X.A.units + 1 < cLine) (c : dspB X.K x tbl = true) : OpR X (compareOp .In) (fun y u H Q => ∃ (b : Addr) (k : List Int), u = .ref (He.ga X.K x) ∧ y = .ref b ∧ H b = some (.tup (k.map V.int)) ∧ Q (.bl (getT2 k tbl).isSome) H) := by
  intro pins s σ H y u' v u Q I ry ru ⟨b, k, eu, ey, eb, q⟩
  subst eu ey
  obtain rfl : u = .ref (He.ga X.K x) := ru
  obtain rfl : v = .ref b := ry
  obtain ⟨h1, xs, dd, h2⟩ := dsp_at (P := X.prog) (w := X.w) I.kIn c
  have key : (TK X.prog X.w).is s.heap (kI k) b := key_of I.hok (by rw [kI_kV]; exact eb)
  refine wpAny_in_heap (tupleKind_room_in1 hu) key h1 dd ?_
  have : (atKey xs (kI k)).isSome = (getT2 k tbl).isSome := by
    cases hg : getT2 k tbl with
    | none => rw [(h2 k).2 hg]; rfl
    | some d => obtain ⟨q0, a1, _⟩ := (h2 k).1 d hg; rw [a1]; rfl
  rw [this]
  exact ⟨.bl _, H, I.tok _, rfl, q⟩
/-- what must be known of the dict -/
def KTup (K : PySem.W.Frag) (mg : Str → Option Value) (x : Str) (tbl : List (List Int × D)) : Prop := mg x = some (.ref (He.ga K x)) ∧ dspB K x tbl = true
theorem key_tup {K : PySem.W.Frag} {φ : List Addr} {H : Hp} {d : D} {v : V} {ds : List D} {k : List Int} (r : VR K p φ H d v) (h1 : tupK d = some ds) (h2 : intsD ds = some k) : ∃ b, v = .ref b ∧ H b = some (.tup (k.map V.int)) := by
  obtain rfl := tupK_ok h1
  simp only [VR] at r
  obtain ⟨b, vs, rfl, e, rv⟩ := r
  obtain rfl := intsD_ok rv h2
  exact ⟨b, rfl, e⟩
theorem fe_kt (h : KTup X.K X.mg x tbl) (hu : X.A.units + 1 < cLine) (he : FE p W X e f) (hg : Gl X x := by rfl) (hs : PlainIx e := by first | (intro _ _; rfl) | exact fun _ _ => rfl) (hd : (x == ("__debug__" : Str)) = false := by decide) : FE p W X (.Subscript (.Name x pp) e pos) (eKt tbl f) :=
  ⟨pe_imp (pe_ix (ix_kt hu h.2) (pe_glob hg h.1 (v := .ref (He.ga X.K x)) rfl hd) he.pe hs) fun σ H Q q => by
    obtain ⟨φ, ρ, m, hm, r, q⟩ := q
    show tE X.K p W f σ H _
    refine thE ?_ (stepE hm r q)
    rintro v H1 ⟨φ1, d, m1, n1, h1, r1, v1, q1⟩
    cases hk : tupK d with
    | none => rw [hk] at q1; exact False.elim q1
    | some ds =>
      rw [hk] at q1
      simp only at q1
      cases hi : intsD ds with
      | none => rw [hi] at q1; exact False.elim q1
      | some k =>
        rw [hi] at q1
        simp only at q1
        cases hg : getT2 k tbl with
        | none => rw [hg] at q1; exact False.elim q1
        | some w =>
          rw [hg] at q1
          obtain ⟨b, rfl, eb⟩ := key_tup v1 hk hi
          exact ⟨b, k, w, rfl, rfl, eb, hg, fun v hv => q1 φ1 H1 v Nx.refl h1 (hv p φ1 H1)⟩⟩
theorem ft_kin (h : KTup X.K X.mg x tbl) (hu : X.A.units + 1 < cLine) (he : FE p W X e f) (hg : Gl X x := by rfl) (hd : (x == ("__debug__" : Str)) = false := by decide) (hm : behindInMarks .In (.Name x pp) = false := by first | exact nomark _ | rfl | with_unfolding_all rfl) : FT p W X (.Compare e [.In] [.Name x pp] pos) (bOf (eKin tbl f)) :=
  ⟨pt_imp (pt_cmpR (op_inKt hu h.2) he.pe (pe_glob hg h.1 (v := .ref (He.ga X.K x)) rfl hd) hm) fun σ H Q q => by
    obtain ⟨φ, ρ, m, hm, r, q⟩ := bOf_in q
    refine thE ?_ (stepE hm r q)
    rintro v H1 ⟨φ1, d, m1, n1, h1, r1, v1, q1⟩
    cases hk : tupK d with
    | none => rw [hk] at q1; exact False.elim q1
    | some ds =>
      rw [hk] at q1
      simp only at q1
      cases hi : intsD ds with
      | none => rw [hi] at q1; exact False.elim q1
      | some k =>
        rw [hi] at q1
        obtain ⟨b, rfl, eb⟩ := key_tup v1 hk hi
        exact ⟨b, k, rfl, rfl, eb, q1 φ1 H1 _ Nx.refl h1 (by simp [VR])⟩⟩
end
end DL

set_option Elab.async false
set_option linter.all false
set_option maxRecDepth 100000
set_option maxHeartbeats 4000000
namespace DL
open PySem PySem.Spec PyProof.Rows L2
/-! ### a dict display of several entries, the keys tuples -/
def eDN : List (FX × FX) → List (D × D) → FX
  | [], acc => fun _ m => match allK true acc && Nat.ble acc.length 15 with
    | true => .ok (.ref m.length) (m ++ [.dic true (mergeD true [] acc)])
    | false => .bad
  | z :: r, acc => fun ρ m => (z.1 ρ m).bind fun k m1 => (z.2 ρ m1).bind fun v m2 => eDN r (acc ++ [(k, v)]) ρ m2
structure PE4 where
  k : Value
  v : Value
  x : V
  y : V
section
variable {p : Pr} {X : Cx} {W : WX}
abbrev PR2 (K : PySem.W.Frag) (p : Pr) (φ : List Addr) (H : Hp) : D × D → V × V → Prop := fun q v => VR K p φ H q.1 v.1 ∧ VR K p φ H q.2 v.2
theorem paired_imp {α β : Type} {G G' : α → β → Prop} (h : ∀ a b, G a b → G' a b) : ∀ {l : List α} {r : List β}, Paired G l r → Paired G' l r
  | _, _, .nil => .nil
  | _, _, .cons a b => .cons (h _ _ a) (paired_imp h b)
theorem paired_app {α β : Type} {G : α → β → Prop} : ∀ {l l' : List α} {r r' : List β}, Paired G l r → Paired G l' r' → Paired G (l ++ l') (r ++ r')
  | _, _, _, _, .nil, h => h
  | _, _, _, _, .cons a b, h => .cons a (paired_app b h)
theorem dn_in {σ : St} {Q : VK} {a : Addr} {φ0 : List Addr} {H0 : Hp} {ρ : DL.Env} (na : H0 a = none) : ∀ (l : List (FX × FX)) (acc : List (D × D)) (va : List (V × V)) (φ : List Addr) (m : Mem) (H : Hp),
    Nx φ0 (upd H0 a (.dT [])) φ H → HR X.K p φ m H → ER X.K p φ H ρ σ → H a = some (.dT []) → a ∉ φ → Paired (PR2 X.K p φ H) acc va → postE X.K p W σ φ0 H0 (eDN l acc ρ m) Q →
    tPairs (l.map fun z => (tE X.K p W z.1, tE X.K p W z.2)) σ H fun ps H2 => H2 a = some (.dT []) ∧ ∃ φ2 prs, allK true prs = true ∧ prs.length ≤ 15 ∧ Paired (PR2 X.K p φ2 H2) prs (va ++ ps) ∧
      ∀ o, OR X.K p (φ2 ++ [a]) (upd H2 a o) (.dic true (mergeD true [] prs)) (some o) → Q (.ref a) (upd H2 a o)
  | [], acc, va, φ, m, H, n, hm, r, ea, nA, pa, q => by
    unfold eDN at q
    cases h : allK true acc && Nat.ble acc.length 15 with
    | false => rw [h] at q; exact False.elim q
    | true =>
      rw [h] at q
      obtain ⟨h1, h2⟩ := Bool.and_eq_true_iff.mp h
      refine ⟨ea, φ, acc, h1, Nat.le_of_ble_eq_true h2, by rw [List.append_nil]; exact pa, fun o ho => ?_⟩
      have n0 : Nx φ0 H0 φ0 (upd H0 a (.dT [])) := Nx.new na
      have nn : Nx φ0 H0 φ (upd H a o) := (n0.trans n).side na
      exact q (φ ++ [a]) _ _ (nn.adopt na) ((hm.sideO nA ea rfl).adoptO nA upd_same ho) (VR.last hm.len)
  | z :: l, acc, va, φ, m, H, n, hm, r, ea, nA, pa, q => by
    have n0 : Nx φ0 H0 φ0 (upd H0 a (.dT [])) := Nx.new na
    have notin : ∀ {φ1 : List Addr} {H1 : Hp}, Nx φ H φ1 H1 → a ∉ φ1 := fun {φ1 H1} n1 hz => by
      obtain ⟨new, en, fn⟩ := n1.ext
      rw [en] at hz
      rcases List.mem_append.mp hz with hz | hz
      · exact nA hz
      · have := fn a hz; rw [ea] at this; cases this
    refine ⟨φ, ρ, m, hm, r, ?_⟩
    have q : postE X.K p W σ φ0 H0 ((z.1 ρ m).bind fun k m1 => (z.2 ρ m1).bind fun v m2 => eDN l (acc ++ [(k, v)]) ρ m2) Q := q
    cases ef : z.1 ρ m with
    | bad => rw [ef] at q; exact q
    | exc c d m' => rw [ef] at q; exact postE.nx (n0.trans n) q
    | ok kd m1 =>
      rw [ef] at q
      intro φ1 H1 x n1 h1 r1
      have ea1 : H1 a = some (.dT []) := n1.keep a _ ea nA
      refine ⟨φ1, ρ, m1, h1, r.mono hm n1, ?_⟩
      simp only [Res.bind_ok] at q
      cases eg : z.2 ρ m1 with
      | bad => rw [eg] at q; exact q
      | exc c d m' => rw [eg] at q; exact postE.nx ((n0.trans n).trans n1) q
      | ok vd m2 =>
        rw [eg] at q
        intro φ2 H2 y n2 h2 r2
        have ea2 : H2 a = some (.dT []) := n2.keep a _ ea1 (notin n1)
        have pa2 : Paired (PR2 X.K p φ2 H2) (acc ++ [(kd, vd)]) (va ++ [(x, y)]) :=
          paired_app (paired_imp (fun q v hq => ⟨VR.mono hm (n1.trans n2) _ _ hq.1, VR.mono hm (n1.trans n2) _ _ hq.2⟩) pa) (.cons ⟨VR.mono h1 n2 _ _ r1, r2⟩ .nil)
        have ih := dn_in (Q := Q) (ρ := ρ) na l (acc ++ [(kd, vd)]) (va ++ [(x, y)]) φ2 m2 H2 ((n.trans n1).trans n2) h2 ((r.mono hm n1).mono h1 n2) ea2 (notin (n1.trans n2)) pa2 q
        have e : ∀ ps, va ++ [(x, y)] ++ ps = va ++ (x, y) :: ps := fun ps => by simp
        simp only [e] at ih
        exact ih
theorem mergedT {φ : List Addr} {H : Hp} : ∀ {prs : List (D × D)} {L : List PE4} {acc : List (D × D)} {kvs : List (List L2.Key × V)} {xs : List (List L2.Key × Addr × Value)},
    Paired (fun (q : D × D) (e : PE4) => VR X.K p φ H q.1 e.x ∧ VR X.K p φ H q.2 e.y ∧ RelV e.x e.k ∧ RelV e.y e.v) prs L → allK true prs = true → TR X.K p φ H acc kvs → KT H kvs xs →
    ∃ (ps : List (List L2.Key × Addr × Value)) (kvs' : List (List L2.Key × V)), Paired (fun (e : PE4) (z : List L2.Key × Addr × Value) => e.k = .ref z.2.1 ∧ e.v = z.2.2 ∧ H z.2.1 = some (.tup (z.1.map kV))) L ps ∧ TR X.K p φ H (mergeD true acc prs) kvs' ∧ KT H kvs' (storedAllH xs ps)
  | [], _, acc, kvs, xs, .nil, _, ra, rk => ⟨[], kvs, .nil, ra, rk⟩
  | q :: prs, e :: L, acc, kvs, xs, .cons ⟨r1, r2, r3, r4⟩ c, hk, ra, rk => by
    simp only [allK, Bool.and_eq_true] at hk
    obtain ⟨ks, ek⟩ := keyT_some hk.1
    obtain ⟨b, eb, hb⟩ := keyT_v r1 ek
    have r3' : e.k = .ref b := by rw [eb] at r3; exact r3
    obtain ⟨ps, kvs', h1, h4, h5⟩ := mergedT (acc := putD true acc q.1 q.2) (kvs := putK kvs ks e.y) (xs := storedH xs ks b e.v) c hk.2 (putD_T ek r2 ra) (rk.put ks hb r4)
    exact ⟨(ks, b, e.v) :: ps, kvs', .cons ⟨r3', rfl, hb⟩ h1, h4, h5⟩
theorem carriesH_of {P : Program} {w : World} {H : Hp} {h : Heap} (ok : HOk P w H h) : ∀ {L : List PE4} {ps : List (List L2.Key × Addr × Value)},
    Paired (fun (e : PE4) (z : List L2.Key × Addr × Value) => e.k = .ref z.2.1 ∧ e.v = z.2.2 ∧ H z.2.1 = some (.tup (z.1.map kV))) L ps → CarriesH (tupleKind (mixKind P w)) h (L.map fun e => (e.k, e.v)) ps
  | _, _, .nil => trivial
  | _, _, .cons (a := e) (b := z) ⟨h1, h2, h3⟩ r => ⟨h1, h2, key_of ok h3, carriesH_of ok r⟩
theorem pe4_of {φ : List Addr} {H : Hp} : ∀ {prs : List (D × D)} {vs : List (V × V)} {us : List (Value × Value)}, Paired (PR2 X.K p φ H) prs vs → VV vs us →
    ∃ L : List PE4, us = L.map (fun e => (e.k, e.v)) ∧ Paired (fun (q : D × D) (e : PE4) => VR X.K p φ H q.1 e.x ∧ VR X.K p φ H q.2 e.y ∧ RelV e.x e.k ∧ RelV e.y e.v) prs L
  | _, _, _, .nil, .nil => ⟨[], rfl, .nil⟩
  | _, _, _, .cons (b := v) ⟨a1, a2⟩ r, .cons (b := u) ⟨b1, b2⟩ t => by
    obtain ⟨L, h1, h2⟩ := pe4_of r t
    exact ⟨⟨u.1, u.2, v.1, v.2⟩ :: L, by simp [h1], .cons ⟨a1, a2, b1, b2⟩ h2⟩
/-- the entries of a display -/
structure FPs2 (p : Pr) (W : WX) (X : Cx) (pos : Pos) (ks : List (Option Expr)) (vs : List Expr) (l : List (FX × FX)) : Prop where
  pps : PPs X pos ks vs (l.map fun z => (tE X.K p W z.1, tE X.K p W z.2))
  len : ks.length = l.length
theorem fps2_nil {pos : Pos} : FPs2 p W X pos [] [] [] := ⟨pps_nil, rfl⟩
theorem fps2_cons {pos : Pos} {k v : Expr} {ks : List (Option Expr)} {vs : List Expr} {f g : FX} {l : List (FX × FX)} (hk : FE p W X k f) (hv : FE p W X v g) (h : FPs2 p W X pos ks vs l) : FPs2 p W X pos (some k :: ks) (v :: vs) ((f, g) :: l) := ⟨pps_cons hk.pe hv.pe h.pps, by simp [h.len]⟩
theorem fe_dictN {pos : Pos} {ks : List (Option Expr)} {vs : List Expr} {l : List (FX × FX)} (hu : X.A.units + 1 < cLine) (h : FPs2 p W X pos ks vs l) (hz : (evalEachOpt ks X.env).zip ((evalEach vs X.env).map fun v => do let x ← v; standAt pos; pure x) = (pairTrees ks vs X.env pos).map fun q => (some q.1, q.2))
    (h0 : pairTrees ks vs X.env pos ≠ []) (h15 : (pairTrees ks vs X.env pos).length ≤ 15) : FE p W X (.Dict ks vs pos) (eDN l []) := ⟨⟨fun pins s σ H Q I q => by
  have hn := I.hok.fresh (Nat.le_refl s.heap.objs.size)
  have I1 := I.laid (a := s.heap.objs.size) (o := .dT []) (h' := s.heap.push { cls := .type "dict", data := .dict #[] }) (t' := s.toks) (fun _ _ q => Heap.get?_push_of_some _ q) (Nat.le_refl _) (dt_empty s.heap I.big)
  obtain ⟨φ, ρ, m, hm, r, q⟩ := q
  have nA : s.heap.objs.size ∉ φ := fun z => hm.tracked z hn
  have n0 : Nx φ H φ (upd H s.heap.objs.size (.dT [])) := Nx.new hn
  have w0 := dn_in (Q := Q) (ρ := ρ) (φ0 := φ) (H0 := H) hn l [] [] φ m _ Nx.refl (hm.new hn) (r.mono hm n0) upd_same nA .nil q
  have hw := h.pps.run pins _ σ _ _ I1 w0
  rw [arm_eval_Dict, hz, dictDisplay_pairs (pairTrees ks vs X.env pos) h0 (by omega)]
  refine wpAny_bind (wpAny_standAt (wpAny_bind (wpAny_subDictH (knd := tupleKind (mixKind X.prog X.w)) (Q := fun d s' => wpAny (model X.prog X.w) X.A (pure (Value.ref d)) (EP X pins σ Q) X.xe s') (show X.A.units < cLine by omega) h15 (thn hw ?_))))
  rintro us s2 ⟨ps, H2, I2, rel, e, φ2, prs, hk, hl, pr, fin⟩
  simp only [List.nil_append] at pr
  obtain ⟨z, nd, xs0, k0, d0⟩ := dt_of I2.hok e
  cases k0
  obtain ⟨L, rfl, pL⟩ := pe4_of pr rel
  obtain ⟨zs, kvs', p1, p2, p3⟩ := mergedT (acc := []) (kvs := []) (xs := []) pL hk rfl .nil
  refine ⟨zs, carriesH_of I2.hok p1, d0, fun h' tk dd hs => wpAny_pure ⟨.ref s.heap.objs.size, upd H2 s.heap.objs.size (.dT kvs'), ?_, rfl, fin (.dT kvs') ⟨kvs', rfl, p2.keep (side_kkO e rfl) ⟨_, rfl⟩⟩⟩⟩
  obtain ⟨o, es, ep, e1, e2, e3, e4, e5, e6⟩ := dd
  have hl2 : kvs'.length ≤ sizeLine := by
    have a1 : kvs'.length = (storedAllH [] zs).length := p3.length
    have a2 := storedAllH_length zs []
    have a3 : L.length = zs.length := p1.length
    have a4 : prs.length = L.length := pL.length
    rw [a1]
    simp only [List.length_nil] at a2
    rw [sizeLine_eq]; omega
  have kt : KT (upd H2 s.heap.objs.size (.dT kvs')) kvs' (storedAllH [] zs) := p3.keeps fun b ys hb => by
    rw [upd_ne (fun z => by subst z; rw [e] at hb; cases hb)]; exact hb
  exact d_write I2 (by rw [e]; trivial) hs ⟨o, e1⟩ ⟨hl2, nd, _, kt, o, es, ep, e1, e2, e3, e4, e6⟩⟩⟩
end
end DL

set_option Elab.async false
set_option linter.all false
set_option maxRecDepth 100000
set_option maxHeartbeats 4000000
namespace DL
open PySem PySem.Spec PyProof.Rows L2
/-! ### raise X(v), the class's __init__ keeping v in one attribute; except X as e: return an expression of e.f -/
def sRaise1 (c : Nat) (f : FX) : FS := fun ρ m => (f ρ m).toS ρ fun d m1 => some (.ex c d ρ, m1)
def spIni (C : Addr) (fld : Str) : Sp := fun vs H Q _ => ∃ (a : Addr) (v : V), vs = [.ref a, v] ∧ H a = some (exo a C none) ∧ ∀ dx, H dx = none → dx ≠ a → Q .non (upd (upd H dx (exd dx [(fld, v)])) a (exo a C (some dx)))
structure IniOk (P : Program) (w : World) (K : PySem.W.Frag) (mg : Str → Option Value) (base : Heap) (p : Pr) (c : Nat) (x fld : Str) : Prop where
  cF : p.cF c = some fld
  cA : mg x = some (.ref (p.cA c))
  ex : ∃ (fI : Addr) (fd : FuncData) (ps : List Str), OexC K (p.cA c) ∧ PySem.W.findIn K (.ref (p.cA c)) "__init__" = some (some (.ref fI)) ∧ PySem.W.typeIn K (.ref fI) = some (.type "function") ∧
    FnOk P w K mg base (L2.CX P w) 1 fI fd ps (spIni (p.cA c) fld) ∧ Binds K fd ps []
section
variable {P : Program} {w : World} {K : PySem.W.Frag} {mg : Str → Option Value} {base : Heap} {p : Pr}
/-- __init__ that stores its one argument -/
theorem ini_fn {C : Addr} {x qual pn fld : Str} {params : Arguments} {scope : Scope} {p1 p2 p3 p4 : Pos} {fI : Addr} {fd : FuncData} (F : FunD K x qual params [.Assign [.Attribute (.Name "self" p1) fld p2] (.Name pn p3) p4] scope [] [] fI fd)
    (S : FnScope ["self", pn] ["self", pn] scope) (T : OexC K C) (hno : PySem.W.findIn K (.ref C) fld = some none) (h0 : Vis scope "self") (h1 : Vis scope pn) (hd : (pn == ("__debug__" : Str)) = false) (hc : (pn == ("__classdict__" : Str)) = false) :
    FnOk P w K mg base (L2.CX P w) 1 fI fd ["self", pn] (spIni C fld) := by
  refine F.ok S (fun vs H Q E h => ?_) (fun cdv A outer s H vs Q E hr h => ⟨_, pss_one (ps_ost (pe_var (i := 0) rfl h0) (pe_var (i := 1) rfl h1 hd hc)), ?_⟩)
  · obtain ⟨a, v, rfl, _⟩ := h
    rfl
  · obtain ⟨a, v, rfl, ea, q⟩ := h
    exact ⟨v, rfl, .ref a, rfl, a, C, rfl, T, hno, .inl ⟨ea, fun dx n1 n2 => q dx n1 n2⟩⟩
theorem XD.mono {φ φ' : List Addr} {m : Mem} {H H' : Hp} {c : Nat} {d : D} {dx : Option Addr} (h : XD K p φ H c d dx) (hm : HR K p φ m H) (n : Nx φ H φ' H') : XD K p φ' H' c d dx := by
  unfold XD at h ⊢
  cases e : p.cF c with
  | none => rw [e] at h; exact h
  | some f =>
    rw [e] at h
    obtain ⟨a, v, e1, e2, e3⟩ := h
    exact ⟨a, v, e1, n.keep a _ e2 (hm.okKind e2 rfl), VR.mono hm n _ _ e3⟩
end
section
variable {p : Pr} {X : Cx} {W : WX} {x fld : Str} {e : Expr} {f : FX} {ppos pos pos' : Pos}
theorem fs_raise1 (c : Nat) (hc : X.calm = true) (tk : Takes X W) (ini : IniOk X.prog X.w X.K X.mg X.base p c x fld) (hr : Room 2 X.A) (he : FE p W X e f) (hg : Gl X x := by rfl) (hdb : (x == ("__debug__" : Str)) = false := by decide)
    (hs : starEach [e] X.env = (false, eval e X.env) :: starEach [] X.env := by rfl) (hpl : (backTo pos' (starEach [] X.env)).any (·.1) = false := by rfl) :
    FSt p W X (.Raise (some (.Call (.Name x ppos) [e] [] pos')) none pos) (sRaise1 c f) := by
  obtain ⟨fI, fd, ps, T, i1, i2, F, B⟩ := ini.ex
  refine ⟨ps_imp (ps_raise hc tk (pmk_oex T i1 i2 F hr B .nil passL hg ini.cA (pa_cons he.pe pa_nil hs) hdb hs hpl)) fun D σ H z => ?_⟩
  obtain ⟨φ, ρ, m, hm, r, z⟩ := z
  show tE X.K p W f σ H fun v H1 => _
  refine thE ?_ (stepES hm r z)
  rintro v H1 ⟨φ1, d, m1, n1, h1, r1, v1, q1⟩
  refine ⟨by simp, fun a na => ⟨a, v, rfl, upd_same, fun dx hdx ne => ?_⟩⟩
  have n2 : H1 dx = none := by rw [upd_ne ne] at hdx; exact hdx
  refine ⟨rfl, dx, [(fld, v)], upd_same, by rw [upd_ne ne, upd_same], n2, ?_⟩
  have eq : (upd (del (upd (upd (upd H1 a (exo a (p.cA c) none)) dx (exd dx [(fld, v)])) a (exo a (p.cA c) (some dx))) a) dx (.xd [(fld, v)])) = upd H1 dx (.xd [(fld, v)]) := by
    funext b
    by_cases hb : b = dx
    · rw [hb, upd_same, upd_same]
    · rw [upd_ne hb, upd_ne hb]
      by_cases ha : b = a
      · rw [ha, del_same, na]
      · rw [del_ne ha, upd_ne ha, upd_ne hb, upd_ne ha]
  rw [eq]
  have nx : Nx φ1 H1 φ1 (upd H1 dx (.xd [(fld, v)])) := Nx.new n2
  refine q1 φ1 _ σ (some dx) nx (h1.new n2) (r1.mono h1 nx) ?_
  unfold XD
  rw [ini.cF]
  exact ⟨dx, v, rfl, upd_same, VR.mono h1 nx _ _ v1⟩
end
/-! the handler -/
def tXe (K : PySem.W.Frag) (p : Pr) (i : Nat) (c : Nat) (a : Addr) (cls : Value) (dd : Option Addr) (g : D → FX) : TE := fun σ H Q => ∃ φ ρ m pd, HR K p φ m H ∧ ER K p φ H ρ σ ∧ σ[i]? = some (some (.ref a)) ∧ cls = .ref (p.cA c) ∧ XD K p φ H c pd dd ∧ postE K p WN σ φ H (g pd ρ m) Q
structure FXe (p : Pr) (i c : Nat) (a : Addr) (cls : Value) (dd : Option Addr) (X : Cx) (e : Expr) (g : D → FX) : Prop where
  pe : PE X e (tXe X.K p i c a cls dd g)
def sTryAs (f : FS) (cat : Nat → Option Bool) (i : Nat) (g : D → FX) : FS := fun ρ m => match f ρ m with
  | some (.ex c d ρ1, m1) => (match cat c with
    | some true => (match Nat.blt i ρ1.length with
      | true => (match g d (ρ1.set i none) m1 with
        | .ok r m2 => some (.rt r, m2)
        | _ => none)
      | false => none)
    | some false => some (.ex c d ρ1, m1)
    | none => none)
  | r => r
section
variable {p : Pr} {i c : Nat} {a : Addr} {cls : Value} {dd : Option Addr} {X : Cx} {e e1 e2 : Expr} {f : FX} {g : D → FX} {pos : Pos}
theorem fxe_of (h : FE p WN X e f) : FXe p i c a cls dd X e (fun _ => f) := ⟨pe_imp h.pe fun σ H Q ⟨φ, ρ, m, pd, hm, r, _, _, _, q⟩ => ⟨φ, ρ, m, hm, r, q⟩⟩
theorem fxe_fld {oe : Obj} {pn : List (Addr × Obj)} {x : Str} {n : Str} {np : Pos} (T : XfC X.K (p.cA c)) (hno : PySem.W.findIn X.K (.ref (p.cA c)) n = some none) (hf : p.cF c = some n) (hz : Zc cls dd oe) (hd : ∃ vs, oe.data = .fields vs) (hx : PE (X.suite a ((a, oe) :: pn)) (.Name x np) (tVar i))
    (hb : attributeBase (.Name x np) n X.env (eval (.Name x np) X.env) = eval (.Name x np) X.env := by rfl) : FXe p i c a cls dd (X.suite a ((a, oe) :: pn)) (.Attribute (.Name x np) n pos) (fun pd => eC pd) :=
  ⟨pe_imp (pe_xf T hno hz hd hx hb) fun σ H Q ⟨φ, ρ, m, pd, hm, r, es, ec, xd, q⟩ => by
    unfold XD at xd
    rw [hf] at xd
    obtain ⟨b, v, eb, ev, vr⟩ := xd
    exact ⟨.ref a, es, rfl, ec, b, [(n, v)], v, eb, ev, by simp, q φ H v Nx.refl hm vr⟩⟩
theorem fxe_tup2 {x1} {d0 : D} (h1 : FE p WN X e1 (eC d0)) (h2 : FXe p i c a cls dd X e2 g) (hs1 : starEach [e1, e2] X.env = (false, eval e1 X.env) :: starEach [e2] X.env := by rfl) (hs2 : starEach [e2] X.env = (false, eval e2 X.env) :: starEach [] X.env := by rfl) :
    FXe p i c a cls dd X (.Tuple [e1, e2] x1 pos) (fun pd => eTup (aCons (eC d0) (aCons (g pd) aNil))) :=
  ⟨pe_imp (pe_tup (pa_cons h1.pe (pa_cons h2.pe pa_nil hs2) hs1)) fun σ H Q ⟨φ, ρ, m, pd, hm, r, es, ec, xd, q⟩ => by
    refine ⟨φ, ρ, m, hm, r, fun φ1 H1 v n1 hm1 v1 => ?_⟩
    refine ⟨φ1, ρ, m, pd, hm1, r.mono hm n1, es, ec, xd.mono hm n1, ?_⟩
    have q' : postE X.K p WN σ φ1 H1 ((g pd ρ m).bind fun d2 m2 => (Res.ok [d2] m2 : Res (List D)).bind fun ds m3 => (Res.ok (d0 :: ds) m3 : Res (List D)).bind fun ds m4 => match fits ds.length with
      | true => .ok (.tup ds) m4
      | false => .bad) Q := by
      have q0 := postE.nx n1 q
      simp only [eTup, aCons, eC, aNil, Res.bind_ok] at q0
      cases hg : g pd ρ m with
      | bad => rw [hg] at q0; exact q0
      | exc c d m' => rw [hg] at q0; exact q0
      | ok d2 m2 => rw [hg] at q0; exact q0
    have q2 := postE.bindE q'
    refine q2.imp ?_
    rintro y H2 ⟨φ2, d2, m2, n2, hm2, v2, q3⟩
    have q3 : postE X.K p WN σ φ2 H2 (Res.ok (.tup [d0, d2]) m2) Q := q3
    refine ⟨by simp [sizeLine_eq], fun b nb => q3 φ2 _ _ (Nx.new nb) (hm2.new nb) ?_⟩
    simp only [VR, VRs]
    exact ⟨b, [v, y], rfl, upd_same, v, [y], rfl, VR.mono hm1 (n2.trans (Nx.new nb)) _ _ v1, y, [], rfl, VR.mono hm2 (Nx.new nb) _ _ v2, rfl⟩⟩
end
section
variable {p : Pr} {X : Cx} {W : WX} {x n : Str} {cV : Value} {i c0 : Nat} {body : List Stmt} {e : Expr} {np pos pos' rp : Pos} {f : FS} {g : D → FX}
theorem fs_tryAs {cat : Nat → Option Bool} (hs : X.stack = X.env :: X.outer) (hf : X.env.frame = some X.env.locals) (hN : X.N.Nodup) (hi : X.N[i]? = some n) (hln : X.env.kindOf n = some .local) (hc : Names X x cV) (tk : Takes X W)
    (hcat : ∀ c b, cat c = some b → PySem.W.exmOne X.K (.ref (p.cA c)) cV = some b ∧ (b = true → c = c0))
    (hb : ∀ (W : WX) (pn : List (Addr × Obj)) (xe : Value → Shared → Prop), Takes (X.tr pn xe) W → PassesOwn (model X.prog X.w) X.A X.env xe → FSs p W (X.tr pn xe) body f)
    (hsu : ∀ (a : Addr) (oe : Obj) (cls : Value) (dd : Option Addr) (pn : List (Addr × Obj)), Zc cls dd oe → (∃ vs, oe.data = .fields vs) → FXe p i c0 a cls dd (X.suite a ((a, oe) :: pn)) e g) :
    FSt p W X (.Try body [.ExceptHandler (some (.Name x np)) (some n) [.Return (some e) rp] pos'] [] [] pos) (sTryAs f cat i g) :=
  ⟨ps_imp (ps_try_as (tb := fun W => tS X.K p W f) (ts := fun a cls dd => tRet (tXe X.K p i c0 a cls dd g)) hs hf hN hi hln hc tk (fun W pn xe t1 t2 => (hb W pn xe t1 t2).ps) (fun a oe cls dd pn z1 z2 => pss_one (ps_ret (hsu a oe cls dd pn z1 z2).pe))) fun D σ H z => by
    obtain ⟨φ, ρ, m, hm, r, z⟩ := z
    refine ⟨φ, ρ, m, hm, r, ?_⟩
    unfold sTryAs at z
    revert z
    match f ρ m with
    | none => exact fun z => z
    | some (.nx ρ', m') => exact fun z => z
    | some (.bk ρ', m') => exact fun z => z
    | some (.ct ρ', m') => exact fun z => z
    | some (.rt d, m') => exact fun z => z
    | some (.ex c d ρ', m') =>
      intro z φ' H' σ' dx n' h' r' x'
      simp only at z
      cases hk : cat c with
      | none => rw [hk] at z; exact False.elim z
      | some b =>
        rw [hk] at z
        obtain ⟨k1, k2⟩ := hcat c b hk
        refine ⟨b, k1, fun hb' a ha => ?_, fun hb' => ?_⟩
        · subst hb'
          obtain rfl := k2 rfl
          simp only at z
          cases hbl : Nat.blt i ρ'.length with
          | false => rw [hbl] at z; exact False.elim z
          | true =>
          rw [hbl] at z
          simp only at z
          have hlen : i < σ'.length := by
            rw [← r'.length]
            rw [Nat.blt_eq] at hbl; exact hbl
          refine ⟨φ', ρ'.set i none, m', d, h', r'.unset i _, by rw [List.getElem?_set_self hlen], rfl, x', ?_⟩
          revert z
          cases g d (ρ'.set i none) m' with
          | bad => exact fun z => False.elim z
          | exc c d m2 => exact fun z => False.elim z
          | ok r2 m2 =>
            intro z φ2 H2 v n2 h2 v2
            exact z φ2 H2 v (n'.trans n2) h2 v2
        · subst hb'
          exact z φ' H' σ' dx n' h' r' x'⟩
end
end DL

set_option Elab.async false
set_option linter.all false
set_option maxRecDepth 100000
set_option maxHeartbeats 4000000
namespace DL
open PySem PySem.Spec PyProof.Rows L2
/-! ### what the head must show of an exception class with an attribute -/
def oexB (K : PySem.W.Frag) (C : Addr) : Bool := (match K.lookup C with
  | some ⟨.type c, _, .cls cd, sl⟩ => (match cd.mro, sl.toList with
    | .ref C' :: bm, [_, _, _, _, some (.builtin n), _] => decide (c = "type") && (C' == C && (n == "ValueError.__new__" && (cd.hasDict && (!cd.hasDel && PySem.HandSPX.refsVE bm))))
    | _, _ => false)
  | _ => false) && (decide (PySem.W.findIn K (.ref C) "__setattr__" = some (some (.builtin "object.__setattr__"))) && (decide (PySem.W.subIn K (.ref C) (.type "BaseException") = some true) && (decide (PySem.W.typeIn K (.ref C) = some (.type "type")) && PySem.W.keepIn K (.ref C))))
theorem oexB_ok {K : PySem.W.Frag} {C : Addr} (h : oexB K C = true) : OexC K C := by
  obtain ⟨h1, h2⟩ := Bool.and_eq_true_iff.mp h
  simp only [Bool.and_eq_true, decide_eq_true_eq] at h2
  obtain ⟨s1, s2, s3, s4⟩ := h2
  refine ⟨?_, s1, s2, s3, s4⟩
  split at h1
  · rename_i c dd cd sl hl
    split at h1
    · rename_i C' bm k0 k1 k2 k3 n k5 hm hs
      simp only [Bool.and_eq_true, decide_eq_true_eq, beq_iff_eq, Bool.not_eq_true'] at h1
      obtain ⟨rfl, rfl, rfl, hd, hdel, hr⟩ := h1
      obtain ⟨nm, bs, mro, ns, qn, hdct, sn, sub, ab, col, del⟩ := cd
      dsimp only at hm hd hdel
      subst hm hd hdel
      have hsl : sl = #[k0, k1, k2, k3, some (.builtin "ValueError.__new__"), k5] := by
        obtain ⟨l⟩ := sl
        simp only at hs
        rw [hs]
      subst hsl
      exact ⟨nm, qn, ns, bs, bm, sn, sub, ab, col, dd, k0, k1, k2, k3, k5, hl, hr⟩
    · cases h1
  · cases h1
/-- the class of the name x: its own __init__, the attribute free -/
def iniB (K : PySem.W.Frag) (x fld : Str) : Bool := oexB K (He.ga K x) && (decide (PySem.W.findIn K (.ref (He.ga K x)) "__init__" = some (some (.ref (He.ma K (He.ga K x) "__init__")))) && (decide (PySem.W.typeIn K (.ref (He.ma K (He.ga K x) "__init__")) = some (.type "function")) &&
  (decide (PySem.W.findIn K (.ref (He.ga K x)) fld = some none) && xfB K (He.ga K x))))
structure IniK (K : PySem.W.Frag) (x fld : Str) : Prop where
  t : OexC K (He.ga K x)
  i : PySem.W.findIn K (.ref (He.ga K x)) "__init__" = some (some (.ref (He.ma K (He.ga K x) "__init__")))
  f : PySem.W.typeIn K (.ref (He.ma K (He.ga K x) "__init__")) = some (.type "function")
  n : PySem.W.findIn K (.ref (He.ga K x)) fld = some none
  x : XfC K (He.ga K x)
theorem iniB_ok {K : PySem.W.Frag} {x fld : Str} (h : iniB K x fld = true) : IniK K x fld := by
  unfold iniB at h
  simp only [Bool.and_eq_true, decide_eq_true_eq] at h
  obtain ⟨a, b, c, d, e⟩ := h
  exact ⟨oexB_ok a, b, c, d, xfB_ok e⟩
theorem catOne_ok2 {K : PySem.W.Frag} {p : Pr} {c0 : Nat} (h : PySem.W.exmOne K (.ref (p.cA c0)) (.ref (p.cA c0)) = some true) : ∀ c b, catOne c0 c = some b → PySem.W.exmOne K (.ref (p.cA c)) (.ref (p.cA c0)) = some b ∧ (b = true → c = c0) := fun c b e => by
  unfold catOne at e
  split at e
  · rename_i hb
    cases e
    have : c = c0 := Nat.eq_of_beq_eq_true hb
    subst this
    exact ⟨h, fun _ => rfl⟩
  · cases e
/-- the j-th statement of a class -/
def clsSt (st : Stmt) (j : Nat) : Stmt := match st with
  | .ClassDef (body := b) .. => b.getD j (.Pass ⟨0, 0, 0, 0⟩)
  | _ => .Pass ⟨0, 0, 0, 0⟩
theorem ini_mk {P : Program} {w : World} {K : PySem.W.Frag} {mg : Str → Option Value} {base : Heap} {p : Pr} {c : Nat} {x fld qual pn : Str} {params : Arguments} {scope : Scope} {p1 p2 p3 p4 : Pos} {fd : FuncData} (k : IniK K x fld) (hA : p.cA c = He.ga K x) (hF : p.cF c = some fld) (hm : mg x = some (.ref (He.ga K x)))
    (F : FunD K "__init__" qual params [.Assign [.Attribute (.Name "self" p1) fld p2] (.Name pn p3) p4] scope [] [] (He.ma K (He.ga K x) "__init__") fd) (S : FnScope ["self", pn] ["self", pn] scope)
    (hb : Binds K fd ["self", pn] []) (h0 : Vis scope "self") (h1 : Vis scope pn) (hd : (pn == ("__debug__" : Str)) = false := by decide) (hc : (pn == ("__classdict__" : Str)) = false := by decide) :
    IniOk P w K mg base p c x fld := by
  refine ⟨hF, by rw [hA]; exact hm, He.ma K (He.ga K x) "__init__", fd, ["self", pn], by rw [hA]; exact k.t, by rw [hA]; exact k.i, k.f, ?_, ?_⟩
  · rw [hA]; exact ini_fn F S k.t k.n h0 h1 hd hc
  · exact hb
end DL

set_option Elab.async false
set_option linter.all false
set_option maxRecDepth 100000
set_option maxHeartbeats 4000000
namespace DL
open PySem PySem.Spec PyProof.Rows L2
/-! ### a look that follows the keys of dicts too -/
def keysO (o : Obj) : List Addr := match o.data with
  | .dict es _ => es.toList.flatMap fun e => He.refV e.key
  | _ => []
def growY (g : Addr → Option Obj) (as : List Addr) : List Addr := (as ++ as.flatMap fun a => match g a with
  | some o => He.refsD o ++ keysO o
  | none => []).eraseDups
def asY (g : Addr → Option Obj) : Nat → List Addr
  | 0 => [mainGlobals]
  | n + 1 => growY g (asY g n)
def obYG (n : Nat) (fa : List He.Fa) (fn : List He.DefD) (ex : PySem.W.Frag → Bool) (g : Addr → Option Obj) : ObX := obX fa fn ex (He.frG g (asY g n))
def hookY (n : Nat) (fa : List He.Fa) (fn : List He.DefD) (ex : PySem.W.Frag → Bool) : PySem.W.Hook where
  α := ObX
  obs := fun s => obYG n fa fn ex s.heap.get?
  val := fun _ => (He.valD fn, true)
  says := fun _ h => ∃ K : PySem.W.Frag, K.In h ∧ (He.SaysD fa fn K ∧ ex K = true)
  of := fun _ _ e => ⟨_, He.frG_in, congrArg Prod.fst e, congrArg Prod.snd e⟩
  keeps := fun _ _ _ ⟨K, hK, c⟩ k => ⟨K, PySem.W.Frag.In.keeps hK k, c⟩
theorem obYG_eq {n : Nat} {fa : List He.Fa} {fn : List He.DefD} {ex : PySem.W.Frag → Bool} {g : Addr → Option Obj} {s : Shared} (h : ∀ a, g a = s.heap.get? a) : obYG n fa fn ex g = (hookY n fa fn ex).obs s := by
  have e : g = s.heap.get? := funext h
  subst e
  rfl
end DL

set_option Elab.async false
set_option linter.all false
set_option maxRecDepth 100000
set_option maxHeartbeats 4000000
namespace DL
open PySem PySem.Spec PyProof.Rows L2
/-! ### // and % by small divisors of both signs -/
def divN (j : Int) : Bool := !decide (j = 0) && Nat.blt j.natAbs 1073741824
def oFdivN (d e : D) (m : Mem) : OAns := match intD d, intD e with
  | some i, some j => (match divN j with
    | true => some (.int (i.fdiv j), m)
    | false => none)
  | _, _ => none
def oModN (d e : D) (m : Mem) : OAns := match intD d, intD e with
  | some i, some j => (match divN j with
    | true => some (.int (i.fmod j), m)
    | false => none)
  | _, _ => none
theorem divN_ok {j : Int} (h : divN j = true) : j ≠ 0 ∧ j.natAbs < 1073741824 := by
  obtain ⟨a, b⟩ := Bool.and_eq_true_iff.mp h
  exact ⟨by simpa using a, by rwa [Nat.blt_eq] at b⟩
section
variable {p : Pr} {X : Cx} {W : WX} {K : PySem.W.Frag} {φ : List Addr} {m : Mem} {H : Hp}
theorem fo_fdivN : FOp p X (binaryOp .FloorDiv) oFdivN := fun pins s σ H x y v u Q I rx ry q => by
  obtain ⟨φ, m, d, e, hm, r1, r2, q⟩ := q
  simp only [oFdivN] at q
  split at q
  · rename_i i j e1 e2
    obtain rfl := intD_ok e1
    obtain rfl := intD_ok e2
    simp only [VR] at r1 r2; subst r1 r2
    cases em : divN j with
    | false => rw [em] at q; exact False.elim q
    | true =>
      rw [em] at q
      exact op_fdivN pins s σ H _ _ v u Q I rx ry ⟨i, j, rfl, rfl, divN_ok em, q φ H _ Nx.refl hm (by simp [VR])⟩
  · exact False.elim q
theorem fo_modN : FOp p X (binaryOp .Mod) oModN := fun pins s σ H x y v u Q I rx ry q => by
  obtain ⟨φ, m, d, e, hm, r1, r2, q⟩ := q
  simp only [oModN] at q
  split at q
  · rename_i i j e1 e2
    obtain rfl := intD_ok e1
    obtain rfl := intD_ok e2
    simp only [VR] at r1 r2; subst r1 r2
    cases em : divN j with
    | false => rw [em] at q; exact False.elim q
    | true =>
      rw [em] at q
      exact op_modN pins s σ H _ _ v u Q I rx ry ⟨i, j, rfl, rfl, (divN_ok em).1, q φ H _ Nx.refl hm (by simp [VR])⟩
  · exact False.elim q
end
theorem oFdivN_int {m : Mem} {i j : Int} (h : divN j = true) : oFdivN (.int i) (.int j) m = some (.int (i.fdiv j), m) := by
  show (match divN j with | true => some (D.int (i.fdiv j), m) | false => none) = _
  rw [h]
theorem oModN_int {m : Mem} {i j : Int} (h : divN j = true) : oModN (.int i) (.int j) m = some (.int (i.fmod j), m) := by
  show (match divN j with | true => some (D.int (i.fmod j), m) | false => none) = _
  rw [h]
end DL

set_option Elab.async false
set_option linter.all false
set_option maxRecDepth 100000
set_option maxHeartbeats 4000000
namespace K57
open DL
abbrev Str := PySem.Str
def t_KINDS : List (D × D) := tblD [(1, [102, 105, 110, 105, 116, 101]), (0, [97, 102, 102, 105, 110, 101]), (-1, [105, 110, 100, 101, 102, 105, 110, 105, 116, 101])]
def t_MARKS : D := .ktup [.str [60, 116, 101, 120, 116, 32, 120, 61, 34], .str [34, 32, 121, 61, 34], .str [34, 62], .str [60, 47, 116, 101, 120, 116, 62]]
def t_SPOTS : List (List Int × D) := [([0, 0], .ktup [.ktup [.int 20, .int 0], .ktup [.int 0, .int 20]]), ([-1, -1], .ktup [.ktup [.int 26, .int 15], .ktup [.int 0, .int 30]]), ([-1, -2], .ktup [.ktup [.int 40, .int 0], .ktup [.int 20, .int 20]]), ([-3, -1], .ktup [.ktup [.int 15, .int 26], .ktup [.int 0, .int 52]])]
def N_is_whole : List Str := ["value"]
def b_is_whole : FS := (sRet (eAnd (eIsi 2 (eVar 0)) (eNot (eIsi 1 (eVar 0)))))
def F_is_whole : List D → Mem → Res D := fnF 1 1 b_is_whole
def N_is_row_of : List Str := ["value", "many", "each"]
def b_is_row_of : FS := (sRet (eAnd (eIsi 4 (eVar 0)) (eAnd (eOp oEq (eCall (one vLen) (aCons (eVar 0) aNil)) (eVar 1)) (eCallL qAll (lcV (eVar 0) (pName 2) [2] bYes (eFn F_is_whole (aCons (eVar 2) aNil)))))))
def F_is_row_of : List D → Mem → Res D := fnF 2 3 b_is_row_of
def N_is_cartan : List Str := ["value", "at", "row", "to", "number"]
def b_is_cartan : FS := (sSeq (sIf (bOr (bNot (bTru (eIsi 4 (eVar 0)))) (bNot (bOf (eChain oLe oLe (eC (.int 1)) (eCall (one vLen) (aCons (eVar 0) aNil)) (eC (.int 8)))))) (sRet (eC (.bl false))) sNop)
    (sSeq (sIf (bNot (bTru (eCallL qAll (lcV (eVar 0) (pName 2) [2] bYes (eFn F_is_row_of (aCons (eVar 2) (aCons (eCall (one vLen) (aCons (eVar 0) aNil)) aNil))))))) (sRet (eC (.bl false))) sNop)
    (sSeq (sFor (iEnD (aCons (eVar 0) aNil)) (pTup [(pName 1), (pName 2)]) (sFor (iEnD (aCons (eVar 2) aNil)) (pTup [(pName 3), (pName 4)]) (sIf (bOr (bAnd (bOf (eOp oEq (eVar 1) (eVar 3))) (bOf (eOp oNe (eVar 4) (eC (.int 2))))) (bAnd (bOf (eOp oNe (eVar 1) (eVar 3))) (bOr (bOf (eOp oGt (eVar 4) (eC (.int 0)))) (bOf (eOp oNe (eOp oEq (eVar 4) (eC (.int 0))) (eOp oEq (eOp oIx (eOp oIx (eVar 0) (eVar 3)) (eVar 1)) (eC (.int 0)))))))) (sRet (eC (.bl false))) sNop)))
    (sRet (eC (.bl true))))))
def F_is_cartan : List D → Mem → Res D := fnF 1 5 b_is_cartan
def N_joined_to : List Str := ["matrix", "node", "found", "left", "here", "other", "number"]
def b_joined_to : FS := (sSeq (sPar 2 3 (eDict1 false (eVar 1) (eC (.bl true))) (eLst (aCons (eVar 1) aNil)))
    (sSeq (sWhile (bOf (eOp oNe (eVar 3) (eLst aNil))) (sSeq (sSet 4 (eMt "list" mPop (eVar 3) aNil))
    (sFor (iEnD (aCons (eOp oIx (eVar 0) (eVar 4)) aNil)) (pTup [(pName 5), (pName 6)]) (sIf (bAnd (bOf (eOp oNe (eVar 6) (eC (.int 0)))) (bOf (eOp oNotIn (eVar 5) (eVar 2)))) (sSeq (sAsg (eC (.bl true)) (gIx (eVar 2) (eVar 5)))
    (sExp (eMt "list" mApp (eVar 3) (aCons (eVar 5) aNil)))) sNop))) 1000)
    (sRet (eCall (one vTup) (aCons (eCall (one vSort) (aCons (eVar 2) aNil)) aNil)))))
def F_joined_to : List D → Mem → Res D := fnF 2 7 b_joined_to
def N_all_parts : List Str := ["matrix", "found", "node", "part"]
def b_all_parts : FS := (sSeq (sSet 1 (eLst aNil))
    (sSeq (sFor (iRg1 (aCons (eCall (one vLen) (aCons (eVar 0) aNil)) aNil)) (pName 2) (sSeq (sSet 3 (eFn F_joined_to (aCons (eVar 0) (aCons (eVar 2) aNil))))
    (sIf (bOf (eOp oEq (eOp oIx (eVar 3) (eC (.int 0))) (eVar 2))) (sExp (eMt "list" mApp (eVar 1) (aCons (eVar 3) aNil))) sNop)))
    (sRet (eCall (one vTup) (aCons (eVar 1) aNil)))))
def F_all_parts : List D → Mem → Res D := fnF 1 4 b_all_parts
def N_matrix_at : List Str := ["matrix", "nodes", "one", "two"]
def b_matrix_at : FS := (sRet (eCallL qTup (lcV (eVar 1) (pName 2) [2] bYes (eCallL qTup (lcV (eVar 1) (pName 3) [3] bYes (eOp oIx (eOp oIx (eVar 0) (eVar 2)) (eVar 3)))))))
def F_matrix_at : List D → Mem → Res D := fnF 2 4 b_matrix_at
def N_dot : List Str := ["row", "vector", "one", "two"]
def b_dot : FS := (sRet (eCallL qSum (lcD (iZpD (aCons (eVar 0) (aCons (eVar 1) aNil))) (pTup [(pName 2), (pName 3)]) [2, 3] bYes (eOp oMul (eVar 2) (eVar 3)))))
def F_dot : List D → Mem → Res D := fnF 2 4 b_dot
def N_product_by : List Str := ["matrix", "vector", "row"]
def b_product_by : FS := (sRet (eCallL qTup (lcV (eVar 0) (pName 2) [2] bYes (eFn F_dot (aCons (eVar 2) (aCons (eVar 1) aNil))))))
def F_product_by : List D → Mem → Res D := fnF 2 3 b_product_by
def N_small_vector : List Str := ["vector", "part", "each"]
def b_small_vector : FS := (sSeq (sSet 1 (eC (.int 0)))
    (sSeq (sForV (eVar 0) (pName 2) (sSet 1 (eCall (two vGcd) (aCons (eVar 1) (aCons (eVar 2) aNil)))))
    (sRet (eCallL qTup (lcV (eVar 0) (pName 2) [2] bYes (eOp oFdiv (eVar 2) (eVar 1)))))))
def F_small_vector : List D → Mem → Res D := fnF 1 3 b_small_vector
def N_sweep : List Str := ["rows", "sign", "last", "many", "at", "spots", "to", "by", "row"]
def b_sweep : FS := (sSeq (sAsg (eTup (aCons (eNew (lcV (eVar 0) (pName 8) [8] bYes (eCall (one vList) (aCons (eVar 8) aNil)))) (aCons (eC (.int 1)) (aCons (eC (.int 1)) aNil)))) (gTp (gsCons (gNam 0) (gsCons (gNam 1) (gsCons (gNam 2) gsNil)))))
    (sSeq (sSet 3 (eCall (one vLen) (aCons (eVar 0) aNil)))
    (sSeq (sFor (iRg1 (aCons (eVar 3) aNil)) (pName 4) (sSeq (sSet 5 (eNew (lcD (iRg2 (aCons (eVar 4) (aCons (eVar 3) aNil))) (pName 6) [6] (bOf (eOp oNe (eOp oIx (eOp oIx (eVar 0) (eVar 6)) (eVar 4)) (eC (.int 0)))) (eVar 6))))
    (sSeq (sIf (bOf (eOp oEq (eVar 5) (eLst aNil))) (sRet (eTup (aCons (eVar 0) (aCons (eC (.int 0)) aNil)))) sNop)
    (sSeq (sIf (bOf (eOp oNe (eOp oIx (eVar 5) (eC (.int 0))) (eVar 4))) (sAsg (eTup (aCons (eOp oIx (eVar 0) (eOp oIx (eVar 5) (eC (.int 0)))) (aCons (eOp oIx (eVar 0) (eVar 4)) (aCons (eUn oNeg (eVar 1)) aNil)))) (gTp (gsCons (gIx (eVar 0) (eVar 4)) (gsCons (gIx (eVar 0) (eOp oIx (eVar 5) (eC (.int 0)))) (gsCons (gNam 1) gsNil))))) sNop)
    (sSeq (sFor (iRg2 (aCons (eOp oAdd (eVar 4) (eC (.int 1))) (aCons (eVar 3) aNil))) (pName 6) (sSeq (sFor (iRg2 (aCons (eOp oAdd (eVar 4) (eC (.int 1))) (aCons (eVar 3) aNil))) (pName 7) (sAsg (eOp oFdiv (eOp oSub (eOp oMul (eOp oIx (eOp oIx (eVar 0) (eVar 6)) (eVar 7)) (eOp oIx (eOp oIx (eVar 0) (eVar 4)) (eVar 4))) (eOp oMul (eOp oIx (eOp oIx (eVar 0) (eVar 6)) (eVar 4)) (eOp oIx (eOp oIx (eVar 0) (eVar 4)) (eVar 7)))) (eVar 2)) (gIx (eOp oIx (eVar 0) (eVar 6)) (eVar 7))))
    (sAsg (eC (.int 0)) (gIx (eOp oIx (eVar 0) (eVar 6)) (eVar 4)))))
    (sSet 2 (eOp oIx (eOp oIx (eVar 0) (eVar 4)) (eVar 4))))))))
    (sRet (eTup (aCons (eVar 0) (aCons (eVar 1) aNil)))))))
def F_sweep : List D → Mem → Res D := fnF 1 9 b_sweep
def N_determinant_by : List Str := ["matrix", "rows", "sign"]
def b_determinant_by : FS := (sSeq (sAsg (eFn F_sweep (aCons (eVar 0) aNil)) (gTp (gsCons (gNam 1) (gsCons (gNam 2) gsNil))))
    (sRet (eIf (bOf (eOp oNe (eVar 2) (eC (.int 0)))) (eOp oMul (eVar 2) (eOp oIx (eOp oIx (eVar 1) (eUn oNeg (eC (.int 1)))) (eUn oNeg (eC (.int 1))))) (eC (.int 0)))))
def F_determinant_by : List D → Mem → Res D := fnF 1 3 b_determinant_by
def N_signs_of : List Str := ["vector", "signs", "each"]
def b_signs_of : FS := (sSeq (sSetLcV 1 (eVar 0) (pName 2) [2] bYes (eOp oSub (eOp oGt (eVar 2) (eC (.int 0))) (eOp oLt (eVar 2) (eC (.int 0)))))
    (sRet (eIf (bOf (eOp oEq (eVar 1) (eOp oMul (eSl (eVar 1) pNo (pSo (eC (.int 1)))) (eCall (one vLen) (aCons (eVar 1) aNil))))) (eSl (eVar 1) pNo (pSo (eC (.int 1)))) (eLst aNil))))
def F_signs_of : List D → Mem → Res D := fnF 1 3 b_signs_of
def N_flat_vector : List Str := ["matrix", "many", "found", "to", "minor", "row", "by"]
def b_flat_vector : FS := (sSeq (sAsg (eTup (aCons (eCall (one vLen) (aCons (eVar 0) aNil)) (aCons (eLst aNil) aNil))) (gTp (gsCons (gNam 1) (gsCons (gNam 2) gsNil))))
    (sSeq (sFor (iRg1 (aCons (eVar 1) aNil)) (pName 3) (sSeq (sSetLcV 4 (eSl (eVar 0) (pSo (eC (.int 1))) pNo) (pName 5) [5] bYes (eNew (lcD (iRg1 (aCons (eVar 1) aNil)) (pName 6) [6] (bOf (eOp oNe (eVar 6) (eVar 3))) (eOp oIx (eVar 5) (eVar 6)))))
    (sExp (eMt "list" mApp (eVar 2) (aCons (eOp oMul (eIf (bOf (eOp oEq (eOp oMod (eVar 3) (eC (.int 2))) (eC (.int 0)))) (eC (.int 1)) (eUn oNeg (eC (.int 1)))) (eIf (bOf (eOp oNe (eVar 4) (eLst aNil))) (eFn F_determinant_by (aCons (eVar 4) aNil)) (eC (.int 1)))) aNil)))))
    (sRet (eCall (one vTup) (aCons (eVar 2) aNil)))))
def F_flat_vector : List D → Mem → Res D := fnF 1 7 b_flat_vector
def N_shown_part : List Str := ["matrix", "flat", "vector", "each", "turned"]
def b_shown_part : FS := (sSeq (sSet 1 (eFn F_flat_vector (aCons (eVar 0) aNil)))
    (sSeq (sIf (bAnd (bOf (eOp oEq (eFn F_determinant_by (aCons (eVar 0) aNil)) (eC (.int 0)))) (bOf (eOp oIn (eFn F_signs_of (aCons (eVar 1) aNil)) (eTup (aCons (eLst (aCons (eC (.int 1)) aNil)) (aCons (eLst (aCons (eUn oNeg (eC (.int 1))) aNil)) aNil)))))) (sRet (eFn F_small_vector (aCons (eCallL qTup (lcV (eVar 1) (pName 3) [3] bYes (eCall (one vAbs) (aCons (eVar 3) aNil)))) aNil))) sNop)
    (sSeq (sSet 2 (eOp oMul (eTup (aCons (eC (.int 1)) aNil)) (eCall (one vLen) (aCons (eVar 0) aNil))))
    (sSeq (sWhile (bOf (eOp oNotIn (eFn F_signs_of (aCons (eFn F_product_by (aCons (eVar 0) (aCons (eVar 2) aNil))) aNil)) (eTup (aCons (eLst (aCons (eC (.int 1)) aNil)) (aCons (eLst (aCons (eUn oNeg (eC (.int 1))) aNil)) aNil))))) (sSet 2 (eFn F_small_vector (aCons (eCallL qTup (lcD (iZpD (aCons (eVar 2) (aCons (eFn F_product_by (aCons (eVar 0) (aCons (eVar 2) aNil))) aNil))) (pTup [(pName 3), (pName 4)]) [3, 4] bYes (eOp oSub (eOp oMul (eC (.int 3)) (eVar 3)) (eVar 4)))) aNil))) 1000)
    (sRet (eVar 2))))))
def F_shown_part : List D → Mem → Res D := fnF 1 5 b_shown_part
def N_kind_of_part : List Str := ["matrix"]
def b_kind_of_part : FS := (sRet (eKd t_KINDS (eOp oIx (eFn F_signs_of (aCons (eFn F_product_by (aCons (eVar 0) (aCons (eFn F_shown_part (aCons (eVar 0) aNil)) aNil))) aNil)) (eC (.int 0)))))
def F_kind_of_part : List D → Mem → Res D := fnF 1 1 b_kind_of_part
def N_all_kinds : List Str := ["matrix", "part"]
def b_all_kinds : FS := (sRet (eCallL qTup (lcV (eFn F_all_parts (aCons (eVar 0) aNil)) (pName 1) [1] bYes (eFn F_kind_of_part (aCons (eFn F_matrix_at (aCons (eVar 0) (aCons (eVar 1) aNil))) aNil)))))
def F_all_kinds : List D → Mem → Res D := fnF 1 2 b_all_kinds
def N_is_finite : List Str := ["matrix", "kind"]
def b_is_finite : FS := (sRet (eCallL qAll (lcV (eFn F_all_kinds (aCons (eVar 0) aNil)) (pName 1) [1] bYes (eOp oEq (eVar 1) (eC (.str [102, 105, 110, 105, 116, 101]))))))
def F_is_finite : List D → Mem → Res D := fnF 1 2 b_is_finite
def N_is_weighted : List Str := ["matrix", "value"]
def b_is_weighted : FS := (sRet (eFn F_is_row_of (aCons (eVar 1) (aCons (eCall (one vLen) (aCons (eVar 0) aNil)) aNil))))
def F_is_weighted : List D → Mem → Res D := fnF 2 2 b_is_weighted
def N_is_counted : List Str := ["matrix", "value"]
def b_is_counted : FS := (sSeq (sIf (bOr (bNot (bTru (eIsi 4 (eVar 1)))) (bOr (bOf (eOp oNe (eCall (one vLen) (aCons (eVar 1) aNil)) (eC (.int 2)))) (bNot (bTru (eFn F_is_weighted (aCons (eVar 0) (aCons (eOp oIx (eVar 1) (eC (.int 0))) aNil))))))) (sRet (eC (.bl false))) sNop)
    (sRet (eAnd (eFn F_is_whole (aCons (eOp oIx (eVar 1) (eC (.int 1))) aNil)) (eOp oNe (eOp oIx (eVar 1) (eC (.int 1))) (eC (.int 0))))))
def F_is_counted : List D → Mem → Res D := fnF 2 2 b_is_counted
def N_is_tabled : List Str := ["matrix", "value", "each", "one", "two"]
def b_is_tabled : FS := (sSeq (sIf (bOr (bNot (bTru (eIsi 4 (eVar 1)))) (bNot (bTru (eCallL qAll (lcV (eVar 1) (pName 2) [2] bYes (eFn F_is_counted (aCons (eVar 0) (aCons (eVar 2) aNil)))))))) (sRet (eC (.bl false))) sNop)
    (sRet (eCallL qAll (lcD (iZpD (aCons (eVar 1) (aCons (eSl (eVar 1) (pSo (eC (.int 1))) pNo) aNil))) (pTup [(pName 3), (pName 4)]) [3, 4] bYes (eOp oLt (eOp oIx (eVar 3) (eC (.int 0))) (eOp oIx (eVar 4) (eC (.int 0))))))))
def F_is_tabled : List D → Mem → Res D := fnF 2 5 b_is_tabled
def N_size_by : List Str := ["table", "_", "many"]
def b_size_by : FS := (sRet (eCallL qSum (lcV (eVar 0) (pTup [(pName 1), (pName 2)]) [1, 2] bYes (eCall (one vAbs) (aCons (eVar 2) aNil)))))
def F_size_by : List D → Mem → Res D := fnF 1 3 b_size_by
def N_check_matrix : List Str := ["value"]
def b_check_matrix : FS := (sIf (bNot (bTru (eFn F_is_cartan (aCons (eVar 0) aNil)))) sNever sNop)
def F_check_matrix : List D → Mem → Res D := fnF 1 1 b_check_matrix
def N_check_finite : List Str := ["value"]
def b_check_finite : FS := (sSeq (sExp (eFn F_check_matrix (aCons (eVar 0) aNil)))
    (sIf (bNot (bTru (eFn F_is_finite (aCons (eVar 0) aNil)))) sNever sNop))
def F_check_finite : List D → Mem → Res D := fnF 1 1 b_check_finite
def N_check_small : List Str := ["matrix"]
def b_check_small : FS := (sSeq (sExp (eFn F_check_finite (aCons (eVar 0) aNil)))
    (sIf (bOf (eOp oGt (eCall (one vLen) (aCons (eVar 0) aNil)) (eC (.int 4)))) sNever sNop))
def F_check_small : List D → Mem → Res D := fnF 1 1 b_check_small
def N_check_table : List Str := ["matrix", "table"]
def b_check_table : FS := (sSeq (sIf (bNot (bTru (eFn F_is_tabled (aCons (eVar 0) (aCons (eVar 1) aNil))))) sNever sNop)
    (sIf (bOf (eOp oGt (eFn F_size_by (aCons (eVar 1) aNil)) (eC (.int 1000)))) sNever sNop))
def F_check_table : List D → Mem → Res D := fnF 2 2 b_check_table
def N_check_text : List Str := ["value"]
def b_check_text : FS := (sIf (bNot (bTru (eIsi 3 (eVar 0)))) (sRaise1 0 (eC .non)) sNop)
def F_check_text : List D → Mem → Res D := fnF 1 1 b_check_text
def N_check_flat : List Str := ["matrix"]
def b_check_flat : FS := (sIf (bOf (eOp oNe (eCall (one vLen) (aCons (eVar 0) aNil)) (eC (.int 2)))) sNever sNop)
def F_check_flat : List D → Mem → Res D := fnF 1 1 b_check_flat
def N_steps_of : List Str := ["matrix", "here", "there", "second", "first"]
def b_steps_of : FS := (sSeq (sPar 1 2 (eOp oIx (eOp oIx (eVar 0) (eC (.int 0))) (eC (.int 1))) (eOp oIx (eOp oIx (eVar 0) (eC (.int 1))) (eC (.int 0))))
    (sSeq (sIf (bOf (eKin t_SPOTS (eTup (aCons (eVar 1) (aCons (eVar 2) aNil))))) (sRet (eKt t_SPOTS (eTup (aCons (eVar 1) (aCons (eVar 2) aNil))))) sNop)
    (sSeq (sAsg (eKt t_SPOTS (eTup (aCons (eVar 2) (aCons (eVar 1) aNil)))) (gTp (gsCons (gNam 3) (gsCons (gNam 4) gsNil))))
    (sRet (eTup (aCons (eVar 4) (aCons (eVar 3) aNil)))))))
def F_steps_of : List D → Mem → Res D := fnF 1 5 b_steps_of
def N_spot_of : List Str := ["matrix", "weight", "one", "two", "three", "four"]
def b_spot_of : FS := (sSeq (sAsg (eFn F_steps_of (aCons (eVar 0) aNil)) (gTp (gsCons (gTp (gsCons (gNam 2) (gsCons (gNam 3) gsNil))) (gsCons (gTp (gsCons (gNam 4) (gsCons (gNam 5) gsNil))) gsNil))))
    (sRet (eTup (aCons (eOp oAdd (eOp oMul (eOp oIx (eVar 1) (eC (.int 0))) (eVar 2)) (eOp oMul (eOp oIx (eVar 1) (eC (.int 1))) (eVar 4))) (aCons (eOp oAdd (eOp oMul (eOp oIx (eVar 1) (eC (.int 0))) (eVar 3)) (eOp oMul (eOp oIx (eVar 1) (eC (.int 1))) (eVar 5))) aNil)))))
def F_spot_of : List D → Mem → Res D := fnF 2 6 b_spot_of
def N_pair_line : List Str := ["matrix", "weight", "count", "x", "y"]
def b_pair_line : FS := (sSeq (sAsg (eFn F_spot_of (aCons (eVar 0) (aCons (eVar 1) aNil))) (gTp (gsCons (gNam 3) (gsCons (gNam 4) gsNil))))
    (sRet (eJs [(eFmt (eOp oIx (eC t_MARKS) (eC (.int 0)))), (eFmt (eVar 3)), (eFmt (eOp oIx (eC t_MARKS) (eC (.int 1)))), (eFmt (eUn oNeg (eVar 4))), (eFmt (eOp oIx (eC t_MARKS) (eC (.int 2)))), (eFmt (eVar 2)), (eFmt (eOp oIx (eC t_MARKS) (eC (.int 3))))] [])))
def F_pair_line : List D → Mem → Res D := fnF 3 5 b_pair_line
def N_picture_by : List Str := ["matrix", "table", "weight", "count"]
def b_picture_by : FS := (sRet (eJoin (eC (.str [10])) (qLst (aCons (eC (.str [60, 115, 118, 103, 32, 120, 109, 108, 110, 115, 61, 34, 104, 116, 116, 112, 58, 47, 47, 119, 119, 119, 46, 119, 51, 46, 111, 114, 103, 47, 50, 48, 48, 48, 47, 115, 118, 103, 34, 32, 118, 105, 101, 119, 66, 111, 120, 61, 34, 45, 51, 48, 48, 32, 45, 51, 48, 48, 32, 54, 48, 48, 32, 54, 48, 48, 34, 62])) (aStar (eNew (lcV (eVar 1) (pTup [(pName 2), (pName 3)]) [2, 3] bYes (eFn F_pair_line (aCons (eVar 0) (aCons (eVar 2) (aCons (eVar 3) aNil)))))) (aCons (eC (.str [60, 47, 115, 118, 103, 62])) aNil))))))
def F_picture_by : List D → Mem → Res D := fnF 2 4 b_picture_by
def N_whole_told : List Str := ["text", "size", "sign"]
def b_whole_told : FS := (sSeq (sSet 1 (eIf (bOf (eOp oEq (eSl (eVar 0) pNo (pSo (eC (.int 1)))) (eC (.str [45])))) (eSl (eVar 0) (pSo (eC (.int 1))) pNo) (eVar 0)))
    (sSeq (sIf (bOr (bOf (eOp oEq (eVar 1) (eC (.str [])))) (bNot (bTru (eCallL qAll (lcV (eVar 1) (pName 2) [2] bYes (eOp oIn (eVar 2) (eC (.str [48, 49, 50, 51, 52, 53, 54, 55, 56, 57])))))))) (sRet (eLst aNil)) sNop)
    (sRet (eIf (bOf (eOp oEq (eFmt (eCall (one vIntS) (aCons (eVar 0) aNil))) (eVar 0))) (eLst (aCons (eCall (one vIntS) (aCons (eVar 0) aNil)) aNil)) (eLst aNil)))))
def F_whole_told : List D → Mem → Res D := fnF 1 3 b_whole_told
def N_numbers_in : List Str := ["line", "found", "left", "mark", "after", "end", "number"]
def b_numbers_in : FS := (sSeq (sPar 1 2 (eLst aNil) (eVar 0))
    (sSeq (sFor (iZpD (aCons (eC t_MARKS) (aCons (eSl (eC t_MARKS) (pSo (eC (.int 1))) pNo) aNil))) (pTup [(pName 3), (pName 4)]) (sSeq (sSet 5 (eIf (bOf (eOp oEq (eSl (eVar 2) pNo (pSo (eCall (one vLen) (aCons (eVar 3) aNil)))) (eVar 3))) (eMt "str" mFind (eVar 2) (aCons (eVar 4) (aCons (eCall (one vLen) (aCons (eVar 3) aNil)) aNil))) (eUn oNeg (eC (.int 1)))))
    (sSeq (sSet 6 (eIf (bOf (eOp oGeT (eVar 5) (eC (.int 0)))) (eFn F_whole_told (aCons (eSl (eVar 2) (pSo (eCall (one vLen) (aCons (eVar 3) aNil))) (pSo (eVar 5))) aNil)) (eLst aNil)))
    (sSeq (sIf (bOf (eOp oEq (eVar 6) (eLst aNil))) (sRet (eLst aNil)) sNop)
    (sPar 1 2 (eOp oAdd (eVar 1) (eVar 6)) (eSl (eVar 2) (pSo (eVar 5)) pNo))))))
    (sRet (eIf (bOf (eOp oEq (eVar 2) (eOp oIx (eC t_MARKS) (eUn oNeg (eC (.int 1)))))) (eVar 1) (eLst aNil)))))
def F_numbers_in : List D → Mem → Res D := fnF 1 7 b_numbers_in
def N_weight_at : List Str := ["matrix", "x", "y", "one", "two", "three", "four", "whole", "first", "second"]
def b_weight_at : FS := (sSeq (sAsg (eFn F_steps_of (aCons (eVar 0) aNil)) (gTp (gsCons (gTp (gsCons (gNam 3) (gsCons (gNam 4) gsNil))) (gsCons (gTp (gsCons (gNam 5) (gsCons (gNam 6) gsNil))) gsNil))))
    (sSeq (sSet 7 (eOp oSub (eOp oMul (eVar 3) (eVar 6)) (eOp oMul (eVar 4) (eVar 5))))
    (sSeq (sPar 8 9 (eOp oSub (eOp oMul (eVar 1) (eVar 6)) (eOp oMul (eVar 2) (eVar 5))) (eOp oSub (eOp oMul (eVar 3) (eVar 2)) (eOp oMul (eVar 4) (eVar 1))))
    (sRet (eIf (bAnd (bOf (eOp oEq (eOp oModN (eVar 8) (eVar 7)) (eC (.int 0)))) (bOf (eOp oEq (eOp oModN (eVar 9) (eVar 7)) (eC (.int 0))))) (eLst (aCons (eTup (aCons (eOp oFdivN (eVar 8) (eVar 7)) (aCons (eOp oFdivN (eVar 9) (eVar 7)) aNil))) aNil)) (eLst aNil))))))
def F_weight_at : List D → Mem → Res D := fnF 3 10 b_weight_at
def N_pair_in : List Str := ["matrix", "line", "numbers", "weight"]
def b_pair_in : FS := (sSeq (sSet 2 (eFn F_numbers_in (aCons (eVar 1) aNil)))
    (sSeq (sIf (bOr (bOf (eOp oEq (eVar 2) (eLst aNil))) (bOf (eOp oEq (eOp oIx (eVar 2) (eC (.int 2))) (eC (.int 0))))) (sRet (eLst aNil)) sNop)
    (sRet (eNew (lcV (eFn F_weight_at (aCons (eVar 0) (aCons (eOp oIx (eVar 2) (eC (.int 0))) (aCons (eUn oNeg (eOp oIx (eVar 2) (eC (.int 1)))) aNil)))) (pName 3) [3] bYes (eTup (aCons (eVar 3) (aCons (eOp oIx (eVar 2) (eC (.int 2))) aNil))))))))
def F_pair_in : List D → Mem → Res D := fnF 2 4 b_pair_in
def N_table_read : List Str := ["matrix", "text", "lines", "found", "size", "at", "line", "pairs", "_", "count"]
def b_table_read : FS := (sSeq (sPar3 2 3 4 (eMt "str" mSplit (eVar 1) (aCons (eC (.str [10])) aNil)) (eLst aNil) (eC (.int 0)))
    (sSeq (sIf (bOf (eOp oNe (eOp oIx (eVar 2) (eC (.int 0))) (eC (.str [60, 115, 118, 103, 32, 120, 109, 108, 110, 115, 61, 34, 104, 116, 116, 112, 58, 47, 47, 119, 119, 119, 46, 119, 51, 46, 111, 114, 103, 47, 50, 48, 48, 48, 47, 115, 118, 103, 34, 32, 118, 105, 101, 119, 66, 111, 120, 61, 34, 45, 51, 48, 48, 32, 45, 51, 48, 48, 32, 54, 48, 48, 32, 54, 48, 48, 34, 62])))) (sRaise1 0 (eC (.int 0))) sNop)
    (sSeq (sFor (iEnD (aCons (eSl (eVar 2) (pSo (eC (.int 1))) pNo) aNil)) (pTup [(pName 5), (pName 6)]) (sSeq (sIf (bOf (eOp oEq (eVar 6) (eC (.str [60, 47, 115, 118, 103, 62])))) (sSeq (sIf (bOf (eOp oLt (eOp oAdd (eVar 5) (eC (.int 2))) (eCall (one vLen) (aCons (eVar 2) aNil)))) (sRaise1 0 (eOp oAdd (eVar 5) (eC (.int 2)))) sNop)
    (sRet (eCall (one vTup) (aCons (eVar 3) aNil)))) sNop)
    (sSeq (sSet 7 (eFn F_pair_in (aCons (eVar 0) (aCons (eVar 6) aNil))))
    (sSeq (sSet 4 (eOp oAdd (eVar 4) (eCallL qSum (lcV (eVar 7) (pTup [(pName 8), (pName 9)]) [8, 9] bYes (eCall (one vAbs) (aCons (eVar 9) aNil))))))
    (sSeq (sIf (bOr (bOf (eOp oEq (eVar 7) (eLst aNil))) (bOr (bOf (eOp oGt (eVar 4) (eC (.int 1000)))) (bAnd (bOf (eOp oNe (eVar 3) (eLst aNil))) (bOf (eOp oGeT (eOp oIx (eOp oIx (eVar 3) (eUn oNeg (eC (.int 1)))) (eC (.int 0))) (eOp oIx (eOp oIx (eVar 7) (eC (.int 0))) (eC (.int 0)))))))) (sRaise1 0 (eOp oAdd (eVar 5) (eC (.int 1)))) sNop)
    (sSet 3 (eOp oAdd (eVar 3) (eVar 7))))))))
    (sRaise1 0 (eCall (one vLen) (aCons (eVar 2) aNil))))))
def F_table_read : List D → Mem → Res D := fnF 2 10 b_table_read
def N_picture : List Str := ["matrix", "table"]
def b_picture : FS := (sSeq (sExp (eFn F_check_small (aCons (eVar 0) aNil)))
    (sSeq (sExp (eFn F_check_table (aCons (eVar 0) (aCons (eVar 1) aNil))))
    (sSeq (sExp (eFn F_check_flat (aCons (eVar 0) aNil)))
    (sRet (eFn F_picture_by (aCons (eVar 0) (aCons (eVar 1) aNil)))))))
def F_picture : List D → Mem → Res D := fnF 2 2 b_picture
def N_read_picture : List Str := ["matrix", "text"]
def b_read_picture : FS := (sSeq (sExp (eFn F_check_small (aCons (eVar 0) aNil)))
    (sSeq (sExp (eFn F_check_text (aCons (eVar 1) aNil)))
    (sSeq (sExp (eFn F_check_flat (aCons (eVar 0) aNil)))
    (sRet (eFn F_table_read (aCons (eVar 0) (aCons (eVar 1) aNil)))))))
def F_read_picture : List D → Mem → Res D := fnF 2 2 b_read_picture
def N__law_well : List Str := ["_law_script", "_law_mixed", "_law_cell", "_law_great"]
def b__law_well : FS := (sSeq (sSet 1 (eC (.int 40111)))
    (sSeq (sForV (eSl (eVar 0) pNo (pSo (eC (.int 63)))) (pName 2) (sSet 1 (eOp oMod (eCall (one vIntS) (aCons (eOp oAdd (eOp oAdd (eOp oMul (eVar 1) (eC (.int 51287))) (eOp oMod (eCall (one vIntS) (aCons (eVar 2) aNil)) (eC (.int 2147483399)))) (eC (.int 23))) aNil)) (eC (.int 2147483489)))))
    (sSeq (sSetLcV 3 (eSl (eVar 0) pNo (pSo (eC (.int 63)))) (pName 2) [2] (bOr (bOf (eOp oLt (eCall (one vIntS) (aCons (eVar 2) aNil)) (eC (.int 0)))) (bOf (eOp oGeT (eCall (one vIntS) (aCons (eVar 2) aNil)) (eOp oPow (eC (.int 10)) (eC (.int 14)))))) (eCall (one vAbs) (aCons (eCall (one vIntS) (aCons (eVar 2) aNil)) aNil)))
    (sRet (eLst (aCons (eC (.int 0)) (aCons (eVar 1) (aCons (eC (.int 0)) (aCons (eVar 3) aNil)))))))))
def F__law_well : List D → Mem → Res D := fnF 1 4 b__law_well
def N__law_draw : List Str := ["_law_well_here", "_law_most", "_law_digit", "_law_seed"]
def b__law_draw : FS := (sSeq (sIf (bAnd (bOf (eOp oEq (eOp oIx (eVar 0) (eC (.int 0))) (eC (.int 0)))) (bOf (eOp oNe (eOp oIx (eVar 0) (eC (.int 3))) (eLst aNil)))) (sAsg (eTup (aCons (eOp oIx (eOp oIx (eVar 0) (eC (.int 3))) (eC (.int 0))) (aCons (eSl (eOp oIx (eVar 0) (eC (.int 3))) (pSo (eC (.int 1))) pNo) aNil))) (gTp (gsCons (gIx (eVar 0) (eC (.int 0))) (gsCons (gIx (eVar 0) (eC (.int 3))) gsNil)))) sNop)
    (sSeq (sIf (bOf (eOp oGt (eOp oIx (eVar 0) (eC (.int 0))) (eC (.int 0)))) (sSeq (sAsg (eCall (two vDm) (aCons (eOp oIx (eVar 0) (eC (.int 0))) (aCons (eVar 1) aNil))) (gTp (gsCons (gIx (eVar 0) (eC (.int 0))) (gsCons (gNam 2) gsNil))))
    (sRet (eVar 2))) sNop)
    (sSeq (sAsg (eOp oAdd (eOp oIx (eVar 0) (eC (.int 2))) (eC (.int 1))) (gIx (eVar 0) (eC (.int 2))))
    (sSeq (sSet 3 (eOp oMod (eCall (one vIntS) (aCons (eOp oAdd (eOp oIx (eVar 0) (eC (.int 1))) (eOp oMul (eC (.int 48611)) (eOp oIx (eVar 0) (eC (.int 2))))) aNil)) (eC (.int 2147483489))))
    (sSeq (sAsg (eOp oMod (eCall (one vIntS) (aCons (eOp oAdd (eOp oMul (eVar 3) (eOp oAdd (eOp oMod (eCall (one vIntS) (aCons (eVar 3) aNil)) (eC (.int 7001))) (eC (.int 39979)))) (eOp oMul (eC (.int 41)) (eOp oIx (eVar 0) (eC (.int 2))))) aNil)) (eC (.int 2147483489))) (gIx (eVar 0) (eC (.int 1))))
    (sRet (eOp oMod (eCall (one vIntS) (aCons (eOp oFdiv (eOp oIx (eVar 0) (eC (.int 1))) (eC (.int 811))) aNil)) (eVar 1))))))))
def F__law_draw : List D → Mem → Res D := fnF 2 4 b__law_draw
def N__law_pick : List Str := ["_law_well_here", "_law_some"]
def b__law_pick : FS := (sRet (eOp oIx (eVar 1) (eFn F__law_draw (aCons (eVar 0) (aCons (eCall (one vLen) (aCons (eVar 1) aNil)) aNil)))))
def F__law_pick : List D → Mem → Res D := fnF 2 2 b__law_pick
def N__law_axes : List Str := ["_law_matrix", "_law_axes_here"]
def b__law_axes : FS := (sSeq (sSet 1 (eDN [((eTup (aCons (eC (.int 0)) (aCons (eC (.int 0)) aNil))), (eTup (aCons (eTup (aCons (eC (.int 20)) (aCons (eC (.int 0)) aNil))) (aCons (eTup (aCons (eC (.int 0)) (aCons (eC (.int 20)) aNil))) aNil)))), ((eTup (aCons (eUn oNeg (eC (.int 1))) (aCons (eUn oNeg (eC (.int 1))) aNil))), (eTup (aCons (eTup (aCons (eC (.int 26)) (aCons (eC (.int 15)) aNil))) (aCons (eTup (aCons (eC (.int 0)) (aCons (eC (.int 30)) aNil))) aNil)))), ((eTup (aCons (eUn oNeg (eC (.int 1))) (aCons (eUn oNeg (eC (.int 2))) aNil))), (eTup (aCons (eTup (aCons (eC (.int 40)) (aCons (eC (.int 0)) aNil))) (aCons (eTup (aCons (eC (.int 20)) (aCons (eC (.int 20)) aNil))) aNil)))), ((eTup (aCons (eUn oNeg (eC (.int 2))) (aCons (eUn oNeg (eC (.int 1))) aNil))), (eTup (aCons (eTup (aCons (eC (.int 20)) (aCons (eC (.int 20)) aNil))) (aCons (eTup (aCons (eC (.int 40)) (aCons (eC (.int 0)) aNil))) aNil)))), ((eTup (aCons (eUn oNeg (eC (.int 3))) (aCons (eUn oNeg (eC (.int 1))) aNil))), (eTup (aCons (eTup (aCons (eC (.int 15)) (aCons (eC (.int 26)) aNil))) (aCons (eTup (aCons (eC (.int 0)) (aCons (eC (.int 52)) aNil))) aNil)))), ((eTup (aCons (eUn oNeg (eC (.int 1))) (aCons (eUn oNeg (eC (.int 3))) aNil))), (eTup (aCons (eTup (aCons (eC (.int 0)) (aCons (eC (.int 52)) aNil))) (aCons (eTup (aCons (eC (.int 15)) (aCons (eC (.int 26)) aNil))) aNil))))] []))
    (sRet (eOp oIx (eVar 1) (eTup (aCons (eOp oIx (eOp oIx (eVar 0) (eC (.int 0))) (eC (.int 1))) (aCons (eOp oIx (eOp oIx (eVar 0) (eC (.int 1))) (eC (.int 0))) aNil))))))
def F__law_axes : List D → Mem → Res D := fnF 1 2 b__law_axes
def N__law_line : List Str := ["_law_matrix", "_law_weight", "_law_count", "_law_a", "_law_b", "_law_p", "_law_q", "_law_x", "_law_y"]
def b__law_line : FS := (sSeq (sAsg (eTup (aCons (eVar 1) (aCons (eFn F__law_axes (aCons (eVar 0) aNil)) aNil))) (gTp (gsCons (gTp (gsCons (gNam 3) (gsCons (gNam 4) gsNil))) (gsCons (gTp (gsCons (gNam 5) (gsCons (gNam 6) gsNil))) gsNil))))
    (sSeq (sPar 7 8 (eOp oAdd (eOp oMul (eVar 3) (eOp oIx (eVar 5) (eC (.int 0)))) (eOp oMul (eVar 4) (eOp oIx (eVar 6) (eC (.int 0))))) (eOp oAdd (eOp oMul (eVar 3) (eOp oIx (eVar 5) (eC (.int 1)))) (eOp oMul (eVar 4) (eOp oIx (eVar 6) (eC (.int 1))))))
    (sRet (eOp oAdd (eOp oAdd (eOp oAdd (eOp oAdd (eOp oAdd (eOp oAdd (eC (.str [60, 116, 101, 120, 116, 32, 120, 61, 34])) (eCall (one vStr) (aCons (eVar 7) aNil))) (eC (.str [34, 32, 121, 61, 34]))) (eCall (one vStr) (aCons (eOp oSub (eC (.int 0)) (eVar 8)) aNil))) (eC (.str [34, 62]))) (eCall (one vStr) (aCons (eVar 2) aNil))) (eC (.str [60, 47, 116, 101, 120, 116, 62]))))))
def F__law_line : List D → Mem → Res D := fnF 3 9 b__law_line
def N__law_head : List Str := []
def b__law_head : FS := (sRet (eC (.str [60, 115, 118, 103, 32, 120, 109, 108, 110, 115, 61, 34, 104, 116, 116, 112, 58, 47, 47, 119, 119, 119, 46, 119, 51, 46, 111, 114, 103, 47, 50, 48, 48, 48, 47, 115, 118, 103, 34, 32, 118, 105, 101, 119, 66, 111, 120, 61, 34, 45, 51, 48, 48, 32, 45, 51, 48, 48, 32, 54, 48, 48, 32, 54, 48, 48, 34, 62])))
def F__law_head : List D → Mem → Res D := fnF 0 0 b__law_head
def N__law_text : List Str := ["_law_matrix", "_law_table", "_law_weight", "_law_count"]
def b__law_text : FS := (sRet (eJoin (eC (.str [10])) (qVal (eOp oAdd (eOp oAdd (eLst (aCons (eFn F__law_head aNil) aNil)) (eNew (lcV (eVar 1) (pTup [(pName 2), (pName 3)]) [2, 3] bYes (eFn F__law_line (aCons (eVar 0) (aCons (eVar 2) (aCons (eVar 3) aNil))))))) (eLst (aCons (eC (.str [60, 47, 115, 118, 103, 62])) aNil))))))
def F__law_text : List D → Mem → Res D := fnF 2 4 b__law_text
def N__law_whole : List Str := ["_law_text_here", "_law_digits", "_law_sign"]
def b__law_whole : FS := (sSeq (sSet 1 (eIf (bOf (eOp oEq (eSl (eVar 0) pNo (pSo (eC (.int 1)))) (eC (.str [45])))) (eSl (eVar 0) (pSo (eC (.int 1))) pNo) (eVar 0)))
    (sSeq (sIf (bOr (bOf (eOp oEq (eVar 1) (eC (.str [])))) (bOr (bOf (eOp oGt (eCall (one vLen) (aCons (eVar 1) aNil)) (eC (.int 400)))) (bNot (bTru (eCallL qAll (lcV (eVar 1) (pName 2) [2] bYes (eOp oIn (eVar 2) (eC (.str [48, 49, 50, 51, 52, 53, 54, 55, 56, 57]))))))))) (sRet (eC .non)) sNop)
    (sRet (eIf (bOf (eOp oEq (eCall (one vStr) (aCons (eCall (one vIntS) (aCons (eVar 0) aNil)) aNil)) (eVar 0))) (eCall (one vIntS) (aCons (eVar 0) aNil)) (eC .non)))))
def F__law_whole : List D → Mem → Res D := fnF 1 3 b__law_whole
def N__law_pair : List Str := ["_law_matrix", "_law_line_here", "_law_words", "_law_x", "_law_y", "_law_count", "_law_p", "_law_q", "_law_low", "_law_weight"]
def b__law_pair : FS := (sSeq (sSet 2 (eMt "str" mSplit (eVar 1) (aCons (eC (.str [34])) aNil)))
    (sSeq (sIf (bOf (eOp oNe (eCall (one vLen) (aCons (eVar 2) aNil)) (eC (.int 5)))) (sRet (eC .non)) sNop)
    (sSeq (sPar3 3 4 5 (eFn F__law_whole (aCons (eOp oIx (eVar 2) (eC (.int 1))) aNil)) (eFn F__law_whole (aCons (eOp oIx (eVar 2) (eC (.int 3))) aNil)) (eFn F__law_whole (aCons (eSl (eOp oIx (eVar 2) (eC (.int 4))) (pSo (eC (.int 1))) (pSo (eOp oSub (eCall (one vLen) (aCons (eOp oIx (eVar 2) (eC (.int 4))) aNil)) (eC (.int 7))))) aNil)))
    (sSeq (sIf (bOr (bOf (eOp oIs (eVar 3) (eC .non))) (bOr (bOf (eOp oIs (eVar 4) (eC .non))) (bOr (bOf (eOp oIs (eVar 5) (eC .non))) (bOf (eOp oEq (eVar 5) (eC (.int 0))))))) (sRet (eC .non)) sNop)
    (sSeq (sAsg (eFn F__law_axes (aCons (eVar 0) aNil)) (gTp (gsCons (gNam 6) (gsCons (gNam 7) gsNil))))
    (sSeq (sSet 8 (eOp oSub (eOp oMul (eOp oIx (eVar 6) (eC (.int 0))) (eOp oIx (eVar 7) (eC (.int 1)))) (eOp oMul (eOp oIx (eVar 6) (eC (.int 1))) (eOp oIx (eVar 7) (eC (.int 0))))))
    (sSeq (sSet 9 (eTup (aCons (eOp oFdivN (eOp oAdd (eOp oMul (eVar 3) (eOp oIx (eVar 7) (eC (.int 1)))) (eOp oMul (eVar 4) (eOp oIx (eVar 7) (eC (.int 0))))) (eVar 8)) (aCons (eOp oFdivN (eOp oSub (eOp oSub (eC (.int 0)) (eOp oMul (eOp oIx (eVar 6) (eC (.int 0))) (eVar 4))) (eOp oMul (eOp oIx (eVar 6) (eC (.int 1))) (eVar 3))) (eVar 8)) aNil))))
    (sRet (eIf (bOf (eOp oEq (eFn F__law_line (aCons (eVar 0) (aCons (eVar 9) (aCons (eVar 5) aNil)))) (eVar 1))) (eTup (aCons (eVar 9) (aCons (eVar 5) aNil))) (eC .non))))))))))
def F__law_pair : List D → Mem → Res D := fnF 2 10 b__law_pair
def N__law_read : List Str := ["_law_matrix", "_law_text_here", "_law_lines", "_law_found", "_law_size", "_law_at", "_law_pair_here"]
def b__law_read : FS := (sSeq (sPar3 2 3 4 (eMt "str" mSplit (eVar 1) (aCons (eC (.str [10])) aNil)) (eLst aNil) (eC (.int 0)))
    (sSeq (sIf (bOf (eOp oNe (eOp oIx (eVar 2) (eC (.int 0))) (eFn F__law_head aNil))) (sRet (eTup (aCons (eC (.str [98, 97, 100])) (aCons (eC (.int 0)) aNil)))) sNop)
    (sSeq (sFor (iRg2 (aCons (eC (.int 1)) (aCons (eCall (one vLen) (aCons (eVar 2) aNil)) aNil))) (pName 5) (sSeq (sIf (bOf (eOp oEq (eOp oIx (eVar 2) (eVar 5)) (eC (.str [60, 47, 115, 118, 103, 62])))) (sRet (eIf (bOf (eOp oEq (eVar 5) (eOp oSub (eCall (one vLen) (aCons (eVar 2) aNil)) (eC (.int 1))))) (eCall (one vTup) (aCons (eVar 3) aNil)) (eTup (aCons (eC (.str [98, 97, 100])) (aCons (eOp oAdd (eVar 5) (eC (.int 1))) aNil))))) sNop)
    (sSeq (sSet 6 (eFn F__law_pair (aCons (eVar 0) (aCons (eOp oIx (eVar 2) (eVar 5)) aNil))))
    (sSeq (sIf (bOr (bOf (eOp oIs (eVar 6) (eC .non))) (bAnd (bOf (eOp oNe (eVar 3) (eLst aNil))) (bOf (eOp oLeT (eOp oIx (eVar 6) (eC (.int 0))) (eOp oIx (eOp oIx (eVar 3) (eOp oSub (eCall (one vLen) (aCons (eVar 3) aNil)) (eC (.int 1)))) (eC (.int 0))))))) (sRet (eTup (aCons (eC (.str [98, 97, 100])) (aCons (eVar 5) aNil)))) sNop)
    (sSeq (sSet 4 (eOp oAdd (eVar 4) (eCall (one vAbs) (aCons (eOp oIx (eVar 6) (eC (.int 1))) aNil))))
    (sSeq (sIf (bOf (eOp oGt (eVar 4) (eC (.int 1000)))) (sRet (eTup (aCons (eC (.str [98, 97, 100])) (aCons (eVar 5) aNil)))) sNop)
    (sExp (eMt "list" mApp (eVar 3) (aCons (eVar 6) aNil)))))))))
    (sRet (eTup (aCons (eC (.str [98, 97, 100])) (aCons (eCall (one vLen) (aCons (eVar 2) aNil)) aNil)))))))
def F__law_read : List D → Mem → Res D := fnF 2 7 b__law_read
def N__law_number : List Str := ["_law_well_here", "_law_way", "_law_great"]
def b__law_number : FS := (sSeq (sSet 1 (eFn F__law_draw (aCons (eVar 0) (aCons (eC (.int 8)) aNil))))
    (sSeq (sIf (bOf (eOp oGt (eVar 1) (eC (.int 0)))) (sRet (eOp oSub (eFn F__law_draw (aCons (eVar 0) (aCons (eC (.int 13)) aNil))) (eC (.int 6)))) sNop)
    (sSeq (sSet 2 (eOp oAdd (eFn F__law_pick (aCons (eVar 0) (aCons (eTup (aCons (eOp oPow (eC (.int 10)) (eC (.int 2))) (aCons (eOp oPow (eC (.int 10)) (eC (.int 9))) (aCons (eOp oPow (eC (.int 10)) (eC (.int 30))) (aCons (eOp oMul (eOp oPow (eC (.int 10)) (eC (.int 50))) (eOp oPow (eC (.int 10)) (eC (.int 50)))) aNil))))) aNil))) (eFn F__law_draw (aCons (eVar 0) (aCons (eC (.int 9)) aNil)))))
    (sRet (eIf (bOf (eOp oEq (eFn F__law_draw (aCons (eVar 0) (aCons (eC (.int 2)) aNil))) (eC (.int 0)))) (eVar 2) (eOp oSub (eC (.int 0)) (eVar 2)))))))
def F__law_number : List D → Mem → Res D := fnF 1 3 b__law_number
def N__law_drawn : List Str := ["_law_well_here", "_law_found", "_law_size", "_law_lap", "_law_one", "_law_two", "_law_count", "_law_pairs", "_law_each"]
def b__law_drawn : FS := (sSeq (sAsg (eTup (aCons (eDict0 true) (aCons (eC (.int 0)) aNil))) (gTp (gsCons (gNam 1) (gsCons (gNam 2) gsNil))))
    (sSeq (sFor (iRg1 (aCons (eFn F__law_draw (aCons (eVar 0) (aCons (eC (.int 8)) aNil))) aNil)) (pName 3) (sSeq (sSet 4 (eFn F__law_number (aCons (eVar 0) aNil)))
    (sSeq (sSet 5 (eFn F__law_number (aCons (eVar 0) aNil)))
    (sSeq (sSet 6 (eOp oAdd (eC (.int 1)) (eIf (bOf (eOp oGt (eFn F__law_draw (aCons (eVar 0) (aCons (eC (.int 4)) aNil))) (eC (.int 0)))) (eFn F__law_draw (aCons (eVar 0) (aCons (eC (.int 12)) aNil))) (eFn F__law_draw (aCons (eVar 0) (aCons (eC (.int 140)) aNil))))))
    (sAsg (eIf (bOf (eOp oGt (eFn F__law_draw (aCons (eVar 0) (aCons (eC (.int 3)) aNil))) (eC (.int 0)))) (eVar 6) (eOp oSub (eC (.int 0)) (eVar 6))) (gIx (eVar 1) (eTup (aCons (eVar 4) (aCons (eVar 5) aNil)))))))))
    (sSeq (sSetLcV 7 (eCallL qSort (lcV (eVar 1) (pName 4) [4] bYes (eVar 4))) (pName 8) [8] bYes (eTup (aCons (eVar 8) (aCons (eOp oIx (eVar 1) (eVar 8)) aNil))))
    (sSeq (sIf (bAnd (bOf (eOp oNe (eVar 7) (eLst aNil))) (bOf (eOp oEq (eFn F__law_draw (aCons (eVar 0) (aCons (eC (.int 8)) aNil))) (eC (.int 0))))) (sSeq (sSet 2 (eCallL qSum (lcV (eSl (eVar 7) (pSo (eC (.int 1))) pNo) (pTup [(pName 8), (pName 6)]) [8, 6] bYes (eCall (one vAbs) (aCons (eVar 6) aNil)))))
    (sSet 7 (eOp oAdd (eLst (aCons (eTup (aCons (eOp oIx (eOp oIx (eVar 7) (eC (.int 0))) (eC (.int 0))) (aCons (eOp oSub (eC (.int 1000)) (eVar 2)) aNil))) aNil)) (eSl (eVar 7) (pSo (eC (.int 1))) pNo)))) sNop)
    (sRet (eCall (one vTup) (aCons (eVar 7) aNil)))))))
def F__law_drawn : List D → Mem → Res D := fnF 1 9 b__law_drawn
def N__law_bent_line : List Str := ["_law_well_here", "_law_matrix", "_law_line_here", "_law_way", "_law_words", "_law_at", "_law_count"]
def b__law_bent_line : FS := (sSeq (sPar 3 4 (eFn F__law_draw (aCons (eVar 0) (aCons (eC (.int 12)) aNil))) (eMt "str" mSplit (eVar 2) (aCons (eC (.str [34])) aNil)))
    (sSeq (sIf (bOr (bOf (eOp oNe (eCall (one vLen) (aCons (eVar 4) aNil)) (eC (.int 5)))) (bOf (eOp oEq (eVar 3) (eC (.int 0))))) (sSeq (sSet 5 (eFn F__law_draw (aCons (eVar 0) (aCons (eOp oAdd (eCall (one vLen) (aCons (eVar 2) aNil)) (eC (.int 1))) aNil))))
    (sRet (eOp oAdd (eOp oAdd (eSl (eVar 2) pNo (pSo (eVar 5))) (eFn F__law_pick (aCons (eVar 0) (aCons (eTup (aCons (eC (.str [32])) (aCons (eC (.str [48])) (aCons (eC (.str [45])) (aCons (eC (.str [47])) (aCons (eC (.str [60])) (aCons (eC (.str [34])) (aCons (eC (.str [49])) aNil)))))))) aNil)))) (eSl (eVar 2) (pSo (eVar 5)) pNo)))) sNop)
    (sSeq (sIf (bOf (eOp oEq (eVar 3) (eC (.int 1)))) (sSeq (sSet 5 (eFn F__law_draw (aCons (eVar 0) (aCons (eCall (one vLen) (aCons (eVar 2) aNil)) aNil))))
    (sRet (eOp oAdd (eSl (eVar 2) pNo (pSo (eVar 5))) (eSl (eVar 2) (pSo (eOp oAdd (eVar 5) (eC (.int 1)))) pNo)))) sNop)
    (sSeq (sIf (bOf (eOp oLt (eVar 3) (eC (.int 4)))) (sSeq (sSet 5 (eFn F__law_pick (aCons (eVar 0) (aCons (eTup (aCons (eC (.int 1)) (aCons (eC (.int 3)) aNil))) aNil))))
    (sSeq (sAsg (eOp oAdd (eFn F__law_pick (aCons (eVar 0) (aCons (eTup (aCons (eC (.str [43])) (aCons (eC (.str [48])) (aCons (eC (.str [45])) (aCons (eC (.str [32])) (aCons (eC (.str [49])) (aCons (eC (.str [45, 45])) aNil))))))) aNil))) (eOp oIx (eVar 4) (eVar 5))) (gIx (eVar 4) (eVar 5)))
    (sRet (eJoin (eC (.str [34])) (qVal (eVar 4)))))) sNop)
    (sSeq (sIf (bOf (eOp oLt (eVar 3) (eC (.int 6)))) (sSeq (sSet 5 (eFn F__law_pick (aCons (eVar 0) (aCons (eTup (aCons (eC (.int 1)) (aCons (eC (.int 3)) aNil))) aNil))))
    (sSeq (sAsg (eCall (one vStr) (aCons (eFn F__law_pick (aCons (eVar 0) (aCons (eTup (aCons (eC (.int 0)) (aCons (eC (.int 1)) (aCons (eC (.int 26)) (aCons (eC (.int 40)) (aCons (eC (.int 15)) (aCons (eC (.int 30)) (aCons (eUn oNeg (eC (.int 20))) (aCons (eC (.int 7)) aNil))))))))) aNil))) aNil)) (gIx (eVar 4) (eVar 5)))
    (sRet (eJoin (eC (.str [34])) (qVal (eVar 4)))))) sNop)
    (sSeq (sIf (bOf (eOp oLt (eVar 3) (eC (.int 9)))) (sSeq (sSet 6 (eFn F__law_pick (aCons (eVar 0) (aCons (eTup (aCons (eC (.str [48])) (aCons (eC (.str [45, 48])) (aCons (eC (.str [49, 48, 48, 49])) (aCons (eC (.str [48, 49])) (aCons (eC (.str [43, 49])) (aCons (eC (.str [])) (aCons (eC (.str [49, 46])) (aCons (eC (.str [45, 49])) (aCons (eC (.str [50])) (aCons (eC (.str [57, 57, 57])) (aCons (eC (.str [49, 48, 48, 48])) (aCons (eC (.str [45, 49, 48, 48, 48])) (aCons (eC (.str [97])) aNil)))))))))))))) aNil))))
    (sSeq (sAsg (eOp oAdd (eOp oAdd (eC (.str [62])) (eVar 6)) (eC (.str [60, 47, 116, 101, 120, 116, 62]))) (gIx (eVar 4) (eC (.int 4))))
    (sRet (eJoin (eC (.str [34])) (qVal (eVar 4)))))) sNop)
    (sSeq (sIf (bOf (eOp oEq (eVar 3) (eC (.int 9)))) (sRet (eMt "str" mUpper (eVar 2) aNil)) sNop)
    (sSeq (sIf (bOf (eOp oEq (eVar 3) (eC (.int 10)))) (sSeq (sAsg (eTup (aCons (eOp oIx (eVar 4) (eC (.int 3))) (aCons (eOp oIx (eVar 4) (eC (.int 1))) aNil))) (gTp (gsCons (gIx (eVar 4) (eC (.int 1))) (gsCons (gIx (eVar 4) (eC (.int 3))) gsNil))))
    (sRet (eJoin (eC (.str [34])) (qVal (eVar 4))))) sNop)
    (sRet (eFn F__law_pick (aCons (eVar 0) (aCons (eTup (aCons (eC (.str [])) (aCons (eC (.str [60, 47, 115, 118, 103, 62])) (aCons (eOp oAdd (eC (.str [32])) (eVar 2)) (aCons (eOp oAdd (eVar 2) (eC (.str [32]))) (aCons (eOp oAdd (eVar 2) (eVar 2)) (aCons (eFn F__law_head aNil) (aCons (eC (.str [60, 116, 101, 120, 116, 47, 62])) aNil)))))))) aNil))))))))))))
def F__law_bent_line : List D → Mem → Res D := fnF 3 7 b__law_bent_line
def N__law_bent : List Str := ["_law_well_here", "_law_matrix", "_law_text_here", "_law_lines", "_law_way", "_law_at"]
def b__law_bent : FS := (sSeq (sPar 3 4 (eMt "str" mSplit (eVar 2) (aCons (eC (.str [10])) aNil)) (eFn F__law_draw (aCons (eVar 0) (aCons (eC (.int 9)) aNil))))
    (sSeq (sSet 5 (eFn F__law_draw (aCons (eVar 0) (aCons (eCall (one vLen) (aCons (eVar 3) aNil)) aNil))))
    (sSeq (sIf (bOf (eOp oLt (eVar 4) (eC (.int 4)))) (sAsg (eFn F__law_bent_line (aCons (eVar 0) (aCons (eVar 1) (aCons (eOp oIx (eVar 3) (eVar 5)) aNil)))) (gIx (eVar 3) (eVar 5))) (sIf (bOf (eOp oEq (eVar 4) (eC (.int 4)))) (sSet 3 (eOp oAdd (eSl (eVar 3) pNo (pSo (eVar 5))) (eSl (eVar 3) (pSo (eOp oAdd (eVar 5) (eC (.int 1)))) pNo))) (sIf (bOf (eOp oEq (eVar 4) (eC (.int 5)))) (sSet 3 (eOp oAdd (eOp oAdd (eSl (eVar 3) pNo (pSo (eVar 5))) (eLst (aCons (eOp oIx (eVar 3) (eVar 5)) aNil))) (eSl (eVar 3) (pSo (eVar 5)) pNo))) (sIf (bAnd (bOf (eOp oEq (eVar 4) (eC (.int 6)))) (bOf (eOp oGt (eVar 5) (eC (.int 0))))) (sAsg (eTup (aCons (eOp oIx (eVar 3) (eVar 5)) (aCons (eOp oIx (eVar 3) (eOp oSub (eVar 5) (eC (.int 1)))) aNil))) (gTp (gsCons (gIx (eVar 3) (eOp oSub (eVar 5) (eC (.int 1)))) (gsCons (gIx (eVar 3) (eVar 5)) gsNil)))) (sIf (bOf (eOp oEq (eVar 4) (eC (.int 7)))) (sSet 3 (eOp oAdd (eVar 3) (eLst (aCons (eFn F__law_pick (aCons (eVar 0) (aCons (eTup (aCons (eC (.str [])) (aCons (eC (.str [32])) (aCons (eC (.str [60, 47, 115, 118, 103, 62])) (aCons (eOp oIx (eVar 3) (eVar 5)) aNil))))) aNil))) aNil)))) (sSet 3 (eOp oAdd (eOp oAdd (eSl (eVar 3) pNo (pSo (eVar 5))) (eLst (aCons (eFn F__law_line (aCons (eVar 1) (aCons (eTup (aCons (eOp oSub (eFn F__law_draw (aCons (eVar 0) (aCons (eC (.int 9)) aNil))) (eC (.int 4))) (aCons (eOp oSub (eFn F__law_draw (aCons (eVar 0) (aCons (eC (.int 9)) aNil))) (eC (.int 4))) aNil))) (aCons (eC (.int 1)) aNil)))) aNil))) (eSl (eVar 3) (pSo (eVar 5)) pNo))))))))
    (sRet (eJoin (eC (.str [10])) (qVal (eVar 3)))))))
def F__law_bent : List D → Mem → Res D := fnF 3 6 b__law_bent
def N__law_heard : List Str := ["_law_matrix", "_law_text_here", "_law_found", "e"]
def b__law_heard : FS := (sSeq (sTryAs (sSet 2 (eFnK F_read_picture 2 [0, 1] aNil (aCons (eVar 0) (aCons (eVar 1) aNil)))) (catOne 0) 3 (fun pd => eTup (aCons (eC (.str [98, 97, 100])) (aCons ((fun pd => eC pd) pd) aNil))))
    (sRet (eVar 2)))
def F__law_heard : List D → Mem → Res D := fnF 2 4 b__law_heard
def N__law_is_right : List Str := ["_law_well_here", "_law_matrices", "_law_matrix", "_law_table", "_law_text_here", "_law_told", "_law_lap", "_law_bent_here", "_law_other"]
def b__law_is_right : FS := (sSeq (sSet 1 (eTup (aCons (eTup (aCons (eTup (aCons (eC (.int 2)) (aCons (eC (.int 0)) aNil))) (aCons (eTup (aCons (eC (.int 0)) (aCons (eC (.int 2)) aNil))) aNil))) (aCons (eTup (aCons (eTup (aCons (eC (.int 2)) (aCons (eUn oNeg (eC (.int 1))) aNil))) (aCons (eTup (aCons (eUn oNeg (eC (.int 1))) (aCons (eC (.int 2)) aNil))) aNil))) (aCons (eTup (aCons (eTup (aCons (eC (.int 2)) (aCons (eUn oNeg (eC (.int 1))) aNil))) (aCons (eTup (aCons (eUn oNeg (eC (.int 2))) (aCons (eC (.int 2)) aNil))) aNil))) (aCons (eTup (aCons (eTup (aCons (eC (.int 2)) (aCons (eUn oNeg (eC (.int 2))) aNil))) (aCons (eTup (aCons (eUn oNeg (eC (.int 1))) (aCons (eC (.int 2)) aNil))) aNil))) (aCons (eTup (aCons (eTup (aCons (eC (.int 2)) (aCons (eUn oNeg (eC (.int 3))) aNil))) (aCons (eTup (aCons (eUn oNeg (eC (.int 1))) (aCons (eC (.int 2)) aNil))) aNil))) (aCons (eTup (aCons (eTup (aCons (eC (.int 2)) (aCons (eUn oNeg (eC (.int 1))) aNil))) (aCons (eTup (aCons (eUn oNeg (eC (.int 3))) (aCons (eC (.int 2)) aNil))) aNil))) aNil))))))))
    (sSeq (sPar 2 3 (eFn F__law_pick (aCons (eVar 0) (aCons (eVar 1) aNil))) (eFn F__law_drawn (aCons (eVar 0) aNil)))
    (sSeq (sSet 4 (eFn F__law_text (aCons (eVar 2) (aCons (eVar 3) aNil))))
    (sSeq (sSet 5 (eFn F_picture (aCons (eVar 2) (aCons (eVar 3) aNil))))
    (sSeq (sIf (bOr (bOf (eOp oNe (eCall (one vReprS) (aCons (eVar 5) aNil)) (eCall (one vReprS) (aCons (eVar 4) aNil)))) (bOf (eOp oNe (eCall (one vReprS) (aCons (eFn F__law_heard (aCons (eVar 2) (aCons (eVar 5) aNil))) aNil)) (eCall (one vReprS) (aCons (eVar 3) aNil))))) (sRet (eC (.bl false))) sNop)
    (sSeq (sFor (iRg1 (aCons (eC (.int 3)) aNil)) (pName 6) (sSeq (sSet 7 (eFn F__law_bent (aCons (eVar 0) (aCons (eVar 2) (aCons (eVar 4) aNil)))))
    (sSeq (sSet 7 (eIf (bOf (eOp oEq (eFn F__law_draw (aCons (eVar 0) (aCons (eC (.int 4)) aNil))) (eC (.int 0)))) (eFn F__law_bent (aCons (eVar 0) (aCons (eVar 2) (aCons (eVar 7) aNil)))) (eVar 7)))
    (sIf (bOf (eOp oNe (eCall (one vReprS) (aCons (eFn F__law_heard (aCons (eVar 2) (aCons (eVar 7) aNil))) aNil)) (eCall (one vReprS) (aCons (eFn F__law_read (aCons (eVar 2) (aCons (eVar 7) aNil))) aNil)))) (sRet (eC (.bl false))) sNop))))
    (sSeq (sSet 8 (eFn F__law_pick (aCons (eVar 0) (aCons (eVar 1) aNil))))
    (sRet (eOp oEq (eCall (one vReprS) (aCons (eFn F__law_heard (aCons (eVar 8) (aCons (eVar 4) aNil))) aNil)) (eCall (one vReprS) (aCons (eFn F__law_read (aCons (eVar 8) (aCons (eVar 4) aNil))) aNil)))))))))))
def F__law_is_right : List D → Mem → Res D := fnF 1 9 b__law_is_right
def N_law : List Str := ["_law_script"]
def b_law : FS := (sRet (eFn F__law_is_right (aCons (eFn F__law_well (aCons (eVar 0) aNil)) aNil)))
def F_law : List D → Mem → Res D := fnF 1 1 b_law
end K57

set_option Elab.async false
set_option linter.all false
set_option maxRecDepth 100000
set_option maxHeartbeats 4000000
namespace K57
open PySem PySem.Spec PyProof.Rows L2 DL
def top (i : Nat) : Stmt := PySem.Challenge.pw_weylweights_k57_whole_pictures_there_and.main.body.getD i (.Pass ⟨0, 0, 0, 0⟩)
abbrev s_is_whole : Stmt := top 2
abbrev s_is_row_of : Stmt := top 5
abbrev s_is_cartan : Stmt := top 6
abbrev s_joined_to : Stmt := top 7
abbrev s_all_parts : Stmt := top 8
abbrev s_matrix_at : Stmt := top 9
abbrev s_dot : Stmt := top 10
abbrev s_product_by : Stmt := top 11
abbrev s_small_vector : Stmt := top 12
abbrev s_sweep : Stmt := top 13
abbrev s_determinant_by : Stmt := top 14
abbrev s_signs_of : Stmt := top 15
abbrev s_flat_vector : Stmt := top 16
abbrev s_shown_part : Stmt := top 17
abbrev s_kind_of_part : Stmt := top 19
abbrev s_all_kinds : Stmt := top 20
abbrev s_is_finite : Stmt := top 21
abbrev s_is_weighted : Stmt := top 23
abbrev s_is_counted : Stmt := top 25
abbrev s_is_tabled : Stmt := top 26
abbrev s_size_by : Stmt := top 27
abbrev s_check_matrix : Stmt := top 37
abbrev s_check_finite : Stmt := top 38
abbrev s_check_small : Stmt := top 42
abbrev s_check_table : Stmt := top 43
abbrev s_check_text : Stmt := top 45
abbrev s_check_flat : Stmt := top 54
abbrev s_steps_of : Stmt := top 55
abbrev s_spot_of : Stmt := top 56
abbrev s_pair_line : Stmt := top 57
abbrev s_picture_by : Stmt := top 58
abbrev s_whole_told : Stmt := top 59
abbrev s_numbers_in : Stmt := top 60
abbrev s_weight_at : Stmt := top 61
abbrev s_pair_in : Stmt := top 62
abbrev s_table_read : Stmt := top 63
abbrev s_picture : Stmt := top 65
abbrev s_read_picture : Stmt := top 66
abbrev s__law_well : Stmt := top 68
abbrev s__law_draw : Stmt := top 69
abbrev s__law_pick : Stmt := top 70
abbrev s__law_axes : Stmt := top 71
abbrev s__law_line : Stmt := top 72
abbrev s__law_head : Stmt := top 73
abbrev s__law_text : Stmt := top 74
abbrev s__law_whole : Stmt := top 75
abbrev s__law_pair : Stmt := top 76
abbrev s__law_read : Stmt := top 77
abbrev s__law_number : Stmt := top 78
abbrev s__law_drawn : Stmt := top 79
abbrev s__law_bent_line : Stmt := top 80
abbrev s__law_bent : Stmt := top 81
abbrev s__law_heard : Stmt := top 82
abbrev s__law_is_right : Stmt := top 83
abbrev s_law : Stmt := top 84
end K57

set_option Elab.async false
set_option linter.all false
set_option maxRecDepth 100000
set_option maxHeartbeats 0
namespace K57
open PySem PySem.Spec PyProof.Rows L2 DL
def o_is_whole : He.DefD := ⟨("is_whole", none), "is_whole", "is_whole", defArgs s_is_whole, defBody s_is_whole, defScope s_is_whole, [], []⟩
def o_is_row_of : He.DefD := ⟨("is_row_of", none), "is_row_of", "is_row_of", defArgs s_is_row_of, defBody s_is_row_of, defScope s_is_row_of, [], []⟩
def o_is_cartan : He.DefD := ⟨("is_cartan", none), "is_cartan", "is_cartan", defArgs s_is_cartan, defBody s_is_cartan, defScope s_is_cartan, [], []⟩
def o_joined_to : He.DefD := ⟨("joined_to", none), "joined_to", "joined_to", defArgs s_joined_to, defBody s_joined_to, defScope s_joined_to, [], []⟩
def o_all_parts : He.DefD := ⟨("all_parts", none), "all_parts", "all_parts", defArgs s_all_parts, defBody s_all_parts, defScope s_all_parts, [], []⟩
def o_matrix_at : He.DefD := ⟨("matrix_at", none), "matrix_at", "matrix_at", defArgs s_matrix_at, defBody s_matrix_at, defScope s_matrix_at, [], []⟩
def o_dot : He.DefD := ⟨("dot", none), "dot", "dot", defArgs s_dot, defBody s_dot, defScope s_dot, [], []⟩
def o_product_by : He.DefD := ⟨("product_by", none), "product_by", "product_by", defArgs s_product_by, defBody s_product_by, defScope s_product_by, [], []⟩
def o_small_vector : He.DefD := ⟨("small_vector", none), "small_vector", "small_vector", defArgs s_small_vector, defBody s_small_vector, defScope s_small_vector, [], []⟩
def o_sweep : He.DefD := ⟨("sweep", none), "sweep", "sweep", defArgs s_sweep, defBody s_sweep, defScope s_sweep, [], []⟩
def o_determinant_by : He.DefD := ⟨("determinant_by", none), "determinant_by", "determinant_by", defArgs s_determinant_by, defBody s_determinant_by, defScope s_determinant_by, [], []⟩
def o_signs_of : He.DefD := ⟨("signs_of", none), "signs_of", "signs_of", defArgs s_signs_of, defBody s_signs_of, defScope s_signs_of, [], []⟩
def o_flat_vector : He.DefD := ⟨("flat_vector", none), "flat_vector", "flat_vector", defArgs s_flat_vector, defBody s_flat_vector, defScope s_flat_vector, [], []⟩
def o_shown_part : He.DefD := ⟨("shown_part", none), "shown_part", "shown_part", defArgs s_shown_part, defBody s_shown_part, defScope s_shown_part, [], []⟩
def o_kind_of_part : He.DefD := ⟨("kind_of_part", none), "kind_of_part", "kind_of_part", defArgs s_kind_of_part, defBody s_kind_of_part, defScope s_kind_of_part, [], []⟩
def o_all_kinds : He.DefD := ⟨("all_kinds", none), "all_kinds", "all_kinds", defArgs s_all_kinds, defBody s_all_kinds, defScope s_all_kinds, [], []⟩
def o_is_finite : He.DefD := ⟨("is_finite", none), "is_finite", "is_finite", defArgs s_is_finite, defBody s_is_finite, defScope s_is_finite, [], []⟩
def o_is_weighted : He.DefD := ⟨("is_weighted", none), "is_weighted", "is_weighted", defArgs s_is_weighted, defBody s_is_weighted, defScope s_is_weighted, [], []⟩
def o_is_counted : He.DefD := ⟨("is_counted", none), "is_counted", "is_counted", defArgs s_is_counted, defBody s_is_counted, defScope s_is_counted, [], []⟩
def o_is_tabled : He.DefD := ⟨("is_tabled", none), "is_tabled", "is_tabled", defArgs s_is_tabled, defBody s_is_tabled, defScope s_is_tabled, [], []⟩
def o_size_by : He.DefD := ⟨("size_by", none), "size_by", "size_by", defArgs s_size_by, defBody s_size_by, defScope s_size_by, [], []⟩
def o_check_matrix : He.DefD := ⟨("check_matrix", none), "check_matrix", "check_matrix", defArgs s_check_matrix, defBody s_check_matrix, defScope s_check_matrix, [], []⟩
def o_check_finite : He.DefD := ⟨("check_finite", none), "check_finite", "check_finite", defArgs s_check_finite, defBody s_check_finite, defScope s_check_finite, [], []⟩
def o_check_small : He.DefD := ⟨("check_small", none), "check_small", "check_small", defArgs s_check_small, defBody s_check_small, defScope s_check_small, [], []⟩
def o_check_table : He.DefD := ⟨("check_table", none), "check_table", "check_table", defArgs s_check_table, defBody s_check_table, defScope s_check_table, [], []⟩
def o_check_text : He.DefD := ⟨("check_text", none), "check_text", "check_text", defArgs s_check_text, defBody s_check_text, defScope s_check_text, [], []⟩
def o_check_flat : He.DefD := ⟨("check_flat", none), "check_flat", "check_flat", defArgs s_check_flat, defBody s_check_flat, defScope s_check_flat, [], []⟩
def o_steps_of : He.DefD := ⟨("steps_of", none), "steps_of", "steps_of", defArgs s_steps_of, defBody s_steps_of, defScope s_steps_of, [], []⟩
def o_spot_of : He.DefD := ⟨("spot_of", none), "spot_of", "spot_of", defArgs s_spot_of, defBody s_spot_of, defScope s_spot_of, [], []⟩
def o_pair_line : He.DefD := ⟨("pair_line", none), "pair_line", "pair_line", defArgs s_pair_line, defBody s_pair_line, defScope s_pair_line, [], []⟩
def o_picture_by : He.DefD := ⟨("picture_by", none), "picture_by", "picture_by", defArgs s_picture_by, defBody s_picture_by, defScope s_picture_by, [], []⟩
def o_whole_told : He.DefD := ⟨("whole_told", none), "whole_told", "whole_told", defArgs s_whole_told, defBody s_whole_told, defScope s_whole_told, [], []⟩
def o_numbers_in : He.DefD := ⟨("numbers_in", none), "numbers_in", "numbers_in", defArgs s_numbers_in, defBody s_numbers_in, defScope s_numbers_in, [], []⟩
def o_weight_at : He.DefD := ⟨("weight_at", none), "weight_at", "weight_at", defArgs s_weight_at, defBody s_weight_at, defScope s_weight_at, [], []⟩
def o_pair_in : He.DefD := ⟨("pair_in", none), "pair_in", "pair_in", defArgs s_pair_in, defBody s_pair_in, defScope s_pair_in, [], []⟩
def o_table_read : He.DefD := ⟨("table_read", none), "table_read", "table_read", defArgs s_table_read, defBody s_table_read, defScope s_table_read, [], []⟩
def o_picture : He.DefD := ⟨("picture", none), "picture", "picture", defArgs s_picture, defBody s_picture, defScope s_picture, [], []⟩
def o_read_picture : He.DefD := ⟨("read_picture", none), "read_picture", "read_picture", defArgs s_read_picture, defBody s_read_picture, defScope s_read_picture, [], []⟩
def o__law_well : He.DefD := ⟨("_law_well", none), "_law_well", "_law_well", defArgs s__law_well, defBody s__law_well, defScope s__law_well, [], []⟩
def o__law_draw : He.DefD := ⟨("_law_draw", none), "_law_draw", "_law_draw", defArgs s__law_draw, defBody s__law_draw, defScope s__law_draw, [], []⟩
def o__law_pick : He.DefD := ⟨("_law_pick", none), "_law_pick", "_law_pick", defArgs s__law_pick, defBody s__law_pick, defScope s__law_pick, [], []⟩
def o__law_axes : He.DefD := ⟨("_law_axes", none), "_law_axes", "_law_axes", defArgs s__law_axes, defBody s__law_axes, defScope s__law_axes, [], []⟩
def o__law_line : He.DefD := ⟨("_law_line", none), "_law_line", "_law_line", defArgs s__law_line, defBody s__law_line, defScope s__law_line, [], []⟩
def o__law_head : He.DefD := ⟨("_law_head", none), "_law_head", "_law_head", defArgs s__law_head, defBody s__law_head, defScope s__law_head, [], []⟩
def o__law_text : He.DefD := ⟨("_law_text", none), "_law_text", "_law_text", defArgs s__law_text, defBody s__law_text, defScope s__law_text, [], []⟩
def o__law_whole : He.DefD := ⟨("_law_whole", none), "_law_whole", "_law_whole", defArgs s__law_whole, defBody s__law_whole, defScope s__law_whole, [], []⟩
def o__law_pair : He.DefD := ⟨("_law_pair", none), "_law_pair", "_law_pair", defArgs s__law_pair, defBody s__law_pair, defScope s__law_pair, [], []⟩
def o__law_read : He.DefD := ⟨("_law_read", none), "_law_read", "_law_read", defArgs s__law_read, defBody s__law_read, defScope s__law_read, [], []⟩
def o__law_number : He.DefD := ⟨("_law_number", none), "_law_number", "_law_number", defArgs s__law_number, defBody s__law_number, defScope s__law_number, [], []⟩
def o__law_drawn : He.DefD := ⟨("_law_drawn", none), "_law_drawn", "_law_drawn", defArgs s__law_drawn, defBody s__law_drawn, defScope s__law_drawn, [], []⟩
def o__law_bent_line : He.DefD := ⟨("_law_bent_line", none), "_law_bent_line", "_law_bent_line", defArgs s__law_bent_line, defBody s__law_bent_line, defScope s__law_bent_line, [], []⟩
def o__law_bent : He.DefD := ⟨("_law_bent", none), "_law_bent", "_law_bent", defArgs s__law_bent, defBody s__law_bent, defScope s__law_bent, [], []⟩
def o__law_heard : He.DefD := ⟨("_law_heard", none), "_law_heard", "_law_heard", defArgs s__law_heard, defBody s__law_heard, defScope s__law_heard, [], []⟩
def o__law_is_right : He.DefD := ⟨("_law_is_right", none), "_law_is_right", "_law_is_right", defArgs s__law_is_right, defBody s__law_is_right, defScope s__law_is_right, [], []⟩
def o_law : He.DefD := ⟨("law", none), "law", "law", defArgs s_law, defBody s_law, defScope s_law, [], []⟩
abbrev si_BadText : Stmt := clsSt (top 31) 0
def oi_BadText : He.DefD := ⟨("BadText", some "__init__"), "__init__", "BadText.__init__", defArgs si_BadText, defBody si_BadText, defScope si_BadText, [], []⟩
def fnD : List He.DefD := [o_is_whole, o_is_row_of, o_is_cartan, o_joined_to, o_all_parts, o_matrix_at, o_dot, o_product_by, o_small_vector, o_sweep, o_determinant_by, o_signs_of, o_flat_vector, o_shown_part, o_kind_of_part, o_all_kinds, o_is_finite, o_is_weighted, o_is_counted, o_is_tabled, o_size_by, o_check_matrix, o_check_finite, o_check_small, o_check_table, o_check_text, o_check_flat, o_steps_of, o_spot_of, o_pair_line, o_picture_by, o_whole_told, o_numbers_in, o_weight_at, o_pair_in, o_table_read, o_picture, o_read_picture, o__law_well, o__law_draw, o__law_pick, o__law_axes, o__law_line, o__law_head, o__law_text, o__law_whole, o__law_pair, o__law_read, o__law_number, o__law_drawn, o__law_bent_line, o__law_bent, o__law_heard, o__law_is_right, o_law, oi_BadText]
def faD : List He.Fa := [.str "DIGITS" "0123456789", .str "END" "</svg>", .str "HEAD" "<svg xmlns=\"http://www.w3.org/2000/svg\" viewBox=\"-300 -300 600 600\">", .int "MOST_NODES" 8, .int "MOST_RANK" 4, .int "MOST_SIZE_pathwork" 1000, .int "MOST_SIZE_picturework" 1000, .int "RANK" 2, .glo "BadText", .glo "KINDS", .free "abs", .free "all", .free "bool", .free "divmod", .free "enumerate", .free "int", .free "isinstance", .free "len", .free "list", .free "range", .free "repr", .free "sorted", .free "str", .free "sum", .free "tuple", .free "zip", .glo "SPOTS", .exm "BadText" "BadText" true, .glo "is_whole", .glo "is_row_of", .glo "is_cartan", .glo "joined_to", .glo "all_parts", .glo "matrix_at", .glo "dot", .glo "product_by", .glo "small_vector", .glo "sweep", .glo "determinant_by", .glo "signs_of", .glo "flat_vector", .glo "shown_part", .glo "kind_of_part", .glo "all_kinds", .glo "is_finite", .glo "is_weighted", .glo "is_counted", .glo "is_tabled", .glo "size_by", .glo "check_matrix", .glo "check_finite", .glo "check_small", .glo "check_table", .glo "check_text", .glo "check_flat", .glo "steps_of", .glo "spot_of", .glo "pair_line", .glo "picture_by", .glo "whole_told", .glo "numbers_in", .glo "weight_at", .glo "pair_in", .glo "table_read", .glo "picture", .glo "read_picture", .glo "_law_well", .glo "_law_draw", .glo "_law_pick", .glo "_law_axes", .glo "_law_line", .glo "_law_head", .glo "_law_text", .glo "_law_whole", .glo "_law_pair", .glo "_law_read", .glo "_law_number", .glo "_law_drawn", .glo "_law_bent_line", .glo "_law_bent", .glo "_law_heard", .glo "_law_is_right", .glo "law"]
def exD (K : PySem.W.Frag) : Bool := (He.eqO (PySem.W.nsIn K mainGlobals "gcd") (some (some (.builtin "math.gcd")))) && ((iniB K "BadText" "spot") && ((kindB K "KINDS" [(1, [102, 105, 110, 105, 116, 101]), (0, [97, 102, 102, 105, 110, 101]), (-1, [105, 110, 100, 101, 102, 105, 110, 105, 116, 101])]) && ((conB K "MARKS" t_MARKS) && (dspB K "SPOTS" t_SPOTS))))
def loose0 : List PySem.Str := ["__name__", "is_whole", "MOST_NODES", "is_row_of", "is_cartan", "joined_to", "all_parts", "matrix_at", "dot", "product_by", "small_vector", "sweep", "determinant_by", "signs_of", "flat_vector", "shown_part", "KINDS", "kind_of_part", "all_kinds", "is_finite", "is_weighted", "is_counted", "is_tabled", "size_by", "WeylError", "InvalidMatrix", "BadText", "NotFinite", "InvalidTable", "TooMany"]
def loose1 : List PySem.Str := ["NoPicture", "check_matrix", "check_finite", "MOST_SIZE_pathwork", "MOST_RANK", "check_small", "check_table", "check_text", "RANK", "MOST_SIZE_picturework", "DIGITS", "HEAD", "END", "MARKS", "SPOTS", "check_flat", "steps_of", "spot_of", "pair_line", "picture_by", "whole_told", "numbers_in", "weight_at", "pair_in", "table_read", "picture", "read_picture", "_law_well", "_law_draw", "_law_pick"]
def loose2 : List PySem.Str := ["_law_axes", "_law_line", "_law_head", "_law_text", "_law_whole", "_law_pair", "_law_read", "_law_number", "_law_drawn", "_law_bent_line", "_law_bent", "_law_heard", "_law_is_right"]
def loose : List PySem.Str := loose0 ++ loose1 ++ loose2
abbrev R : PySem.W.OpenRow := PySem.W.OpenLaw.row PySem.Challenge.rw_weylweights_k57_whole_pictures_there_and
abbrev hk : PySem.W.Hook := hookY 4 faD fnD exD
def ob (s : PySem.W.SharedT) : ObX := obYG 4 faD fnD exD (HandSHeadRun.getT s)
theorem ob_eq (s : PySem.W.SharedT) : ob s = hk.obs s.abs := obYG_eq (HandSHeadRun.getT_eq s)
end K57

set_option Elab.async false
set_option linter.all false
set_option maxRecDepth 100000
set_option maxHeartbeats 0
namespace K57
open PySem PySem.Spec PyProof.Rows L2 DL
theorem runF (w : World) : HandSHeadRun.RunEqI R (PySem.W.view R.prog [0, 84]) hk ob 8000 loose (w.withFollow "special-get-raises" false) := by
  unfold HandSHeadRun.RunEqI
  kernel_rfl
theorem runT (w : World) : HandSHeadRun.RunEqI R (PySem.W.view R.prog [0, 84]) hk ob 8000 loose (w.withFollow "special-get-raises" true) := by
  unfold HandSHeadRun.RunEqI
  kernel_rfl
theorem run (w : World) : HandSHeadRun.RunEqI R (PySem.W.view R.prog [0, 84]) hk ob 8000 loose w := PySem.W.byRow2 "special-get-raises" (P := fun w => HandSHeadRun.RunEqI R (PySem.W.view R.prog [0, 84]) hk ob 8000 loose w) runF runT w
end K57

set_option Elab.async false
set_option linter.all false
set_option maxRecDepth 100000
set_option maxHeartbeats 4000000
namespace DL
open PySem PySem.Spec PyProof.Rows L2
/-- a law's call over the layer, where an exception may be in the air of every world's own -/
theorem walk_law {law : PySem.W.OpenLaw} {most room : Nat} {top : Program} {loose : List Str} {before : (Str → Option Value) → Heap → Prop} {says : World → Heap → Prop} {rec_ : DefRec} {air : World → CXT} {param : Str}
    (h1 : law.most = some most) (h2 : most ≤ sizeLine) (h3 : rec_.params.defaults = []) (h4 : Room room callerA) (h5 : ∀ w H s e s', air w [] H s (fun _ _ _ => False) e s' → False)
    (F : ∀ w mg fa h, says w h → h.Ns mainGlobals mg → mg rec_.name = some (.ref fa) → ∃ K fd sp, PySem.W.Frag.In K h ∧ (∀ s u, BindsTo s fd ⟨[u], []⟩ [(param, u)]) ∧
        (∀ (H : Hp) (a : Addr) (ns : List Int), ns.length ≤ most → Only H → SqL K H a (ns.map V.int) → sp [.ref a] H (fun v _ => v = .bl true) fun _ _ _ => False) ∧ ∀ base, PySem.W.Frag.In K base → base.Ns mainGlobals mg → FnOkG law.prog w K mg base (air w) room fa fd [param] sp) :
    PySem.W.WalkO top loose before says law.row.toRowW rec_ [] (fun f vs => PySem.call f vs) := by
  refine Att.attach_call h1 h3 fun w s0 s1 mg mb fa o pm cd doc a vs ns good said so sd scd at_ ob ii le gens => ?_
  obtain ⟨K, fd, sp, inK, binds, holds, ok⟩ := F w mg fa _ said good.T.g at_
  have le' : ns.length ≤ sizeLine := Nat.le_trans le h2
  exact law_callG inK good.T.g good.T.b good.T.builtins good.T.nolimit gens ob ii le' h4 ok binds (fun H only sq => holds H a ns le only sq) (fun H e s' => h5 w H s1 e s')
end DL

set_option Elab.async false
set_option linter.all false
set_option maxRecDepth 100000
set_option maxHeartbeats 4000000
namespace DL
open PySem PySem.Spec PyProof.Rows L2
section
variable {ρ : DL.Env} {m : Mem} {d e : D} {n : Nat} {o : Option D}
@[simp] theorem eVar_z : eVar 0 (some d :: ρ) m = .ok d m := rfl
@[simp] theorem eVar_s : eVar (n + 1) (o :: ρ) m = eVar n ρ m := rfl
@[simp] theorem eC_ap : eC d ρ m = .ok d m := rfl
@[simp] theorem eOp_ap {o : D → D → Mem → OAns} {f g : FX} : eOp o f g ρ m = (f ρ m).bind fun a m1 => (g ρ m1).bind fun b m2 => liftO (o a b m2) := rfl
@[simp] theorem eUn_ap {o : D → Mem → OAns} {f : FX} : eUn o f ρ m = (f ρ m).bind fun a m1 => liftO (o a m1) := rfl
@[simp] theorem eAnd_ap {f g : FX} : eAnd f g ρ m = (f ρ m).bind fun a m1 => match a with
  | .bl true => g ρ m1
  | .bl false => .ok (.bl false) m1
  | _ => .bad := rfl
@[simp] theorem eOr_ap {f g : FX} : eOr f g ρ m = (f ρ m).bind fun a m1 => match a with
  | .bl false => g ρ m1
  | .bl true => .ok (.bl true) m1
  | _ => .bad := rfl
@[simp] theorem eNot_ap {f : FX} : eNot f ρ m = (f ρ m).bind fun a m1 => match a with
  | .bl b => .ok (.bl (!b)) m1
  | _ => .bad := rfl
@[simp] theorem eIf_ap {t : FB} {f g : FX} : eIf t f g ρ m = (t ρ m).bind fun b m1 => match b with
  | true => f ρ m1
  | false => g ρ m1 := rfl
@[simp] theorem bAnd_ap {f g : FB} : bAnd f g ρ m = (f ρ m).bind fun b m1 => match b with
  | true => g ρ m1
  | false => .ok false m1 := rfl
@[simp] theorem bOr_ap {f g : FB} : bOr f g ρ m = (f ρ m).bind fun b m1 => match b with
  | true => .ok true m1
  | false => g ρ m1 := rfl
@[simp] theorem bNot_ap {f : FB} : bNot f ρ m = (f ρ m).bind fun b m1 => .ok (!b) m1 := rfl
@[simp] theorem bYes_ap : bYes ρ m = .ok true m := rfl
@[simp] theorem aNil_ap : aNil ρ m = .ok [] m := rfl
@[simp] theorem aCons_ap {f : FX} {g : FL} : aCons f g ρ m = (f ρ m).bind fun d m1 => (g ρ m1).bind fun ds m2 => .ok (d :: ds) m2 := rfl
@[simp] theorem bTru_ap {f : FX} : bTru f ρ m = (f ρ m).bind fun d m1 => match truD d m1 with
  | some b => .ok b m1
  | none => .bad := rfl
@[simp] theorem truD_bl {b : Bool} : truD (.bl b) m = some b := rfl
@[simp] theorem bOf_ap {f : FX} : bOf f ρ m = (f ρ m).bind fun d m1 => match d with
  | .bl b => .ok b m1
  | _ => .bad := rfl
@[simp] theorem eTup_ap {l : FL} : eTup l ρ m = (l ρ m).bind fun ds m1 => match fits ds.length with
  | true => .ok (.tup ds) m1
  | false => .bad := rfl
@[simp] theorem eLst_ap {l : FL} : eLst l ρ m = (l ρ m).bind fun ds m1 => match fits ds.length with
  | true => .ok (.ref m1.length) (m1 ++ [.lst ds])
  | false => .bad := rfl
@[simp] theorem eCall_ap {o : List D → Mem → OAns} {l : FL} : eCall o l ρ m = (l ρ m).bind fun ds m1 => liftO (o ds m1) := rfl
@[simp] theorem eMt_ap {T : String} {o : D → List D → Mem → OAns} {f : FX} {l : FL} : eMt T o f l ρ m = (f ρ m).bind fun d m1 => match tyD T d m1 with
  | true => (l ρ m1).bind fun ds m2 => liftO (o d ds m2)
  | false => .bad := rfl
@[simp] theorem eFn_ap {F : List D → Mem → Res D} {l : FL} : eFn F l ρ m = (l ρ m).bind fun ds m1 => callS F ds m1 := rfl
@[simp] theorem eCallL_ap {o : List D → Mem → OAns} {g : FQ} : eCallL o g ρ m = (g ρ m).bind fun ds m1 => liftO (o ds m1) := rfl
@[simp] theorem eNew_ap {f : FQ} : eNew f ρ m = (f ρ m).bind fun ds m1 => .ok (.ref m1.length) (m1 ++ [.lst ds]) := rfl
@[simp] theorem qVal_ap {f : FX} : qVal f ρ m = (f ρ m).bind fun d m1 => match lstD d m1 with
  | some xs => .ok xs m1
  | none => .bad := rfl
@[simp] theorem eIsi_ap {c : Nat} {f : FX} : eIsi c f ρ m = (f ρ m).bind fun d m1 => match tyNo d m1 with
  | some a => .ok (.bl (isNo a c)) m1
  | none => .bad := rfl
@[simp] theorem eJoin_ap {f : FX} {g : FQ} : eJoin f g ρ m = (f ρ m).bind fun d m1 => match strD d with
  | some S => (g ρ m1).bind fun ds m2 => liftO (qJoin S ds m2)
  | none => .bad := rfl
@[simp] theorem eDict0_ap {t : Bool} : eDict0 t ρ m = .ok (.ref m.length) (m ++ [.dic t []]) := rfl
@[simp] theorem pNo_ap : pNo ρ m = .ok none m := rfl
@[simp] theorem pSo_ap {f : FX} : pSo f ρ m = (f ρ m).bind fun d m1 => match intD d with
  | some i => .ok (some i) m1
  | none => .bad := rfl
@[simp] theorem eSl_ap {f : FX} {a b : FP0} : eSl f a b ρ m = (f ρ m).bind fun d m1 => (a ρ m1).bind fun lo m2 => (b ρ m2).bind fun hi m3 => liftO (oSl d lo hi m3) := rfl
@[simp] theorem eChain_ap {o o' : D → D → Mem → OAns} {f g h : FX} : eChain o o' f g h ρ m = (f ρ m).bind fun a m1 => (g ρ m1).bind fun b m2 => (liftO (o a b m2)).bind fun z m3 => match z with
  | .bl true => (h ρ m3).bind fun c m4 => liftO (o' b c m4)
  | .bl false => .ok (.bl false) m3
  | _ => .bad := rfl
/-- statements -/
def seqK (r : SRes) (g : FS) : SRes := match r with
  | some (.nx ρ1, m1) => g ρ1 m1
  | r => r
@[simp] theorem seqK_nx {g : FS} : seqK (some (.nx ρ, m)) g = g ρ m := rfl
@[simp] theorem seqK_rt {g : FS} : seqK (some (.rt d, m)) g = some (.rt d, m) := rfl
@[simp] theorem seqK_bk {g : FS} : seqK (some (.bk ρ, m)) g = some (.bk ρ, m) := rfl
@[simp] theorem seqK_ct {g : FS} : seqK (some (.ct ρ, m)) g = some (.ct ρ, m) := rfl
@[simp] theorem seqK_ex {g : FS} {c : Nat} : seqK (some (.ex c d ρ, m)) g = some (.ex c d ρ, m) := rfl
@[simp] theorem sSeq_ap {f g : FS} : sSeq f g ρ m = seqK (f ρ m) g := rfl
@[simp] theorem sNop_ap : sNop ρ m = some (.nx ρ, m) := rfl
@[simp] theorem sBrk_ap : sBrk ρ m = some (.bk ρ, m) := rfl
@[simp] theorem sCnt_ap : sCnt ρ m = some (.ct ρ, m) := rfl
@[simp] theorem sRet_ap {f : FX} : sRet f ρ m = (f ρ m).toS ρ fun d m1 => some (.rt d, m1) := rfl
@[simp] theorem sRetN_ap : sRetN ρ m = some (.rt .non, m) := rfl
@[simp] theorem sExp_ap {f : FX} : sExp f ρ m = (f ρ m).toS ρ fun _ m1 => some (.nx ρ, m1) := rfl
@[simp] theorem sIf_ap {t : FB} {f g : FS} : sIf t f g ρ m = (t ρ m).toS ρ fun b m1 => match b with
  | true => f ρ m1
  | false => g ρ m1 := rfl
@[simp] theorem sSet_ap {i : Nat} {f : FX} : sSet i f ρ m = (f ρ m).toS ρ fun d m1 => some (.nx (ρ.set i (some d)), m1) := rfl
@[simp] theorem sPar_ap {i j : Nat} {f g : FX} : sPar i j f g ρ m = (f ρ m).toS ρ fun d m1 => (g ρ m1).toS ρ fun e m2 => some (.nx ((ρ.set i (some d)).set j (some e)), m2) := rfl
@[simp] theorem sAsg_ap {f : FX} {g : FT0} : sAsg f g ρ m = (f ρ m).toS ρ fun d m1 => match g d ρ m1 with
  | some (ρ1, m2) => some (.nx ρ1, m2)
  | none => none := rfl
@[simp] theorem sRaise0_ap {c : Nat} : sRaise0 c ρ m = some (.ex c .non ρ, m) := rfl
@[simp] theorem gNam_ap {i : Nat} : gNam i d ρ m = some (ρ.set i (some d), m) := rfl
@[simp] theorem gIx_ap {f g : FX} : gIx f g e ρ m = match f ρ m with
  | .ok d m1 => (match g ρ m1 with
    | .ok i m2 => (match setIx d i e m2 with
      | some m3 => some (ρ, m3)
      | none => none)
    | _ => none)
  | _ => none := rfl
@[simp] theorem gsNil_ap : gsNil [] ρ m = some (ρ, m) := rfl
@[simp] theorem gsCons_ap {g : FT0} {h : FT0s} {r : List D} : gsCons g h (d :: r) ρ m = match g d ρ m with
    | some (ρ1, m1) => h r ρ1 m1
    | none => none := rfl
@[simp] theorem gTp_ap {h : FT0s} {xs : List D} : gTp h (.tup xs) ρ m = h xs ρ m := rfl
def tryK (r : SRes) (cat : Nat → Option Bool) (g : FS) : SRes := match r with
  | some (.ex c d ρ1, m1) => (match cat c with
    | some true => noEx (g ρ1 m1)
    | some false => some (.ex c d ρ1, m1)
    | none => none)
  | r => r
@[simp] theorem sTry_ap {f g : FS} {cat : Nat → Option Bool} : sTry f cat g ρ m = tryK (f ρ m) cat g := rfl
/-- a def's end -/
def retF : SRes → Res D
    | some (.rt d, m') => .ok d m'
    | some (.nx _, m') => .ok .non m'
    | some (.ex c d _, m') => .exc c d m'
    | _ => .bad
@[simp] theorem retF_rt : retF (some (.rt d, m)) = .ok d m := rfl
@[simp] theorem retF_nx : retF (some (.nx ρ, m)) = .ok .non m := rfl
@[simp] theorem retF_ex {c : Nat} : retF (some (.ex c d ρ, m)) = .exc c d m := rfl
@[simp] theorem pName_ap {i : Nat} : pName i m d = some [(i, d)] := rfl
@[simp] theorem pTup_ap {qs : List Pat} {xs : List D} : pTup qs m (.tup xs) = pList qs m xs := rfl
@[simp] theorem pList_nil : pList [] m [] = some [] := rfl
@[simp] theorem pList_cons {q : Pat} {qs : List Pat} {ds : List D} : pList (q :: qs) m (d :: ds) = match q m d, pList qs m ds with
    | some a, some b => some (a ++ b)
    | _, _ => none := rfl
@[simp] theorem setsD_nil : setsD ρ [] = ρ := rfl
@[simp] theorem setsD_cons {b : Nat × D} {bs : List (Nat × D)} : setsD ρ (b :: bs) = setsD (ρ.set b.1 (some b.2)) bs := rfl
@[simp] theorem wipeD_nil : wipeD ρ [] = ρ := rfl
@[simp] theorem wipeD_cons {v : Nat} {vs : List Nat} : wipeD ρ (v :: vs) = (wipeD ρ vs).set v none := rfl
theorem sFor_ap {it : FI} {q : Pat} {b : FS} : sFor it q b ρ m = (it ρ m).toS ρ fun s m1 => forGo s.nx q b (s.n + 1) 0 ρ m1 := rfl
theorem lcD_ap {it : FI} {q : Pat} {vs : List Nat} {t : FB} {f : FX} : lcD it q vs t f ρ m = (it ρ m).bind fun s m1 => lcGo s.nx q vs t f ρ (s.n + 1) 0 [] m1 := rfl
end
/-! operations at plain values -/
section
variable {m : Mem} {i j : Int} {n : Nat} {xs : List D} {a b : Bool}
@[simp] theorem oAdd_int : oAdd (.int i) (.int j) m = some (D.int (i + j), m) := rfl
@[simp] theorem oSub_int : oSub (.int i) (.int j) m = some (D.int (i - j), m) := rfl
@[simp] theorem oNeg_int : oNeg (.int i) m = some (D.int (-i), m) := rfl
theorem oMul_int (h : mulOk i j = true) : oMul (.int i) (.int j) m = some (D.int (i * j), m) := by
  show (match mulOk i j with | true => some (D.int (i * j), m) | false => none) = _
  rw [h]
@[simp] theorem oLt_int : oLt (.int i) (.int j) m = some (.bl (decide (i < j)), m) := rfl
@[simp] theorem oGt_int : oGt (.int i) (.int j) m = some (.bl (decide (j < i)), m) := rfl
@[simp] theorem oLe_int : oLe (.int i) (.int j) m = some (.bl (decide (i ≤ j)), m) := rfl
@[simp] theorem oGe_int : oGe (.int i) (.int j) m = some (.bl (decide (j ≤ i)), m) := rfl
@[simp] theorem oEq_int : oEq (.int i) (.int j) m = some (.bl (i == j), m) := rfl
@[simp] theorem oNe_int : oNe (.int i) (.int j) m = some (.bl (!(i == j)), m) := rfl
theorem oMod_int (h : 0 < j) : oMod (.int i) (.int j) m = some (D.int (i % j), m) := by
  show (match decide (0 < j) with | true => some (D.int (i % j), m) | false => none) = _
  rw [decide_eq_true h]
theorem oFdiv_int (h : divOk j = true) : oFdiv (.int i) (.int j) m = some (D.int (i / j), m) := by
  show (match divOk j with | true => some (D.int (i / j), m) | false => none) = _
  rw [h]
@[simp] theorem vInt_int : vInt (.int i) m = some (D.int i, m) := rfl
@[simp] theorem one_ap {o : D → Mem → OAns} {d : D} : one o [d] m = o d m := rfl
@[simp] theorem two_ap {o : D → D → Mem → OAns} {d e : D} : two o [d, e] m = o d e m := rfl
@[simp] theorem vLen_tup : vLen (.tup xs) m = some (D.int xs.length, m) := rfl
@[simp] theorem vLen_ktup : vLen (.ktup xs) m = some (D.int xs.length, m) := rfl
theorem vLen_lst (h : m[n]? = some (.lst xs)) : vLen (.ref n) m = some (D.int xs.length, m) := by
  simp [vLen, lenD, itemsS, h]
@[simp] theorem qTup_ap : qTup xs m = some (.tup xs, m) := rfl
@[simp] theorem qTupP_ap : qTupP xs m = some (.ktup xs, m) := rfl
@[simp] theorem tyNo_int : tyNo (.int i) m = some 2 := rfl
@[simp] theorem tyNo_tup : tyNo (.tup xs) m = some 4 := rfl
@[simp] theorem tyNo_ktup : tyNo (.ktup xs) m = some 4 := rfl
@[simp] theorem isNo_same (c : Nat) : isNo c c = true := by simp [isNo, Nat.beq_refl]
theorem ixN_nat {n k : Nat} (hk : k < n) : ixN n (k : Int) = some k := by
  unfold ixN
  rw [if_pos (by omega), if_pos (by omega)]; simp
theorem atI_nat {α : Type} {xs : List α} {i : Int} {k : Nat} (h : i = k) (hk : k < xs.length) : atI xs i = xs[k]? := by
  subst h
  show (ixN xs.length (k : Int)).bind _ = _
  rw [ixN_nat hk]; rfl
theorem oIx_tup {v : D} (h : atI xs i = some v) : oIx (.tup xs) (.int i) m = some (v, m) := by
  show (match atI xs i with | some v => some (v, m) | none => none) = _
  rw [h]
theorem oIx_ktup {v : D} (h : atI xs i = some v) : oIx (.ktup xs) (.int i) m = some (v, m) := by
  show (match atI xs i with | some v => some (v, m) | none => none) = _
  rw [h]
theorem oIx_lst {v : D} (h0 : m[n]? = some (.lst xs)) (h : atI xs i = some v) : oIx (.ref n) (.int i) m = some (v, m) := by
  simp [oIx, dicR, refD, h0, itemsS, intD, h]
end
end DL

set_option Elab.async false
set_option linter.all false
set_option maxRecDepth 100000
set_option maxHeartbeats 4000000
namespace DL
open PySem PySem.Spec PyProof.Rows L2
section
variable {m m1 : Mem} {i j : Int} {n k : Nat} {xs ds : List D} {d e v r : D} {F : List D → Mem → Res D}
theorem callS_pure (hp : D.pures ds = true) (h : F ds [] = .ok r m1) (hr : D.pure r = true) : callS F ds m = .ok r m := by
  simp [callS, hp, h, hr]
theorem callS_exc {c : Nat} (hp : D.pures ds = true) (h : F ds [] = .exc c d m1) (hr : D.pure d = true) : callS F ds m = .exc c d m := by
  simp [callS, hp, h, hr]
theorem callS_mem (hp : D.pures ds = false) : callS F ds m = F ds m := by
  simp [callS, hp]
theorem callS_ref (hp : D.pures ds = true) (h : F ds [] = .ok (.ref k) m1) : callS F ds m = .ok (.ref (m.length + k)) (m ++ m1.map (MO.sh m.length)) := by
  simp [callS, hp, h, D.pure, D.sh]
@[simp] theorem pures_nil : D.pures [] = true := rfl
@[simp] theorem pures_cons : D.pures (d :: ds) = (D.pure d && D.pures ds) := rfl
@[simp] theorem pure_int : D.pure (.int i) = true := rfl
@[simp] theorem pure_bl {b : Bool} : D.pure (.bl b) = true := rfl
@[simp] theorem pure_non : D.pure .non = true := rfl
@[simp] theorem pure_str {s : List Nat} : D.pure (.str s) = true := rfl
@[simp] theorem pure_tup : D.pure (.tup xs) = D.pures xs := rfl
@[simp] theorem pure_ktup : D.pure (.ktup xs) = D.pures xs := rfl
@[simp] theorem pure_rol : D.pure (.rol xs) = D.pures xs := rfl
@[simp] theorem pure_ref : D.pure (.ref n) = false := rfl
theorem pures_map {α : Type} {L : List α} {f : α → D} (h : ∀ a ∈ L, D.pure (f a) = true) : D.pures (L.map f) = true := by
  induction L with
  | nil => rfl
  | cons a L ih => simp [h a (by simp), ih fun b hb => h b (by simp [hb])]
@[simp] theorem fits_le : fits n = decide (n ≤ 16777216) := by
  unfold fits
  by_cases h : n ≤ 16777216
  · rw [decide_eq_true h]; exact Nat.ble_eq_true_of_le h
  · rw [decide_eq_false h]
    cases q : Nat.ble n 16777216 with
    | false => rfl
    | true => exact absurd (Nat.le_of_ble_eq_true q) h
/-! indices -/
@[simp] theorem atI_0 {α : Type} {a : α} {l : List α} : atI (a :: l) 0 = some a := by
  exact (atI_nat (i := 0) (k := 0) rfl (by simp)).trans rfl
@[simp] theorem atI_1 {α : Type} {a b : α} {l : List α} : atI (a :: b :: l) 1 = some b := by
  exact (atI_nat (i := 1) (k := 1) rfl (by simp)).trans rfl
@[simp] theorem atI_2 {α : Type} {a b c : α} {l : List α} : atI (a :: b :: c :: l) 2 = some c := by
  exact (atI_nat (i := 2) (k := 2) rfl (by simp)).trans rfl
@[simp] theorem atI_3 {α : Type} {a b c d : α} {l : List α} : atI (a :: b :: c :: d :: l) 3 = some d := by
  exact (atI_nat (i := 3) (k := 3) rfl (by simp)).trans rfl
@[simp] theorem ixN_0 : ixN (n + 1) 0 = some 0 := ixN_nat (k := 0) (by omega)
@[simp] theorem ixN_1 : ixN (n + 2) 1 = some 1 := ixN_nat (k := 1) (by omega)
@[simp] theorem ixN_2 : ixN (n + 3) 2 = some 2 := ixN_nat (k := 2) (by omega)
@[simp] theorem ixN_3 : ixN (n + 4) 3 = some 3 := ixN_nat (k := 3) (by omega)
@[simp] theorem oIx_tupM : oIx (.tup xs) (.int i) m = match atI xs i with | some v => some (v, m) | none => none := rfl
@[simp] theorem oIx_ktupM : oIx (.ktup xs) (.int i) m = match atI xs i with | some v => some (v, m) | none => none := rfl
def optK (o : Option D) (m : Mem) : OAns := match o with
  | some v => some (v, m)
  | none => none
@[simp] theorem optK_some : optK (some v) m = some (v, m) := rfl
def refIx (o : Option MO) (e : D) (m : Mem) : OAns := match o with
  | some (.lst xs) => (match intD e with
    | some i => optK (atI xs i) m
    | none => none)
  | some (.dic t kvs) => (match isK t e with
    | true => optK (valD t e kvs) m
    | false => none)
  | some (.lck t kvs) => (match isK t e with
    | true => optK (valD t e kvs) m
    | false => none)
  | _ => none
@[simp] theorem oIx_ref : oIx (.ref n) e m = refIx m[n]? e m := by
  unfold oIx dicR refD itemsS refIx optK
  simp only <;> (cases h : m[n]? with
  | none => cases intD e <;> rfl
  | some o => cases o <;> (try rfl) <;> (cases intD e <;> rfl))
@[simp] theorem refIx_lst : refIx (some (.lst xs)) (.int i) m = optK (atI xs i) m := rfl
theorem refIx_dic {t : Bool} {kvs : List (D × D)} (h : isK t e = true) : refIx (some (.dic t kvs)) e m = optK (valD t e kvs) m := by
  simp [refIx, h]
theorem refIx_lck {t : Bool} {kvs : List (D × D)} (h : isK t e = true) : refIx (some (.lck t kvs)) e m = optK (valD t e kvs) m := by
  simp [refIx, h]
@[simp] theorem intD_int : intD (.int i) = some i := rfl
@[simp] theorem strD_str {s : List Nat} : strD (.str s) = some s := rfl
def lstO (o : Option MO) : Option (List D) := match o with
  | some (.lst xs) => some xs
  | _ => none
@[simp] theorem lstO_lst : lstO (some (.lst xs)) = some xs := rfl
@[simp] theorem lstD_ref : lstD (.ref n) m = lstO m[n]? := rfl
@[simp] theorem mlst_ref : mlst (.ref n) m = lstO m[n]? := rfl
def tyO (T : String) (o : Option MO) : Bool := match o with
  | some (.lst _) => T == "list"
  | some (.dic _ _) => T == "dict"
  | _ => false
@[simp] theorem tyD_ref {T : String} : tyD T (.ref n) m = tyO T m[n]? := by
  cases h : m[n]? with
  | none => simp [tyD, tyO, h]
  | some o => cases o <;> simp [tyD, tyO, h]
@[simp] theorem tyO_lst : tyO "list" (some (.lst xs)) = true := by simp [tyO]
@[simp] theorem tyO_dic {t : Bool} {kvs : List (D × D)} : tyO "dict" (some (.dic t kvs)) = true := by simp [tyO]
def appO (o : Option MO) (n : Nat) (y : D) (m : Mem) : OAns := match o with
    | some (.lst xs) => (match fits (xs.length + 1) with
      | true => some (.non, m.set n (.lst (xs ++ [y])))
      | false => none)
    | _ => none
@[simp] theorem mApp_ref {y : D} : mApp (.ref n) [y] m = appO m[n]? n y m := by
  unfold mApp appO refD
  simp only <;> (cases m[n]? with
  | none => rfl
  | some o => cases o <;> rfl)
theorem appO_lst {y : D} (h : xs.length + 1 ≤ 16777216) : appO (some (.lst xs)) n y m = some (.non, m.set n (.lst (xs ++ [y]))) := by
  simp [appO, h]
def getO (o : Option MO) (d z : D) (m : Mem) : OAns := match o with
    | some (.dic t kvs) => (match isK t d with
      | true => some ((valD t d kvs).getD z, m)
      | false => none)
    | some (.lck t kvs) => (match isK t d with
      | true => some ((valD t d kvs).getD z, m)
      | false => none)
    | _ => none
@[simp] theorem mGet_ref {z : D} : mGet (.ref n) [d, z] m = getO m[n]? d z m := by
  unfold mGet dicR refD getO
  simp only <;> (cases m[n]? with
  | none => rfl
  | some o =>
    cases o with
    | lst xs => rfl
    | ins c fs => rfl
    | dic t kvs => cases h : isK t d <;> cases h2 : valD t d kvs <;> simp [h, h2]
    | lck t kvs => cases h : isK t d <;> cases h2 : valD t d kvs <;> simp [h, h2])
theorem getO_dic {t : Bool} {kvs : List (D × D)} {z : D} (h : isK t d = true) : getO (some (.dic t kvs)) d z m = some ((valD t d kvs).getD z, m) := by simp [getO, h]
theorem getO_lck {t : Bool} {kvs : List (D × D)} {z : D} (h : isK t d = true) : getO (some (.lck t kvs)) d z m = some ((valD t d kvs).getD z, m) := by simp [getO, h]
def setO (o : Option MO) (n : Nat) (e v : D) (m : Mem) : Option Mem := match o with
    | some (.lst xs) => (match intD e with
      | some i => (match ixN xs.length i with
        | some j => some (m.set n (.lst (xs.set j v)))
        | none => none)
      | none => none)
    | some (.dic t kvs) => (match isK t e && fits (kvs.length + 1) with
      | true => some (m.set n (.dic t (putD t kvs e v)))
      | false => none)
    | _ => none
@[simp] theorem setIx_ref : setIx (.ref n) e v m = setO m[n]? n e v m := rfl
@[simp] theorem setO_lst : setO (some (.lst xs)) n (.int i) v m = match ixN xs.length i with
        | some j => some (m.set n (.lst (xs.set j v)))
        | none => none := rfl
theorem setO_dic {t : Bool} {kvs : List (D × D)} (h : isK t e = true) (h2 : kvs.length + 1 ≤ 16777216) : setO (some (.dic t kvs)) n e v m = some (m.set n (.dic t (putD t kvs e v))) := by simp [setO, h, h2]
@[simp] theorem newL_ap : newL xs m = some (.ref m.length, m ++ [.lst xs]) := rfl
@[simp] theorem lstD_rol : lstD (.rol xs) m = some xs := rfl
@[simp] theorem refD_ref : refD (.ref n) = some n := rfl
@[simp] theorem refD_tup : refD (.tup xs) = none := rfl
@[simp] theorem refD_ktup : refD (.ktup xs) = none := rfl
@[simp] theorem refD_rol : refD (.rol xs) = none := rfl
/-! memory -/
theorem mem_lt {o : MO} (h : m[n]? = some o) : n < m.length := (List.getElem?_eq_some_iff.mp h).1
theorem mem_app {o : MO} (h : m[n]? = some o) : (m ++ m1)[n]? = some o := by
  rw [List.getElem?_append_left (mem_lt h)]; exact h
theorem mem_new {o : MO} : (m ++ [o])[m.length]? = some o := by simp
theorem mem_set {o u : MO} (h : m[n]? = some o) : (m.set n u)[n]? = some u := by
  rw [List.getElem?_set_self (mem_lt h)]
theorem mem_ne {u : MO} (h : n ≠ k) : (m.set k u)[n]? = m[n]? := by
  rw [List.getElem?_set_ne (Ne.symm h)]
/-- what stood before stays, but for one -/
structure Fr (w : Nat) (m m' : Mem) : Prop where
  len : m.length ≤ m'.length
  at_ : ∀ n, n < m.length → n ≠ w → m'[n]? = m[n]?
theorem Fr.refl {w : Nat} : Fr w m m := ⟨Nat.le_refl _, fun _ _ _ => rfl⟩
theorem Fr.trans {w : Nat} {a b c : Mem} (h : Fr w a b) (g : Fr w b c) : Fr w a c :=
  ⟨Nat.le_trans h.len g.len, fun n hn hw => (g.at_ n (Nat.lt_of_lt_of_le hn h.len) hw).trans (h.at_ n hn hw)⟩
theorem Fr.get {w : Nat} {a b : Mem} {o : MO} (h : Fr w a b) (e : a[n]? = some o) (hw : n ≠ w) : b[n]? = some o := by
  rw [h.at_ n (mem_lt e) hw]; exact e
theorem Fr.app {w : Nat} {a b : Mem} : Fr w a (a ++ b) := ⟨by simp, fun n hn _ => List.getElem?_append_left hn⟩
theorem Fr.set {w : Nat} {a : Mem} {o : MO} : Fr w a (a.set w o) := ⟨by simp, fun n _ hw => mem_ne hw⟩
/-! sources -/
theorem atN_lt {xs : List D} {i : Nat} (h : i < xs.length) : atN xs i = .item xs[i] := by
  unfold atN; rw [List.getElem?_eq_getElem h]
theorem atN_end {xs : List D} : atN xs xs.length = .stop := by
  unfold atN; simp [Nat.beq_refl]
theorem atN_fin {xs : List D} {i : Nat} (h : xs.length = i) : atN xs i = .stop := by
  subst h; exact atN_end
theorem seq_tup : seqN (.tup xs) = fun i _ => atN xs i := rfl
theorem seq_ktup : seqN (.ktup xs) = fun i _ => atN xs i := rfl
theorem seq_rol : seqN (.rol xs) = fun i _ => atN xs i := rfl
theorem seq_lst (h : m[n]? = some (.lst xs)) (i : Nat) : seqN (.ref n) i m = atN xs i := by
  unfold seqN; simp only [h]
def rgL (lo c : Int) (n : Nat) : List D := (List.range n).map fun i => .int (lo + (i : Nat) * c)
theorem rg_at {lo c : Int} {n i : Nat} (h : i ≤ n) : rgN lo c n i m = atN (rgL lo c n) i := by
  unfold rgN rgL
  by_cases z : i < n
  · rw [atN_lt (by simpa using z)]
    have : Nat.blt i n = true := by simpa [Nat.blt_eq] using z
    rw [this]; simp
  · have e : i = n := by omega
    subst e
    have : Nat.blt i i = false := by
      cases q : Nat.blt i i with
      | false => rfl
      | true => rw [Nat.blt_eq] at q; omega
    rw [this]
    have := @atN_end ((List.range i).map fun (j : Nat) => D.int (lo + (j : Int) * c))
    simpa using this.symm
theorem zp_at {xs ys : List D} {i : Nat} (h : i ≤ xs.length) (h2 : i ≤ ys.length) : zpC (atN xs i) (atN ys i) = atN (List.zipWith (fun a b => .tup [a, b]) xs ys) i := by
  by_cases a : i < xs.length
  · by_cases b : i < ys.length
    · rw [atN_lt a, atN_lt b, atN_lt (by simp; omega)]; simp [zpC]
    · rw [atN_lt a, atN_fin (i := i) (by omega : ys.length = i), atN_fin (by simp; omega)]; rfl
  · by_cases b : i < ys.length
    · rw [atN_lt b, atN_fin (i := i) (by omega : xs.length = i), atN_fin (by simp; omega)]; rfl
    · rw [atN_fin (i := i) (by omega : xs.length = i), atN_fin (i := i) (by omega : ys.length = i), atN_fin (by simp; omega)]; rfl
theorem en_at {xs : List D} {i : Nat} (h : i ≤ xs.length) : enC i (atN xs i) = atN ((List.range xs.length).zipWith (fun (j : Nat) d => .tup [.int j, d]) xs) i := by
  by_cases a : i < xs.length
  · rw [atN_lt a, atN_lt (by simpa using a)]; simp [enC]
  · rw [atN_fin (i := i) (by omega : xs.length = i), atN_fin (by simp; omega)]; rfl
end
/-! walks -/
theorem forGo_inv {s : Nxt} {q : Pat} {b : FS} {n : Nat} (I : Nat → DL.Env → Mem → Prop)
    (stop : ∀ ρ m, I n ρ m → s n m = .stop)
    (step : ∀ i ρ m, i < n → I i ρ m → ∃ d bs ρ' m', s i m = .item d ∧ q m d = some bs ∧ b (setsD ρ bs) m = some (.nx ρ', m') ∧ I (i + 1) ρ' m') :
    ∀ (j k i : Nat) (ρ : DL.Env) (m : Mem), i + j = n → j < k → I i ρ m → ∃ ρ' m', forGo s q b k i ρ m = some (.nx ρ', m') ∧ I n ρ' m'
  | 0, k + 1, i, ρ, m, e, _, h => by
    have e : i = n := e
    subst e
    exact ⟨ρ, m, by unfold forGo; rw [stop ρ m h], h⟩
  | j + 1, k + 1, i, ρ, m, e, hk, h => by
    obtain ⟨d, bs, ρ', m', e1, e2, e3, h'⟩ := step i ρ m (by omega) h
    obtain ⟨ρ2, m2, e4, h2⟩ := forGo_inv I stop step j k (i + 1) ρ' m' (by omega) (by omega) h'
    refine ⟨ρ2, m2, ?_, h2⟩
    rw [forGo, e1]
    simp only [e2, e3]
    exact e4
theorem lcGo_inv {s : Nxt} {q : Pat} {vs : List Nat} {t : FB} {f : FX} {ρ : DL.Env} {n : Nat} (I : Nat → List D → Mem → Prop)
    (stop : ∀ acc m, I n acc m → s n m = .stop)
    (step : ∀ i acc m, i < n → I i acc m → ∃ d bs, s i m = .item d ∧ q m d = some bs ∧ okIx vs bs = true ∧
      ((∃ m1 y m2, t (setsD (wipeD ρ vs) bs) m = .ok true m1 ∧ f (setsD (wipeD ρ vs) bs) m1 = .ok y m2 ∧ acc.length + 1 ≤ 16777216 ∧ I (i + 1) (acc ++ [y]) m2) ∨
       (∃ m1, t (setsD (wipeD ρ vs) bs) m = .ok false m1 ∧ I (i + 1) acc m1))) :
    ∀ (j k i : Nat) (acc : List D) (m : Mem), i + j = n → j < k → I i acc m → ∃ acc' m', lcGo s q vs t f ρ k i acc m = .ok acc' m' ∧ I n acc' m'
  | 0, k + 1, i, acc, m, e, _, h => by
    have e : i = n := e
    subst e
    exact ⟨acc, m, by unfold lcGo; rw [stop acc m h], h⟩
  | j + 1, k + 1, i, acc, m, e, hk, h => by
    obtain ⟨d, bs, e1, e2, e3, h'⟩ := step i acc m (by omega) h
    rcases h' with ⟨m1, y, m2, e4, e5, e6, h'⟩ | ⟨m1, e4, h'⟩
    · obtain ⟨acc2, m3, e7, h2⟩ := lcGo_inv I stop step j k (i + 1) (acc ++ [y]) m2 (by omega) (by omega) h'
      refine ⟨acc2, m3, ?_, h2⟩
      rw [lcGo, e1]
      simp only [e2, e3, e4, e5, fits_le, decide_eq_true e6]
      exact e7
    · obtain ⟨acc2, m3, e7, h2⟩ := lcGo_inv I stop step j k (i + 1) acc m1 (by omega) (by omega) h'
      refine ⟨acc2, m3, ?_, h2⟩
      rw [lcGo, e1]
      simp only [e2, e3, e4]
      exact e7
/-- a comprehension that writes nothing -/
theorem lcGo_filter {α : Type} {s : Nxt} {q : Pat} {vs : List Nat} {t : FB} {f : FX} {ρ : DL.Env} {m : Mem} {L : List α} {enc : α → D} {p : α → Bool} {g : α → D} {k : Nat}
    (hs : ∀ i, i ≤ L.length → s i m = atN (L.map enc) i) (hk : L.length < k) (hl : L.length ≤ 16777216)
    (h : ∀ a ∈ L, ∃ bs, q m (enc a) = some bs ∧ okIx vs bs = true ∧ t (setsD (wipeD ρ vs) bs) m = .ok (p a) m ∧ (p a = true → f (setsD (wipeD ρ vs) bs) m = .ok (g a) m)) :
    lcGo s q vs t f ρ k 0 [] m = .ok ((L.filter p).map g) m := by
  obtain ⟨acc, m', e, h1, rfl⟩ := lcGo_inv (s := s) (q := q) (vs := vs) (t := t) (f := f) (ρ := ρ) (n := L.length) (fun i acc m' => acc = ((L.take i).filter p).map g ∧ m' = m)
    (fun acc m' ⟨_, z⟩ => by
      subst z
      rw [hs _ (Nat.le_refl _)]
      have := @atN_end (L.map enc)
      simpa using this)
    (fun i acc m' hi ⟨z1, z2⟩ => by
      subst z2
      have hm : L[i] ∈ L := List.getElem_mem hi
      obtain ⟨bs, e1, e2, e3, e4⟩ := h _ hm
      refine ⟨enc L[i], bs, by rw [hs i (Nat.le_of_lt hi), atN_lt (by simpa using hi)]; simp, e1, e2, ?_⟩
      have tk : L.take (i + 1) = L.take i ++ [L[i]] := by rw [List.take_append_getElem hi]
      cases hp : p L[i] with
      | true =>
        refine .inl ⟨m', _, m', by rw [e3, hp], e4 hp, ?_, ?_, rfl⟩
        · have : acc.length ≤ i := by
            rw [z1, List.length_map]
            exact Nat.le_trans (List.length_filter_le _ _) (by simp; omega)
          omega
        · rw [tk, List.filter_append, List.map_append, ← z1]; simp [hp]
      | false =>
        refine .inr ⟨m', by rw [e3, hp], ?_, rfl⟩
        rw [tk, List.filter_append, List.map_append, ← z1]; simp [hp])
    L.length k 0 [] m (by omega) hk ⟨by simp, rfl⟩
  rw [e, h1, List.take_of_length_le (Nat.le_refl _)]
theorem lcGo_map {α : Type} {s : Nxt} {q : Pat} {vs : List Nat} {f : FX} {ρ : DL.Env} {m : Mem} {L : List α} {enc : α → D} {g : α → D} {k : Nat}
    (hs : ∀ i, i ≤ L.length → s i m = atN (L.map enc) i) (hk : L.length < k) (hl : L.length ≤ 16777216)
    (h : ∀ a ∈ L, ∃ bs, q m (enc a) = some bs ∧ okIx vs bs = true ∧ f (setsD (wipeD ρ vs) bs) m = .ok (g a) m) :
    lcGo s q vs bYes f ρ k 0 [] m = .ok (L.map g) m := by
  have := lcGo_filter (s := s) (q := q) (vs := vs) (t := bYes) (f := f) (ρ := ρ) (p := fun _ => true) (g := g) hs hk hl fun a ha => by
    obtain ⟨bs, e1, e2, e3⟩ := h a ha
    exact ⟨bs, e1, e2, rfl, fun _ => e3⟩
  rw [this, List.filter_eq_self.mpr (fun _ _ => rfl)]
/-! walks over values -/
section
variable {f g : FX} {q : Pat} {vs : List Nat} {t : FB} {ρ : DL.Env} {m m1 : Mem} {xs : List D} {n : Nat} {d : D}
theorem dicAt_no (h : f ρ m = .ok d m1) (hd : refD d = none) : dicAt f ρ m = none := by
  simp [dicAt, h, hd]
theorem dicAt_lst (h : f ρ m = .ok (.ref n) m1) (hn : m[n]? = none ∨ ∃ xs, m[n]? = some (.lst xs)) : dicAt f ρ m = none := by
  rcases hn with e | ⟨xs, e⟩ <;> simp [dicAt, h, refD, e]
theorem dicAt_dic {b : Bool} {kvs : List (D × D)} (h : f ρ m = .ok (.ref n) m1) (e : m[n]? = some (.dic b kvs)) : dicAt f ρ m = some (n, b, kvs) := by
  simp [dicAt, h, refD, e]
/-- over a value with items of its own -/
theorem lcV_seq (h : f ρ m = .ok d m) (hd : refD d = none) (hi : itemsD d m = some xs) : lcV f q vs t g ρ m = lcGo (seqN d) q vs t g ρ (xs.length + 1) 0 [] m := by
  simp [lcV, qSel, isDic, dicAt_no h hd, lcD_ap, iVal, h, hi]
theorem lcV_lst (h : f ρ m = .ok (.ref n) m1) (hn : m[n]? = none ∨ ∃ xs, m[n]? = some (.lst xs)) (hi : m1[n]? = some (.lst xs)) : lcV f q vs t g ρ m = lcGo (seqN (.ref n)) q vs t g ρ (xs.length + 1) 0 [] m1 := by
  simp [lcV, qSel, isDic, dicAt_lst h hn, lcD_ap, iVal, h, hi, itemsD]
theorem lcV_dic {b : Bool} {kvs : List (D × D)} (h : ∀ m', f ρ m' = .ok (.ref n) m') (e : m[n]? = some (.dic b kvs)) : lcV f q vs t g ρ m = unlQ n b kvs (lcGo (lkN n) q vs t g ρ (kvs.length + 1) 0 [] (m.set n (.lck b kvs))) := by
  have e2 : (m.set n (MO.lck b kvs))[n]? = some (.lck b kvs) := mem_set e
  simp [lcV, qSel, isDic, dicAt_dic (h m) e, qLock, lcD_ap, iKeyD, iLk, h, e2]
theorem sForV_seq {b : FS} (h : f ρ m = .ok d m) (hd : refD d = none) (hi : itemsD d m = some xs) : sForV f q b ρ m = forGo (seqN d) q b (xs.length + 1) 0 ρ m := by
  simp [sForV, sSel, isDic, dicAt_no h hd, sFor_ap, iVal, h, hi]
theorem sForV_lst {b : FS} (h : f ρ m = .ok (.ref n) m1) (hn : m[n]? = none ∨ ∃ xs, m[n]? = some (.lst xs)) (hi : m1[n]? = some (.lst xs)) : sForV f q b ρ m = forGo (seqN (.ref n)) q b (xs.length + 1) 0 ρ m1 := by
  simp [sForV, sSel, isDic, dicAt_lst h hn, sFor_ap, iVal, h, hi, itemsD]
theorem sForV_dic {b : FS} {c : Bool} {kvs : List (D × D)} (h : ∀ m', f ρ m' = .ok (.ref n) m') (e : m[n]? = some (.dic c kvs)) : sForV f q b ρ m = unl n c kvs (forGo (lkN n) q b (kvs.length + 1) 0 ρ (m.set n (.lck c kvs))) := by
  have e2 : (m.set n (MO.lck c kvs))[n]? = some (.lck c kvs) := mem_set e
  simp [sForV, sSel, isDic, dicAt_dic (h m) e, sLock, sFor_ap, iKeyD, iLk, h, e2]
theorem sSetLcV_lst {i : Nat} (h : f ρ m = .ok (.ref n) m1) (hn : m[n]? = none ∨ ∃ xs, m[n]? = some (.lst xs)) (hi : m1[n]? = some (.lst xs)) : sSetLcV i f q vs t g ρ m = (lcGo (seqN (.ref n)) q vs t g ρ (xs.length + 1) 0 [] m1).toS ρ fun ds m2 => some (.nx (ρ.set i (some (.ref m2.length))), m2 ++ [.lst ds]) := by
  simp [sSetLcV, sSel, isDic, dicAt_lst h hn, lcD_ap, iVal, h, hi, itemsD]
  cases lcGo (seqN (.ref n)) q vs t g ρ (xs.length + 1) 0 [] m1 <;> rfl
theorem sSetLcV_seq {i : Nat} (h : f ρ m = .ok d m) (hd : refD d = none) (hi : itemsD d m = some xs) : sSetLcV i f q vs t g ρ m = (lcGo (seqN d) q vs t g ρ (xs.length + 1) 0 [] m).toS ρ fun ds m2 => some (.nx (ρ.set i (some (.ref m2.length))), m2 ++ [.lst ds]) := by
  simp [sSetLcV, sSel, isDic, dicAt_no h hd, lcD_ap, iVal, h, hi]
  cases lcGo (seqN d) q vs t g ρ (xs.length + 1) 0 [] m <;> rfl
theorem lk_at {b : Bool} {kvs : List (D × D)} (e : m[n]? = some (.lck b kvs)) (i : Nat) : lkN n i m = atN (kvs.map (·.1)) i := by
  unfold lkN; simp only [e]
theorem unlock {b : Bool} {kvs : List (D × D)} (e : m[n]? = some (.dic b kvs)) : (m.set n (.lck b kvs)).set n (.dic b kvs) = m := by
  rw [List.set_set]
  obtain ⟨h, e⟩ := List.getElem?_eq_some_iff.mp e
  rw [← e]; exact List.set_getElem_self h
end
end DL

set_option Elab.async false
set_option linter.all false
set_option maxRecDepth 100000
set_option maxHeartbeats 4000000
namespace DL
open PySem PySem.Spec PyProof.Rows L2
def Nxs (r : SRes) (P : DL.Env → Mem → Prop) : Prop := ∃ ρ1 m1, r = some (.nx ρ1, m1) ∧ P ρ1 m1
/-- a def's body ends with a value -/
def Ret (r : SRes) (Q : D → Mem → Prop) : Prop := ∃ d m', retF r = .ok d m' ∧ Q d m'
/-- a call ends with a value -/
def Givs (F : List D → Mem → Res D) (ds : List D) (m : Mem) (Q : D → Mem → Prop) : Prop := ∃ d m', callS F ds m = .ok d m' ∧ Q d m'
section
variable {f g : FS} {ρ : DL.Env} {m : Mem} {P Q' : DL.Env → Mem → Prop} {Q : D → Mem → Prop}
theorem Ret.seq (P : DL.Env → Mem → Prop) (h : Nxs (f ρ m) P) (k : ∀ ρ1 m1, P ρ1 m1 → Ret (g ρ1 m1) Q) : Ret (sSeq f g ρ m) Q := by
  obtain ⟨ρ1, m1, e, hp⟩ := h
  rw [sSeq_ap, e]; exact k _ _ hp
theorem Nxs.seq (P : DL.Env → Mem → Prop) (h : Nxs (f ρ m) P) (k : ∀ ρ1 m1, P ρ1 m1 → Nxs (g ρ1 m1) Q') : Nxs (sSeq f g ρ m) Q' := by
  obtain ⟨ρ1, m1, e, hp⟩ := h
  rw [sSeq_ap, e]; exact k _ _ hp
theorem Ret.seq1 {ρ1 : DL.Env} {m1 : Mem} (h : f ρ m = some (.nx ρ1, m1)) (k : Ret (g ρ1 m1) Q) : Ret (sSeq f g ρ m) Q := by
  rw [sSeq_ap, h]; exact k
theorem Nxs.seq1 {ρ1 : DL.Env} {m1 : Mem} (h : f ρ m = some (.nx ρ1, m1)) (k : Nxs (g ρ1 m1) Q') : Nxs (sSeq f g ρ m) Q' := by
  rw [sSeq_ap, h]; exact k
theorem Nxs.imp (h : Nxs (f ρ m) P) (k : ∀ ρ1 m1, P ρ1 m1 → Q' ρ1 m1) : Nxs (f ρ m) Q' := by
  obtain ⟨ρ1, m1, e, hp⟩ := h
  exact ⟨ρ1, m1, e, k _ _ hp⟩
theorem Nxs.mk {ρ1 : DL.Env} {m1 : Mem} (h : f ρ m = some (.nx ρ1, m1)) (k : P ρ1 m1) : Nxs (f ρ m) P := ⟨ρ1, m1, h, k⟩
theorem Ret.mk {d : D} {m1 : Mem} {r : SRes} (h : retF r = .ok d m1) (k : Q d m1) : Ret r Q := ⟨d, m1, h, k⟩
end
/-- a walk by an invariant -/
theorem Nxs.go {s : Nxt} {q : Pat} {b : FS} {n k : Nat} {ρ : DL.Env} {m : Mem} (I : Nat → DL.Env → Mem → Prop) (hk : n < k)
    (h0 : I 0 ρ m) (stop : ∀ ρ m, I n ρ m → s n m = .stop)
    (step : ∀ i ρ m, i < n → I i ρ m → ∃ d bs, s i m = .item d ∧ q m d = some bs ∧ Nxs (b (setsD ρ bs) m) (I (i + 1))) : Nxs (forGo s q b k 0 ρ m) (I n) :=
  forGo_inv I stop (fun i ρ m hi h => by
    obtain ⟨d, bs, e1, e2, ρ', m', e3, h'⟩ := step i ρ m hi h
    exact ⟨d, bs, ρ', m', e1, e2, e3, h'⟩) n k 0 ρ m (by omega) hk h0
theorem Nxs.unl {n : Nat} {t : Bool} {kvs : List (D × D)} {r : SRes} {P Q : DL.Env → Mem → Prop} (h : Nxs r P) (k : ∀ ρ m, P ρ m → Q ρ (m.set n (.dic t kvs))) : Nxs (DL.unl n t kvs r) Q := by
  obtain ⟨ρ1, m1, rfl, hp⟩ := h
  exact ⟨ρ1, _, rfl, k _ _ hp⟩
section
variable {l : FL} {q : Pat} {b : FS} {ρ : DL.Env} {m m1 : Mem} {i j : Int} {vs : List Nat} {t : FB} {f : FX}
theorem sFor_rg1 (h : l ρ m = .ok [.int j] m1) (hj : rgOk j = true) : sFor (iRg1 l) q b ρ m = forGo (rgN 0 1 j.toNat) q b (j.toNat + 1) 0 ρ m1 := by
  simp [sFor_ap, iRg1, h, intsD, hj]
theorem sFor_rg2 (h : l ρ m = .ok [.int i, .int j] m1) : sFor (iRg2 l) q b ρ m = forGo (rgN i 1 (j - i).toNat) q b ((j - i).toNat + 1) 0 ρ m1 := by
  simp [sFor_ap, iRg2, h, intsD]
theorem sFor_rg3 (h : l ρ m = .ok [.int i, .int j, .int (-1)] m1) : sFor (iRg3 l) q b ρ m = forGo (rgN i (-1) (i - j).toNat) q b ((i - j).toNat + 1) 0 ρ m1 := by
  simp [sFor_ap, iRg3, h, intsD]
theorem lcD_rg1 (h : l ρ m = .ok [.int j] m1) (hj : rgOk j = true) : lcD (iRg1 l) q vs t f ρ m = lcGo (rgN 0 1 j.toNat) q vs t f ρ (j.toNat + 1) 0 [] m1 := by
  simp [lcD_ap, iRg1, h, intsD, hj]
theorem lcD_rg2 (h : l ρ m = .ok [.int i, .int j] m1) : lcD (iRg2 l) q vs t f ρ m = lcGo (rgN i 1 (j - i).toNat) q vs t f ρ ((j - i).toNat + 1) 0 [] m1 := by
  simp [lcD_ap, iRg2, h, intsD]
theorem rgOk_of (h : -(2 ^ 62) ≤ j) (h2 : j < 2 ^ 62) : rgOk j = true := by
  unfold rgOk; rw [decide_eq_true h, decide_eq_true h2]; rfl
theorem rgN_lt {lo c : Int} {n k : Nat} (h : k < n) : rgN lo c n k m = .item (.int (lo + k * c)) := by
  have : Nat.blt k n = true := by simpa [Nat.blt_eq] using h
  unfold rgN; rw [this]
theorem rgN_end {lo c : Int} {n : Nat} : rgN lo c n n m = .stop := by
  have : Nat.blt n n = false := by
    cases q : Nat.blt n n with
    | false => rfl
    | true => rw [Nat.blt_eq] at q; omega
  unfold rgN; rw [this]
end
end DL

set_option Elab.async false
set_option linter.all false
set_option maxRecDepth 100000
set_option maxHeartbeats 4000000
namespace DL
open PySem PySem.Spec PyProof.Rows L2 PySem.NumText
/-! ### texts of whole numbers -/
def natS (n : Nat) : List Nat := (Nat.toDigits 10 n).map Char.toNat
theorem strI_nat (n : Nat) : strI (n : Int) = natS n := PySem.W.KIN.signs_num n
theorem strI_neg {n : Nat} (h : 0 < n) : strI (-(n : Int)) = 45 :: natS n := by
  obtain ⟨k, rfl⟩ : ∃ k, n = k + 1 := ⟨n - 1, by omega⟩
  unfold strI natS
  rw [signs_ofString]
  have e : (toString (-((k + 1 : Nat) : Int))).toList = '-' :: Nat.toDigits 10 (k + 1) := by
    rw [Int.toString_eq_repr, Int.repr_eq_if, if_neg (by omega), String.toList_append]
    have : (- -((k + 1 : Nat) : Int)).toNat = k + 1 := by omega
    rw [this, Nat.toList_repr]; rfl
  rw [e]; rfl
theorem natS_dig (n : Nat) : ∀ c ∈ natS n, 48 ≤ c ∧ c ≤ 57 := fun c hc => by
  obtain ⟨ch, hch, e⟩ := List.mem_map.mp hc
  have r := digit_range (Nat.isDigit_of_mem_toDigits (by decide) (by decide) hch)
  rw [← e]; exact r
theorem natS_ne (n : Nat) : natS n ≠ [] := fun e => by
  have h := toDigits_len_ge 10 n
  rw [List.map_eq_nil_iff.mp e] at h
  exact absurd h (by decide)
theorem natS_len {n k : Nat} (hk : 0 < k) : (natS n).length ≤ k ↔ n < 10 ^ k := by
  unfold natS
  rw [List.length_map]
  exact Nat.length_toDigits_le_iff (by decide) hk
theorem natS_val (n : Nat) : digitsVal (natS n) = n := PySem.W.KIN.val_back n
theorem natS_inj {a b : Nat} (h : natS a = natS b) : a = b := by rw [← natS_val a, h, natS_val]
theorem strI_cases (i : Int) : (0 ≤ i ∧ strI i = natS i.natAbs) ∨ (i < 0 ∧ strI i = 45 :: natS i.natAbs) := by
  by_cases h : 0 ≤ i
  · left
    refine ⟨h, ?_⟩
    obtain ⟨n, rfl⟩ := Int.eq_ofNat_of_zero_le h
    rw [strI_nat]; rfl
  · right
    refine ⟨by omega, ?_⟩
    have e : i = -((i.natAbs : Nat) : Int) := by omega
    have := strI_neg (n := i.natAbs) (by omega)
    rw [← e] at this
    exact this
theorem strI_inj {i j : Int} (h : strI i = strI j) : i = j := by
  have no : ∀ n m : Nat, natS n ≠ 45 :: natS m := fun n m e => by
    have := natS_dig n 45 (by rw [e]; simp)
    omega
  rcases strI_cases i with ⟨a, b⟩ | ⟨a, b⟩ <;> rcases strI_cases j with ⟨c, d⟩ | ⟨c, d⟩
  · rw [b, d] at h; have := natS_inj h; omega
  · rw [b, d] at h; exact absurd h (no _ _)
  · rw [b, d] at h; exact absurd h.symm (no _ _)
  · rw [b, d] at h; have := natS_inj (List.cons.inj h).2; omega
theorem strI_sign (i : Int) : ∀ c ∈ strI i, c = 45 ∨ (48 ≤ c ∧ c ≤ 57) := fun c hc => by
  rcases strI_cases i with ⟨a, b⟩ | ⟨a, b⟩
  · rw [b] at hc; exact .inr (natS_dig _ c hc)
  · rw [b] at hc
    rcases List.mem_cons.mp hc with h | h
    · exact .inl h
    · exact .inr (natS_dig _ c h)
theorem strI_ne (i : Int) : strI i ≠ [] := by
  rcases strI_cases i with ⟨a, b⟩ | ⟨a, b⟩
  · rw [b]; exact natS_ne _
  · rw [b]; simp
theorem strI_len {i : Int} {k : Nat} (hk : 0 < k) (h : i.natAbs < 10 ^ k) : (strI i).length ≤ k + 1 := by
  have := (natS_len (n := i.natAbs) hk).mpr h
  rcases strI_cases i with ⟨a, b⟩ | ⟨a, b⟩ <;> rw [b]
  · omega
  · simpa using this
theorem tl_sx (s : List Nat) : (sxOf s).cps.toList = s := rfl
theorem sx_len (s : List Nat) : (sxOf s).length = s.length := rfl
theorem int_strI {i : Int} (h : (strI i).length ≤ 4300) : PySem.intText? (sxOf (strI i)) = some i := by
  rcases strI_cases i with ⟨a, b⟩ | ⟨a, b⟩
  · rw [b] at h ⊢
    have := intText_digits (x := sxOf (natS i.natAbs)) (fun c hc => natS_dig _ c hc) (natS_ne _) (by rw [sx_len]; exact h)
    rw [this, tl_sx, natS_val]
    congr 1; omega
  · rw [b] at h ⊢
    have := intText_neg (x := sxOf (45 :: natS i.natAbs)) (cs := natS i.natAbs) rfl (fun c hc => natS_dig _ c hc) (natS_ne _) (by rw [sx_len]; exact h)
    rw [this, natS_val]
    congr 1; omega
/-! ### what is written like a number -/
def isDg (c : Nat) : Bool := Nat.ble 48 c && Nat.ble c 57
theorem isDg_iff (c : Nat) : isDg c = true ↔ 48 ≤ c ∧ c ≤ 57 := by
  simp [isDg]
def body (t : List Nat) : List Nat := if t.take 1 = [45] then t.drop 1 else t
def wrB (t : List Nat) : Bool := !(body t).isEmpty && (body t).all isDg
theorem wr_some {t : List Nat} (h : wrB t = true) (hl : t.length ≤ 4300) : ∃ n, PySem.intText? (sxOf t) = some n := by
  obtain ⟨h1, h2⟩ := Bool.and_eq_true_iff.mp h
  have d : ∀ c ∈ body t, 48 ≤ c ∧ c ≤ 57 := fun c hc => (isDg_iff c).mp (List.all_eq_true.mp h2 c hc)
  have ne : body t ≠ [] := fun e => by rw [e] at h1; cases h1
  unfold body at d ne
  split at d
  · next e =>
    rw [if_pos e] at ne
    have : t = 45 :: t.drop 1 := by
      cases t with
      | nil => cases e
      | cons a r => simp at e; subst e; rfl
    exact ⟨_, intText_neg (x := sxOf t) (cs := t.drop 1) this d ne hl⟩
  · next e =>
    rw [if_neg e] at ne
    exact ⟨_, intText_digits (x := sxOf t) d ne hl⟩
theorem wr_strI (i : Int) : wrB (strI i) = true := by
  have al : ∀ n, (natS n).all isDg = true := fun n => List.all_eq_true.mpr fun c hc => (isDg_iff c).mpr (natS_dig n c hc)
  have ne : ∀ n, (natS n).isEmpty = false := fun n => by
    cases h : natS n with
    | nil => exact absurd h (natS_ne n)
    | cons a r => rfl
  rcases strI_cases i with ⟨a, b⟩ | ⟨a, b⟩
  · have e : body (natS i.natAbs) = natS i.natAbs := by
      unfold body
      rw [if_neg]
      intro h
      cases q : natS i.natAbs with
      | nil => exact natS_ne _ q
      | cons c r =>
        have := natS_dig i.natAbs c (by rw [q]; simp)
        rw [q] at h; simp at h; omega
    unfold wrB
    rw [b, e, al, ne]; rfl
  · have e : body (45 :: natS i.natAbs) = natS i.natAbs := rfl
    unfold wrB
    rw [b, e, al, ne]; rfl
/-- the number that a text is the text of -/
def numT (t : List Nat) : Option Int := match wrB t with
  | true => (match PySem.intText? (sxOf t) with
    | some n => if strI n = t then some n else none
    | none => none)
  | false => none
theorem numT_some {t : List Nat} {n : Int} (h : numT t = some n) : t = strI n := by
  unfold numT at h
  split at h
  · split at h
    · split at h
      · next e => cases h; exact e.symm
      · cases h
    · cases h
  · cases h
theorem numT_strI {i : Int} (h : (strI i).length ≤ 4300) : numT (strI i) = some i := by
  unfold numT
  rw [wr_strI, int_strI h]
  simp
theorem body_len (t : List Nat) : t.length ≤ (body t).length + 1 := by
  unfold body
  split
  · simp; omega
  · omega
theorem log_num {n : Int} {k : Nat} (hk : 0 < k) (h : (strI n).length ≤ k) (h2 : k ≤ 570) : n.natAbs.log2 < 1920 := by
  have l : (natS n.natAbs).length ≤ k := by
    rcases strI_cases n with ⟨a, b⟩ | ⟨a, b⟩ <;> rw [b] at h
    · exact h
    · simp at h; omega
  have := (natS_len hk).mp l
  by_cases z : n.natAbs = 0
  · rw [z]; decide
  · rw [Nat.log2_lt z]
    refine Nat.lt_of_lt_of_le this ?_
    calc 10 ^ k ≤ 10 ^ 570 := Nat.pow_le_pow_right (by decide) h2
      _ ≤ 2 ^ 1920 := by decide +kernel
end DL

set_option Elab.async false
set_option linter.all false
set_option maxRecDepth 100000
set_option maxHeartbeats 4000000
namespace DL
open PySem PySem.Spec PyProof.Rows L2
/-! ### find in lists -/
def fnd (s t : List Nat) (i : Nat) : Int := Txt.find3 (sxOf s) (sxOf t) (i : Int)
theorem pre_iff {t l : List Nat} : TL.pre t l = true ↔ ∃ r, l = t ++ r := by
  unfold TL.pre
  rw [beq_iff_eq]
  constructor
  · intro h
    exact ⟨l.drop t.length, by have := List.take_append_drop t.length l; rw [h] at this; exact this.symm⟩
  · rintro ⟨r, rfl⟩
    simp
theorem from_nat (n i : Nat) : PySem.fromIndex n (i : Int) = i := by
  unfold PySem.fromIndex
  rw [if_neg (by omega)]; omega
theorem fnd_cases {s t : List Nat} (i : Nat) (ht : t ≠ []) : (fnd s t i = -1 ∧ ∀ k, i ≤ k → TL.pre t (s.drop k) = false) ∨
    ∃ k : Nat, fnd s t i = (k : Int) ∧ i ≤ k ∧ TL.pre t (s.drop k) = true ∧ ∀ j, i ≤ j → j < k → TL.pre t (s.drop j) = false := by
  have hne : TL.tl (sxOf t) ≠ [] := ht
  have e : fnd s t i = match PySem.Builtin.Str.occurrences (sxOf s) (sxOf t) i (sxOf s).length 1 with | k :: _ => (k : Int) | [] => -1 := by
    unfold fnd Txt.find3
    rw [from_nat] <;> rfl
  have no : ∀ k, ¬ StrLaws.At (sxOf s) (sxOf t) (sxOf s).length k → TL.pre t (s.drop k) = false := fun k h => by
    cases q : TL.pre t (s.drop k) with
    | false => rfl
    | true => exact absurd ((TL.at_iff hne k).mpr q) h
  rcases StrLaws.occ_head_from (sxOf s) (sxOf t) i 1 (Nat.le_refl _) with ⟨h0, hn⟩ | ⟨k, r, h0, hk, ha, hn⟩
  · left
    rw [e, h0]
    exact ⟨rfl, fun k hk => no k (hn k hk)⟩
  · right
    rw [e, h0]
    exact ⟨k, rfl, hk, (TL.at_iff hne k).mp ha, fun j h1 h2 => no j (hn j h1 h2)⟩
/-- the first place behind m, if the pattern's first sign is not between -/
theorem fnd_hit {m a r p : List Nat} {q : Nat} (h : q ∉ a) : fnd (m ++ (a ++ (q :: p ++ r))) (q :: p) m.length = ((m.length + a.length : Nat) : Int) := by
  have hd : (m ++ (a ++ (q :: p ++ r))).drop (m.length + a.length) = q :: p ++ r := by
    rw [← List.append_assoc, show m.length + a.length = (m ++ a).length by simp, List.drop_left]
  have hp : TL.pre (q :: p) ((m ++ (a ++ (q :: p ++ r))).drop (m.length + a.length)) = true := by
    rw [hd]; exact pre_iff.mpr ⟨r, rfl⟩
  have lo : ∀ k, m.length ≤ k → k < m.length + a.length → TL.pre (q :: p) ((m ++ (a ++ (q :: p ++ r))).drop k) = false := fun k h1 h2 => by
    have e : (m ++ (a ++ (q :: p ++ r))).drop k = (a ++ (q :: p ++ r)).drop (k - m.length) := by
      rw [List.drop_append, List.drop_eq_nil_of_le h1]; rfl
    rw [e]
    exact TL.free_of h _ (by omega)
  rcases fnd_cases (s := m ++ (a ++ (q :: p ++ r))) (t := q :: p) m.length (by simp) with ⟨_, hn⟩ | ⟨k, e, hk, hk2, hn⟩
  · rw [hn _ (by omega)] at hp; cases hp
  · rw [e]
    rcases Nat.lt_trichotomy k (m.length + a.length) with z | z | z
    · rw [lo k hk z] at hk2; cases hk2
    · rw [z]
    · rw [hn _ (by omega) z] at hp; cases hp
theorem fnd_of {s t : List Nat} {i : Nat} (ht : t ≠ []) (h : 0 ≤ fnd s t i) : ∃ (k : Nat) (r : List Nat), fnd s t i = (k : Int) ∧ i ≤ k ∧ s.drop k = t ++ r := by
  rcases fnd_cases (s := s) (t := t) i ht with ⟨e, _⟩ | ⟨k, e, hk, hk2, _⟩
  · omega
  · obtain ⟨r, hr⟩ := pre_iff.mp hk2
    exact ⟨k, r, e, hk, hr⟩
/-! ### cut at one sign -/
def cutC (c : Nat) : List Nat → List (List Nat)
  | [] => [[]]
  | x :: r => if x = c then [] :: cutC c r else match cutC c r with
    | [] => [[x]]
    | w :: ws => (x :: w) :: ws
theorem cutC_ne (c : Nat) : ∀ s, cutC c s ≠ []
  | [] => by simp [cutC]
  | x :: r => by
    unfold cutC
    split
    · simp
    · split <;> simp
theorem spl_cut (c : Nat) : ∀ (s acc : List Nat), TL.spl [c] 0 acc s = match cutC c s with
    | [] => []
    | w :: ws => (acc ++ w) :: ws
  | [], acc => by simp [TL.spl, cutC]
  | x :: r, acc => by
    by_cases h : x = c
    · subst h
      have hp : TL.pre [x] (x :: r) = true := by simp [TL.pre]
      rw [TL.spl_hit hp]
      show acc :: TL.spl [x] 0 [] r = _
      rw [spl_cut x r []]
      simp only [cutC, if_pos]
      cases q : cutC x r with
      | nil => exact absurd q (cutC_ne _ _)
      | cons w ws => simp
    · have hp : TL.pre [c] (x :: r) = false := by
        cases q : TL.pre [c] (x :: r) with
        | false => rfl
        | true =>
          obtain ⟨r', e⟩ := pre_iff.mp q
          simp at e; exact absurd e.1 h
      rw [TL.spl_miss hp, spl_cut c r (acc ++ [x])]
      simp only [cutC, if_neg h]
      cases q : cutC c r with
      | nil => exact absurd q (cutC_ne _ _)
      | cons w ws => simp
theorem spl_cut0 (c : Nat) (s : List Nat) : TL.spl [c] 0 [] s = cutC c s := by
  rw [spl_cut]
  cases q : cutC c s with
  | nil => exact absurd q (cutC_ne _ _)
  | cons w ws => simp
/-- how many signs c -/
def cnt (p : Nat → Bool) (s : List Nat) : Nat := s.countP p
theorem cutC_len (c : Nat) : ∀ s, (cutC c s).length = s.countP (· == c) + 1
  | [] => by simp [cutC]
  | x :: r => by
    have ih := cutC_len c r
    unfold cutC
    by_cases h : x = c
    · subst h; simp [ih]
    · simp only [if_neg h]
      have : (x == c) = false := by simpa using h
      rw [List.countP_cons, this]
      cases q : cutC c r with
      | nil => exact absurd q (cutC_ne _ _)
      | cons w ws => rw [q] at ih; simpa using ih
theorem cutC_join (c : Nat) : ∀ s, joinN [c] (cutC c s) = s
  | [] => by simp [cutC, joinN]
  | x :: r => by
    have ih := cutC_join c r
    unfold cutC
    by_cases h : x = c
    · subst h
      simp only [if_pos]
      cases q : cutC x r with
      | nil => exact absurd q (cutC_ne _ _)
      | cons w ws => rw [q] at ih; simp [joinN, ih]
    · simp only [if_neg h]
      cases q : cutC c r with
      | nil => exact absurd q (cutC_ne _ _)
      | cons w ws =>
        rw [q] at ih
        cases ws with
        | nil => simp [joinN] at ih ⊢; exact ih
        | cons v vs => simp [joinN] at ih ⊢; exact ih
theorem cutC_free (c : Nat) : ∀ s, ∀ w ∈ cutC c s, c ∉ w
  | [], w, h => by simp [cutC] at h; subst h; simp
  | x :: r, w, h => by
    have ih := cutC_free c r
    unfold cutC at h
    by_cases e : x = c
    · simp only [if_pos e] at h
      rcases List.mem_cons.mp h with rfl | h
      · simp
      · exact ih w h
    · simp only [if_neg e] at h
      cases q : cutC c r with
      | nil => exact absurd q (cutC_ne _ _)
      | cons v vs =>
        rw [q] at h ih
        rcases List.mem_cons.mp h with rfl | h
        · intro z
          rcases List.mem_cons.mp z with z | z
          · exact e z.symm
          · exact ih v (by simp) z
        · exact ih w (by simp [h])
theorem cutC_of {c : Nat} {ws : List (List Nat)} (h : ws ≠ []) (hf : ∀ w ∈ ws, c ∉ w) : cutC c (joinN [c] ws) = ws := by
  rw [joinN_TL, ← spl_cut0]
  exact TL.spl_join h hf
end DL

set_option Elab.async false
set_option linter.all false
set_option maxRecDepth 100000
set_option maxHeartbeats 4000000
namespace DL
open PySem PySem.Spec PyProof.Rows L2
section
variable {ρ : DL.Env} {m m1 : Mem} {s t : List Nat} {i j : Int} {d e : D} {f g h : FX}
theorem cut_to {α : Type} (xs : List α) (k : Nat) : cutD xs none (some (k : Int)) = xs.take k := by
  unfold cutD
  rw [HT.sIx_nat, HT.sIx_none]
  simp only [List.drop_zero, Nat.sub_zero]
  rw [List.take_eq_take_iff]; omega
theorem cut_from {α : Type} (xs : List α) (k : Nat) : cutD xs (some (k : Int)) none = xs.drop k := by
  unfold cutD
  rw [HT.sIx_nat, HT.sIx_none]
  by_cases h : k ≤ xs.length
  · rw [Nat.min_eq_left h, List.take_of_length_le (by simp)]
  · rw [Nat.min_eq_right (by omega), List.drop_eq_nil_of_le (by omega), List.drop_eq_nil_of_le (by omega)]; simp
theorem cut_mid {α : Type} (xs : List α) (a b : Nat) : cutD xs (some (a : Int)) (some (b : Int)) = (xs.take b).drop a := by
  unfold cutD
  rw [HT.sIx_nat, HT.sIx_nat]
  by_cases h : a ≤ xs.length
  · rw [Nat.min_eq_left h, List.drop_take, List.take_eq_take_iff]
    simp; omega
  · rw [show min a xs.length = xs.length by omega, List.drop_eq_nil_of_le (Nat.le_refl _), List.drop_eq_nil_of_le (by simp; omega)]; simp
theorem eqNs_dc (s t : List Nat) : eqNs s t = decide (s = t) := by
  by_cases h : s = t
  · rw [decide_eq_true h]; exact (eqNs_eq s t).mpr h
  · rw [decide_eq_false h]
    cases q : eqNs s t with
    | false => rfl
    | true => exact absurd ((eqNs_eq s t).mp q) h
@[simp] theorem oEq_str : oEq (.str s) (.str t) m = some (.bl (decide (s = t)), m) := by
  rw [← eqNs_dc]; rfl
@[simp] theorem oNe_str : oNe (.str s) (.str t) m = some (.bl (!decide (s = t)), m) := by
  rw [← eqNs_dc]; rfl
theorem oSl_str (h : s.length ≤ 16777216) {lo hi : Option Int} : oSl (.str s) lo hi m = some (.str (cutD s lo hi), m) := by
  simp [oSl, h]
theorem oAdd_str (h : s.length + t.length ≤ 16777216) : oAdd (.str s) (.str t) m = some (.str (s ++ t), m) := by
  simp [oAdd, h]
@[simp] theorem eFmt_ap : eFmt f ρ m = (f ρ m).bind fun d m1 => match fmtD d with
  | some s => .ok (.str s) m1
  | none => .bad := rfl
theorem fmt_int (h : i.natAbs.log2 < 1920) : fmtD (.int i) = some (strI i) := by
  have : Nat.blt i.natAbs.log2 1920 = true := by rw [Nat.blt_eq]; exact h
  simp [fmtD, this]
theorem fmt_str (h : s.length ≤ 16777216) : fmtD (.str s) = some s := by simp [fmtD, h]
theorem str_int (h : i.natAbs.log2 < 1920) : vStr (.int i) m = some (.str (strI i), m) := by
  have : Nat.blt i.natAbs.log2 1920 = true := by rw [Nat.blt_eq]; exact h
  simp [vStr, this]
@[simp] theorem vIntS_int : vIntS (.int i) m = some (.int i, m) := rfl
theorem vIntS_str (h : s.length ≤ 640) (h2 : PySem.intText? (sxOf s) = some i) : vIntS (.str s) m = some (.int i, m) := by
  have : Nat.ble s.length 640 = true := by rw [Nat.ble_eq]; exact h
  simp [vIntS, this, h2]
@[simp] theorem oGeT_int : oGeT (.int i) (.int j) m = some (.bl (decide (j ≤ i)), m) := rfl
@[simp] theorem oLeT_int : oLeT (.int i) (.int j) m = some (.bl (decide (i ≤ j)), m) := rfl
theorem oGeT_tup {is js : List Int} : oGeT (.tup (is.map .int)) (.tup (js.map .int)) m = some (.bl (leI2 js is), m) := by
  simp [oGeT, tupD, intsD_of]
theorem oLeT_tup {is js : List Int} : oLeT (.tup (is.map .int)) (.tup (js.map .int)) m = some (.bl (leI2 is js), m) := by
  simp [oLeT, tupD, intsD_of]
theorem vLen_str (h : s.length ≤ 16777216) : vLen (.str s) m = some (.int s.length, m) := by
  simp [vLen, lenD, dicR, refD, itemsS, chD, h]
@[simp] theorem mFind_str : mFind (.str s) [.str t, .int i] m = some (.int (Txt.find3 (sxOf s) (sxOf t) i), m) := rfl
theorem mSplit_str {c : Nat} (hc : c < 256) (h : s.length + 2 ≤ 16777216) : mSplit (.str s) [.str [c]] m = some (.ref m.length, m ++ [.lst ((cutC c s).map .str)]) := by
  have h1 : asc 256 [c] = true := by simp [asc, hc]
  have h2 : Nat.ble (s.length + 2) 16777216 = true := by rw [Nat.ble_eq]; exact h
  have h3 : (!([c] : List Nat).isEmpty && (asc 256 [c] && Nat.ble (s.length + 2) 16777216)) = true := by rw [h1, h2]; rfl
  simp only [mSplit, strD_str, h3, newL_ap, spl_cut0]
theorem mUpper_str (h1 : ∀ c ∈ s, c < 128) (h : s.length ≤ 5592405) : mUpper (.str s) [] m = some (.str (s.map PyProof.Rows.up1), m) := by
  have h2 : asc 128 s = true := by simp [asc]; exact h1
  have h3 : Nat.ble s.length 5592405 = true := by rw [Nat.ble_eq]; exact h
  simp [mUpper, h2, h3]
@[simp] theorem tyD_str : tyD "str" (.str s) m = true := rfl
@[simp] theorem tyNo_str : tyNo (.str s) m = some 3 := rfl
@[simp] theorem sPar3_ap {a b c : Nat} : sPar3 a b c f g h ρ m = (f ρ m).toS ρ fun d m1 => (g ρ m1).toS ρ fun e m2 => (h ρ m2).toS ρ fun z m3 => some (.nx (((ρ.set a (some d)).set b (some e)).set c (some z)), m3) := rfl
@[simp] theorem sRaise1_ap {c : Nat} : sRaise1 c f ρ m = (f ρ m).toS ρ fun d m1 => some (.ex c d ρ, m1) := rfl
@[simp] theorem oIs_non : oIs d .non m = some (.bl (isNon d), m) := rfl
@[simp] theorem isNon_non : isNon .non = true := rfl
@[simp] theorem isNon_int : isNon (.int i) = false := rfl
@[simp] theorem isNon_tup {xs : List D} : isNon (.tup xs) = false := rfl
theorem in_chars {c : Nat} : oIn (.str [c]) (.str t) m = some (.bl (t.any fun x => Nat.beq x c), m) := rfl
theorem dig_in (c : Nat) : ([48, 49, 50, 51, 52, 53, 54, 55, 56, 57] : List Nat).any (fun x => Nat.beq x c) = isDg c := by
  by_cases h : 48 ≤ c ∧ c ≤ 57
  · rw [(isDg_iff c).mpr h]
    have : c = 48 ∨ c = 49 ∨ c = 50 ∨ c = 51 ∨ c = 52 ∨ c = 53 ∨ c = 54 ∨ c = 55 ∨ c = 56 ∨ c = 57 := by omega
    rcases this with h | h | h | h | h | h | h | h | h | h <;> subst h <;> rfl
  · have h1 : isDg c = false := by
      cases q : isDg c with
      | false => rfl
      | true => exact absurd ((isDg_iff c).mp q) h
    rw [h1, List.any_eq_false]
    intro x hx
    simp at hx
    rw [Nat.beq_eq]
    omega
theorem chD_map (s : List Nat) : chD s = s.map fun c => .str [c] := by
  induction s with
  | nil => rfl
  | cons c r ih => simp [chD]
/-- all(.. in "0123456789" for .. in text) -/
theorem all_dig {i : Nat} {ρ : DL.Env} {m : Mem} {t : List Nat} (hv : f ρ m = .ok (.str t) m) (hi : i < (wipeD ρ [i]).length) (hl : t.length ≤ 16777216) :
    eCallL qAll (lcV f (pName i) [i] bYes (eOp oIn (eVar i) (eC (.str [48, 49, 50, 51, 52, 53, 54, 55, 56, 57])))) ρ m = .ok (.bl (t.all isDg)) m := by
  have ev : ∀ (k : Nat) (ρ : DL.Env) (d : D) (m : Mem), k < ρ.length → eVar k (ρ.set k (some d)) m = .ok d m := fun k => by
    induction k with
    | zero => intro ρ d m hk; cases ρ with
      | nil => cases hk
      | cons a r => rfl
    | succ k ih => intro ρ d m hk; cases ρ with
      | nil => cases hk
      | cons a r => exact ih r d m (by simpa using hk)
  have bl : ∀ l : List Nat, blsD (l.map fun c => D.bl (isDg c)) = some (l.map isDg) := fun l => by
    induction l with
    | nil => rfl
    | cons a l ih => simp [blsD, ih]
  have al : ∀ l : List Nat, allB (l.map isDg) = l.all isDg := fun l => by
    induction l with
    | nil => rfl
    | cons a l ih => simp [allB, ih]
  rw [eCallL_ap, lcV_seq (d := .str t) (xs := chD t) hv rfl rfl, lcGo_map (L := t) (enc := fun c => D.str [c]) (g := fun c => .bl (isDg c)) (fun k _ => by rw [← chD_map]; rfl) (by rw [chD_map]; simp) hl (fun c hc => ⟨[(i, .str [c])], rfl, by simp [okIx, Nat.beq_refl], by
    rw [setsD_cons, setsD_nil, eOp_ap, ev i _ _ _ hi]
    simp only [Res.bind_ok, eC_ap, in_chars, dig_in, liftO_some]⟩)]
  simp [qAll, bl, al]
end
end DL

set_option Elab.async false
set_option linter.all false
set_option maxRecDepth 100000
set_option maxHeartbeats 4000000
namespace K57
open PySem PySem.Spec PyProof.Rows L2
open DL
theorem pyInts (m : Mem) (k : Nat) : ∀ gs : List Int, mapO (pyN m k) (gs.map .int) = some (gs.map .int)
  | [] => rfl
  | x :: xs => by
    have : pyN m k (.int x) = some (.int x) := by cases k <;> rfl
    simp [mapO, this, pyInts m k xs]
theorem layInts : ∀ gs : List Int, PySem.PyData.canLayAll0 (gs.map .int) = true
  | [] => rfl
  | x :: xs => by simp [PySem.PyData.canLayAll0, PySem.PyData.canLay0, layInts xs]
theorem depInts : ∀ gs : List Int, PySem.PyData.depthAll (gs.map .int) ≤ 1
  | [] => by simp [PySem.PyData.depthAll]
  | x :: xs => by
    have := depInts xs
    simp [PySem.PyData.depthAll, PySem.PyData.depth]; omega
theorem eqInts : ∀ gs hs : List Int, PySem.PyData.eqvAll (gs.map .int) (hs.map .int) = decide (gs = hs)
  | [], [] => by simp [PySem.PyData.eqvAll]
  | [], _ :: _ => by simp [PySem.PyData.eqvAll]
  | _ :: _, [] => by simp [PySem.PyData.eqvAll]
  | x :: xs, y :: ys => by
    simp only [List.map_cons, PySem.PyData.eqvAll, eqInts xs ys, PySem.PyData.eqv]
    by_cases h : x = y <;> by_cases h2 : xs = ys <;> simp [h, h2]
theorem eq_ints {m : Mem} {g k : Nat} {gs hs : List Int} (h1 : m[g]? = some (.lst (gs.map .int))) (h2 : m[k]? = some (.lst (hs.map .int))) : eqD m (.ref g) (.ref k) = some (decide (gs = hs)) := by
  have p : ∀ (n : Nat) (ns : List Int), m[n]? = some (.lst (ns.map .int)) → pyN m 3 (.ref n) = some (PyData.list (ns.map .int)) := fun n ns h => by
    show (match m[n]? with
      | some (.lst xs) => (match mapO (pyN m 2) xs with
        | some ds => some (PyData.list ds)
        | none => none)
      | _ => none) = _
    rw [h]
    simp only [pyInts m 2 ns]
  have sh : ∀ ns : List Int, PySem.SeqAt.shaped (PyData.list (ns.map .int)) = true := fun ns => by
    have := depInts ns
    simp [PySem.SeqAt.shaped, PySem.PyData.canLay0, PySem.PyData.depth, layInts ns]; omega
  have e : eqDt m (.ref g) (.ref k) = some (decide (gs = hs)) := by
    simp only [eqDt, p g gs h1, p k hs h2, sh gs, sh hs, Bool.and_self, PySem.PyData.eqv, eqInts gs hs]
  have s : eqS (.ref g) (.ref k) = none := rfl
  simp only [eqD, s, e]
theorem eq_ints_nil {m : Mem} {g k : Nat} {gs : List Int} (h1 : m[g]? = some (.lst (gs.map .int))) (h2 : m[k]? = some (.lst [])) : eqD m (.ref g) (.ref k) = some (decide (gs = [])) := eq_ints h1 (hs := []) h2
end K57
namespace DL
open PySem PySem.Spec PyProof.Rows L2
theorem sSeq_to {f g : FS} {ρ : DL.Env} {m : Mem} {R : SRes → Prop} (P : DL.Env → Mem → Prop) (h : ∃ ρ1 m1, f ρ m = some (.nx ρ1, m1) ∧ P ρ1 m1) (k : ∀ ρ1 m1, P ρ1 m1 → R (g ρ1 m1)) : R (sSeq f g ρ m) := by
  obtain ⟨ρ1, m1, e, hp⟩ := h
  rw [sSeq_ap, e]; exact k _ _ hp
theorem cut_tail {α : Type} (x : α) (r : List α) : cutD (x :: r) (some 1) none = r := by
  unfold cutD
  have h0 : HT.sIx (x :: r).length 0 (some 1) = 1 := by
    unfold HT.sIx; simp
  have h1 : HT.sIx (x :: r).length (x :: r).length none = r.length + 1 := by
    unfold HT.sIx; simp
  rw [h0, h1]; simp
end DL

set_option Elab.async false
set_option linter.all false
set_option maxRecDepth 100000
set_option maxHeartbeats 4000000
namespace K57
open PySem PySem.Spec PyProof.Rows L2
open DL
/-- the well at w -/
structure Well (m : Mem) (w N : Nat) : Prop where
  ex : ∃ (a b : Int) (c g : Nat) (gs : List Int), m[w]? = some (.lst [.int a, .int b, .int c, .ref g]) ∧ m[g]? = some (.lst (gs.map .int)) ∧ g ≠ w ∧ 0 ≤ a ∧ 0 ≤ b ∧ b < 2147483489 ∧ c ≤ N ∧ ∀ x ∈ gs, 0 ≤ x
theorem Well.keep {m m' : Mem} {w N N' : Nat} (h : Well m w N) (f : Fr w m m') (e : m'[w]? = m[w]?) (hn : N ≤ N') : Well m' w N' := by
  obtain ⟨a, b, c, g, gs, e1, e2, e3, e4, e5, e6, e7, e8⟩ := h.ex
  exact ⟨a, b, c, g, gs, e ▸ e1, f.get e2 e3, e3, e4, e5, e6, Nat.le_trans e7 hn, e8⟩
theorem Well.lt {m : Mem} {w N : Nat} (h : Well m w N) : w < m.length := by
  obtain ⟨a, b, c, g, gs, e1, _⟩ := h.ex
  exact mem_lt e1
theorem Well.app {m m' : Mem} {w N : Nat} (h : Well m w N) : Well (m ++ m') w N := h.keep Fr.app (List.getElem?_append_left h.lt) (Nat.le_refl _)
theorem Well.mono {m : Mem} {w N N' : Nat} (h : Well m w N) (hn : N ≤ N') : Well m w N' := h.keep Fr.refl rfl hn
/-- another object is changed -/
theorem Well.other {m : Mem} {w N n : Nat} {o : MO} (h : Well m w N) (hw : n ≠ w) (hg : ∀ a b c g, m[w]? = some (.lst [.int a, .int b, .int c, .ref g]) → n ≠ g) : Well (m.set n o) w N := by
  obtain ⟨a, b, c, g, gs, e1, e2, e3, e4⟩ := h.ex
  exact ⟨a, b, c, g, gs, by rw [mem_ne (Ne.symm hw)]; exact e1, by rw [mem_ne (Ne.symm (hg a b c g e1))]; exact e2, e3, e4⟩
theorem log2_lt {i : Int} {k : Nat} (h0 : 0 ≤ i) (h : i < 2 ^ k) (hk : 0 < k) : i.natAbs.log2 < k := by
  by_cases z : i.natAbs = 0
  · rw [z]; simpa using hk
  · rw [Nat.log2_lt z]
    have : ((i.natAbs : Nat) : Int) = i := Int.natAbs_of_nonneg h0
    have : ((i.natAbs : Nat) : Int) < ((2 ^ k : Nat) : Int) := by rw [this]; simpa using h
    exact_mod_cast this
theorem mulOk_of {i j : Int} (a : 0 ≤ i) (b : i < 2 ^ 1000) (c : 0 ≤ j) (d : j < 2 ^ 1000) : mulOk i j = true := by
  unfold mulOk
  rw [Nat.blt_eq]
  have := log2_lt a b (by omega)
  have := log2_lt c d (by omega)
  omega
theorem divOk_of {j : Int} (c : 0 < j) (d : j < 2 ^ 1000) : divOk j = true := by
  unfold divOk
  have := log2_lt (Int.le_of_lt c) d (by omega)
  have h : Nat.blt j.natAbs.log2 9000 = true := by rw [Nat.blt_eq]; omega
  rw [h, decide_eq_true c]; rfl
theorem draw_spec {m : Mem} {w N : Nat} {most : Int} (h : Well m w N) (h1 : 0 < most) (h2 : most < 1073741824) (hN : N < 2 ^ 64) :
    ∃ r m', callS F__law_draw [.ref w, .int most] m = .ok (.int r) m' ∧ 0 ≤ r ∧ r < most ∧ Well m' w (N + 1) ∧ Fr w m m' := by
  rw [callS_mem rfl]
  show ∃ r m', retF (b__law_draw [some (.ref w), some (.int most), none, none] m) = .ok (.int r) m' ∧ _
  refine sSeq_to (R := fun z => ∃ r m', retF z = .ok (.int r) m' ∧ 0 ≤ r ∧ r < most ∧ Well m' w (N + 1) ∧ Fr w m m') (fun ρ1 m1 => ρ1 = [some (.ref w), some (.int most), none, none] ∧ Well m1 w N ∧ Fr w m m1) ?_ ?_
  · obtain ⟨a, b, c, g, gs, e1, e2, e3, e4, e5, e6, e7, e8⟩ := h.ex
    by_cases ha : a = 0
    · subst ha
      have e1' := mem_app (m1 := [MO.lst []]) e1
      have e2' := mem_app (m1 := [MO.lst []]) e2
      have eq := eq_ints_nil (m := m ++ [MO.lst []]) e2' mem_new
      cases gs with
      | nil =>
        refine ⟨_, m ++ [.lst []], ?_, rfl, h.app, Fr.app⟩
        simp [e1, oNe, eq, e1']
      | cons x r =>
        have e1'' := mem_app (m1 := [MO.lst [], MO.lst (r.map D.int)]) e1
        have e2'' := mem_app (m1 := [MO.lst [], MO.lst (r.map D.int)]) e2
        refine ⟨_, ((m ++ [MO.lst [], MO.lst (r.map D.int)]).set w (.lst [.int x, .int b, .int c, .ref g])).set w (.lst [.int x, .int b, .int c, .ref (m.length + 1)]), ?_, rfl, ?_, ?_⟩
        · simp [e1, oNe, eq, e1', e2', oSl, cut_tail, e1'', mem_set e1'']
        · refine ⟨x, b, c, m.length + 1, r, ?_, ?_, ?_, e8 x (by simp), e5, e6, e7, fun y hy => e8 y (by simp [hy])⟩
          · exact mem_set (mem_set e1'')
          · have : m.length + 1 ≠ w := by have := mem_lt e1; omega
            rw [mem_ne this, mem_ne this]
            simp
          · have := mem_lt e1; omega
        · exact (Fr.app.trans Fr.set).trans Fr.set
    · have ha' : (a == 0) = false := by simpa using ha
      refine ⟨_, m, ?_, rfl, h, Fr.refl⟩
      simp [e1, ha']
  · rintro ρ1 m1 ⟨rfl, hw, hf⟩
    obtain ⟨a, b, c, g, gs, e1, e2, e3, e4, e5, e6, e7, e8⟩ := hw.ex
    by_cases ha : 0 < a
    · refine ⟨a % most, m1.set w (.lst [.int (a / most), .int b, .int c, .ref g]), ?_, Int.emod_nonneg _ (by omega), Int.emod_lt_of_pos _ h1, ?_, hf.trans Fr.set⟩
      · simp [e1, ha, vDm, dmOk, h1, h2]
      · exact ⟨a / most, b, c, g, gs, mem_set e1, by rw [mem_ne e3]; exact e2, e3, Int.ediv_nonneg e4 (by omega), e5, e6, by omega, e8⟩
    · refine ⟨(((((b + 48611 * ((c : Int) + 1)) % 2147483489) * ((b + 48611 * ((c : Int) + 1)) % 2147483489 % 7001 + 39979) + 41 * ((c : Int) + 1)) % 2147483489) / 811) % most, (m1.set w (.lst [.int a, .int b, .int ((c : Int) + 1), .ref g])).set w (.lst [.int a, .int ((((b + 48611 * ((c : Int) + 1)) % 2147483489) * ((b + 48611 * ((c : Int) + 1)) % 2147483489 % 7001 + 39979) + 41 * ((c : Int) + 1)) % 2147483489), .int ((c : Int) + 1), .ref g]), ?_, Int.emod_nonneg _ (by omega), Int.emod_lt_of_pos _ h1, ?_, hf.trans (Fr.set.trans Fr.set)⟩
      · have hs0 : 0 ≤ (b + 48611 * ((c : Int) + 1)) % 2147483489 := Int.emod_nonneg _ (by omega)
        have hs1 : (b + 48611 * ((c : Int) + 1)) % 2147483489 < 2147483489 := Int.emod_lt_of_pos _ (by omega)
        have k1 : mulOk 48611 ((c : Int) + 1) = true := mulOk_of (by omega) (by omega) (by omega) (by omega)
        have k2 : mulOk 41 ((c : Int) + 1) = true := mulOk_of (by omega) (by omega) (by omega) (by omega)
        have hk : ∀ z : Int, 0 ≤ z → z < 2147483489 → mulOk z (z % 7001 + 39979) = true := fun z h0 h1 => mulOk_of h0 (by omega) (by omega) (by omega)
        have k3 := hk _ hs0 hs1
        have ha' : decide (0 < a) = false := by simpa using ha
        have e1' : ∀ u, (m1.set w u)[w]? = some u := fun u => mem_set e1
        have dv : divOk 811 = true := divOk_of (by omega) (by omega)
        simp [e1, ha', e1', oMul_int, k1, k2, k3, oMod_int, h1, oFdiv_int, dv]
      · have : 0 ≤ (((((b + 48611 * ((c : Int) + 1)) % 2147483489) * ((b + 48611 * ((c : Int) + 1)) % 2147483489 % 7001 + 39979) + 41 * ((c : Int) + 1)) % 2147483489)) := Int.emod_nonneg _ (by omega)
        have := Int.emod_lt_of_pos (((((b + 48611 * ((c : Int) + 1)) % 2147483489) * ((b + 48611 * ((c : Int) + 1)) % 2147483489 % 7001 + 39979) + 41 * ((c : Int) + 1)))) (show (0 : Int) < 2147483489 by omega)
        exact ⟨a, _, c + 1, g, gs, mem_set (mem_set e1), by rw [mem_ne e3, mem_ne e3]; exact e2, e3, e4, by assumption, by assumption, by omega, e8⟩
end K57

set_option Elab.async false
set_option linter.all false
set_option maxRecDepth 100000
set_option maxHeartbeats 4000000
namespace K57
open PySem PySem.Spec PyProof.Rows L2
open DL
theorem atI_at {α : Type} {xs : List α} {r : Int} (h0 : 0 ≤ r) (h : r < xs.length) : ∃ x ∈ xs, atI xs r = some x := by
  have hk : r.toNat < xs.length := by omega
  refine ⟨xs[r.toNat], List.getElem_mem hk, ?_⟩
  rw [atI_nat (k := r.toNat) (by omega) hk, List.getElem?_eq_getElem hk]
theorem pick_spec {m : Mem} {w N : Nat} {xs : List D} (h : Well m w N) (h1 : 0 < xs.length) (h2 : xs.length < 1073741824) (hN : N < 2 ^ 64) :
    ∃ x m', x ∈ xs ∧ callS F__law_pick [.ref w, .tup xs] m = .ok x m' ∧ Well m' w (N + 1) ∧ DL.Fr w m m' := by
  rw [callS_mem rfl]
  show ∃ x m', x ∈ xs ∧ retF (b__law_pick [some (.ref w), some (.tup xs)] m) = .ok x m' ∧ _
  obtain ⟨r, m', e, r0, r1, w', f'⟩ := draw_spec (most := xs.length) h (by omega) (by omega) hN
  obtain ⟨x, hx, ex⟩ := atI_at r0 r1
  refine ⟨x, m', hx, ?_, w', f'⟩
  simp [b__law_pick, e, ex]
theorem well_spec (ns : List Int) : ∃ m, F__law_well [.rol (ns.map .int)] [] = .ok (.ref 3) m ∧ Well m 3 0 := by
  show ∃ m, retF (b__law_well [some (.rol (ns.map .int)), none, none, none] []) = .ok (.ref 3) m ∧ _
  obtain ⟨ys, hy⟩ : ∃ ys : List Int, DL.cutD (ns.map D.int) none (some 63) = ys.map .int ∧ ys.length ≤ 63 := by
    refine ⟨DL.cutD ns none (some 63), ?_, ?_⟩
    · simp [DL.cutD, List.map_take, List.map_drop]
    · simp [DL.cutD, HT.sIx, List.length_take]; omega
  obtain ⟨hy, hl⟩ := hy
  have sl : ∀ (ρ : DL.Env) (m : Mem), eSl (eVar 0) pNo (pSo (eC (D.int 63))) (some (.rol (ns.map .int)) :: ρ) m = .ok (.ref m.length) (m ++ [MO.lst (ys.map .int)]) := fun ρ m => by
    simp [oSl, hy]
  unfold b__law_well
  rw [sSeq_ap, sSet_ap, eC_ap]
  simp only [Res.toS_ok, seqK_nx, List.set_cons_succ, List.set_cons_zero]
  rw [sSeq_ap, sForV_lst (sl _ _) (.inl (by simp)) (xs := ys.map .int) (by simp)]
  obtain ⟨ρ2, m2, e, ⟨z, c, rfl, z0, z1⟩, rfl⟩ := forGo_inv (s := seqN (.ref (List.length ([] : Mem)))) (q := pName 2) (b := (sSet 1 (eOp oMod (eCall (one vIntS) (aCons (eOp oAdd (eOp oAdd (eOp oMul (eVar 1) (eC (.int 51287))) (eOp oMod (eCall (one vIntS) (aCons (eVar 2) aNil)) (eC (.int 2147483399)))) (eC (.int 23))) aNil)) (eC (.int 2147483489))))) (n := ys.length)
    (fun i ρ m => (∃ (z : Int) (c : Option D), ρ = [some (.rol (ns.map .int)), some (.int z), c, none] ∧ 0 ≤ z ∧ z < 2147483489) ∧ m = [] ++ [MO.lst (ys.map .int)])
    (fun ρ m ⟨_, hm⟩ => by
      subst hm
      rw [seq_lst (xs := ys.map .int) (by simp)]
      exact atN_fin (by simp))
    (fun i ρ m hi ⟨⟨z, c, hρ, z0, z1⟩, hm⟩ => by
      subst hm hρ
      refine ⟨.int ys[i], [(2, .int ys[i])], _, _, ?_, rfl, ?_, ⟨(z * 51287 + ys[i] % 2147483399 + 23) % 2147483489, some (.int ys[i]), rfl, Int.emod_nonneg _ (by omega), Int.emod_lt_of_pos _ (by omega)⟩, rfl⟩
      · rw [seq_lst (xs := ys.map .int) (by simp), atN_lt (by simpa using hi)]; simp
      · have k : mulOk z 51287 = true := mulOk_of z0 (by omega) (by omega) (by omega)
        simp [oMul_int k, oMod_int])
    ys.length (ys.length + 1) 0 _ ([] ++ [MO.lst (ys.map .int)]) (by omega) (by omega) ⟨⟨40111, none, rfl, by omega, by omega⟩, rfl⟩
  rw [List.length_map, e]
  simp only [seqK_nx]
  rw [sSeq_ap, sSetLcV_lst (sl _ _) (.inl (by simp)) (xs := ys.map .int) (by simp)]
  rw [lcGo_filter (L := ys) (enc := D.int) (p := fun a => decide (a < 0) || decide (10 ^ 14 ≤ a)) (g := fun a => D.int (if a < 0 then -a else a)) (fun i hi => seq_lst (by simp) i) (by simp) (by omega) (fun a ha => ⟨[(2, .int a)], rfl, rfl, by
    have p14 : ∀ m, oPow (.int 10) (.int 14) m = some (.int (10 ^ 14), m) := fun m => rfl
    by_cases h : a < 0 <;> simp [p14, h], fun hp => by
    by_cases h : a < 0 <;> simp [vAbs, h]⟩)]
  refine ⟨_, by simp; rfl, ?_⟩
  refine ⟨0, z, 0, 2, ((ys.filter fun a => decide (a < 0) || decide (10 ^ 14 ≤ a)).map fun a => if a < 0 then -a else a), rfl, ?_, by omega, by omega, z0, z1, by omega, fun x hx => ?_⟩
  · simp [List.map_map]
  · obtain ⟨a, ha, rfl⟩ := List.mem_map.mp hx
    split <;> omega
end K57

set_option Elab.async false
set_option linter.all false
set_option maxRecDepth 100000
set_option maxHeartbeats 4000000
namespace K57
open PySem PySem.Spec PyProof.Rows L2
open DL
/-! tables: pairs of numbers with counts -/
abbrev T3 := Int × Int × Int
def kv (t : T3) : D × D := (.tup [.int t.1, .int t.2.1], .int t.2.2)
def pr (t : T3) : D := .tup [.tup [.int t.1, .int t.2.1], .int t.2.2]
def key (t : T3) : Int × Int := (t.1, t.2.1)
def valT (a b : Int) : List T3 → Option Int
  | [] => none
  | t :: r => if t.1 = a ∧ t.2.1 = b then some t.2.2 else valT a b r
def putT (a b c : Int) : List T3 → List T3
  | [] => [(a, b, c)]
  | t :: r => if t.1 = a ∧ t.2.1 = b then (a, b, c) :: r else t :: putT a b c r
def sumA : List T3 → Int
  | [] => 0
  | t :: r => t.2.2.natAbs + sumA r
theorem eqK_pair (a b c d : Int) : eqK true (.tup [.int a, .int b]) (.tup [.int c, .int d]) = decide (a = c ∧ b = d) := by
  show (decide (a = c) && (decide (b = d) && true)) = _
  simp
theorem eqK_kv (t : T3) (a b : Int) : eqK true (kv t).1 (.tup [.int a, .int b]) = decide (t.1 = a ∧ t.2.1 = b) := eqK_pair ..
theorem isK_pair (a b : Int) : isK true (.tup [.int a, .int b]) = true := rfl
theorem valD_kv (a b : Int) : ∀ L : List T3, valD true (.tup [.int a, .int b]) (L.map kv) = (valT a b L).map .int
  | [] => rfl
  | t :: r => by
    simp only [List.map_cons, valD, valT, eqK_kv]
    have ih := valD_kv a b r
    by_cases h : t.1 = a ∧ t.2.1 = b
    · rw [decide_eq_true h, if_pos h]; rfl
    · rw [decide_eq_false h, if_neg h]; exact ih
theorem hasD_kv (a b : Int) (L : List T3) : hasD true (.tup [.int a, .int b]) (L.map kv) = (valT a b L).isSome := by
  rw [hasD_val, valD_kv]; cases valT a b L <;> rfl
theorem valT_none (a b : Int) : ∀ L : List T3, valT a b L = none ↔ (a, b) ∉ L.map key
  | [] => by simp [valT]
  | t :: r => by
    have ih := valT_none a b r
    by_cases h : t.1 = a ∧ t.2.1 = b
    · simp [valT, h, key]
    · have h' : ¬ (a = t.1 ∧ b = t.2.1) := fun z => h ⟨z.1.symm, z.2.symm⟩
      simp [valT, h, ih, key, h']
theorem repD_no (a b c : Int) : ∀ L : List T3, valT a b L = none → repD true (.tup [.int a, .int b]) (.int c) (L.map kv) = L.map kv
  | [], _ => rfl
  | u :: l, hu => by
    by_cases y : u.1 = a ∧ u.2.1 = b
    · simp [valT, y] at hu
    · simp only [valT, if_neg y] at hu
      simp only [List.map_cons, repD, eqK_kv, decide_eq_false y, repD_no a b c l hu]
theorem repD_kv (a b c : Int) : ∀ L : List T3, (L.map key).Nodup → valT a b L ≠ none → repD true (.tup [.int a, .int b]) (.int c) (L.map kv) = (putT a b c L).map kv
  | [], _, h => absurd rfl h
  | t :: r, nd, h => by
    have nd' := List.nodup_cons.mp nd
    simp only [List.map_cons, repD, putT, eqK_kv]
    by_cases z : t.1 = a ∧ t.2.1 = b
    · rw [decide_eq_true z, if_pos z]
      obtain ⟨z1, z2⟩ := z
      have e : valT a b r = none := (valT_none a b r).mpr (by simpa [key, z1, z2] using nd'.1)
      rw [repD_no a b c r e, List.map_cons, ← z1, ← z2]; rfl
    · rw [decide_eq_false z, if_neg z]
      have h2 : valT a b r ≠ none := by simpa [valT, z] using h
      rw [repD_kv a b c r nd'.2 h2]; rfl
theorem putT_app (a b c : Int) : ∀ L : List T3, valT a b L = none → putT a b c L = L ++ [(a, b, c)]
  | [], _ => rfl
  | t :: r, h => by
    by_cases z : t.1 = a ∧ t.2.1 = b
    · simp [valT, z] at h
    · simp only [valT, if_neg z] at h
      simp [putT, if_neg z, putT_app a b c r h]
theorem putD_kv (a b c : Int) (L : List T3) (nd : (L.map key).Nodup) : putD true (L.map kv) (.tup [.int a, .int b]) (.int c) = (putT a b c L).map kv := by
  unfold putD
  rw [hasD_kv]
  cases h : valT a b L with
  | none => rw [putT_app a b c L h]; simp [kv]
  | some v => exact repD_kv a b c L nd (by rw [h]; simp)
theorem putT_keys (a b c : Int) : ∀ L : List T3, (putT a b c L).map key = if (a, b) ∈ L.map key then L.map key else L.map key ++ [(a, b)]
  | [] => by simp [putT, key]
  | t :: r => by
    by_cases z : t.1 = a ∧ t.2.1 = b
    · have : key t = (a, b) := by simp [key, z]
      simp [putT, z, this, key]
    · have h' : ¬ (a, b) = key t := fun w => z (by simp [key] at w; exact ⟨w.1.symm, w.2.symm⟩)
      have ih := putT_keys a b c r
      by_cases w : (a, b) ∈ r.map key
      · simp only [putT, if_neg z, List.map_cons, ih, if_pos w]
        rw [if_pos (by simp only [List.mem_cons]; exact .inr w)]
      · simp only [putT, if_neg z, List.map_cons, ih, if_neg w]
        rw [if_neg (by simp only [List.mem_cons]; rintro (x | x); exact h' x; exact w x)]; rfl
theorem putT_nodup (a b c : Int) (L : List T3) (nd : (L.map key).Nodup) : ((putT a b c L).map key).Nodup := by
  rw [putT_keys]
  split
  · exact nd
  · next h => exact List.nodup_append.mpr ⟨nd, by simp, fun x hx y hy => by simp at hy; subst hy; exact fun z => h (z ▸ hx)⟩
theorem putT_len (a b c : Int) : ∀ L : List T3, (putT a b c L).length ≤ L.length + 1
  | [] => by simp [putT]
  | t :: r => by
    have := putT_len a b c r
    by_cases z : t.1 = a ∧ t.2.1 = b <;> simp [putT, z]; omega
theorem putT_sum (a b c : Int) : ∀ L : List T3, (L.map key).Nodup → sumA (putT a b c L) = sumA L + c.natAbs - ((valT a b L).getD 0).natAbs
  | [], _ => by simp [putT, sumA, valT]
  | t :: r, nd => by
    have ih := putT_sum a b c r (List.nodup_cons.mp nd).2
    by_cases z : t.1 = a ∧ t.2.1 = b
    · simp [putT, z, sumA, valT]; omega
    · simp only [putT, if_neg z, sumA, valT, ih]; omega
structure DOk (L : List T3) (n : Nat) (S : Int) : Prop where
  nd : (L.map key).Nodup
  len : L.length ≤ n
  sum : sumA L ≤ S
theorem DOk.nil : DOk [] 0 0 := ⟨by simp, by simp, by simp [sumA]⟩
theorem DOk.mono {L : List T3} {n n' : Nat} {S S' : Int} (h : DOk L n S) (hn : n ≤ n') (hs : S ≤ S') : DOk L n' S' := ⟨h.nd, Nat.le_trans h.len hn, Int.le_trans h.sum hs⟩
theorem DOk.put {L : List T3} {n : Nat} {S : Int} (h : DOk L n S) (a b c : Int) : DOk (putT a b c L) (n + 1) (S + c.natAbs) :=
  ⟨putT_nodup a b c L h.nd, Nat.le_trans (putT_len a b c L) (by have := h.len; omega), by rw [putT_sum a b c L h.nd]; have := h.sum; omega⟩
theorem DOk.add {L : List T3} {n : Nat} {S : Int} (h : DOk L n S) (a b c : Int) : DOk (putT a b ((valT a b L).getD 0 + c) L) (n + 1) (S + c.natAbs) :=
  ⟨putT_nodup a b _ L h.nd, Nat.le_trans (putT_len a b _ L) (by have := h.len; omega), by rw [putT_sum a b _ L h.nd]; have := h.sum; omega⟩
theorem getD_kv (a b : Int) (L : List T3) (z : Int) : (valD true (.tup [.int a, .int b]) (L.map kv)).getD (.int z) = .int ((valT a b L).getD z) := by
  rw [valD_kv]; cases valT a b L <;> rfl
theorem valT_mem : ∀ (L : List T3) (t : T3), (L.map key).Nodup → t ∈ L → valT t.1 t.2.1 L = some t.2.2
  | [], t, _, h => by simp at h
  | u :: r, t, nd, h => by
    have nd' := List.nodup_cons.mp nd
    rcases List.mem_cons.mp h with rfl | h
    · simp [valT]
    · have : ¬ (u.1 = t.1 ∧ u.2.1 = t.2.1) := fun z => nd'.1 (List.mem_map.mpr ⟨t, h, by simp [key, z]⟩)
      simp only [valT, if_neg this]
      exact valT_mem r t nd'.2 h
theorem sumA_app (L M : List T3) : sumA (L ++ M) = sumA L + sumA M := by
  induction L with
  | nil => simp [sumA]
  | cons t r ih => simp only [List.cons_append, sumA, ih]; omega
theorem sumA_nn : ∀ L : List T3, 0 ≤ sumA L
  | [] => by simp [sumA]
  | t :: r => by have := sumA_nn r; simp only [sumA]; omega
theorem sumA_mem : ∀ (L : List T3) (t : T3), t ∈ L → (t.2.2.natAbs : Int) ≤ sumA L
  | u :: r, t, h => by
    have := sumA_nn r
    rcases List.mem_cons.mp h with rfl | h
    · simp only [sumA]; omega
    · have := sumA_mem r t h
      simp only [sumA]; omega
theorem mulOk_abs {i j : Int} (a : i.natAbs < 2 ^ 1000) (c : j.natAbs < 2 ^ 1000) : mulOk i j = true := by
  have f : ∀ n : Nat, n < 2 ^ 1000 → n.log2 < 1000 := fun n h => by
    by_cases z : n = 0
    · subst z; decide
    · exact (Nat.log2_lt z).mpr h
  unfold mulOk
  rw [Nat.blt_eq]
  have := f _ a
  have := f _ c
  omega
end K57

set_option Elab.async false
set_option linter.all false
set_option maxRecDepth 100000
set_option maxHeartbeats 4000000
namespace K57
open PySem PySem.Spec PyProof.Rows L2
open DL
def mat (x y : Int) : D := .tup [.tup [.int 2, .int x], .tup [.int y, .int 2]]
def ms : List (Int × Int) := [(0, 0), (-1, -1), (-1, -2), (-2, -1), (-3, -1), (-1, -3)]
theorem Well.setD {m : Mem} {w N n : Nat} {o : MO} {t : Bool} {kvs : List (D × D)} (h : Well m w N) (e : m[n]? = some (.dic t kvs) ∨ m[n]? = some (.lck t kvs)) : Well (m.set n o) w N := by
  refine h.other (fun z => ?_) fun a b c g e1 z => ?_
  · subst z; obtain ⟨_, _, _, _, _, e1, _⟩ := h.ex
    rcases e with e | e <;> (rw [e1] at e; cases e)
  · subst z; obtain ⟨_, _, _, _, _, e2, e3, _⟩ := h.ex
    rw [e1] at e2; cases e2
    rcases e with e | e <;> (rw [e3] at e; cases e)
theorem Fr.setNew {w n : Nat} {a b : Mem} {o : MO} (h : DL.Fr w a b) (hn : a.length ≤ n) : DL.Fr w a (b.set n o) :=
  ⟨by simpa using h.len, fun k hk hw => by rw [mem_ne (by omega)]; exact h.at_ k hk hw⟩
theorem Fr.appNew {w : Nat} {a b c : Mem} (h : DL.Fr w a b) : DL.Fr w a (b ++ c) := h.trans Fr.app
def kD (t : T3) : D := .tup [.int t.1, .int t.2.1]
def le3 (s t : T3) : Bool := leT [s.1, s.2.1] [t.1, t.2.1]
theorem isort_map {α β : Type} (f : α → β) (le : β → β → Bool) : ∀ L : List α, isortB le (L.map f) = (isortB (fun s t => le (f s) (f t)) L).map f
  | [] => rfl
  | x :: r => by
    have ins : ∀ (x : α) (l : List α), insB le (f x) (l.map f) = (insB (fun s t => le (f s) (f t)) x l).map f := fun x l => by
      induction l with
      | nil => rfl
      | cons y l ih =>
        simp only [List.map_cons, insB]
        cases le (f x) (f y) with
        | true => rfl
        | false => simp only [ih]; rfl
    simp only [List.map_cons, isortB, isort_map f le r, ins]
theorem sort_keys (L : List T3) (m : Mem) (hl : L.length ≤ 16777216) : qSort (L.map kD) m = some (.ref m.length, m ++ [.lst ((isortB le3 L).map kD)]) := by
  have t : ∀ L : List T3, tupsI (L.map kD) = some (L.map fun t => [t.1, t.2.1]) := fun L => by
    induction L with
    | nil => rfl
    | cons x r ih => simp [tupsI, kD, tupK, intsD, ih] at ih ⊢
  cases L with
  | nil => rfl
  | cons x r =>
    have i : intsD ((x :: r).map kD) = none := rfl
    have s : strsD ((x :: r).map kD) = none := rfl
    have h : fits ((x :: r).map kD).length = true := by simpa using hl
    simp only [qSort, h, i, s, t (x :: r), newL_ap]
    rw [isort_map (fun t : T3 => [t.1, t.2.1]) leT, List.map_map]
    rfl
theorem perm_isort (L : List T3) : (isortB le3 L).Perm L := isortB_perm L
theorem lcV_keys {f : FX} {j : Nat} {ρ : DL.Env} {m : Mem} {n : Nat} {L : List T3} {g : FX} {G : T3 → D} (h : ∀ m', f ρ m' = .ok (.ref n) m') (e : m[n]? = some (.dic true (L.map kv))) (hl : L.length ≤ 16777216)
    (hg : ∀ t ∈ L, g (setsD (wipeD ρ [j]) [(j, kD t)]) (m.set n (.lck true (L.map kv))) = .ok (G t) (m.set n (.lck true (L.map kv)))) : lcV f (pName j) [j] bYes g ρ m = .ok (L.map G) m := by
  rw [lcV_dic h e, lcGo_map (L := L) (enc := kD) (g := G) (fun i _ => by
    rw [lk_at (mem_set e), List.map_map]; rfl) (by simp) hl (fun a ha => ⟨[(j, kD a)], rfl, by simp [okIx, Nat.beq_refl], hg a ha⟩)]
  simp only [unlQ, unlock e]
def lt3 (s t : T3) : Prop := HT.lexLt [s.1, s.2.1] [t.1, t.2.1] = true
structure POk (P : List T3) : Prop where
  srt : P.Pairwise lt3
  nd : (P.map key).Nodup
  nz : ∀ t ∈ P, t.2.2 ≠ 0
  len : P.length ≤ 1000
  sum : sumA P ≤ 1000
theorem lex_pair (a b c d : Int) : HT.lexLt [a, b] [c, d] = decide (a < c ∨ (a = c ∧ b < d)) := by
  simp only [HT.lexLt_cons, HT.lexLt_nil_nil]
  by_cases h : a = c <;> by_cases h2 : b = d <;> simp [h, h2]
theorem le3_iff (s t : T3) : le3 s t = true ↔ (s.1 < t.1 ∨ (s.1 = t.1 ∧ s.2.1 ≤ t.2.1)) := by
  unfold le3 leT
  rw [lex_pair]
  simp only [Bool.not_eq_true', decide_eq_false_iff_not]
  omega
theorem lt3_iff (s t : T3) : lt3 s t ↔ (s.1 < t.1 ∨ (s.1 = t.1 ∧ s.2.1 < t.2.1)) := by
  unfold lt3; rw [lex_pair, decide_eq_true_eq]
theorem sumA_perm {L M : List T3} (h : L.Perm M) : sumA L = sumA M := by
  induction h with
  | nil => rfl
  | cons x _ ih => simp only [sumA, ih]
  | swap x y l => simp only [sumA]; omega
  | trans _ _ a b => exact a.trans b
theorem sumA_filter (p : T3 → Bool) : ∀ L : List T3, sumA (L.filter p) ≤ sumA L
  | [] => by simp [sumA]
  | x :: r => by
    have := sumA_filter p r
    cases h : p x <;> simp only [List.filter_cons, h, sumA] <;> simp [sumA] <;> omega
theorem told_ok {L : List T3} {n : Nat} {S : Int} (h : DOk L n S) (hn : n ≤ 1000) (hS : S ≤ 1000) : POk ((isortB le3 L).filter fun t => !(t.2.2 == 0)) := by
  have pm := perm_isort L
  have nd : ((isortB le3 L).map key).Nodup := (pm.map key).nodup_iff.mpr h.nd
  have tr : ∀ a b c : T3, le3 a b = true → le3 b c = true → le3 a c = true := fun a b c x y => by
    rw [le3_iff] at *; omega
  have to : ∀ a b : T3, le3 a b = true ∨ le3 b a = true := fun a b => by
    rw [le3_iff, le3_iff]; omega
  have sr := isortB_sorted tr to L
  have sl : (isortB le3 L).Pairwise lt3 := by
    have nd' : (isortB le3 L).Pairwise (fun a b => key a ≠ key b) := List.pairwise_map.mp nd
    refine (List.pairwise_and_iff.mpr ⟨sr, nd'⟩).imp fun {a b} ⟨x, y⟩ => ?_
    rw [le3_iff] at x
    rw [lt3_iff]
    have : ¬ (a.1 = b.1 ∧ a.2.1 = b.2.1) := fun z => y (by simp [key, z])
    omega
  refine ⟨sl.filter _, ?_, fun t ht => ?_, ?_, ?_⟩
  · exact List.Nodup.sublist ((List.filter_sublist).map key) nd
  · have := (List.mem_filter.mp ht).2
    simpa using this
  · exact Nat.le_trans (List.length_filter_le _ _) (by rw [pm.length_eq]; have := h.len; omega)
  · exact Int.le_trans (sumA_filter _ _) (by rw [sumA_perm pm]; have := h.sum; omega)
/-! letters at a sum's table -/
theorem pure_pr (P : List T3) : D.pures (P.map pr) = true := pures_map fun t _ => rfl
theorem pure_mat (x y : Int) : D.pure (mat x y) = true := rfl
theorem counted (x y : Int) (t : T3) (m : Mem) : callS F_is_counted [mat x y, pr t] m = .ok (.bl (!(t.2.2 == 0))) m := callS_pure rfl rfl rfl
theorem zip_next {α : Type} {R : α → α → Prop} : ∀ (s : α) (r : List α), (s :: r).Pairwise R → ∀ z ∈ (s :: r).zip r, R z.1 z.2
  | s, [], _, z, hz => by simp at hz
  | s, t :: r, h, z, hz => by
    rw [List.zip_cons_cons] at hz
    rcases List.mem_cons.mp hz with rfl | hz
    · exact (List.pairwise_cons.mp h).1 t (by simp)
    · exact zip_next t r (List.pairwise_cons.mp h).2 z hz
theorem tabled {x y : Int} {P : List T3} (h : POk P) (m : Mem) : callS F_is_tabled [mat x y, .tup (P.map pr)] m = .ok (.bl true) m := by
  refine callS_pure (m1 := []) (by simp [pure_mat, pure_pr]) ?_ rfl
  show retF (b_is_tabled [some (mat x y), some (.tup (P.map pr)), none, none, none] []) = _
  have hl : P.length ≤ 16777216 := by have := h.len; omega
  have ab : ∀ n : Nat, DL.allB (List.replicate n true) = true := fun n => by
    induction n with
    | zero => rfl
    | succ n ih => simp [List.replicate_succ, DL.allB, ih]
  have bl : ∀ {α : Type} (L : List α), blsD (L.map fun _ => D.bl true) = some (List.replicate L.length true) := fun L => by
    induction L with
    | nil => rfl
    | cons a L ih => simp [blsD, ih, List.replicate_succ]
  have a1 : lcV (eVar 1) (pName 2) [2] bYes (eFn F_is_counted (aCons (eVar 0) (aCons (eVar 2) aNil))) [some (mat x y), some (.tup (P.map pr)), none, none, none] [] = .ok (P.map fun _ => D.bl true) [] := by
    rw [lcV_seq (d := .tup (P.map pr)) (by simp) rfl rfl, lcGo_map (L := P) (enc := pr) (g := fun _ => .bl true) (fun i _ => rfl) (by simp) hl (fun t ht => ⟨[(2, pr t)], rfl, rfl, by
      have : (t.2.2 == 0) = false := by simpa using h.nz t ht
      simp [counted, this]⟩)]
  have a2 : lcD (iZpD (aCons (eVar 1) (aCons (eSl (eVar 1) (pSo (eC (.int 1))) pNo) aNil))) (pTup [(pName 3), (pName 4)]) [3, 4] bYes (eOp oLt (eOp oIx (eVar 3) (eC (.int 0))) (eOp oIx (eVar 4) (eC (.int 0)))) [some (mat x y), some (.tup (P.map pr)), none, none, none] [] = .ok ((P.zip P.tail).map fun _ => D.bl true) [] := by
    cases P with
    | nil => rfl
    | cons s r =>
      have sl : oSl (.tup ((s :: r).map pr)) (some 1) none [] = some (.tup (r.map pr), []) := by
        have : DL.whole ((s :: r).map pr).length (some 1) none = false := by
          simp [DL.whole, HT.sIx]; rfl
        simp only [oSl, this]
        simp only [List.map_cons, cut_tail]
      have it : iZpD (aCons (eVar 1) (aCons (eSl (eVar 1) (pSo (eC (.int 1))) pNo) aNil)) [some (mat x y), some (.tup ((s :: r).map pr)), none, none, none] [] = .ok ⟨((s :: r).map pr).length, zpN (seqN (.tup ((s :: r).map pr))) (seqN (.tup (r.map pr)))⟩ [] := by
        simp only [iZpD, aCons_ap, eVar_z, eVar_s, aNil_ap, eSl_ap, pSo_ap, eC_ap, pNo_ap, Res.bind_ok, sl, liftO_some, itemsD, intD_int]
      rw [lcD_ap, it]
      simp only [Res.bind_ok]
      rw [lcGo_map (L := (s :: r).zip r) (enc := fun z => .tup [pr z.1, pr z.2]) (g := fun _ => .bl true) (fun i hi => by
        have h1 : i ≤ ((s :: r).map pr).length := by simp at hi ⊢; omega
        have h2 : i ≤ (r.map pr).length := by simp at hi ⊢; omega
        show zpC (atN ((s :: r).map pr) i) (atN (r.map pr) i) = _
        rw [zp_at h1 h2]
        congr 1
        rw [List.zipWith_map, List.map_zip_eq_zipWith]; rfl) (by simp; omega) (by simp at hl ⊢; omega) (fun z hz => ⟨[(3, pr z.1), (4, pr z.2)], rfl, rfl, by
          have := zip_next s r h.srt z hz
          have : ∀ m, oLt (.tup [.int z.1.1, .int z.1.2.1]) (.tup [.int z.2.1, .int z.2.2.1]) m = some (.bl true, m) := fun m => by
            show some (D.bl (HT.lexLt [z.1.1, z.1.2.1] [z.2.1, z.2.2.1]), m) = _
            rw [this]
          simp [pr, this]⟩)]
      rfl
  simp [b_is_tabled, a1, a2, qAll, bl, ab]
theorem sized {P : List T3} (h : POk P) (m : Mem) : callS F_size_by [.tup (P.map pr)] m = .ok (.int (sumA P)) m := by
  refine callS_pure (m1 := []) (by simp [pure_pr]) ?_ rfl
  show retF (b_size_by [some (.tup (P.map pr)), none, none] []) = _
  have hl : P.length ≤ 16777216 := by have := h.len; omega
  have a1 : lcV (eVar 0) (pTup [(pName 1), (pName 2)]) [1, 2] bYes (eCall (one vAbs) (aCons (eVar 2) aNil)) [some (.tup (P.map pr)), none, none] [] = .ok (P.map fun t => D.int t.2.2.natAbs) [] := by
    rw [lcV_seq (d := .tup (P.map pr)) (by simp) rfl rfl, lcGo_map (L := P) (enc := pr) (g := fun t => .int t.2.2.natAbs) (fun i _ => rfl) (by simp) hl (fun t ht => ⟨[(1, .tup [.int t.1, .int t.2.1]), (2, .int t.2.2)], rfl, rfl, by
      have : (match decide (t.2.2 < 0) with | true => -t.2.2 | false => t.2.2) = (t.2.2.natAbs : Int) := by
        by_cases h : t.2.2 < 0
        · rw [decide_eq_true h]; show -t.2.2 = _; omega
        · rw [decide_eq_false h]; show t.2.2 = _; omega
      show eCall (one vAbs) (aCons (eVar 2) aNil) [some (.tup (P.map pr)), some (.tup [.int t.1, .int t.2.1]), some (.int t.2.2)] [] = _
      simp only [eCall_ap, aCons_ap, eVar_s, eVar_z, aNil_ap, Res.bind_ok, one_ap, vAbs, intD_int, liftO_some]
      exact congrArg (fun z => Res.ok (D.int z) []) this⟩)]
  have s : ∀ P : List T3, sumI (P.map fun t => ((t.2.2.natAbs : Nat) : Int)) = sumA P := fun P => by
    induction P with
    | nil => rfl
    | cons t r ih => simp only [List.map_cons, sumI, sumA, ih]
  have i : intsD (P.map fun t => D.int t.2.2.natAbs) = some (P.map fun t => ((t.2.2.natAbs : Nat) : Int)) := by
    have := intsD_of (P.map fun t => ((t.2.2.natAbs : Nat) : Int))
    rw [List.map_map] at this; exact this
  simp [b_size_by, a1, qSum, i, s]
theorem table_ok {x y : Int} {P : List T3} (h : POk P) (m : Mem) : callS F_check_table [mat x y, .tup (P.map pr)] m = .ok .non m := by
  refine callS_pure (m1 := []) (by simp [pure_mat, pure_pr]) ?_ rfl
  show retF (b_check_table [some (mat x y), some (.tup (P.map pr))] []) = _
  have hs : decide (1000 < sumA P) = false := by have := h.sum; simp; omega
  simp [b_check_table, tabled h, sized h, hs]
theorem smalls : (ms.all fun z => match F_check_small [mat z.1 z.2] [] with | .ok .non _ => true | _ => false) = true := by decide +kernel
theorem small_ok {x y : Int} (h : (x, y) ∈ ms) (m : Mem) : callS F_check_small [mat x y] m = .ok .non m := by
  have t := List.all_eq_true.mp smalls _ h
  cases e : F_check_small [mat x y] [] with
  | ok d m1 => cases d <;> simp [e] at t <;> exact callS_pure rfl e rfl
  | exc c d m1 => simp [e] at t
  | bad => simp [e] at t
end K57

set_option Elab.async false
set_option linter.all false
set_option maxRecDepth 100000
set_option maxHeartbeats 4000000
namespace K57
open PySem PySem.Spec PyProof.Rows L2
open DL
/-! a number's text, as both readers take it -/
def numD (t : List Nat) : List D := match numT t with
  | some n => [.int n]
  | none => []
theorem c_to1 {α : Type} (t : List α) : cutD t none (some 1) = t.take 1 := cut_to t 1
theorem c_from1 {α : Type} (t : List α) : cutD t (some 1) none = t.drop 1 := cut_from t 1
theorem body_le (t : List Nat) : (body t).length ≤ t.length := by
  unfold body; split
  · simp
  · exact Nat.le_refl _
theorem wr_log {t : List Nat} {n : Int} (h : wrB t = true) (hl : t.length ≤ 560) (hn : PySem.intText? (sxOf t) = some n) : n.natAbs.log2 < 1920 := by
  obtain ⟨h1, h2⟩ := Bool.and_eq_true_iff.mp h
  have dv : ∀ cs : List Nat, (∀ c ∈ cs, 48 ≤ c ∧ c ≤ 57) → PySem.NumText.digitsVal cs < 10 ^ cs.length := fun cs => by
    have rv : ∀ rs : List Nat, (∀ c ∈ rs, 48 ≤ c ∧ c ≤ 57) → PySem.NumText.digitsVal rs.reverse < 10 ^ rs.length := fun rs => by
      induction rs with
      | nil => intro _; decide
      | cons a r ih =>
        intro h
        rw [List.reverse_cons, PySem.NumText.digitsVal_snoc]
        have := ih fun c hc => h c (by simp [hc])
        have := h a (by simp)
        rw [List.length_cons, Nat.pow_succ]; omega
    intro h
    have := rv cs.reverse fun c hc => h c (by simpa using hc)
    simpa using this
  have lg : ∀ v k : Nat, v < 10 ^ k → k ≤ 570 → v.log2 < 1920 := fun v k hv hk => by
    by_cases z : v = 0
    · rw [z]; decide
    · rw [Nat.log2_lt z]
      refine Nat.lt_of_lt_of_le hv ?_
      calc 10 ^ k ≤ 10 ^ 570 := Nat.pow_le_pow_right (by decide) hk
        _ ≤ 2 ^ 1920 := by decide +kernel
  have d : ∀ c ∈ body t, 48 ≤ c ∧ c ≤ 57 := fun c hc => (isDg_iff c).mp (List.all_eq_true.mp h2 c hc)
  have ne : body t ≠ [] := fun e => by rw [e] at h1; cases h1
  have bl := body_le t
  unfold body at d ne bl
  split at d
  · next e =>
    rw [if_pos e] at ne
    have e2 : t = 45 :: t.drop 1 := by
      cases t with
      | nil => cases e
      | cons a r => simp at e; subst e; rfl
    have := intText_neg (x := sxOf t) (cs := t.drop 1) e2 d ne (by rw [sx_len]; omega)
    rw [this] at hn
    cases hn
    have := lg _ _ (dv _ d) (by simp; omega)
    rwa [Int.natAbs_neg, Int.natAbs_natCast]
  · next e =>
    rw [if_neg e] at ne
    have := intText_digits (x := sxOf t) d ne (by rw [sx_len]; omega)
    rw [this, tl_sx] at hn
    cases hn
    have := lg _ _ (dv _ d) (by omega)
    rwa [Int.natAbs_natCast]
theorem told_res {t : List Nat} (hf : t.length ≤ 100000) (hl : wrB t = true → t.length ≤ 560) : F_whole_told [.str t] [] = .ok (.ref 0) [.lst (numD t)] := by
  show retF (b_whole_told [some (.str t), none, none] []) = _
  have hf' : t.length ≤ 16777216 := by omega
  have bl := body_le t
  unfold b_whole_told
  rw [sSeq_ap]
  have e1 : sSet 1 (eIf (bOf (eOp oEq (eSl (eVar 0) pNo (pSo (eC (.int 1)))) (eC (.str [45])))) (eSl (eVar 0) (pSo (eC (.int 1))) pNo) (eVar 0)) [some (.str t), none, none] [] = some (.nx [some (.str t), some (.str (body t)), none], []) := by
    unfold body
    by_cases h : t.take 1 = [45] <;> simp [oSl_str hf', c_to1, c_from1, h]
  rw [e1]
  simp only [seqK_nx]
  have e2 : eCallL qAll (lcV (eVar 1) (pName 2) [2] bYes (eOp oIn (eVar 2) (eC (.str [48, 49, 50, 51, 52, 53, 54, 55, 56, 57])))) [some (.str t), some (.str (body t)), none] [] = .ok (.bl ((body t).all isDg)) [] := all_dig (by simp) (by simp) (by omega)
  by_cases h0 : body t = []
  · have hn : numT t = none := by simp [numT, wrB, h0]
    simp [h0, numD, hn]
  · rw [sSeq_ap, sIf_ap]
    simp only [bOr_ap, bOf_ap, eOp_ap, eVar_s, eVar_z, eC_ap, Res.bind_ok, oEq_str, liftO_some, decide_eq_false h0, bNot_ap, bTru_ap, e2, truD_bl]
    by_cases ha : (body t).all isDg = true
    · have hw : wrB t = true := by
        unfold wrB; rw [ha]
        cases q : body t with
        | nil => exact absurd q h0
        | cons a r => rfl
      obtain ⟨n, hn⟩ := wr_some hw (by have := hl hw; omega)
      have lg := wr_log hw (hl hw) hn
      have vi : ∀ m, vIntS (.str t) m = some (.int n, m) := fun m => vIntS_str (by have := hl hw; omega) hn
      by_cases hs : strI n = t
      · have nt : numT t = some n := by simp [numT, hw, hn, hs]
        simp [ha, vi, fmt_int lg, hs, numD, nt]
      · have nt : numT t = none := by simp [numT, hw, hn, hs]
        simp [ha, vi, fmt_int lg, hs, numD, nt]
    · have ha' : (body t).all isDg = false := by simpa using ha
      have nt : numT t = none := by simp [numT, wrB, ha']
      simp [ha', numD, nt]
theorem whole_told {t : List Nat} {m : Mem} (hf : t.length ≤ 100000) (hl : wrB t = true → t.length ≤ 560) : callS F_whole_told [.str t] m = .ok (.ref m.length) (m ++ [.lst (numD t)]) := by
  rw [callS_ref (k := 0) rfl (told_res hf hl)]
  have : MO.sh m.length (.lst (numD t)) = .lst (numD t) := by
    unfold numD
    split <;> rfl
  simp [this]
/-! the law's own reader of a number -/
def numL (t : List Nat) : D := if (body t).length ≤ 400 then (match numT t with
  | some n => .int n
  | none => .non) else .non
theorem law_whole {t : List Nat} {m : Mem} (hf : t.length ≤ 100000) : callS F__law_whole [.str t] m = .ok (numL t) m := by
  refine callS_pure (m1 := []) rfl ?_ (by unfold numL; split; split <;> rfl; rfl)
  show retF (b__law_whole [some (.str t), none, none] []) = _
  have hf' : t.length ≤ 16777216 := by omega
  have bl := body_le t
  unfold b__law_whole
  rw [sSeq_ap]
  have e1 : sSet 1 (eIf (bOf (eOp oEq (eSl (eVar 0) pNo (pSo (eC (.int 1)))) (eC (.str [45])))) (eSl (eVar 0) (pSo (eC (.int 1))) pNo) (eVar 0)) [some (.str t), none, none] [] = some (.nx [some (.str t), some (.str (body t)), none], []) := by
    unfold body
    by_cases h : t.take 1 = [45] <;> simp [oSl_str hf', c_to1, c_from1, h]
  rw [e1]
  simp only [seqK_nx]
  have e2 : eCallL qAll (lcV (eVar 1) (pName 2) [2] bYes (eOp oIn (eVar 2) (eC (.str [48, 49, 50, 51, 52, 53, 54, 55, 56, 57])))) [some (.str t), some (.str (body t)), none] [] = .ok (.bl ((body t).all isDg)) [] := all_dig (by simp) (by simp) (by omega)
  have ln : ∀ m, vLen (.str (body t)) m = some (.int (body t).length, m) := fun m => vLen_str (by omega)
  by_cases h0 : body t = []
  · have hn : numT t = none := by simp [numT, wrB, h0]
    simp [h0, numL, hn]
  · rw [sSeq_ap, sIf_ap]
    simp only [bOr_ap, bOf_ap, eOp_ap, eVar_s, eVar_z, eC_ap, Res.bind_ok, oEq_str, liftO_some, decide_eq_false h0, eCall_ap, aCons_ap, aNil_ap, one_ap, ln, oGt_int, bNot_ap, bTru_ap, e2, truD_bl]
    by_cases h4 : (body t).length ≤ 400
    · have g4 : decide ((400 : Int) < ((body t).length : Int)) = false := by simp; omega
      simp only [g4]
      by_cases ha : (body t).all isDg = true
      · have hw : wrB t = true := by
          unfold wrB; rw [ha]
          cases q : body t with
          | nil => exact absurd q h0
          | cons a r => rfl
        have hl : t.length ≤ 401 := by have := body_len t; omega
        obtain ⟨n, hn⟩ := wr_some hw (by omega)
        have lg := wr_log hw (by omega) hn
        have vi : ∀ m, vIntS (.str t) m = some (.int n, m) := fun m => vIntS_str (by omega) hn
        by_cases hs : strI n = t
        · have nt : numT t = some n := by simp [numT, hw, hn, hs]
          simp [ha, vi, str_int lg, hs, numL, nt, h4]
        · have nt : numT t = none := by simp [numT, hw, hn, hs]
          simp [ha, vi, str_int lg, hs, numL, nt, h4]
      · have ha' : (body t).all isDg = false := by simpa using ha
        have nt : numT t = none := by simp [numT, wrB, ha']
        simp [ha', numL, nt]
    · have g4 : decide ((400 : Int) < ((body t).length : Int)) = true := by simp; omega
      simp [g4, numL, h4]
end K57

set_option Elab.async false
set_option linter.all false
set_option maxRecDepth 100000
set_option maxHeartbeats 4000000
namespace K57
open PySem PySem.Spec PyProof.Rows L2
open DL
def M0 : List Nat := [60, 116, 101, 120, 116, 32, 120, 61, 34]
def M1 : List Nat := [34, 32, 121, 61, 34]
def M2 : List Nat := [34, 62]
def M3 : List Nat := [60, 47, 116, 101, 120, 116, 62]
def dg (l : List Nat) : Nat := l.countP isDg
def lapT (M A l : List Nat) : Option (Int × List Nat) := if l.take M.length = M then (if 0 ≤ fnd l A M.length then (match numT ((l.take (fnd l A M.length).toNat).drop M.length) with
    | some n => some (n, l.drop (fnd l A M.length).toNat)
    | none => none) else none) else none
theorem wr_dg {t l : List Nat} {n : Nat} (h : t.Sublist l) (hd : dg l ≤ n) (hw : wrB t = true) : t.length ≤ n + 1 := by
  obtain ⟨h1, h2⟩ := Bool.and_eq_true_iff.mp hw
  have a : (body t).countP isDg = (body t).length := List.countP_eq_length.mpr fun c hc => List.all_eq_true.mp h2 c hc
  have b : (body t).Sublist t := by
    unfold body; split
    · exact List.drop_sublist _ _
    · exact List.Sublist.refl _
  have c := (b.trans h).countP_le (p := isDg)
  have := body_len t
  unfold dg at hd
  omega
abbrev b_lap : FS := (sSeq (sSet 5 (eIf (bOf (eOp oEq (eSl (eVar 2) pNo (pSo (eCall (one vLen) (aCons (eVar 3) aNil)))) (eVar 3))) (eMt "str" mFind (eVar 2) (aCons (eVar 4) (aCons (eCall (one vLen) (aCons (eVar 3) aNil)) aNil))) (eUn oNeg (eC (.int 1)))))
    (sSeq (sSet 6 (eIf (bOf (eOp oGeT (eVar 5) (eC (.int 0)))) (eFn F_whole_told (aCons (eSl (eVar 2) (pSo (eCall (one vLen) (aCons (eVar 3) aNil))) (pSo (eVar 5))) aNil)) (eLst aNil)))
    (sSeq (sIf (bOf (eOp oEq (eVar 6) (eLst aNil))) (sRet (eLst aNil)) sNop)
    (sPar 1 2 (eOp oAdd (eVar 1) (eVar 6)) (eSl (eVar 2) (pSo (eVar 5)) pNo)))))
theorem int_case (i : Int) : (∃ k : Nat, i = (k : Int)) ∨ i < 0 := by
  by_cases h : 0 ≤ i
  · exact .inl (Int.eq_ofNat_of_zero_le h)
  · exact .inr (by omega)
theorem lap_none {M A l : List Nat} {line c5 c6 : Option D} {f : Nat} {m : Mem} (hM : M.length ≤ 1000) (hl : l.length ≤ 100000) (hd : dg l ≤ 500) (h : lapT M A l = none) :
    ∃ k m', b_lap [line, some (.ref f), some (.str l), some (.str M), some (.str A), c5, c6] m = some (.rt (.ref k), m') ∧ m'[k]? = some (.lst []) := by
  have lM : ∀ m, vLen (.str M) m = some (.int (M.length : Nat), m) := fun m => vLen_str (by omega)
  have sl : ∀ lo hi m, oSl (.str l) lo hi m = some (.str (cutD l lo hi), m) := fun lo hi m => oSl_str (by omega)
  have nn : ∀ m : Mem, eqD (m ++ [MO.lst [], MO.lst []]) (.ref m.length) (.ref (m.length + 1)) = some true := fun m => by
    have := eq_ints_nil (m := m ++ [MO.lst [], MO.lst []]) (g := m.length) (k := m.length + 1) (gs := []) (by simp) (by simp)
    simpa using this
  have on : ∀ m : Mem, oEq (.ref m.length) (.ref (m.length + 1)) (m ++ [MO.lst [], MO.lst []]) = some (.bl true, m ++ [MO.lst [], MO.lst []]) := fun m => by
    simp only [oEq, nn]
  unfold lapT at h
  by_cases h1 : l.take M.length = M
  · rw [if_pos h1] at h
    rcases int_case (fnd l A M.length) with ⟨e, he⟩ | hn
    · have he' : Txt.find3 (sxOf l) (sxOf A) (M.length : Int) = (e : Int) := he
      rw [if_pos (by omega), he] at h
      have hnum : numD ((l.take e).drop M.length) = [] := by
        unfold numD
        cases q : numT ((l.take e).drop M.length) with
        | none => rfl
        | some n => simp [q] at h
      have wt : ∀ m, callS F_whole_told [.str ((l.take e).drop M.length)] m = .ok (.ref m.length) (m ++ [.lst (numD ((l.take e).drop M.length))]) := fun m => whole_told (by simp; omega) fun w => by
        have := wr_dg (((List.drop_sublist _ _).trans (List.take_sublist _ _) : ((l.take e).drop M.length).Sublist l)) hd w
        omega
      refine ⟨m.length + 2, m ++ [.lst [], .lst [], .lst []], ?_, by simp⟩
      simp [lM, sl, cut_to, cut_mid, h1, he', wt, hnum, on]
    · have hn' : Txt.find3 (sxOf l) (sxOf A) (M.length : Int) < 0 := hn
      have g : decide (0 ≤ Txt.find3 (sxOf l) (sxOf A) (M.length : Int)) = false := by simp; omega
      refine ⟨m.length + 2, m ++ [.lst [], .lst [], .lst []], ?_, by simp⟩
      simp [lM, sl, cut_to, h1, g, on]
  · refine ⟨m.length + 2, m ++ [.lst [], .lst [], .lst []], ?_, by simp⟩
    simp [lM, sl, cut_to, h1, on]
theorem lap_some {M A l l' : List Nat} {n : Int} {line c5 c6 : Option D} {f : Nat} {fs : List Int} {m : Mem} (hM : M.length ≤ 1000) (hl : l.length ≤ 100000) (hd : dg l ≤ 500) (hf : m[f]? = some (.lst (fs.map .int))) (hfs : fs.length ≤ 100) (h : lapT M A l = some (n, l')) :
    ∃ f' c5' c6' m', b_lap [line, some (.ref f), some (.str l), some (.str M), some (.str A), c5, c6] m = some (.nx [line, some (.ref f'), some (.str l'), some (.str M), some (.str A), c5', c6'], m') ∧ m'[f']? = some (.lst ((fs ++ [n]).map .int)) := by
  have lM : ∀ m, vLen (.str M) m = some (.int (M.length : Nat), m) := fun m => vLen_str (by omega)
  have sl : ∀ lo hi m, oSl (.str l) lo hi m = some (.str (cutD l lo hi), m) := fun lo hi m => oSl_str (by omega)
  unfold lapT at h
  by_cases h1 : l.take M.length = M
  · rw [if_pos h1] at h
    rcases int_case (fnd l A M.length) with ⟨e, he⟩ | hn
    · have he' : Txt.find3 (sxOf l) (sxOf A) (M.length : Int) = (e : Int) := he
      rw [if_pos (by omega), he] at h
      have hnt : numT ((l.take e).drop M.length) = some n ∧ l' = l.drop e := by
        cases q : numT ((l.take e).drop M.length) with
        | none => simp [q] at h
        | some n' => simp [q] at h; exact ⟨by rw [h.1], h.2.symm⟩
      obtain ⟨hnt, rfl⟩ := hnt
      have hnum : numD ((l.take e).drop M.length) = [.int n] := by unfold numD; rw [hnt]
      have wt : ∀ m, callS F_whole_told [.str ((l.take e).drop M.length)] m = .ok (.ref m.length) (m ++ [.lst (numD ((l.take e).drop M.length))]) := fun m => whole_told (by simp; omega) fun w => by
        have := wr_dg (((List.drop_sublist _ _).trans (List.take_sublist _ _) : ((l.take e).drop M.length).Sublist l)) hd w
        omega
      have ne : eqD (m ++ [MO.lst [D.int n], MO.lst []]) (.ref m.length) (.ref (m.length + 1)) = some false := by
        have := eq_ints_nil (m := m ++ [MO.lst [D.int n], MO.lst []]) (g := m.length) (k := m.length + 1) (gs := [n]) (by simp) (by simp)
        simpa using this
      have on : oEq (.ref m.length) (.ref (m.length + 1)) (m ++ [MO.lst [D.int n], MO.lst []]) = some (.bl false, m ++ [MO.lst [D.int n], MO.lst []]) := by
        simp only [oEq, ne]
      have hf2 := mem_app (m1 := [MO.lst [D.int n], MO.lst []]) hf
      refine ⟨m.length + 2, some (.int (e : Int)), some (.ref m.length), m ++ [.lst [.int n], .lst [], .lst ((fs ++ [n]).map .int)], ?_, by simp⟩
      have ad : oAdd (.ref f) (.ref m.length) (m ++ [MO.lst [D.int n], MO.lst []]) = some (.ref (m.length + 2), m ++ [.lst [.int n], .lst [], .lst ((fs ++ [n]).map .int)]) := by
        have h4 : decide (fs.length ≤ 16777215) = true := by simp; omega
        simp [oAdd, mlst_ref, hf2, h4]
      simp [lM, sl, cut_to, cut_mid, cut_from, h1, he', wt, hnum, on, ad]
    · rw [if_neg (by omega)] at h; cases h
  · rw [if_neg h1] at h; cases h
def nums (s : List Nat) : Option (Int × Int × Int) := match lapT M0 M1 s with
  | none => none
  | some (x, l1) => match lapT M1 M2 l1 with
    | none => none
    | some (y, l2) => match lapT M2 M3 l2 with
      | none => none
      | some (c, l3) => if l3 = M3 then some (x, y, c) else none
def numsD (s : List Nat) : List D := match nums s with
  | some (x, y, c) => [.int x, .int y, .int c]
  | none => []
theorem lap_sub {M A l l' : List Nat} {n : Int} (h : lapT M A l = some (n, l')) : l'.Sublist l := by
  unfold lapT at h
  split at h
  · split at h
    · split at h
      · cases h; exact List.drop_sublist _ _
      · cases h
    · cases h
  · cases h
theorem sub_ok {l l' : List Nat} (h : l'.Sublist l) {a b : Nat} (hl : l.length ≤ a) (hd : dg l ≤ b) : l'.length ≤ a ∧ dg l' ≤ b := by
  have := h.length_le
  have := h.countP_le (p := isDg)
  unfold dg at *
  omega
def zipM (l : List Nat) : Nxt := zpN (seqN t_MARKS) (seqN (.tup [.str M1, .str M2, .str M3]))
theorem numbers_res {s : List Nat} (hl : s.length ≤ 100000) (hd : dg s ≤ 500) : ∃ k m1, F_numbers_in [.str s] [] = .ok (.ref k) m1 ∧ m1[k]? = some (.lst (numsD s)) := by
  show ∃ k m1, retF (b_numbers_in [some (.str s), none, none, none, none, none, none] []) = .ok (.ref k) m1 ∧ _
  unfold b_numbers_in
  rw [sSeq_ap]
  have e1 : sPar 1 2 (eLst aNil) (eVar 0) [some (.str s), none, none, none, none, none, none] [] = some (.nx [some (.str s), some (.ref 0), some (.str s), none, none, none, none], [.lst []]) := rfl
  rw [e1]
  simp only [seqK_nx]
  rw [sSeq_ap, sFor_ap]
  have it : iZpD (aCons (eC t_MARKS) (aCons (eSl (eC t_MARKS) (pSo (eC (.int 1))) pNo) aNil)) [some (.str s), some (.ref 0), some (.str s), none, none, none, none] [.lst []] = .ok ⟨4, zipM s⟩ [.lst []] := rfl
  rw [it]
  simp only [Res.toS_ok]
  have u : ∀ (k i : Nat) (ρ : DL.Env) (m : Mem) (a b : List Nat), zipM s i m = .item (.tup [.str a, .str b]) → forGo (zipM s) (pTup [(pName 3), (pName 4)]) b_lap (k + 1) i ρ m = match b_lap ((ρ.set 3 (some (.str a))).set 4 (some (.str b))) m with
        | some (.nx ρ2, m2) => forGo (zipM s) (pTup [(pName 3), (pName 4)]) b_lap k (i + 1) ρ2 m2
        | some (.ct ρ2, m2) => forGo (zipM s) (pTup [(pName 3), (pName 4)]) b_lap k (i + 1) ρ2 m2
        | some (.bk ρ2, m2) => some (.nx ρ2, m2)
        | r => r := fun k i ρ m a b h => by
    rw [forGo, h]; rfl
  have z0 : ∀ m, zipM s 0 m = .item (.tup [.str M0, .str M1]) := fun m => rfl
  have z1 : ∀ m, zipM s (0 + 1) m = .item (.tup [.str M1, .str M2]) := fun m => rfl
  have z2 : ∀ m, zipM s (0 + 1 + 1) m = .item (.tup [.str M2, .str M3]) := fun m => rfl
  have z3 : ∀ m, zipM s (0 + 1 + 1 + 1) m = .stop := fun m => rfl
  rw [u _ _ _ _ _ _ (z0 _)]
  simp only [List.set_cons_succ, List.set_cons_zero]
  cases q1 : lapT M0 M1 s with
  | none =>
    obtain ⟨k, m', e, h⟩ := lap_none (line := some (.str s)) (c5 := none) (c6 := none) (f := 0) (m := [.lst []]) (by decide) hl hd q1
    rw [e]
    refine ⟨k, m', rfl, ?_⟩
    rw [h]; simp [numsD, nums, q1]
  | some r1 =>
  obtain ⟨x, l1⟩ := r1
  obtain ⟨f1, c5, c6, m1, e, h1⟩ := lap_some (line := some (.str s)) (c5 := none) (c6 := none) (f := 0) (fs := []) (m := [.lst []]) (by decide) hl hd rfl (by simp) q1
  obtain ⟨hl1, hd1⟩ := sub_ok (lap_sub q1) hl hd
  rw [e]
  simp only []
  rw [u _ _ _ _ _ _ (z1 _)]
  simp only [List.set_cons_succ, List.set_cons_zero]
  cases q2 : lapT M1 M2 l1 with
  | none =>
    obtain ⟨k, m', e, h⟩ := lap_none (line := some (.str s)) (c5 := c5) (c6 := c6) (f := f1) (m := m1) (by decide) hl1 hd1 q2
    rw [e]
    refine ⟨k, m', rfl, ?_⟩
    rw [h]; simp [numsD, nums, q1, q2]
  | some r2 =>
  obtain ⟨y, l2⟩ := r2
  obtain ⟨f2, c5, c6, m2, e, h2⟩ := lap_some (line := some (.str s)) (c5 := c5) (c6 := c6) (f := f1) (fs := [] ++ [x]) (m := m1) (by decide) hl1 hd1 h1 (by simp) q2
  obtain ⟨hl2, hd2⟩ := sub_ok (lap_sub q2) hl1 hd1
  rw [e]
  simp only []
  rw [u _ _ _ _ _ _ (z2 _)]
  simp only [List.set_cons_succ, List.set_cons_zero]
  cases q3 : lapT M2 M3 l2 with
  | none =>
    obtain ⟨k, m', e, h⟩ := lap_none (line := some (.str s)) (c5 := c5) (c6 := c6) (f := f2) (m := m2) (by decide) hl2 hd2 q3
    rw [e]
    refine ⟨k, m', rfl, ?_⟩
    rw [h]; simp [numsD, nums, q1, q2, q3]
  | some r3 =>
  obtain ⟨c, l3⟩ := r3
  obtain ⟨f3, c5, c6, m3, e, h3⟩ := lap_some (line := some (.str s)) (c5 := c5) (c6 := c6) (f := f2) (fs := [] ++ [x] ++ [y]) (m := m2) (by decide) hl2 hd2 h2 (by simp) q3
  rw [e]
  simp only []
  rw [forGo, z3]
  simp only [seqK_nx]
  have ix : ∀ (m : Mem), oIx t_MARKS (.int (-1)) m = some (.str M3, m) := fun m => rfl
  have hn : nums s = if l3 = M3 then some (x, y, c) else none := by simp [nums, q1, q2, q3]
  by_cases hq : l3 = M3
  · refine ⟨f3, m3, ?_, ?_⟩
    · rw [sRet_ap, eIf_ap, bOf_ap, eOp_ap]
      simp [ix, hq]
    · rw [h3]; simp [numsD, hn, hq]
  · refine ⟨m3.length, m3 ++ [.lst []], ?_, ?_⟩
    · rw [sRet_ap, eIf_ap, bOf_ap, eOp_ap]
      simp [ix, hq]
    · simp [numsD, hn, hq]
theorem numbers_in {s : List Nat} {m : Mem} (hl : s.length ≤ 100000) (hd : dg s ≤ 500) : ∃ k j, callS F_numbers_in [.str s] m = .ok (.ref (m.length + k)) (m ++ j) ∧ (m ++ j)[m.length + k]? = some (.lst (numsD s)) := by
  obtain ⟨k, m1, e, h⟩ := numbers_res hl hd
  refine ⟨k, m1.map (MO.sh m.length), callS_ref rfl e, ?_⟩
  rw [List.getElem?_append_right (by omega), Nat.add_sub_cancel_left, List.getElem?_map, h]
  have : MO.sh m.length (.lst (numsD s)) = .lst (numsD s) := by
    unfold numsD
    split <;> rfl
  simp [this]
end K57

set_option Elab.async false
set_option linter.all false
set_option maxRecDepth 100000
set_option maxHeartbeats 4000000
namespace K57
open PySem PySem.Spec PyProof.Rows L2
open DL
def lineL (x y c : Int) : List Nat := M0 ++ (strI x ++ (M1 ++ (strI y ++ (M2 ++ (strI c ++ M3)))))
theorem lap_of {M A l l' : List Nat} {n : Int} (hA : A ≠ []) (h : lapT M A l = some (n, l')) : l = M ++ (strI n ++ l') ∧ ∃ r, l' = A ++ r := by
  unfold lapT at h
  by_cases h1 : l.take M.length = M
  · rw [if_pos h1] at h
    by_cases h2 : 0 ≤ fnd l A M.length
    · rw [if_pos h2] at h
      obtain ⟨k, r, e, hk, hr⟩ := fnd_of (s := l) (t := A) (i := M.length) hA h2
      rw [e] at h
      have et : ((k : Int)).toNat = k := by omega
      rw [et] at h
      cases q : numT ((l.take k).drop M.length) with
      | none => simp [q] at h
      | some n' =>
        simp [q] at h
        obtain ⟨rfl, rfl⟩ := h
        have s1 := numT_some q
        refine ⟨?_, r, hr⟩
        rw [← s1]
        have : l.take k = M ++ (l.take k).drop M.length := by
          have := List.take_append_drop M.length (l.take k)
          rw [List.take_take, Nat.min_eq_left hk, h1] at this
          exact this.symm
        rw [← List.append_assoc, ← this, List.take_append_drop]
    · rw [if_neg h2] at h; cases h
  · rw [if_neg h1] at h; cases h
theorem lap_hit {M p r : List Nat} {q : Nat} {n : Int} (hq : q ∉ strI n) (hl : (strI n).length ≤ 4300) : lapT M (q :: p) (M ++ (strI n ++ (q :: p ++ r))) = some (n, q :: p ++ r) := by
  have f := fnd_hit (m := M) (a := strI n) (r := r) (p := p) (q := q) hq
  unfold lapT
  rw [f, if_pos (by simp), if_pos (by omega)]
  have et : (((M.length + (strI n).length : Nat) : Int)).toNat = M.length + (strI n).length := by omega
  rw [et]
  have t1 : (M ++ (strI n ++ (q :: p ++ r))).take (M.length + (strI n).length) = M ++ strI n := by
    rw [← List.append_assoc, show M.length + (strI n).length = (M ++ strI n).length by simp, List.take_left]
  have t2 : (M ++ (strI n ++ (q :: p ++ r))).drop (M.length + (strI n).length) = q :: p ++ r := by
    rw [← List.append_assoc, show M.length + (strI n).length = (M ++ strI n).length by simp, List.drop_left]
  rw [t1, t2, List.drop_left, numT_strI hl]
theorem free34 (n : Int) : 34 ∉ strI n := fun h => by have := strI_sign n 34 h; omega
theorem free60 (n : Int) : 60 ∉ strI n := fun h => by have := strI_sign n 60 h; omega
theorem nums_of {s : List Nat} {x y c : Int} (h : nums s = some (x, y, c)) : s = lineL x y c := by
  unfold nums at h
  cases q1 : lapT M0 M1 s with
  | none => simp [q1] at h
  | some r1 =>
  obtain ⟨x', l1⟩ := r1
  cases q2 : lapT M1 M2 l1 with
  | none => simp [q1, q2] at h
  | some r2 =>
  obtain ⟨y', l2⟩ := r2
  cases q3 : lapT M2 M3 l2 with
  | none => simp [q1, q2, q3] at h
  | some r3 =>
  obtain ⟨c', l3⟩ := r3
  simp only [q1, q2, q3] at h
  by_cases hq : l3 = M3
  · rw [if_pos hq] at h
    cases h
    have a1 := (lap_of (by simp [M1]) q1).1
    have a2 := (lap_of (by simp [M2]) q2).1
    have a3 := (lap_of (by simp [M3]) q3).1
    rw [a1, a2, a3, hq]; rfl
  · rw [if_neg hq] at h; cases h
theorem nums_line {x y c : Int} (hx : (strI x).length ≤ 4300) (hy : (strI y).length ≤ 4300) (hc : (strI c).length ≤ 4300) : nums (lineL x y c) = some (x, y, c) := by
  have a1 : lapT M0 M1 (lineL x y c) = some (x, M1 ++ (strI y ++ (M2 ++ (strI c ++ M3)))) := lap_hit (M := M0) (q := 34) (p := [32, 121, 61, 34]) (free34 x) hx
  have a2 : lapT M1 M2 (M1 ++ (strI y ++ (M2 ++ (strI c ++ M3)))) = some (y, M2 ++ (strI c ++ M3)) := lap_hit (M := M1) (q := 34) (p := [62]) (free34 y) hy
  have a3 : lapT M2 M3 (M2 ++ (strI c ++ M3)) = some (c, M3) := by
    have := lap_hit (M := M2) (q := 60) (p := [47, 116, 101, 120, 116, 62]) (r := []) (free60 c) hc
    rw [List.append_nil] at this
    exact this
  simp [nums, a1, a2, a3]
theorem line_inj {x y c x' y' c' : Int} (h : lineL x y c = lineL x' y' c') (hx : (strI x).length ≤ 4300) (hy : (strI y).length ≤ 4300) (hc : (strI c).length ≤ 4300) (hx' : (strI x').length ≤ 4300) (hy' : (strI y').length ≤ 4300) (hc' : (strI c').length ≤ 4300) : x = x' ∧ y = y' ∧ c = c' := by
  have a := nums_line hx hy hc
  rw [h, nums_line hx' hy' hc'] at a
  cases a
  exact ⟨rfl, rfl, rfl⟩
/-! the law's words -/
def wds (x y c : Int) : List (List Nat) := [[60, 116, 101, 120, 116, 32, 120, 61], strI x, [32, 121, 61], strI y, 62 :: (strI c ++ M3)]
theorem line_cut (x y c : Int) : cutC 34 (lineL x y c) = wds x y c := by
  have e : lineL x y c = joinN [34] (wds x y c) := by
    simp [lineL, wds, joinN, M0, M1, M2, M3]
  rw [e]
  refine cutC_of (by simp [wds]) ?_
  intro w hw
  simp [wds] at hw
  have := free34 x; have := free34 y; have := free34 c
  rcases hw with rfl | rfl | rfl | rfl | rfl
  · decide
  · assumption
  · decide
  · assumption
  · simp [M3]; assumption
/-- the law's three numbers -/
def lawN (s : List Nat) : Option (List D) := match cutC 34 s with
  | [_, a, _, b, c] => some [numL a, numL b, numL ((c.take (c.length - 7)).drop 1)]
  | _ => none
theorem body_dg {t l : List Nat} {n : Nat} (h : t.Sublist l) (hd : dg l ≤ n) (hw : wrB t = true) : (body t).length ≤ n := by
  obtain ⟨h1, h2⟩ := Bool.and_eq_true_iff.mp hw
  have a : (body t).countP isDg = (body t).length := List.countP_eq_length.mpr fun c hc => List.all_eq_true.mp h2 c hc
  have b : (body t).Sublist t := by
    unfold body; split
    · exact List.drop_sublist _ _
    · exact List.Sublist.refl _
  have c := (b.trans h).countP_le (p := isDg)
  unfold dg at hd
  omega
theorem numL_strI {n : Int} {l : List Nat} (h : (strI n).Sublist l) (hd : dg l ≤ 400) : numL (strI n) = .int n := by
  have hb := body_dg h hd (wr_strI n)
  have := body_len (strI n)
  unfold numL
  rw [if_pos hb, numT_strI (by omega)]
theorem strI_in (x y c : Int) : (strI x).Sublist (lineL x y c) ∧ (strI y).Sublist (lineL x y c) ∧ (strI c).Sublist (lineL x y c) := by
  unfold lineL
  refine ⟨?_, ?_, ?_⟩
  · exact (List.sublist_append_left _ _).trans (List.sublist_append_right _ _)
  · exact ((List.sublist_append_left _ _).trans (List.sublist_append_right _ _)).trans ((List.sublist_append_right _ _).trans (List.sublist_append_right _ _))
  · exact ((List.sublist_append_left _ _).trans (List.sublist_append_right _ _)).trans ((List.sublist_append_right _ _).trans ((List.sublist_append_right _ _).trans ((List.sublist_append_right _ _).trans (List.sublist_append_right _ _))))
theorem strI_dg {n : Int} {l : List Nat} {k : Nat} (h : (strI n).Sublist l) (hd : dg l ≤ k) : (strI n).length ≤ k + 1 := wr_dg h hd (wr_strI n)
theorem strI_abs {n : Int} {k : Nat} (hk : 0 < k) (h : (strI n).length ≤ k) : n.natAbs < 10 ^ k := by
  refine (natS_len hk).mp ?_
  rcases strI_cases n with ⟨a, b⟩ | ⟨a, b⟩ <;> rw [b] at h
  · exact h
  · simp at h; omega
end K57

set_option Elab.async false
set_option linter.all false
set_option maxRecDepth 100000
set_option maxHeartbeats 4000000
namespace K57
open PySem PySem.Spec PyProof.Rows L2
open DL
def ax (z : Int × Int) : Int × Int × Int × Int := if z = (0, 0) then (20, 0, 0, 20) else if z = (-1, -1) then (26, 15, 0, 30) else if z = (-1, -2) then (40, 0, 20, 20) else if z = (-2, -1) then (20, 20, 40, 0) else if z = (-3, -1) then (15, 26, 0, 52) else (0, 52, 15, 26)
theorem ms_cases {x y : Int} (h : (x, y) ∈ ms) : (x = 0 ∧ y = 0) ∨ (x = -1 ∧ y = -1) ∨ (x = -1 ∧ y = -2) ∨ (x = -2 ∧ y = -1) ∨ (x = -3 ∧ y = -1) ∨ (x = -1 ∧ y = -3) := by
  simpa [ms] using h
structure AxOk (q : Int × Int × Int × Int) : Prop where
  a : q.1.natAbs ≤ 52
  b : q.2.1.natAbs ≤ 52
  c : q.2.2.1.natAbs ≤ 52
  d : q.2.2.2.natAbs ≤ 52
  e : q.1 * q.2.2.2 - q.2.1 * q.2.2.1 ≠ 0
  f : (q.1 * q.2.2.2 - q.2.1 * q.2.2.1).natAbs < 1073741824
theorem ax_ok {x y : Int} (h : (x, y) ∈ ms) : AxOk (ax (x, y)) := by
  rcases ms_cases h with ⟨rfl, rfl⟩ | ⟨rfl, rfl⟩ | ⟨rfl, rfl⟩ | ⟨rfl, rfl⟩ | ⟨rfl, rfl⟩ | ⟨rfl, rfl⟩ <;> exact ⟨by decide, by decide, by decide, by decide, by decide, by decide⟩
theorem axes_ok {x y : Int} (h : (x, y) ∈ ms) (m : Mem) : callS F__law_axes [mat x y] m = .ok (.tup [.tup [.int (ax (x, y)).1, .int (ax (x, y)).2.1], .tup [.int (ax (x, y)).2.2.1, .int (ax (x, y)).2.2.2]]) m := by
  rcases ms_cases h with ⟨rfl, rfl⟩ | ⟨rfl, rfl⟩ | ⟨rfl, rfl⟩ | ⟨rfl, rfl⟩ | ⟨rfl, rfl⟩ | ⟨rfl, rfl⟩ <;> exact callS_pure rfl rfl rfl
theorem steps_ok {x y : Int} (h : (x, y) ∈ ms) : ∃ d, (∀ m, callS F_steps_of [mat x y] m = .ok d m) ∧ ∀ (i j k l : Nat) (ρ : DL.Env) (m : Mem), gTp (gsCons (gTp (gsCons (gNam i) (gsCons (gNam j) gsNil))) (gsCons (gTp (gsCons (gNam k) (gsCons (gNam l) gsNil))) gsNil)) d ρ m = some ((((ρ.set i (some (.int (ax (x, y)).1))).set j (some (.int (ax (x, y)).2.1))).set k (some (.int (ax (x, y)).2.2.1))).set l (some (.int (ax (x, y)).2.2.2)), m) := by
  rcases ms_cases h with ⟨rfl, rfl⟩ | ⟨rfl, rfl⟩ | ⟨rfl, rfl⟩ | ⟨rfl, rfl⟩ | ⟨rfl, rfl⟩ | ⟨rfl, rfl⟩ <;> exact ⟨_, fun m => callS_pure rfl rfl rfl, fun _ _ _ _ _ _ => rfl⟩
theorem log_lt {n k : Nat} (h : n < 10 ^ 570) (hk : 1920 ≤ k) : n.log2 < k := by
  by_cases z : n = 0
  · rw [z]; simp; omega
  · rw [Nat.log2_lt z]
    refine Nat.lt_of_lt_of_le h (Nat.le_trans (show (10 : Nat) ^ 570 ≤ 2 ^ 1920 by decide +kernel) (Nat.pow_le_pow_right (by decide) hk))
theorem mul_big {i j : Int} (a : i.natAbs < 10 ^ 570) (c : j.natAbs < 10 ^ 570) : mulOk i j = true := by
  unfold mulOk
  rw [Nat.blt_eq]
  have := log_lt a (Nat.le_refl _)
  have := log_lt c (Nat.le_refl _)
  omega
theorem abs_mul {i j : Int} {a b : Nat} (h : i.natAbs ≤ a) (g : j.natAbs ≤ b) : (i * j).natAbs ≤ a * b := by
  rw [Int.natAbs_mul]; exact Nat.mul_le_mul h g
def spX (q : Int × Int × Int × Int) (a b : Int) : Int := a * q.1 + b * q.2.2.1
def spY (q : Int × Int × Int × Int) (a b : Int) : Int := a * q.2.1 + b * q.2.2.2
/-- bounds by a power of ten -/
theorem sp_abs {q : Int × Int × Int × Int} (hq : AxOk q) {a b : Int} {k : Nat} (ha : a.natAbs ≤ 10 ^ k) (hb : b.natAbs ≤ 10 ^ k) : (spX q a b).natAbs < 10 ^ (k + 3) ∧ (spY q a b).natAbs < 10 ^ (k + 3) := by
  have h1 := abs_mul ha hq.a
  have h2 := abs_mul hb hq.c
  have h3 := abs_mul ha hq.b
  have h4 := abs_mul hb hq.d
  have p : 10 ^ (k + 3) = 10 ^ k * 1000 := by rw [Nat.pow_add]
  have p0 : 0 < 10 ^ k := Nat.pow_pos (by decide)
  have s1 := Int.natAbs_add_le (a * q.1) (b * q.2.2.1)
  have s2 := Int.natAbs_add_le (a * q.2.1) (b * q.2.2.2)
  unfold spX spY
  omega
theorem small52 {n : Int} (h : n.natAbs ≤ 52) : n.natAbs < 10 ^ 570 := Nat.lt_of_le_of_lt h (by decide +kernel)
theorem le_570 {n k : Nat} (h : n ≤ 10 ^ k) (hk : k < 570) : n < 10 ^ 570 := Nat.lt_of_le_of_lt h (Nat.pow_lt_pow_right (by decide) hk)
theorem spot_of {x y a b : Int} (h : (x, y) ∈ ms) {k : Nat} (hk : k < 500) (ha : a.natAbs ≤ 10 ^ k) (hb : b.natAbs ≤ 10 ^ k) (m : Mem) : callS F_spot_of [mat x y, .tup [.int a, .int b]] m = .ok (.tup [.int (spX (ax (x, y)) a b), .int (spY (ax (x, y)) a b)]) m := by
  refine callS_pure (m1 := []) rfl ?_ rfl
  show retF (b_spot_of [some (mat x y), some (.tup [.int a, .int b]), none, none, none, none] []) = _
  obtain ⟨d, hd, hg⟩ := steps_ok h
  have hq := ax_ok h
  have e : sAsg (eFn F_steps_of (aCons (eVar 0) aNil)) (gTp (gsCons (gTp (gsCons (gNam 2) (gsCons (gNam 3) gsNil))) (gsCons (gTp (gsCons (gNam 4) (gsCons (gNam 5) gsNil))) gsNil))) [some (mat x y), some (.tup [.int a, .int b]), none, none, none, none] [] = some (.nx [some (mat x y), some (.tup [.int a, .int b]), some (.int (ax (x, y)).1), some (.int (ax (x, y)).2.1), some (.int (ax (x, y)).2.2.1), some (.int (ax (x, y)).2.2.2)], []) := by
    simp [hd, hg]
  unfold b_spot_of
  rw [sSeq_ap, e]
  have m1 := mul_big (le_570 ha (by omega)) (small52 hq.a)
  have m2 := mul_big (le_570 ha (by omega)) (small52 hq.b)
  have m3 := mul_big (le_570 hb (by omega)) (small52 hq.c)
  have m4 := mul_big (le_570 hb (by omega)) (small52 hq.d)
  simp [oMul_int m1, oMul_int m2, oMul_int m3, oMul_int m4, spX, spY]
theorem strI_570 {n : Int} (h : n.natAbs < 10 ^ 570) : (strI n).length ≤ 571 := strI_len (by decide) h
theorem lt_570 {n k : Nat} (h : n < 10 ^ k) (hk : k ≤ 570) : n < 10 ^ 570 := Nat.lt_of_lt_of_le h (Nat.pow_le_pow_right (by decide) hk)
theorem pair_line {x y a b c : Int} (h : (x, y) ∈ ms) {k : Nat} (hk : k < 500) (ha : a.natAbs ≤ 10 ^ k) (hb : b.natAbs ≤ 10 ^ k) (hc : c.natAbs < 10 ^ 570) (m : Mem) : callS F_pair_line [mat x y, .tup [.int a, .int b], .int c] m = .ok (.str (lineL (spX (ax (x, y)) a b) (-spY (ax (x, y)) a b) c)) m := by
  refine callS_pure (m1 := []) rfl ?_ rfl
  show retF (b_pair_line [some (mat x y), some (.tup [.int a, .int b]), some (.int c), none, none] []) = _
  have sp := spot_of h hk ha hb []
  obtain ⟨bx, by_⟩ := sp_abs (ax_ok h) ha hb
  generalize spX (ax (x, y)) a b = X at *
  generalize spY (ax (x, y)) a b = Y at *
  have bX := lt_570 bx (by omega)
  have bY := lt_570 by_ (by omega)
  have bY' : (-Y).natAbs < 10 ^ 570 := by rw [Int.natAbs_neg]; exact bY
  have i0 : ∀ m, oIx t_MARKS (.int 0) m = some (.str M0, m) := fun m => rfl
  have i1 : ∀ m, oIx t_MARKS (.int 1) m = some (.str M1, m) := fun m => rfl
  have i2 : ∀ m, oIx t_MARKS (.int 2) m = some (.str M2, m) := fun m => rfl
  have i3 : ∀ m, oIx t_MARKS (.int 3) m = some (.str M3, m) := fun m => rfl
  have l0 : M0.length = 9 := rfl
  have l1 : M1.length = 5 := rfl
  have l2 : M2.length = 2 := rfl
  have l3 : M3.length = 7 := rfl
  have f0 : fmtD (.str M0) = some M0 := rfl
  have f1 : fmtD (.str M1) = some M1 := rfl
  have f2 : fmtD (.str M2) = some M2 := rfl
  have f3 : fmtD (.str M3) = some M3 := rfl
  have fX := fmt_int (i := X) (log_lt bX (Nat.le_refl _))
  have fY := fmt_int (i := -Y) (log_lt bY' (Nat.le_refl _))
  have fc := fmt_int (i := c) (log_lt hc (Nat.le_refl _))
  have sX := strI_570 bX
  have sY := strI_570 bY'
  have sc := strI_570 hc
  unfold b_pair_line
  rw [sSeq_ap]
  have e : sAsg (eFn F_spot_of (aCons (eVar 0) (aCons (eVar 1) aNil))) (gTp (gsCons (gNam 3) (gsCons (gNam 4) gsNil))) [some (mat x y), some (.tup [.int a, .int b]), some (.int c), none, none] [] = some (.nx [some (mat x y), some (.tup [.int a, .int b]), some (.int c), some (.int X), some (.int Y)], []) := by
    simp [sp]
  rw [e]
  have g1 : decide (M0.length + (strI X).length ≤ 16777216) = true := by simp; omega
  simp [eJs, i0, i1, i2, i3, f0, f1, f2, f3, fX, fY, fc, l0, l1, l2, l3]
  rw [decide_eq_true (by omega)]
  simp only []
  rw [decide_eq_true (by omega)]
  simp only []
  rw [decide_eq_true (by omega)]
  simp only []
  rw [decide_eq_true (by omega)]
  simp only []
  rw [decide_eq_true (by omega)]
  simp only []
  rw [decide_eq_true (by omega)]
  simp [lineL]
end K57

set_option Elab.async false
set_option linter.all false
set_option maxRecDepth 100000
set_option maxHeartbeats 4000000
set_option exponentiation.threshold 3000
namespace K57
open PySem PySem.Spec PyProof.Rows L2
open DL
theorem law_line {x y a b c : Int} (h : (x, y) ∈ ms) {k : Nat} (hk : k < 500) (ha : a.natAbs ≤ 10 ^ k) (hb : b.natAbs ≤ 10 ^ k) (hc : c.natAbs < 10 ^ 570) (m : Mem) : callS F__law_line [mat x y, .tup [.int a, .int b], .int c] m = .ok (.str (lineL (spX (ax (x, y)) a b) (-spY (ax (x, y)) a b) c)) m := by
  refine callS_pure (m1 := []) rfl ?_ rfl
  show retF (b__law_line [some (mat x y), some (.tup [.int a, .int b]), some (.int c), none, none, none, none, none, none] []) = _
  obtain ⟨bx, by_⟩ := sp_abs (ax_ok h) ha hb
  have hq := ax_ok h
  have m1 := mul_big (le_570 ha (by omega)) (small52 hq.a)
  have m2 := mul_big (le_570 ha (by omega)) (small52 hq.b)
  have m3 := mul_big (le_570 hb (by omega)) (small52 hq.c)
  have m4 := mul_big (le_570 hb (by omega)) (small52 hq.d)
  unfold b__law_line
  rw [sSeq_ap]
  have e : sAsg (eTup (aCons (eVar 1) (aCons (eFn F__law_axes (aCons (eVar 0) aNil)) aNil))) (gTp (gsCons (gTp (gsCons (gNam 3) (gsCons (gNam 4) gsNil))) (gsCons (gTp (gsCons (gNam 5) (gsCons (gNam 6) gsNil))) gsNil))) [some (mat x y), some (.tup [.int a, .int b]), some (.int c), none, none, none, none, none, none] [] = some (.nx [some (mat x y), some (.tup [.int a, .int b]), some (.int c), some (.int a), some (.int b), some (.tup [.int (ax (x, y)).1, .int (ax (x, y)).2.1]), some (.tup [.int (ax (x, y)).2.2.1, .int (ax (x, y)).2.2.2]), none, none], []) := by
    simp [axes_ok h]
  rw [e]
  simp only [seqK_nx]
  rw [sSeq_ap]
  have e : sPar 7 8 (eOp oAdd (eOp oMul (eVar 3) (eOp oIx (eVar 5) (eC (.int 0)))) (eOp oMul (eVar 4) (eOp oIx (eVar 6) (eC (.int 0))))) (eOp oAdd (eOp oMul (eVar 3) (eOp oIx (eVar 5) (eC (.int 1)))) (eOp oMul (eVar 4) (eOp oIx (eVar 6) (eC (.int 1))))) [some (mat x y), some (.tup [.int a, .int b]), some (.int c), some (.int a), some (.int b), some (.tup [.int (ax (x, y)).1, .int (ax (x, y)).2.1]), some (.tup [.int (ax (x, y)).2.2.1, .int (ax (x, y)).2.2.2]), none, none] [] = some (.nx [some (mat x y), some (.tup [.int a, .int b]), some (.int c), some (.int a), some (.int b), some (.tup [.int (ax (x, y)).1, .int (ax (x, y)).2.1]), some (.tup [.int (ax (x, y)).2.2.1, .int (ax (x, y)).2.2.2]), some (.int (spX (ax (x, y)) a b)), some (.int (spY (ax (x, y)) a b))], []) := by
    simp [oMul_int m1, oMul_int m2, oMul_int m3, oMul_int m4, spX, spY]
  rw [e]
  simp only [seqK_nx]
  generalize spX (ax (x, y)) a b = X at *
  generalize spY (ax (x, y)) a b = Y at *
  have bX := lt_570 bx (by omega)
  have bY := lt_570 by_ (by omega)
  have bY' : (-Y).natAbs < 10 ^ 570 := by rw [Int.natAbs_neg]; exact bY
  have fX := fun m => str_int (i := X) (m := m) (log_lt bX (Nat.le_refl _))
  have fY := fun m => str_int (i := -Y) (m := m) (log_lt bY' (Nat.le_refl _))
  have fc := fun m => str_int (i := c) (m := m) (log_lt hc (Nat.le_refl _))
  have sX := strI_570 bX
  have sY := strI_570 bY'
  have sc := strI_570 hc
  have s0 : (0 : Int) - Y = -Y := by omega
  simp [s0, fX, fY, fc, oAdd]
  rw [decide_eq_true (by omega)]
  simp
  rw [decide_eq_true (by omega)]
  simp
  rw [decide_eq_true (by omega)]
  simp
  rw [decide_eq_true (by omega)]
  simp
  rw [decide_eq_true (by omega)]
  simp
  rw [decide_eq_true (by omega)]
  simp [lineL, M0, M1, M2, M3]
/-! from spots back to weights -/
def dtQ (q : Int × Int × Int × Int) : Int := q.1 * q.2.2.2 - q.2.1 * q.2.2.1
def firQ (q : Int × Int × Int × Int) (x y : Int) : Int := x * q.2.2.2 - y * q.2.2.1
def secQ (q : Int × Int × Int × Int) (x y : Int) : Int := q.1 * y - q.2.1 * x
def wtQ (q : Int × Int × Int × Int) (x y : Int) : Option (Int × Int) := if (firQ q x y).fmod (dtQ q) = 0 ∧ (secQ q x y).fmod (dtQ q) = 0 then some ((firQ q x y).fdiv (dtQ q), (secQ q x y).fdiv (dtQ q)) else none
theorem wt_iff {q : Int × Int × Int × Int} (hq : AxOk q) (x y : Int) : ((firQ q x y).fmod (dtQ q) = 0 ∧ (secQ q x y).fmod (dtQ q) = 0) ↔ (spX q ((firQ q x y).fdiv (dtQ q)) ((secQ q x y).fdiv (dtQ q)) = x ∧ spY q ((firQ q x y).fdiv (dtQ q)) ((secQ q x y).fdiv (dtQ q)) = y) := by
  have h0 : dtQ q ≠ 0 := hq.e
  have d1 := Int.mul_fdiv_add_fmod (firQ q x y) (dtQ q)
  have d2 := Int.mul_fdiv_add_fmod (secQ q x y) (dtQ q)
  generalize hA : (firQ q x y).fdiv (dtQ q) = A at *
  generalize hB : (secQ q x y).fdiv (dtQ q) = B at *
  constructor
  · rintro ⟨e1, e2⟩
    rw [e1, Int.add_zero] at d1
    rw [e2, Int.add_zero] at d2
    have k1 : dtQ q * spX q A B = dtQ q * x := by
      have : dtQ q * spX q A B = (dtQ q * A) * q.1 + (dtQ q * B) * q.2.2.1 := by unfold spX; rw [Int.mul_add]; simp only [Int.mul_assoc]
      rw [this, d1, d2]
      unfold firQ secQ dtQ
      simp only [Int.sub_mul, Int.mul_sub, Int.mul_assoc]
      have a1 : q.2.2.2 * q.1 = q.1 * q.2.2.2 := Int.mul_comm _ _
      have a2 : x * (q.2.2.2 * q.1) = q.1 * (q.2.2.2 * x) := by rw [Int.mul_comm x, Int.mul_assoc, Int.mul_left_comm]
      have a3 : y * (q.2.2.1 * q.1) = q.1 * (y * q.2.2.1) := by rw [← Int.mul_assoc, Int.mul_comm _ q.1]
      have a4 : q.2.1 * (x * q.2.2.1) = q.2.1 * (q.2.2.1 * x) := by rw [Int.mul_comm x]
      rw [a2, a3, a4]; omega
    have k2 : dtQ q * spY q A B = dtQ q * y := by
      have : dtQ q * spY q A B = (dtQ q * A) * q.2.1 + (dtQ q * B) * q.2.2.2 := by unfold spY; rw [Int.mul_add]; simp only [Int.mul_assoc]
      rw [this, d1, d2]
      unfold firQ secQ dtQ
      simp only [Int.sub_mul, Int.mul_sub, Int.mul_assoc]
      have a1 : x * (q.2.2.2 * q.2.1) = q.2.1 * (x * q.2.2.2) := by rw [← Int.mul_assoc, Int.mul_comm _ q.2.1]
      have a2 : y * (q.2.2.1 * q.2.1) = q.2.1 * (q.2.2.1 * y) := by rw [Int.mul_comm y, Int.mul_assoc, Int.mul_left_comm]
      have a3 : q.1 * (y * q.2.2.2) = q.1 * (q.2.2.2 * y) := by rw [Int.mul_comm y]
      rw [a1, a2, a3]; omega
    exact ⟨Int.eq_of_mul_eq_mul_left h0 k1, Int.eq_of_mul_eq_mul_left h0 k2⟩
  · rintro ⟨e1, e2⟩
    have k1 : firQ q x y = dtQ q * A := by
      rw [← e1, ← e2]
      unfold firQ spX spY dtQ
      simp only [Int.sub_mul, Int.add_mul, Int.mul_assoc]
      have a1 : A * (q.1 * q.2.2.2) = q.1 * (q.2.2.2 * A) := by rw [← Int.mul_assoc, Int.mul_comm A, Int.mul_assoc, Int.mul_comm A]
      have a2 : A * (q.2.1 * q.2.2.1) = q.2.1 * (q.2.2.1 * A) := by rw [← Int.mul_assoc, Int.mul_comm A, Int.mul_assoc, Int.mul_comm A]
      have a3 : q.2.2.1 * q.2.2.2 = q.2.2.2 * q.2.2.1 := Int.mul_comm _ _
      rw [a1, a2, a3]; omega
    have k2 : secQ q x y = dtQ q * B := by
      rw [← e1, ← e2]
      unfold secQ spX spY dtQ
      simp only [Int.sub_mul, Int.mul_add, Int.mul_assoc]
      have a1 : q.1 * (A * q.2.1) = q.2.1 * (A * q.1) := by rw [← Int.mul_assoc, Int.mul_comm, Int.mul_comm q.1]
      have a2 : q.1 * (B * q.2.2.2) = q.1 * (q.2.2.2 * B) := by rw [Int.mul_comm B]
      have a3 : q.2.1 * (B * q.2.2.1) = q.2.1 * (q.2.2.1 * B) := by rw [Int.mul_comm B]
      rw [a1, a2, a3]; omega
    omega
end K57

set_option Elab.async false
set_option linter.all false
set_option maxRecDepth 100000
set_option maxHeartbeats 4000000
set_option exponentiation.threshold 3000
namespace K57
open PySem PySem.Spec PyProof.Rows L2
open DL
def wtD (o : Option (Int × Int)) : List D := match o with
  | some w => [.tup [.int w.1, .int w.2]]
  | none => []
theorem dt_ok {q : Int × Int × Int × Int} (h : AxOk q) : divN (dtQ q) = true := by
  have h1 : dtQ q ≠ 0 := h.e
  have h2 : (dtQ q).natAbs < 1073741824 := h.f
  unfold divN
  rw [decide_eq_false h1]
  show Nat.blt _ _ = true
  rw [Nat.blt_eq]; exact h2
theorem lt_570' {n k : Nat} (h : n < 10 ^ k) (hk : k ≤ 570) : n < 10 ^ 570 := Nat.lt_of_lt_of_le h (Nat.pow_le_pow_right (by decide) hk)
theorem weight_at {x y a b : Int} (h : (x, y) ∈ ms) (ha : a.natAbs < 10 ^ 560) (hb : b.natAbs < 10 ^ 560) (m : Mem) : callS F_weight_at [mat x y, .int a, .int b] m = .ok (.ref m.length) (m ++ [.lst (wtD (wtQ (ax (x, y)) a b))]) := by
  have hq := ax_ok h
  have dv := dt_ok hq
  obtain ⟨d, hd, hg⟩ := steps_ok h
  have A := lt_570' ha (by omega)
  have B := lt_570' hb (by omega)
  have m1 := mul_big (small52 hq.a) (small52 hq.d)
  have m2 := mul_big (small52 hq.b) (small52 hq.c)
  have m3 := mul_big A (small52 hq.d)
  have m4 := mul_big B (small52 hq.c)
  have m5 := mul_big (small52 hq.a) B
  have m6 := mul_big (small52 hq.b) A
  have fin : F_weight_at [mat x y, .int a, .int b] [] = .ok (.ref 0) [.lst (wtD (wtQ (ax (x, y)) a b))] := by
    show retF (b_weight_at [some (mat x y), some (.int a), some (.int b), none, none, none, none, none, none, none] []) = _
    unfold b_weight_at
    rw [sSeq_ap]
    have e : sAsg (eFn F_steps_of (aCons (eVar 0) aNil)) (gTp (gsCons (gTp (gsCons (gNam 3) (gsCons (gNam 4) gsNil))) (gsCons (gTp (gsCons (gNam 5) (gsCons (gNam 6) gsNil))) gsNil))) [some (mat x y), some (.int a), some (.int b), none, none, none, none, none, none, none] [] = some (.nx [some (mat x y), some (.int a), some (.int b), some (.int (ax (x, y)).1), some (.int (ax (x, y)).2.1), some (.int (ax (x, y)).2.2.1), some (.int (ax (x, y)).2.2.2), none, none, none], []) := by
      simp [hd, hg]
    rw [e]
    simp only [seqK_nx]
    rw [sSeq_ap]
    have e : sSet 7 (eOp oSub (eOp oMul (eVar 3) (eVar 6)) (eOp oMul (eVar 4) (eVar 5))) [some (mat x y), some (.int a), some (.int b), some (.int (ax (x, y)).1), some (.int (ax (x, y)).2.1), some (.int (ax (x, y)).2.2.1), some (.int (ax (x, y)).2.2.2), none, none, none] [] = some (.nx [some (mat x y), some (.int a), some (.int b), some (.int (ax (x, y)).1), some (.int (ax (x, y)).2.1), some (.int (ax (x, y)).2.2.1), some (.int (ax (x, y)).2.2.2), some (.int (dtQ (ax (x, y)))), none, none], []) := by
      simp [oMul_int m1, oMul_int m2, dtQ]
    rw [e]
    simp only [seqK_nx]
    rw [sSeq_ap]
    have e : sPar 8 9 (eOp oSub (eOp oMul (eVar 1) (eVar 6)) (eOp oMul (eVar 2) (eVar 5))) (eOp oSub (eOp oMul (eVar 3) (eVar 2)) (eOp oMul (eVar 4) (eVar 1))) [some (mat x y), some (.int a), some (.int b), some (.int (ax (x, y)).1), some (.int (ax (x, y)).2.1), some (.int (ax (x, y)).2.2.1), some (.int (ax (x, y)).2.2.2), some (.int (dtQ (ax (x, y)))), none, none] [] = some (.nx [some (mat x y), some (.int a), some (.int b), some (.int (ax (x, y)).1), some (.int (ax (x, y)).2.1), some (.int (ax (x, y)).2.2.1), some (.int (ax (x, y)).2.2.2), some (.int (dtQ (ax (x, y)))), some (.int (firQ (ax (x, y)) a b)), some (.int (secQ (ax (x, y)) a b))], []) := by
      simp [oMul_int m3, oMul_int m4, oMul_int m5, oMul_int m6, firQ, secQ]
    rw [e]
    simp only [seqK_nx]
    unfold wtQ
    generalize firQ (ax (x, y)) a b = F
    generalize secQ (ax (x, y)) a b = S
    generalize dtQ (ax (x, y)) = T at dv
    by_cases h1 : F.fmod T = 0
    · by_cases h2 : S.fmod T = 0
      · simp [oModN_int dv, oFdivN_int dv, h1, h2, wtD]
      · have h2' : (S.fmod T == 0) = false := by simpa using h2
        simp [oModN_int dv, oFdivN_int dv, h1, h2, h2', wtD]
    · have h1' : (F.fmod T == 0) = false := by simpa using h1
      simp [oModN_int dv, oFdivN_int dv, h1, h1', wtD]
  rw [callS_ref (k := 0) rfl fin]
  have : MO.sh m.length (.lst (wtD (wtQ (ax (x, y)) a b))) = .lst (wtD (wtQ (ax (x, y)) a b)) := by
    unfold wtD
    split <;> rfl
  simp [this]
/-- the pair that a line tells -/
def rd (q : Int × Int × Int × Int) (s : List Nat) : Option T3 := match nums s with
  | none => none
  | some (x, y, c) => if c = 0 then none else match wtQ q x (-y) with
    | some w => some (w.1, w.2, c)
    | none => none
def rdD (o : Option T3) : List D := match o with
  | some t => [pr t]
  | none => []
def numsI (s : List Nat) : List Int := match nums s with
  | some (x, y, c) => [x, y, c]
  | none => []
theorem numsD_I (s : List Nat) : numsD s = (numsI s).map .int := by
  unfold numsD numsI; rcases nums s with _ | ⟨x, y, c⟩ <;> rfl
theorem nums_abs {s : List Nat} {x y c : Int} {k : Nat} (h : nums s = some (x, y, c)) (hd : dg s ≤ k) : x.natAbs < 10 ^ (k + 1) ∧ y.natAbs < 10 ^ (k + 1) ∧ c.natAbs < 10 ^ (k + 1) := by
  have e := nums_of h
  obtain ⟨a, b, d⟩ := strI_in x y c
  rw [← e] at a b d
  exact ⟨strI_abs (by omega) (strI_dg a hd), strI_abs (by omega) (strI_dg b hd), strI_abs (by omega) (strI_dg d hd)⟩
theorem pair_res {x y : Int} (h : (x, y) ∈ ms) {s : List Nat} (hl : s.length ≤ 100000) (hd : dg s ≤ 500) : ∃ k m1, F_pair_in [mat x y, .str s] [] = .ok (.ref k) m1 ∧ m1[k]? = some (.lst (rdD (rd (ax (x, y)) s))) := by
  show ∃ k m1, retF (b_pair_in [some (mat x y), some (.str s), none, none] []) = .ok (.ref k) m1 ∧ _
  obtain ⟨k, j, e, hj⟩ := numbers_in (m := []) hl hd
  simp only [List.nil_append, List.length_nil, Nat.zero_add] at e hj
  unfold b_pair_in
  rw [sSeq_ap]
  have e1 : sSet 2 (eFn F_numbers_in (aCons (eVar 1) aNil)) [some (mat x y), some (.str s), none, none] [] = some (.nx [some (mat x y), some (.str s), some (.ref k), none], j) := by
    simp [e]
  rw [e1]
  simp only [seqK_nx]
  rw [sSeq_ap]
  have hj' : (j ++ [MO.lst []])[k]? = some (.lst ((numsI s).map .int)) := by rw [← numsD_I]; exact mem_app hj
  have q := eq_ints_nil hj' (mem_new (m := j) (o := .lst []))
  have on : oEq (.ref k) (.ref j.length) (j ++ [.lst []]) = some (.bl (decide (numsI s = [])), j ++ [.lst []]) := by
    simp only [oEq, q]
  cases hn : nums s with
  | none =>
    have hi : numsI s = [] := by simp [numsI, hn]
    refine ⟨j.length + 1, j ++ [.lst [], .lst []], ?_, by simp [rd, rdD, hn]⟩
    simp [on, hi]
  | some r =>
    obtain ⟨a, b, c⟩ := r
    have hi : numsI s = [a, b, c] := by simp [numsI, hn]
    rw [hi] at hj'
    obtain ⟨ba, bb, bc⟩ := nums_abs hn hd
    by_cases hc : c = 0
    · subst hc
      refine ⟨j.length + 1, j ++ [.lst [], .lst []], ?_, by simp [rd, rdD, hn]⟩
      simp [on, hi, hj']
    · have hc' : (c == 0) = false := by simpa using hc
      have wa := weight_at h (a := a) (b := -b) (lt_570' (k := 501) ba (by omega) |> fun z => Nat.lt_of_lt_of_le ba (Nat.pow_le_pow_right (by decide) (by omega))) (by rw [Int.natAbs_neg]; exact Nat.lt_of_lt_of_le bb (Nat.pow_le_pow_right (by decide) (by omega))) (j ++ [.lst []])
      have e2 : sIf (bOr (bOf (eOp oEq (eVar 2) (eLst aNil))) (bOf (eOp oEq (eOp oIx (eVar 2) (eC (.int 2))) (eC (.int 0))))) (sRet (eLst aNil)) sNop [some (mat x y), some (.str s), some (.ref k), none] j = some (.nx [some (mat x y), some (.str s), some (.ref k), none], j ++ [.lst []]) := by
        simp [on, hi, hj', hc']
      rw [e2]
      simp only [seqK_nx]
      generalize hW : wtQ (ax (x, y)) a (-b) = W at wa
      generalize j ++ [MO.lst []] = j2 at *
      have hk2 := hj'
      have hf : eFn F_weight_at (aCons (eVar 0) (aCons (eOp oIx (eVar 2) (eC (.int 0))) (aCons (eUn oNeg (eOp oIx (eVar 2) (eC (.int 1)))) aNil))) [some (mat x y), some (.str s), some (.ref k), none] j2 = .ok (.ref j2.length) (j2 ++ [.lst (wtD W)]) := by
        simp [hj', wa]
      have hj3 := mem_app (m1 := [MO.lst (wtD W)]) hj'
      have lc : lcV (eFn F_weight_at (aCons (eVar 0) (aCons (eOp oIx (eVar 2) (eC (.int 0))) (aCons (eUn oNeg (eOp oIx (eVar 2) (eC (.int 1)))) aNil)))) (pName 3) [3] bYes (eTup (aCons (eVar 3) (aCons (eOp oIx (eVar 2) (eC (.int 2))) aNil))) [some (mat x y), some (.str s), some (.ref k), none] j2 = .ok ((wtD W).map fun d => .tup [d, .int c]) (j2 ++ [.lst (wtD W)]) := by
        rw [lcV_lst hf (.inl (by simp)) mem_new, lcGo_map (L := wtD W) (enc := fun d => d) (g := fun d => .tup [d, .int c]) (fun i _ => by rw [List.map_id']; exact seq_lst mem_new i) (by simp) (by unfold wtD; split <;> simp) (fun d _ => ⟨[(3, d)], rfl, rfl, by simp [hj3]⟩)]
      refine ⟨j2.length + 1, j2 ++ [.lst (wtD W), .lst ((wtD W).map fun d => .tup [d, .int c])], ?_, ?_⟩
      · rw [sRet_ap, eNew_ap, lc]
        simp
      · have : rdD (rd (ax (x, y)) s) = (wtD W).map fun d => .tup [d, .int c] := by
          simp only [rd, hn, if_neg hc, hW]
          cases W with
          | none => rfl
          | some w => rfl
        simp [this]
theorem pair_in {x y : Int} (h : (x, y) ∈ ms) {s : List Nat} {m : Mem} (hl : s.length ≤ 100000) (hd : dg s ≤ 500) : ∃ k j, callS F_pair_in [mat x y, .str s] m = .ok (.ref (m.length + k)) (m ++ j) ∧ (m ++ j)[m.length + k]? = some (.lst (rdD (rd (ax (x, y)) s))) := by
  obtain ⟨k, m1, e, h⟩ := pair_res h hl hd
  refine ⟨k, m1.map (MO.sh m.length), callS_ref rfl e, ?_⟩
  rw [List.getElem?_append_right (by omega), Nat.add_sub_cancel_left, List.getElem?_map, h]
  have : MO.sh m.length (.lst (rdD (rd (ax (x, y)) s))) = .lst (rdD (rd (ax (x, y)) s)) := by
    unfold rdD
    split <;> rfl
  simp [this]
end K57

set_option Elab.async false
set_option linter.all false
set_option maxRecDepth 100000
set_option maxHeartbeats 4000000
set_option exponentiation.threshold 3000
namespace K57
open PySem PySem.Spec PyProof.Rows L2
open DL
def lrd (o : Option T3) : D := match o with
  | some t => pr t
  | none => .non
theorem fdiv_abs (a b : Int) (hb : b ≠ 0) : (a.fdiv b).natAbs ≤ a.natAbs := by
  by_cases h : 0 ≤ b
  · rw [Int.fdiv_eq_ediv_of_nonneg a h]
    exact Int.natAbs_ediv_le_natAbs a b
  · have e : a.fdiv b = (-a).fdiv (-b) := (Int.neg_fdiv_neg a b).symm
    rw [e, Int.fdiv_eq_ediv_of_nonneg (-a) (by omega)]
    have := Int.natAbs_ediv_le_natAbs (-a) (-b)
    rwa [Int.natAbs_neg a] at this
theorem numL_int {t : List Nat} {n : Int} (h : numL t = .int n) : t = strI n ∧ n.natAbs < 10 ^ 401 := by
  unfold numL at h
  by_cases h4 : (body t).length ≤ 400
  · rw [if_pos h4] at h
    cases q : numT t with
    | none => simp [q] at h
    | some k =>
      simp [q] at h
      subst h
      have e := numT_some q
      refine ⟨e, ?_⟩
      have bl := body_len t
      rw [e] at bl h4
      exact strI_abs (by omega) (by omega)
  · rw [if_neg h4] at h; cases h
theorem numL_two (t : List Nat) : numL t = .non ∨ ∃ n, numL t = .int n := by
  unfold numL
  split
  · split
    · exact .inr ⟨_, rfl⟩
    · exact .inl rfl
  · exact .inl rfl
abbrev b_ptail : FS := (sSeq (sAsg (eFn F__law_axes (aCons (eVar 0) aNil)) (gTp (gsCons (gNam 6) (gsCons (gNam 7) gsNil))))
    (sSeq (sSet 8 (eOp oSub (eOp oMul (eOp oIx (eVar 6) (eC (.int 0))) (eOp oIx (eVar 7) (eC (.int 1)))) (eOp oMul (eOp oIx (eVar 6) (eC (.int 1))) (eOp oIx (eVar 7) (eC (.int 0))))))
    (sSeq (sSet 9 (eTup (aCons (eOp oFdivN (eOp oAdd (eOp oMul (eVar 3) (eOp oIx (eVar 7) (eC (.int 1)))) (eOp oMul (eVar 4) (eOp oIx (eVar 7) (eC (.int 0))))) (eVar 8)) (aCons (eOp oFdivN (eOp oSub (eOp oSub (eC (.int 0)) (eOp oMul (eOp oIx (eVar 6) (eC (.int 0))) (eVar 4))) (eOp oMul (eOp oIx (eVar 6) (eC (.int 1))) (eVar 3))) (eVar 8)) aNil))))
    (sRet (eIf (bOf (eOp oEq (eFn F__law_line (aCons (eVar 0) (aCons (eVar 9) (aCons (eVar 5) aNil)))) (eVar 1))) (eTup (aCons (eVar 9) (aCons (eVar 5) aNil))) (eC .non))))))
theorem fs_abs {q : Int × Int × Int × Int} (hq : AxOk q) {x y : Int} (hx : x.natAbs < 10 ^ 401) (hy : y.natAbs < 10 ^ 401) : (firQ q x y).natAbs ≤ 10 ^ 404 ∧ (secQ q x y).natAbs ≤ 10 ^ 404 := by
  have h1 := abs_mul (Nat.le_of_lt hx) hq.d
  have h2 := abs_mul (Nat.le_of_lt hy) hq.c
  have h3 := abs_mul hq.a (Nat.le_of_lt hy)
  have h4 := abs_mul hq.b (Nat.le_of_lt hx)
  have s1 := Int.natAbs_sub_le (x * q.2.2.2) (y * q.2.2.1)
  have s2 := Int.natAbs_sub_le (q.1 * y) (q.2.1 * x)
  have p : (10 : Nat) ^ 404 = 10 ^ 401 * 1000 := Nat.pow_add 10 401 3
  unfold firQ secQ
  rw [p]
  generalize (10 : Nat) ^ 401 = T at *
  omega
theorem ptail_res {x y a b c : Int} {s : List Nat} {c6 c7 c8 c9 wd : Option D} {m : Mem} (h : (x, y) ∈ ms) (ha : a.natAbs < 10 ^ 401) (hb : b.natAbs < 10 ^ 401) (hc : c.natAbs < 10 ^ 401) :
    b_ptail [some (mat x y), some (.str s), wd, some (.int a), some (.int b), some (.int c), c6, c7, c8, c9] m = some (.rt (if lineL (spX (ax (x, y)) ((firQ (ax (x, y)) a (-b)).fdiv (dtQ (ax (x, y)))) ((secQ (ax (x, y)) a (-b)).fdiv (dtQ (ax (x, y))))) (-spY (ax (x, y)) ((firQ (ax (x, y)) a (-b)).fdiv (dtQ (ax (x, y)))) ((secQ (ax (x, y)) a (-b)).fdiv (dtQ (ax (x, y))))) c = s
      then pr ((firQ (ax (x, y)) a (-b)).fdiv (dtQ (ax (x, y))), (secQ (ax (x, y)) a (-b)).fdiv (dtQ (ax (x, y))), c) else .non), m) := by
  have hq := ax_ok h
  have dv := dt_ok hq
  have A := lt_570' ha (by omega)
  have B := lt_570' hb (by omega)
  have m1 := mul_big (small52 hq.a) (small52 hq.d)
  have m2 := mul_big (small52 hq.b) (small52 hq.c)
  have m3 := mul_big A (small52 hq.d)
  have m4 := mul_big B (small52 hq.c)
  have m5 := mul_big (small52 hq.a) B
  have m6 := mul_big (small52 hq.b) A
  obtain ⟨f1, f2⟩ := fs_abs hq ha (y := -b) (by rw [Int.natAbs_neg]; exact hb)
  have g1 := Nat.le_trans (fdiv_abs (firQ (ax (x, y)) a (-b)) (dtQ (ax (x, y))) hq.e) f1
  have g2 := Nat.le_trans (fdiv_abs (secQ (ax (x, y)) a (-b)) (dtQ (ax (x, y))) hq.e) f2
  have ln := law_line h (k := 404) (by omega) g1 g2 (c := c) (lt_570' hc (by omega))
  have ef : a * (ax (x, y)).2.2.2 + b * (ax (x, y)).2.2.1 = firQ (ax (x, y)) a (-b) := by unfold firQ; rw [Int.neg_mul]; omega
  have es : 0 - (ax (x, y)).1 * b - (ax (x, y)).2.1 * a = secQ (ax (x, y)) a (-b) := by unfold secQ; rw [Int.mul_neg]; omega
  have ed : (ax (x, y)).1 * (ax (x, y)).2.2.2 - (ax (x, y)).2.1 * (ax (x, y)).2.2.1 = dtQ (ax (x, y)) := rfl
  unfold b_ptail
  rw [sSeq_ap]
  have e : sAsg (eFn F__law_axes (aCons (eVar 0) aNil)) (gTp (gsCons (gNam 6) (gsCons (gNam 7) gsNil))) [some (mat x y), some (.str s), wd, some (.int a), some (.int b), some (.int c), c6, c7, c8, c9] m = some (.nx [some (mat x y), some (.str s), wd, some (.int a), some (.int b), some (.int c), some (.tup [.int (ax (x, y)).1, .int (ax (x, y)).2.1]), some (.tup [.int (ax (x, y)).2.2.1, .int (ax (x, y)).2.2.2]), c8, c9], m) := by
    cases wd <;> simp [axes_ok h]
  rw [e]
  simp only [seqK_nx]
  rw [sSeq_ap]
  have e : sSet 8 (eOp oSub (eOp oMul (eOp oIx (eVar 6) (eC (.int 0))) (eOp oIx (eVar 7) (eC (.int 1)))) (eOp oMul (eOp oIx (eVar 6) (eC (.int 1))) (eOp oIx (eVar 7) (eC (.int 0))))) [some (mat x y), some (.str s), wd, some (.int a), some (.int b), some (.int c), some (.tup [.int (ax (x, y)).1, .int (ax (x, y)).2.1]), some (.tup [.int (ax (x, y)).2.2.1, .int (ax (x, y)).2.2.2]), c8, c9] m = some (.nx [some (mat x y), some (.str s), wd, some (.int a), some (.int b), some (.int c), some (.tup [.int (ax (x, y)).1, .int (ax (x, y)).2.1]), some (.tup [.int (ax (x, y)).2.2.1, .int (ax (x, y)).2.2.2]), some (.int (dtQ (ax (x, y)))), c9], m) := by
    simp [oMul_int m1, oMul_int m2, ed]
  rw [e]
  simp only [seqK_nx]
  rw [sSeq_ap]
  have e : ∀ c8 : Option D, sSet 9 (eTup (aCons (eOp oFdivN (eOp oAdd (eOp oMul (eVar 3) (eOp oIx (eVar 7) (eC (.int 1)))) (eOp oMul (eVar 4) (eOp oIx (eVar 7) (eC (.int 0))))) (eVar 8)) (aCons (eOp oFdivN (eOp oSub (eOp oSub (eC (.int 0)) (eOp oMul (eOp oIx (eVar 6) (eC (.int 0))) (eVar 4))) (eOp oMul (eOp oIx (eVar 6) (eC (.int 1))) (eVar 3))) (eVar 8)) aNil))) [some (mat x y), some (.str s), wd, some (.int a), some (.int b), some (.int c), some (.tup [.int (ax (x, y)).1, .int (ax (x, y)).2.1]), some (.tup [.int (ax (x, y)).2.2.1, .int (ax (x, y)).2.2.2]), some (.int (dtQ (ax (x, y)))), c9] m = some (.nx [some (mat x y), some (.str s), wd, some (.int a), some (.int b), some (.int c), some (.tup [.int (ax (x, y)).1, .int (ax (x, y)).2.1]), some (.tup [.int (ax (x, y)).2.2.1, .int (ax (x, y)).2.2.2]), some (.int (dtQ (ax (x, y)))), some (.tup [.int ((firQ (ax (x, y)) a (-b)).fdiv (dtQ (ax (x, y)))), .int ((secQ (ax (x, y)) a (-b)).fdiv (dtQ (ax (x, y))))])], m) := fun _ => by
    simp only [sSet_ap, eTup_ap, aCons_ap, eOp_ap, eVar_s, eVar_z, eC_ap, Res.bind_ok, oIx_tupM, atI_0, atI_1, liftO_some, oMul_int m3, oMul_int m4, oMul_int m5, oMul_int m6, oAdd_int, oSub_int, ef, es, oFdivN_int dv, aNil_ap]
    rfl
  rw [e none]
  simp only [seqK_nx]
  generalize (firQ (ax (x, y)) a (-b)).fdiv (dtQ (ax (x, y))) = w1 at *
  generalize (secQ (ax (x, y)) a (-b)).fdiv (dtQ (ax (x, y))) = w2 at *
  by_cases hs : lineL (spX (ax (x, y)) w1 w2) (-spY (ax (x, y)) w1 w2) c = s
  · rw [if_pos hs]
    simp [ln, hs, pr]
  · rw [if_neg hs]
    simp [ln, hs]
end K57

set_option Elab.async false
set_option linter.all false
set_option maxRecDepth 100000
set_option maxHeartbeats 4000000
set_option exponentiation.threshold 3000
namespace K57
open PySem PySem.Spec PyProof.Rows L2
open DL
theorem cutC_sub (c : Nat) : ∀ s, ∀ w ∈ cutC c s, w.Sublist s
  | [], w, h => by simp [cutC] at h; subst h; exact List.Sublist.refl _
  | x :: r, w, h => by
    have ih := cutC_sub c r
    unfold cutC at h
    by_cases e : x = c
    · simp only [if_pos e] at h
      rcases List.mem_cons.mp h with rfl | h
      · exact List.nil_sublist _
      · exact (ih w h).cons _
    · simp only [if_neg e] at h
      cases q : cutC c r with
      | nil => exact absurd q (cutC_ne _ _)
      | cons v vs =>
        rw [q] at h ih
        rcases List.mem_cons.mp h with rfl | h
        · exact (ih v (by simp)).cons₂ _
        · exact (ih w (by simp [h])).cons _
def cwOf (w : List Nat) : List Nat := cutD w (some 1) (some ((w.length : Int) - 7))
theorem cw_len (w : List Nat) : (cwOf w).length ≤ w.length := by
  unfold cwOf DL.cutD
  simp; omega
theorem cw_line (c : Int) : cwOf (62 :: (strI c ++ M3)) = strI c := by
  have e : ((62 :: (strI c ++ M3)).length : Int) - 7 = ((1 + (strI c).length : Nat) : Int) := by simp [M3]; omega
  unfold cwOf
  rw [e]
  have := cut_mid (62 :: (strI c ++ M3)) 1 (1 + (strI c).length)
  rw [show ((1 : Nat) : Int) = 1 from rfl] at this
  rw [this, Nat.add_comm, List.take_succ_cons, List.drop_one, List.tail_cons, List.take_left]
theorem law_pair {x y : Int} (h : (x, y) ∈ ms) {s : List Nat} (hl : s.length ≤ 100000) (h4 : s.countP (· == 34) = 4 → dg s ≤ 390) (m : Mem) : callS F__law_pair [mat x y, .str s] m = .ok (lrd (rd (ax (x, y)) s)) m := by
  have pl : D.pure (lrd (rd (ax (x, y)) s)) = true := by unfold lrd; split <;> rfl
  suffices ∃ m1, F__law_pair [mat x y, .str s] [] = .ok (lrd (rd (ax (x, y)) s)) m1 by
    obtain ⟨m1, e⟩ := this
    exact callS_pure rfl e pl
  show ∃ m1, retF (b__law_pair [some (mat x y), some (.str s), none, none, none, none, none, none, none, none] []) = _
  unfold b__law_pair
  rw [sSeq_ap]
  have e : sSet 2 (eMt "str" mSplit (eVar 1) (aCons (eC (.str [34])) aNil)) [some (mat x y), some (.str s), none, none, none, none, none, none, none, none] [] = some (.nx [some (mat x y), some (.str s), some (.ref 0), none, none, none, none, none, none, none], [.lst ((cutC 34 s).map .str)]) := by
    simp [mSplit_str (c := 34) (by decide) (show s.length + 2 ≤ 16777216 by omega)]
  rw [e]
  simp only [seqK_nx]
  have vl : vLen (.ref 0) [.lst ((cutC 34 s).map .str)] = some (.int ((cutC 34 s).length : Nat), [.lst ((cutC 34 s).map .str)]) := by
    have := vLen_lst (n := 0) (m := [.lst ((cutC 34 s).map .str)]) (xs := (cutC 34 s).map .str) rfl
    simpa using this
  have wsub := cutC_sub 34 s
  by_cases h5 : (cutC 34 s).length = 5
  · have d4 : dg s ≤ 390 := h4 (by have := cutC_len 34 s; omega)
    have ln : ∀ {xx yy cc : Int}, nums s = some (xx, yy, cc) → cutC 34 s = wds xx yy cc := fun {xx yy cc} hn => by
      have := nums_of hn
      rw [this]; exact line_cut _ _ _
    have nm : ∀ {xx yy cc : Int}, nums s = some (xx, yy, cc) → numL (strI xx) = .int xx ∧ numL (strI yy) = .int yy ∧ numL (strI cc) = .int cc := fun {xx yy cc} hn => by
      have e := nums_of hn
      obtain ⟨a, b, c⟩ := strI_in xx yy cc
      rw [← e] at a b c
      exact ⟨numL_strI a (by omega), numL_strI b (by omega), numL_strI c (by omega)⟩
    obtain ⟨w0, w1, w2, w3, w4, hw⟩ : ∃ w0 w1 w2 w3 w4, cutC 34 s = [w0, w1, w2, w3, w4] := by
      match q : cutC 34 s, h5 with
      | [a, b, c, d, e], _ => exact ⟨a, b, c, d, e, rfl⟩
    rw [hw] at vl wsub ⊢
    have l1 : w1.length ≤ 100000 := Nat.le_trans (wsub w1 (by simp)).length_le hl
    have l3 : w3.length ≤ 100000 := Nat.le_trans (wsub w3 (by simp)).length_le hl
    have l4 : w4.length ≤ 100000 := Nat.le_trans (wsub w4 (by simp)).length_le hl
    have lc := cw_len w4
    rw [sSeq_ap]
    have e : sIf (bOf (eOp oNe (eCall (one vLen) (aCons (eVar 2) aNil)) (eC (.int 5)))) (sRet (eC .non)) sNop [some (mat x y), some (.str s), some (.ref 0), none, none, none, none, none, none, none] [.lst (([w0, w1, w2, w3, w4]).map .str)] = some (.nx [some (mat x y), some (.str s), some (.ref 0), none, none, none, none, none, none, none], [.lst (([w0, w1, w2, w3, w4]).map .str)]) := by
      simp only [sIf_ap, bOf_ap, eOp_ap, eCall_ap, aCons_ap, eVar_s, eVar_z, Res.bind_ok, aNil_ap, one_ap, vl, liftO_some, eC_ap, oNe_int]
      rfl
    rw [e]
    simp only [seqK_nx]
    rw [sSeq_ap]
    have i1 : ∀ m, m = [MO.lst (([w0, w1, w2, w3, w4]).map .str)] → ∀ (k : Nat) w, [w0, w1, w2, w3, w4][k]? = some w → k < 5 → oIx (.ref 0) (.int k) m = some (.str w, m) := fun m hm k w hk hk5 => by
      subst hm
      have := oIx_lst (n := 0) (m := [MO.lst (([w0, w1, w2, w3, w4]).map .str)]) (xs := ([w0, w1, w2, w3, w4]).map .str) (i := (k : Int)) (v := .str w) rfl (by
        rw [atI_nat (k := k) rfl (by simpa using hk5), List.getElem?_map, hk]; rfl)
      exact this
    have x1 := i1 _ rfl 1 w1 rfl (by decide)
    have x3 := i1 _ rfl 3 w3 rfl (by decide)
    have x4 := i1 _ rfl 4 w4 rfl (by decide)
    have e : sPar3 3 4 5 (eFn F__law_whole (aCons (eOp oIx (eVar 2) (eC (.int 1))) aNil)) (eFn F__law_whole (aCons (eOp oIx (eVar 2) (eC (.int 3))) aNil)) (eFn F__law_whole (aCons (eSl (eOp oIx (eVar 2) (eC (.int 4))) (pSo (eC (.int 1))) (pSo (eOp oSub (eCall (one vLen) (aCons (eOp oIx (eVar 2) (eC (.int 4))) aNil)) (eC (.int 7))))) aNil)) [some (mat x y), some (.str s), some (.ref 0), none, none, none, none, none, none, none] [.lst (([w0, w1, w2, w3, w4]).map .str)] = some (.nx [some (mat x y), some (.str s), some (.ref 0), some (numL w1), some (numL w3), some (numL (cwOf w4)), none, none, none, none], [.lst (([w0, w1, w2, w3, w4]).map .str)]) := by
      have x1' : oIx (.ref 0) (.int 1) [MO.lst (([w0, w1, w2, w3, w4]).map .str)] = _ := x1
      have x3' : oIx (.ref 0) (.int 3) [MO.lst (([w0, w1, w2, w3, w4]).map .str)] = _ := x3
      have x4' : oIx (.ref 0) (.int 4) [MO.lst (([w0, w1, w2, w3, w4]).map .str)] = _ := x4
      simp only [sPar3_ap, eFn_ap, aCons_ap, eOp_ap, eVar_s, eVar_z, eC_ap, Res.bind_ok, x1', x3', x4', liftO_some, aNil_ap, law_whole l1, law_whole l3, Res.toS_ok, eSl_ap, pSo_ap, intD_int, eCall_ap, one_ap, vLen_str (show w4.length ≤ 16777216 by omega), oSub_int, oSl_str (show w4.length ≤ 16777216 by omega)]
      have := law_whole (t := cwOf w4) (m := [MO.lst (([w0, w1, w2, w3, w4]).map .str)]) (by omega)
      unfold cwOf at this
      rw [this]
      rfl
    rw [e]
    simp only [seqK_nx]
    have key : ∀ {xx yy cc : Int}, nums s = some (xx, yy, cc) → numL w1 = .int xx ∧ numL w3 = .int yy ∧ numL (cwOf w4) = .int cc := fun {xx yy cc} hn => by
      have e1 := ln hn
      rw [hw] at e1
      simp only [wds, List.cons.injEq, and_true] at e1
      obtain ⟨_, a, _, b, c⟩ := e1
      obtain ⟨p1, p2, p3⟩ := nm hn
      rw [a, b, c, cw_line]
      exact ⟨p1, p2, p3⟩
    generalize [MO.lst (([w0, w1, w2, w3, w4]).map D.str)] = mm
    rw [sSeq_ap]
    cases hn : nums s with
    | none =>
      have hr : rd (ax (x, y)) s = none := by simp [rd, hn]
      rw [hr]
      refine ⟨mm, ?_⟩
      rcases numL_two w1 with q1 | ⟨a, q1⟩
      · simp [q1, lrd]
      · rcases numL_two w3 with q3 | ⟨b, q3⟩
        · simp [q1, q3, lrd]
        · rcases numL_two (cwOf w4) with q4 | ⟨c, q4⟩
          · simp [q1, q3, q4, lrd]
          · by_cases hc : c = 0
            · subst hc
              simp [q1, q3, q4, lrd]
            · have hc' : (c == 0) = false := by simpa using hc
              have ba := (numL_int q1).2
              have bb := (numL_int q3).2
              have bc := (numL_int q4).2
              have hq := ax_ok h
              obtain ⟨f1, f2⟩ := fs_abs hq ba (y := -b) (by rw [Int.natAbs_neg]; exact bb)
              have g1 := Nat.le_trans (fdiv_abs (firQ (ax (x, y)) a (-b)) (dtQ (ax (x, y))) hq.e) f1
              have g2 := Nat.le_trans (fdiv_abs (secQ (ax (x, y)) a (-b)) (dtQ (ax (x, y))) hq.e) f2
              obtain ⟨sx, sy⟩ := sp_abs hq g1 g2
              have tl := ptail_res (s := s) (wd := some (.ref 0)) (c6 := none) (c7 := none) (c8 := none) (c9 := none) (m := mm) h ba bb bc
              have no : ¬ lineL (spX (ax (x, y)) ((firQ (ax (x, y)) a (-b)).fdiv (dtQ (ax (x, y)))) ((secQ (ax (x, y)) a (-b)).fdiv (dtQ (ax (x, y))))) (-spY (ax (x, y)) ((firQ (ax (x, y)) a (-b)).fdiv (dtQ (ax (x, y)))) ((secQ (ax (x, y)) a (-b)).fdiv (dtQ (ax (x, y))))) c = s := fun z => by
                have t1 := strI_len (k := 407) (by decide) sx
                have t2 := strI_len (i := -spY (ax (x, y)) ((firQ (ax (x, y)) a (-b)).fdiv (dtQ (ax (x, y)))) ((secQ (ax (x, y)) a (-b)).fdiv (dtQ (ax (x, y))))) (k := 407) (by decide) (by rw [Int.natAbs_neg]; exact sy)
                have t3 := strI_len (k := 401) (by decide) bc
                have := nums_line (Nat.le_trans t1 (by decide)) (Nat.le_trans t2 (by decide)) (Nat.le_trans t3 (by decide))
                rw [z, hn] at this
                cases this
              rw [if_neg no] at tl
              rw [q1, q3, q4]
              have e : sIf (bOr (bOf (eOp oIs (eVar 3) (eC .non))) (bOr (bOf (eOp oIs (eVar 4) (eC .non))) (bOr (bOf (eOp oIs (eVar 5) (eC .non))) (bOf (eOp oEq (eVar 5) (eC (.int 0))))))) (sRet (eC .non)) sNop [some (mat x y), some (.str s), some (.ref 0), some (.int a), some (.int b), some (.int c), none, none, none, none] mm = some (.nx [some (mat x y), some (.str s), some (.ref 0), some (.int a), some (.int b), some (.int c), none, none, none, none], mm) := by
                simp [hc']
              rw [e]
              simp only [seqK_nx]
              unfold b_ptail at tl
              rw [tl]; rfl
    | some r =>
      obtain ⟨a, b, c⟩ := r
      obtain ⟨q1, q3, q4⟩ := key hn
      refine ⟨mm, ?_⟩
      by_cases hc : c = 0
      · subst hc
        have hr : rd (ax (x, y)) s = none := by simp [rd, hn]
        rw [hr]
        simp [q1, q3, q4, lrd]
      · have hc' : (c == 0) = false := by simpa using hc
        have ba := (numL_int q1).2
        have bb := (numL_int q3).2
        have bc := (numL_int q4).2
        have hq := ax_ok h
        have tl := ptail_res (s := s) (wd := some (.ref 0)) (c6 := none) (c7 := none) (c8 := none) (c9 := none) (m := mm) h ba bb bc
        have se := nums_of hn
        rw [q1, q3, q4]
        have e : sIf (bOr (bOf (eOp oIs (eVar 3) (eC .non))) (bOr (bOf (eOp oIs (eVar 4) (eC .non))) (bOr (bOf (eOp oIs (eVar 5) (eC .non))) (bOf (eOp oEq (eVar 5) (eC (.int 0))))))) (sRet (eC .non)) sNop [some (mat x y), some (.str s), some (.ref 0), some (.int a), some (.int b), some (.int c), none, none, none, none] mm = some (.nx [some (mat x y), some (.str s), some (.ref 0), some (.int a), some (.int b), some (.int c), none, none, none, none], mm) := by
          simp [hc']
        rw [e]
        simp only [seqK_nx]
        unfold b_ptail at tl
        rw [tl]
        have hw := wt_iff hq a (-b)
        have hr : rd (ax (x, y)) s = match wtQ (ax (x, y)) a (-b) with
          | some w => some (w.1, w.2, c)
          | none => none := by simp only [rd, hn, if_neg hc] <;> rfl
        rw [hr]
        unfold wtQ
        by_cases hd : (firQ (ax (x, y)) a (-b)).fmod (dtQ (ax (x, y))) = 0 ∧ (secQ (ax (x, y)) a (-b)).fmod (dtQ (ax (x, y))) = 0
        · obtain ⟨z1, z2⟩ := hw.mp hd
          rw [if_pos hd]
          rw [z1, z2]
          have hz : lineL a (- -b) c = s := by rw [Int.neg_neg]; exact se.symm
          rw [if_pos hz]
          rfl
        · rw [if_neg hd]
          have no : ¬ lineL (spX (ax (x, y)) ((firQ (ax (x, y)) a (-b)).fdiv (dtQ (ax (x, y)))) ((secQ (ax (x, y)) a (-b)).fdiv (dtQ (ax (x, y))))) (-spY (ax (x, y)) ((firQ (ax (x, y)) a (-b)).fdiv (dtQ (ax (x, y)))) ((secQ (ax (x, y)) a (-b)).fdiv (dtQ (ax (x, y))))) c = s := fun z => by
            obtain ⟨f1, f2⟩ := fs_abs hq ba (y := -b) (by rw [Int.natAbs_neg]; exact bb)
            have g1 := Nat.le_trans (fdiv_abs (firQ (ax (x, y)) a (-b)) (dtQ (ax (x, y))) hq.e) f1
            have g2 := Nat.le_trans (fdiv_abs (secQ (ax (x, y)) a (-b)) (dtQ (ax (x, y))) hq.e) f2
            obtain ⟨sx, sy⟩ := sp_abs hq g1 g2
            have t1 := strI_len (k := 407) (by decide) sx
            have t2 := strI_len (i := -spY (ax (x, y)) ((firQ (ax (x, y)) a (-b)).fdiv (dtQ (ax (x, y)))) ((secQ (ax (x, y)) a (-b)).fdiv (dtQ (ax (x, y))))) (k := 407) (by decide) (by rw [Int.natAbs_neg]; exact sy)
            have t3 := strI_len (k := 401) (by decide) bc
            have nl := nums_line (Nat.le_trans t1 (by decide)) (Nat.le_trans t2 (by decide)) (Nat.le_trans t3 (by decide))
            rw [z, hn] at nl
            simp only [Option.some.injEq, Prod.mk.injEq] at nl
            exact hd (hw.mpr ⟨nl.1.symm, by omega⟩)
          rw [if_neg no]
          rfl
  · have hr : rd (ax (x, y)) s = none := by
      unfold rd
      cases hn : nums s with
      | none => rfl
      | some r =>
        obtain ⟨a, b, c⟩ := r
        exfalso
        apply h5
        rw [nums_of hn, line_cut]; rfl
    rw [hr]
    refine ⟨[.lst ((cutC 34 s).map .str)], ?_⟩
    have n5 : (((cutC 34 s).length : Int) == 5) = false := by
      have : ¬ ((cutC 34 s).length : Int) = 5 := by omega
      simpa using this
    rw [sSeq_ap, sIf_ap]
    simp only [bOf_ap, eOp_ap, eCall_ap, aCons_ap, eVar_s, eVar_z, Res.bind_ok, aNil_ap, one_ap, vl, liftO_some, eC_ap, oNe_int, n5]
    rfl
end K57

set_option Elab.async false
set_option linter.all false
set_option maxRecDepth 100000
set_option maxHeartbeats 4000000
namespace K57
open PySem PySem.Spec PyProof.Rows L2
open DL
def prP (t : T3) : PyData := .tuple [.tuple [.int t.1, .int t.2.1], .int t.2.2]
theorem py_prs (m : Mem) (k : Nat) : ∀ P : List T3, mapO (pyN m k) (P.map pr) = some (P.map prP)
  | [] => rfl
  | t :: r => by
    have : pyN m k (pr t) = some (prP t) := by cases k <;> rfl
    simp only [List.map_cons, mapO, this, py_prs m k r]
theorem lay_prP : ∀ P : List T3, PyData.canLayAll0 (P.map prP) = true
  | [] => rfl
  | t :: r => by simp [PyData.canLayAll0, PyData.canLay0, prP]; exact lay_prP r
theorem dep_prP : ∀ P : List T3, PyData.depthAll (P.map prP) ≤ 2
  | [] => by simp [PyData.depthAll]
  | t :: r => by
    have := dep_prP r
    simp [PyData.depthAll, PyData.depth, prP]; omega
theorem eq_prs {m : Mem} {f k : Nat} {P : List T3} (h1 : m[f]? = some (.lst (P.map pr))) (h2 : m[k]? = some (.lst [])) : eqD m (.ref f) (.ref k) = some (decide (P = [])) := by
  have s : eqS (.ref f) (.ref k) = none := rfl
  have p : ∀ (n : Nat) (Q : List T3), m[n]? = some (.lst (Q.map pr)) → pyN m 3 (.ref n) = some (PyData.list (Q.map prP)) := fun n Q h => by
    show (match m[n]? with
      | some (.lst xs) => (match mapO (pyN m 2) xs with
        | some ds => some (PyData.list ds)
        | none => none)
      | _ => none) = _
    rw [h]
    simp only [py_prs m 2 Q]
  have sh : ∀ Q : List T3, SeqAt.shaped (PyData.list (Q.map prP)) = true := fun Q => by
    have := dep_prP Q
    simp [SeqAt.shaped, PyData.canLay0, PyData.depth, lay_prP Q]; omega
  have e : eqDt m (.ref f) (.ref k) = some (decide (P = [])) := by
    have p2 := p k [] h2
    simp only [eqDt, p f P h1, p2, sh P, sh [], Bool.and_self]
    cases P <;> rfl
  simp only [eqD, s, e]
theorem atI_last {α : Type} {ys : List α} {x : α} : atI (ys ++ [x]) (-1) = some x := by
  have e : ixN (ys ++ [x]).length (-1) = some ys.length := by
    unfold ixN
    simp
    omega
  show (ixN (ys ++ [x]).length (-1)).bind _ = _
  rw [e]; simp
/-! what both readers find -/
inductive Out where
  | tab (G : List T3)
  | bad (k : Nat)
  | out
def lastGe (F : List T3) (t : T3) : Bool := match F.getLast? with
  | some u => leI2 [t.1, t.2.1] [u.1, u.2.1]
  | none => false
def endS : List Nat := [60, 47, 115, 118, 103, 62]
def headS : List Nat := [60, 115, 118, 103, 32, 120, 109, 108, 110, 115, 61, 34, 104, 116, 116, 112, 58, 47, 47, 119, 119, 119, 46, 119, 51, 46, 111, 114, 103, 47, 50, 48, 48, 48, 47, 115, 118, 103, 34, 32, 118, 105, 101, 119, 66, 111, 120, 61, 34, 45, 51, 48, 48, 32, 45, 51, 48, 48, 32, 54, 48, 48, 32, 54, 48, 48, 34, 62]
def goO (q : Int × Int × Int × Int) : List (List Nat) → Nat → List T3 → Int → Out
  | [], _, _, _ => .out
  | l :: r, a, F, S => if l = endS then (if r = [] then .tab F else .bad (a + 1)) else match rd q l with
    | none => .bad a
    | some t => if lastGe F t || decide (1000 < S + (t.2.2.natAbs : Int)) then .bad a else goO q r (a + 1) (F ++ [t]) (S + t.2.2.natAbs)
structure LOk (l : List Nat) : Prop where
  len : l.length ≤ 100000
  dg : dg l ≤ 500
  q4 : l.countP (· == 34) = 4 → K57.dg l ≤ 390
abbrev b_tab : FS := (sSeq (sIf (bOf (eOp oEq (eVar 6) (eC (.str [60, 47, 115, 118, 103, 62])))) (sSeq (sIf (bOf (eOp oLt (eOp oAdd (eVar 5) (eC (.int 2))) (eCall (one vLen) (aCons (eVar 2) aNil)))) (sRaise1 0 (eOp oAdd (eVar 5) (eC (.int 2)))) sNop)
    (sRet (eCall (one vTup) (aCons (eVar 3) aNil)))) sNop)
    (sSeq (sSet 7 (eFn F_pair_in (aCons (eVar 0) (aCons (eVar 6) aNil))))
    (sSeq (sSet 4 (eOp oAdd (eVar 4) (eCallL qSum (lcV (eVar 7) (pTup [(pName 8), (pName 9)]) [8, 9] bYes (eCall (one vAbs) (aCons (eVar 9) aNil))))))
    (sSeq (sIf (bOr (bOf (eOp oEq (eVar 7) (eLst aNil))) (bOr (bOf (eOp oGt (eVar 4) (eC (.int 1000)))) (bAnd (bOf (eOp oNe (eVar 3) (eLst aNil))) (bOf (eOp oGeT (eOp oIx (eOp oIx (eVar 3) (eUn oNeg (eC (.int 1)))) (eC (.int 0))) (eOp oIx (eOp oIx (eVar 7) (eC (.int 0))) (eC (.int 0)))))))) (sRaise1 0 (eOp oAdd (eVar 5) (eC (.int 1)))) sNop)
    (sSet 3 (eOp oAdd (eVar 3) (eVar 7)))))))
theorem abs_match (c : Int) : (match decide (c < 0) with | true => -c | false => c) = (c.natAbs : Int) := by
  by_cases h : c < 0
  · rw [decide_eq_true h]; show -c = _; omega
  · rw [decide_eq_false h]; show c = _; omega
theorem vAbs_int (c : Int) (m : Mem) : vAbs (.int c) m = some (.int (c.natAbs : Nat), m) := by
  have := abs_match c
  simp only [vAbs, intD_int]
  exact congrArg (fun z => some (D.int z, m)) this
/-- one line -/
theorem tab_end {x y S : Int} {L : List Nat} {ls : List (List Nat)} {F : List T3} {f i : Nat} {tx c7 c8 c9 : Option D} {m : Mem} (hm : m[0]? = some (.lst (ls.map .str))) (hf : m[f]? = some (.lst (F.map pr))) :
    b_tab [some (mat x y), tx, some (.ref 0), some (.ref f), some (.int S), some (.int (i : Nat)), some (.str endS), c7, c8, c9] m = if i + 2 < ls.length then some (.ex 0 (.int ((i + 2 : Nat) : Int)) [some (mat x y), tx, some (.ref 0), some (.ref f), some (.int S), some (.int (i : Nat)), some (.str endS), c7, c8, c9], m) else some (.rt (.tup (F.map pr)), m) := by
  have vl := vLen_lst hm
  rw [List.length_map] at vl
  have vt : vTup (.ref f) m = some (.tup (F.map pr), m) := by simp [vTup, tupD, hf]
  unfold b_tab
  rw [show endS = ([60, 47, 115, 118, 103, 62] : List Nat) from rfl]
  by_cases h : i + 2 < ls.length
  · have h' : decide ((i : Int) + 2 < (ls.length : Int)) = true := by simp; omega
    rw [if_pos h]
    simp [vl, h']
  · have h' : decide ((i : Int) + 2 < (ls.length : Int)) = false := by simp; omega
    rw [if_neg h]
    simp [vl, h', vt]
theorem oEq_prs {m : Mem} {f k : Nat} {P : List T3} (h1 : m[f]? = some (.lst (P.map pr))) (h2 : m[k]? = some (.lst [])) : oEq (.ref f) (.ref k) m = some (.bl (decide (P = [])), m) := by
  simp only [oEq, eq_prs h1 h2]
theorem oNe_prs {m : Mem} {f k : Nat} {P : List T3} (h1 : m[f]? = some (.lst (P.map pr))) (h2 : m[k]? = some (.lst [])) : oNe (.ref f) (.ref k) m = some (.bl (!decide (P = [])), m) := by
  simp only [oNe, eq_prs h1 h2]
theorem tab_none {x y S : Int} {l : List Nat} {f i : Nat} {tx ll c7 c8 c9 : Option D} {m : Mem} (h : (x, y) ∈ ms) (ok : LOk l) (hl : l ≠ endS) (hr : rd (ax (x, y)) l = none) :
    ∃ ρ m', b_tab [some (mat x y), tx, ll, some (.ref f), some (.int S), some (.int (i : Nat)), some (.str l), c7, c8, c9] m = some (.ex 0 (.int ((i + 1 : Nat) : Int)) ρ, m') := by
  obtain ⟨k, j, e, hj⟩ := pair_in h (m := m) ok.len ok.dg
  rw [hr] at hj
  have hl' : ¬ l = [60, 47, 115, 118, 103, 62] := hl
  generalize hm2 : m ++ j = m2 at e hj
  generalize m.length + k = n at e hj
  have lc : lcV (eVar 7) (pTup [(pName 8), (pName 9)]) [8, 9] bYes (eCall (one vAbs) (aCons (eVar 9) aNil)) [some (mat x y), tx, ll, some (.ref f), some (.int S), some (.int (i : Nat)), some (.str l), some (.ref n), c8, c9] m2 = .ok ([] : List D) m2 := by
    rw [lcV_lst (n := n) (m1 := m2) (by simp) (.inr ⟨_, hj⟩) hj, lcGo_map (L := ([] : List T3)) (enc := pr) (g := fun _ => .non) (fun i _ => seq_lst hj i) (by simp) (by simp) (fun t ht => by simp at ht)]
    rfl
  have q := oEq_prs (P := []) (mem_app (m1 := [MO.lst []]) hj) (mem_new (m := m2) (o := .lst []))
  refine ⟨[some (mat x y), tx, ll, some (.ref f), some (.int (S + 0)), some (.int (i : Nat)), some (.str l), some (.ref n), c8, c9], m2 ++ [.lst []], ?_⟩
  unfold b_tab
  rw [sSeq_ap, sIf_ap]
  simp [hl', e]
  rw [lc]
  simp [qSum, intsD, sumI, q]
theorem lastGe_eq {F : List T3} {t : T3} (hF : F ≠ []) : ∃ u, atI (F.map pr) (-1) = some (pr u) ∧ lastGe F t = leI2 [t.1, t.2.1] [u.1, u.2.1] := by
  obtain ⟨ys, u, rfl⟩ : ∃ ys u, F = ys ++ [u] := ⟨F.dropLast, F.getLast hF, (List.dropLast_concat_getLast hF).symm⟩
  refine ⟨u, ?_, ?_⟩
  · rw [List.map_append]; exact atI_last
  · simp [lastGe]
theorem ge_pr (t u : T3) (m : Mem) : oGeT (.tup [.int u.1, .int u.2.1]) (.tup [.int t.1, .int t.2.1]) m = some (.bl (leI2 [t.1, t.2.1] [u.1, u.2.1]), m) := oGeT_tup (is := [u.1, u.2.1]) (js := [t.1, t.2.1])
theorem le_pr (t u : T3) (m : Mem) : oLeT (.tup [.int t.1, .int t.2.1]) (.tup [.int u.1, .int u.2.1]) m = some (.bl (leI2 [t.1, t.2.1] [u.1, u.2.1]), m) := oLeT_tup (is := [t.1, t.2.1]) (js := [u.1, u.2.1])
theorem tab_some {x y S : Int} {l : List Nat} {F : List T3} {t : T3} {f i : Nat} {tx ll c7 c8 c9 : Option D} {m : Mem} (h : (x, y) ∈ ms) (ok : LOk l) (hl : l ≠ endS) (hr : rd (ax (x, y)) l = some t) (hf : m[f]? = some (.lst (F.map pr))) (hF : F.length ≤ 10000) :
    (((lastGe F t || decide (1000 < S + (t.2.2.natAbs : Int))) = true ∧ ∃ ρ m', b_tab [some (mat x y), tx, ll, some (.ref f), some (.int S), some (.int (i : Nat)), some (.str l), c7, c8, c9] m = some (.ex 0 (.int ((i + 1 : Nat) : Int)) ρ, m')) ∨
    ((lastGe F t || decide (1000 < S + (t.2.2.natAbs : Int))) = false ∧ ∃ f' n j, b_tab [some (mat x y), tx, ll, some (.ref f), some (.int S), some (.int (i : Nat)), some (.str l), c7, c8, c9] m = some (.nx [some (mat x y), tx, ll, some (.ref f'), some (.int (S + t.2.2.natAbs)), some (.int (i : Nat)), some (.str l), some (.ref n), c8, c9], m ++ j) ∧ (m ++ j)[f']? = some (.lst ((F ++ [t]).map pr)))) := by
  obtain ⟨k, j, e, hj⟩ := pair_in h (m := m) ok.len ok.dg
  rw [hr] at hj
  have hl' : ¬ l = [60, 47, 115, 118, 103, 62] := hl
  have hf2 := mem_app (m1 := j) hf
  generalize hn : m.length + k = n at e hj
  have lc : lcV (eVar 7) (pTup [(pName 8), (pName 9)]) [8, 9] bYes (eCall (one vAbs) (aCons (eVar 9) aNil)) [some (mat x y), tx, ll, some (.ref f), some (.int S), some (.int (i : Nat)), some (.str l), some (.ref n), c8, c9] (m ++ j) = .ok [D.int (t.2.2.natAbs : Nat)] (m ++ j) := by
    rw [lcV_lst (n := n) (m1 := m ++ j) (by simp) (.inr ⟨_, hj⟩) hj, lcGo_map (L := [t]) (enc := pr) (g := fun t => .int (t.2.2.natAbs : Nat)) (fun i _ => seq_lst hj i) (by simp [rdD]) (by simp) (fun u hu => ⟨[(8, .tup [.int u.1, .int u.2.1]), (9, .int u.2.2)], rfl, rfl, by simp [vAbs_int]⟩)]
    rfl
  have su : qSum [D.int (t.2.2.natAbs : Nat)] (m ++ j) = some (.int (t.2.2.natAbs : Nat), m ++ j) := by
    simp [qSum, intsD, sumI]
  have q := oEq_prs (P := [t]) (mem_app (m1 := [MO.lst []]) hj) (mem_new (m := m ++ j) (o := .lst []))
  have e1 : ∀ g : FS, sSeq (sIf (bOf (eOp oEq (eVar 6) (eC (.str [60, 47, 115, 118, 103, 62])))) (sSeq (sIf (bOf (eOp oLt (eOp oAdd (eVar 5) (eC (.int 2))) (eCall (one vLen) (aCons (eVar 2) aNil)))) (sRaise1 0 (eOp oAdd (eVar 5) (eC (.int 2)))) sNop)
    (sRet (eCall (one vTup) (aCons (eVar 3) aNil)))) sNop)
    (sSeq (sSet 7 (eFn F_pair_in (aCons (eVar 0) (aCons (eVar 6) aNil))))
    (sSeq (sSet 4 (eOp oAdd (eVar 4) (eCallL qSum (lcV (eVar 7) (pTup [(pName 8), (pName 9)]) [8, 9] bYes (eCall (one vAbs) (aCons (eVar 9) aNil)))))) g)) [some (mat x y), tx, ll, some (.ref f), some (.int S), some (.int (i : Nat)), some (.str l), c7, c8, c9] m = g [some (mat x y), tx, ll, some (.ref f), some (.int (S + (t.2.2.natAbs : Nat))), some (.int (i : Nat)), some (.str l), some (.ref n), c8, c9] (m ++ j) := fun g => by
    rw [sSeq_ap, sIf_ap]
    simp [hl', e]
    rw [lc]
    simp [su]
  unfold b_tab
  rw [e1]
  have hj3 := mem_app (m1 := [MO.lst [], MO.lst []]) hj
  have hf3 := mem_app (m1 := [MO.lst [], MO.lst []]) hf2
  generalize hm2 : m ++ j = m2 at *
  have q2 := oNe_prs (P := F) hf3 (show (m2 ++ [MO.lst [], MO.lst []])[m2.length + 1]? = some (.lst []) by simp)
  by_cases hS : 1000 < S + (t.2.2.natAbs : Int)
  · left
    refine ⟨by simp [hS], [some (mat x y), tx, ll, some (.ref f), some (.int (S + (t.2.2.natAbs : Nat))), some (.int (i : Nat)), some (.str l), some (.ref n), c8, c9], m2 ++ [.lst []], ?_⟩
    have hS' : decide ((1000 : Int) < S + ((t.2.2.natAbs : Nat) : Int)) = true := by simpa using hS
    simp [q, hS']
  · have hS' : decide ((1000 : Int) < S + ((t.2.2.natAbs : Nat) : Int)) = false := by simpa using hS
    have ad : ∀ (jj : Mem), oAdd (.ref f) (.ref n) (m2 ++ jj) = some (.ref (m2 ++ jj).length, m2 ++ jj ++ [.lst ((F ++ [t]).map pr)]) := fun jj => by
      have a1 := mem_app (m1 := jj) hf2
      have a2 := mem_app (m1 := jj) hj
      have h4 : decide (F.length ≤ 16777215) = true := by simp; omega
      simp [oAdd, mlst_ref, a1, a2, rdD, h4]
    by_cases hF0 : F = []
    · right
      subst hF0
      refine ⟨by simp [lastGe]; omega, m2.length + 2, n, j ++ [.lst [], .lst [], .lst (([] ++ [t]).map pr)], ?_, ?_⟩
      · have a := ad [.lst [], .lst []]
        rw [← List.append_assoc, hm2]
        simp only [List.nil_append] at a q2
        simp [q, hS', q2]
        simp at a
        simp [a]
      · rw [← List.append_assoc, hm2]; simp
    · obtain ⟨u, hu, hg⟩ := lastGe_eq (t := t) hF0
      have d0 : decide (F = []) = false := decide_eq_false hF0
      have g := ge_pr t u
      cases hb : leI2 [t.1, t.2.1] [u.1, u.2.1] with
      | true =>
        left
        refine ⟨by simp [hg, hb], [some (mat x y), tx, ll, some (.ref f), some (.int (S + (t.2.2.natAbs : Nat))), some (.int (i : Nat)), some (.str l), some (.ref n), c8, c9], m2 ++ [.lst [], .lst []], ?_⟩
        simp [q, hS', q2, d0, hf3, hj3, hu, rdD, pr, g, hb]
      | false =>
        right
        refine ⟨by simp [hg, hb]; omega, m2.length + 2, n, j ++ [.lst [], .lst [], .lst ((F ++ [t]).map pr)], ?_, ?_⟩
        · have a := ad [.lst [], .lst []]
          rw [← List.append_assoc, hm2]
          simp [q, hS', q2, d0, hf3, hj3, hu, rdD, pr, g, hb]
          simp [pr] at a
          simp [a]
        · rw [← List.append_assoc, hm2]; simp
end K57

set_option Elab.async false
set_option linter.all false
set_option maxRecDepth 100000
set_option maxHeartbeats 4000000
namespace K57
open PySem PySem.Spec PyProof.Rows L2
open DL
theorem tab_go {x y : Int} (h : (x, y) ∈ ms) {ls tl : List (List Nat)} {tx : Option D} {e : Nat} (hlen : ls.length = tl.length + 1) (hok : ∀ l ∈ tl, LOk l) (htl : tl.length ≤ 10000) : ∀ (r : List (List Nat)) (i k : Nat) (F : List T3) (S : Int) (f : Nat) (c5 c6 c7 c8 c9 : Option D) (m : Mem),
    tl.drop i = r → i + r.length = tl.length → r.length < k → F.length ≤ i → m[0]? = some (.lst (ls.map .str)) → m[e]? = some (.lst (tl.map .str)) → m[f]? = some (.lst (F.map pr)) →
    match goO (ax (x, y)) r (i + 1) F S with
    | .tab G => ∃ m', forGo (enN (seqN (.ref e))) (pTup [(pName 5), (pName 6)]) b_tab k i [some (mat x y), tx, some (.ref 0), some (.ref f), some (.int S), c5, c6, c7, c8, c9] m = some (.rt (.tup (G.map pr)), m')
    | .bad z => ∃ ρ m', forGo (enN (seqN (.ref e))) (pTup [(pName 5), (pName 6)]) b_tab k i [some (mat x y), tx, some (.ref 0), some (.ref f), some (.int S), c5, c6, c7, c8, c9] m = some (.ex 0 (.int (z : Nat)) ρ, m')
    | .out => ∃ c3 c4 c5' c6' c7' c8' c9' m', forGo (enN (seqN (.ref e))) (pTup [(pName 5), (pName 6)]) b_tab k i [some (mat x y), tx, some (.ref 0), some (.ref f), some (.int S), c5, c6, c7, c8, c9] m = some (.nx [some (mat x y), tx, some (.ref 0), c3, c4, c5', c6', c7', c8', c9'], m') ∧ m'[0]? = some (.lst (ls.map .str))
  | [], i, k + 1, F, S, f, c5, c6, c7, c8, c9, m, hr, hi, hk, hF, h0, he, hf => by
    refine ⟨some (.ref f), some (.int S), c5, c6, c7, c8, c9, m, ?_, h0⟩
    have : enN (seqN (.ref e)) i m = .stop := by
      show enC i (seqN (.ref e) i m) = _
      rw [seq_lst he, atN_fin (by simpa using hi.symm)]; rfl
    rw [forGo, this]
  | l :: r, i, k + 1, F, S, f, c5, c6, c7, c8, c9, m, hr, hi, hk, hF, h0, he, hf => by
    have hil : i < tl.length := by simp at hi; omega
    have hl : tl[i] = l := by
      have := List.drop_eq_getElem_cons hil
      rw [hr] at this
      exact (List.cons.inj this).1.symm
    have hr' : tl.drop (i + 1) = r := by
      have := List.drop_eq_getElem_cons hil
      rw [hr] at this
      exact (List.cons.inj this).2.symm
    have it : enN (seqN (.ref e)) i m = .item (.tup [.int (i : Nat), .str l]) := by
      show enC i (seqN (.ref e) i m) = _
      rw [seq_lst he, atN_lt (by simpa using hil)]
      simp [enC, hl]
    have ok : LOk l := hok l (hl ▸ List.getElem_mem hil)
    rw [forGo, it]
    have pt : pTup [(pName 5), (pName 6)] m (.tup [.int (i : Nat), .str l]) = some [(5, .int (i : Nat)), (6, .str l)] := rfl
    simp only [pt, setsD_cons, setsD_nil, List.set_cons_succ, List.set_cons_zero]
    by_cases hle : l = endS
    · rw [hle]
      have te := tab_end (x := x) (y := y) (S := S) (L := []) (tx := tx) (c7 := c7) (c8 := c8) (c9 := c9) (i := i) h0 hf
      unfold goO
      rw [if_pos rfl]
      by_cases hr0 : r = []
      · rw [if_pos hr0]
        rw [if_neg (by simp [hr0] at hi; omega)] at te
        rw [te]
        exact ⟨m, rfl⟩
      · rw [if_neg hr0]
        have : 0 < r.length := List.length_pos_iff.mpr hr0
        rw [if_pos (by simp at hi; omega)] at te
        rw [te]
        exact ⟨_, m, rfl⟩
    · unfold goO
      rw [if_neg hle]
      cases hrd : rd (ax (x, y)) l with
      | none =>
        obtain ⟨ρ, m', e1⟩ := tab_none (S := S) (f := f) (i := i) (tx := tx) (ll := some (.ref 0)) (c7 := c7) (c8 := c8) (c9 := c9) (m := m) h ok hle hrd
        rw [e1]
        exact ⟨ρ, m', rfl⟩
      | some t =>
        simp only []
        rcases tab_some (S := S) (f := f) (i := i) (tx := tx) (ll := some (.ref 0)) (c7 := c7) (c8 := c8) (c9 := c9) (m := m) h ok hle hrd hf (by omega) with ⟨hb, ρ, m', e1⟩ | ⟨hb, f', n, j, e1, hf'⟩
        · rw [if_pos hb, e1]
          exact ⟨ρ, m', rfl⟩
        · rw [if_neg (by rw [hb]; simp), e1]
          exact tab_go h hlen hok htl r (i + 1) k (F ++ [t]) (S + (t.2.2.natAbs : Nat)) f' _ _ _ c8 c9 (m ++ j) hr' (by simp at hi; omega) (by simp at hk; omega) (by simp; omega) (mem_app h0) (mem_app he) hf'
/-- what a text tells -/
def outT (q : Int × Int × Int × Int) (T : List Nat) : Out := match cutC 10 T with
  | [] => .bad 0
  | l :: r => if l = headS then (match goO q r 1 [] 0 with
    | .tab G => .tab G
    | .bad k => .bad k
    | .out => .bad (r.length + 1)) else .bad 0
structure TOk (T : List Nat) : Prop where
  len : T.length + 2 ≤ 16777216
  n : (cutC 10 T).length ≤ 10000
  ok : ∀ l ∈ cutC 10 T, LOk l
theorem table_read {x y : Int} (h : (x, y) ∈ ms) {T : List Nat} (ok : TOk T) (m : Mem) : callS F_table_read [mat x y, .str T] m = match outT (ax (x, y)) T with
    | .tab G => .ok (.tup (G.map pr)) m
    | .bad k => .exc 0 (.int (k : Nat)) m
    | .out => .bad := by
  obtain ⟨l0, r, hc⟩ : ∃ l0 r, cutC 10 T = l0 :: r := by
    cases q : cutC 10 T with
    | nil => exact absurd q (cutC_ne _ _)
    | cons a b => exact ⟨a, b, rfl⟩
  have okn := ok.n
  have okl := ok.ok
  rw [hc] at okn okl
  have e1 : sPar3 2 3 4 (eMt "str" mSplit (eVar 1) (aCons (eC (.str [10])) aNil)) (eLst aNil) (eC (.int 0)) [some (mat x y), some (.str T), none, none, none, none, none, none, none, none] [] = some (.nx [some (mat x y), some (.str T), some (.ref 0), some (.ref 1), some (.int 0), none, none, none, none, none], [.lst ((l0 :: r).map .str), .lst []]) := by
    rw [← hc]
    simp [mSplit_str (c := 10) (by decide) ok.len]
  have e2 : oIx (.ref 0) (.int 0) [MO.lst ((l0 :: r).map .str), .lst []] = some (.str l0, [MO.lst ((l0 :: r).map .str), .lst []]) := by simp
  by_cases hh : l0 = headS
  · have e3 : sIf (bOf (eOp oNe (eOp oIx (eVar 2) (eC (.int 0))) (eC (.str headS)))) (sRaise1 0 (eC (.int 0))) sNop [some (mat x y), some (.str T), some (.ref 0), some (.ref 1), some (.int 0), none, none, none, none, none] [.lst ((l0 :: r).map .str), .lst []] = some (.nx [some (mat x y), some (.str T), some (.ref 0), some (.ref 1), some (.int 0), none, none, none, none, none], [.lst ((l0 :: r).map .str), .lst []]) := by
      simp only [sIf_ap, bOf_ap, eOp_ap, eVar_s, eVar_z, eC_ap, Res.bind_ok, e2, liftO_some, oNe_str, decide_eq_true hh]
      rfl
    have e4 : iEnD (aCons (eSl (eVar 2) (pSo (eC (.int 1))) pNo) aNil) [some (mat x y), some (.str T), some (.ref 0), some (.ref 1), some (.int 0), none, none, none, none, none] [.lst ((l0 :: r).map .str), .lst []] = .ok ⟨r.length, enN (seqN (.ref 2))⟩ [.lst ((l0 :: r).map .str), .lst [], .lst (r.map .str)] := by
      have ct : DL.cutD ((l0 :: r).map D.str) (some 1) none = r.map D.str := by rw [List.map_cons]; exact cut_tail _ _
      have sl : oSl (.ref 0) (some 1) none [MO.lst ((l0 :: r).map .str), .lst []] = some (.ref 2, [.lst ((l0 :: r).map .str), .lst [], .lst (r.map .str)]) := by
        show (match mlst (.ref 0) [MO.lst ((l0 :: r).map .str), .lst []] with | some xs => newL (DL.cutD xs (some 1) none) _ | none => none) = _
        simp only [mlst_ref]
        show newL (DL.cutD ((l0 :: r).map D.str) (some 1) none) _ = _
        rw [ct]; rfl
      simp only [iEnD, aCons_ap, eSl_ap, eVar_s, eVar_z, Res.bind_ok, pSo_ap, eC_ap, intD_int, pNo_ap, sl, liftO_some, aNil_ap]
      simp [itemsD]
    have go := tab_go (tx := some (.str T)) (ls := l0 :: r) (tl := r) (e := 2) h rfl (fun l hl => okl l (by simp [hl])) (by simp at okn; omega) r 0 (r.length + 1) [] 0 1 none none none none none [.lst ((l0 :: r).map .str), .lst [], .lst (r.map .str)] rfl (by simp) (by omega) (by simp) rfl rfl rfl
    have ot : outT (ax (x, y)) T = match goO (ax (x, y)) r 1 [] 0 with
        | .tab G => .tab G
        | .bad k => .bad k
        | .out => .bad (r.length + 1) := by
      unfold outT
      rw [hc]
      simp only [if_pos hh] <;> rfl
    have start : b_table_read [some (mat x y), some (.str T), none, none, none, none, none, none, none, none] [] = seqK (forGo (enN (seqN (.ref 2))) (pTup [(pName 5), (pName 6)]) b_tab (r.length + 1) 0 [some (mat x y), some (.str T), some (.ref 0), some (.ref 1), some (.int 0), none, none, none, none, none] [.lst ((l0 :: r).map .str), .lst [], .lst (r.map .str)]) (sRaise1 0 (eCall (one vLen) (aCons (eVar 2) aNil))) := by
      unfold b_table_read
      rw [sSeq_ap, e1]
      simp only [seqK_nx]
      rw [sSeq_ap]
      unfold headS at e3
      rw [e3]
      simp only [seqK_nx]
      rw [sSeq_ap, sFor_ap, e4]
      rfl
    rw [ot]
    simp only [Nat.zero_add] at go
    cases hg : goO (ax (x, y)) r 1 [] 0 with
    | tab G =>
      rw [hg] at go
      obtain ⟨m', e5⟩ := go
      refine callS_pure (m1 := m') rfl ?_ (pures_map fun t _ => rfl)
      show retF (b_table_read _ []) = _
      have : ([some (mat x y), some (D.str T)] ++ List.replicate 8 none : DL.Env) = [some (mat x y), some (.str T), none, none, none, none, none, none, none, none] := rfl
      show retF (b_table_read [some (mat x y), some (.str T), none, none, none, none, none, none, none, none] []) = _
      rw [start, e5]; rfl
    | bad z =>
      rw [hg] at go
      obtain ⟨ρ, m', e5⟩ := go
      refine callS_exc (m1 := m') rfl ?_ rfl
      show retF (b_table_read [some (mat x y), some (.str T), none, none, none, none, none, none, none, none] []) = _
      rw [start, e5]; rfl
    | out =>
      rw [hg] at go
      obtain ⟨c3, c4, c5, c6, c7, c8, c9, m', e5, h0⟩ := go
      have vl := vLen_lst h0
      refine callS_exc (m1 := m') rfl ?_ rfl
      show retF (b_table_read [some (mat x y), some (.str T), none, none, none, none, none, none, none, none] []) = _
      rw [start, e5]
      simp [vl]
  · have ot : outT (ax (x, y)) T = .bad 0 := by
      unfold outT
      rw [hc]
      simp only [if_neg hh]
    rw [ot]
    refine callS_exc (m1 := [.lst ((l0 :: r).map .str), .lst []]) rfl ?_ rfl
    show retF (b_table_read [some (mat x y), some (.str T), none, none, none, none, none, none, none, none] []) = _
    have e3 : sIf (bOf (eOp oNe (eOp oIx (eVar 2) (eC (.int 0))) (eC (.str headS)))) (sRaise1 0 (eC (.int 0))) sNop [some (mat x y), some (.str T), some (.ref 0), some (.ref 1), some (.int 0), none, none, none, none, none] [.lst ((l0 :: r).map .str), .lst []] = some (.ex 0 (.int 0) [some (mat x y), some (.str T), some (.ref 0), some (.ref 1), some (.int 0), none, none, none, none, none], [.lst ((l0 :: r).map .str), .lst []]) := by
      simp only [sIf_ap, bOf_ap, eOp_ap, eVar_s, eVar_z, eC_ap, Res.bind_ok, e2, liftO_some, oNe_str, decide_eq_false hh]
      rfl
    unfold b_table_read
    rw [sSeq_ap, e1]
    simp only [seqK_nx]
    rw [sSeq_ap]
    unfold headS at e3
    rw [e3]
    rfl
end K57

set_option Elab.async false
set_option linter.all false
set_option maxRecDepth 100000
set_option maxHeartbeats 4000000
namespace K57
open PySem PySem.Spec PyProof.Rows L2
open DL
def badS : List Nat := [98, 97, 100]
def outD : Out → D
  | .tab G => .tup (G.map pr)
  | .bad k => .tup [.str badS, .int (k : Nat)]
  | .out => .non
theorem law_head (m : Mem) : callS F__law_head [] m = .ok (.str headS) m := callS_pure rfl rfl rfl
abbrev b_lr : FS := (sSeq (sIf (bOf (eOp oEq (eOp oIx (eVar 2) (eVar 5)) (eC (.str [60, 47, 115, 118, 103, 62])))) (sRet (eIf (bOf (eOp oEq (eVar 5) (eOp oSub (eCall (one vLen) (aCons (eVar 2) aNil)) (eC (.int 1))))) (eCall (one vTup) (aCons (eVar 3) aNil)) (eTup (aCons (eC (.str [98, 97, 100])) (aCons (eOp oAdd (eVar 5) (eC (.int 1))) aNil))))) sNop)
    (sSeq (sSet 6 (eFn F__law_pair (aCons (eVar 0) (aCons (eOp oIx (eVar 2) (eVar 5)) aNil))))
    (sSeq (sIf (bOr (bOf (eOp oIs (eVar 6) (eC .non))) (bAnd (bOf (eOp oNe (eVar 3) (eLst aNil))) (bOf (eOp oLeT (eOp oIx (eVar 6) (eC (.int 0))) (eOp oIx (eOp oIx (eVar 3) (eOp oSub (eCall (one vLen) (aCons (eVar 3) aNil)) (eC (.int 1)))) (eC (.int 0))))))) (sRet (eTup (aCons (eC (.str [98, 97, 100])) (aCons (eVar 5) aNil)))) sNop)
    (sSeq (sSet 4 (eOp oAdd (eVar 4) (eCall (one vAbs) (aCons (eOp oIx (eVar 6) (eC (.int 1))) aNil))))
    (sSeq (sIf (bOf (eOp oGt (eVar 4) (eC (.int 1000)))) (sRet (eTup (aCons (eC (.str [98, 97, 100])) (aCons (eVar 5) aNil)))) sNop)
    (sExp (eMt "list" mApp (eVar 3) (aCons (eVar 6) aNil))))))))
theorem line_at {ls : List (List Nat)} {a : Nat} {l : List Nat} {m : Mem} (h0 : m[0]? = some (.lst (ls.map .str))) (hl : ls[a]? = some l) : oIx (.ref 0) (.int (a : Nat)) m = some (.str l, m) := by
  have ha : a < ls.length := (List.getElem?_eq_some_iff.mp hl).1
  refine oIx_lst h0 ?_
  rw [atI_nat (k := a) rfl (by simpa using ha), List.getElem?_map, hl]; rfl
theorem lr_end {x y S : Int} {ls : List (List Nat)} {F : List T3} {a : Nat} {tx c6 : Option D} {m : Mem} (h0 : m[0]? = some (.lst (ls.map .str))) (h1 : m[1]? = some (.lst (F.map pr))) (hl : ls[a]? = some endS) :
    b_lr [some (mat x y), tx, some (.ref 0), some (.ref 1), some (.int S), some (.int (a : Nat)), c6] m = some (.rt (if a + 1 = ls.length then .tup (F.map pr) else .tup [.str badS, .int ((a + 1 : Nat) : Int)]), m) := by
  have la := line_at h0 hl
  have vl := vLen_lst h0
  rw [List.length_map] at vl
  have vt : vTup (.ref 1) m = some (.tup (F.map pr), m) := by simp [vTup, tupD, h1]
  have ee : decide (endS = [60, 47, 115, 118, 103, 62]) = true := rfl
  unfold b_lr
  rw [sSeq_ap, sIf_ap]
  simp only [bOf_ap, eOp_ap, eVar_s, eVar_z, eC_ap, Res.bind_ok, la, liftO_some, oEq_str, ee, sRet_ap, eIf_ap, eCall_ap, aCons_ap, aNil_ap, one_ap, vl, oSub_int, oEq_int, vt, Res.toS_ok]
  by_cases h : a + 1 = ls.length
  · have h' : ((a : Int) == (ls.length : Int) - 1) = true := by
      have : (a : Int) = (ls.length : Int) - 1 := by omega
      simpa using this
    rw [h', if_pos h]; rfl
  · have h' : ((a : Int) == (ls.length : Int) - 1) = false := by
      have : ¬ (a : Int) = (ls.length : Int) - 1 := by omega
      simpa using this
    rw [h', if_neg h]; rfl
theorem lr_none {x y S : Int} {ls : List (List Nat)} {l : List Nat} {F : List T3} {a : Nat} {tx c6 : Option D} {m : Mem} (h : (x, y) ∈ ms) (ok : LOk l) (h0 : m[0]? = some (.lst (ls.map .str))) (hl : ls[a]? = some l) (hle : l ≠ endS) (hr : rd (ax (x, y)) l = none) :
    b_lr [some (mat x y), tx, some (.ref 0), some (.ref 1), some (.int S), some (.int (a : Nat)), c6] m = some (.rt (.tup [.str badS, .int (a : Nat)]), m) := by
  have la := line_at h0 hl
  have lp := law_pair h ok.len ok.q4 m
  rw [hr] at lp
  have hl' : ¬ l = [60, 47, 115, 118, 103, 62] := hle
  unfold b_lr
  rw [sSeq_ap, sIf_ap]
  simp only [bOf_ap, eOp_ap, eVar_s, eVar_z, eC_ap, Res.bind_ok, la, liftO_some, oEq_str, decide_eq_false hl', Res.toS_ok, sNop_ap, seqK_nx]
  have la' := la
  rw [oIx_ref] at la'
  simp [la', lp, lrd, badS]
theorem lr_some {x y S : Int} {ls : List (List Nat)} {l : List Nat} {F : List T3} {t : T3} {a : Nat} {tx c6 : Option D} {m : Mem} (h : (x, y) ∈ ms) (ok : LOk l) (h0 : m[0]? = some (.lst (ls.map .str))) (h1 : m[1]? = some (.lst (F.map pr))) (hl : ls[a]? = some l) (hle : l ≠ endS) (hr : rd (ax (x, y)) l = some t) (hF : F.length ≤ 10000) :
    ((lastGe F t || decide (1000 < S + (t.2.2.natAbs : Int))) = true ∧ ∃ m', b_lr [some (mat x y), tx, some (.ref 0), some (.ref 1), some (.int S), some (.int (a : Nat)), c6] m = some (.rt (.tup [.str badS, .int (a : Nat)]), m')) ∨
    ((lastGe F t || decide (1000 < S + (t.2.2.natAbs : Int))) = false ∧ ∃ m', b_lr [some (mat x y), tx, some (.ref 0), some (.ref 1), some (.int S), some (.int (a : Nat)), c6] m = some (.nx [some (mat x y), tx, some (.ref 0), some (.ref 1), some (.int (S + t.2.2.natAbs)), some (.int (a : Nat)), some (pr t)], m') ∧ m'[0]? = some (.lst (ls.map .str)) ∧ m'[1]? = some (.lst ((F ++ [t]).map pr))) := by
  have la := line_at h0 hl
  have lp := law_pair h ok.len ok.q4 m
  rw [hr] at lp
  have hl' : ¬ l = [60, 47, 115, 118, 103, 62] := hle
  have e1 : ∀ g : FS, sSeq (sIf (bOf (eOp oEq (eOp oIx (eVar 2) (eVar 5)) (eC (.str [60, 47, 115, 118, 103, 62])))) (sRet (eIf (bOf (eOp oEq (eVar 5) (eOp oSub (eCall (one vLen) (aCons (eVar 2) aNil)) (eC (.int 1))))) (eCall (one vTup) (aCons (eVar 3) aNil)) (eTup (aCons (eC (.str [98, 97, 100])) (aCons (eOp oAdd (eVar 5) (eC (.int 1))) aNil))))) sNop)
    (sSeq (sSet 6 (eFn F__law_pair (aCons (eVar 0) (aCons (eOp oIx (eVar 2) (eVar 5)) aNil)))) g) [some (mat x y), tx, some (.ref 0), some (.ref 1), some (.int S), some (.int (a : Nat)), c6] m = g [some (mat x y), tx, some (.ref 0), some (.ref 1), some (.int S), some (.int (a : Nat)), some (pr t)] m := fun g => by
    rw [sSeq_ap, sIf_ap]
    simp only [bOf_ap, eOp_ap, eVar_s, eVar_z, eC_ap, Res.bind_ok, la, liftO_some, oEq_str, decide_eq_false hl', Res.toS_ok, sNop_ap, seqK_nx]
    have la' := la
    rw [oIx_ref] at la'
    simp [la', lp, lrd]
  unfold b_lr
  rw [e1]
  have h1' := mem_app (m1 := [MO.lst []]) h1
  have h0' := mem_app (m1 := [MO.lst []]) h0
  have q2 := oNe_prs (P := F) h1' (mem_new (m := m) (o := .lst []))
  have vl := vLen_lst h1'
  rw [List.length_map] at vl
  have fin : lastGe F t = false → b_lr = b_lr → ((lastGe F t || decide (1000 < S + (t.2.2.natAbs : Int))) = true ∧ ∃ m', sSeq (sSet 4 (eOp oAdd (eVar 4) (eCall (one vAbs) (aCons (eOp oIx (eVar 6) (eC (.int 1))) aNil)))) (sSeq (sIf (bOf (eOp oGt (eVar 4) (eC (.int 1000)))) (sRet (eTup (aCons (eC (.str [98, 97, 100])) (aCons (eVar 5) aNil)))) sNop) (sExp (eMt "list" mApp (eVar 3) (aCons (eVar 6) aNil)))) [some (mat x y), tx, some (.ref 0), some (.ref 1), some (.int S), some (.int (a : Nat)), some (pr t)] (m ++ [MO.lst []]) = some (.rt (.tup [.str badS, .int (a : Nat)]), m')) ∨
    ((lastGe F t || decide (1000 < S + (t.2.2.natAbs : Int))) = false ∧ ∃ m', sSeq (sSet 4 (eOp oAdd (eVar 4) (eCall (one vAbs) (aCons (eOp oIx (eVar 6) (eC (.int 1))) aNil)))) (sSeq (sIf (bOf (eOp oGt (eVar 4) (eC (.int 1000)))) (sRet (eTup (aCons (eC (.str [98, 97, 100])) (aCons (eVar 5) aNil)))) sNop) (sExp (eMt "list" mApp (eVar 3) (aCons (eVar 6) aNil)))) [some (mat x y), tx, some (.ref 0), some (.ref 1), some (.int S), some (.int (a : Nat)), some (pr t)] (m ++ [MO.lst []]) = some (.nx [some (mat x y), tx, some (.ref 0), some (.ref 1), some (.int (S + t.2.2.natAbs)), some (.int (a : Nat)), some (pr t)], m') ∧ m'[0]? = some (.lst (ls.map .str)) ∧ m'[1]? = some (.lst ((F ++ [t]).map pr))) := fun hg _ => by
    by_cases hS : 1000 < S + (t.2.2.natAbs : Int)
    · left
      have hS' : decide ((1000 : Int) < S + ((t.2.2.natAbs : Nat) : Int)) = true := by simpa using hS
      refine ⟨by simp [hS], m ++ [.lst []], ?_⟩
      simp [pr, vAbs_int, hS', badS]
    · right
      have hS' : decide ((1000 : Int) < S + ((t.2.2.natAbs : Nat) : Int)) = false := by simpa using hS
      refine ⟨by rw [hg, hS']; rfl, (m ++ [MO.lst []]).set 1 (MO.lst ((F ++ [t]).map pr)), ?_, ?_, mem_set h1'⟩
      · have ap := appO_lst (n := 1) (xs := F.map pr) (y := pr t) (m := m ++ [MO.lst []]) (by simp; omega)
        rw [show F.map pr ++ [pr t] = (F ++ [t]).map pr by simp] at ap
        simp [pr, vAbs_int, hS', h1']
        simp [pr] at ap
        simp [ap]
      · rw [mem_ne (by omega)]; exact h0'
  by_cases hF0 : F = []
  · have hg : lastGe F t = false := by rw [hF0]; rfl
    have d0 : decide (F = []) = true := decide_eq_true hF0
    rw [sSeq_ap, sIf_ap]
    simp only [bOr_ap, bAnd_ap, bOf_ap, eOp_ap, eVar_s, eVar_z, eC_ap, Res.bind_ok, oIs_non, liftO_some, eLst_ap, aNil_ap]
    rw [show isNon (pr t) = false from rfl]
    simp only [List.length_nil, fits_le, Nat.zero_le, decide_true, Res.bind_ok, q2, liftO_some, d0, Bool.not_true, Res.toS_ok, sNop_ap, seqK_nx]
    exact fin hg rfl
  · obtain ⟨ys, u, hy⟩ : ∃ ys u, F = ys ++ [u] := ⟨F.dropLast, F.getLast hF0, (List.dropLast_concat_getLast hF0).symm⟩
    have hg : lastGe F t = leI2 [t.1, t.2.1] [u.1, u.2.1] := by rw [hy]; simp [lastGe]
    have d0 : decide (F = []) = false := decide_eq_false hF0
    have ix : oIx (.ref 1) (.int ((F.length : Int) - 1)) (m ++ [MO.lst []]) = some (pr u, m ++ [MO.lst []]) := by
      refine oIx_lst h1' ?_
      rw [atI_nat (k := ys.length) (by rw [hy]; simp <;> omega) (by rw [hy]; simp), hy]; simp
    have ixu : ∀ m, oIx (pr u) (.int 0) m = some (.tup [.int u.1, .int u.2.1], m) := fun m => by simp [pr]
    have ixt : ∀ m, oIx (pr t) (.int 0) m = some (.tup [.int t.1, .int t.2.1], m) := fun m => by simp [pr]
    have lc : sIf (bOr (bOf (eOp oIs (eVar 6) (eC .non))) (bAnd (bOf (eOp oNe (eVar 3) (eLst aNil))) (bOf (eOp oLeT (eOp oIx (eVar 6) (eC (.int 0))) (eOp oIx (eOp oIx (eVar 3) (eOp oSub (eCall (one vLen) (aCons (eVar 3) aNil)) (eC (.int 1)))) (eC (.int 0))))))) (sRet (eTup (aCons (eC (.str [98, 97, 100])) (aCons (eVar 5) aNil)))) sNop [some (mat x y), tx, some (.ref 0), some (.ref 1), some (.int S), some (.int (a : Nat)), some (pr t)] m = match lastGe F t with
        | true => some (.rt (.tup [.str badS, .int (a : Nat)]), m ++ [MO.lst []])
        | false => some (.nx [some (mat x y), tx, some (.ref 0), some (.ref 1), some (.int S), some (.int (a : Nat)), some (pr t)], m ++ [MO.lst []]) := by
      rw [sIf_ap]
      simp only [bOr_ap, bAnd_ap, bOf_ap, eOp_ap, eVar_s, eVar_z, eC_ap, Res.bind_ok, oIs_non, liftO_some, eLst_ap, aNil_ap]
      rw [show isNon (pr t) = false from rfl]
      simp only [List.length_nil, fits_le, Nat.zero_le, decide_true, Res.bind_ok, q2, liftO_some, d0, Bool.not_false, Res.toS_ok, ixt, eCall_ap, aCons_ap, aNil_ap, eVar_s, eVar_z, one_ap, vl, oSub_int, ix, ixu, le_pr, hg]
      cases leI2 [t.1, t.2.1] [u.1, u.2.1] <;> rfl
    rw [sSeq_ap, lc]
    cases hb : lastGe F t with
    | true =>
      left
      exact ⟨rfl, _, rfl⟩
    | false =>
      have := fin hb rfl
      rw [hb] at this
      exact this
end K57

set_option Elab.async false
set_option linter.all false
set_option maxRecDepth 100000
set_option maxHeartbeats 4000000
namespace K57
open PySem PySem.Spec PyProof.Rows L2
open DL
theorem lr_go {x y : Int} (h : (x, y) ∈ ms) {ls tl : List (List Nat)} {l0 : List Nat} {tx : Option D} (hls : ls = l0 :: tl) (hok : ∀ l ∈ tl, LOk l) (htl : tl.length ≤ 10000) : ∀ (r : List (List Nat)) (i k : Nat) (F : List T3) (S : Int) (c5 c6 : Option D) (m : Mem),
    tl.drop i = r → i + r.length = tl.length → r.length < k → F.length ≤ i → m[0]? = some (.lst (ls.map .str)) → m[1]? = some (.lst (F.map pr)) →
    match goO (ax (x, y)) r (i + 1) F S with
    | .tab G => ∃ m', forGo (rgN 1 1 tl.length) (pName 5) b_lr k i [some (mat x y), tx, some (.ref 0), some (.ref 1), some (.int S), c5, c6] m = some (.rt (.tup (G.map pr)), m')
    | .bad z => ∃ m', forGo (rgN 1 1 tl.length) (pName 5) b_lr k i [some (mat x y), tx, some (.ref 0), some (.ref 1), some (.int S), c5, c6] m = some (.rt (.tup [.str badS, .int (z : Nat)]), m')
    | .out => ∃ c4 c5' c6' m', forGo (rgN 1 1 tl.length) (pName 5) b_lr k i [some (mat x y), tx, some (.ref 0), some (.ref 1), some (.int S), c5, c6] m = some (.nx [some (mat x y), tx, some (.ref 0), some (.ref 1), c4, c5', c6'], m') ∧ m'[0]? = some (.lst (ls.map .str))
  | [], i, k + 1, F, S, c5, c6, m, hr, hi, hk, hF, h0, h1 => by
    have e : i = tl.length := by simpa using hi
    refine ⟨some (.int S), c5, c6, m, ?_, h0⟩
    rw [forGo, e, rgN_end]
  | l :: r, i, k + 1, F, S, c5, c6, m, hr, hi, hk, hF, h0, h1 => by
    have hil : i < tl.length := by simp at hi; omega
    have hl : tl[i] = l := by
      have := List.drop_eq_getElem_cons hil
      rw [hr] at this
      exact (List.cons.inj this).1.symm
    have hr' : tl.drop (i + 1) = r := by
      have := List.drop_eq_getElem_cons hil
      rw [hr] at this
      exact (List.cons.inj this).2.symm
    have hll : ls[i + 1]? = some l := by
      rw [hls, List.getElem?_cons_succ, List.getElem?_eq_getElem hil, hl]
    have ok : LOk l := hok l (hl ▸ List.getElem_mem hil)
    have ei : (1 : Int) + (i : Int) * 1 = ((i + 1 : Nat) : Int) := by omega
    rw [forGo, rgN_lt hil, ei]
    simp only [pName_ap, setsD_cons, setsD_nil, List.set_cons_succ, List.set_cons_zero]
    by_cases hle : l = endS
    · rw [hle] at hll
      have te := lr_end (x := x) (y := y) (S := S) (tx := tx) (c6 := c6) h0 h1 hll
      rw [hle]
      unfold goO
      rw [if_pos rfl, te]
      by_cases hr0 : r = []
      · rw [if_pos hr0, if_pos (by rw [hls]; simp [hr0] at hi ⊢; omega)]
        exact ⟨m, rfl⟩
      · have : 0 < r.length := List.length_pos_iff.mpr hr0
        rw [if_neg hr0, if_neg (by rw [hls]; simp at hi ⊢; omega)]
        exact ⟨m, rfl⟩
    · unfold goO
      rw [if_neg hle]
      cases hrd : rd (ax (x, y)) l with
      | none =>
        rw [lr_none (S := S) (F := F) (tx := tx) (c6 := c6) h ok h0 hll hle hrd]
        exact ⟨m, rfl⟩
      | some t =>
        simp only []
        rcases lr_some (S := S) (tx := tx) (c6 := c6) h ok h0 h1 hll hle hrd (by omega) with ⟨hb, m', e1⟩ | ⟨hb, m', e1, h0', h1'⟩
        · rw [if_pos hb, e1]
          exact ⟨m', rfl⟩
        · rw [if_neg (by rw [hb]; simp), e1]
          exact lr_go h hls hok htl r (i + 1) k (F ++ [t]) (S + (t.2.2.natAbs : Nat)) _ _ m' hr' (by simp at hi; omega) (by simp at hk; omega) (by simp; omega) h0' h1'
theorem law_read {x y : Int} (h : (x, y) ∈ ms) {T : List Nat} (ok : TOk T) (m : Mem) : callS F__law_read [mat x y, .str T] m = .ok (outD (outT (ax (x, y)) T)) m := by
  obtain ⟨l0, r, hc⟩ : ∃ l0 r, cutC 10 T = l0 :: r := by
    cases q : cutC 10 T with
    | nil => exact absurd q (cutC_ne _ _)
    | cons a b => exact ⟨a, b, rfl⟩
  have okn := ok.n
  have okl := ok.ok
  rw [hc] at okn okl
  have po : ∀ o, D.pure (outD o) = true := fun o => by
    cases o with
    | tab G => exact pures_map fun t _ => rfl
    | bad k => rfl
    | out => rfl
  suffices ∃ m1, F__law_read [mat x y, .str T] [] = .ok (outD (outT (ax (x, y)) T)) m1 by
    obtain ⟨m1, e⟩ := this
    exact callS_pure rfl e (po _)
  show ∃ m1, retF (b__law_read [some (mat x y), some (.str T), none, none, none, none, none] []) = _
  have e1 : sPar3 2 3 4 (eMt "str" mSplit (eVar 1) (aCons (eC (.str [10])) aNil)) (eLst aNil) (eC (.int 0)) [some (mat x y), some (.str T), none, none, none, none, none] [] = some (.nx [some (mat x y), some (.str T), some (.ref 0), some (.ref 1), some (.int 0), none, none], [.lst ((l0 :: r).map .str), .lst []]) := by
    rw [← hc]
    simp [mSplit_str (c := 10) (by decide) ok.len]
  have e2 : oIx (.ref 0) (.int 0) [MO.lst ((l0 :: r).map .str), .lst []] = some (.str l0, [MO.lst ((l0 :: r).map .str), .lst []]) := by simp
  unfold b__law_read
  rw [sSeq_ap, e1]
  simp only [seqK_nx]
  rw [sSeq_ap, sIf_ap]
  simp only [bOf_ap, eOp_ap, eVar_s, eVar_z, eC_ap, Res.bind_ok, e2, liftO_some, eFn_ap, aNil_ap, law_head, oNe_str]
  by_cases hh : l0 = headS
  · have ot : outT (ax (x, y)) T = match goO (ax (x, y)) r 1 [] 0 with
        | .tab G => .tab G
        | .bad k => .bad k
        | .out => .bad (r.length + 1) := by
      unfold outT
      rw [hc]
      simp only [if_pos hh] <;> rfl
    have vl : vLen (.ref 0) [MO.lst ((l0 :: r).map .str), .lst []] = some (.int ((r.length + 1 : Nat) : Int), [MO.lst ((l0 :: r).map .str), .lst []]) := by
      have := vLen_lst (n := 0) (m := [MO.lst ((l0 :: r).map .str), .lst []]) (xs := (l0 :: r).map .str) rfl
      simpa using this
    have go := lr_go (tx := some (.str T)) (ls := l0 :: r) (tl := r) h rfl (fun l hl => okl l (by simp [hl])) (by simp at okn; omega) r 0 (r.length + 1) [] 0 none none [.lst ((l0 :: r).map .str), .lst []] rfl (by simp) (by omega) (by simp) rfl rfl
    have fr : sFor (iRg2 (aCons (eC (.int 1)) (aCons (eCall (one vLen) (aCons (eVar 2) aNil)) aNil))) (pName 5) b_lr [some (mat x y), some (.str T), some (.ref 0), some (.ref 1), some (.int 0), none, none] [.lst ((l0 :: r).map .str), .lst []] = forGo (rgN 1 1 r.length) (pName 5) b_lr (r.length + 1) 0 [some (mat x y), some (.str T), some (.ref 0), some (.ref 1), some (.int 0), none, none] [.lst ((l0 :: r).map .str), .lst []] := by
      rw [sFor_rg2 (i := 1) (j := ((r.length + 1 : Nat) : Int)) (m1 := [.lst ((l0 :: r).map .str), .lst []]) (by
        simp only [aCons_ap, eC_ap, eCall_ap, eVar_s, eVar_z, Res.bind_ok, aNil_ap, one_ap, vl, liftO_some])]
      rw [show (((r.length + 1 : Nat) : Int) - 1).toNat = r.length by omega]
    simp only [decide_eq_true hh, Bool.not_true, Res.toS_ok, sNop_ap, seqK_nx]
    rw [sSeq_ap, fr, ot]
    simp only [Nat.zero_add] at go
    cases hg : goO (ax (x, y)) r 1 [] 0 with
    | tab G =>
      rw [hg] at go
      obtain ⟨m', e5⟩ := go
      exact ⟨m', by rw [e5]; rfl⟩
    | bad z =>
      rw [hg] at go
      obtain ⟨m', e5⟩ := go
      exact ⟨m', by rw [e5]; rfl⟩
    | out =>
      rw [hg] at go
      obtain ⟨c4, c5, c6, m', e5, h0⟩ := go
      have vl2 := vLen_lst h0
      refine ⟨m', ?_⟩
      rw [e5]
      simp [vl2, outD, badS]
  · have ot : outT (ax (x, y)) T = .bad 0 := by
      unfold outT
      rw [hc]
      simp only [if_neg hh]
    rw [ot]
    simp only [decide_eq_false hh]
    exact ⟨_, rfl⟩
end K57

set_option Elab.async false
set_option linter.all false
set_option maxRecDepth 100000
set_option maxHeartbeats 4000000
namespace K57
open PySem PySem.Spec PyProof.Rows L2
open DL
theorem outT_no (q : Int × Int × Int × Int) (T : List Nat) : outT q T ≠ .out := by
  unfold outT
  cases cutC 10 T with
  | nil => simp
  | cons l r =>
    simp only []
    split
    · cases goO q r 1 [] 0 <;> simp
    · simp
theorem text_ok (T : List Nat) (m : Mem) : callS F_check_text [.str T] m = .ok .non m := callS_pure rfl rfl rfl
theorem flat_ok (x y : Int) (m : Mem) : callS F_check_flat [mat x y] m = .ok .non m := callS_pure rfl rfl rfl
theorem read_picture {x y : Int} (h : (x, y) ∈ ms) {T : List Nat} (ok : TOk T) (m : Mem) : callS F_read_picture [mat x y, .str T] m = match outT (ax (x, y)) T with
    | .tab G => .ok (.tup (G.map pr)) m
    | .bad k => .exc 0 (.int (k : Nat)) m
    | .out => .bad := by
  have tr := table_read h ok []
  cases ho : outT (ax (x, y)) T with
  | out => exact absurd ho (outT_no _ _)
  | tab G =>
    rw [ho] at tr
    refine callS_pure (m1 := []) rfl ?_ (pures_map fun t _ => rfl)
    show retF (b_read_picture [some (mat x y), some (.str T)] []) = _
    simp [b_read_picture, small_ok h, text_ok, flat_ok, tr]
  | bad k =>
    rw [ho] at tr
    refine callS_exc (m1 := []) rfl ?_ rfl
    show retF (b_read_picture [some (mat x y), some (.str T)] []) = _
    simp [b_read_picture, small_ok h, text_ok, flat_ok, tr]
theorem heard {x y : Int} (h : (x, y) ∈ ms) {T : List Nat} (ok : TOk T) (m : Mem) : callS F__law_heard [mat x y, .str T] m = .ok (outD (outT (ax (x, y)) T)) m := by
  have po : ∀ o, D.pure (outD o) = true := fun o => by
    cases o with
    | tab G => exact pures_map fun t _ => rfl
    | bad k => rfl
    | out => rfl
  refine callS_pure (m1 := []) rfl ?_ (po _)
  show retF (b__law_heard [some (mat x y), some (.str T), none, none] []) = _
  have rp := read_picture h ok []
  have pm : permD [0, 1] ([] ++ [mat x y, D.str T]) = [mat x y, .str T] := rfl
  unfold b__law_heard
  cases ho : outT (ax (x, y)) T with
  | out => exact absurd ho (outT_no _ _)
  | tab G =>
    rw [ho] at rp
    have e : sSet 2 (eFnK F_read_picture 2 [0, 1] aNil (aCons (eVar 0) (aCons (eVar 1) aNil))) [some (mat x y), some (.str T), none, none] [] = some (.nx [some (mat x y), some (.str T), some (.tup (G.map pr)), none], []) := by
      have : eFnK F_read_picture 2 [0, 1] aNil (aCons (eVar 0) (aCons (eVar 1) aNil)) [some (mat x y), some (.str T), none, none] [] = callS F_read_picture [mat x y, .str T] [] := rfl
      rw [sSet_ap, this, rp]; rfl
    rw [sSeq_ap]
    unfold sTryAs
    rw [e]
    rfl
  | bad k =>
    rw [ho] at rp
    have e : sSet 2 (eFnK F_read_picture 2 [0, 1] aNil (aCons (eVar 0) (aCons (eVar 1) aNil))) [some (mat x y), some (.str T), none, none] [] = some (.ex 0 (.int (k : Nat)) [some (mat x y), some (.str T), none, none], []) := by
      have : eFnK F_read_picture 2 [0, 1] aNil (aCons (eVar 0) (aCons (eVar 1) aNil)) [some (mat x y), some (.str T), none, none] [] = callS F_read_picture [mat x y, .str T] [] := rfl
      rw [sSet_ap, this, rp]; rfl
    rw [sSeq_ap]
    unfold sTryAs
    rw [e]
    rfl
/-! pictures -/
structure PTab (P : List T3) : Prop where
  ok : POk P
  n : P.length ≤ 7
  a : ∀ t ∈ P, t.1.natAbs ≤ 10 ^ 101
  b : ∀ t ∈ P, t.2.1.natAbs ≤ 10 ^ 101
theorem PTab.c {P : List T3} (h : PTab P) : ∀ t ∈ P, t.2.2.natAbs ≤ 1000 := fun t ht => by
  have := sumA_mem P t ht
  have := h.ok.sum
  omega
def lineP (q : Int × Int × Int × Int) (t : T3) : List Nat := lineL (spX q t.1 t.2.1) (-spY q t.1 t.2.1) t.2.2
def lns (q : Int × Int × Int × Int) (P : List T3) : List (List Nat) := headS :: (P.map (lineP q) ++ [endS])
def textL (q : Int × Int × Int × Int) (P : List T3) : List Nat := joinN [10] (lns q P)
theorem c_lt {n : Nat} (h : n ≤ 1000) : n < 10 ^ 570 := Nat.lt_of_le_of_lt h (by decide +kernel)
theorem lineP_len {q : Int × Int × Int × Int} (hq : AxOk q) {P : List T3} (h : PTab P) {t : T3} (ht : t ∈ P) : (lineP q t).length ≤ 250 := by
  obtain ⟨sx, sy⟩ := sp_abs hq (h.a t ht) (h.b t ht)
  have l1 := strI_len (k := 104) (by decide) sx
  have l2 := strI_len (i := -spY q t.1 t.2.1) (k := 104) (by decide) (by rw [Int.natAbs_neg]; exact sy)
  have l3 := strI_len (i := t.2.2) (k := 4) (by decide) (Nat.lt_of_le_of_lt (h.c t ht) (by decide))
  simp [lineP, lineL, M0, M1, M2, M3]
  omega
theorem sumL_le (n : Nat) : ∀ L : List (List Nat), (∀ l ∈ L, l.length ≤ n) → sumL L ≤ L.length * n
  | [], _ => by simp [sumL]
  | l :: r, h => by
    have := sumL_le n r fun z hz => h z (by simp [hz])
    have := h l (by simp)
    simp only [sumL, List.length_cons, Nat.add_mul]; omega
theorem lns_len {q : Int × Int × Int × Int} (hq : AxOk q) {P : List T3} (h : PTab P) : ∀ l ∈ lns q P, l.length ≤ 250 := fun l hl => by
  unfold lns at hl
  rcases List.mem_cons.mp hl with rfl | hl
  · decide
  · rcases List.mem_append.mp hl with hl | hl
    · obtain ⟨t, ht, rfl⟩ := List.mem_map.mp hl
      exact lineP_len hq h ht
    · simp at hl; subst hl; decide
theorem strs_map (L : List (List Nat)) : strsD (L.map .str) = some L := by
  induction L with
  | nil => rfl
  | cons l r ih => simp only [List.map_cons, strsD, ih]; rfl
theorem join_ok {S : List Nat} {L : List (List Nat)} {n : Nat} (h : ∀ l ∈ L, l.length ≤ n) (hs : L.length * n + L.length * S.length ≤ 16777216) (m : Mem) : qJoin S (L.map .str) m = some (.str (joinN S L), m) := by
  have := sumL_le n L h
  have f : fits (sumL L + L.length * S.length) = true := by rw [fits_le]; simp; omega
  simp only [qJoin, strs_map, f]
theorem picture_by {x y : Int} (h : (x, y) ∈ ms) {P : List T3} (hP : PTab P) (m : Mem) : callS F_picture_by [mat x y, .tup (P.map pr)] m = .ok (.str (textL (ax (x, y)) P)) m := by
  refine callS_pure (m1 := [.lst ((P.map (lineP (ax (x, y)))).map .str)]) (by simp [pure_mat, pure_pr]) ?_ rfl
  show retF (b_picture_by [some (mat x y), some (.tup (P.map pr)), none, none] []) = _
  have hl : P.length ≤ 16777216 := by have := hP.n; omega
  have lc : lcV (eVar 1) (pTup [(pName 2), (pName 3)]) [2, 3] bYes (eFn F_pair_line (aCons (eVar 0) (aCons (eVar 2) (aCons (eVar 3) aNil)))) [some (mat x y), some (.tup (P.map pr)), none, none] [] = .ok ((P.map (lineP (ax (x, y)))).map .str) [] := by
    rw [lcV_seq (d := .tup (P.map pr)) (by simp) rfl rfl, lcGo_map (L := P) (enc := pr) (g := fun t => .str (lineP (ax (x, y)) t)) (fun i _ => rfl) (by simp) hl (fun t ht => ⟨[(2, .tup [.int t.1, .int t.2.1]), (3, .int t.2.2)], rfl, rfl, by
      have := pair_line h (k := 101) (by omega) (hP.a t ht) (hP.b t ht) (c := t.2.2) (c_lt (hP.c t ht)) []
      simp [this, lineP]⟩)]
    rw [List.map_map]; rfl
  have jn := join_ok (S := [10]) (L := lns (ax (x, y)) P) (n := 250) (lns_len (ax_ok h) hP) (by have := hP.n; simp [lns]; omega) [.lst ((P.map (lineP (ax (x, y)))).map .str)]
  have mp : (lns (ax (x, y)) P).map D.str = .str headS :: ((P.map (lineP (ax (x, y)))).map .str ++ [.str endS]) := by simp [lns]
  rw [mp] at jn
  unfold b_picture_by
  have al : aStar (eNew (lcV (eVar 1) (pTup [(pName 2), (pName 3)]) [2, 3] bYes (eFn F_pair_line (aCons (eVar 0) (aCons (eVar 2) (aCons (eVar 3) aNil)))))) (aCons (eC (.str endS)) aNil) [some (mat x y), some (.tup (P.map pr)), none, none] [] = .ok ((P.map (lineP (ax (x, y)))).map .str ++ [.str endS]) [.lst ((P.map (lineP (ax (x, y)))).map .str)] := by
    unfold aStar
    rw [eNew_ap, lc]
    simp [itemsS]
  unfold endS at al
  rw [sRet_ap, eJoin_ap]
  simp only [eC_ap, Res.bind_ok, strD_str]
  unfold qLst
  rw [aCons_ap]
  simp only [eC_ap, Res.bind_ok, al]
  have f : fits (D.str headS :: ((P.map (lineP (ax (x, y)))).map D.str ++ [D.str endS])).length = true := by
    have := hP.n
    simp; omega
  unfold headS endS at f
  simp only [f]
  unfold headS endS at jn
  simp only [jn, Res.bind_ok, liftO_some, Res.toS_ok, retF_rt]
  rfl
theorem picture {x y : Int} (h : (x, y) ∈ ms) {P : List T3} (hP : PTab P) (m : Mem) : callS F_picture [mat x y, .tup (P.map pr)] m = .ok (.str (textL (ax (x, y)) P)) m := by
  refine callS_pure (m1 := []) (by simp [pure_mat, pure_pr]) ?_ rfl
  show retF (b_picture [some (mat x y), some (.tup (P.map pr))] []) = _
  simp [b_picture, small_ok h, table_ok hP.ok, flat_ok, picture_by h hP]
theorem law_text {x y : Int} (h : (x, y) ∈ ms) {P : List T3} (hP : PTab P) (m : Mem) : callS F__law_text [mat x y, .tup (P.map pr)] m = .ok (.str (textL (ax (x, y)) P)) m := by
  refine callS_pure (m1 := [.lst [.str headS], .lst ((P.map (lineP (ax (x, y)))).map .str), .lst (.str headS :: (P.map (lineP (ax (x, y)))).map .str), .lst [.str endS], .lst ((lns (ax (x, y)) P).map .str)]) (by simp [pure_mat, pure_pr]) ?_ rfl
  show retF (b__law_text [some (mat x y), some (.tup (P.map pr)), none, none] []) = _
  have hl : P.length ≤ 16777216 := by have := hP.n; omega
  have lc : ∀ m, lcV (eVar 1) (pTup [(pName 2), (pName 3)]) [2, 3] bYes (eFn F__law_line (aCons (eVar 0) (aCons (eVar 2) (aCons (eVar 3) aNil)))) [some (mat x y), some (.tup (P.map pr)), none, none] m = .ok ((P.map (lineP (ax (x, y)))).map .str) m := fun m => by
    rw [lcV_seq (d := .tup (P.map pr)) (by simp) rfl rfl, lcGo_map (L := P) (enc := pr) (g := fun t => .str (lineP (ax (x, y)) t)) (fun i _ => rfl) (by simp) hl (fun t ht => ⟨[(2, .tup [.int t.1, .int t.2.1]), (3, .int t.2.2)], rfl, rfl, by
      have := law_line h (k := 101) (by omega) (hP.a t ht) (hP.b t ht) (c := t.2.2) (c_lt (hP.c t ht)) m
      simp [this, lineP]⟩)]
    rw [List.map_map]; rfl
  have jn := fun m => join_ok (S := [10]) (L := lns (ax (x, y)) P) (n := 250) (lns_len (ax_ok h) hP) (by have := hP.n; simp [lns]; omega) m
  have h7 := hP.n
  have d1 : decide (P.length ≤ 16777215) = true := by simp; omega
  have d2 : decide (P.length + 1 ≤ 16777215) = true := by simp; omega
  have d3 : decide (P.length ≤ 16777214) = true := by simp; omega
  have d4 : decide (1 + P.length ≤ 16777216) = true := by simp; omega
  have d5 : decide (1 + P.length + 1 ≤ 16777216) = true := by simp; omega
  have d6 : decide (1 + P.length ≤ 16777215) = true := by simp; omega
  unfold b__law_text
  rw [sRet_ap, eJoin_ap]
  simp only [eC_ap, Res.bind_ok, strD_str, qVal_ap, eOp_ap, eLst_ap, aCons_ap, eFn_ap, aNil_ap, law_head, eNew_ap, lc]
  simp [oAdd, mlst_ref, d1, d2, d3, d4, d5, d6]
  have j := jn
  simp [lns, endS] at j
  simp [j, textL, lns, endS]
end K57

set_option Elab.async false
set_option linter.all false
set_option maxRecDepth 100000
set_option maxHeartbeats 4000000
namespace K57
open PySem PySem.Spec PyProof.Rows L2
open DL
def okC (l : List Nat) : Bool := l.all fun c => decide (c < 128) && !decide (c = 10)
theorem okC_app (a b : List Nat) : okC (a ++ b) = (okC a && okC b) := List.all_append
theorem okC_cons (a : Nat) (b : List Nat) : okC (a :: b) = ((decide (a < 128) && !decide (a = 10)) && okC b) := rfl
theorem okC_sub {a b : List Nat} (h : a.Sublist b) (hb : okC b = true) : okC a = true := List.all_eq_true.mpr fun c hc => List.all_eq_true.mp hb c (h.subset hc)
structure J (b n : Nat) (l : List Nat) : Prop where
  q : 6 ≤ l.countP (· == 34) ∨ dg l ≤ b
  d : dg l ≤ 2 * b
  n : l.length ≤ n
  c : okC l = true
theorem J.lok {b n : Nat} {l : List Nat} (h : J b n l) (hb : b ≤ 240) (hn : n ≤ 100000) : LOk l :=
  ⟨Nat.le_trans h.n hn, by have := h.d; omega, fun e => by rcases h.q with q | q <;> omega⟩
theorem J.mono {b b' n n' : Nat} {l : List Nat} (h : J b n l) (hb : b ≤ b') (hn : n ≤ n') : J b' n' l :=
  ⟨h.q.imp id fun q => Nat.le_trans q hb, by have := h.d; omega, Nat.le_trans h.n hn, h.c⟩
theorem J.mk1 {b n : Nat} {l : List Nat} (h : dg l ≤ b + 4) (hn : l.length ≤ n) (hc : okC l = true) : J (b + 4) n l := ⟨.inr h, by omega, hn, hc⟩
theorem dg_app (a b : List Nat) : dg (a ++ b) = dg a + dg b := List.countP_append
theorem dg_cons (a : Nat) (b : List Nat) : dg (a :: b) = dg b + (if isDg a = true then 1 else 0) := List.countP_cons
theorem dg_le (l : List Nat) : dg l ≤ l.length := List.countP_le_length
theorem dg_td (l : List Nat) (k : Nat) : dg (l.take k) + dg (l.drop k) = dg l := by rw [← dg_app, List.take_append_drop]
def sOk (s : List Nat) : Bool := decide (s.length ≤ 5) && (decide (dg s ≤ 4) && okC s)
theorem sOk_iff {s : List Nat} (h : sOk s = true) : s.length ≤ 5 ∧ dg s ≤ 4 ∧ okC s = true := by
  simpa [sOk] using h
theorem j5 (a b c d e : List Nat) : joinN [34] [a, b, c, d, e] = a ++ 34 :: (b ++ 34 :: (c ++ 34 :: (d ++ 34 :: e))) := by simp [joinN]
theorem dg5 (a b c d e : List Nat) : dg (joinN [34] [a, b, c, d, e]) = dg a + dg b + dg c + dg d + dg e := by
  rw [j5]
  have : isDg 34 = false := rfl
  simp only [dg_app, dg_cons, this]
  simp; omega
theorem len5 (a b c d e : List Nat) : (joinN [34] [a, b, c, d, e]).length = a.length + b.length + c.length + d.length + e.length + 4 := by
  rw [j5]; simp; omega
theorem ok5 (a b c d e : List Nat) : okC (joinN [34] [a, b, c, d, e]) = (okC a && (okC b && (okC c && (okC d && okC e)))) := by
  rw [j5]
  simp only [okC_app, okC_cons]
  rfl
theorem Well.setS {m : Mem} {w N n : Nat} {o : MO} {s : List Nat} {r : List D} (h : Well m w N) (e : m[n]? = some (.lst (.str s :: r))) : Well (m.set n o) w N := by
  refine h.other (fun z => ?_) fun a b c g e1 z => ?_
  · subst z; obtain ⟨_, _, _, _, _, e1, _⟩ := h.ex
    rw [e1] at e; cases e
  · subst z; obtain ⟨_, _, _, _, gs, e2, e3, _⟩ := h.ex
    rw [e1] at e2; cases e2
    rw [e3] at e
    cases gs <;> cases e
theorem join5 {m : Mem} {a b c d e : List Nat} {wd : Nat} {n : Nat} (hm : m[wd]? = some (.lst [.str a, .str b, .str c, .str d, .str e])) (hn : (joinN [34] [a, b, c, d, e]).length ≤ n) (h : n ≤ 100000) (ρ0 ρ1 ρ2 ρ3 : Option D) (ρ : DL.Env) :
    eJoin (eC (.str [34])) (qVal (eVar 4)) (ρ0 :: ρ1 :: ρ2 :: ρ3 :: some (.ref wd) :: ρ) m = .ok (.str (joinN [34] [a, b, c, d, e])) m := by
  rw [len5] at hn
  have := join_ok (S := [34]) (L := [a, b, c, d, e]) (n := n) (fun l hl => by
    simp at hl; rcases hl with rfl | rfl | rfl | rfl | rfl <;> omega) (by simp; omega) m
  simp only [List.map_cons, List.map_nil] at this
  simp [hm, this]
theorem up_ok (l : List Nat) (h : okC l = true) : dg (l.map PyProof.Rows.up1) = dg l ∧ okC (l.map PyProof.Rows.up1) = true := by
  have p : ∀ c, c < 128 → c ≠ 10 → isDg (PyProof.Rows.up1 c) = isDg c ∧ (PyProof.Rows.up1 c < 128 ∧ PyProof.Rows.up1 c ≠ 10) := by
    have : ∀ c : Fin 128, c.val ≠ 10 → isDg (PyProof.Rows.up1 c.val) = isDg c.val ∧ (PyProof.Rows.up1 c.val < 128 ∧ PyProof.Rows.up1 c.val ≠ 10) := by decide
    intro c h1 h2
    exact this ⟨c, h1⟩ h2
  induction l with
  | nil => exact ⟨rfl, rfl⟩
  | cons c r ih =>
    rw [okC_cons] at h
    simp only [Bool.and_eq_true, decide_eq_true_eq, Bool.not_eq_true', decide_eq_false_iff_not] at h
    obtain ⟨i1, i2⟩ := ih h.2
    obtain ⟨p1, p2, p3⟩ := p c h.1.1 h.1.2
    refine ⟨?_, ?_⟩
    · rw [List.map_cons, dg_cons, dg_cons, p1, i1]
    · rw [List.map_cons, okC_cons, i2]; simp [p2, p3]
end K57

set_option Elab.async false
set_option linter.all false
set_option maxRecDepth 100000
set_option maxHeartbeats 4000000
namespace K57
open PySem PySem.Spec PyProof.Rows L2
open DL
theorem Ret_if {t : FB} {X g rest : FS} {ρ : DL.Env} {m m' : Mem} {d : D} {Q : D → Mem → Prop} (ht : t ρ m = .ok true m) (hX : X ρ m = some (.rt d, m')) (k : Q d m') : Ret (sSeq (sIf t X g) rest ρ m) Q := by
  rw [sSeq_ap, sIf_ap, ht]
  simp only [Res.toS_ok]
  rw [hX]
  exact ⟨d, m', rfl, k⟩
theorem skip_if {t : FB} {X : FS} {ρ : DL.Env} {m : Mem} (ht : t ρ m = .ok false m) : sIf t X sNop ρ m = some (.nx ρ, m) := by
  rw [sIf_ap, ht]; rfl
theorem str_small : ([0, 1, 26, 40, 15, 30, -20, 7] : List Int).all (fun z => sOk (strI z) && decide (z.natAbs ≤ 1000)) = true := by decide +kernel
/-- a result of a call on the well -/
def BL (b n N w : Nat) (m : Mem) (d : D) (m' : Mem) : Prop := ∃ l', d = .str l' ∧ J b n l' ∧ Well m' w N ∧ DL.Fr w m m'
theorem pick_str {m : Mem} {w N : Nat} {xs : List (List Nat)} (h : Well m w N) (h1 : 0 < xs.length) (h2 : xs.length < 1073741824) (hN : N < 2 ^ 64) (ok : xs.all sOk = true) :
    ∃ s m', sOk s = true ∧ callS F__law_pick [.ref w, .tup (xs.map .str)] m = .ok (.str s) m' ∧ Well m' w (N + 1) ∧ DL.Fr w m m' := by
  obtain ⟨x, m', hx, e, w', f'⟩ := pick_spec (xs := xs.map .str) h (by simpa using h1) (by simpa using h2) hN
  obtain ⟨s, hs, rfl⟩ := List.mem_map.mp hx
  exact ⟨s, m', List.all_eq_true.mp ok s hs, e, w', f'⟩
theorem bent_line {m : Mem} {w N b n : Nat} {x y : Int} {l : List Nat} (hw : Well m w N) (hl : J b n l) (hb : 20 ≤ b) (hn0 : 100 ≤ n) (hn : n ≤ 10000) (hN : N < 2 ^ 60) :
    Givs F__law_bent_line [.ref w, mat x y, .str l] m (BL (b + 4) (2 * n + 20) (N + 10) w m) := by
  unfold Givs
  rw [callS_mem rfl]
  show Ret (b__law_bent_line [some (.ref w), some (mat x y), some (.str l), none, none, none, none] m) _
  have lw : l.length ≤ n := hl.n
  have lf : l.length ≤ 16777216 := by omega
  have sl : ∀ lo hi m, oSl (.str l) lo hi m = some (.str (cutD l lo hi), m) := fun lo hi m => oSl_str lf
  have vl : ∀ m, vLen (.str l) m = some (.int (l.length : Nat), m) := fun m => vLen_str lf
  have hd := hl.d
  have hc := hl.c
  obtain ⟨way, m1, e1, y0, y1, w1, f1⟩ := draw_spec (most := 12) hw (by omega) (by omega) (by omega)
  unfold b__law_bent_line
  have sp := mSplit_str (m := m1) (s := l) (c := 34) (by decide) (by omega)
  refine Ret.seq1 (ρ1 := [some (.ref w), some (mat x y), some (.str l), some (.int way), some (.ref m1.length), none, none]) (m1 := m1 ++ [.lst ((cutC 34 l).map .str)]) ?_ ?_
  · simp [e1, sp]
  have ew := mem_new (m := m1) (o := .lst ((cutC 34 l).map .str))
  have w2 : Well (m1 ++ [.lst ((cutC 34 l).map .str)]) w (N + 1) := w1.app
  have f2 : DL.Fr w m (m1 ++ [.lst ((cutC 34 l).map .str)]) := f1.trans Fr.app
  have vw := vLen_lst ew
  rw [List.length_map] at vw
  have hwd : m.length ≤ m1.length := f1.len
  have nw : m1.length ≠ w := by have := w1.lt; omega
  generalize hwdd : m1.length = wd at *
  generalize hmm : m1 ++ [MO.lst ((cutC 34 l).map .str)] = m2 at *
  by_cases hA : ¬ (cutC 34 l).length = 5 ∨ way = 0
  · -- a sign put in
    obtain ⟨at_, m3, e3, a0, a1, w3, f3⟩ := draw_spec (most := (l.length : Int) + 1) w2 (by omega) (by omega) (by omega)
    obtain ⟨k, rfl⟩ := Int.eq_ofNat_of_zero_le a0
    obtain ⟨s, m4, hs, e4, w4, f4⟩ := pick_str (xs := [[32], [48], [45], [47], [60], [34], [49]]) w3 (by simp) (by simp) (by omega) (by decide)
    obtain ⟨s1, s2, s3⟩ := sOk_iff hs
    have tl := (List.take_sublist k l).length_le
    have dl := (List.drop_sublist k l).length_le
    have td := List.take_append_drop k l
    refine Ret.mk (d := .str (l.take k ++ s ++ l.drop k)) (m1 := m4) ?_ ⟨_, rfl, ?_, w4.mono (by omega), (f2.trans f3).trans f4⟩
    · simp only [List.map_cons, List.map_nil] at e4
      rcases hA with h5 | h0
      · have n5 : (((cutC 34 l).length : Int) == 5) = false := by
          have : ¬ ((cutC 34 l).length : Int) = 5 := by omega
          simpa using this
        have ge : decide (k ≤ l.length) = true := by simp; omega
        rw [sSeq_ap, sIf_ap]
        simp only [bOr_ap, bOf_ap, eOp_ap, eCall_ap, aCons_ap, eVar_s, eVar_z, Res.bind_ok, aNil_ap, one_ap, vw, liftO_some, eC_ap, oNe_int, n5, Bool.not_false, Res.toS_ok]
        simp [vl, e3, sl, cut_to, cut_from, e4, oAdd]
        rw [decide_eq_true (by omega)]
        simp
        rw [decide_eq_true (by omega)]
        simp
      · subst h0
        rw [sSeq_ap, sIf_ap]
        have hi : (bOr (bOf (eOp oNe (eCall (one vLen) (aCons (eVar 4) aNil)) (eC (.int 5)))) (bOf (eOp oEq (eVar 3) (eC (.int 0))))) [some (.ref w), some (mat x y), some (.str l), some (.int 0), some (.ref wd), none, none] m2 = .ok true m2 := by
          simp only [bOr_ap, bOf_ap, eOp_ap, eCall_ap, aCons_ap, eVar_s, eVar_z, Res.bind_ok, aNil_ap, one_ap, vw, liftO_some, eC_ap, oNe_int]
          cases (((cutC 34 l).length : Int) == 5) <;> rfl
        rw [hi]
        simp only [Res.toS_ok]
        simp [vl, e3, sl, cut_to, cut_from, e4, oAdd]
        rw [decide_eq_true (by omega)]
        simp
        rw [decide_eq_true (by omega)]
        simp
    · have dt := dg_td l k
      have ls : (l.take k ++ s ++ l.drop k).length ≤ l.length + 5 := by simp; omega
      have ds : dg (l.take k ++ s ++ l.drop k) = dg l + dg s := by rw [dg_app, dg_app]; omega
      have cs : okC (l.take k ++ s ++ l.drop k) = true := by
        rw [okC_app, okC_app, okC_sub (List.take_sublist k l) hc, okC_sub (List.drop_sublist k l) hc, s3]; rfl
      refine ⟨?_, by omega, by omega, cs⟩
      rcases hl.q with q | q
      · left
        have : l.countP (· == 34) ≤ (l.take k ++ s ++ l.drop k).countP (· == 34) := by
          have : l.countP (· == 34) = (l.take k).countP (· == 34) + (l.drop k).countP (· == 34) := by rw [← List.countP_append, td]
          rw [this, List.countP_append, List.countP_append]; omega
        omega
      · right; omega
  -- the line has five words
  have h5 : (cutC 34 l).length = 5 := by
    by_cases h : (cutC 34 l).length = 5
    · exact h
    · exact absurd (.inl h) hA
  have h0 : way ≠ 0 := fun z => hA (.inr z)
  have q4 : l.countP (· == 34) = 4 := by have := cutC_len 34 l; omega
  have db : dg l ≤ b := by rcases hl.q with q | q <;> omega
  obtain ⟨a, b', c, d, e, hcut⟩ : ∃ a b c d e, cutC 34 l = [a, b, c, d, e] := by
    match q : cutC 34 l, h5 with
    | [a, b, c, d, e], _ => exact ⟨a, b, c, d, e, rfl⟩
  have hj := cutC_join 34 l
  rw [hcut] at hj ew vw
  simp only [List.map_cons, List.map_nil] at ew
  have d5 := dg5 a b' c d e
  have l5 := len5 a b' c d e
  have o5 := ok5 a b' c d e
  rw [hj] at d5 l5 o5
  rw [hc] at o5
  have o5 := o5.symm
  simp only [Bool.and_eq_true] at o5
  obtain ⟨oa, ob, oc, od, oe⟩ := o5
  refine Ret.seq1 (ρ1 := [some (.ref w), some (mat x y), some (.str l), some (.int way), some (.ref wd), none, none]) (m1 := m2) ?_ ?_
  · have n0 : (way == 0) = false := by simpa using h0
    simp only [sIf_ap, bOr_ap, bOf_ap, eOp_ap, eCall_ap, aCons_ap, eVar_s, eVar_z, Res.bind_ok, aNil_ap, one_ap, vw, liftO_some, eC_ap, oNe_int, oEq_int, n0]
    rfl
  by_cases hB : way = 1
  · subst hB
    obtain ⟨at_, m3, e3, a0, a1, w3, f3⟩ := draw_spec (most := (l.length : Int)) w2 (by omega) (by omega) (by omega)
    obtain ⟨k, rfl⟩ := Int.eq_ofNat_of_zero_le a0
    have ek : (k : Int) + 1 = ((k + 1 : Nat) : Int) := by omega
    have sub1 := List.take_sublist k l
    have sub2 := List.drop_sublist (k + 1) l
    have dk := dg_td l k
    have dk1 : dg (l.drop (k + 1)) ≤ dg (l.drop k) := by
      have : (l.drop (k + 1)).Sublist (l.drop k) := by rw [← List.drop_drop]; exact List.drop_sublist _ _
      exact this.countP_le
    have s1 := sub1.length_le
    have s2 := sub2.length_le
    refine Ret_if (d := .str (l.take k ++ l.drop (k + 1))) (m' := m3) (by simp) ?_ ⟨_, rfl, J.mk1 ?_ ?_ ?_, w3.mono (by omega), f2.trans f3⟩
    · have sl1 : ∀ m, oSl (.str l) none (some (k : Int)) m = some (.str (l.take k), m) := fun m => by rw [sl, cut_to]
      have sl2 : ∀ m, oSl (.str l) (some ((k : Int) + 1)) none m = some (.str (l.drop (k + 1)), m) := fun m => by rw [ek, sl, cut_from]
      have ad := oAdd_str (s := l.take k) (t := l.drop (k + 1)) (m := m3) (by omega)
      simp [vl, e3, sl1, sl2, ad]
    · rw [dg_app]; omega
    · simp at s1 s2 ⊢; omega
    · rw [okC_app, okC_sub sub1 hc, okC_sub sub2 hc]; rfl
  have nB : (way == 1) = false := by simpa using hB
  refine Ret.seq1 (ρ1 := [some (.ref w), some (mat x y), some (.str l), some (.int way), some (.ref wd), none, none]) (m1 := m2) (by simp [nB]) ?_
  by_cases hC : way < 4
  · have hlt : (bOf (eOp oLt (eVar 3) (eC (.int 4)))) [some (.ref w), some (mat x y), some (.str l), some (.int way), some (.ref wd), none, none] m2 = .ok true m2 := by simp [hC]
    obtain ⟨p, m3, hp, e3, w3, f3⟩ := pick_spec (xs := [.int 1, .int 3]) w2 (by simp) (by simp) (by omega)
    obtain ⟨s, m4, hs, e4, w4, f4⟩ := pick_str (xs := [[43], [48], [45], [32], [49], [45, 45]]) w3 (by simp) (by simp) (by omega) (by decide)
    simp only [List.map_cons, List.map_nil] at e4
    obtain ⟨s1, s2, s3⟩ := sOk_iff hs
    have ew4 := f4.get (f3.get ew nw) nw
    simp at hp
    rcases hp with rfl | rfl
    · have j := join5 (m := m4.set wd (.lst [.str a, .str (s ++ b'), .str c, .str d, .str e])) (wd := wd) (n := 2 * n + 20) (mem_set ew4) (by rw [len5]; simp; omega) (by omega) (some (.ref w)) (some (mat x y)) (some (.str l)) (some (.int way)) [some (.int 1), none]
      have ds : decide (s.length + b'.length ≤ 16777216) = true := by simp; omega
      refine Ret_if (d := .str (joinN [34] [a, s ++ b', c, d, e])) (m' := m4.set wd (.lst [.str a, .str (s ++ b'), .str c, .str d, .str e])) hlt ?_ ⟨_, rfl, J.mk1 ?_ ?_ ?_, (w4.setS ew4).mono (by omega), Fr.setNew ((f2.trans f3).trans f4) hwd⟩
      · have st : sAsg (eOp oAdd (eFn F__law_pick (aCons (eVar 0) (aCons (eTup (aCons (eC (.str [43])) (aCons (eC (.str [48])) (aCons (eC (.str [45])) (aCons (eC (.str [32])) (aCons (eC (.str [49])) (aCons (eC (.str [45, 45])) aNil))))))) aNil))) (eOp oIx (eVar 4) (eVar 5))) (gIx (eVar 4) (eVar 5)) [some (.ref w), some (mat x y), some (.str l), some (.int way), some (.ref wd), some (.int 1), none] m3 = some (.nx [some (.ref w), some (mat x y), some (.str l), some (.int way), some (.ref wd), some (.int 1), none], m4.set wd (.lst [.str a, .str (s ++ b'), .str c, .str d, .str e])) := by
          simp [e4, ew4, oAdd, ds]
        have s5 : sSet 5 (eFn F__law_pick (aCons (eVar 0) (aCons (eTup (aCons (eC (.int 1)) (aCons (eC (.int 3)) aNil))) aNil))) [some (.ref w), some (mat x y), some (.str l), some (.int way), some (.ref wd), none, none] m2 = some (.nx [some (.ref w), some (mat x y), some (.str l), some (.int way), some (.ref wd), some (.int 1), none], m3) := by
          simp [e3]
        rw [sSeq_ap, s5]
        simp only [seqK_nx]
        rw [sSeq_ap, st]
        simp only [seqK_nx]
        rw [sRet_ap, j]; rfl
      · rw [dg5, dg_app]; omega
      · rw [len5]; simp; omega
      · rw [ok5, okC_app, oa, s3, ob, oc, od, oe]; rfl
    · have j := join5 (m := m4.set wd (.lst [.str a, .str b', .str c, .str (s ++ d), .str e])) (wd := wd) (n := 2 * n + 20) (mem_set ew4) (by rw [len5]; simp; omega) (by omega) (some (.ref w)) (some (mat x y)) (some (.str l)) (some (.int way)) [some (.int 3), none]
      have ds : decide (s.length + d.length ≤ 16777216) = true := by simp; omega
      refine Ret_if (d := .str (joinN [34] [a, b', c, s ++ d, e])) (m' := m4.set wd (.lst [.str a, .str b', .str c, .str (s ++ d), .str e])) hlt ?_ ⟨_, rfl, J.mk1 ?_ ?_ ?_, (w4.setS ew4).mono (by omega), Fr.setNew ((f2.trans f3).trans f4) hwd⟩
      · have st : sAsg (eOp oAdd (eFn F__law_pick (aCons (eVar 0) (aCons (eTup (aCons (eC (.str [43])) (aCons (eC (.str [48])) (aCons (eC (.str [45])) (aCons (eC (.str [32])) (aCons (eC (.str [49])) (aCons (eC (.str [45, 45])) aNil))))))) aNil))) (eOp oIx (eVar 4) (eVar 5))) (gIx (eVar 4) (eVar 5)) [some (.ref w), some (mat x y), some (.str l), some (.int way), some (.ref wd), some (.int 3), none] m3 = some (.nx [some (.ref w), some (mat x y), some (.str l), some (.int way), some (.ref wd), some (.int 3), none], m4.set wd (.lst [.str a, .str b', .str c, .str (s ++ d), .str e])) := by
          simp [e4, ew4, oAdd, ds]
        have s5 : sSet 5 (eFn F__law_pick (aCons (eVar 0) (aCons (eTup (aCons (eC (.int 1)) (aCons (eC (.int 3)) aNil))) aNil))) [some (.ref w), some (mat x y), some (.str l), some (.int way), some (.ref wd), none, none] m2 = some (.nx [some (.ref w), some (mat x y), some (.str l), some (.int way), some (.ref wd), some (.int 3), none], m3) := by
          simp [e3]
        rw [sSeq_ap, s5]
        simp only [seqK_nx]
        rw [sSeq_ap, st]
        simp only [seqK_nx]
        rw [sRet_ap, j]; rfl
      · rw [dg5, dg_app]; omega
      · rw [len5]; simp; omega
      · rw [ok5, okC_app, oa, s3, ob, oc, od, oe]; rfl
  refine Ret.seq1 (skip_if (by simp [hC])) ?_
  by_cases hD : way < 6
  · have hlt : (bOf (eOp oLt (eVar 3) (eC (.int 6)))) [some (.ref w), some (mat x y), some (.str l), some (.int way), some (.ref wd), none, none] m2 = .ok true m2 := by simp [hD]
    obtain ⟨p, m3, hp, e3, w3, f3⟩ := pick_spec (xs := [.int 1, .int 3]) w2 (by simp) (by simp) (by omega)
    obtain ⟨v, m4, hv, e4, w4, f4⟩ := pick_spec (xs := ([0, 1, 26, 40, 15, 30, -20, 7] : List Int).map .int) w3 (by simp) (by simp) (by omega)
    obtain ⟨z, hz, rfl⟩ := List.mem_map.mp hv
    have hz2 := List.all_eq_true.mp str_small z hz
    obtain ⟨hz3, hz4⟩ := Bool.and_eq_true_iff.mp hz2
    have hz4 := of_decide_eq_true hz4
    have vs := fun m => str_int (i := z) (m := m) (log_lt (c_lt hz4) (Nat.le_refl _))
    obtain ⟨s1, s2, s3⟩ := sOk_iff hz3
    generalize strI z = s at *
    simp only [List.map_cons, List.map_nil] at e4
    have ew4 := f4.get (f3.get ew nw) nw
    simp at hp
    rcases hp with rfl | rfl
    · have j := join5 (m := m4.set wd (.lst [.str a, .str s, .str c, .str d, .str e])) (wd := wd) (n := 2 * n + 20) (mem_set ew4) (by rw [len5]; omega) (by omega) (some (.ref w)) (some (mat x y)) (some (.str l)) (some (.int way)) [some (.int 1), none]
      refine Ret_if (d := .str (joinN [34] [a, s, c, d, e])) (m' := m4.set wd (.lst [.str a, .str s, .str c, .str d, .str e])) hlt ?_ ⟨_, rfl, J.mk1 ?_ ?_ ?_, (w4.setS ew4).mono (by omega), Fr.setNew ((f2.trans f3).trans f4) hwd⟩
      · have st : sAsg (eCall (one vStr) (aCons (eFn F__law_pick (aCons (eVar 0) (aCons (eTup (aCons (eC (.int 0)) (aCons (eC (.int 1)) (aCons (eC (.int 26)) (aCons (eC (.int 40)) (aCons (eC (.int 15)) (aCons (eC (.int 30)) (aCons (eUn oNeg (eC (.int 20))) (aCons (eC (.int 7)) aNil))))))))) aNil))) aNil)) (gIx (eVar 4) (eVar 5)) [some (.ref w), some (mat x y), some (.str l), some (.int way), some (.ref wd), some (.int 1), none] m3 = some (.nx [some (.ref w), some (mat x y), some (.str l), some (.int way), some (.ref wd), some (.int 1), none], m4.set wd (.lst [.str a, .str s, .str c, .str d, .str e])) := by
          simp [e4, ew4, vs]
        have s5 : sSet 5 (eFn F__law_pick (aCons (eVar 0) (aCons (eTup (aCons (eC (.int 1)) (aCons (eC (.int 3)) aNil))) aNil))) [some (.ref w), some (mat x y), some (.str l), some (.int way), some (.ref wd), none, none] m2 = some (.nx [some (.ref w), some (mat x y), some (.str l), some (.int way), some (.ref wd), some (.int 1), none], m3) := by
          simp [e3]
        rw [sSeq_ap, s5]
        simp only [seqK_nx]
        rw [sSeq_ap, st]
        simp only [seqK_nx]
        rw [sRet_ap, j]; rfl
      · rw [dg5]; omega
      · rw [len5]; omega
      · rw [ok5, oa, s3, oc, od, oe]; rfl
    · have j := join5 (m := m4.set wd (.lst [.str a, .str b', .str c, .str s, .str e])) (wd := wd) (n := 2 * n + 20) (mem_set ew4) (by rw [len5]; omega) (by omega) (some (.ref w)) (some (mat x y)) (some (.str l)) (some (.int way)) [some (.int 3), none]
      refine Ret_if (d := .str (joinN [34] [a, b', c, s, e])) (m' := m4.set wd (.lst [.str a, .str b', .str c, .str s, .str e])) hlt ?_ ⟨_, rfl, J.mk1 ?_ ?_ ?_, (w4.setS ew4).mono (by omega), Fr.setNew ((f2.trans f3).trans f4) hwd⟩
      · have st : sAsg (eCall (one vStr) (aCons (eFn F__law_pick (aCons (eVar 0) (aCons (eTup (aCons (eC (.int 0)) (aCons (eC (.int 1)) (aCons (eC (.int 26)) (aCons (eC (.int 40)) (aCons (eC (.int 15)) (aCons (eC (.int 30)) (aCons (eUn oNeg (eC (.int 20))) (aCons (eC (.int 7)) aNil))))))))) aNil))) aNil)) (gIx (eVar 4) (eVar 5)) [some (.ref w), some (mat x y), some (.str l), some (.int way), some (.ref wd), some (.int 3), none] m3 = some (.nx [some (.ref w), some (mat x y), some (.str l), some (.int way), some (.ref wd), some (.int 3), none], m4.set wd (.lst [.str a, .str b', .str c, .str s, .str e])) := by
          simp [e4, ew4, vs]
        have s5 : sSet 5 (eFn F__law_pick (aCons (eVar 0) (aCons (eTup (aCons (eC (.int 1)) (aCons (eC (.int 3)) aNil))) aNil))) [some (.ref w), some (mat x y), some (.str l), some (.int way), some (.ref wd), none, none] m2 = some (.nx [some (.ref w), some (mat x y), some (.str l), some (.int way), some (.ref wd), some (.int 3), none], m3) := by
          simp [e3]
        rw [sSeq_ap, s5]
        simp only [seqK_nx]
        rw [sSeq_ap, st]
        simp only [seqK_nx]
        rw [sRet_ap, j]; rfl
      · rw [dg5]; omega
      · rw [len5]; omega
      · rw [ok5, oa, s3, ob, oc, oe]; rfl
  refine Ret.seq1 (skip_if (by simp [hD])) ?_
  by_cases hE : way < 9
  · have hlt : (bOf (eOp oLt (eVar 3) (eC (.int 9)))) [some (.ref w), some (mat x y), some (.str l), some (.int way), some (.ref wd), none, none] m2 = .ok true m2 := by simp [hE]
    obtain ⟨s, m4, hs, e4, w4, f4⟩ := pick_str (xs := [[48], [45, 48], [49, 48, 48, 49], [48, 49], [43, 49], [], [49, 46], [45, 49], [50], [57, 57, 57], [49, 48, 48, 48], [45, 49, 48, 48, 48], [97]]) w2 (by simp) (by simp) (by omega) (by decide)
    simp only [List.map_cons, List.map_nil] at e4
    obtain ⟨s1, s2, s3⟩ := sOk_iff hs
    have ew4 := f4.get ew nw
    have j := join5 (m := m4.set wd (.lst [.str a, .str b', .str c, .str d, .str (62 :: (s ++ M3))])) (wd := wd) (n := 2 * n + 20) (mem_set ew4) (by rw [len5]; simp [M3]; omega) (by omega) (some (.ref w)) (some (mat x y)) (some (.str l)) (some (.int way)) [none, some (.str s)]
    refine Ret_if (d := .str (joinN [34] [a, b', c, d, 62 :: (s ++ M3)])) (m' := m4.set wd (.lst [.str a, .str b', .str c, .str d, .str (62 :: (s ++ M3))])) hlt ?_ ⟨_, rfl, J.mk1 ?_ ?_ ?_, (w4.setS ew4).mono (by omega), Fr.setNew (f2.trans f4) hwd⟩
    · have st : sAsg (eOp oAdd (eOp oAdd (eC (.str [62])) (eVar 6)) (eC (.str [60, 47, 116, 101, 120, 116, 62]))) (gIx (eVar 4) (eC (.int 4))) [some (.ref w), some (mat x y), some (.str l), some (.int way), some (.ref wd), none, some (.str s)] m4 = some (.nx [some (.ref w), some (mat x y), some (.str l), some (.int way), some (.ref wd), none, some (.str s)], m4.set wd (.lst [.str a, .str b', .str c, .str d, .str (62 :: (s ++ M3))])) := by
        have a1 := oAdd_str (s := [62]) (t := s) (m := m4) (by simp; omega)
        have a2 := oAdd_str (s := [62] ++ s) (t := [60, 47, 116, 101, 120, 116, 62]) (m := m4) (by simp; omega)
        have ix : ixN 5 4 = some 4 := rfl
        simp at a1 a2
        simp [a1, a2, ew4, ix, M3]
      have s6 : sSet 6 (eFn F__law_pick (aCons (eVar 0) (aCons (eTup (aCons (eC (.str [48])) (aCons (eC (.str [45, 48])) (aCons (eC (.str [49, 48, 48, 49])) (aCons (eC (.str [48, 49])) (aCons (eC (.str [43, 49])) (aCons (eC (.str [])) (aCons (eC (.str [49, 46])) (aCons (eC (.str [45, 49])) (aCons (eC (.str [50])) (aCons (eC (.str [57, 57, 57])) (aCons (eC (.str [49, 48, 48, 48])) (aCons (eC (.str [45, 49, 48, 48, 48])) (aCons (eC (.str [97])) aNil)))))))))))))) aNil))) [some (.ref w), some (mat x y), some (.str l), some (.int way), some (.ref wd), none, none] m2 = some (.nx [some (.ref w), some (mat x y), some (.str l), some (.int way), some (.ref wd), none, some (.str s)], m4) := by
        simp [e4]
      rw [sSeq_ap, s6]
      simp only [seqK_nx]
      rw [sSeq_ap, st]
      simp only [seqK_nx]
      rw [sRet_ap, j]; rfl
    · have h3 : dg M3 = 0 := rfl
      have h62 : isDg 62 = false := rfl
      rw [dg5, dg_cons, dg_app, h3, h62]; simp; omega
    · rw [len5]; simp [M3]; omega
    · have h3 : okC M3 = true := rfl
      rw [ok5, okC_cons, okC_app, h3, s3, oa, ob, oc, od]; rfl
  refine Ret.seq1 (skip_if (by simp [hE])) ?_
  by_cases hF : way = 9
  · have up := mUpper_str (m := m2) (s := l) (fun c hc' => by have := List.all_eq_true.mp hc c hc'; simp at this; exact this.1) (by omega)
    obtain ⟨u1, u2⟩ := up_ok l hc
    refine Ret_if (d := .str (l.map PyProof.Rows.up1)) (m' := m2) (by simp [hF]) ?_ ⟨_, rfl, J.mk1 (by omega) (by simp; omega) u2, w2.mono (by omega), f2⟩
    simp [up]
  have nF : (way == 9) = false := by simpa using hF
  refine Ret.seq1 (skip_if (by simp [nF])) ?_
  by_cases hG : way = 10
  · have j := join5 (m := (m2.set wd (.lst [.str a, .str d, .str c, .str d, .str e])).set wd (.lst [.str a, .str d, .str c, .str b', .str e])) (wd := wd) (n := 2 * n + 20) (mem_set (mem_set ew)) (by rw [len5]; omega) (by omega) (some (.ref w)) (some (mat x y)) (some (.str l)) (some (.int way)) [none, none]
    refine Ret_if (d := .str (joinN [34] [a, d, c, b', e])) (m' := (m2.set wd (.lst [.str a, .str d, .str c, .str d, .str e])).set wd (.lst [.str a, .str d, .str c, .str b', .str e])) (by simp [hG]) ?_ ⟨_, rfl, J.mk1 ?_ ?_ ?_, ((w2.setS ew).setS (mem_set ew)).mono (by omega), Fr.setNew (Fr.setNew f2 hwd) hwd⟩
    · have st : sAsg (eTup (aCons (eOp oIx (eVar 4) (eC (.int 3))) (aCons (eOp oIx (eVar 4) (eC (.int 1))) aNil))) (gTp (gsCons (gIx (eVar 4) (eC (.int 1))) (gsCons (gIx (eVar 4) (eC (.int 3))) gsNil))) [some (.ref w), some (mat x y), some (.str l), some (.int way), some (.ref wd), none, none] m2 = some (.nx [some (.ref w), some (mat x y), some (.str l), some (.int way), some (.ref wd), none, none], (m2.set wd (.lst [.str a, .str d, .str c, .str d, .str e])).set wd (.lst [.str a, .str d, .str c, .str b', .str e])) := by
        have ew2 : (m2.set wd (MO.lst [.str a, .str d, .str c, .str d, .str e]))[wd]? = some (.lst [.str a, .str d, .str c, .str d, .str e]) := mem_set ew
        simp only [sAsg_ap, eTup_ap, aCons_ap, eOp_ap, eVar_s, eVar_z, eC_ap, Res.bind_ok, oIx_ref, ew, refIx_lst, atI_3, atI_1, optK_some, liftO_some, aNil_ap, List.length_cons, List.length_nil, fits_le, Res.toS_ok]
        simp only [show decide (0 + 1 + 1 ≤ 16777216) = true from rfl, Res.toS_ok, gTp_ap, gsCons_ap, gIx_ap, eVar_s, eVar_z, eC_ap, setIx_ref, ew, setO_lst, List.length_cons, List.length_nil]
        simp [ew2]
      rw [sSeq_ap, st]
      simp only [seqK_nx]
      rw [sRet_ap, j]; rfl
    · rw [dg5]; omega
    · rw [len5]; omega
    · rw [ok5, oa, ob, oc, od, oe]; rfl
  have nG : (way == 10) = false := by simpa using hG
  refine Ret.seq1 (skip_if (by simp [nG])) ?_
  have a1 := oAdd_str (s := [32]) (t := l) (m := m2) (by simp; omega)
  have a2 := oAdd_str (s := l) (t := [32]) (m := m2) (by simp; omega)
  have a3 := oAdd_str (s := l) (t := l) (m := m2) (by omega)
  obtain ⟨v, m3, hv, e3, w3, f3⟩ := pick_spec (xs := [.str [], .str [60, 47, 115, 118, 103, 62], .str ([32] ++ l), .str (l ++ [32]), .str (l ++ l), .str headS, .str [60, 116, 101, 120, 116, 47, 62]]) w2 (by simp) (by simp) (by omega)
  have hJ : ∃ l', v = .str l' ∧ J (b + 4) (2 * n + 20) l' := by
    have h32 : isDg 32 = false := rfl
    have z32 : dg [32] = 0 := rfl
    have o32 : okC [32] = true := rfl
    simp only [List.mem_cons, List.not_mem_nil, or_false] at hv
    rcases hv with rfl | rfl | rfl | rfl | rfl | rfl | rfl
    · exact ⟨_, rfl, J.mk1 (by simp [dg]) (by simp) rfl⟩
    · exact ⟨_, rfl, J.mk1 (by rw [show dg [60, 47, 115, 118, 103, 62] = 0 from rfl]; omega) (by simp <;> omega) rfl⟩
    · exact ⟨_, rfl, J.mk1 (by rw [dg_app, z32]; omega) (by simp; omega) (by rw [okC_app, o32, hc]; rfl)⟩
    · exact ⟨_, rfl, J.mk1 (by rw [dg_app, z32]; omega) (by simp; omega) (by rw [okC_app, o32, hc]; rfl)⟩
    · refine ⟨_, rfl, .inl (by rw [List.countP_append]; omega), by rw [dg_app]; omega, by simp; omega, by rw [okC_app, hc]; rfl⟩
    · exact ⟨_, rfl, J.mk1 (by rw [show dg headS = 17 from rfl]; omega) (by rw [show headS.length = 68 from rfl]; omega) rfl⟩
    · exact ⟨_, rfl, J.mk1 (by rw [show dg [60, 116, 101, 120, 116, 47, 62] = 0 from rfl]; omega) (by simp <;> omega) rfl⟩
  obtain ⟨l', rfl, hJ⟩ := hJ
  refine Ret.mk (d := .str l') (m1 := m3) ?_ ⟨_, rfl, hJ, w3.mono (by omega), f2.trans f3⟩
  rw [sRet_ap, eFn_ap]
  simp only [aCons_ap, eVar_z, Res.bind_ok, eTup_ap, eC_ap, eOp_ap, eVar_s, a1, a2, a3, liftO_some, eFn_ap, aNil_ap, law_head, List.length_cons, List.length_nil, fits_le]
  simp only [show decide (0 + 1 + 1 + 1 + 1 + 1 + 1 + 1 ≤ 16777216) = true from rfl, Res.bind_ok, e3]
  rfl
end K57

set_option Elab.async false
set_option linter.all false
set_option maxRecDepth 100000
set_option maxHeartbeats 4000000
namespace K57
open PySem PySem.Spec PyProof.Rows L2
open DL
structure TJ (b n k : Nat) (T : List Nat) : Prop where
  k : (cutC 10 T).length ≤ k
  j : ∀ l ∈ cutC 10 T, J b n l
theorem TJ.mono {b b' n n' k k' : Nat} {T : List Nat} (h : TJ b n k T) (hb : b ≤ b') (hn : n ≤ n') (hk : k ≤ k') : TJ b' n' k' T :=
  ⟨Nat.le_trans h.k hk, fun l hl => (h.j l hl).mono hb hn⟩
theorem J.nl {b n : Nat} {l : List Nat} (h : J b n l) : 10 ∉ l := fun z => by
  have := List.all_eq_true.mp h.c 10 z
  simp at this
theorem TJ_join {b n k : Nat} {L : List (List Nat)} (h : ∀ l ∈ L, J b n l) (hk : L.length ≤ k) (h1 : 1 ≤ k) : TJ b n k (joinN [10] L) := by
  by_cases h0 : L = []
  · subst h0
    refine ⟨by simpa [joinN, cutC] using h1, fun l hl => ?_⟩
    simp [joinN, cutC] at hl
    subst hl
    exact ⟨.inr (by simp [dg]), by simp [dg], by simp, rfl⟩
  · have e := cutC_of (c := 10) h0 fun l hl => (h l hl).nl
    exact ⟨by rw [e]; exact hk, by rw [e]; exact h⟩
theorem join_len (n : Nat) : ∀ L : List (List Nat), (∀ l ∈ L, l.length ≤ n) → (joinN [10] L).length ≤ L.length * (n + 1)
  | [], _ => by simp [joinN]
  | [l], h => by
    have := h l (by simp)
    simp [joinN]; omega
  | l :: r :: s, h => by
    have ih := join_len n (r :: s) fun z hz => h z (by simp [hz])
    have := h l (by simp)
    simp only [joinN, List.length_append, List.length_cons, List.length_nil, Nat.add_mul] at ih ⊢
    omega
theorem TJ.len {b n k : Nat} {T : List Nat} (h : TJ b n k T) : T.length ≤ k * (n + 1) := by
  have := join_len n (cutC 10 T) fun l hl => (h.j l hl).n
  rw [cutC_join] at this
  exact Nat.le_trans this (Nat.mul_le_mul_right _ h.k)
theorem TJ.ok {b n k : Nat} {T : List Nat} (h : TJ b n k T) (hb : b ≤ 240) (hn : n ≤ 50000) (hk : k ≤ 100) : TOk T := by
  have l := h.len
  have : k * (n + 1) ≤ 100 * 50001 := Nat.mul_le_mul hk (by omega)
  exact ⟨by omega, by have := h.k; omega, fun l hl => (h.j l hl).lok hb (by omega)⟩
theorem line_atR {r : Nat} {ls : List (List Nat)} {a : Nat} {l : List Nat} {m : Mem} (h0 : m[r]? = some (.lst (ls.map .str))) (hl : ls[a]? = some l) : refIx m[r]? (.int (a : Nat)) m = some (.str l, m) := by
  have ha : a < ls.length := (List.getElem?_eq_some_iff.mp hl).1
  rw [h0, refIx_lst, atI_nat (k := a) rfl (by simpa using ha), List.getElem?_map, hl]; rfl
theorem add_refs {a c : Nat} {X Y : List D} {m : Mem} (ha : m[a]? = some (.lst X)) (hc : m[c]? = some (.lst Y)) (h : X.length + Y.length ≤ 16777216) : oAdd (.ref a) (.ref c) m = some (.ref m.length, m ++ [.lst (X ++ Y)]) := by
  simp [oAdd, mlst_ref, ha, hc, h]
theorem sl_ref {a : Nat} {X : List D} {m : Mem} (ha : m[a]? = some (.lst X)) (lo hi : Option Int) : oSl (.ref a) lo hi m = some (.ref m.length, m ++ [.lst (cutD X lo hi)]) := by
  simp [oSl, mlst_ref, ha]
def BT (b n k N w : Nat) (m : Mem) (d : D) (m' : Mem) : Prop := ∃ T', d = .str T' ∧ TJ b n k T' ∧ Well m' w N ∧ DL.Fr w m m'
theorem line_small {q : Int × Int × Int × Int} (hq : AxOk q) {a c : Int} (ha : a.natAbs ≤ 10) (hc : c.natAbs ≤ 10) : J 24 300 (lineL (spX q a c) (-spY q a c) 1) := by
  obtain ⟨sx, sy⟩ := sp_abs hq (a := a) (b := c) (k := 1) (by omega) (by omega)
  have l1 := strI_len (k := 4) (by decide) sx
  have l2 := strI_len (i := -spY q a c) (k := 4) (by decide) (by rw [Int.natAbs_neg]; exact sy)
  have o : ∀ i : Int, okC (strI i) = true := fun i => List.all_eq_true.mpr fun c hc => by
    rcases strI_sign i c hc with h | h <;> simp <;> omega
  have d1 := dg_le (strI (spX q a c))
  have d2 := dg_le (strI (-spY q a c))
  have e1 : strI 1 = [49] := by decide +kernel
  have g0 : dg M0 = 0 := rfl
  have g1 : dg M1 = 0 := rfl
  have g2 : dg M2 = 0 := rfl
  have g3 : dg M3 = 0 := rfl
  have g4 : dg [49] = 1 := rfl
  have n0 : M0.length = 9 := rfl
  have n1 : M1.length = 5 := rfl
  have n2 : M2.length = 2 := rfl
  have n3 : M3.length = 7 := rfl
  have c0 : okC M0 = true := rfl
  have c1 : okC M1 = true := rfl
  have c2 : okC M2 = true := rfl
  have c3 : okC M3 = true := rfl
  have c4 : okC [49] = true := rfl
  have dd : dg (lineL (spX q a c) (-spY q a c) 1) ≤ 24 := by
    unfold lineL
    rw [e1]
    simp only [dg_app, g0, g1, g2, g3, g4]; omega
  refine ⟨.inr dd, by omega, ?_, ?_⟩
  · unfold lineL
    rw [e1]
    simp only [List.length_append, n0, n1, n2, n3, List.length_cons, List.length_nil]; omega
  · unfold lineL
    rw [e1]
    simp only [okC_app, c0, c1, c2, c3, c4, o]; rfl
theorem bent {m : Mem} {w N b n k : Nat} {x y : Int} {T : List Nat} (hz : (x, y) ∈ ms) (hw : Well m w N) (hT : TJ b n k T) (hb : 24 ≤ b) (hn0 : 300 ≤ n) (hn : n ≤ 10000) (hk0 : 1 ≤ k) (hk : k ≤ 50) (hN : N < 2 ^ 59) :
    Givs F__law_bent [.ref w, mat x y, .str T] m (BT (b + 4) (2 * n + 20) (k + 1) (N + 20) w m) := by
  unfold Givs
  rw [callS_mem rfl]
  show Ret (b__law_bent [some (.ref w), some (mat x y), some (.str T), none, none, none] m) _
  have tl := hT.len
  have tk : k * (n + 1) ≤ 50 * 10001 := Nat.mul_le_mul hk (by omega)
  have sp := mSplit_str (m := m) (s := T) (c := 10) (by decide) (by omega)
  have jl := hT.j
  have kl := hT.k
  have nel := cutC_ne 10 T
  generalize cutC 10 T = L at *
  have w1 : Well (m ++ [.lst (L.map .str)]) w N := hw.app
  have e0 := mem_new (m := m) (o := .lst (L.map .str))
  have nw : m.length ≠ w := by have := hw.lt; omega
  obtain ⟨way, m2, e2, y0, y1, w2, f2⟩ := draw_spec (most := 9) w1 (by omega) (by omega) (by omega)
  have f2' : DL.Fr w m m2 := Fr.app.trans f2
  have l2 := f2.get e0 nw
  have lp : 0 < L.length := List.length_pos_iff.mpr nel
  obtain ⟨at_, m3, e3, a0, a1, w3, f3⟩ := draw_spec (most := (L.length : Int)) w2 (by omega) (by omega) (by omega)
  obtain ⟨a, rfl⟩ := Int.eq_ofNat_of_zero_le a0
  have ha : a < L.length := by omega
  have f3' := f2'.trans f3
  have l3 := f3.get l2 nw
  have vl := vLen_lst l2
  rw [List.length_map] at vl
  unfold b__law_bent
  refine Ret.seq1 (ρ1 := [some (.ref w), some (mat x y), some (.str T), some (.ref m.length), some (.int way), none]) (m1 := m2) (by simp [sp, e2]) ?_
  refine Ret.seq1 (ρ1 := [some (.ref w), some (mat x y), some (.str T), some (.ref m.length), some (.int way), some (.int (a : Nat))]) (m1 := m3) (by simp [vl, e3]) ?_
  have hla : L[a]? = some L[a] := List.getElem?_eq_getElem ha
  have la := line_atR l3 hla
  have ja := jl L[a] (List.getElem_mem ha)
  have hlen : m.length ≤ m3.length := f3'.len
  have sb1 : ∀ l ∈ L.take a, J (b + 4) (2 * n + 20) l := fun l hl => (jl l ((List.take_sublist a L).subset hl)).mono (by omega) (by omega)
  have sb2 : ∀ c, ∀ l ∈ L.drop c, J (b + 4) (2 * n + 20) l := fun c l hl => (jl l ((List.drop_sublist c L).subset hl)).mono (by omega) (by omega)
  have tka : (L.take a).length ≤ a := by simp; omega
  have c1 : cutD (L.map D.str) none (some (a : Int)) = (L.take a).map D.str := by rw [cut_to, List.map_take]
  have c2 : ∀ c : Nat, cutD (L.map D.str) (some (c : Int)) none = (L.drop c).map D.str := fun c => by rw [cut_from, List.map_drop]
  have c3 : cutD (L.map D.str) (some ((a : Int) + 1)) none = (L.drop (a + 1)).map D.str := by
    have := c2 (a + 1)
    rw [show (((a + 1 : Nat)) : Int) = (a : Int) + 1 by omega] at this
    exact this
  refine Ret.seq (fun ρ m' => ∃ (r : Nat) (L' : List (List Nat)), ρ = [some (.ref w), some (mat x y), some (.str T), some (.ref r), some (.int way), some (.int (a : Nat))] ∧ m'[r]? = some (.lst (L'.map .str)) ∧ (∀ l ∈ L', J (b + 4) (2 * n + 20) l) ∧ L'.length ≤ k + 1 ∧ Well m' w (N + 20) ∧ DL.Fr w m m') ?_ ?_
  · by_cases h4 : way < 4
    · obtain ⟨d, m4, e4, l', rfl, jl', w4, f4⟩ := bent_line (x := x) (y := y) w3 ja (by omega) (by omega) hn (by omega)
      have l4 := f4.get l3 nw
      obtain ⟨l0, rr, hL⟩ : ∃ l0 rr, L = l0 :: rr := by
        cases L with
        | nil => exact absurd rfl nel
        | cons a b => exact ⟨a, b, rfl⟩
      have l4s : m4[m.length]? = some (.lst (.str l0 :: rr.map .str)) := by rw [l4, hL]; rfl
      have ix : ixN (L.map D.str).length (a : Int) = some a := ixN_nat (by simpa using ha)
      refine Nxs.mk (ρ1 := [some (.ref w), some (mat x y), some (.str T), some (.ref m.length), some (.int way), some (.int (a : Nat))]) (m1 := m4.set m.length (.lst ((L.set a l').map .str))) ?_ ⟨_, L.set a l', rfl, mem_set l4, ?_, by simp; omega, (w4.setS l4s).mono (by omega), Fr.setNew (f3'.trans f4) (Nat.le_refl _)⟩
      · rw [sIf_ap, show (bOf (eOp oLt (eVar 4) (eC (.int 4)))) [some (.ref w), some (mat x y), some (.str T), some (.ref m.length), some (.int way), some (.int (a : Nat))] m3 = .ok true m3 by simp [h4]]
        simp only [Res.toS_ok, sAsg_ap, eFn_ap, aCons_ap, eVar_s, eVar_z, Res.bind_ok, eOp_ap, oIx_ref, la, liftO_some, aNil_ap, e4, gIx_ap, setIx_ref, l4, setO_lst, ix]
        rw [List.map_set]
      · intro l hl
        rcases List.mem_or_eq_of_mem_set hl with h | h
        · exact (jl l h).mono (by omega) (by omega)
        · rw [h]; exact jl'
    have n4 : (bOf (eOp oLt (eVar 4) (eC (.int 4)))) [some (.ref w), some (mat x y), some (.str T), some (.ref m.length), some (.int way), some (.int (a : Nat))] m3 = .ok false m3 := by simp [h4]
    rw [sIf_ap, n4]
    simp only [Res.toS_ok]
    by_cases h5 : way = 4
    · subst h5
      have s1 := sl_ref l3 none (some (a : Int))
      rw [c1] at s1
      have s2 := sl_ref (mem_app (m1 := [MO.lst ((L.take a).map .str)]) l3) (some ((a : Int) + 1)) none
      rw [c3] at s2
      have ad := add_refs (m := m3 ++ [.lst ((L.take a).map .str), .lst ((L.drop (a + 1)).map .str)]) (a := m3.length) (c := m3.length + 1) (X := (L.take a).map .str) (Y := (L.drop (a + 1)).map .str) (by simp) (by simp) (by simp; omega)
      simp only [List.append_assoc, List.cons_append, List.nil_append, List.length_append, List.length_cons, List.length_nil] at s1 s2 ad
      refine Nxs.mk (ρ1 := [some (.ref w), some (mat x y), some (.str T), some (.ref (m3.length + 2)), some (.int 4), some (.int (a : Nat))]) (m1 := m3 ++ [.lst ((L.take a).map .str), .lst ((L.drop (a + 1)).map .str), .lst ((L.take a ++ L.drop (a + 1)).map .str)]) ?_ ⟨_, L.take a ++ L.drop (a + 1), rfl, by simp, ?_, by simp; omega, w3.app.mono (by omega), f3'.trans Fr.app⟩
      · rw [sIf_ap, show (bOf (eOp oEq (eVar 4) (eC (.int 4)))) [some (.ref w), some (mat x y), some (.str T), some (.ref m.length), some (.int 4), some (.int (a : Nat))] m3 = .ok true m3 by simp]
        rw [List.map_append]
        clear c1 c2 c3
        generalize (L.take a).map D.str = A at s1 s2 ad ⊢
        generalize (L.drop (a + 1)).map D.str = B at s2 ad ⊢
        simp [s1, s2, ad]
      · intro l hl
        rcases List.mem_append.mp hl with h | h
        · exact sb1 l h
        · exact sb2 _ l h
    have n5 : (bOf (eOp oEq (eVar 4) (eC (.int 4)))) [some (.ref w), some (mat x y), some (.str T), some (.ref m.length), some (.int way), some (.int (a : Nat))] m3 = .ok false m3 := by
      have : (way == 4) = false := by simpa using h5
      simp [this]
    rw [sIf_ap, n5]
    simp only [Res.toS_ok]
    by_cases h6 : way = 5
    · subst h6
      have s1 := sl_ref l3 none (some (a : Int))
      rw [c1] at s1
      have la2 := line_atR (mem_app (m1 := [MO.lst ((L.take a).map .str)]) l3) hla
      have ad := add_refs (m := m3 ++ [.lst ((L.take a).map .str), .lst [.str L[a]]]) (a := m3.length) (c := m3.length + 1) (X := (L.take a).map .str) (Y := [.str L[a]]) (by simp) (by simp) (by simp; omega)
      have s2 := sl_ref (mem_app (m1 := [MO.lst ((L.take a).map .str), .lst [.str L[a]], .lst ((L.take a).map .str ++ [.str L[a]])]) l3) (some (a : Int)) none
      rw [c2] at s2
      have ad2 := add_refs (m := m3 ++ [.lst ((L.take a).map .str), .lst [.str L[a]], .lst ((L.take a).map .str ++ [.str L[a]]), .lst ((L.drop a).map .str)]) (a := m3.length + 2) (c := m3.length + 3) (X := (L.take a).map .str ++ [.str L[a]]) (Y := (L.drop a).map .str) (by simp) (by simp) (by simp; omega)
      simp only [List.append_assoc, List.cons_append, List.nil_append, List.length_append, List.length_cons, List.length_nil] at s1 s2 ad ad2 la2
      refine Nxs.mk (ρ1 := [some (.ref w), some (mat x y), some (.str T), some (.ref (m3.length + 4)), some (.int 5), some (.int (a : Nat))]) (m1 := m3 ++ [.lst ((L.take a).map .str), .lst [.str L[a]], .lst ((L.take a).map .str ++ [.str L[a]]), .lst ((L.drop a).map .str), .lst ((L.take a ++ ([L[a]] ++ L.drop a)).map .str)]) ?_ ⟨_, L.take a ++ ([L[a]] ++ L.drop a), rfl, by simp, ?_, by simp; omega, w3.app.mono (by omega), f3'.trans Fr.app⟩
      · rw [sIf_ap, show (bOf (eOp oEq (eVar 4) (eC (.int 5)))) [some (.ref w), some (mat x y), some (.str T), some (.ref m.length), some (.int 5), some (.int (a : Nat))] m3 = .ok true m3 by simp]
        rw [List.map_append, List.map_append, List.map_cons, List.map_nil]
        clear c1 c2 c3
        generalize (L.take a).map D.str = A at s1 la2 ad s2 ad2 ⊢
        generalize (L.drop a).map D.str = B at s2 ad2 ⊢
        simp [s1, la2, ad, s2, ad2]
      · intro l hl
        rcases List.mem_append.mp hl with h | h
        · exact sb1 l h
        · rcases List.mem_append.mp h with h | h
          · simp at h; subst h; exact ja.mono (by omega) (by omega)
          · exact sb2 _ l h
    have n6 : (bOf (eOp oEq (eVar 4) (eC (.int 5)))) [some (.ref w), some (mat x y), some (.str T), some (.ref m.length), some (.int way), some (.int (a : Nat))] m3 = .ok false m3 := by
      have : (way == 5) = false := by simpa using h6
      simp [this]
    rw [sIf_ap, n6]
    simp only [Res.toS_ok]
    obtain ⟨l0, rr, hL⟩ : ∃ l0 rr, L = l0 :: rr := by
      cases L with
      | nil => exact absurd rfl nel
      | cons a b => exact ⟨a, b, rfl⟩
    by_cases h7 : way = 6 ∧ 0 < a
    · obtain ⟨h7, ha0⟩ := h7
      subst h7
      obtain ⟨c, rfl⟩ : ∃ c, a = c + 1 := ⟨a - 1, by omega⟩
      have hc : c < L.length := by omega
      have lc := line_atR l3 (List.getElem?_eq_getElem hc)
      have ec : ((c + 1 : Nat) : Int) - 1 = (c : Int) := by omega
      have ix1 : ixN (L.map D.str).length (c : Int) = some c := ixN_nat (by simpa using hc)
      have ix2 : ixN ((L.map D.str).set c (.str L[c + 1])).length ((c + 1 : Nat) : Int) = some (c + 1) := ixN_nat (by simpa using ha)
      have l3s : m3[m.length]? = some (.lst (.str l0 :: rr.map .str)) := by rw [l3, hL]; rfl
      have l4 : (m3.set m.length (.lst ((L.map D.str).set c (.str L[c + 1]))))[m.length]? = some (.lst ((L.map D.str).set c (.str L[c + 1]))) := mem_set l3
      obtain ⟨u0, uu, hu⟩ : ∃ (u0 : List Nat) (uu : List D), (L.map D.str).set c (.str L[c + 1]) = .str u0 :: uu := by
        generalize L[c + 1] = z
        rw [hL]
        cases c with
        | zero => exact ⟨_, _, rfl⟩
        | succ c => exact ⟨_, _, rfl⟩
      have l4s : (m3.set m.length (.lst ((L.map D.str).set c (.str L[c + 1]))))[m.length]? = some (.lst (.str u0 :: uu)) := by rw [l4, hu]
      have eqL : (((L.set c L[c + 1]).set (c + 1) L[c]).map D.str) = ((L.map D.str).set c (.str L[c + 1])).set (c + 1) (.str L[c]) := by rw [List.map_set, List.map_set]
      refine Nxs.mk (ρ1 := [some (.ref w), some (mat x y), some (.str T), some (.ref m.length), some (.int 6), some (.int ((c + 1 : Nat) : Int))]) (m1 := (m3.set m.length (.lst ((L.map D.str).set c (.str L[c + 1])))).set m.length (.lst (((L.set c L[c + 1]).set (c + 1) L[c]).map .str))) ?_ ⟨_, (L.set c L[c + 1]).set (c + 1) L[c], rfl, mem_set l4, ?_, by simp; omega, ((w3.setS l3s).setS l4s).mono (by omega), Fr.setNew (Fr.setNew f3' (Nat.le_refl _)) (Nat.le_refl _)⟩
      · rw [sIf_ap, show (bAnd (bOf (eOp oEq (eVar 4) (eC (.int 6)))) (bOf (eOp oGt (eVar 5) (eC (.int 0))))) [some (.ref w), some (mat x y), some (.str T), some (.ref m.length), some (.int 6), some (.int ((c + 1 : Nat) : Int))] m3 = .ok true m3 by
          have : decide ((0 : Int) < ((c + 1 : Nat) : Int)) = true := decide_eq_true (by omega)
          simp only [bAnd_ap, bOf_ap, eOp_ap, eVar_s, eVar_z, eC_ap, Res.bind_ok, oEq_int, oGt_int, liftO_some, this]
          rfl]
        rw [eqL]
        simp only [Res.toS_ok, sAsg_ap, eTup_ap, aCons_ap, eOp_ap, eVar_s, eVar_z, eC_ap, Res.bind_ok, oIx_ref, la, liftO_some, oSub_int, ec, lc, aNil_ap, List.length_cons, List.length_nil, fits_le]
        simp only [show decide (0 + 1 + 1 ≤ 16777216) = true from rfl, Res.toS_ok, gTp_ap, gsCons_ap, gIx_ap, eVar_s, eVar_z, eC_ap, eOp_ap, Res.bind_ok, oSub_int, ec, liftO_some, setIx_ref, l3, setO_lst, ix1, l4, ix2, gsNil_ap]
      · intro l hl
        rcases List.mem_or_eq_of_mem_set hl with h | h
        · rcases List.mem_or_eq_of_mem_set h with h | h
          · exact (jl l h).mono (by omega) (by omega)
          · rw [h]; exact ja.mono (by omega) (by omega)
        · rw [h]; exact (jl _ (List.getElem_mem hc)).mono (by omega) (by omega)
    have n7 : (bAnd (bOf (eOp oEq (eVar 4) (eC (.int 6)))) (bOf (eOp oGt (eVar 5) (eC (.int 0))))) [some (.ref w), some (mat x y), some (.str T), some (.ref m.length), some (.int way), some (.int (a : Nat))] m3 = .ok false m3 := by
      by_cases h : way = 6
      · have : decide ((0 : Int) < (a : Int)) = false := by
          have : ¬ 0 < a := fun z => h7 ⟨h, z⟩
          simp; omega
        simp only [bAnd_ap, bOf_ap, eOp_ap, eVar_s, eVar_z, eC_ap, Res.bind_ok, oEq_int, oGt_int, liftO_some, this, h]
        rfl
      · have : (way == 6) = false := by simpa using h
        simp only [bAnd_ap, bOf_ap, eOp_ap, eVar_s, eVar_z, eC_ap, Res.bind_ok, oEq_int, oGt_int, liftO_some, this]
    rw [sIf_ap, n7]
    simp only [Res.toS_ok]
    by_cases h8 : way = 7
    · subst h8
      obtain ⟨v, m4, hv, e4, w4, f4⟩ := pick_spec (xs := [.str [], .str [32], .str [60, 47, 115, 118, 103, 62], .str L[a]]) w3 (by simp) (by simp) (by omega)
      have hJ : ∃ l', v = .str l' ∧ J (b + 4) (2 * n + 20) l' := by
        simp only [List.mem_cons, List.not_mem_nil, or_false] at hv
        rcases hv with rfl | rfl | rfl | rfl
        · exact ⟨_, rfl, J.mk1 (by simp [dg]) (by simp) rfl⟩
        · exact ⟨_, rfl, J.mk1 (by rw [show dg [32] = 0 from rfl]; omega) (by rw [show ([32] : List Nat).length = 1 from rfl]; omega) rfl⟩
        · exact ⟨_, rfl, J.mk1 (by rw [show dg [60, 47, 115, 118, 103, 62] = 0 from rfl]; omega) (by rw [show ([60, 47, 115, 118, 103, 62] : List Nat).length = 6 from rfl]; omega) rfl⟩
        · exact ⟨_, rfl, ja.mono (by omega) (by omega)⟩
      obtain ⟨l', rfl, hJ⟩ := hJ
      have l4 := mem_app (m1 := [MO.lst [.str l']]) (f4.get l3 nw)
      have ad := add_refs (m := m4 ++ [.lst [.str l']]) (a := m.length) (c := m4.length) (X := L.map .str) (Y := [.str l']) l4 (by simp) (by simp; omega)
      simp only [List.append_assoc, List.cons_append, List.nil_append, List.length_append, List.length_cons, List.length_nil] at ad
      refine Nxs.mk (ρ1 := [some (.ref w), some (mat x y), some (.str T), some (.ref (m4.length + 1)), some (.int 7), some (.int (a : Nat))]) (m1 := m4 ++ [.lst [.str l'], .lst ((L ++ [l']).map .str)]) ?_ ⟨_, L ++ [l'], rfl, by simp, ?_, by simp; omega, w4.app.mono (by omega), (f3'.trans f4).trans Fr.app⟩
      · rw [sIf_ap, show (bOf (eOp oEq (eVar 4) (eC (.int 7)))) [some (.ref w), some (mat x y), some (.str T), some (.ref m.length), some (.int 7), some (.int (a : Nat))] m3 = .ok true m3 by simp]
        rw [List.map_append, List.map_cons, List.map_nil]
        clear c1 c2 c3
        simp [la, e4]
        simp at ad
        simp [ad]
      · intro l hl
        rcases List.mem_append.mp hl with h | h
        · exact (jl l h).mono (by omega) (by omega)
        · simp at h; subst h; exact hJ
    have n8 : (bOf (eOp oEq (eVar 4) (eC (.int 7)))) [some (.ref w), some (mat x y), some (.str T), some (.ref m.length), some (.int way), some (.int (a : Nat))] m3 = .ok false m3 := by
      have : (way == 7) = false := by simpa using h8
      simp [this]
    rw [sIf_ap, n8]
    simp only [Res.toS_ok]
    have s1 := sl_ref l3 none (some (a : Int))
    rw [c1] at s1
    obtain ⟨p, m5, e5, p0, p1, w5, f5⟩ := draw_spec (m := m3 ++ [.lst ((L.take a).map .str)]) (most := 9) w3.app (by omega) (by omega) (by omega)
    obtain ⟨q, m6, e6, q0, q1, w6, f6⟩ := draw_spec (most := 9) w5 (by omega) (by omega) (by omega)
    have ln := law_line hz (k := 1) (a := p - 4) (b := q - 4) (c := 1) (by omega) (by omega) (by omega) (c_lt (by decide)) m6
    have jn := (line_small (ax_ok hz) (a := p - 4) (c := q - 4) (by omega) (by omega)).mono (b' := b + 4) (n' := 2 * n + 20) (by omega) (by omega)
    generalize lineL (spX (ax (x, y)) (p - 4) (q - 4)) (-spY (ax (x, y)) (p - 4) (q - 4)) 1 = l' at ln jn
    have l6 := f6.get (f5.get (mem_app (m1 := [MO.lst ((L.take a).map .str)]) l3) nw) nw
    have n3 : m3.length ≠ w := by have := w3.lt; omega
    have t6 := f6.get (f5.get (mem_new (m := m3) (o := .lst ((L.take a).map .str))) n3) n3
    have ad := add_refs (m := m6 ++ [.lst [.str l']]) (a := m3.length) (c := m6.length) (X := (L.take a).map .str) (Y := [.str l']) (mem_app t6) (by simp) (by simp; omega)
    have s2 := sl_ref (mem_app (m1 := [MO.lst [.str l'], .lst ((L.take a).map .str ++ [.str l'])]) l6) (some (a : Int)) none
    rw [c2] at s2
    have ad2 := add_refs (m := m6 ++ [.lst [.str l'], .lst ((L.take a).map .str ++ [.str l']), .lst ((L.drop a).map .str)]) (a := m6.length + 1) (c := m6.length + 2) (X := (L.take a).map .str ++ [.str l']) (Y := (L.drop a).map .str) (by simp) (by simp) (by simp; omega)
    simp only [List.append_assoc, List.cons_append, List.nil_append, List.length_append, List.length_cons, List.length_nil] at s1 s2 ad ad2
    refine Nxs.mk (ρ1 := [some (.ref w), some (mat x y), some (.str T), some (.ref (m6.length + 3)), some (.int way), some (.int (a : Nat))]) (m1 := m6 ++ [.lst [.str l'], .lst ((L.take a).map .str ++ [.str l']), .lst ((L.drop a).map .str), .lst ((L.take a ++ ([l'] ++ L.drop a)).map .str)]) ?_ ⟨_, L.take a ++ ([l'] ++ L.drop a), rfl, by simp, ?_, by simp; omega, w6.app.mono (by omega), (((f3'.trans Fr.app).trans f5).trans f6).trans Fr.app⟩
    · rw [List.map_append, List.map_append, List.map_cons, List.map_nil]
      clear c1 c2 c3
      generalize (L.take a).map D.str = A at s1 e5 s2 ad ad2 ⊢
      generalize (L.drop a).map D.str = B at s2 ad2 ⊢
      simp [s1, e5, e6, ln]
      simp at ad s2 ad2
      simp [ad, s2, ad2]
    · intro l hl
      rcases List.mem_append.mp hl with h | h
      · exact sb1 l h
      · rcases List.mem_append.mp h with h | h
        · simp at h; subst h; exact jn
        · exact sb2 _ l h
  · rintro ρ m4 ⟨r, L', rfl, hr, hJ, hL, w4, f4⟩
    have jn := join_ok (S := [10]) (L := L') (n := 2 * n + 20) (fun l hl => (hJ l hl).n) (by
      have : L'.length * (2 * n + 20) ≤ 51 * 20020 := Nat.mul_le_mul (by omega) (by omega)
      simp; omega) m4
    refine Ret.mk (d := .str (joinN [10] L')) (m1 := m4) (by simp [hr, jn]) ⟨_, rfl, TJ_join hJ hL (by omega), w4, f4⟩
end K57

set_option Elab.async false
set_option linter.all false
set_option maxRecDepth 100000
set_option maxHeartbeats 4000000
set_option exponentiation.threshold 3000
namespace K57
open PySem PySem.Spec PyProof.Rows L2
open DL
theorem number_spec {m : Mem} {w N : Nat} (hw : Well m w N) (hN : N < 2 ^ 60) : ∃ z m', callS F__law_number [.ref w] m = .ok (.int z) m' ∧ z.natAbs ≤ 10 ^ 101 ∧ Well m' w (N + 10) ∧ DL.Fr w m m' := by
  rw [callS_mem rfl]
  show ∃ z m', retF (b__law_number [some (.ref w), none, none] m) = .ok (.int z) m' ∧ _
  obtain ⟨way, m1, e1, y0, y1, w1, f1⟩ := draw_spec (most := 8) hw (by omega) (by omega) (by omega)
  have small : ∀ z : Int, z.natAbs ≤ 1000 → z.natAbs ≤ 10 ^ 101 := fun z h => Nat.le_trans h (by decide +kernel)
  by_cases h : 0 < way
  · obtain ⟨d, m2, e2, d0, d1, w2, f2⟩ := draw_spec (most := 13) w1 (by omega) (by omega) (by omega)
    refine ⟨d - 6, m2, ?_, small _ (by omega), w2.mono (by omega), f1.trans f2⟩
    simp [b__law_number, e1, h, e2]
  · have h' : decide (0 < way) = false := decide_eq_false h
    have p2 : ∀ m, oPow (.int 10) (.int 2) m = some (.int (10 ^ 2), m) := fun m => rfl
    have p9 : ∀ m, oPow (.int 10) (.int 9) m = some (.int (10 ^ 9), m) := fun m => rfl
    have p30 : ∀ m, oPow (.int 10) (.int 30) m = some (.int (10 ^ 30), m) := fun m => rfl
    have p50 : ∀ m, oPow (.int 10) (.int 50) m = some (.int (10 ^ 50), m) := fun m => rfl
    have mm : mulOk (10 ^ 50) (10 ^ 50) = true := by decide +kernel
    obtain ⟨g, m2, hg, e2, w2, f2⟩ := pick_spec (xs := [.int (10 ^ 2), .int (10 ^ 9), .int (10 ^ 30), .int (10 ^ 50 * 10 ^ 50)]) w1 (by simp) (by simp) (by omega)
    obtain ⟨d, m3, e3, d0, d1, w3, f3⟩ := draw_spec (most := 9) w2 (by omega) (by omega) (by omega)
    obtain ⟨c, m4, e4, c0, c1, w4, f4⟩ := draw_spec (most := 2) w3 (by omega) (by omega) (by omega)
    obtain ⟨G, rfl, hG⟩ : ∃ G : Int, g = .int G ∧ 0 ≤ G ∧ G.natAbs + 9 ≤ 10 ^ 101 := by
      simp only [List.mem_cons, List.not_mem_nil, or_false] at hg
      rcases hg with rfl | rfl | rfl | rfl
      · exact ⟨_, rfl, by decide +kernel, by decide +kernel⟩
      · exact ⟨_, rfl, by decide +kernel, by decide +kernel⟩
      · exact ⟨_, rfl, by decide +kernel, by decide +kernel⟩
      · exact ⟨_, rfl, by decide +kernel, by decide +kernel⟩
    have s1 : sSet 1 (eFn F__law_draw (aCons (eVar 0) (aCons (eC (.int 8)) aNil))) [some (.ref w), none, none] m = some (.nx [some (.ref w), some (.int way), none], m1) := by simp [e1]
    have s2 : sIf (bOf (eOp oGt (eVar 1) (eC (.int 0)))) (sRet (eOp oSub (eFn F__law_draw (aCons (eVar 0) (aCons (eC (.int 13)) aNil))) (eC (.int 6)))) sNop [some (.ref w), some (.int way), none] m1 = some (.nx [some (.ref w), some (.int way), none], m1) := skip_if (by simp [h])
    have s3 : sSet 2 (eOp oAdd (eFn F__law_pick (aCons (eVar 0) (aCons (eTup (aCons (eOp oPow (eC (.int 10)) (eC (.int 2))) (aCons (eOp oPow (eC (.int 10)) (eC (.int 9))) (aCons (eOp oPow (eC (.int 10)) (eC (.int 30))) (aCons (eOp oMul (eOp oPow (eC (.int 10)) (eC (.int 50))) (eOp oPow (eC (.int 10)) (eC (.int 50)))) aNil))))) aNil))) (eFn F__law_draw (aCons (eVar 0) (aCons (eC (.int 9)) aNil)))) [some (.ref w), some (.int way), none] m1 = some (.nx [some (.ref w), some (.int way), some (.int (G + d))], m3) := by
      simp only [sSet_ap, eOp_ap, eFn_ap, aCons_ap, eVar_z, eVar_s, eC_ap, Res.bind_ok, eTup_ap, p2, p9, p30, p50, liftO_some, oMul_int mm, aNil_ap, List.length_cons, List.length_nil, fits_le]
      simp only [show decide (0 + 1 + 1 + 1 + 1 ≤ 16777216) = true from rfl, Res.bind_ok, e2, e3, oAdd_int, liftO_some, Res.toS_ok, List.set_cons_succ, List.set_cons_zero]
    have dG : (G + d).natAbs ≤ 10 ^ 101 := by omega
    by_cases hc : c = 0
    · subst hc
      refine ⟨G + d, m4, ?_, dG, w4.mono (by omega), ((f1.trans f2).trans f3).trans f4⟩
      unfold b__law_number
      rw [sSeq_ap, s1]; simp only [seqK_nx]
      rw [sSeq_ap, s2]; simp only [seqK_nx]
      rw [sSeq_ap, s3]; simp only [seqK_nx]
      simp [e4]
    · have hc' : (c == 0) = false := by simpa using hc
      refine ⟨0 - (G + d), m4, ?_, by omega, w4.mono (by omega), ((f1.trans f2).trans f3).trans f4⟩
      unfold b__law_number
      rw [sSeq_ap, s1]; simp only [seqK_nx]
      rw [sSeq_ap, s2]; simp only [seqK_nx]
      rw [sSeq_ap, s3]; simp only [seqK_nx]
      simp [e4, hc']
structure Tk (t : T3) : Prop where
  a : t.1.natAbs ≤ 10 ^ 101
  b : t.2.1.natAbs ≤ 10 ^ 101
  nz : t.2.2 ≠ 0
  c : t.2.2.natAbs ≤ 140
theorem putT_mem {a b c : Int} : ∀ {L : List T3} {t : T3}, t ∈ putT a b c L → t ∈ L ∨ t = (a, b, c)
  | [], t, h => by simp [putT] at h; exact .inr h
  | u :: r, t, h => by
    unfold putT at h
    split at h
    · rcases List.mem_cons.mp h with h | h
      · exact .inr h
      · exact .inl (by simp [h])
    · rcases List.mem_cons.mp h with h | h
      · exact .inl (by simp [h])
      · rcases putT_mem h with h | h
        · exact .inl (by simp [h])
        · exact .inr h
theorem srt_POk {L : List T3} {n : Nat} {S : Int} (h : DOk L n S) (hn : n ≤ 1000) (hS : S ≤ 1000) (nz : ∀ t ∈ L, t.2.2 ≠ 0) : POk (isortB le3 L) := by
  have := told_ok h hn hS
  rwa [List.filter_eq_self.mpr (fun t ht => by
    have := nz t ((perm_isort L).mem_iff.mp ht)
    simpa using this)] at this
theorem srt_PTab {L : List T3} (h : DOk L 7 980) (tk : ∀ t ∈ L, Tk t) : PTab (isortB le3 L) :=
  ⟨srt_POk h (by omega) (by omega) fun t ht => (tk t ht).nz, by rw [(perm_isort L).length_eq]; exact h.len, fun t ht => (tk t ((perm_isort L).mem_iff.mp ht)).a, fun t ht => (tk t ((perm_isort L).mem_iff.mp ht)).b⟩
theorem first_PTab {t : T3} {r : List T3} (h : PTab (t :: r)) (hs : sumA r ≤ 980) : PTab ((t.1, t.2.1, 1000 - sumA r) :: r) := by
  have s := h.ok.srt
  rw [List.pairwise_cons] at s
  have n0 := sumA_nn r
  refine ⟨⟨?_, ?_, ?_, ?_, ?_⟩, h.n, ?_, ?_⟩
  · rw [List.pairwise_cons]; exact ⟨fun u hu => s.1 u hu, s.2⟩
  · exact h.ok.nd
  · intro u hu
    rcases List.mem_cons.mp hu with rfl | hu
    · show 1000 - sumA r ≠ 0; omega
    · exact h.ok.nz u (by simp [hu])
  · exact h.ok.len
  · show ((1000 - sumA r).natAbs : Int) + sumA r ≤ 1000; omega
  · intro u hu
    rcases List.mem_cons.mp hu with rfl | hu
    · exact h.a t (by simp)
    · exact h.a u (by simp [hu])
  · intro u hu
    rcases List.mem_cons.mp hu with rfl | hu
    · exact h.b t (by simp)
    · exact h.b u (by simp [hu])
end K57

set_option Elab.async false
set_option linter.all false
set_option maxRecDepth 100000
set_option maxHeartbeats 4000000
set_option exponentiation.threshold 3000
namespace K57
open PySem PySem.Spec PyProof.Rows L2
open DL
theorem sum_tail (P : List T3) : sumI (P.map fun t => ((t.2.2.natAbs : Nat) : Int)) = sumA P := by
  induction P with
  | nil => rfl
  | cons t r ih => simp only [List.map_cons, sumI, sumA, ih]
theorem drawn_spec {m : Mem} {w N : Nat} (hw : Well m w N) (hN : N < 2 ^ 58) :
    Givs F__law_drawn [.ref w] m fun d m' => ∃ P, d = .tup (P.map pr) ∧ PTab P ∧ Well m' w (N + 1000) ∧ DL.Fr w m m' := by
  unfold Givs
  rw [callS_mem rfl]
  show Ret (b__law_drawn [some (.ref w), none, none, none, none, none, none, none, none] m) _
  unfold b__law_drawn
  have n3 : m.length ≠ w := by have := hw.lt; omega
  refine Ret.seq1 (ρ1 := [some (.ref w), some (.ref m.length), some (.int 0), none, none, none, none, none, none]) (m1 := m ++ [.dic true []]) (by simp) ?_
  obtain ⟨laps, m1, e1, p0, p1, w1, f1⟩ := draw_spec (m := m ++ [.dic true []]) (most := 8) hw.app (by omega) (by omega) (by omega)
  let I : Nat → DL.Env → Mem → Prop := fun i ρ m' => (∃ c3 c4 c5 c6, ρ = [some (.ref w), some (.ref m.length), some (.int 0), c3, c4, c5, c6, none, none]) ∧ Well m' w (N + 1 + 30 * i) ∧ DL.Fr w m m' ∧ ∃ L : List T3, m'[m.length]? = some (.dic true (L.map kv)) ∧ DOk L i (140 * i) ∧ ∀ t ∈ L, Tk t
  refine Ret.seq (I laps.toNat) ?_ ?_
  · rw [sFor_rg1 (j := laps) (m1 := m1) (by simp [e1]) (rgOk_of (by omega) (by omega))]
    refine Nxs.go I (by omega) ?_ (fun _ _ _ => rgN_end) ?_
    · exact ⟨⟨none, none, none, none, rfl⟩, w1, Fr.app.trans f1, [], f1.get mem_new n3, DOk.nil, fun t ht => by simp at ht⟩
    · rintro i ρ m2 hi ⟨⟨c3, c4, c5, c6, rfl⟩, w2, f2, L, eL, dL, tk⟩
      refine ⟨_, _, rgN_lt hi, rfl, ?_⟩
      simp only [setsD_cons, setsD_nil, List.set_cons_succ, List.set_cons_zero]
      obtain ⟨one, m3, e3, b3, w3, f3⟩ := number_spec w2 (by omega)
      obtain ⟨two, m4, e4, b4, w4, f4⟩ := number_spec w3 (by omega)
      refine Nxs.seq1 (ρ1 := [some (.ref w), some (.ref m.length), some (.int 0), some (.int (0 + (i : Int) * 1)), some (.int one), c5, c6, none, none]) (m1 := m3) (by simp [e3]) ?_
      refine Nxs.seq1 (ρ1 := [some (.ref w), some (.ref m.length), some (.int 0), some (.int (0 + (i : Int) * 1)), some (.int one), some (.int two), c6, none, none]) (m1 := m4) (by simp [e4]) ?_
      obtain ⟨s, m5, e5, s0, s1, w5, f5⟩ := draw_spec (most := 4) w4 (by omega) (by omega) (by omega)
      obtain ⟨cnt, m6, e6, h0, h1, w6, f6⟩ : ∃ cnt m6, (if 0 < s then callS F__law_draw [.ref w, .int 12] m5 else callS F__law_draw [.ref w, .int 140] m5) = .ok (.int cnt) m6 ∧ 0 ≤ cnt ∧ cnt < 140 ∧ Well m6 w (N + 1 + 30 * i + 22) ∧ DL.Fr w m5 m6 := by
        by_cases hs : 0 < s
        · obtain ⟨cnt, m6, e6, h0, h1, w6, f6⟩ := draw_spec (most := 12) w5 (by omega) (by omega) (by omega)
          exact ⟨cnt, m6, by rw [if_pos hs]; exact e6, h0, by omega, w6.mono (by omega), f6⟩
        · obtain ⟨cnt, m6, e6, h0, h1, w6, f6⟩ := draw_spec (most := 140) w5 (by omega) (by omega) (by omega)
          exact ⟨cnt, m6, by rw [if_neg hs]; exact e6, h0, by omega, w6.mono (by omega), f6⟩
      refine Nxs.seq1 (ρ1 := [some (.ref w), some (.ref m.length), some (.int 0), some (.int (0 + (i : Int) * 1)), some (.int one), some (.int two), some (.int (1 + cnt)), none, none]) (m1 := m6) ?_ ?_
      · by_cases hs : 0 < s
        · rw [if_pos hs] at e6
          simp [e5, hs, e6]
        · rw [if_neg hs] at e6
          simp [e5, hs, e6]
      obtain ⟨g, m7, e7, g0, g1, w7, f7⟩ := draw_spec (most := 3) w6 (by omega) (by omega) (by omega)
      have eL7 := f7.get (f6.get (f5.get (f4.get (f3.get eL n3) n3) n3) n3) n3
      have hlen : (L.map kv).length + 1 ≤ 16777216 := by
        have := dL.len
        rw [List.length_map]; omega
      obtain ⟨c, hc, hc2⟩ : ∃ c : Int, (if 0 < g then c = 1 + cnt else c = 0 - (1 + cnt)) ∧ c.natAbs ≤ 140 ∧ c ≠ 0 := by
        by_cases hg : 0 < g
        · exact ⟨1 + cnt, by simp [hg], by omega, by omega⟩
        · exact ⟨0 - (1 + cnt), by simp [hg], by omega, by omega⟩
      refine Nxs.mk (ρ1 := [some (.ref w), some (.ref m.length), some (.int 0), some (.int (0 + (i : Int) * 1)), some (.int one), some (.int two), some (.int (1 + cnt)), none, none]) (m1 := m7.set m.length (.dic true ((putT one two c L).map kv))) ?_ ?_
      · by_cases hg : 0 < g
        · rw [if_pos hg] at hc
          subst hc
          simp [e7, hg, eL7, setO_dic (isK_pair _ _) hlen, putD_kv _ _ _ _ dL.nd]
        · rw [if_neg hg] at hc
          subst hc
          simp [e7, hg, eL7, setO_dic (isK_pair _ _) hlen, putD_kv _ _ _ _ dL.nd]
      · refine ⟨⟨_, _, _, _, rfl⟩, (w7.setD (.inl eL7)).mono (by omega), Fr.setNew (((((f2.trans f3).trans f4).trans f5).trans f6).trans f7) (Nat.le_refl _), _, mem_set eL7, (dL.put _ _ _).mono (by omega) (by omega), fun t ht => ?_⟩
        rcases putT_mem ht with h | rfl
        · exact tk t h
        · exact ⟨b3, b4, hc2.2, hc2.1⟩
  rintro ρ m2 ⟨⟨c3, c4, c5, c6, rfl⟩, w2, f2, L, eL, dL, tk⟩
  have dL := dL.mono (n' := 7) (S' := 980) (by omega) (by omega)
  have w2 := w2.mono (N' := N + 300) (by omega)
  have hP := srt_PTab dL tk
  have hl : L.length ≤ 16777216 := by have := dL.len; omega
  have pm := perm_isort L
  -- the sorted pairs
  have ks : lcV (eVar 1) (pName 4) [4] bYes (eVar 4) [some (.ref w), some (.ref m.length), some (.int 0), c3, c4, c5, c6, none, none] m2 = .ok (L.map kD) m2 := lcV_keys (fun m' => by simp) eL hl (fun t ht => by simp)
  have q : (eCallL qSort (lcV (eVar 1) (pName 4) [4] bYes (eVar 4))) [some (.ref w), some (.ref m.length), some (.int 0), c3, c4, c5, c6, none, none] m2 = .ok (.ref m2.length) (m2 ++ [.lst ((isortB le3 L).map kD)]) := by
    simp [ks, sort_keys L m2 hl]
  have eL2 := mem_app (m1 := [MO.lst ((isortB le3 L).map kD)]) eL
  have st : sSetLcV 7 (eCallL qSort (lcV (eVar 1) (pName 4) [4] bYes (eVar 4))) (pName 8) [8] bYes (eTup (aCons (eVar 8) (aCons (eOp oIx (eVar 1) (eVar 8)) aNil))) [some (.ref w), some (.ref m.length), some (.int 0), c3, c4, c5, c6, none, none] m2 = some (.nx [some (.ref w), some (.ref m.length), some (.int 0), c3, c4, c5, c6, some (.ref (m2.length + 1)), none], m2 ++ [.lst ((isortB le3 L).map kD), .lst ((isortB le3 L).map pr)]) := by
    rw [sSetLcV_lst q (.inl (by simp)) mem_new, lcGo_map (L := isortB le3 L) (enc := kD) (g := pr) (fun i _ => seq_lst mem_new i) (by simp) (by rw [pm.length_eq]; exact hl) (fun t ht => by
      have hv : valT t.1 t.2.1 L = some t.2.2 := valT_mem L t dL.nd (pm.mem_iff.mp ht)
      refine ⟨[(8, kD t)], rfl, rfl, ?_⟩
      simp [eL2, kD, refIx_dic (isK_pair _ _), valD_kv, hv, pr])]
    simp
  refine Ret.seq1 st ?_
  have sP : sumA (isortB le3 L) ≤ 980 := by rw [sumA_perm pm]; exact dL.sum
  clear st q ks
  generalize hPP : isortB le3 L = P at *
  have w3 : Well (m2 ++ [.lst (P.map kD), .lst (P.map pr)]) w (N + 300) := w2.app
  have f3 : DL.Fr w m (m2 ++ [.lst (P.map kD), .lst (P.map pr)]) := f2.trans Fr.app
  have eP : (m2 ++ [.lst (P.map kD), .lst (P.map pr)])[m2.length + 1]? = some (.lst (P.map pr)) := by simp
  have np : m2.length + 1 ≠ w := by have := w2.lt; omega
  generalize m2.length + 1 = p at *
  generalize m2 ++ [MO.lst (P.map kD), MO.lst (P.map pr)] = m3 at *
  refine Ret.seq (fun ρ m' => ∃ (r : Nat) (c2 : Option D) (P' : List T3), ρ = [some (.ref w), some (.ref m.length), c2, c3, c4, c5, c6, some (.ref r), none] ∧ m'[r]? = some (.lst (P'.map pr)) ∧ PTab P' ∧ Well m' w (N + 1000) ∧ DL.Fr w m m') ?_ ?_
  · have eP2 := mem_app (m1 := [MO.lst []]) eP
    have on := oNe_prs (P := P) eP2 mem_new
    cases P with
    | nil =>
      refine Nxs.mk (ρ1 := [some (.ref w), some (.ref m.length), some (.int 0), c3, c4, c5, c6, some (.ref p), none]) (m1 := m3 ++ [.lst []]) (by simp [on]) ⟨p, _, [], rfl, eP2, hP, w3.app.mono (by omega), f3.trans Fr.app⟩
    | cons t r =>
      obtain ⟨d, m4, e4, d0, d1, w4, f4⟩ := draw_spec (m := m3 ++ [.lst []]) (most := 8) w3.app (by omega) (by omega) (by omega)
      have eP4 := f4.get eP2 np
      by_cases hd : d = 0
      · subst hd
        have ct : DL.cutD ((t :: r).map pr) (some 1) none = r.map pr := by rw [List.map_cons]; exact cut_tail _ _
        have sl := sl_ref eP4 (some 1) none
        rw [ct] at sl
        have sr : sumA r ≤ 980 := by have : sumA (t :: r) = t.2.2.natAbs + sumA r := rfl; omega
        have cond : (bAnd (bOf (eOp oNe (eVar 7) (eLst aNil))) (bOf (eOp oEq (eFn F__law_draw (aCons (eVar 0) (aCons (eC (.int 8)) aNil))) (eC (.int 0))))) [some (.ref w), some (.ref m.length), some (.int 0), c3, c4, c5, c6, some (.ref p), none] m3 = .ok true m4 := by
          simp [on, e4]
        have lc : lcV (eSl (eVar 7) (pSo (eC (.int 1))) pNo) (pTup [(pName 8), (pName 6)]) [8, 6] bYes (eCall (one vAbs) (aCons (eVar 6) aNil)) [some (.ref w), some (.ref m.length), some (.int 0), c3, c4, c5, c6, some (.ref p), none] m4 = .ok (r.map fun t => D.int (t.2.2.natAbs : Nat)) (m4 ++ [.lst (r.map pr)]) := by
          have hs : eSl (eVar 7) (pSo (eC (.int 1))) pNo [some (.ref w), some (.ref m.length), some (.int 0), c3, c4, c5, c6, some (.ref p), none] m4 = .ok (.ref m4.length) (m4 ++ [.lst (r.map pr)]) := by simp [sl]
          rw [lcV_lst hs (.inl (by simp)) mem_new, lcGo_map (L := r) (enc := pr) (g := fun t => .int (t.2.2.natAbs : Nat)) (fun i _ => seq_lst mem_new i) (by simp) (by have := hP.n; simp at this; omega) (fun u hu => ⟨[(8, .tup [.int u.1, .int u.2.1]), (6, .int u.2.2)], rfl, rfl, by simp [vAbs_int]⟩)]
        have su : ∀ m, qSum (r.map fun t => D.int (t.2.2.natAbs : Nat)) m = some (.int (sumA r), m) := fun m => by
          have i : intsD (r.map fun t => D.int (t.2.2.natAbs : Nat)) = some (r.map fun t => ((t.2.2.natAbs : Nat) : Int)) := by
            have := intsD_of (r.map fun t => ((t.2.2.natAbs : Nat) : Int))
            rw [List.map_map] at this; exact this
          simp [qSum, i, sum_tail]
        have s2 : sSet 2 (eCallL qSum (lcV (eSl (eVar 7) (pSo (eC (.int 1))) pNo) (pTup [(pName 8), (pName 6)]) [8, 6] bYes (eCall (one vAbs) (aCons (eVar 6) aNil)))) [some (.ref w), some (.ref m.length), some (.int 0), c3, c4, c5, c6, some (.ref p), none] m4 = some (.nx [some (.ref w), some (.ref m.length), some (.int (sumA r)), c3, c4, c5, c6, some (.ref p), none], m4 ++ [.lst (r.map pr)]) := by
          rw [sSet_ap, eCallL_ap, lc]
          simp [su]
        have eP5 := mem_app (m1 := [MO.lst (r.map pr)]) eP4
        have eP6 := mem_app (m1 := [MO.lst [pr (t.1, t.2.1, 1000 - sumA r)]]) eP5
        have sl2 := sl_ref eP6 (some 1) none
        rw [ct] at sl2
        have ad := add_refs (m := m4 ++ [.lst (r.map pr), .lst [pr (t.1, t.2.1, 1000 - sumA r)], .lst (r.map pr)]) (a := m4.length + 1) (c := m4.length + 2) (X := [pr (t.1, t.2.1, 1000 - sumA r)]) (Y := r.map pr) (by simp) (by simp) (by have := hP.n; simp at this ⊢; omega)
        have s7 : sSet 7 (eOp oAdd (eLst (aCons (eTup (aCons (eOp oIx (eOp oIx (eVar 7) (eC (.int 0))) (eC (.int 0))) (aCons (eOp oSub (eC (.int 1000)) (eVar 2)) aNil))) aNil)) (eSl (eVar 7) (pSo (eC (.int 1))) pNo)) [some (.ref w), some (.ref m.length), some (.int (sumA r)), c3, c4, c5, c6, some (.ref p), none] (m4 ++ [.lst (r.map pr)]) = some (.nx [some (.ref w), some (.ref m.length), some (.int (sumA r)), c3, c4, c5, c6, some (.ref (m4.length + 3)), none], m4 ++ [.lst (r.map pr), .lst [pr (t.1, t.2.1, 1000 - sumA r)], .lst (r.map pr), .lst (((t.1, t.2.1, 1000 - sumA r) :: r).map pr)]) := by
          have x0 : oIx (.ref p) (.int 0) (m4 ++ [.lst (r.map pr)]) = some (pr t, m4 ++ [.lst (r.map pr)]) := by
            rw [oIx_ref, eP5, List.map_cons, refIx_lst, atI_0]; rfl
          have x1 : ∀ m, oIx (pr t) (.int 0) m = some (.tup [.int t.1, .int t.2.1], m) := fun m => by simp [pr]
          simp only [List.append_assoc, List.cons_append, List.nil_append, List.length_append, List.length_cons, List.length_nil, pr] at sl2 ad
          simp only [sSet_ap, eOp_ap, eLst_ap, aCons_ap, eTup_ap, eVar_s, eVar_z, eC_ap, Res.bind_ok, x0, x1, liftO_some, oSub_int, aNil_ap, List.length_cons, List.length_nil, fits_le]
          simp only [show decide (0 + 1 + 1 ≤ 16777216) = true from rfl, show decide (0 + 1 ≤ 16777216) = true from rfl, Res.bind_ok, eSl_ap, eVar_s, eVar_z, pSo_ap, eC_ap, intD_int, pNo_ap, List.append_assoc, List.cons_append, List.nil_append, List.length_append, List.length_cons, List.length_nil, sl2, liftO_some, ad, Res.toS_ok, List.set_cons_succ, List.set_cons_zero, List.map_cons, pr]
        refine Nxs.mk (ρ1 := [some (.ref w), some (.ref m.length), some (.int (sumA r)), c3, c4, c5, c6, some (.ref (m4.length + 3)), none]) (m1 := m4 ++ [.lst (r.map pr), .lst [pr (t.1, t.2.1, 1000 - sumA r)], .lst (r.map pr), .lst (((t.1, t.2.1, 1000 - sumA r) :: r).map pr)]) ?_ ⟨_, _, (t.1, t.2.1, 1000 - sumA r) :: r, rfl, by simp, first_PTab hP sr, w4.app.mono (by omega), ((f3.trans Fr.app).trans f4).trans Fr.app⟩
        rw [sIf_ap, cond]
        simp only [Res.toS_ok]
        rw [sSeq_ap, s2]
        simp only [seqK_nx]
        exact s7
      · have hd' : (d == 0) = false := by simpa using hd
        have cond : (bAnd (bOf (eOp oNe (eVar 7) (eLst aNil))) (bOf (eOp oEq (eFn F__law_draw (aCons (eVar 0) (aCons (eC (.int 8)) aNil))) (eC (.int 0))))) [some (.ref w), some (.ref m.length), some (.int 0), c3, c4, c5, c6, some (.ref p), none] m3 = .ok false m4 := by
          simp [on, e4, hd']
        refine Nxs.mk (ρ1 := [some (.ref w), some (.ref m.length), some (.int 0), c3, c4, c5, c6, some (.ref p), none]) (m1 := m4) ?_ ⟨p, _, t :: r, rfl, eP4, hP, w4.mono (by omega), (f3.trans Fr.app).trans f4⟩
        rw [sIf_ap, cond]; rfl
  · rintro ρ m4 ⟨r, c2, P', rfl, hr, hP', w4, f4⟩
    refine Ret.mk (d := .tup (P'.map pr)) (m1 := m4) ?_ ⟨P', rfl, hP', w4, f4⟩
    simp [vTup, tupD, hr]
end K57

set_option Elab.async false
set_option linter.all false
set_option maxRecDepth 100000
set_option maxHeartbeats 4000000
set_option exponentiation.threshold 3000
namespace K57
open PySem PySem.Spec PyProof.Rows L2
open DL
/-! repr -/
theorem jn_len : ∀ ts : List Str, (Str.join ", " ts).length ≤ (ts.map fun t => t.length + 2).sum
  | [] => by exact Nat.le_refl 0
  | [t] => by show t.length ≤ _; simp
  | t :: u :: r => by
    have ih := jn_len (u :: r)
    show (t ++ ", " ++ Str.join ", " (u :: r)).length ≤ _
    rw [strLen_append, strLen_append]
    have e2 : ((", " : String) : Str).length = 2 := rfl
    rw [e2]
    simp only [List.map_cons, List.sum_cons] at ih ⊢
    omega
theorem tt_len (ts : List Str) (n : Nat) (h : ∀ t ∈ ts, t.length ≤ n) : (tupleText ts).length ≤ ts.length * (n + 2) + 3 := by
  have j := jn_len ts
  have s : ∀ l : List Str, (∀ t ∈ l, t.length ≤ n) → (l.map fun t => t.length + 2).sum ≤ l.length * (n + 2) := fun l => by
    induction l with
    | nil => simp
    | cons t r ih =>
      intro h
      have := ih fun z hz => h z (by simp [hz])
      have := h t (by simp)
      simp only [List.map_cons, List.sum_cons, List.length_cons, Nat.add_mul]; omega
  have := s ts h
  unfold tupleText
  rw [strLen_append, strLen_append]
  have e1 : (("(" : String) : Str).length = 1 := rfl
  have e2 : (Str.ofString (if (ts.length == 1) = true then ",)" else ")" : String)).length ≤ 2 := by
    split
    · exact Nat.le_refl 2
    · show 1 ≤ 2; omega
  rw [e1]
  exact Nat.le_trans (Nat.add_le_add_left e2 _) (by omega)
structure GOk (G : List T3) : Prop where
  n : G.length ≤ 1000
  a : ∀ t ∈ G, t.1.natAbs < 10 ^ 570
  b : ∀ t ∈ G, t.2.1.natAbs < 10 ^ 570
  c : ∀ t ∈ G, t.2.2.natAbs < 10 ^ 570
theorem shI_len {i : Int} (h : i.natAbs < 10 ^ 570) : (PyData.shown (.int i)).length ≤ 571 := strI_570 h
theorem shAll (P : List T3) : PyData.shownAll (P.map prP) = P.map fun t => (prP t).shown := by
  induction P with
  | nil => rfl
  | cons t r ih => simp only [List.map_cons, PyData.shownAll, ih]
theorem shP_len {G : List T3} (h : GOk G) : ∀ t ∈ G, (prP t).shown.length ≤ 3000 := fun t ht => by
  have h1 := shI_len (h.a t ht)
  have h2 := shI_len (h.b t ht)
  have h3 := shI_len (h.c t ht)
  have i : (PyData.tuple [.int t.1, .int t.2.1]).shown = tupleText [(PyData.int t.1).shown, (PyData.int t.2.1).shown] := rfl
  have i1 : (PyData.tuple [.int t.1, .int t.2.1]).shown.length ≤ 1200 := by
    rw [i]
    have := tt_len [(PyData.int t.1).shown, (PyData.int t.2.1).shown] 571 (by simp; exact ⟨h1, h2⟩)
    simp at this; omega
  have e : (prP t).shown = tupleText [(PyData.tuple [.int t.1, .int t.2.1]).shown, (PyData.int t.2.2).shown] := rfl
  rw [e]
  have := tt_len [(PyData.tuple [.int t.1, .int t.2.1]).shown, (PyData.int t.2.2).shown] 1200 (by simp; exact ⟨i1, by omega⟩)
  simp at this; omega
theorem sbl {G : List T3} (h : GOk G) : PyData.showableAll (G.map prP) = true := by
  have : ∀ l : List T3, (∀ t ∈ l, t ∈ G) → PyData.showableAll (l.map prP) = true := fun l => by
    induction l with
    | nil => intro _; rfl
    | cons t r ih =>
      intro hl
      have ht := hl t (by simp)
      have a := log_lt (h.a t ht) (Nat.le_refl _)
      have b := log_lt (h.b t ht) (Nat.le_refl _)
      have c := log_lt (h.c t ht) (Nat.le_refl _)
      simp [PyData.showableAll, PyData.showable, prP, a, b, c]
      exact ih fun z hz => hl z (by simp [hz])
  exact this G fun t ht => ht
theorem nod (G : List T3) : PyData.hasDictAll (G.map prP) = false := by
  induction G with
  | nil => rfl
  | cons t r ih => simp [PyData.hasDictAll, PyData.hasDict, prP]; exact ih
theorem py_prs2 (g : Nat → Option PyData) : ∀ P : List T3, pyRs g (P.map pr) = some (P.map prP)
  | [] => rfl
  | t :: r => by simp only [List.map_cons, pyRs, py_prs2 g r]; rfl
theorem repr_tab {G : List T3} (h : GOk G) : ∃ s, ∀ m, vReprS (.tup (G.map pr)) m = some (.str s, m) := by
  refine ⟨(PyData.tuple (G.map prP)).shown.cps.toList, fun m => ?_⟩
  have p : pyN m 3 (.tup (G.map pr)) = some (PyData.tuple (G.map prP)) := by
    show (match pyRs _ (G.map pr) with | some ds => some (PyData.tuple ds) | none => none) = _
    rw [py_prs2]
  have hs : (PyData.tuple (G.map prP)).showable = true := by simp [PyData.showable, sbl h]
  have hd : (PyData.tuple (G.map prP)).hasDict = false := by simp [PyData.hasDict, nod]
  have hl : Nat.ble (PyData.tuple (G.map prP)).shown.length 16777216 = true := by
    rw [Nat.ble_eq]
    have e : (PyData.tuple (G.map prP)).shown = tupleText (PyData.shownAll (G.map prP)) := rfl
    rw [e, shAll]
    have := tt_len (G.map fun t => (prP t).shown) 3000 (fun t ht => by
      obtain ⟨u, hu, rfl⟩ := List.mem_map.mp ht
      exact shP_len h u hu)
    rw [List.length_map] at this
    have : G.length * 3002 ≤ 1000 * 3002 := Nat.mul_le_mul_right _ h.n
    omega
  have hp : Nat.ble (PyData.tuple (G.map prP)).depth 64 = true := by
    rw [Nat.ble_eq]
    have := dep_prP G
    simp [PyData.depth]; omega
  show vRepr (.tup (G.map pr)) m = _
  show (match pyN m 3 (.tup (G.map pr)) with
      | some x => (match (x.showable && (!x.hasDict && (Nat.ble x.shown.length 16777216 && Nat.ble x.depth 64))) with
        | true => some (D.str x.shown.cps.toList, m)
        | false => none)
      | none => none) = _
  rw [p]
  simp only [hs, hd, hl, hp, Bool.not_false, Bool.and_self]
theorem repr_bad {k : Nat} (h : k < 10 ^ 570) : ∃ s, ∀ m, vReprS (.tup [.str badS, .int (k : Nat)]) m = some (.str s, m) := by
  refine ⟨(PyData.tuple [.str (sxOf badS), .int (k : Nat)]).shown.cps.toList, fun m => ?_⟩
  have p : pyN m 3 (.tup [.str badS, .int (k : Nat)]) = some (PyData.tuple [.str (sxOf badS), .int (k : Nat)]) := rfl
  have lg : decide ((k : Int).natAbs.log2 < 1920) = true := decide_eq_true (log_lt h (Nat.le_refl _))
  have hs : (PyData.tuple [.str (sxOf badS), .int (k : Nat)]).showable = true := by
    simp only [PyData.showable, PyData.showableAll, lg]; rfl
  have hd : (PyData.tuple [.str (sxOf badS), .int (k : Nat)]).hasDict = false := rfl
  have hl : Nat.ble (PyData.tuple [.str (sxOf badS), .int (k : Nat)]).shown.length 16777216 = true := by
    rw [Nat.ble_eq]
    have e : (PyData.tuple [.str (sxOf badS), .int (k : Nat)]).shown = tupleText [reprText (sxOf badS), (PyData.int (k : Nat)).shown] := rfl
    rw [e]
    have b : (reprText (sxOf badS)).length ≤ 1000 := by
      have := StrLaws.reprText_len (sxOf badS) (by rw [tl_sx]; decide)
      rw [sx_len badS] at this
      exact Nat.le_trans this (by decide)
    have i := shI_len (i := (k : Nat)) h
    have := tt_len [reprText (sxOf badS), (PyData.int (k : Nat)).shown] 1000 (by simp; exact ⟨b, by omega⟩)
    simp at this; omega
  show vRepr (.tup [.str badS, .int (k : Nat)]) m = _
  show (match pyN m 3 (.tup [.str badS, .int (k : Nat)]) with
      | some x => (match (x.showable && (!x.hasDict && (Nat.ble x.shown.length 16777216 && Nat.ble x.depth 64))) with
        | true => some (D.str x.shown.cps.toList, m)
        | false => none)
      | none => none) = _
  have hp : Nat.ble (PyData.tuple [.str (sxOf badS), .int (k : Nat)]).depth 64 = true := by simp [PyData.depth, PyData.depthAll]
  rw [p]
  simp only [hs, hd, hl, hp, Bool.not_false, Bool.and_self]
theorem repr_str {T : List Nat} (h : T.length ≤ 1000000) (hc : ∀ c ∈ T, c < 16 ^ 8) : ∃ s, ∀ m, vReprS (.str T) m = some (.str s, m) := by
  refine ⟨(reprText (sxOf T)).cps.toList, fun m => ?_⟩
  have b : Nat.ble (reprText (sxOf T)).length 16777216 = true := by
    rw [Nat.ble_eq]
    have := StrLaws.reprText_len (sxOf T) (by rw [tl_sx]; exact hc)
    rw [sx_len T] at this; omega
  simp only [vReprS, b]
/-! what is read is small -/
theorem rd_ok {q : Int × Int × Int × Int} (hq : AxOk q) {l : List Nat} {t : T3} (ok : LOk l) (h : rd q l = some t) : t.1.natAbs < 10 ^ 570 ∧ t.2.1.natAbs < 10 ^ 570 ∧ t.2.2.natAbs < 10 ^ 570 := by
  unfold rd at h
  cases hn : nums l with
  | none => simp [hn] at h
  | some r =>
    obtain ⟨x, y, c⟩ := r
    obtain ⟨bx, by_, bc⟩ := nums_abs hn ok.dg
    simp only [hn] at h
    split at h
    · cases h
    · unfold wtQ at h
      split at h
      · next heq =>
        split at heq
        · cases heq
          cases h
          have h1 := abs_mul (Nat.le_of_lt bx) hq.d
          have h2 := abs_mul (Nat.le_of_lt (show (-y).natAbs < 10 ^ 501 by rw [Int.natAbs_neg]; exact by_)) hq.c
          have h3 := abs_mul hq.a (Nat.le_of_lt (show (-y).natAbs < 10 ^ 501 by rw [Int.natAbs_neg]; exact by_))
          have h4 := abs_mul hq.b (Nat.le_of_lt bx)
          have s1 := Int.natAbs_sub_le (x * q.2.2.2) (-y * q.2.2.1)
          have s2 := Int.natAbs_sub_le (q.1 * -y) (q.2.1 * x)
          have g1 := fdiv_abs (firQ q x (-y)) (dtQ q) hq.e
          have g2 := fdiv_abs (secQ q x (-y)) (dtQ q) hq.e
          have p : (10 : Nat) ^ 504 = 10 ^ 501 * 1000 := Nat.pow_add 10 501 3
          have p0 : 0 < (10 : Nat) ^ 501 := Nat.pow_pos (by decide)
          have f1 : (firQ q x (-y)).natAbs < 10 ^ 504 := by
            unfold firQ; rw [p]
            generalize (10 : Nat) ^ 501 = Z at *
            omega
          have f2 : (secQ q x (-y)).natAbs < 10 ^ 504 := by
            unfold secQ; rw [p]
            generalize (10 : Nat) ^ 501 = Z at *
            omega
          exact ⟨lt_570' (Nat.lt_of_le_of_lt g1 f1) (by omega), lt_570' (Nat.lt_of_le_of_lt g2 f2) (by omega), lt_570' bc (by omega)⟩
        · cases heq
      · cases h
theorem go_ok {q : Int × Int × Int × Int} (hq : AxOk q) : ∀ (r : List (List Nat)) (a : Nat) (F : List T3) (S : Int) (n : Nat), (∀ l ∈ r, LOk l) → F.length + r.length ≤ n → (∀ t ∈ F, t.1.natAbs < 10 ^ 570 ∧ t.2.1.natAbs < 10 ^ 570 ∧ t.2.2.natAbs < 10 ^ 570) →
    match goO q r a F S with
    | .tab G => G.length ≤ n ∧ ∀ t ∈ G, t.1.natAbs < 10 ^ 570 ∧ t.2.1.natAbs < 10 ^ 570 ∧ t.2.2.natAbs < 10 ^ 570
    | .bad k => k ≤ a + r.length
    | .out => True
  | [], a, F, S, n, _, _, _ => trivial
  | l :: r, a, F, S, n, ok, hn, hF => by
    unfold goO
    by_cases he : l = endS
    · rw [if_pos he]
      by_cases hr : r = []
      · rw [if_pos hr]; exact ⟨by omega, hF⟩
      · rw [if_neg hr]
        have : 0 < r.length := List.length_pos_iff.mpr hr
        show a + 1 ≤ a + (l :: r).length
        simp
    · rw [if_neg he]
      cases hd : rd q l with
      | none => show a ≤ _; omega
      | some t =>
        simp only []
        by_cases hb : (lastGe F t || decide (1000 < S + (t.2.2.natAbs : Int))) = true
        · rw [if_pos hb]
          show a ≤ _; omega
        · rw [if_neg hb]
          have := go_ok hq r (a + 1) (F ++ [t]) (S + t.2.2.natAbs) n (fun z hz => ok z (by simp [hz])) (by simp at hn ⊢; omega) (fun u hu => by
            rcases List.mem_append.mp hu with h | h
            · exact hF u h
            · simp at h; subst h; exact rd_ok hq (ok l (by simp)) hd)
          cases hg : goO q r (a + 1) (F ++ [t]) (S + t.2.2.natAbs) with
          | tab G => rw [hg] at this; exact this
          | bad k =>
            rw [hg] at this
            have h : k ≤ a + 1 + r.length := this
            show k ≤ a + (l :: r).length
            simp; omega
          | out => trivial
theorem repr_out {q : Int × Int × Int × Int} (hq : AxOk q) {T : List Nat} (ok : TOk T) (hn : (cutC 10 T).length ≤ 1000) : ∃ s, ∀ m, vReprS (outD (outT q T)) m = some (.str s, m) := by
  obtain ⟨l0, r, hc⟩ : ∃ l0 r, cutC 10 T = l0 :: r := by
    cases q : cutC 10 T with
    | nil => exact absurd q (cutC_ne _ _)
    | cons a b => exact ⟨a, b, rfl⟩
  have okl := ok.ok
  rw [hc] at hn okl
  have g := go_ok hq r 1 [] 0 1000 (fun l hl => okl l (by simp [hl])) (by simp at hn ⊢; omega) (fun t ht => by simp at ht)
  have sm : ∀ k, k ≤ 2000 → k < 10 ^ 570 := fun k h => Nat.lt_of_le_of_lt h (by decide +kernel)
  unfold outT
  rw [hc]
  simp only []
  split
  · cases ho : goO q r 1 [] 0 with
    | tab G =>
      rw [ho] at g
      exact repr_tab ⟨g.1, fun t ht => (g.2 t ht).1, fun t ht => (g.2 t ht).2.1, fun t ht => (g.2 t ht).2.2⟩
    | bad k =>
      rw [ho] at g
      have g : k ≤ 1 + r.length := g
      exact repr_bad (sm k (by simp at hn; omega))
    | out => exact repr_bad (sm _ (by simp at hn; omega))
  · exact repr_bad (k := 0) (sm 0 (by omega))
end K57

set_option Elab.async false
set_option linter.all false
set_option maxRecDepth 100000
set_option maxHeartbeats 4000000
set_option exponentiation.threshold 3000
namespace K57
open PySem PySem.Spec PyProof.Rows L2
open DL
/-! a picture is read back -/
theorem fir_sp (q : Int × Int × Int × Int) (A B : Int) : firQ q (spX q A B) (spY q A B) = dtQ q * A := by
  unfold firQ spX spY dtQ
  simp only [Int.sub_mul, Int.add_mul, Int.mul_assoc]
  have a1 : A * (q.1 * q.2.2.2) = q.1 * (q.2.2.2 * A) := by rw [← Int.mul_assoc, Int.mul_comm A, Int.mul_assoc, Int.mul_comm A]
  have a2 : A * (q.2.1 * q.2.2.1) = q.2.1 * (q.2.2.1 * A) := by rw [← Int.mul_assoc, Int.mul_comm A, Int.mul_assoc, Int.mul_comm A]
  have a3 : q.2.2.1 * q.2.2.2 = q.2.2.2 * q.2.2.1 := Int.mul_comm _ _
  rw [a1, a2, a3]; omega
theorem sec_sp (q : Int × Int × Int × Int) (A B : Int) : secQ q (spX q A B) (spY q A B) = dtQ q * B := by
  unfold secQ spX spY dtQ
  simp only [Int.sub_mul, Int.mul_add, Int.mul_assoc]
  have a1 : q.1 * (A * q.2.1) = q.2.1 * (A * q.1) := by rw [← Int.mul_assoc, Int.mul_comm, Int.mul_comm q.1]
  have a2 : q.1 * (B * q.2.2.2) = q.1 * (q.2.2.2 * B) := by rw [Int.mul_comm B]
  have a3 : q.2.1 * (B * q.2.2.1) = q.2.1 * (q.2.2.1 * B) := by rw [Int.mul_comm B]
  rw [a1, a2, a3]; omega
theorem wt_sp {q : Int × Int × Int × Int} (hq : AxOk q) (A B : Int) : wtQ q (spX q A B) (spY q A B) = some (A, B) := by
  have h0 : dtQ q ≠ 0 := hq.e
  unfold wtQ
  rw [fir_sp, sec_sp, if_pos ⟨Int.mul_fmod_right _ _, Int.mul_fmod_right _ _⟩, Int.mul_fdiv_cancel_left _ h0, Int.mul_fdiv_cancel_left _ h0]
theorem lineP_lens {q : Int × Int × Int × Int} (hq : AxOk q) {P : List T3} (h : PTab P) {t : T3} (ht : t ∈ P) : (strI (spX q t.1 t.2.1)).length ≤ 105 ∧ (strI (-spY q t.1 t.2.1)).length ≤ 105 ∧ (strI t.2.2).length ≤ 5 := by
  obtain ⟨sx, sy⟩ := sp_abs hq (h.a t ht) (h.b t ht)
  exact ⟨strI_len (k := 104) (by decide) sx, strI_len (k := 104) (by decide) (by rw [Int.natAbs_neg]; exact sy), strI_len (k := 4) (by decide) (Nat.lt_of_le_of_lt (h.c t ht) (by decide))⟩
theorem rd_lineP {q : Int × Int × Int × Int} (hq : AxOk q) {P : List T3} (h : PTab P) {t : T3} (ht : t ∈ P) : rd q (lineP q t) = some t := by
  obtain ⟨l1, l2, l3⟩ := lineP_lens hq h ht
  have n := nums_line (x := spX q t.1 t.2.1) (y := -spY q t.1 t.2.1) (c := t.2.2) (by omega) (by omega) (by omega)
  have nz := h.ok.nz t ht
  unfold rd lineP
  rw [n]
  simp only [if_neg nz, Int.neg_neg, wt_sp hq]
theorem lineP_end (q : Int × Int × Int × Int) (t : T3) : lineP q t ≠ endS := by
  unfold lineP lineL endS M0
  simp
theorem go_back {q : Int × Int × Int × Int} (hq : AxOk q) {P : List T3} (h : PTab P) : ∀ (rest done : List T3) (a : Nat), P = done ++ rest → goO q (rest.map (lineP q) ++ [endS]) a done (sumA done) = .tab P
  | [], done, a, e => by
    simp only [List.map_nil, List.nil_append]
    unfold goO
    rw [if_pos rfl, if_pos rfl, e, List.append_nil]
  | t :: r, done, a, e => by
    have ht : t ∈ P := by rw [e]; simp
    simp only [List.map_cons, List.cons_append]
    unfold goO
    rw [if_neg (lineP_end q t), rd_lineP hq h ht]
    simp only []
    have lg : lastGe done t = false := by
      unfold lastGe
      cases hd : done.getLast? with
      | none => rfl
      | some u =>
        have hu : u ∈ done := List.mem_of_getLast? hd
        have s := h.ok.srt
        rw [e, List.pairwise_append] at s
        have := s.2.2 u hu t (by simp)
        unfold lt3 at this
        simp only [leI2, this, Bool.not_true]
    have sm : sumA (done ++ [t]) = sumA done + t.2.2.natAbs := by rw [sumA_app]; simp [sumA]
    have le : sumA done + (t.2.2.natAbs : Int) ≤ 1000 := by
      have := h.ok.sum
      rw [e, sumA_app] at this
      have n := sumA_nn r
      have : sumA (t :: r) = t.2.2.natAbs + sumA r := rfl
      omega
    have d0 : decide (1000 < sumA done + (t.2.2.natAbs : Int)) = false := decide_eq_false (by omega)
    rw [if_neg (by rw [lg, d0]; simp), ← sm]
    exact go_back hq h r (done ++ [t]) (a + 1) (by rw [e]; simp)
theorem strI_okC (i : Int) : okC (strI i) = true := List.all_eq_true.mpr fun c hc => by
  rcases strI_sign i c hc with h | h <;> simp <;> omega
theorem lineP_J {q : Int × Int × Int × Int} (hq : AxOk q) {P : List T3} (h : PTab P) {t : T3} (ht : t ∈ P) : J 220 300 (lineP q t) := by
  obtain ⟨l1, l2, l3⟩ := lineP_lens hq h ht
  have d1 := dg_le (strI (spX q t.1 t.2.1))
  have d2 := dg_le (strI (-spY q t.1 t.2.1))
  have d3 := dg_le (strI t.2.2)
  have g0 : dg M0 = 0 := rfl
  have g1 : dg M1 = 0 := rfl
  have g2 : dg M2 = 0 := rfl
  have g3 : dg M3 = 0 := rfl
  have n0 : M0.length = 9 := rfl
  have n1 : M1.length = 5 := rfl
  have n2 : M2.length = 2 := rfl
  have n3 : M3.length = 7 := rfl
  have c0 : okC M0 = true := rfl
  have c1 : okC M1 = true := rfl
  have c2 : okC M2 = true := rfl
  have c3 : okC M3 = true := rfl
  have dd : dg (lineP q t) ≤ 220 := by
    unfold lineP lineL
    simp only [dg_app, g0, g1, g2, g3]; omega
  refine ⟨.inr dd, by omega, ?_, ?_⟩
  · unfold lineP lineL
    simp only [List.length_append, n0, n1, n2, n3]; omega
  · unfold lineP lineL
    simp only [okC_app, c0, c1, c2, c3, strI_okC]; rfl
theorem lns_J {q : Int × Int × Int × Int} (hq : AxOk q) {P : List T3} (h : PTab P) : ∀ l ∈ lns q P, J 220 300 l := fun l hl => by
  unfold lns at hl
  rcases List.mem_cons.mp hl with rfl | hl
  · exact ⟨.inr (by rw [show dg headS = 17 from rfl]; omega), by rw [show dg headS = 17 from rfl]; omega, by rw [show headS.length = 68 from rfl]; omega, rfl⟩
  · rcases List.mem_append.mp hl with hl | hl
    · obtain ⟨t, ht, rfl⟩ := List.mem_map.mp hl
      exact lineP_J hq h ht
    · simp at hl; subst hl
      exact ⟨.inr (by rw [show dg endS = 0 from rfl]; omega), by rw [show dg endS = 0 from rfl]; omega, by rw [show endS.length = 6 from rfl]; omega, rfl⟩
theorem text_TJ {q : Int × Int × Int × Int} (hq : AxOk q) {P : List T3} (h : PTab P) : TJ 220 300 9 (textL q P) := TJ_join (lns_J hq h) (by have := h.n; simp [lns]; omega) (by omega)
theorem text_back {q : Int × Int × Int × Int} (hq : AxOk q) {P : List T3} (h : PTab P) : outT q (textL q P) = .tab P := by
  have e : cutC 10 (textL q P) = lns q P := cutC_of (by simp [lns]) fun l hl => (lns_J hq h l hl).nl
  have g := go_back hq h P [] 1 rfl
  unfold outT
  rw [e]
  unfold lns
  simp only [if_pos]
  have : sumA [] = 0 := rfl
  rw [this] at g
  rw [g]
theorem okC_small {T : List Nat} {b n k : Nat} (h : TJ b n k T) : ∀ c ∈ T, c < 16 ^ 8 := fun c hc => by
  have all : ∀ L : List (List Nat), (∀ l ∈ L, J b n l) → ∀ c ∈ joinN [10] L, c < 128 := fun L => by
    induction L with
    | nil => intro _ c hc; simp [joinN] at hc
    | cons l r ih =>
      intro hL c hc
      have jl : ∀ c ∈ l, c < 128 := fun c hc => by
        have := List.all_eq_true.mp (hL l (by simp)).c c hc
        simp at this; exact this.1
      cases r with
      | nil => simp only [joinN] at hc; exact jl c hc
      | cons u s =>
        simp only [joinN, List.mem_append, List.mem_cons, List.not_mem_nil, or_false] at hc
        rcases hc with hc | hc | hc
        · exact jl c hc
        · omega
        · exact ih (fun z hz => hL z (by simp [hz])) c hc
  have := all (cutC 10 T) h.j c (by rw [cutC_join]; exact hc)
  exact Nat.lt_trans this (by decide)
theorem PTab.g {P : List T3} (h : PTab P) : GOk P :=
  ⟨by have := h.n; omega, fun t ht => le_570 (h.a t ht) (by omega), fun t ht => le_570 (h.b t ht) (by omega), fun t ht => c_lt (h.c t ht)⟩
def mts : List (Int × Int) := [(0, 0), (-1, -1), (-1, -2), (-2, -1), (-3, -1), (-1, -3)]
def matsD : List D := mts.map fun z => mat z.1 z.2
end K57

set_option Elab.async false
set_option linter.all false
set_option maxRecDepth 100000
set_option maxHeartbeats 4000000
namespace K57
open PySem PySem.Spec PyProof.Rows L2
open DL
theorem pick_mat {m : Mem} {w N : Nat} (hw : Well m w N) (hN : N < 2 ^ 60) : ∃ x y m', (x, y) ∈ ms ∧ callS F__law_pick [.ref w, .tup matsD] m = .ok (mat x y) m' ∧ Well m' w (N + 1) ∧ DL.Fr w m m' := by
  obtain ⟨v, m', hv, e, w', f'⟩ := pick_spec (xs := matsD) hw (by simp [matsD, mts]) (by simp [matsD, mts]) (by omega)
  obtain ⟨z, hz, rfl⟩ := List.mem_map.mp hv
  exact ⟨z.1, z.2, m', hz, e, w', f'⟩
theorem right_spec {m : Mem} {w : Nat} (hw : Well m w 0) : Givs F__law_is_right [.ref w] m fun d _ => d = .bl true := by
  unfold Givs
  rw [callS_mem rfl]
  show Ret (b__law_is_right [some (.ref w), none, none, none, none, none, none, none, none] m) _
  unfold b__law_is_right
  refine Ret.seq1 (ρ1 := [some (.ref w), some (.tup matsD), none, none, none, none, none, none, none]) (m1 := m) (by rfl) ?_
  obtain ⟨x, y, m1, hz, e1, w1, f1⟩ := pick_mat hw (by omega)
  obtain ⟨d, m2, e2, P, rfl, hP, w2, f2⟩ := drawn_spec w1 (by omega)
  refine Ret.seq1 (ρ1 := [some (.ref w), some (.tup matsD), some (mat x y), some (.tup (P.map pr)), none, none, none, none, none]) (m1 := m2) (by simp [e1, e2]) ?_
  have hq := ax_ok hz
  generalize hT : textL (ax (x, y)) P = T
  have lt := fun m => law_text hz hP m
  have pc := fun m => picture hz hP m
  rw [hT] at lt pc
  refine Ret.seq1 (ρ1 := [some (.ref w), some (.tup matsD), some (mat x y), some (.tup (P.map pr)), some (.str T), none, none, none, none]) (m1 := m2) (by simp [lt]) ?_
  refine Ret.seq1 (ρ1 := [some (.ref w), some (.tup matsD), some (mat x y), some (.tup (P.map pr)), some (.str T), some (.str T), none, none, none]) (m1 := m2) (by simp [pc]) ?_
  have tj : TJ 220 300 9 T := hT ▸ text_TJ hq hP
  have tok := tj.ok (by omega) (by omega) (by omega)
  have hd := fun m => heard hz tok m
  have tb : outT (ax (x, y)) T = .tab P := hT ▸ text_back hq hP
  rw [tb] at hd
  have tl := tj.len
  obtain ⟨s1, r1⟩ := repr_str (T := T) (by omega) (okC_small tj)
  obtain ⟨s2, r2⟩ := repr_tab hP.g
  refine Ret.seq1 (skip_if (by simp [hd, r1, r2, outD])) ?_
  let I : Nat → DL.Env → Mem → Prop := fun i ρ m' => (∃ c6 c7, ρ = [some (.ref w), some (.tup matsD), some (mat x y), some (.tup (P.map pr)), some (.str T), some (.str T), c6, c7, none]) ∧ Well m' w (1001 + 100 * i)
  refine Ret.seq (I 3) ?_ ?_
  · rw [sFor_rg1 (j := 3) (m1 := m2) (by simp) (rgOk_of (by omega) (by omega))]
    rw [show (3 : Int).toNat = 3 from rfl]
    refine Nxs.go I (by omega) ⟨⟨none, none, rfl⟩, w2.mono (by omega)⟩ (fun _ _ _ => rgN_end) ?_
    rintro i ρ m3 hi ⟨⟨c6, c7, rfl⟩, w3⟩
    refine ⟨_, _, rgN_lt hi, rfl, ?_⟩
    simp only [setsD_cons, setsD_nil, List.set_cons_succ, List.set_cons_zero]
    obtain ⟨d, m4, e4, B1, rfl, tj1, w4, f4⟩ := bent hz w3 tj (by omega) (by omega) (by omega) (by omega) (by omega) (by omega)
    refine Nxs.seq1 (ρ1 := [some (.ref w), some (.tup matsD), some (mat x y), some (.tup (P.map pr)), some (.str T), some (.str T), some (.int (0 + (i : Int) * 1)), some (.str B1), none]) (m1 := m4) (by simp [e4]) ?_
    obtain ⟨g, m5, e5, g0, g1, w5, f5⟩ := draw_spec (most := 4) w4 (by omega) (by omega) (by omega)
    refine Nxs.seq (fun ρ m' => ∃ B, ρ = [some (.ref w), some (.tup matsD), some (mat x y), some (.tup (P.map pr)), some (.str T), some (.str T), some (.int (0 + (i : Int) * 1)), some (.str B), none] ∧ TJ 228 1260 11 B ∧ Well m' w (1001 + 100 * i + 60)) ?_ ?_
    · by_cases hg : g = 0
      · subst hg
        obtain ⟨d, m6, e6, B2, rfl, tj2, w6, f6⟩ := bent hz w5 tj1 (by omega) (by omega) (by omega) (by omega) (by omega) (by omega)
        refine Nxs.mk (m1 := m6) (ρ1 := [some (.ref w), some (.tup matsD), some (mat x y), some (.tup (P.map pr)), some (.str T), some (.str T), some (.int (0 + (i : Int) * 1)), some (.str B2), none]) (by simp [e5, e6]) ⟨B2, rfl, tj2, w6.mono (by omega)⟩
      · have hg' : (g == 0) = false := by simpa using hg
        refine Nxs.mk (m1 := m5) (ρ1 := [some (.ref w), some (.tup matsD), some (mat x y), some (.tup (P.map pr)), some (.str T), some (.str T), some (.int (0 + (i : Int) * 1)), some (.str B1), none]) (by simp [e5, hg']) ⟨B1, rfl, tj1.mono (by omega) (by omega) (by omega), w5.mono (by omega)⟩
    · rintro ρ m6 ⟨B, rfl, tjB, w6⟩
      have tokB := tjB.ok (by omega) (by omega) (by omega)
      have h1 := fun m => heard hz tokB m
      have h2 := fun m => law_read hz tokB m
      obtain ⟨s, rs⟩ := repr_out hq tokB (by have := tjB.k; omega)
      exact Nxs.mk (skip_if (by simp [h1, h2, rs])) ⟨⟨_, _, rfl⟩, w6.mono (by omega)⟩
  · rintro ρ m3 ⟨⟨c6, c7, rfl⟩, w3⟩
    obtain ⟨x', y', m4, hz', e4, w4, f4⟩ := pick_mat w3 (by omega)
    have h1 := fun m => heard hz' tok m
    have h2 := fun m => law_read hz' tok m
    obtain ⟨s, rs⟩ := repr_out (ax_ok hz') tok (by have := tj.k; omega)
    refine Ret.seq1 (ρ1 := [some (.ref w), some (.tup matsD), some (mat x y), some (.tup (P.map pr)), some (.str T), some (.str T), c6, c7, some (mat x' y')]) (m1 := m4) (by simp [e4]) ?_
    exact Ret.mk (d := .bl true) (m1 := m4) (by simp [h1, h2, rs]) rfl
theorem sh_well {m : Mem} {w N : Nat} (h : Well m w N) : Well (m.map (MO.sh 0)) w N := by
  obtain ⟨a, b, c, g, gs, e1, e2, e3, e4⟩ := h.ex
  have si : ∀ gs : List Int, D.shs 0 (gs.map .int) = gs.map .int := fun gs => by
    induction gs with
    | nil => rfl
    | cons x r ih => simp only [List.map_cons, D.shs, ih]; rfl
  refine ⟨a, b, c, g, gs, ?_, ?_, e3, e4⟩
  · rw [List.getElem?_map, e1]
    simp [MO.sh, D.shs, D.sh]
  · rw [List.getElem?_map, e2]
    simp [MO.sh, si]
theorem law_holds (ns : List Int) : ∃ m, F_law [.rol (ns.map .int)] [] = .ok (.bl true) m := by
  show ∃ m, retF (b_law [some (.rol (ns.map .int))] []) = _
  obtain ⟨m, e, hw⟩ := well_spec ns
  have hp : D.pures [.rol (ns.map .int)] = true := by
    simp only [pures_cons, pure_rol, pures_nil, Bool.and_true]
    exact pures_map fun _ _ => rfl
  have c := callS_ref (m := []) hp e
  obtain ⟨d, m2, e2, rfl⟩ := right_spec (sh_well hw)
  refine ⟨m2, ?_⟩
  have e2 : callS F__law_is_right [.ref (List.length ([] : Mem) + 3)] ([] ++ m.map (MO.sh (List.length ([] : Mem)))) = .ok (.bl true) m2 := e2
  simp only [b_law, sRet_ap, eFn_ap, aCons_ap, eVar_z, aNil_ap, Res.bind_ok, c, e2]
  rfl
end K57

set_option Elab.async false
set_option linter.all false
set_option maxRecDepth 100000
set_option maxHeartbeats 4000000
namespace K57
open PySem PySem.Spec PyProof.Rows L2 DL
section
variable {P : Program} {w : World} {K : PySem.W.Frag} {mg : Str → Option Value} {base : Heap} {p : Pr} {veB veN veI : String} {veL : List Value}
theorem sc_is_whole : FnScope N_is_whole ["value"] (defScope s_is_whole) := ⟨rfl, rfl, rfl, by decide +kernel, rfl, by decide +kernel, by decide +kernel⟩
theorem d_is_whole
    (m_bool : mg "bool" = none)
    (m_int : mg "int" = none)
    (m_isinstance : mg "isinstance" = none)
    (U : UDef K mg "is_whole" s_is_whole) : DefOk p P w K mg base "is_whole" s_is_whole ["value"] 1 F_is_whole := by
  have sc := sc_is_whole
  refine def_mk (k := 0) U sc (fun _ _ _ _ _ _ us hl => match us, hl with | [_], _ => rfl) fun f cdv A outer s H E hr => ?_
  have tk := takes_of (X := cxOf (L2.CX P w) P w K mg base N_is_whole "is_whole" (defScope s_is_whole) f cdv A outer s H E) rfl rfl rfl rfl
  exact (fss_one (fs_ret (fe_and (fe_isi 2 (fe_var 0) (hm := m_isinstance) (hmT := m_int)) (fe_one (fe_not (fe_isi 1 (fe_var 0) (hm := m_isinstance) (hmT := m_bool)))))))
theorem sc_is_row_of : FnScope N_is_row_of ["value", "many"] (defScope s_is_row_of) := ⟨rfl, rfl, rfl, by decide +kernel, rfl, by decide +kernel, by decide +kernel⟩
theorem d_is_row_of
    (D_is_whole : DefOk p P w K mg base "is_whole" s_is_whole ["value"] 1 F_is_whole)
    (m_all : mg "all" = none)
    (m_isinstance : mg "isinstance" = none)
    (m_len : mg "len" = none)
    (m_tuple : mg "tuple" = none)
    (U : UDef K mg "is_row_of" s_is_row_of) : DefOk p P w K mg base "is_row_of" s_is_row_of ["value", "many"] 2 F_is_row_of := by
  have sc := sc_is_row_of
  refine def_mk (k := 1) U sc (fun _ _ _ _ _ _ us hl => match us, hl with | [_, _], _ => rfl) fun f cdv A outer s H E hr => ?_
  have tk := takes_of (X := cxOf (L2.CX P w) P w K mg base N_is_row_of "is_row_of" (defScope s_is_row_of) f cdv A outer s H E) rfl rfl rfl rfl
  exact (fss_one (fs_ret (fe_and (fe_isi 4 (fe_var 0) (hm := m_isinstance) (hmT := m_tuple)) (fe_and (fe_cmp (fo_eq (Room.u64 hr)) (fe_callB fc_len m_len (by rfl) (fa_cons (fe_var 0) fa_nil)) (fe_var 1)) (fe_one (fe_callLB (cl_all rfl) m_all (by rfl) (fl_new (fn_lcV (own := [("each", 2)]) rfl sc.nd (fe_var 0) (blkOk_by (by kernel_rfl)) (fun _ _ _ _ _ => (fp_name 2 sc.nd)) (fun _ _ _ _ _ => fts_nil) (fun _ _ _ _ _ => (fe_fn D_is_whole takes0 (hr.mono (by decide)) (fa_cons (fe_var 2) fa_nil)))))))))))
theorem sc_is_cartan : FnScope N_is_cartan ["value"] (defScope s_is_cartan) := ⟨rfl, rfl, rfl, by decide +kernel, rfl, by decide +kernel, by decide +kernel⟩
theorem d_is_cartan
    (D_is_row_of : DefOk p P w K mg base "is_row_of" s_is_row_of ["value", "many"] 2 F_is_row_of)
    (c_MOST_NODES : ∃ t, mg "MOST_NODES" = some (.int 8 t))
    (m_all : mg "all" = none)
    (m_enumerate : mg "enumerate" = none)
    (m_isinstance : mg "isinstance" = none)
    (m_len : mg "len" = none)
    (m_tuple : mg "tuple" = none)
    (U : UDef K mg "is_cartan" s_is_cartan) : DefOk p P w K mg base "is_cartan" s_is_cartan ["value"] 3 F_is_cartan := by
  have sc := sc_is_cartan
  refine def_mk (k := 2) U sc (fun _ _ _ _ _ _ us hl => match us, hl with | [_], _ => rfl) fun f cdv A outer s H E hr => ?_
  have tk := takes_of (X := cxOf (L2.CX P w) P w K mg base N_is_cartan "is_cartan" (defScope s_is_cartan) f cdv A outer s H E) rfl rfl rfl rfl
  exact (fss_cons (fs_if (FW.ft (fw_or (ft_not (ft_tru (fe_isi 4 (fe_var 0) (hm := m_isinstance) (hmT := m_tuple)))) (fw_or1 (ft_not (ft_chain fo_le fo_le fe_int (fe_callB fc_len m_len (by rfl) (fa_cons (fe_var 0) fa_nil)) (fe_ki c_MOST_NODES)))))) (fss_one (fs_ret fe_bl)) fss_nil)
    (fss_cons (fs_if (ft_not (ft_tru (fe_callLB (cl_all rfl) m_all (by rfl) (fl_new (fn_lcV (own := [("row", 2)]) rfl sc.nd (fe_var 0) (blkOk_by (by kernel_rfl)) (fun _ _ _ _ _ => (fp_name 2 sc.nd)) (fun _ _ _ _ _ => fts_nil) (fun _ _ _ _ _ => (fe_fn D_is_row_of takes0 (hr.mono (by decide)) (fa_cons (fe_var 2) (fa_cons (fe_callB fc_len m_len (by rfl) (fa_cons (fe_var 0) fa_nil)) fa_nil))))))))) (fss_one (fs_ret fe_bl)) fss_nil)
    (fss_cons (fs_for (passes_of rfl) rfl (fi_en m_enumerate (fa_cons (fe_var 0) fa_nil)) (fp_tup rfl (fps_cons (fp_name 1 sc.nd) (fps_cons (fp_name 2 sc.nd) fps_nil))) (fss_one (fs_for (passes_of rfl) rfl (fi_en m_enumerate (fa_cons (fe_var 2) fa_nil)) (fp_tup rfl (fps_cons (fp_name 3 sc.nd) (fps_cons (fp_name 4 sc.nd) fps_nil))) (fss_one (fs_if (FW.ft (fw_or (FW.ft (fw_and (ft_cmp (fo_eq (Room.u64 hr)) (fe_var 1) (fe_var 3)) (fw_and1 (ft_cmp (fo_ne (Room.u64 hr)) (fe_var 4) fe_int)))) (fw_or1 (FW.ft (fw_and (ft_cmp (fo_ne (Room.u64 hr)) (fe_var 1) (fe_var 3)) (fw_and1 (FW.ft (fw_or (ft_cmp fo_gt (fe_var 4) fe_int) (fw_or1 (ft_cmp (fo_ne (Room.u64 hr)) (fe_cmp (fo_eq (Room.u64 hr)) (fe_var 4) fe_int) (fe_cmp (fo_eq (Room.u64 hr)) (fe_ix (fo_ix (Room.u1 hr)) (fe_ix (fo_ix (Room.u1 hr)) (fe_var 0) (fe_var 3)) (fe_var 1)) fe_int))))))))))) (fss_one (fs_ret fe_bl)) fss_nil)))))
    (fss_one (fs_ret fe_bl)))))
theorem sc_joined_to : FnScope N_joined_to ["matrix", "node"] (defScope s_joined_to) := ⟨rfl, rfl, rfl, by decide +kernel, rfl, by decide +kernel, by decide +kernel⟩
theorem d_joined_to
    (m_enumerate : mg "enumerate" = none)
    (m_sorted : mg "sorted" = none)
    (m_tuple : mg "tuple" = none)
    (U : UDef K mg "joined_to" s_joined_to) : DefOk p P w K mg base "joined_to" s_joined_to ["matrix", "node"] 1 F_joined_to := by
  have sc := sc_joined_to
  refine def_mk (k := 0) U sc (fun _ _ _ _ _ _ us hl => match us, hl with | [_, _], _ => rfl) fun f cdv A outer s H E hr => ?_
  have tk := takes_of (X := cxOf (L2.CX P w) P w K mg base N_joined_to "joined_to" (defScope s_joined_to) f cdv A outer s H E) rfl rfl rfl rfl
  exact (fss_cons (fs_par 2 3 rfl sc.nd (fe_dict1K (fe_var 1) fe_bl) (fe_lst (fa_cons (fe_var 1) fa_nil)))
    (fss_cons (fs_while 1000 (passes_of rfl) (ft_cmp (fo_ne (Room.u64 hr)) (fe_var 3) (fe_lst fa_nil)) (fss_cons (fs_set 4 sc.nd (fe_mt0 PySem.F.plainAttrs_list PySem.F.slot_list_pop PySem.F.type_list_pop fm_pop (fe_var 3)))
    (fss_one (fs_for (passes_of rfl) rfl (fi_en m_enumerate (fa_cons (fe_ix (fo_ix (Room.u1 hr)) (fe_var 0) (fe_var 4)) fa_nil)) (fp_tup rfl (fps_cons (fp_name 5 sc.nd) (fps_cons (fp_name 6 sc.nd) fps_nil))) (fss_one (fs_if (FW.ft (fw_and (ft_cmp (fo_ne (Room.u64 hr)) (fe_var 6) fe_int) (fw_and1 (ft_cmp (fo_notIn (Room.u65 hr)) (fe_var 5) (fe_var 2))))) (fss_cons (fs_asg fe_bl (fg_ix (W := WN) (Room.u1 hr) (fe_var 2) (fe_var 5)))
    (fss_one (fs_exp (fe_mt PySem.F.plainAttrs_list PySem.F.slot_list_append PySem.F.type_list_append fm_app (fe_var 3) (fa_cons (fe_var 5) fa_nil))))) fss_nil))))))
    (fss_one (fs_ret (fe_callTy fc_tup m_tuple (by rfl) (fa_cons (fe_callB (fc_sorted rfl (Room.u66 hr)) m_sorted (by rfl) (fa_cons (fe_var 2) fa_nil)) fa_nil))))))
theorem sc_all_parts : FnScope N_all_parts ["matrix"] (defScope s_all_parts) := ⟨rfl, rfl, rfl, by decide +kernel, rfl, by decide +kernel, by decide +kernel⟩
theorem d_all_parts
    (D_joined_to : DefOk p P w K mg base "joined_to" s_joined_to ["matrix", "node"] 1 F_joined_to)
    (m_len : mg "len" = none)
    (m_range : mg "range" = none)
    (m_tuple : mg "tuple" = none)
    (U : UDef K mg "all_parts" s_all_parts) : DefOk p P w K mg base "all_parts" s_all_parts ["matrix"] 2 F_all_parts := by
  have sc := sc_all_parts
  refine def_mk (k := 1) U sc (fun _ _ _ _ _ _ us hl => match us, hl with | [_], _ => rfl) fun f cdv A outer s H E hr => ?_
  have tk := takes_of (X := cxOf (L2.CX P w) P w K mg base N_all_parts "all_parts" (defScope s_all_parts) f cdv A outer s H E) rfl rfl rfl rfl
  exact (fss_cons (fs_set 1 sc.nd (fe_lst fa_nil))
    (fss_cons (fs_for (passes_of rfl) rfl (fi_rg1 m_range (fa_cons (fe_callB fc_len m_len (by rfl) (fa_cons (fe_var 0) fa_nil)) fa_nil)) (fp_name 2 sc.nd) (fss_cons (fs_set 3 sc.nd (fe_fn D_joined_to tk (hr.mono (by decide)) (fa_cons (fe_var 0) (fa_cons (fe_var 2) fa_nil))))
    (fss_one (fs_if (ft_cmp (fo_eq (Room.u64 hr)) (fe_ix (fo_ix (Room.u1 hr)) (fe_var 3) fe_int) (fe_var 2)) (fss_one (fs_exp (fe_mt PySem.F.plainAttrs_list PySem.F.slot_list_append PySem.F.type_list_append fm_app (fe_var 1) (fa_cons (fe_var 3) fa_nil)))) fss_nil))))
    (fss_one (fs_ret (fe_callTy fc_tup m_tuple (by rfl) (fa_cons (fe_var 1) fa_nil))))))
theorem sc_matrix_at : FnScope N_matrix_at ["matrix", "nodes"] (defScope s_matrix_at) := ⟨rfl, rfl, rfl, by decide +kernel, rfl, by decide +kernel, by decide +kernel⟩
theorem d_matrix_at
    (m_tuple : mg "tuple" = none)
    (U : UDef K mg "matrix_at" s_matrix_at) : DefOk p P w K mg base "matrix_at" s_matrix_at ["matrix", "nodes"] 1 F_matrix_at := by
  have sc := sc_matrix_at
  refine def_mk (k := 0) U sc (fun _ _ _ _ _ _ us hl => match us, hl with | [_, _], _ => rfl) fun f cdv A outer s H E hr => ?_
  have tk := takes_of (X := cxOf (L2.CX P w) P w K mg base N_matrix_at "matrix_at" (defScope s_matrix_at) f cdv A outer s H E) rfl rfl rfl rfl
  exact (fss_one (fs_ret (fe_callLT cl_tup m_tuple (by rfl) (fl_new (fn_lcV (own := [("one", 2)]) rfl sc.nd (fe_var 1) (blkOk_by (by kernel_rfl)) (fun _ _ _ _ _ => (fp_name 2 sc.nd)) (fun _ _ _ _ _ => fts_nil) (fun _ _ _ _ _ => (fe_callLT cl_tup m_tuple (by rfl) (fl_new (fn_lcV (own := [("two", 3)]) rfl sc.nd (fe_var 1) (blkOk_by (by kernel_rfl)) (fun _ _ _ _ _ => (fp_name 3 sc.nd)) (fun _ _ _ _ _ => fts_nil) (fun _ _ _ _ _ => (fe_ix (fo_ix (Room.u1 hr)) (fe_ix (fo_ix (Room.u1 hr)) (fe_var 0) (fe_var 2)) (fe_var 3))))))))))))
theorem sc_dot : FnScope N_dot ["row", "vector"] (defScope s_dot) := ⟨rfl, rfl, rfl, by decide +kernel, rfl, by decide +kernel, by decide +kernel⟩
theorem d_dot
    (m_sum : mg "sum" = none)
    (m_zip : mg "zip" = none)
    (U : UDef K mg "dot" s_dot) : DefOk p P w K mg base "dot" s_dot ["row", "vector"] 1 F_dot := by
  have sc := sc_dot
  refine def_mk (k := 0) U sc (fun _ _ _ _ _ _ us hl => match us, hl with | [_, _], _ => rfl) fun f cdv A outer s H E hr => ?_
  have tk := takes_of (X := cxOf (L2.CX P w) P w K mg base N_dot "dot" (defScope s_dot) f cdv A outer s H E) rfl rfl rfl rfl
  exact (fss_one (fs_ret (fe_callLB (cl_sum rfl) m_sum (by rfl) (fl_new (fn_lc (own := [("one", 2), ("two", 3)]) rfl sc.nd (fi_zp m_zip (fa_cons (fe_var 0) (fa_cons (fe_var 1) fa_nil))) (blkOk_by (by kernel_rfl)) (fun _ _ _ _ _ => (fp_tup rfl (fps_cons (fp_name 2 sc.nd) (fps_cons (fp_name 3 sc.nd) fps_nil)))) (fun _ _ _ _ _ => fts_nil) (fun _ _ _ _ _ => (fe_op fo_mul (fe_var 2) (fe_var 3))))))))
theorem sc_product_by : FnScope N_product_by ["matrix", "vector"] (defScope s_product_by) := ⟨rfl, rfl, rfl, by decide +kernel, rfl, by decide +kernel, by decide +kernel⟩
theorem d_product_by
    (D_dot : DefOk p P w K mg base "dot" s_dot ["row", "vector"] 1 F_dot)
    (m_tuple : mg "tuple" = none)
    (U : UDef K mg "product_by" s_product_by) : DefOk p P w K mg base "product_by" s_product_by ["matrix", "vector"] 2 F_product_by := by
  have sc := sc_product_by
  refine def_mk (k := 1) U sc (fun _ _ _ _ _ _ us hl => match us, hl with | [_, _], _ => rfl) fun f cdv A outer s H E hr => ?_
  have tk := takes_of (X := cxOf (L2.CX P w) P w K mg base N_product_by "product_by" (defScope s_product_by) f cdv A outer s H E) rfl rfl rfl rfl
  exact (fss_one (fs_ret (fe_callLT cl_tup m_tuple (by rfl) (fl_new (fn_lcV (own := [("row", 2)]) rfl sc.nd (fe_var 0) (blkOk_by (by kernel_rfl)) (fun _ _ _ _ _ => (fp_name 2 sc.nd)) (fun _ _ _ _ _ => fts_nil) (fun _ _ _ _ _ => (fe_fn D_dot takes0 (hr.mono (by decide)) (fa_cons (fe_var 2) (fa_cons (fe_var 1) fa_nil)))))))))
theorem sc_small_vector : FnScope N_small_vector ["vector"] (defScope s_small_vector) := ⟨rfl, rfl, rfl, by decide +kernel, rfl, by decide +kernel, by decide +kernel⟩
theorem d_small_vector
    (g_gcd : mg "gcd" = some (.builtin "math.gcd"))
    (m_tuple : mg "tuple" = none)
    (U : UDef K mg "small_vector" s_small_vector) : DefOk p P w K mg base "small_vector" s_small_vector ["vector"] 1 F_small_vector := by
  have sc := sc_small_vector
  refine def_mk (k := 0) U sc (fun _ _ _ _ _ _ us hl => match us, hl with | [_], _ => rfl) fun f cdv A outer s H E hr => ?_
  have tk := takes_of (X := cxOf (L2.CX P w) P w K mg base N_small_vector "small_vector" (defScope s_small_vector) f cdv A outer s H E) rfl rfl rfl rfl
  exact (fss_cons (fs_set 1 sc.nd fe_int)
    (fss_cons (fs_forV (passes_of rfl) rfl (fe_var 0) (fp_name 2 sc.nd) (fss_one (fs_set 1 sc.nd (fe_callBf fc_gcd g_gcd (fa_cons (fe_var 1) (fa_cons (fe_var 2) fa_nil))))))
    (fss_one (fs_ret (fe_callLT cl_tup m_tuple (by rfl) (fl_new (fn_lcV (own := [("each", 2)]) rfl sc.nd (fe_var 0) (blkOk_by (by kernel_rfl)) (fun _ _ _ _ _ => (fp_name 2 sc.nd)) (fun _ _ _ _ _ => fts_nil) (fun _ _ _ _ _ => (fe_op fo_fdiv (fe_var 2) (fe_var 1))))))))))
theorem sc_sweep : FnScope N_sweep ["rows"] (defScope s_sweep) := ⟨rfl, rfl, rfl, by decide +kernel, rfl, by decide +kernel, by decide +kernel⟩
theorem d_sweep
    (m_len : mg "len" = none)
    (m_list : mg "list" = none)
    (m_range : mg "range" = none)
    (U : UDef K mg "sweep" s_sweep) : DefOk p P w K mg base "sweep" s_sweep ["rows"] 1 F_sweep := by
  have sc := sc_sweep
  refine def_mk (k := 0) U sc (fun _ _ _ _ _ _ us hl => match us, hl with | [_], _ => rfl) fun f cdv A outer s H E hr => ?_
  have tk := takes_of (X := cxOf (L2.CX P w) P w K mg base N_sweep "sweep" (defScope s_sweep) f cdv A outer s H E) rfl rfl rfl rfl
  exact (fss_cons (fs_asg (fe_tup (fa_cons (fe_new (fn_lcV (own := [("row", 8)]) rfl sc.nd (fe_var 0) (blkOk_by (by kernel_rfl)) (fun _ _ _ _ _ => (fp_name 8 sc.nd)) (fun _ _ _ _ _ => fts_nil) (fun _ _ _ _ _ => (fe_callTy fc_list m_list (by rfl) (fa_cons (fe_var 8) fa_nil))))) (fa_cons fe_int (fa_cons fe_int fa_nil)))) (fg_tup rfl (fgs_cons (fg_name 0 sc.nd) (fgs_cons (fg_name 1 sc.nd) (fgs_cons (fg_name 2 sc.nd) fgs_nil)))))
    (fss_cons (fs_set 3 sc.nd (fe_callB fc_len m_len (by rfl) (fa_cons (fe_var 0) fa_nil)))
    (fss_cons (fs_for (passes_of rfl) rfl (fi_rg1 m_range (fa_cons (fe_var 3) fa_nil)) (fp_name 4 sc.nd) (fss_cons (fs_setLc (own := [("to", 6)]) rfl sc.nd (i := 5) rfl rfl (sw_true rfl rfl rfl rfl) (fi_rg2 m_range (fa_cons (fe_var 4) (fa_cons (fe_var 3) fa_nil))) (blkOk_by (by kernel_rfl)) (fun _ _ _ _ _ => (fp_name 6 sc.nd)) (fun _ _ _ _ _ => (fts_one (ft_cmp (fo_ne (Room.u64 hr)) (fe_ix (fo_ix (Room.u1 hr)) (fe_ix (fo_ix (Room.u1 hr)) (fe_var 0) (fe_var 6)) (fe_var 4)) fe_int))) (fun _ _ _ _ _ => (fe_var 6)))
    (fss_cons (fs_if (ft_cmp (fo_eq (Room.u64 hr)) (fe_var 5) (fe_lst fa_nil)) (fss_one (fs_ret (fe_tup (fa_cons (fe_var 0) (fa_cons fe_int fa_nil))))) fss_nil)
    (fss_cons (fs_if (ft_cmp (fo_ne (Room.u64 hr)) (fe_ix (fo_ix (Room.u1 hr)) (fe_var 5) fe_int) (fe_var 4)) (fss_one (fs_asg (fe_tup (fa_cons (fe_ix (fo_ix (Room.u1 hr)) (fe_var 0) (fe_ix (fo_ix (Room.u1 hr)) (fe_var 5) fe_int)) (fa_cons (fe_ix (fo_ix (Room.u1 hr)) (fe_var 0) (fe_var 4)) (fa_cons (fe_un fu_neg (fe_var 1)) fa_nil)))) (fg_tup rfl (fgs_cons (fg_ix (W := WN) (Room.u1 hr) (fe_var 0) (fe_var 4)) (fgs_cons (fg_ix (W := WN) (Room.u1 hr) (fe_var 0) (fe_ix (fo_ix (Room.u1 hr)) (fe_var 5) fe_int)) (fgs_cons (fg_name 1 sc.nd) fgs_nil)))))) fss_nil)
    (fss_cons (fs_for (passes_of rfl) rfl (fi_rg2 m_range (fa_cons (fe_op fo_add (fe_var 4) fe_int) (fa_cons (fe_var 3) fa_nil))) (fp_name 6 sc.nd) (fss_cons (fs_for (passes_of rfl) rfl (fi_rg2 m_range (fa_cons (fe_op fo_add (fe_var 4) fe_int) (fa_cons (fe_var 3) fa_nil))) (fp_name 7 sc.nd) (fss_one (fs_asg (fe_op fo_fdiv (fe_op fo_sub (fe_op fo_mul (fe_ix (fo_ix (Room.u1 hr)) (fe_ix (fo_ix (Room.u1 hr)) (fe_var 0) (fe_var 6)) (fe_var 7)) (fe_ix (fo_ix (Room.u1 hr)) (fe_ix (fo_ix (Room.u1 hr)) (fe_var 0) (fe_var 4)) (fe_var 4))) (fe_op fo_mul (fe_ix (fo_ix (Room.u1 hr)) (fe_ix (fo_ix (Room.u1 hr)) (fe_var 0) (fe_var 6)) (fe_var 4)) (fe_ix (fo_ix (Room.u1 hr)) (fe_ix (fo_ix (Room.u1 hr)) (fe_var 0) (fe_var 4)) (fe_var 7)))) (fe_var 2)) (fg_ix (W := WN) (Room.u1 hr) (fe_ix (fo_ix (Room.u1 hr)) (fe_var 0) (fe_var 6)) (fe_var 7)))))
    (fss_one (fs_asg fe_int (fg_ix (W := WN) (Room.u1 hr) (fe_ix (fo_ix (Room.u1 hr)) (fe_var 0) (fe_var 6)) (fe_var 4))))))
    (fss_one (fs_set 2 sc.nd (fe_ix (fo_ix (Room.u1 hr)) (fe_ix (fo_ix (Room.u1 hr)) (fe_var 0) (fe_var 4)) (fe_var 4)))))))))
    (fss_one (fs_ret (fe_tup (fa_cons (fe_var 0) (fa_cons (fe_var 1) fa_nil))))))))
theorem sc_determinant_by : FnScope N_determinant_by ["matrix"] (defScope s_determinant_by) := ⟨rfl, rfl, rfl, by decide +kernel, rfl, by decide +kernel, by decide +kernel⟩
theorem d_determinant_by
    (D_sweep : DefOk p P w K mg base "sweep" s_sweep ["rows"] 1 F_sweep)
    (U : UDef K mg "determinant_by" s_determinant_by) : DefOk p P w K mg base "determinant_by" s_determinant_by ["matrix"] 2 F_determinant_by := by
  have sc := sc_determinant_by
  refine def_mk (k := 1) U sc (fun _ _ _ _ _ _ us hl => match us, hl with | [_], _ => rfl) fun f cdv A outer s H E hr => ?_
  have tk := takes_of (X := cxOf (L2.CX P w) P w K mg base N_determinant_by "determinant_by" (defScope s_determinant_by) f cdv A outer s H E) rfl rfl rfl rfl
  exact (fss_cons (fs_asg (fe_fn D_sweep tk (hr.mono (by decide)) (fa_cons (fe_var 0) fa_nil)) (fg_tup rfl (fgs_cons (fg_name 1 sc.nd) (fgs_cons (fg_name 2 sc.nd) fgs_nil))))
    (fss_one (fs_ret (fe_ifExp (ft_cmp (fo_ne (Room.u64 hr)) (fe_var 2) fe_int) (fe_op fo_mul (fe_var 2) (fe_ix (fo_ix (Room.u1 hr)) (fe_ix (fo_ix (Room.u1 hr)) (fe_var 1) (fe_un fu_neg fe_int)) (fe_un fu_neg fe_int))) fe_int))))
theorem sc_signs_of : FnScope N_signs_of ["vector"] (defScope s_signs_of) := ⟨rfl, rfl, rfl, by decide +kernel, rfl, by decide +kernel, by decide +kernel⟩
theorem d_signs_of
    (m_len : mg "len" = none)
    (U : UDef K mg "signs_of" s_signs_of) : DefOk p P w K mg base "signs_of" s_signs_of ["vector"] 1 F_signs_of := by
  have sc := sc_signs_of
  refine def_mk (k := 0) U sc (fun _ _ _ _ _ _ us hl => match us, hl with | [_], _ => rfl) fun f cdv A outer s H E hr => ?_
  have tk := takes_of (X := cxOf (L2.CX P w) P w K mg base N_signs_of "signs_of" (defScope s_signs_of) f cdv A outer s H E) rfl rfl rfl rfl
  exact (fss_cons (fs_setLcV (own := [("each", 2)]) rfl sc.nd (i := 1) rfl rfl (sw_true rfl rfl rfl rfl) (fe_var 0) (blkOk_by (by kernel_rfl)) (fun _ _ _ _ _ => (fp_name 2 sc.nd)) (fun _ _ _ _ _ => fts_nil) (fun _ _ _ _ _ => (fe_op fo_sub (fe_cmp fo_gt (fe_var 2) fe_int) (fe_cmp (fo_lt (Room.u0 hr)) (fe_var 2) fe_int))))
    (fss_one (fs_ret (fe_ifExp (ft_cmp (fo_eq (Room.u64 hr)) (fe_var 1) (fe_op fo_mul (fe_sl (fe_var 1) fpa_no (fpa_so fe_int)) (fe_callB fc_len m_len (by rfl) (fa_cons (fe_var 1) fa_nil)))) (fe_sl (fe_var 1) fpa_no (fpa_so fe_int)) (fe_lst fa_nil)))))
theorem sc_flat_vector : FnScope N_flat_vector ["matrix"] (defScope s_flat_vector) := ⟨rfl, rfl, rfl, by decide +kernel, rfl, by decide +kernel, by decide +kernel⟩
theorem d_flat_vector
    (D_determinant_by : DefOk p P w K mg base "determinant_by" s_determinant_by ["matrix"] 2 F_determinant_by)
    (m_len : mg "len" = none)
    (m_range : mg "range" = none)
    (m_tuple : mg "tuple" = none)
    (U : UDef K mg "flat_vector" s_flat_vector) : DefOk p P w K mg base "flat_vector" s_flat_vector ["matrix"] 3 F_flat_vector := by
  have sc := sc_flat_vector
  refine def_mk (k := 2) U sc (fun _ _ _ _ _ _ us hl => match us, hl with | [_], _ => rfl) fun f cdv A outer s H E hr => ?_
  have tk := takes_of (X := cxOf (L2.CX P w) P w K mg base N_flat_vector "flat_vector" (defScope s_flat_vector) f cdv A outer s H E) rfl rfl rfl rfl
  exact (fss_cons (fs_asg (fe_tup (fa_cons (fe_callB fc_len m_len (by rfl) (fa_cons (fe_var 0) fa_nil)) (fa_cons (fe_lst fa_nil) fa_nil))) (fg_tup rfl (fgs_cons (fg_name 1 sc.nd) (fgs_cons (fg_name 2 sc.nd) fgs_nil))))
    (fss_cons (fs_for (passes_of rfl) rfl (fi_rg1 m_range (fa_cons (fe_var 1) fa_nil)) (fp_name 3 sc.nd) (fss_cons (fs_setLcV (own := [("row", 5)]) rfl sc.nd (i := 4) rfl rfl (sw_true rfl rfl rfl rfl) (fe_sl (fe_var 0) (fpa_so fe_int) fpa_no) (blkOk_by (by kernel_rfl)) (fun _ _ _ _ _ => (fp_name 5 sc.nd)) (fun _ _ _ _ _ => fts_nil) (fun _ _ _ _ _ => (fe_new (fn_lc (own := [("by", 6)]) rfl sc.nd (fi_rg1 m_range (fa_cons (fe_var 1) fa_nil)) (blkOk_by (by kernel_rfl)) (fun _ _ _ _ _ => (fp_name 6 sc.nd)) (fun _ _ _ _ _ => (fts_one (ft_cmp (fo_ne (Room.u64 hr)) (fe_var 6) (fe_var 3)))) (fun _ _ _ _ _ => (fe_ix (fo_ix (Room.u1 hr)) (fe_var 5) (fe_var 6)))))))
    (fss_one (fs_exp (fe_mt PySem.F.plainAttrs_list PySem.F.slot_list_append PySem.F.type_list_append fm_app (fe_var 2) (fa_cons (fe_op fo_mul (fe_ifExp (ft_cmp (fo_eq (Room.u64 hr)) (fe_op fo_mod (fe_var 3) fe_int) fe_int) fe_int (fe_un fu_neg fe_int)) (fe_ifExp (ft_cmp (fo_ne (Room.u64 hr)) (fe_var 4) (fe_lst fa_nil)) (fe_fn D_determinant_by tk (hr.mono (by decide)) (fa_cons (fe_var 4) fa_nil)) fe_int)) fa_nil))))))
    (fss_one (fs_ret (fe_callTy fc_tup m_tuple (by rfl) (fa_cons (fe_var 2) fa_nil))))))
theorem sc_shown_part : FnScope N_shown_part ["matrix"] (defScope s_shown_part) := ⟨rfl, rfl, rfl, by decide +kernel, rfl, by decide +kernel, by decide +kernel⟩
theorem d_shown_part
    (D_determinant_by : DefOk p P w K mg base "determinant_by" s_determinant_by ["matrix"] 2 F_determinant_by)
    (D_flat_vector : DefOk p P w K mg base "flat_vector" s_flat_vector ["matrix"] 3 F_flat_vector)
    (D_product_by : DefOk p P w K mg base "product_by" s_product_by ["matrix", "vector"] 2 F_product_by)
    (D_signs_of : DefOk p P w K mg base "signs_of" s_signs_of ["vector"] 1 F_signs_of)
    (D_small_vector : DefOk p P w K mg base "small_vector" s_small_vector ["vector"] 1 F_small_vector)
    (m_abs : mg "abs" = none)
    (m_len : mg "len" = none)
    (m_tuple : mg "tuple" = none)
    (m_zip : mg "zip" = none)
    (U : UDef K mg "shown_part" s_shown_part) : DefOk p P w K mg base "shown_part" s_shown_part ["matrix"] 4 F_shown_part := by
  have sc := sc_shown_part
  refine def_mk (k := 3) U sc (fun _ _ _ _ _ _ us hl => match us, hl with | [_], _ => rfl) fun f cdv A outer s H E hr => ?_
  have tk := takes_of (X := cxOf (L2.CX P w) P w K mg base N_shown_part "shown_part" (defScope s_shown_part) f cdv A outer s H E) rfl rfl rfl rfl
  exact (fss_cons (fs_set 1 sc.nd (fe_fn D_flat_vector tk (hr.mono (by decide)) (fa_cons (fe_var 0) fa_nil)))
    (fss_cons (fs_if (FW.ft (fw_and (ft_cmp (fo_eq (Room.u64 hr)) (fe_fn D_determinant_by tk (hr.mono (by decide)) (fa_cons (fe_var 0) fa_nil)) fe_int) (fw_and1 (ft_cmp (fo_in (Room.u65 hr)) (fe_fn D_signs_of tk (hr.mono (by decide)) (fa_cons (fe_var 1) fa_nil)) (fe_tup (fa_cons (fe_lst (fa_cons fe_int fa_nil)) (fa_cons (fe_lst (fa_cons (fe_un fu_neg fe_int) fa_nil)) fa_nil))))))) (fss_one (fs_ret (fe_fn D_small_vector tk (hr.mono (by decide)) (fa_cons (fe_callLT cl_tup m_tuple (by rfl) (fl_new (fn_lcV (own := [("each", 3)]) rfl sc.nd (fe_var 1) (blkOk_by (by kernel_rfl)) (fun _ _ _ _ _ => (fp_name 3 sc.nd)) (fun _ _ _ _ _ => fts_nil) (fun _ _ _ _ _ => (fe_callB fc_abs m_abs (by rfl) (fa_cons (fe_var 3) fa_nil)))))) fa_nil)))) fss_nil)
    (fss_cons (fs_set 2 sc.nd (fe_op fo_mul (fe_tup (fa_cons fe_int fa_nil)) (fe_callB fc_len m_len (by rfl) (fa_cons (fe_var 0) fa_nil))))
    (fss_cons (fs_while 1000 (passes_of rfl) (ft_cmp (fo_notIn (Room.u65 hr)) (fe_fn D_signs_of tk (hr.mono (by decide)) (fa_cons (fe_fn D_product_by tk (hr.mono (by decide)) (fa_cons (fe_var 0) (fa_cons (fe_var 2) fa_nil))) fa_nil)) (fe_tup (fa_cons (fe_lst (fa_cons fe_int fa_nil)) (fa_cons (fe_lst (fa_cons (fe_un fu_neg fe_int) fa_nil)) fa_nil)))) (fss_one (fs_set 2 sc.nd (fe_fn D_small_vector tk (hr.mono (by decide)) (fa_cons (fe_callLT cl_tup m_tuple (by rfl) (fl_new (fn_lc (own := [("each", 3), ("turned", 4)]) rfl sc.nd (fi_zp m_zip (fa_cons (fe_var 2) (fa_cons (fe_fn D_product_by tk (hr.mono (by decide)) (fa_cons (fe_var 0) (fa_cons (fe_var 2) fa_nil))) fa_nil))) (blkOk_by (by kernel_rfl)) (fun _ _ _ _ _ => (fp_tup rfl (fps_cons (fp_name 3 sc.nd) (fps_cons (fp_name 4 sc.nd) fps_nil)))) (fun _ _ _ _ _ => fts_nil) (fun _ _ _ _ _ => (fe_op fo_sub (fe_op fo_mul fe_int (fe_var 3)) (fe_var 4)))))) fa_nil)))))
    (fss_one (fs_ret (fe_var 2)))))))
theorem sc_kind_of_part : FnScope N_kind_of_part ["matrix"] (defScope s_kind_of_part) := ⟨rfl, rfl, rfl, by decide +kernel, rfl, by decide +kernel, by decide +kernel⟩
theorem d_kind_of_part
    (D_product_by : DefOk p P w K mg base "product_by" s_product_by ["matrix", "vector"] 2 F_product_by)
    (D_shown_part : DefOk p P w K mg base "shown_part" s_shown_part ["matrix"] 4 F_shown_part)
    (D_signs_of : DefOk p P w K mg base "signs_of" s_signs_of ["vector"] 1 F_signs_of)
    (k_KINDS : KIntD K w mg "KINDS" t_KINDS)
    (U : UDef K mg "kind_of_part" s_kind_of_part) : DefOk p P w K mg base "kind_of_part" s_kind_of_part ["matrix"] 5 F_kind_of_part := by
  have sc := sc_kind_of_part
  refine def_mk (k := 4) U sc (fun _ _ _ _ _ _ us hl => match us, hl with | [_], _ => rfl) fun f cdv A outer s H E hr => ?_
  have tk := takes_of (X := cxOf (L2.CX P w) P w K mg base N_kind_of_part "kind_of_part" (defScope s_kind_of_part) f cdv A outer s H E) rfl rfl rfl rfl
  exact (fss_one (fs_ret (fe_kd k_KINDS (fe_ix (fo_ix (Room.u1 hr)) (fe_fn D_signs_of tk (hr.mono (by decide)) (fa_cons (fe_fn D_product_by tk (hr.mono (by decide)) (fa_cons (fe_var 0) (fa_cons (fe_fn D_shown_part tk (hr.mono (by decide)) (fa_cons (fe_var 0) fa_nil)) fa_nil))) fa_nil)) fe_int))))
theorem sc_all_kinds : FnScope N_all_kinds ["matrix"] (defScope s_all_kinds) := ⟨rfl, rfl, rfl, by decide +kernel, rfl, by decide +kernel, by decide +kernel⟩
theorem d_all_kinds
    (D_all_parts : DefOk p P w K mg base "all_parts" s_all_parts ["matrix"] 2 F_all_parts)
    (D_kind_of_part : DefOk p P w K mg base "kind_of_part" s_kind_of_part ["matrix"] 5 F_kind_of_part)
    (D_matrix_at : DefOk p P w K mg base "matrix_at" s_matrix_at ["matrix", "nodes"] 1 F_matrix_at)
    (m_tuple : mg "tuple" = none)
    (U : UDef K mg "all_kinds" s_all_kinds) : DefOk p P w K mg base "all_kinds" s_all_kinds ["matrix"] 6 F_all_kinds := by
  have sc := sc_all_kinds
  refine def_mk (k := 5) U sc (fun _ _ _ _ _ _ us hl => match us, hl with | [_], _ => rfl) fun f cdv A outer s H E hr => ?_
  have tk := takes_of (X := cxOf (L2.CX P w) P w K mg base N_all_kinds "all_kinds" (defScope s_all_kinds) f cdv A outer s H E) rfl rfl rfl rfl
  exact (fss_one (fs_ret (fe_callLT cl_tup m_tuple (by rfl) (fl_new (fn_lcV (own := [("part", 1)]) rfl sc.nd (fe_fn D_all_parts tk (hr.mono (by decide)) (fa_cons (fe_var 0) fa_nil)) (blkOk_by (by kernel_rfl)) (fun _ _ _ _ _ => (fp_name 1 sc.nd)) (fun _ _ _ _ _ => fts_nil) (fun _ _ _ _ _ => (fe_fn D_kind_of_part takes0 (hr.mono (by decide)) (fa_cons (fe_fn D_matrix_at takes0 (hr.mono (by decide)) (fa_cons (fe_var 0) (fa_cons (fe_var 1) fa_nil))) fa_nil))))))))
theorem sc_is_finite : FnScope N_is_finite ["matrix"] (defScope s_is_finite) := ⟨rfl, rfl, rfl, by decide +kernel, rfl, by decide +kernel, by decide +kernel⟩
theorem d_is_finite
    (D_all_kinds : DefOk p P w K mg base "all_kinds" s_all_kinds ["matrix"] 6 F_all_kinds)
    (m_all : mg "all" = none)
    (U : UDef K mg "is_finite" s_is_finite) : DefOk p P w K mg base "is_finite" s_is_finite ["matrix"] 7 F_is_finite := by
  have sc := sc_is_finite
  refine def_mk (k := 6) U sc (fun _ _ _ _ _ _ us hl => match us, hl with | [_], _ => rfl) fun f cdv A outer s H E hr => ?_
  have tk := takes_of (X := cxOf (L2.CX P w) P w K mg base N_is_finite "is_finite" (defScope s_is_finite) f cdv A outer s H E) rfl rfl rfl rfl
  exact (fss_one (fs_ret (fe_callLB (cl_all rfl) m_all (by rfl) (fl_new (fn_lcV (own := [("kind", 1)]) rfl sc.nd (fe_fn D_all_kinds tk (hr.mono (by decide)) (fa_cons (fe_var 0) fa_nil)) (blkOk_by (by kernel_rfl)) (fun _ _ _ _ _ => (fp_name 1 sc.nd)) (fun _ _ _ _ _ => fts_nil) (fun _ _ _ _ _ => (fe_cmp (fo_eq (Room.u64 hr)) (fe_var 1) (fe_str [102, 105, 110, 105, 116, 101] (by kernel_rfl)))))))))
theorem sc_is_weighted : FnScope N_is_weighted ["matrix", "value"] (defScope s_is_weighted) := ⟨rfl, rfl, rfl, by decide +kernel, rfl, by decide +kernel, by decide +kernel⟩
theorem d_is_weighted
    (D_is_row_of : DefOk p P w K mg base "is_row_of" s_is_row_of ["value", "many"] 2 F_is_row_of)
    (m_len : mg "len" = none)
    (U : UDef K mg "is_weighted" s_is_weighted) : DefOk p P w K mg base "is_weighted" s_is_weighted ["matrix", "value"] 3 F_is_weighted := by
  have sc := sc_is_weighted
  refine def_mk (k := 2) U sc (fun _ _ _ _ _ _ us hl => match us, hl with | [_, _], _ => rfl) fun f cdv A outer s H E hr => ?_
  have tk := takes_of (X := cxOf (L2.CX P w) P w K mg base N_is_weighted "is_weighted" (defScope s_is_weighted) f cdv A outer s H E) rfl rfl rfl rfl
  exact (fss_one (fs_ret (fe_fn D_is_row_of tk (hr.mono (by decide)) (fa_cons (fe_var 1) (fa_cons (fe_callB fc_len m_len (by rfl) (fa_cons (fe_var 0) fa_nil)) fa_nil)))))
theorem sc_is_counted : FnScope N_is_counted ["matrix", "value"] (defScope s_is_counted) := ⟨rfl, rfl, rfl, by decide +kernel, rfl, by decide +kernel, by decide +kernel⟩
theorem d_is_counted
    (D_is_weighted : DefOk p P w K mg base "is_weighted" s_is_weighted ["matrix", "value"] 3 F_is_weighted)
    (D_is_whole : DefOk p P w K mg base "is_whole" s_is_whole ["value"] 1 F_is_whole)
    (m_isinstance : mg "isinstance" = none)
    (m_len : mg "len" = none)
    (m_tuple : mg "tuple" = none)
    (U : UDef K mg "is_counted" s_is_counted) : DefOk p P w K mg base "is_counted" s_is_counted ["matrix", "value"] 4 F_is_counted := by
  have sc := sc_is_counted
  refine def_mk (k := 3) U sc (fun _ _ _ _ _ _ us hl => match us, hl with | [_, _], _ => rfl) fun f cdv A outer s H E hr => ?_
  have tk := takes_of (X := cxOf (L2.CX P w) P w K mg base N_is_counted "is_counted" (defScope s_is_counted) f cdv A outer s H E) rfl rfl rfl rfl
  exact (fss_cons (fs_if (FW.ft (fw_or (ft_not (ft_tru (fe_isi 4 (fe_var 1) (hm := m_isinstance) (hmT := m_tuple)))) (fw_or (ft_cmp (fo_ne (Room.u64 hr)) (fe_callB fc_len m_len (by rfl) (fa_cons (fe_var 1) fa_nil)) fe_int) (fw_or1 (ft_not (ft_tru (fe_fn D_is_weighted tk (hr.mono (by decide)) (fa_cons (fe_var 0) (fa_cons (fe_ix (fo_ix (Room.u1 hr)) (fe_var 1) fe_int) fa_nil))))))))) (fss_one (fs_ret fe_bl)) fss_nil)
    (fss_one (fs_ret (fe_and (fe_fn D_is_whole tk (hr.mono (by decide)) (fa_cons (fe_ix (fo_ix (Room.u1 hr)) (fe_var 1) fe_int) fa_nil)) (fe_one (fe_cmp (fo_ne (Room.u64 hr)) (fe_ix (fo_ix (Room.u1 hr)) (fe_var 1) fe_int) fe_int))))))
theorem sc_is_tabled : FnScope N_is_tabled ["matrix", "value"] (defScope s_is_tabled) := ⟨rfl, rfl, rfl, by decide +kernel, rfl, by decide +kernel, by decide +kernel⟩
theorem d_is_tabled
    (D_is_counted : DefOk p P w K mg base "is_counted" s_is_counted ["matrix", "value"] 4 F_is_counted)
    (m_all : mg "all" = none)
    (m_isinstance : mg "isinstance" = none)
    (m_tuple : mg "tuple" = none)
    (m_zip : mg "zip" = none)
    (U : UDef K mg "is_tabled" s_is_tabled) : DefOk p P w K mg base "is_tabled" s_is_tabled ["matrix", "value"] 5 F_is_tabled := by
  have sc := sc_is_tabled
  refine def_mk (k := 4) U sc (fun _ _ _ _ _ _ us hl => match us, hl with | [_, _], _ => rfl) fun f cdv A outer s H E hr => ?_
  have tk := takes_of (X := cxOf (L2.CX P w) P w K mg base N_is_tabled "is_tabled" (defScope s_is_tabled) f cdv A outer s H E) rfl rfl rfl rfl
  exact (fss_cons (fs_if (FW.ft (fw_or (ft_not (ft_tru (fe_isi 4 (fe_var 1) (hm := m_isinstance) (hmT := m_tuple)))) (fw_or1 (ft_not (ft_tru (fe_callLB (cl_all rfl) m_all (by rfl) (fl_new (fn_lcV (own := [("each", 2)]) rfl sc.nd (fe_var 1) (blkOk_by (by kernel_rfl)) (fun _ _ _ _ _ => (fp_name 2 sc.nd)) (fun _ _ _ _ _ => fts_nil) (fun _ _ _ _ _ => (fe_fn D_is_counted takes0 (hr.mono (by decide)) (fa_cons (fe_var 0) (fa_cons (fe_var 2) fa_nil)))))))))))) (fss_one (fs_ret fe_bl)) fss_nil)
    (fss_one (fs_ret (fe_callLB (cl_all rfl) m_all (by rfl) (fl_new (fn_lc (own := [("one", 3), ("two", 4)]) rfl sc.nd (fi_zp m_zip (fa_cons (fe_var 1) (fa_cons (fe_sl (fe_var 1) (fpa_so fe_int) fpa_no) fa_nil))) (blkOk_by (by kernel_rfl)) (fun _ _ _ _ _ => (fp_tup rfl (fps_cons (fp_name 3 sc.nd) (fps_cons (fp_name 4 sc.nd) fps_nil)))) (fun _ _ _ _ _ => fts_nil) (fun _ _ _ _ _ => (fe_cmp (fo_lt (Room.u0 hr)) (fe_ix (fo_ix (Room.u1 hr)) (fe_var 3) fe_int) (fe_ix (fo_ix (Room.u1 hr)) (fe_var 4) fe_int)))))))))
theorem sc_size_by : FnScope N_size_by ["table"] (defScope s_size_by) := ⟨rfl, rfl, rfl, by decide +kernel, rfl, by decide +kernel, by decide +kernel⟩
theorem d_size_by
    (m_abs : mg "abs" = none)
    (m_sum : mg "sum" = none)
    (U : UDef K mg "size_by" s_size_by) : DefOk p P w K mg base "size_by" s_size_by ["table"] 1 F_size_by := by
  have sc := sc_size_by
  refine def_mk (k := 0) U sc (fun _ _ _ _ _ _ us hl => match us, hl with | [_], _ => rfl) fun f cdv A outer s H E hr => ?_
  have tk := takes_of (X := cxOf (L2.CX P w) P w K mg base N_size_by "size_by" (defScope s_size_by) f cdv A outer s H E) rfl rfl rfl rfl
  exact (fss_one (fs_ret (fe_callLB (cl_sum rfl) m_sum (by rfl) (fl_new (fn_lcV (own := [("_", 1), ("many", 2)]) rfl sc.nd (fe_var 0) (blkOk_by (by kernel_rfl)) (fun _ _ _ _ _ => (fp_tup rfl (fps_cons (fp_name 1 sc.nd) (fps_cons (fp_name 2 sc.nd) fps_nil)))) (fun _ _ _ _ _ => fts_nil) (fun _ _ _ _ _ => (fe_callB fc_abs m_abs (by rfl) (fa_cons (fe_var 2) fa_nil))))))))
theorem sc_check_matrix : FnScope N_check_matrix ["value"] (defScope s_check_matrix) := ⟨rfl, rfl, rfl, by decide +kernel, rfl, by decide +kernel, by decide +kernel⟩
theorem d_check_matrix
    (D_is_cartan : DefOk p P w K mg base "is_cartan" s_is_cartan ["value"] 3 F_is_cartan)
    (U : UDef K mg "check_matrix" s_check_matrix) : DefOk p P w K mg base "check_matrix" s_check_matrix ["value"] 4 F_check_matrix := by
  have sc := sc_check_matrix
  refine def_mk (k := 3) U sc (fun _ _ _ _ _ _ us hl => match us, hl with | [_], _ => rfl) fun f cdv A outer s H E hr => ?_
  have tk := takes_of (X := cxOf (L2.CX P w) P w K mg base N_check_matrix "check_matrix" (defScope s_check_matrix) f cdv A outer s H E) rfl rfl rfl rfl
  exact (fss_one (fs_if (ft_not (ft_tru (fe_fn D_is_cartan tk (hr.mono (by decide)) (fa_cons (fe_var 0) fa_nil)))) (fss_one fs_never) fss_nil))
theorem sc_check_finite : FnScope N_check_finite ["value"] (defScope s_check_finite) := ⟨rfl, rfl, rfl, by decide +kernel, rfl, by decide +kernel, by decide +kernel⟩
theorem d_check_finite
    (D_check_matrix : DefOk p P w K mg base "check_matrix" s_check_matrix ["value"] 4 F_check_matrix)
    (D_is_finite : DefOk p P w K mg base "is_finite" s_is_finite ["matrix"] 7 F_is_finite)
    (U : UDef K mg "check_finite" s_check_finite) : DefOk p P w K mg base "check_finite" s_check_finite ["value"] 8 F_check_finite := by
  have sc := sc_check_finite
  refine def_mk (k := 7) U sc (fun _ _ _ _ _ _ us hl => match us, hl with | [_], _ => rfl) fun f cdv A outer s H E hr => ?_
  have tk := takes_of (X := cxOf (L2.CX P w) P w K mg base N_check_finite "check_finite" (defScope s_check_finite) f cdv A outer s H E) rfl rfl rfl rfl
  exact (fss_cons (fs_exp (fe_fn D_check_matrix tk (hr.mono (by decide)) (fa_cons (fe_var 0) fa_nil)))
    (fss_one (fs_if (ft_not (ft_tru (fe_fn D_is_finite tk (hr.mono (by decide)) (fa_cons (fe_var 0) fa_nil)))) (fss_one fs_never) fss_nil)))
theorem sc_check_small : FnScope N_check_small ["matrix"] (defScope s_check_small) := ⟨rfl, rfl, rfl, by decide +kernel, rfl, by decide +kernel, by decide +kernel⟩
theorem d_check_small
    (D_check_finite : DefOk p P w K mg base "check_finite" s_check_finite ["value"] 8 F_check_finite)
    (c_MOST_RANK : ∃ t, mg "MOST_RANK" = some (.int 4 t))
    (m_len : mg "len" = none)
    (U : UDef K mg "check_small" s_check_small) : DefOk p P w K mg base "check_small" s_check_small ["matrix"] 9 F_check_small := by
  have sc := sc_check_small
  refine def_mk (k := 8) U sc (fun _ _ _ _ _ _ us hl => match us, hl with | [_], _ => rfl) fun f cdv A outer s H E hr => ?_
  have tk := takes_of (X := cxOf (L2.CX P w) P w K mg base N_check_small "check_small" (defScope s_check_small) f cdv A outer s H E) rfl rfl rfl rfl
  exact (fss_cons (fs_exp (fe_fn D_check_finite tk (hr.mono (by decide)) (fa_cons (fe_var 0) fa_nil)))
    (fss_one (fs_if (ft_cmp fo_gt (fe_callB fc_len m_len (by rfl) (fa_cons (fe_var 0) fa_nil)) (fe_ki c_MOST_RANK)) (fss_one fs_never) fss_nil)))
theorem sc_check_table : FnScope N_check_table ["matrix", "table"] (defScope s_check_table) := ⟨rfl, rfl, rfl, by decide +kernel, rfl, by decide +kernel, by decide +kernel⟩
theorem d_check_table
    (D_is_tabled : DefOk p P w K mg base "is_tabled" s_is_tabled ["matrix", "value"] 5 F_is_tabled)
    (D_size_by : DefOk p P w K mg base "size_by" s_size_by ["table"] 1 F_size_by)
    (c_MOST_SIZE_pathwork : ∃ t, mg "MOST_SIZE_pathwork" = some (.int 1000 t))
    (U : UDef K mg "check_table" s_check_table) : DefOk p P w K mg base "check_table" s_check_table ["matrix", "table"] 6 F_check_table := by
  have sc := sc_check_table
  refine def_mk (k := 5) U sc (fun _ _ _ _ _ _ us hl => match us, hl with | [_, _], _ => rfl) fun f cdv A outer s H E hr => ?_
  have tk := takes_of (X := cxOf (L2.CX P w) P w K mg base N_check_table "check_table" (defScope s_check_table) f cdv A outer s H E) rfl rfl rfl rfl
  exact (fss_cons (fs_if (ft_not (ft_tru (fe_fn D_is_tabled tk (hr.mono (by decide)) (fa_cons (fe_var 0) (fa_cons (fe_var 1) fa_nil))))) (fss_one fs_never) fss_nil)
    (fss_one (fs_if (ft_cmp fo_gt (fe_fn D_size_by tk (hr.mono (by decide)) (fa_cons (fe_var 1) fa_nil)) (fe_ki c_MOST_SIZE_pathwork)) (fss_one fs_never) fss_nil)))
theorem sc_check_text : FnScope N_check_text ["value"] (defScope s_check_text) := ⟨rfl, rfl, rfl, by decide +kernel, rfl, by decide +kernel, by decide +kernel⟩
theorem d_check_text
    (i_BadText : IniOk P w K mg base p 0 "BadText" "spot")
    (m_isinstance : mg "isinstance" = none)
    (m_str : mg "str" = none)
    (U : UDef K mg "check_text" s_check_text) : DefOk p P w K mg base "check_text" s_check_text ["value"] 3 F_check_text := by
  have sc := sc_check_text
  refine def_mk (k := 2) U sc (fun _ _ _ _ _ _ us hl => match us, hl with | [_], _ => rfl) fun f cdv A outer s H E hr => ?_
  have tk := takes_of (X := cxOf (L2.CX P w) P w K mg base N_check_text "check_text" (defScope s_check_text) f cdv A outer s H E) rfl rfl rfl rfl
  exact (fss_one (fs_if (ft_not (ft_tru (fe_isi 3 (fe_var 0) (hm := m_isinstance) (hmT := m_str)))) (fss_one (fs_raise1 0 rfl tk i_BadText (hr.mono (by decide)) fe_non)) fss_nil))
theorem sc_check_flat : FnScope N_check_flat ["matrix"] (defScope s_check_flat) := ⟨rfl, rfl, rfl, by decide +kernel, rfl, by decide +kernel, by decide +kernel⟩
theorem d_check_flat
    (c_RANK : ∃ t, mg "RANK" = some (.int 2 t))
    (m_len : mg "len" = none)
    (U : UDef K mg "check_flat" s_check_flat) : DefOk p P w K mg base "check_flat" s_check_flat ["matrix"] 1 F_check_flat := by
  have sc := sc_check_flat
  refine def_mk (k := 0) U sc (fun _ _ _ _ _ _ us hl => match us, hl with | [_], _ => rfl) fun f cdv A outer s H E hr => ?_
  have tk := takes_of (X := cxOf (L2.CX P w) P w K mg base N_check_flat "check_flat" (defScope s_check_flat) f cdv A outer s H E) rfl rfl rfl rfl
  exact (fss_one (fs_if (ft_cmp (fo_ne (Room.u64 hr)) (fe_callB fc_len m_len (by rfl) (fa_cons (fe_var 0) fa_nil)) (fe_ki c_RANK)) (fss_one fs_never) fss_nil))
theorem sc_steps_of : FnScope N_steps_of ["matrix"] (defScope s_steps_of) := ⟨rfl, rfl, rfl, by decide +kernel, rfl, by decide +kernel, by decide +kernel⟩
theorem d_steps_of
    (u_SPOTS : KTup K mg "SPOTS" K57.t_SPOTS)
    (U : UDef K mg "steps_of" s_steps_of) : DefOk p P w K mg base "steps_of" s_steps_of ["matrix"] 1 F_steps_of := by
  have sc := sc_steps_of
  refine def_mk (k := 0) U sc (fun _ _ _ _ _ _ us hl => match us, hl with | [_], _ => rfl) fun f cdv A outer s H E hr => ?_
  have tk := takes_of (X := cxOf (L2.CX P w) P w K mg base N_steps_of "steps_of" (defScope s_steps_of) f cdv A outer s H E) rfl rfl rfl rfl
  exact (fss_cons (fs_par 1 2 rfl sc.nd (fe_ix (fo_ix (Room.u1 hr)) (fe_ix (fo_ix (Room.u1 hr)) (fe_var 0) fe_int) fe_int) (fe_ix (fo_ix (Room.u1 hr)) (fe_ix (fo_ix (Room.u1 hr)) (fe_var 0) fe_int) fe_int))
    (fss_cons (fs_if (ft_kin u_SPOTS (Room.u1 hr) (fe_tup (fa_cons (fe_var 1) (fa_cons (fe_var 2) fa_nil)))) (fss_one (fs_ret (fe_kt u_SPOTS (Room.u1 hr) (fe_tup (fa_cons (fe_var 1) (fa_cons (fe_var 2) fa_nil)))))) fss_nil)
    (fss_cons (fs_asg (fe_kt u_SPOTS (Room.u1 hr) (fe_tup (fa_cons (fe_var 2) (fa_cons (fe_var 1) fa_nil)))) (fg_tup rfl (fgs_cons (fg_name 3 sc.nd) (fgs_cons (fg_name 4 sc.nd) fgs_nil))))
    (fss_one (fs_ret (fe_tup (fa_cons (fe_var 4) (fa_cons (fe_var 3) fa_nil))))))))
theorem sc_spot_of : FnScope N_spot_of ["matrix", "weight"] (defScope s_spot_of) := ⟨rfl, rfl, rfl, by decide +kernel, rfl, by decide +kernel, by decide +kernel⟩
theorem d_spot_of
    (D_steps_of : DefOk p P w K mg base "steps_of" s_steps_of ["matrix"] 1 F_steps_of)
    (U : UDef K mg "spot_of" s_spot_of) : DefOk p P w K mg base "spot_of" s_spot_of ["matrix", "weight"] 2 F_spot_of := by
  have sc := sc_spot_of
  refine def_mk (k := 1) U sc (fun _ _ _ _ _ _ us hl => match us, hl with | [_, _], _ => rfl) fun f cdv A outer s H E hr => ?_
  have tk := takes_of (X := cxOf (L2.CX P w) P w K mg base N_spot_of "spot_of" (defScope s_spot_of) f cdv A outer s H E) rfl rfl rfl rfl
  exact (fss_cons (fs_asg (fe_fn D_steps_of tk (hr.mono (by decide)) (fa_cons (fe_var 0) fa_nil)) (fg_tup rfl (fgs_cons (fg_tup rfl (fgs_cons (fg_name 2 sc.nd) (fgs_cons (fg_name 3 sc.nd) fgs_nil))) (fgs_cons (fg_tup rfl (fgs_cons (fg_name 4 sc.nd) (fgs_cons (fg_name 5 sc.nd) fgs_nil))) fgs_nil))))
    (fss_one (fs_ret (fe_tup (fa_cons (fe_op fo_add (fe_op fo_mul (fe_ix (fo_ix (Room.u1 hr)) (fe_var 1) fe_int) (fe_var 2)) (fe_op fo_mul (fe_ix (fo_ix (Room.u1 hr)) (fe_var 1) fe_int) (fe_var 4))) (fa_cons (fe_op fo_add (fe_op fo_mul (fe_ix (fo_ix (Room.u1 hr)) (fe_var 1) fe_int) (fe_var 3)) (fe_op fo_mul (fe_ix (fo_ix (Room.u1 hr)) (fe_var 1) fe_int) (fe_var 5))) fa_nil))))))
theorem sc_pair_line : FnScope N_pair_line ["matrix", "weight", "count"] (defScope s_pair_line) := ⟨rfl, rfl, rfl, by decide +kernel, rfl, by decide +kernel, by decide +kernel⟩
theorem d_pair_line
    (D_spot_of : DefOk p P w K mg base "spot_of" s_spot_of ["matrix", "weight"] 2 F_spot_of)
    (t_MARKS : KCon K mg "MARKS" K57.t_MARKS)
    (U : UDef K mg "pair_line" s_pair_line) : DefOk p P w K mg base "pair_line" s_pair_line ["matrix", "weight", "count"] 3 F_pair_line := by
  have sc := sc_pair_line
  refine def_mk (k := 2) U sc (fun _ _ _ _ _ _ us hl => match us, hl with | [_, _, _], _ => rfl) fun f cdv A outer s H E hr => ?_
  have tk := takes_of (X := cxOf (L2.CX P w) P w K mg base N_pair_line "pair_line" (defScope s_pair_line) f cdv A outer s H E) rfl rfl rfl rfl
  exact (fss_cons (fs_asg (fe_fn D_spot_of tk (hr.mono (by decide)) (fa_cons (fe_var 0) (fa_cons (fe_var 1) fa_nil))) (fg_tup rfl (fgs_cons (fg_name 3 sc.nd) (fgs_cons (fg_name 4 sc.nd) fgs_nil))))
    (fss_one (fs_ret (fe_js (fj_cons (fe_fmt (fe_ix (fo_ix (Room.u1 hr)) (fe_con t_MARKS) fe_int)) (fj_cons (fe_fmt (fe_var 3)) (fj_cons (fe_fmt (fe_ix (fo_ix (Room.u1 hr)) (fe_con t_MARKS) fe_int)) (fj_cons (fe_fmt (fe_un fu_neg (fe_var 4))) (fj_cons (fe_fmt (fe_ix (fo_ix (Room.u1 hr)) (fe_con t_MARKS) fe_int)) (fj_cons (fe_fmt (fe_var 2)) (fj_cons (fe_fmt (fe_ix (fo_ix (Room.u1 hr)) (fe_con t_MARKS) fe_int)) fj_nil)))))))))))
theorem sc_picture_by : FnScope N_picture_by ["matrix", "table"] (defScope s_picture_by) := ⟨rfl, rfl, rfl, by decide +kernel, rfl, by decide +kernel, by decide +kernel⟩
theorem d_picture_by
    (D_pair_line : DefOk p P w K mg base "pair_line" s_pair_line ["matrix", "weight", "count"] 3 F_pair_line)
    (c_END : ∃ t, mg "END" = some (.str "</svg>" t))
    (c_HEAD : ∃ t, mg "HEAD" = some (.str "<svg xmlns=\"http://www.w3.org/2000/svg\" viewBox=\"-300 -300 600 600\">" t))
    (U : UDef K mg "picture_by" s_picture_by) : DefOk p P w K mg base "picture_by" s_picture_by ["matrix", "table"] 4 F_picture_by := by
  have sc := sc_picture_by
  refine def_mk (k := 3) U sc (fun _ _ _ _ _ _ us hl => match us, hl with | [_, _], _ => rfl) fun f cdv A outer s H E hr => ?_
  have tk := takes_of (X := cxOf (L2.CX P w) P w K mg base N_picture_by "picture_by" (defScope s_picture_by) f cdv A outer s H E) rfl rfl rfl rfl
  exact (fss_one (fs_ret (fe_join (fe_str [10] (by kernel_rfl)) (fl_new (fn_lst (fa_cons (fe_ks [60, 115, 118, 103, 32, 120, 109, 108, 110, 115, 61, 34, 104, 116, 116, 112, 58, 47, 47, 119, 119, 119, 46, 119, 51, 46, 111, 114, 103, 47, 50, 48, 48, 48, 47, 115, 118, 103, 34, 32, 118, 105, 101, 119, 66, 111, 120, 61, 34, 45, 51, 48, 48, 32, 45, 51, 48, 48, 32, 54, 48, 48, 32, 54, 48, 48, 34, 62] (by kernel_rfl) c_HEAD) (fa_star (fe_new (fn_lcV (own := [("weight", 2), ("count", 3)]) rfl sc.nd (fe_var 1) (blkOk_by (by kernel_rfl)) (fun _ _ _ _ _ => (fp_tup rfl (fps_cons (fp_name 2 sc.nd) (fps_cons (fp_name 3 sc.nd) fps_nil)))) (fun _ _ _ _ _ => fts_nil) (fun _ _ _ _ _ => (fe_fn D_pair_line takes0 (hr.mono (by decide)) (fa_cons (fe_var 0) (fa_cons (fe_var 2) (fa_cons (fe_var 3) fa_nil))))))) (fa_cons (fe_ks [60, 47, 115, 118, 103, 62] (by kernel_rfl) c_END) fa_nil))))))))
theorem sc_whole_told : FnScope N_whole_told ["text"] (defScope s_whole_told) := ⟨rfl, rfl, rfl, by decide +kernel, rfl, by decide +kernel, by decide +kernel⟩
theorem d_whole_told
    (c_DIGITS : ∃ t, mg "DIGITS" = some (.str "0123456789" t))
    (m_all : mg "all" = none)
    (m_int : mg "int" = none)
    (U : UDef K mg "whole_told" s_whole_told) : DefOk p P w K mg base "whole_told" s_whole_told ["text"] 1 F_whole_told := by
  have sc := sc_whole_told
  refine def_mk (k := 0) U sc (fun _ _ _ _ _ _ us hl => match us, hl with | [_], _ => rfl) fun f cdv A outer s H E hr => ?_
  have tk := takes_of (X := cxOf (L2.CX P w) P w K mg base N_whole_told "whole_told" (defScope s_whole_told) f cdv A outer s H E) rfl rfl rfl rfl
  exact (fss_cons (fs_set 1 sc.nd (fe_ifExp (ft_cmp (fo_eq (Room.u64 hr)) (fe_sl (fe_var 0) fpa_no (fpa_so fe_int)) (fe_str [45] (by kernel_rfl))) (fe_sl (fe_var 0) (fpa_so fe_int) fpa_no) (fe_var 0)))
    (fss_cons (fs_if (FW.ft (fw_or (ft_cmp (fo_eq (Room.u64 hr)) (fe_var 1) (fe_str [] (by kernel_rfl))) (fw_or1 (ft_not (ft_tru (fe_callLB (cl_all rfl) m_all (by rfl) (fl_new (fn_lcV (own := [("sign", 2)]) rfl sc.nd (fe_var 1) (blkOk_by (by kernel_rfl)) (fun _ _ _ _ _ => (fp_name 2 sc.nd)) (fun _ _ _ _ _ => fts_nil) (fun _ _ _ _ _ => (fe_cmp (fo_in (Room.u65 hr)) (fe_var 2) (fe_ks [48, 49, 50, 51, 52, 53, 54, 55, 56, 57] (by kernel_rfl) c_DIGITS))))))))))) (fss_one (fs_ret (fe_lst fa_nil))) fss_nil)
    (fss_one (fs_ret (fe_ifExp (ft_cmp (fo_eq (Room.u64 hr)) (fe_js1 (fe_fmt (fe_callTy fc_intS m_int (by rfl) (fa_cons (fe_var 0) fa_nil)))) (fe_var 0)) (fe_lst (fa_cons (fe_callTy fc_intS m_int (by rfl) (fa_cons (fe_var 0) fa_nil)) fa_nil)) (fe_lst fa_nil))))))
theorem sc_numbers_in : FnScope N_numbers_in ["line"] (defScope s_numbers_in) := ⟨rfl, rfl, rfl, by decide +kernel, rfl, by decide +kernel, by decide +kernel⟩
theorem d_numbers_in
    (D_whole_told : DefOk p P w K mg base "whole_told" s_whole_told ["text"] 1 F_whole_told)
    (m_len : mg "len" = none)
    (m_zip : mg "zip" = none)
    (t_MARKS : KCon K mg "MARKS" K57.t_MARKS)
    (U : UDef K mg "numbers_in" s_numbers_in) : DefOk p P w K mg base "numbers_in" s_numbers_in ["line"] 2 F_numbers_in := by
  have sc := sc_numbers_in
  refine def_mk (k := 1) U sc (fun _ _ _ _ _ _ us hl => match us, hl with | [_], _ => rfl) fun f cdv A outer s H E hr => ?_
  have tk := takes_of (X := cxOf (L2.CX P w) P w K mg base N_numbers_in "numbers_in" (defScope s_numbers_in) f cdv A outer s H E) rfl rfl rfl rfl
  exact (fss_cons (fs_par 1 2 rfl sc.nd (fe_lst fa_nil) (fe_var 0))
    (fss_cons (fs_for (passes_of rfl) rfl (fi_zp m_zip (fa_cons (fe_con t_MARKS) (fa_cons (fe_sl (fe_con t_MARKS) (fpa_so fe_int) fpa_no) fa_nil))) (fp_tup rfl (fps_cons (fp_name 3 sc.nd) (fps_cons (fp_name 4 sc.nd) fps_nil))) (fss_cons (fs_set 5 sc.nd (fe_ifExp (ft_cmp (fo_eq (Room.u64 hr)) (fe_sl (fe_var 2) fpa_no (fpa_so (fe_callB fc_len m_len (by rfl) (fa_cons (fe_var 3) fa_nil)))) (fe_var 3)) (fe_mt PySem.F.plainAttrs_str PySem.F.slot_str_find PySem.F.type_str_find fm_find (fe_var 2) (fa_cons (fe_var 4) (fa_cons (fe_callB fc_len m_len (by rfl) (fa_cons (fe_var 3) fa_nil)) fa_nil))) (fe_un fu_neg fe_int)))
    (fss_cons (fs_set 6 sc.nd (fe_ifExp (ft_cmp (fo_geT (Room.u0 hr)) (fe_var 5) fe_int) (fe_fn D_whole_told tk (hr.mono (by decide)) (fa_cons (fe_sl (fe_var 2) (fpa_so (fe_callB fc_len m_len (by rfl) (fa_cons (fe_var 3) fa_nil))) (fpa_so (fe_var 5))) fa_nil)) (fe_lst fa_nil)))
    (fss_cons (fs_if (ft_cmp (fo_eq (Room.u64 hr)) (fe_var 6) (fe_lst fa_nil)) (fss_one (fs_ret (fe_lst fa_nil))) fss_nil)
    (fss_one (fs_par 1 2 rfl sc.nd (fe_op fo_add (fe_var 1) (fe_var 6)) (fe_sl (fe_var 2) (fpa_so (fe_var 5)) fpa_no)))))))
    (fss_one (fs_ret (fe_ifExp (ft_cmp (fo_eq (Room.u64 hr)) (fe_var 2) (fe_ix (fo_ix (Room.u1 hr)) (fe_con t_MARKS) (fe_un fu_neg fe_int))) (fe_var 1) (fe_lst fa_nil))))))
theorem sc_weight_at : FnScope N_weight_at ["matrix", "x", "y"] (defScope s_weight_at) := ⟨rfl, rfl, rfl, by decide +kernel, rfl, by decide +kernel, by decide +kernel⟩
theorem d_weight_at
    (D_steps_of : DefOk p P w K mg base "steps_of" s_steps_of ["matrix"] 1 F_steps_of)
    (U : UDef K mg "weight_at" s_weight_at) : DefOk p P w K mg base "weight_at" s_weight_at ["matrix", "x", "y"] 2 F_weight_at := by
  have sc := sc_weight_at
  refine def_mk (k := 1) U sc (fun _ _ _ _ _ _ us hl => match us, hl with | [_, _, _], _ => rfl) fun f cdv A outer s H E hr => ?_
  have tk := takes_of (X := cxOf (L2.CX P w) P w K mg base N_weight_at "weight_at" (defScope s_weight_at) f cdv A outer s H E) rfl rfl rfl rfl
  exact (fss_cons (fs_asg (fe_fn D_steps_of tk (hr.mono (by decide)) (fa_cons (fe_var 0) fa_nil)) (fg_tup rfl (fgs_cons (fg_tup rfl (fgs_cons (fg_name 3 sc.nd) (fgs_cons (fg_name 4 sc.nd) fgs_nil))) (fgs_cons (fg_tup rfl (fgs_cons (fg_name 5 sc.nd) (fgs_cons (fg_name 6 sc.nd) fgs_nil))) fgs_nil))))
    (fss_cons (fs_set 7 sc.nd (fe_op fo_sub (fe_op fo_mul (fe_var 3) (fe_var 6)) (fe_op fo_mul (fe_var 4) (fe_var 5))))
    (fss_cons (fs_par 8 9 rfl sc.nd (fe_op fo_sub (fe_op fo_mul (fe_var 1) (fe_var 6)) (fe_op fo_mul (fe_var 2) (fe_var 5))) (fe_op fo_sub (fe_op fo_mul (fe_var 3) (fe_var 2)) (fe_op fo_mul (fe_var 4) (fe_var 1))))
    (fss_one (fs_ret (fe_ifExp (FW.ft (fw_and (ft_cmp (fo_eq (Room.u64 hr)) (fe_op fo_modN (fe_var 8) (fe_var 7)) fe_int) (fw_and1 (ft_cmp (fo_eq (Room.u64 hr)) (fe_op fo_modN (fe_var 9) (fe_var 7)) fe_int)))) (fe_lst (fa_cons (fe_tup (fa_cons (fe_op fo_fdivN (fe_var 8) (fe_var 7)) (fa_cons (fe_op fo_fdivN (fe_var 9) (fe_var 7)) fa_nil))) fa_nil)) (fe_lst fa_nil)))))))
theorem sc_pair_in : FnScope N_pair_in ["matrix", "line"] (defScope s_pair_in) := ⟨rfl, rfl, rfl, by decide +kernel, rfl, by decide +kernel, by decide +kernel⟩
theorem d_pair_in
    (D_numbers_in : DefOk p P w K mg base "numbers_in" s_numbers_in ["line"] 2 F_numbers_in)
    (D_weight_at : DefOk p P w K mg base "weight_at" s_weight_at ["matrix", "x", "y"] 2 F_weight_at)
    (U : UDef K mg "pair_in" s_pair_in) : DefOk p P w K mg base "pair_in" s_pair_in ["matrix", "line"] 3 F_pair_in := by
  have sc := sc_pair_in
  refine def_mk (k := 2) U sc (fun _ _ _ _ _ _ us hl => match us, hl with | [_, _], _ => rfl) fun f cdv A outer s H E hr => ?_
  have tk := takes_of (X := cxOf (L2.CX P w) P w K mg base N_pair_in "pair_in" (defScope s_pair_in) f cdv A outer s H E) rfl rfl rfl rfl
  exact (fss_cons (fs_set 2 sc.nd (fe_fn D_numbers_in tk (hr.mono (by decide)) (fa_cons (fe_var 1) fa_nil)))
    (fss_cons (fs_if (FW.ft (fw_or (ft_cmp (fo_eq (Room.u64 hr)) (fe_var 2) (fe_lst fa_nil)) (fw_or1 (ft_cmp (fo_eq (Room.u64 hr)) (fe_ix (fo_ix (Room.u1 hr)) (fe_var 2) fe_int) fe_int)))) (fss_one (fs_ret (fe_lst fa_nil))) fss_nil)
    (fss_one (fs_ret (fe_new (fn_lcV (own := [("weight", 3)]) rfl sc.nd (fe_fn D_weight_at tk (hr.mono (by decide)) (fa_cons (fe_var 0) (fa_cons (fe_ix (fo_ix (Room.u1 hr)) (fe_var 2) fe_int) (fa_cons (fe_un fu_neg (fe_ix (fo_ix (Room.u1 hr)) (fe_var 2) fe_int)) fa_nil)))) (blkOk_by (by kernel_rfl)) (fun _ _ _ _ _ => (fp_name 3 sc.nd)) (fun _ _ _ _ _ => fts_nil) (fun _ _ _ _ _ => (fe_tup (fa_cons (fe_var 3) (fa_cons (fe_ix (fo_ix (Room.u1 hr)) (fe_var 2) fe_int) fa_nil))))))))))
theorem sc_table_read : FnScope N_table_read ["matrix", "text"] (defScope s_table_read) := ⟨rfl, rfl, rfl, by decide +kernel, rfl, by decide +kernel, by decide +kernel⟩
theorem d_table_read
    (D_pair_in : DefOk p P w K mg base "pair_in" s_pair_in ["matrix", "line"] 3 F_pair_in)
    (c_END : ∃ t, mg "END" = some (.str "</svg>" t))
    (c_HEAD : ∃ t, mg "HEAD" = some (.str "<svg xmlns=\"http://www.w3.org/2000/svg\" viewBox=\"-300 -300 600 600\">" t))
    (c_MOST_SIZE_picturework : ∃ t, mg "MOST_SIZE_picturework" = some (.int 1000 t))
    (i_BadText : IniOk P w K mg base p 0 "BadText" "spot")
    (m_abs : mg "abs" = none)
    (m_enumerate : mg "enumerate" = none)
    (m_len : mg "len" = none)
    (m_sum : mg "sum" = none)
    (m_tuple : mg "tuple" = none)
    (U : UDef K mg "table_read" s_table_read) : DefOk p P w K mg base "table_read" s_table_read ["matrix", "text"] 4 F_table_read := by
  have sc := sc_table_read
  refine def_mk (k := 3) U sc (fun _ _ _ _ _ _ us hl => match us, hl with | [_, _], _ => rfl) fun f cdv A outer s H E hr => ?_
  have tk := takes_of (X := cxOf (L2.CX P w) P w K mg base N_table_read "table_read" (defScope s_table_read) f cdv A outer s H E) rfl rfl rfl rfl
  exact (fss_cons (fs_par3 2 3 4 rfl sc.nd (fe_mt PySem.F.plainAttrs_str PySem.F.slot_str_split PySem.F.type_str_split fm_split (fe_var 1) (fa_cons (fe_str [10] (by kernel_rfl)) fa_nil)) (fe_lst fa_nil) fe_int)
    (fss_cons (fs_if (ft_cmp (fo_ne (Room.u64 hr)) (fe_ix (fo_ix (Room.u1 hr)) (fe_var 2) fe_int) (fe_ks [60, 115, 118, 103, 32, 120, 109, 108, 110, 115, 61, 34, 104, 116, 116, 112, 58, 47, 47, 119, 119, 119, 46, 119, 51, 46, 111, 114, 103, 47, 50, 48, 48, 48, 47, 115, 118, 103, 34, 32, 118, 105, 101, 119, 66, 111, 120, 61, 34, 45, 51, 48, 48, 32, 45, 51, 48, 48, 32, 54, 48, 48, 32, 54, 48, 48, 34, 62] (by kernel_rfl) c_HEAD)) (fss_one (fs_raise1 0 rfl tk i_BadText (hr.mono (by decide)) fe_int)) fss_nil)
    (fss_cons (fs_for (passes_of rfl) rfl (fi_en m_enumerate (fa_cons (fe_sl (fe_var 2) (fpa_so fe_int) fpa_no) fa_nil)) (fp_tup rfl (fps_cons (fp_name 5 sc.nd) (fps_cons (fp_name 6 sc.nd) fps_nil))) (fss_cons (fs_if (ft_cmp (fo_eq (Room.u64 hr)) (fe_var 6) (fe_ks [60, 47, 115, 118, 103, 62] (by kernel_rfl) c_END)) (fss_cons (fs_if (ft_cmp (fo_lt (Room.u0 hr)) (fe_op fo_add (fe_var 5) fe_int) (fe_callB fc_len m_len (by rfl) (fa_cons (fe_var 2) fa_nil))) (fss_one (fs_raise1 0 rfl tk i_BadText (hr.mono (by decide)) (fe_op fo_add (fe_var 5) fe_int))) fss_nil)
    (fss_one (fs_ret (fe_callTy fc_tup m_tuple (by rfl) (fa_cons (fe_var 3) fa_nil))))) fss_nil)
    (fss_cons (fs_set 7 sc.nd (fe_fn D_pair_in tk (hr.mono (by decide)) (fa_cons (fe_var 0) (fa_cons (fe_var 6) fa_nil))))
    (fss_cons (fs_set 4 sc.nd (fe_op fo_add (fe_var 4) (fe_callLB (cl_sum rfl) m_sum (by rfl) (fl_new (fn_lcV (own := [("_", 8), ("count", 9)]) rfl sc.nd (fe_var 7) (blkOk_by (by kernel_rfl)) (fun _ _ _ _ _ => (fp_tup rfl (fps_cons (fp_name 8 sc.nd) (fps_cons (fp_name 9 sc.nd) fps_nil)))) (fun _ _ _ _ _ => fts_nil) (fun _ _ _ _ _ => (fe_callB fc_abs m_abs (by rfl) (fa_cons (fe_var 9) fa_nil))))))))
    (fss_cons (fs_if (FW.ft (fw_or (ft_cmp (fo_eq (Room.u64 hr)) (fe_var 7) (fe_lst fa_nil)) (fw_or (ft_cmp fo_gt (fe_var 4) (fe_ki c_MOST_SIZE_picturework)) (fw_or1 (FW.ft (fw_and (ft_cmp (fo_ne (Room.u64 hr)) (fe_var 3) (fe_lst fa_nil)) (fw_and1 (ft_cmp (fo_geT (Room.u0 hr)) (fe_ix (fo_ix (Room.u1 hr)) (fe_ix (fo_ix (Room.u1 hr)) (fe_var 3) (fe_un fu_neg fe_int)) fe_int) (fe_ix (fo_ix (Room.u1 hr)) (fe_ix (fo_ix (Room.u1 hr)) (fe_var 7) fe_int) fe_int))))))))) (fss_one (fs_raise1 0 rfl tk i_BadText (hr.mono (by decide)) (fe_op fo_add (fe_var 5) fe_int))) fss_nil)
    (fss_one (fs_set 3 sc.nd (fe_op fo_add (fe_var 3) (fe_var 7)))))))))
    (fss_one (fs_raise1 0 rfl tk i_BadText (hr.mono (by decide)) (fe_callB fc_len m_len (by rfl) (fa_cons (fe_var 2) fa_nil)))))))
theorem sc_picture : FnScope N_picture ["matrix", "table"] (defScope s_picture) := ⟨rfl, rfl, rfl, by decide +kernel, rfl, by decide +kernel, by decide +kernel⟩
theorem d_picture
    (D_check_flat : DefOk p P w K mg base "check_flat" s_check_flat ["matrix"] 1 F_check_flat)
    (D_check_small : DefOk p P w K mg base "check_small" s_check_small ["matrix"] 9 F_check_small)
    (D_check_table : DefOk p P w K mg base "check_table" s_check_table ["matrix", "table"] 6 F_check_table)
    (D_picture_by : DefOk p P w K mg base "picture_by" s_picture_by ["matrix", "table"] 4 F_picture_by)
    (U : UDef K mg "picture" s_picture) : DefOk p P w K mg base "picture" s_picture ["matrix", "table"] 10 F_picture := by
  have sc := sc_picture
  refine def_mk (k := 9) U sc (fun _ _ _ _ _ _ us hl => match us, hl with | [_, _], _ => rfl) fun f cdv A outer s H E hr => ?_
  have tk := takes_of (X := cxOf (L2.CX P w) P w K mg base N_picture "picture" (defScope s_picture) f cdv A outer s H E) rfl rfl rfl rfl
  exact (fss_cons (fs_exp (fe_fn D_check_small tk (hr.mono (by decide)) (fa_cons (fe_var 0) fa_nil)))
    (fss_cons (fs_exp (fe_fn D_check_table tk (hr.mono (by decide)) (fa_cons (fe_var 0) (fa_cons (fe_var 1) fa_nil))))
    (fss_cons (fs_exp (fe_fn D_check_flat tk (hr.mono (by decide)) (fa_cons (fe_var 0) fa_nil)))
    (fss_one (fs_ret (fe_fn D_picture_by tk (hr.mono (by decide)) (fa_cons (fe_var 0) (fa_cons (fe_var 1) fa_nil))))))))
theorem sc_read_picture : FnScope N_read_picture ["matrix", "text"] (defScope s_read_picture) := ⟨rfl, rfl, rfl, by decide +kernel, rfl, by decide +kernel, by decide +kernel⟩
theorem d_read_picture
    (D_check_flat : DefOk p P w K mg base "check_flat" s_check_flat ["matrix"] 1 F_check_flat)
    (D_check_small : DefOk p P w K mg base "check_small" s_check_small ["matrix"] 9 F_check_small)
    (D_check_text : DefOk p P w K mg base "check_text" s_check_text ["value"] 3 F_check_text)
    (D_table_read : DefOk p P w K mg base "table_read" s_table_read ["matrix", "text"] 4 F_table_read)
    (U : UDef K mg "read_picture" s_read_picture) : DefOk p P w K mg base "read_picture" s_read_picture ["matrix", "text"] 10 F_read_picture := by
  have sc := sc_read_picture
  refine def_mk (k := 9) U sc (fun _ _ _ _ _ _ us hl => match us, hl with | [_, _], _ => rfl) fun f cdv A outer s H E hr => ?_
  have tk := takes_of (X := cxOf (L2.CX P w) P w K mg base N_read_picture "read_picture" (defScope s_read_picture) f cdv A outer s H E) rfl rfl rfl rfl
  exact (fss_cons (fs_exp (fe_fn D_check_small tk (hr.mono (by decide)) (fa_cons (fe_var 0) fa_nil)))
    (fss_cons (fs_exp (fe_fn D_check_text tk (hr.mono (by decide)) (fa_cons (fe_var 1) fa_nil)))
    (fss_cons (fs_exp (fe_fn D_check_flat tk (hr.mono (by decide)) (fa_cons (fe_var 0) fa_nil)))
    (fss_one (fs_ret (fe_fn D_table_read tk (hr.mono (by decide)) (fa_cons (fe_var 0) (fa_cons (fe_var 1) fa_nil))))))))
theorem sc__law_well : FnScope N__law_well ["_law_script"] (defScope s__law_well) := ⟨rfl, rfl, rfl, by decide +kernel, rfl, by decide +kernel, by decide +kernel⟩
theorem d__law_well
    (m_abs : mg "abs" = none)
    (m_int : mg "int" = none)
    (U : UDef K mg "_law_well" s__law_well) : DefOk p P w K mg base "_law_well" s__law_well ["_law_script"] 1 F__law_well := by
  have sc := sc__law_well
  refine def_mk (k := 0) U sc (fun _ _ _ _ _ _ us hl => match us, hl with | [_], _ => rfl) fun f cdv A outer s H E hr => ?_
  have tk := takes_of (X := cxOf (L2.CX P w) P w K mg base N__law_well "_law_well" (defScope s__law_well) f cdv A outer s H E) rfl rfl rfl rfl
  exact (fss_cons (fs_set 1 sc.nd fe_int)
    (fss_cons (fs_forV (passes_of rfl) rfl (fe_sl (fe_var 0) fpa_no (fpa_so fe_int)) (fp_name 2 sc.nd) (fss_one (fs_set 1 sc.nd (fe_op fo_mod (fe_callTy fc_intS m_int (by rfl) (fa_cons (fe_op fo_add (fe_op fo_add (fe_op fo_mul (fe_var 1) fe_int) (fe_op fo_mod (fe_callTy fc_intS m_int (by rfl) (fa_cons (fe_var 2) fa_nil)) fe_int)) fe_int) fa_nil)) fe_int))))
    (fss_cons (fs_setLcV (own := [("_law_cell", 2)]) rfl sc.nd (i := 3) rfl rfl (sw_true rfl rfl rfl rfl) (fe_sl (fe_var 0) fpa_no (fpa_so fe_int)) (blkOk_by (by kernel_rfl)) (fun _ _ _ _ _ => (fp_name 2 sc.nd)) (fun _ _ _ _ _ => (fts_one (FW.ft (fw_or (ft_cmp (fo_lt (Room.u0 hr)) (fe_callTy fc_intS m_int (by rfl) (fa_cons (fe_var 2) fa_nil)) fe_int) (fw_or1 (ft_cmp (fo_geT (Room.u0 hr)) (fe_callTy fc_intS m_int (by rfl) (fa_cons (fe_var 2) fa_nil)) (fe_op fo_pow fe_int fe_int))))))) (fun _ _ _ _ _ => (fe_callB fc_abs m_abs (by rfl) (fa_cons (fe_callTy fc_intS m_int (by rfl) (fa_cons (fe_var 2) fa_nil)) fa_nil))))
    (fss_one (fs_ret (fe_lst (fa_cons fe_int (fa_cons (fe_var 1) (fa_cons fe_int (fa_cons (fe_var 3) fa_nil))))))))))
theorem sc__law_draw : FnScope N__law_draw ["_law_well_here", "_law_most"] (defScope s__law_draw) := ⟨rfl, rfl, rfl, by decide +kernel, rfl, by decide +kernel, by decide +kernel⟩
theorem d__law_draw
    (m_divmod : mg "divmod" = none)
    (m_int : mg "int" = none)
    (U : UDef K mg "_law_draw" s__law_draw) : DefOk p P w K mg base "_law_draw" s__law_draw ["_law_well_here", "_law_most"] 1 F__law_draw := by
  have sc := sc__law_draw
  refine def_mk (k := 0) U sc (fun _ _ _ _ _ _ us hl => match us, hl with | [_, _], _ => rfl) fun f cdv A outer s H E hr => ?_
  have tk := takes_of (X := cxOf (L2.CX P w) P w K mg base N__law_draw "_law_draw" (defScope s__law_draw) f cdv A outer s H E) rfl rfl rfl rfl
  exact (fss_cons (fs_if (FW.ft (fw_and (ft_cmp (fo_eq (Room.u64 hr)) (fe_ix (fo_ix (Room.u1 hr)) (fe_var 0) fe_int) fe_int) (fw_and1 (ft_cmp (fo_ne (Room.u64 hr)) (fe_ix (fo_ix (Room.u1 hr)) (fe_var 0) fe_int) (fe_lst fa_nil))))) (fss_one (fs_asg (fe_tup (fa_cons (fe_ix (fo_ix (Room.u1 hr)) (fe_ix (fo_ix (Room.u1 hr)) (fe_var 0) fe_int) fe_int) (fa_cons (fe_sl (fe_ix (fo_ix (Room.u1 hr)) (fe_var 0) fe_int) (fpa_so fe_int) fpa_no) fa_nil))) (fg_tup rfl (fgs_cons (fg_ix (W := WN) (Room.u1 hr) (fe_var 0) fe_int) (fgs_cons (fg_ix (W := WN) (Room.u1 hr) (fe_var 0) fe_int) fgs_nil))))) fss_nil)
    (fss_cons (fs_if (ft_cmp fo_gt (fe_ix (fo_ix (Room.u1 hr)) (fe_var 0) fe_int) fe_int) (fss_cons (fs_asg (fe_callB fc_dm m_divmod (by rfl) (fa_cons (fe_ix (fo_ix (Room.u1 hr)) (fe_var 0) fe_int) (fa_cons (fe_var 1) fa_nil))) (fg_tup rfl (fgs_cons (fg_ix (W := WN) (Room.u1 hr) (fe_var 0) fe_int) (fgs_cons (fg_name 2 sc.nd) fgs_nil))))
    (fss_one (fs_ret (fe_var 2)))) fss_nil)
    (fss_cons (fs_asg (fe_op fo_add (fe_ix (fo_ix (Room.u1 hr)) (fe_var 0) fe_int) fe_int) (fg_ix (W := WN) (Room.u1 hr) (fe_var 0) fe_int))
    (fss_cons (fs_set 3 sc.nd (fe_op fo_mod (fe_callTy fc_intS m_int (by rfl) (fa_cons (fe_op fo_add (fe_ix (fo_ix (Room.u1 hr)) (fe_var 0) fe_int) (fe_op fo_mul fe_int (fe_ix (fo_ix (Room.u1 hr)) (fe_var 0) fe_int))) fa_nil)) fe_int))
    (fss_cons (fs_asg (fe_op fo_mod (fe_callTy fc_intS m_int (by rfl) (fa_cons (fe_op fo_add (fe_op fo_mul (fe_var 3) (fe_op fo_add (fe_op fo_mod (fe_callTy fc_intS m_int (by rfl) (fa_cons (fe_var 3) fa_nil)) fe_int) fe_int)) (fe_op fo_mul fe_int (fe_ix (fo_ix (Room.u1 hr)) (fe_var 0) fe_int))) fa_nil)) fe_int) (fg_ix (W := WN) (Room.u1 hr) (fe_var 0) fe_int))
    (fss_one (fs_ret (fe_op fo_mod (fe_callTy fc_intS m_int (by rfl) (fa_cons (fe_op fo_fdiv (fe_ix (fo_ix (Room.u1 hr)) (fe_var 0) fe_int) fe_int) fa_nil)) (fe_var 1)))))))))
theorem sc__law_pick : FnScope N__law_pick ["_law_well_here", "_law_some"] (defScope s__law_pick) := ⟨rfl, rfl, rfl, by decide +kernel, rfl, by decide +kernel, by decide +kernel⟩
theorem d__law_pick
    (D__law_draw : DefOk p P w K mg base "_law_draw" s__law_draw ["_law_well_here", "_law_most"] 1 F__law_draw)
    (m_len : mg "len" = none)
    (U : UDef K mg "_law_pick" s__law_pick) : DefOk p P w K mg base "_law_pick" s__law_pick ["_law_well_here", "_law_some"] 2 F__law_pick := by
  have sc := sc__law_pick
  refine def_mk (k := 1) U sc (fun _ _ _ _ _ _ us hl => match us, hl with | [_, _], _ => rfl) fun f cdv A outer s H E hr => ?_
  have tk := takes_of (X := cxOf (L2.CX P w) P w K mg base N__law_pick "_law_pick" (defScope s__law_pick) f cdv A outer s H E) rfl rfl rfl rfl
  exact (fss_one (fs_ret (fe_ix (fo_ix (Room.u1 hr)) (fe_var 1) (fe_fn D__law_draw tk (hr.mono (by decide)) (fa_cons (fe_var 0) (fa_cons (fe_callB fc_len m_len (by rfl) (fa_cons (fe_var 1) fa_nil)) fa_nil))))))
theorem sc__law_axes : FnScope N__law_axes ["_law_matrix"] (defScope s__law_axes) := ⟨rfl, rfl, rfl, by decide +kernel, rfl, by decide +kernel, by decide +kernel⟩
theorem d__law_axes
    
    (U : UDef K mg "_law_axes" s__law_axes) : DefOk p P w K mg base "_law_axes" s__law_axes ["_law_matrix"] 1 F__law_axes := by
  have sc := sc__law_axes
  refine def_mk (k := 0) U sc (fun _ _ _ _ _ _ us hl => match us, hl with | [_], _ => rfl) fun f cdv A outer s H E hr => ?_
  have tk := takes_of (X := cxOf (L2.CX P w) P w K mg base N__law_axes "_law_axes" (defScope s__law_axes) f cdv A outer s H E) rfl rfl rfl rfl
  exact (fss_cons (fs_set 1 sc.nd (fe_dictN (Room.u1 hr) (fps2_cons (fe_tup (fa_cons fe_int (fa_cons fe_int fa_nil))) (fe_tup (fa_cons (fe_tup (fa_cons fe_int (fa_cons fe_int fa_nil))) (fa_cons (fe_tup (fa_cons fe_int (fa_cons fe_int fa_nil))) fa_nil))) (fps2_cons (fe_tup (fa_cons (fe_un fu_neg fe_int) (fa_cons (fe_un fu_neg fe_int) fa_nil))) (fe_tup (fa_cons (fe_tup (fa_cons fe_int (fa_cons fe_int fa_nil))) (fa_cons (fe_tup (fa_cons fe_int (fa_cons fe_int fa_nil))) fa_nil))) (fps2_cons (fe_tup (fa_cons (fe_un fu_neg fe_int) (fa_cons (fe_un fu_neg fe_int) fa_nil))) (fe_tup (fa_cons (fe_tup (fa_cons fe_int (fa_cons fe_int fa_nil))) (fa_cons (fe_tup (fa_cons fe_int (fa_cons fe_int fa_nil))) fa_nil))) (fps2_cons (fe_tup (fa_cons (fe_un fu_neg fe_int) (fa_cons (fe_un fu_neg fe_int) fa_nil))) (fe_tup (fa_cons (fe_tup (fa_cons fe_int (fa_cons fe_int fa_nil))) (fa_cons (fe_tup (fa_cons fe_int (fa_cons fe_int fa_nil))) fa_nil))) (fps2_cons (fe_tup (fa_cons (fe_un fu_neg fe_int) (fa_cons (fe_un fu_neg fe_int) fa_nil))) (fe_tup (fa_cons (fe_tup (fa_cons fe_int (fa_cons fe_int fa_nil))) (fa_cons (fe_tup (fa_cons fe_int (fa_cons fe_int fa_nil))) fa_nil))) (fps2_cons (fe_tup (fa_cons (fe_un fu_neg fe_int) (fa_cons (fe_un fu_neg fe_int) fa_nil))) (fe_tup (fa_cons (fe_tup (fa_cons fe_int (fa_cons fe_int fa_nil))) (fa_cons (fe_tup (fa_cons fe_int (fa_cons fe_int fa_nil))) fa_nil))) fps2_nil)))))) (by rfl) (by simp [pairTrees]) (by simp [pairTrees])))
    (fss_one (fs_ret (fe_ix (fo_ix (Room.u1 hr)) (fe_var 1) (fe_tup (fa_cons (fe_ix (fo_ix (Room.u1 hr)) (fe_ix (fo_ix (Room.u1 hr)) (fe_var 0) fe_int) fe_int) (fa_cons (fe_ix (fo_ix (Room.u1 hr)) (fe_ix (fo_ix (Room.u1 hr)) (fe_var 0) fe_int) fe_int) fa_nil)))))))
theorem sc__law_line : FnScope N__law_line ["_law_matrix", "_law_weight", "_law_count"] (defScope s__law_line) := ⟨rfl, rfl, rfl, by decide +kernel, rfl, by decide +kernel, by decide +kernel⟩
theorem d__law_line
    (D__law_axes : DefOk p P w K mg base "_law_axes" s__law_axes ["_law_matrix"] 1 F__law_axes)
    (m_str : mg "str" = none)
    (U : UDef K mg "_law_line" s__law_line) : DefOk p P w K mg base "_law_line" s__law_line ["_law_matrix", "_law_weight", "_law_count"] 2 F__law_line := by
  have sc := sc__law_line
  refine def_mk (k := 1) U sc (fun _ _ _ _ _ _ us hl => match us, hl with | [_, _, _], _ => rfl) fun f cdv A outer s H E hr => ?_
  have tk := takes_of (X := cxOf (L2.CX P w) P w K mg base N__law_line "_law_line" (defScope s__law_line) f cdv A outer s H E) rfl rfl rfl rfl
  exact (fss_cons (fs_asg (fe_tup (fa_cons (fe_var 1) (fa_cons (fe_fn D__law_axes tk (hr.mono (by decide)) (fa_cons (fe_var 0) fa_nil)) fa_nil))) (fg_tup rfl (fgs_cons (fg_tup rfl (fgs_cons (fg_name 3 sc.nd) (fgs_cons (fg_name 4 sc.nd) fgs_nil))) (fgs_cons (fg_tup rfl (fgs_cons (fg_name 5 sc.nd) (fgs_cons (fg_name 6 sc.nd) fgs_nil))) fgs_nil))))
    (fss_cons (fs_par 7 8 rfl sc.nd (fe_op fo_add (fe_op fo_mul (fe_var 3) (fe_ix (fo_ix (Room.u1 hr)) (fe_var 5) fe_int)) (fe_op fo_mul (fe_var 4) (fe_ix (fo_ix (Room.u1 hr)) (fe_var 6) fe_int))) (fe_op fo_add (fe_op fo_mul (fe_var 3) (fe_ix (fo_ix (Room.u1 hr)) (fe_var 5) fe_int)) (fe_op fo_mul (fe_var 4) (fe_ix (fo_ix (Room.u1 hr)) (fe_var 6) fe_int))))
    (fss_one (fs_ret (fe_op fo_add (fe_op fo_add (fe_op fo_add (fe_op fo_add (fe_op fo_add (fe_op fo_add (fe_str [60, 116, 101, 120, 116, 32, 120, 61, 34] (by kernel_rfl)) (fe_callTy fc_str m_str (by rfl) (fa_cons (fe_var 7) fa_nil))) (fe_str [34, 32, 121, 61, 34] (by kernel_rfl))) (fe_callTy fc_str m_str (by rfl) (fa_cons (fe_op fo_sub fe_int (fe_var 8)) fa_nil))) (fe_str [34, 62] (by kernel_rfl))) (fe_callTy fc_str m_str (by rfl) (fa_cons (fe_var 2) fa_nil))) (fe_str [60, 47, 116, 101, 120, 116, 62] (by kernel_rfl)))))))
theorem sc__law_head : FnScope N__law_head [] (defScope s__law_head) := ⟨rfl, rfl, rfl, by decide +kernel, rfl, by decide +kernel, by decide +kernel⟩
theorem d__law_head
    
    (U : UDef K mg "_law_head" s__law_head) : DefOk p P w K mg base "_law_head" s__law_head [] 1 F__law_head := by
  have sc := sc__law_head
  refine def_mk (k := 0) U sc (fun _ _ _ _ _ _ us hl => match us, hl with | [], _ => rfl) fun f cdv A outer s H E hr => ?_
  have tk := takes_of (X := cxOf (L2.CX P w) P w K mg base N__law_head "_law_head" (defScope s__law_head) f cdv A outer s H E) rfl rfl rfl rfl
  exact (fss_one (fs_ret (fe_str [60, 115, 118, 103, 32, 120, 109, 108, 110, 115, 61, 34, 104, 116, 116, 112, 58, 47, 47, 119, 119, 119, 46, 119, 51, 46, 111, 114, 103, 47, 50, 48, 48, 48, 47, 115, 118, 103, 34, 32, 118, 105, 101, 119, 66, 111, 120, 61, 34, 45, 51, 48, 48, 32, 45, 51, 48, 48, 32, 54, 48, 48, 32, 54, 48, 48, 34, 62] (by kernel_rfl))))
theorem sc__law_text : FnScope N__law_text ["_law_matrix", "_law_table"] (defScope s__law_text) := ⟨rfl, rfl, rfl, by decide +kernel, rfl, by decide +kernel, by decide +kernel⟩
theorem d__law_text
    (D__law_head : DefOk p P w K mg base "_law_head" s__law_head [] 1 F__law_head)
    (D__law_line : DefOk p P w K mg base "_law_line" s__law_line ["_law_matrix", "_law_weight", "_law_count"] 2 F__law_line)
    (U : UDef K mg "_law_text" s__law_text) : DefOk p P w K mg base "_law_text" s__law_text ["_law_matrix", "_law_table"] 3 F__law_text := by
  have sc := sc__law_text
  refine def_mk (k := 2) U sc (fun _ _ _ _ _ _ us hl => match us, hl with | [_, _], _ => rfl) fun f cdv A outer s H E hr => ?_
  have tk := takes_of (X := cxOf (L2.CX P w) P w K mg base N__law_text "_law_text" (defScope s__law_text) f cdv A outer s H E) rfl rfl rfl rfl
  exact (fss_one (fs_ret (fe_join (fe_str [10] (by kernel_rfl)) (fl_val (fe_op fo_add (fe_op fo_add (fe_lst (fa_cons (fe_fn0 D__law_head tk (hr.mono (by decide))) fa_nil)) (fe_new (fn_lcV (own := [("_law_weight", 2), ("_law_count", 3)]) rfl sc.nd (fe_var 1) (blkOk_by (by kernel_rfl)) (fun _ _ _ _ _ => (fp_tup rfl (fps_cons (fp_name 2 sc.nd) (fps_cons (fp_name 3 sc.nd) fps_nil)))) (fun _ _ _ _ _ => fts_nil) (fun _ _ _ _ _ => (fe_fn D__law_line takes0 (hr.mono (by decide)) (fa_cons (fe_var 0) (fa_cons (fe_var 2) (fa_cons (fe_var 3) fa_nil)))))))) (fe_lst (fa_cons (fe_str [60, 47, 115, 118, 103, 62] (by kernel_rfl)) fa_nil)))))))
theorem sc__law_whole : FnScope N__law_whole ["_law_text_here"] (defScope s__law_whole) := ⟨rfl, rfl, rfl, by decide +kernel, rfl, by decide +kernel, by decide +kernel⟩
theorem d__law_whole
    (m_all : mg "all" = none)
    (m_int : mg "int" = none)
    (m_len : mg "len" = none)
    (m_str : mg "str" = none)
    (U : UDef K mg "_law_whole" s__law_whole) : DefOk p P w K mg base "_law_whole" s__law_whole ["_law_text_here"] 1 F__law_whole := by
  have sc := sc__law_whole
  refine def_mk (k := 0) U sc (fun _ _ _ _ _ _ us hl => match us, hl with | [_], _ => rfl) fun f cdv A outer s H E hr => ?_
  have tk := takes_of (X := cxOf (L2.CX P w) P w K mg base N__law_whole "_law_whole" (defScope s__law_whole) f cdv A outer s H E) rfl rfl rfl rfl
  exact (fss_cons (fs_set 1 sc.nd (fe_ifExp (ft_cmp (fo_eq (Room.u64 hr)) (fe_sl (fe_var 0) fpa_no (fpa_so fe_int)) (fe_str [45] (by kernel_rfl))) (fe_sl (fe_var 0) (fpa_so fe_int) fpa_no) (fe_var 0)))
    (fss_cons (fs_if (FW.ft (fw_or (ft_cmp (fo_eq (Room.u64 hr)) (fe_var 1) (fe_str [] (by kernel_rfl))) (fw_or (ft_cmp fo_gt (fe_callB fc_len m_len (by rfl) (fa_cons (fe_var 1) fa_nil)) fe_int) (fw_or1 (ft_not (ft_tru (fe_callLB (cl_all rfl) m_all (by rfl) (fl_new (fn_lcV (own := [("_law_sign", 2)]) rfl sc.nd (fe_var 1) (blkOk_by (by kernel_rfl)) (fun _ _ _ _ _ => (fp_name 2 sc.nd)) (fun _ _ _ _ _ => fts_nil) (fun _ _ _ _ _ => (fe_cmp (fo_in (Room.u65 hr)) (fe_var 2) (fe_str [48, 49, 50, 51, 52, 53, 54, 55, 56, 57] (by kernel_rfl))))))))))))) (fss_one (fs_ret fe_non)) fss_nil)
    (fss_one (fs_ret (fe_ifExp (ft_cmp (fo_eq (Room.u64 hr)) (fe_callTy fc_str m_str (by rfl) (fa_cons (fe_callTy fc_intS m_int (by rfl) (fa_cons (fe_var 0) fa_nil)) fa_nil)) (fe_var 0)) (fe_callTy fc_intS m_int (by rfl) (fa_cons (fe_var 0) fa_nil)) fe_non)))))
theorem sc__law_pair : FnScope N__law_pair ["_law_matrix", "_law_line_here"] (defScope s__law_pair) := ⟨rfl, rfl, rfl, by decide +kernel, rfl, by decide +kernel, by decide +kernel⟩
theorem d__law_pair
    (D__law_axes : DefOk p P w K mg base "_law_axes" s__law_axes ["_law_matrix"] 1 F__law_axes)
    (D__law_line : DefOk p P w K mg base "_law_line" s__law_line ["_law_matrix", "_law_weight", "_law_count"] 2 F__law_line)
    (D__law_whole : DefOk p P w K mg base "_law_whole" s__law_whole ["_law_text_here"] 1 F__law_whole)
    (m_len : mg "len" = none)
    (U : UDef K mg "_law_pair" s__law_pair) : DefOk p P w K mg base "_law_pair" s__law_pair ["_law_matrix", "_law_line_here"] 3 F__law_pair := by
  have sc := sc__law_pair
  refine def_mk (k := 2) U sc (fun _ _ _ _ _ _ us hl => match us, hl with | [_, _], _ => rfl) fun f cdv A outer s H E hr => ?_
  have tk := takes_of (X := cxOf (L2.CX P w) P w K mg base N__law_pair "_law_pair" (defScope s__law_pair) f cdv A outer s H E) rfl rfl rfl rfl
  exact (fss_cons (fs_set 2 sc.nd (fe_mt PySem.F.plainAttrs_str PySem.F.slot_str_split PySem.F.type_str_split fm_split (fe_var 1) (fa_cons (fe_str [34] (by kernel_rfl)) fa_nil)))
    (fss_cons (fs_if (ft_cmp (fo_ne (Room.u64 hr)) (fe_callB fc_len m_len (by rfl) (fa_cons (fe_var 2) fa_nil)) fe_int) (fss_one (fs_ret fe_non)) fss_nil)
    (fss_cons (fs_par3 3 4 5 rfl sc.nd (fe_fn D__law_whole tk (hr.mono (by decide)) (fa_cons (fe_ix (fo_ix (Room.u1 hr)) (fe_var 2) fe_int) fa_nil)) (fe_fn D__law_whole tk (hr.mono (by decide)) (fa_cons (fe_ix (fo_ix (Room.u1 hr)) (fe_var 2) fe_int) fa_nil)) (fe_fn D__law_whole tk (hr.mono (by decide)) (fa_cons (fe_sl (fe_ix (fo_ix (Room.u1 hr)) (fe_var 2) fe_int) (fpa_so fe_int) (fpa_so (fe_op fo_sub (fe_callB fc_len m_len (by rfl) (fa_cons (fe_ix (fo_ix (Room.u1 hr)) (fe_var 2) fe_int) fa_nil)) fe_int))) fa_nil)))
    (fss_cons (fs_if (FW.ft (fw_or (ft_cmp fo_is (fe_var 3) fe_non) (fw_or (ft_cmp fo_is (fe_var 4) fe_non) (fw_or (ft_cmp fo_is (fe_var 5) fe_non) (fw_or1 (ft_cmp (fo_eq (Room.u64 hr)) (fe_var 5) fe_int)))))) (fss_one (fs_ret fe_non)) fss_nil)
    (fss_cons (fs_asg (fe_fn D__law_axes tk (hr.mono (by decide)) (fa_cons (fe_var 0) fa_nil)) (fg_tup rfl (fgs_cons (fg_name 6 sc.nd) (fgs_cons (fg_name 7 sc.nd) fgs_nil))))
    (fss_cons (fs_set 8 sc.nd (fe_op fo_sub (fe_op fo_mul (fe_ix (fo_ix (Room.u1 hr)) (fe_var 6) fe_int) (fe_ix (fo_ix (Room.u1 hr)) (fe_var 7) fe_int)) (fe_op fo_mul (fe_ix (fo_ix (Room.u1 hr)) (fe_var 6) fe_int) (fe_ix (fo_ix (Room.u1 hr)) (fe_var 7) fe_int))))
    (fss_cons (fs_set 9 sc.nd (fe_tup (fa_cons (fe_op fo_fdivN (fe_op fo_add (fe_op fo_mul (fe_var 3) (fe_ix (fo_ix (Room.u1 hr)) (fe_var 7) fe_int)) (fe_op fo_mul (fe_var 4) (fe_ix (fo_ix (Room.u1 hr)) (fe_var 7) fe_int))) (fe_var 8)) (fa_cons (fe_op fo_fdivN (fe_op fo_sub (fe_op fo_sub fe_int (fe_op fo_mul (fe_ix (fo_ix (Room.u1 hr)) (fe_var 6) fe_int) (fe_var 4))) (fe_op fo_mul (fe_ix (fo_ix (Room.u1 hr)) (fe_var 6) fe_int) (fe_var 3))) (fe_var 8)) fa_nil))))
    (fss_one (fs_ret (fe_ifExp (ft_cmp (fo_eq (Room.u64 hr)) (fe_fn D__law_line tk (hr.mono (by decide)) (fa_cons (fe_var 0) (fa_cons (fe_var 9) (fa_cons (fe_var 5) fa_nil)))) (fe_var 1)) (fe_tup (fa_cons (fe_var 9) (fa_cons (fe_var 5) fa_nil))) fe_non))))))))))
theorem sc__law_read : FnScope N__law_read ["_law_matrix", "_law_text_here"] (defScope s__law_read) := ⟨rfl, rfl, rfl, by decide +kernel, rfl, by decide +kernel, by decide +kernel⟩
theorem d__law_read
    (D__law_head : DefOk p P w K mg base "_law_head" s__law_head [] 1 F__law_head)
    (D__law_pair : DefOk p P w K mg base "_law_pair" s__law_pair ["_law_matrix", "_law_line_here"] 3 F__law_pair)
    (m_abs : mg "abs" = none)
    (m_len : mg "len" = none)
    (m_range : mg "range" = none)
    (m_tuple : mg "tuple" = none)
    (U : UDef K mg "_law_read" s__law_read) : DefOk p P w K mg base "_law_read" s__law_read ["_law_matrix", "_law_text_here"] 4 F__law_read := by
  have sc := sc__law_read
  refine def_mk (k := 3) U sc (fun _ _ _ _ _ _ us hl => match us, hl with | [_, _], _ => rfl) fun f cdv A outer s H E hr => ?_
  have tk := takes_of (X := cxOf (L2.CX P w) P w K mg base N__law_read "_law_read" (defScope s__law_read) f cdv A outer s H E) rfl rfl rfl rfl
  exact (fss_cons (fs_par3 2 3 4 rfl sc.nd (fe_mt PySem.F.plainAttrs_str PySem.F.slot_str_split PySem.F.type_str_split fm_split (fe_var 1) (fa_cons (fe_str [10] (by kernel_rfl)) fa_nil)) (fe_lst fa_nil) fe_int)
    (fss_cons (fs_if (ft_cmp (fo_ne (Room.u64 hr)) (fe_ix (fo_ix (Room.u1 hr)) (fe_var 2) fe_int) (fe_fn0 D__law_head tk (hr.mono (by decide)))) (fss_one (fs_ret (fe_tup (fa_cons (fe_str [98, 97, 100] (by kernel_rfl)) (fa_cons fe_int fa_nil))))) fss_nil)
    (fss_cons (fs_for (passes_of rfl) rfl (fi_rg2 m_range (fa_cons fe_int (fa_cons (fe_callB fc_len m_len (by rfl) (fa_cons (fe_var 2) fa_nil)) fa_nil))) (fp_name 5 sc.nd) (fss_cons (fs_if (ft_cmp (fo_eq (Room.u64 hr)) (fe_ix (fo_ix (Room.u1 hr)) (fe_var 2) (fe_var 5)) (fe_str [60, 47, 115, 118, 103, 62] (by kernel_rfl))) (fss_one (fs_ret (fe_ifExp (ft_cmp (fo_eq (Room.u64 hr)) (fe_var 5) (fe_op fo_sub (fe_callB fc_len m_len (by rfl) (fa_cons (fe_var 2) fa_nil)) fe_int)) (fe_callTy fc_tup m_tuple (by rfl) (fa_cons (fe_var 3) fa_nil)) (fe_tup (fa_cons (fe_str [98, 97, 100] (by kernel_rfl)) (fa_cons (fe_op fo_add (fe_var 5) fe_int) fa_nil)))))) fss_nil)
    (fss_cons (fs_set 6 sc.nd (fe_fn D__law_pair tk (hr.mono (by decide)) (fa_cons (fe_var 0) (fa_cons (fe_ix (fo_ix (Room.u1 hr)) (fe_var 2) (fe_var 5)) fa_nil))))
    (fss_cons (fs_if (FW.ft (fw_or (ft_cmp fo_is (fe_var 6) fe_non) (fw_or1 (FW.ft (fw_and (ft_cmp (fo_ne (Room.u64 hr)) (fe_var 3) (fe_lst fa_nil)) (fw_and1 (ft_cmp (fo_leT (Room.u0 hr)) (fe_ix (fo_ix (Room.u1 hr)) (fe_var 6) fe_int) (fe_ix (fo_ix (Room.u1 hr)) (fe_ix (fo_ix (Room.u1 hr)) (fe_var 3) (fe_op fo_sub (fe_callB fc_len m_len (by rfl) (fa_cons (fe_var 3) fa_nil)) fe_int)) fe_int)))))))) (fss_one (fs_ret (fe_tup (fa_cons (fe_str [98, 97, 100] (by kernel_rfl)) (fa_cons (fe_var 5) fa_nil))))) fss_nil)
    (fss_cons (fs_set 4 sc.nd (fe_op fo_add (fe_var 4) (fe_callB fc_abs m_abs (by rfl) (fa_cons (fe_ix (fo_ix (Room.u1 hr)) (fe_var 6) fe_int) fa_nil))))
    (fss_cons (fs_if (ft_cmp fo_gt (fe_var 4) fe_int) (fss_one (fs_ret (fe_tup (fa_cons (fe_str [98, 97, 100] (by kernel_rfl)) (fa_cons (fe_var 5) fa_nil))))) fss_nil)
    (fss_one (fs_exp (fe_mt PySem.F.plainAttrs_list PySem.F.slot_list_append PySem.F.type_list_append fm_app (fe_var 3) (fa_cons (fe_var 6) fa_nil))))))))))
    (fss_one (fs_ret (fe_tup (fa_cons (fe_str [98, 97, 100] (by kernel_rfl)) (fa_cons (fe_callB fc_len m_len (by rfl) (fa_cons (fe_var 2) fa_nil)) fa_nil))))))))
theorem sc__law_number : FnScope N__law_number ["_law_well_here"] (defScope s__law_number) := ⟨rfl, rfl, rfl, by decide +kernel, rfl, by decide +kernel, by decide +kernel⟩
theorem d__law_number
    (D__law_draw : DefOk p P w K mg base "_law_draw" s__law_draw ["_law_well_here", "_law_most"] 1 F__law_draw)
    (D__law_pick : DefOk p P w K mg base "_law_pick" s__law_pick ["_law_well_here", "_law_some"] 2 F__law_pick)
    (U : UDef K mg "_law_number" s__law_number) : DefOk p P w K mg base "_law_number" s__law_number ["_law_well_here"] 3 F__law_number := by
  have sc := sc__law_number
  refine def_mk (k := 2) U sc (fun _ _ _ _ _ _ us hl => match us, hl with | [_], _ => rfl) fun f cdv A outer s H E hr => ?_
  have tk := takes_of (X := cxOf (L2.CX P w) P w K mg base N__law_number "_law_number" (defScope s__law_number) f cdv A outer s H E) rfl rfl rfl rfl
  exact (fss_cons (fs_set 1 sc.nd (fe_fn D__law_draw tk (hr.mono (by decide)) (fa_cons (fe_var 0) (fa_cons fe_int fa_nil))))
    (fss_cons (fs_if (ft_cmp fo_gt (fe_var 1) fe_int) (fss_one (fs_ret (fe_op fo_sub (fe_fn D__law_draw tk (hr.mono (by decide)) (fa_cons (fe_var 0) (fa_cons fe_int fa_nil))) fe_int))) fss_nil)
    (fss_cons (fs_set 2 sc.nd (fe_op fo_add (fe_fn D__law_pick tk (hr.mono (by decide)) (fa_cons (fe_var 0) (fa_cons (fe_tup (fa_cons (fe_op fo_pow fe_int fe_int) (fa_cons (fe_op fo_pow fe_int fe_int) (fa_cons (fe_op fo_pow fe_int fe_int) (fa_cons (fe_op fo_mul (fe_op fo_pow fe_int fe_int) (fe_op fo_pow fe_int fe_int)) fa_nil))))) fa_nil))) (fe_fn D__law_draw tk (hr.mono (by decide)) (fa_cons (fe_var 0) (fa_cons fe_int fa_nil)))))
    (fss_one (fs_ret (fe_ifExp (ft_cmp (fo_eq (Room.u64 hr)) (fe_fn D__law_draw tk (hr.mono (by decide)) (fa_cons (fe_var 0) (fa_cons fe_int fa_nil))) fe_int) (fe_var 2) (fe_op fo_sub fe_int (fe_var 2))))))))
theorem sc__law_drawn : FnScope N__law_drawn ["_law_well_here"] (defScope s__law_drawn) := ⟨rfl, rfl, rfl, by decide +kernel, rfl, by decide +kernel, by decide +kernel⟩
theorem d__law_drawn
    (D__law_draw : DefOk p P w K mg base "_law_draw" s__law_draw ["_law_well_here", "_law_most"] 1 F__law_draw)
    (D__law_number : DefOk p P w K mg base "_law_number" s__law_number ["_law_well_here"] 3 F__law_number)
    (m_abs : mg "abs" = none)
    (m_range : mg "range" = none)
    (m_sorted : mg "sorted" = none)
    (m_sum : mg "sum" = none)
    (m_tuple : mg "tuple" = none)
    (U : UDef K mg "_law_drawn" s__law_drawn) : DefOk p P w K mg base "_law_drawn" s__law_drawn ["_law_well_here"] 4 F__law_drawn := by
  have sc := sc__law_drawn
  refine def_mk (k := 3) U sc (fun _ _ _ _ _ _ us hl => match us, hl with | [_], _ => rfl) fun f cdv A outer s H E hr => ?_
  have tk := takes_of (X := cxOf (L2.CX P w) P w K mg base N__law_drawn "_law_drawn" (defScope s__law_drawn) f cdv A outer s H E) rfl rfl rfl rfl
  exact (fss_cons (fs_asg (fe_tup (fa_cons fe_dict0T (fa_cons fe_int fa_nil))) (fg_tup rfl (fgs_cons (fg_name 1 sc.nd) (fgs_cons (fg_name 2 sc.nd) fgs_nil))))
    (fss_cons (fs_for (passes_of rfl) rfl (fi_rg1 m_range (fa_cons (fe_fn D__law_draw tk (hr.mono (by decide)) (fa_cons (fe_var 0) (fa_cons fe_int fa_nil))) fa_nil)) (fp_name 3 sc.nd) (fss_cons (fs_set 4 sc.nd (fe_fn D__law_number tk (hr.mono (by decide)) (fa_cons (fe_var 0) fa_nil)))
    (fss_cons (fs_set 5 sc.nd (fe_fn D__law_number tk (hr.mono (by decide)) (fa_cons (fe_var 0) fa_nil)))
    (fss_cons (fs_set 6 sc.nd (fe_op fo_add fe_int (fe_ifExp (ft_cmp fo_gt (fe_fn D__law_draw tk (hr.mono (by decide)) (fa_cons (fe_var 0) (fa_cons fe_int fa_nil))) fe_int) (fe_fn D__law_draw tk (hr.mono (by decide)) (fa_cons (fe_var 0) (fa_cons fe_int fa_nil))) (fe_fn D__law_draw tk (hr.mono (by decide)) (fa_cons (fe_var 0) (fa_cons fe_int fa_nil))))))
    (fss_one (fs_asg (fe_ifExp (ft_cmp fo_gt (fe_fn D__law_draw tk (hr.mono (by decide)) (fa_cons (fe_var 0) (fa_cons fe_int fa_nil))) fe_int) (fe_var 6) (fe_op fo_sub fe_int (fe_var 6))) (fg_ix (W := WN) (Room.u1 hr) (fe_var 1) (fe_tup (fa_cons (fe_var 4) (fa_cons (fe_var 5) fa_nil))))))))))
    (fss_cons (fs_setLcV (own := [("_law_each", 8)]) rfl sc.nd (i := 7) rfl rfl (sw_true rfl rfl rfl rfl) (fe_callLB (cl_sorted (Room.u66 hr)) m_sorted (by rfl) (fl_new (fn_lcV (own := [("_law_one", 4)]) rfl sc.nd (fe_var 1) (blkOk_by (by kernel_rfl)) (fun _ _ _ _ _ => (fp_name 4 sc.nd)) (fun _ _ _ _ _ => fts_nil) (fun _ _ _ _ _ => (fe_var 4))))) (blkOk_by (by kernel_rfl)) (fun _ _ _ _ _ => (fp_name 8 sc.nd)) (fun _ _ _ _ _ => fts_nil) (fun _ _ _ _ _ => (fe_tup (fa_cons (fe_var 8) (fa_cons (fe_ix (fo_ix (Room.u1 hr)) (fe_var 1) (fe_var 8)) fa_nil)))))
    (fss_cons (fs_if (FW.ft (fw_and (ft_cmp (fo_ne (Room.u64 hr)) (fe_var 7) (fe_lst fa_nil)) (fw_and1 (ft_cmp (fo_eq (Room.u64 hr)) (fe_fn D__law_draw tk (hr.mono (by decide)) (fa_cons (fe_var 0) (fa_cons fe_int fa_nil))) fe_int)))) (fss_cons (fs_set 2 sc.nd (fe_callLB (cl_sum rfl) m_sum (by rfl) (fl_new (fn_lcV (own := [("_law_each", 8), ("_law_count", 6)]) rfl sc.nd (fe_sl (fe_var 7) (fpa_so fe_int) fpa_no) (blkOk_by (by kernel_rfl)) (fun _ _ _ _ _ => (fp_tup rfl (fps_cons (fp_name 8 sc.nd) (fps_cons (fp_name 6 sc.nd) fps_nil)))) (fun _ _ _ _ _ => fts_nil) (fun _ _ _ _ _ => (fe_callB fc_abs m_abs (by rfl) (fa_cons (fe_var 6) fa_nil)))))))
    (fss_one (fs_set 7 sc.nd (fe_op fo_add (fe_lst (fa_cons (fe_tup (fa_cons (fe_ix (fo_ix (Room.u1 hr)) (fe_ix (fo_ix (Room.u1 hr)) (fe_var 7) fe_int) fe_int) (fa_cons (fe_op fo_sub fe_int (fe_var 2)) fa_nil))) fa_nil)) (fe_sl (fe_var 7) (fpa_so fe_int) fpa_no))))) fss_nil)
    (fss_one (fs_ret (fe_callTy fc_tup m_tuple (by rfl) (fa_cons (fe_var 7) fa_nil))))))))
theorem sc__law_bent_line : FnScope N__law_bent_line ["_law_well_here", "_law_matrix", "_law_line_here"] (defScope s__law_bent_line) := ⟨rfl, rfl, rfl, by decide +kernel, rfl, by decide +kernel, by decide +kernel⟩
theorem d__law_bent_line
    (D__law_draw : DefOk p P w K mg base "_law_draw" s__law_draw ["_law_well_here", "_law_most"] 1 F__law_draw)
    (D__law_head : DefOk p P w K mg base "_law_head" s__law_head [] 1 F__law_head)
    (D__law_pick : DefOk p P w K mg base "_law_pick" s__law_pick ["_law_well_here", "_law_some"] 2 F__law_pick)
    (m_len : mg "len" = none)
    (m_str : mg "str" = none)
    (U : UDef K mg "_law_bent_line" s__law_bent_line) : DefOk p P w K mg base "_law_bent_line" s__law_bent_line ["_law_well_here", "_law_matrix", "_law_line_here"] 3 F__law_bent_line := by
  have sc := sc__law_bent_line
  refine def_mk (k := 2) U sc (fun _ _ _ _ _ _ us hl => match us, hl with | [_, _, _], _ => rfl) fun f cdv A outer s H E hr => ?_
  have tk := takes_of (X := cxOf (L2.CX P w) P w K mg base N__law_bent_line "_law_bent_line" (defScope s__law_bent_line) f cdv A outer s H E) rfl rfl rfl rfl
  exact (fss_cons (fs_par 3 4 rfl sc.nd (fe_fn D__law_draw tk (hr.mono (by decide)) (fa_cons (fe_var 0) (fa_cons fe_int fa_nil))) (fe_mt PySem.F.plainAttrs_str PySem.F.slot_str_split PySem.F.type_str_split fm_split (fe_var 2) (fa_cons (fe_str [34] (by kernel_rfl)) fa_nil)))
    (fss_cons (fs_if (FW.ft (fw_or (ft_cmp (fo_ne (Room.u64 hr)) (fe_callB fc_len m_len (by rfl) (fa_cons (fe_var 4) fa_nil)) fe_int) (fw_or1 (ft_cmp (fo_eq (Room.u64 hr)) (fe_var 3) fe_int)))) (fss_cons (fs_set 5 sc.nd (fe_fn D__law_draw tk (hr.mono (by decide)) (fa_cons (fe_var 0) (fa_cons (fe_op fo_add (fe_callB fc_len m_len (by rfl) (fa_cons (fe_var 2) fa_nil)) fe_int) fa_nil))))
    (fss_one (fs_ret (fe_op fo_add (fe_op fo_add (fe_sl (fe_var 2) fpa_no (fpa_so (fe_var 5))) (fe_fn D__law_pick tk (hr.mono (by decide)) (fa_cons (fe_var 0) (fa_cons (fe_tup (fa_cons (fe_str [32] (by kernel_rfl)) (fa_cons (fe_str [48] (by kernel_rfl)) (fa_cons (fe_str [45] (by kernel_rfl)) (fa_cons (fe_str [47] (by kernel_rfl)) (fa_cons (fe_str [60] (by kernel_rfl)) (fa_cons (fe_str [34] (by kernel_rfl)) (fa_cons (fe_str [49] (by kernel_rfl)) fa_nil)))))))) fa_nil)))) (fe_sl (fe_var 2) (fpa_so (fe_var 5)) fpa_no))))) fss_nil)
    (fss_cons (fs_if (ft_cmp (fo_eq (Room.u64 hr)) (fe_var 3) fe_int) (fss_cons (fs_set 5 sc.nd (fe_fn D__law_draw tk (hr.mono (by decide)) (fa_cons (fe_var 0) (fa_cons (fe_callB fc_len m_len (by rfl) (fa_cons (fe_var 2) fa_nil)) fa_nil))))
    (fss_one (fs_ret (fe_op fo_add (fe_sl (fe_var 2) fpa_no (fpa_so (fe_var 5))) (fe_sl (fe_var 2) (fpa_so (fe_op fo_add (fe_var 5) fe_int)) fpa_no))))) fss_nil)
    (fss_cons (fs_if (ft_cmp (fo_lt (Room.u0 hr)) (fe_var 3) fe_int) (fss_cons (fs_set 5 sc.nd (fe_fn D__law_pick tk (hr.mono (by decide)) (fa_cons (fe_var 0) (fa_cons (fe_tup (fa_cons fe_int (fa_cons fe_int fa_nil))) fa_nil))))
    (fss_cons (fs_asg (fe_op fo_add (fe_fn D__law_pick tk (hr.mono (by decide)) (fa_cons (fe_var 0) (fa_cons (fe_tup (fa_cons (fe_str [43] (by kernel_rfl)) (fa_cons (fe_str [48] (by kernel_rfl)) (fa_cons (fe_str [45] (by kernel_rfl)) (fa_cons (fe_str [32] (by kernel_rfl)) (fa_cons (fe_str [49] (by kernel_rfl)) (fa_cons (fe_str [45, 45] (by kernel_rfl)) fa_nil))))))) fa_nil))) (fe_ix (fo_ix (Room.u1 hr)) (fe_var 4) (fe_var 5))) (fg_ix (W := WN) (Room.u1 hr) (fe_var 4) (fe_var 5)))
    (fss_one (fs_ret (fe_join (fe_str [34] (by kernel_rfl)) (fl_val (fe_var 4))))))) fss_nil)
    (fss_cons (fs_if (ft_cmp (fo_lt (Room.u0 hr)) (fe_var 3) fe_int) (fss_cons (fs_set 5 sc.nd (fe_fn D__law_pick tk (hr.mono (by decide)) (fa_cons (fe_var 0) (fa_cons (fe_tup (fa_cons fe_int (fa_cons fe_int fa_nil))) fa_nil))))
    (fss_cons (fs_asg (fe_callTy fc_str m_str (by rfl) (fa_cons (fe_fn D__law_pick tk (hr.mono (by decide)) (fa_cons (fe_var 0) (fa_cons (fe_tup (fa_cons fe_int (fa_cons fe_int (fa_cons fe_int (fa_cons fe_int (fa_cons fe_int (fa_cons fe_int (fa_cons (fe_un fu_neg fe_int) (fa_cons fe_int fa_nil))))))))) fa_nil))) fa_nil)) (fg_ix (W := WN) (Room.u1 hr) (fe_var 4) (fe_var 5)))
    (fss_one (fs_ret (fe_join (fe_str [34] (by kernel_rfl)) (fl_val (fe_var 4))))))) fss_nil)
    (fss_cons (fs_if (ft_cmp (fo_lt (Room.u0 hr)) (fe_var 3) fe_int) (fss_cons (fs_set 6 sc.nd (fe_fn D__law_pick tk (hr.mono (by decide)) (fa_cons (fe_var 0) (fa_cons (fe_tup (fa_cons (fe_str [48] (by kernel_rfl)) (fa_cons (fe_str [45, 48] (by kernel_rfl)) (fa_cons (fe_str [49, 48, 48, 49] (by kernel_rfl)) (fa_cons (fe_str [48, 49] (by kernel_rfl)) (fa_cons (fe_str [43, 49] (by kernel_rfl)) (fa_cons (fe_str [] (by kernel_rfl)) (fa_cons (fe_str [49, 46] (by kernel_rfl)) (fa_cons (fe_str [45, 49] (by kernel_rfl)) (fa_cons (fe_str [50] (by kernel_rfl)) (fa_cons (fe_str [57, 57, 57] (by kernel_rfl)) (fa_cons (fe_str [49, 48, 48, 48] (by kernel_rfl)) (fa_cons (fe_str [45, 49, 48, 48, 48] (by kernel_rfl)) (fa_cons (fe_str [97] (by kernel_rfl)) fa_nil)))))))))))))) fa_nil))))
    (fss_cons (fs_asg (fe_op fo_add (fe_op fo_add (fe_str [62] (by kernel_rfl)) (fe_var 6)) (fe_str [60, 47, 116, 101, 120, 116, 62] (by kernel_rfl))) (fg_ix (W := WN) (Room.u1 hr) (fe_var 4) fe_int))
    (fss_one (fs_ret (fe_join (fe_str [34] (by kernel_rfl)) (fl_val (fe_var 4))))))) fss_nil)
    (fss_cons (fs_if (ft_cmp (fo_eq (Room.u64 hr)) (fe_var 3) fe_int) (fss_one (fs_ret (fe_mt0 PySem.F.plainAttrs_str PySem.F.slot_str_upper PySem.F.type_str_upper fm_upper (fe_var 2)))) fss_nil)
    (fss_cons (fs_if (ft_cmp (fo_eq (Room.u64 hr)) (fe_var 3) fe_int) (fss_cons (fs_asg (fe_tup (fa_cons (fe_ix (fo_ix (Room.u1 hr)) (fe_var 4) fe_int) (fa_cons (fe_ix (fo_ix (Room.u1 hr)) (fe_var 4) fe_int) fa_nil))) (fg_tup rfl (fgs_cons (fg_ix (W := WN) (Room.u1 hr) (fe_var 4) fe_int) (fgs_cons (fg_ix (W := WN) (Room.u1 hr) (fe_var 4) fe_int) fgs_nil))))
    (fss_one (fs_ret (fe_join (fe_str [34] (by kernel_rfl)) (fl_val (fe_var 4)))))) fss_nil)
    (fss_one (fs_ret (fe_fn D__law_pick tk (hr.mono (by decide)) (fa_cons (fe_var 0) (fa_cons (fe_tup (fa_cons (fe_str [] (by kernel_rfl)) (fa_cons (fe_str [60, 47, 115, 118, 103, 62] (by kernel_rfl)) (fa_cons (fe_op fo_add (fe_str [32] (by kernel_rfl)) (fe_var 2)) (fa_cons (fe_op fo_add (fe_var 2) (fe_str [32] (by kernel_rfl))) (fa_cons (fe_op fo_add (fe_var 2) (fe_var 2)) (fa_cons (fe_fn0 D__law_head tk (hr.mono (by decide))) (fa_cons (fe_str [60, 116, 101, 120, 116, 47, 62] (by kernel_rfl)) fa_nil)))))))) fa_nil)))))))))))))
theorem sc__law_bent : FnScope N__law_bent ["_law_well_here", "_law_matrix", "_law_text_here"] (defScope s__law_bent) := ⟨rfl, rfl, rfl, by decide +kernel, rfl, by decide +kernel, by decide +kernel⟩
theorem d__law_bent
    (D__law_bent_line : DefOk p P w K mg base "_law_bent_line" s__law_bent_line ["_law_well_here", "_law_matrix", "_law_line_here"] 3 F__law_bent_line)
    (D__law_draw : DefOk p P w K mg base "_law_draw" s__law_draw ["_law_well_here", "_law_most"] 1 F__law_draw)
    (D__law_line : DefOk p P w K mg base "_law_line" s__law_line ["_law_matrix", "_law_weight", "_law_count"] 2 F__law_line)
    (D__law_pick : DefOk p P w K mg base "_law_pick" s__law_pick ["_law_well_here", "_law_some"] 2 F__law_pick)
    (m_len : mg "len" = none)
    (U : UDef K mg "_law_bent" s__law_bent) : DefOk p P w K mg base "_law_bent" s__law_bent ["_law_well_here", "_law_matrix", "_law_text_here"] 4 F__law_bent := by
  have sc := sc__law_bent
  refine def_mk (k := 3) U sc (fun _ _ _ _ _ _ us hl => match us, hl with | [_, _, _], _ => rfl) fun f cdv A outer s H E hr => ?_
  have tk := takes_of (X := cxOf (L2.CX P w) P w K mg base N__law_bent "_law_bent" (defScope s__law_bent) f cdv A outer s H E) rfl rfl rfl rfl
  exact (fss_cons (fs_par 3 4 rfl sc.nd (fe_mt PySem.F.plainAttrs_str PySem.F.slot_str_split PySem.F.type_str_split fm_split (fe_var 2) (fa_cons (fe_str [10] (by kernel_rfl)) fa_nil)) (fe_fn D__law_draw tk (hr.mono (by decide)) (fa_cons (fe_var 0) (fa_cons fe_int fa_nil))))
    (fss_cons (fs_set 5 sc.nd (fe_fn D__law_draw tk (hr.mono (by decide)) (fa_cons (fe_var 0) (fa_cons (fe_callB fc_len m_len (by rfl) (fa_cons (fe_var 3) fa_nil)) fa_nil))))
    (fss_cons (fs_if (ft_cmp (fo_lt (Room.u0 hr)) (fe_var 4) fe_int) (fss_one (fs_asg (fe_fn D__law_bent_line tk (hr.mono (by decide)) (fa_cons (fe_var 0) (fa_cons (fe_var 1) (fa_cons (fe_ix (fo_ix (Room.u1 hr)) (fe_var 3) (fe_var 5)) fa_nil)))) (fg_ix (W := WN) (Room.u1 hr) (fe_var 3) (fe_var 5)))) (fss_one (fs_if (ft_cmp (fo_eq (Room.u64 hr)) (fe_var 4) fe_int) (fss_one (fs_set 3 sc.nd (fe_op fo_add (fe_sl (fe_var 3) fpa_no (fpa_so (fe_var 5))) (fe_sl (fe_var 3) (fpa_so (fe_op fo_add (fe_var 5) fe_int)) fpa_no)))) (fss_one (fs_if (ft_cmp (fo_eq (Room.u64 hr)) (fe_var 4) fe_int) (fss_one (fs_set 3 sc.nd (fe_op fo_add (fe_op fo_add (fe_sl (fe_var 3) fpa_no (fpa_so (fe_var 5))) (fe_lst (fa_cons (fe_ix (fo_ix (Room.u1 hr)) (fe_var 3) (fe_var 5)) fa_nil))) (fe_sl (fe_var 3) (fpa_so (fe_var 5)) fpa_no)))) (fss_one (fs_if (FW.ft (fw_and (ft_cmp (fo_eq (Room.u64 hr)) (fe_var 4) fe_int) (fw_and1 (ft_cmp fo_gt (fe_var 5) fe_int)))) (fss_one (fs_asg (fe_tup (fa_cons (fe_ix (fo_ix (Room.u1 hr)) (fe_var 3) (fe_var 5)) (fa_cons (fe_ix (fo_ix (Room.u1 hr)) (fe_var 3) (fe_op fo_sub (fe_var 5) fe_int)) fa_nil))) (fg_tup rfl (fgs_cons (fg_ix (W := WN) (Room.u1 hr) (fe_var 3) (fe_op fo_sub (fe_var 5) fe_int)) (fgs_cons (fg_ix (W := WN) (Room.u1 hr) (fe_var 3) (fe_var 5)) fgs_nil))))) (fss_one (fs_if (ft_cmp (fo_eq (Room.u64 hr)) (fe_var 4) fe_int) (fss_one (fs_set 3 sc.nd (fe_op fo_add (fe_var 3) (fe_lst (fa_cons (fe_fn D__law_pick tk (hr.mono (by decide)) (fa_cons (fe_var 0) (fa_cons (fe_tup (fa_cons (fe_str [] (by kernel_rfl)) (fa_cons (fe_str [32] (by kernel_rfl)) (fa_cons (fe_str [60, 47, 115, 118, 103, 62] (by kernel_rfl)) (fa_cons (fe_ix (fo_ix (Room.u1 hr)) (fe_var 3) (fe_var 5)) fa_nil))))) fa_nil))) fa_nil))))) (fss_one (fs_set 3 sc.nd (fe_op fo_add (fe_op fo_add (fe_sl (fe_var 3) fpa_no (fpa_so (fe_var 5))) (fe_lst (fa_cons (fe_fn D__law_line tk (hr.mono (by decide)) (fa_cons (fe_var 1) (fa_cons (fe_tup (fa_cons (fe_op fo_sub (fe_fn D__law_draw tk (hr.mono (by decide)) (fa_cons (fe_var 0) (fa_cons fe_int fa_nil))) fe_int) (fa_cons (fe_op fo_sub (fe_fn D__law_draw tk (hr.mono (by decide)) (fa_cons (fe_var 0) (fa_cons fe_int fa_nil))) fe_int) fa_nil))) (fa_cons fe_int fa_nil)))) fa_nil))) (fe_sl (fe_var 3) (fpa_so (fe_var 5)) fpa_no)))))))))))))
    (fss_one (fs_ret (fe_join (fe_str [10] (by kernel_rfl)) (fl_val (fe_var 3))))))))
theorem sc__law_heard : FnScope N__law_heard ["_law_matrix", "_law_text_here"] (defScope s__law_heard) := ⟨rfl, rfl, rfl, by decide +kernel, rfl, by decide +kernel, by decide +kernel⟩
theorem d__law_heard
    (D_read_picture : DefOk p P w K mg base "read_picture" s_read_picture ["matrix", "text"] 10 F_read_picture)
    (x2_BadText : mg "BadText" = some (.ref (p.cA 0)))
    (x6_BadText : PySem.W.exmOne K (.ref (p.cA 0)) (.ref (p.cA 0)) = some true)
    (y1_BadText : XfC K (p.cA 0))
    (y2_BadText : PySem.W.findIn K (.ref (p.cA 0)) "spot" = some none)
    (y3_BadText : p.cF 0 = some "spot")
    (U : UDef K mg "_law_heard" s__law_heard) : DefOk p P w K mg base "_law_heard" s__law_heard ["_law_matrix", "_law_text_here"] 11 F__law_heard := by
  have sc := sc__law_heard
  refine def_mk (k := 10) U sc (fun _ _ _ _ _ _ us hl => match us, hl with | [_, _], _ => rfl) fun f cdv A outer s H E hr => ?_
  have tk := takes_of (X := cxOf (L2.CX P w) P w K mg base N__law_heard "_law_heard" (defScope s__law_heard) f cdv A outer s H E) rfl rfl rfl rfl
  exact (fss_cons (fs_tryAs (c0 := 0) rfl rfl sc.nd (i := 3) rfl rfl ⟨rfl, by decide, .inl x2_BadText⟩ tk (catOne_ok2 x6_BadText) (fun _ _ _ t1 t2 => (fss_one (fs_set 2 sc.nd (fe_fnK0 (ks := ["matrix", "text"]) [0, 1] D_read_picture t1 (hr.mono (by decide)) (fk_cons (fe_var 0) (fk_cons (fe_var 1) fk_nil)) (fun _ _ _ _ _ _ us ws h1 h2 => match us, ws, h1, h2 with | [], [_, _], _, _ => rfl) (akl_cons (akl_cons akl_nil)))))) (fun a oe cls dd pn z1 z2 => (fxe_tup2 (fe_str [98, 97, 100] (by kernel_rfl)) (fxe_fld y1_BadText y2_BadText y3_BadText z1 z2 (pv 3)))))
    (fss_one (fs_ret (fe_var 2))))
theorem sc__law_is_right : FnScope N__law_is_right ["_law_well_here"] (defScope s__law_is_right) := ⟨rfl, rfl, rfl, by decide +kernel, rfl, by decide +kernel, by decide +kernel⟩
theorem d__law_is_right
    (D__law_bent : DefOk p P w K mg base "_law_bent" s__law_bent ["_law_well_here", "_law_matrix", "_law_text_here"] 4 F__law_bent)
    (D__law_draw : DefOk p P w K mg base "_law_draw" s__law_draw ["_law_well_here", "_law_most"] 1 F__law_draw)
    (D__law_drawn : DefOk p P w K mg base "_law_drawn" s__law_drawn ["_law_well_here"] 4 F__law_drawn)
    (D__law_heard : DefOk p P w K mg base "_law_heard" s__law_heard ["_law_matrix", "_law_text_here"] 11 F__law_heard)
    (D__law_pick : DefOk p P w K mg base "_law_pick" s__law_pick ["_law_well_here", "_law_some"] 2 F__law_pick)
    (D__law_read : DefOk p P w K mg base "_law_read" s__law_read ["_law_matrix", "_law_text_here"] 4 F__law_read)
    (D__law_text : DefOk p P w K mg base "_law_text" s__law_text ["_law_matrix", "_law_table"] 3 F__law_text)
    (D_picture : DefOk p P w K mg base "picture" s_picture ["matrix", "table"] 10 F_picture)
    (m_range : mg "range" = none)
    (m_repr : mg "repr" = none)
    (U : UDef K mg "_law_is_right" s__law_is_right) : DefOkG p P w K mg base "_law_is_right" s__law_is_right ["_law_well_here"] 12 F__law_is_right := by
  have sc := sc__law_is_right
  refine def_mkG (k := 11) U sc (fun _ _ _ _ _ _ us hl => match us, hl with | [_], _ => rfl) fun f cdv A outer s H E hgd hr => ?_
  have tk := takes_of (X := cxOf (L2.CX P w) P w K mg base N__law_is_right "_law_is_right" (defScope s__law_is_right) f cdv A outer s H E) rfl rfl rfl rfl
  exact (fss_cons (fs_set 1 sc.nd (fe_tup (fa_cons (fe_tup (fa_cons (fe_tup (fa_cons fe_int (fa_cons fe_int fa_nil))) (fa_cons (fe_tup (fa_cons fe_int (fa_cons fe_int fa_nil))) fa_nil))) (fa_cons (fe_tup (fa_cons (fe_tup (fa_cons fe_int (fa_cons (fe_un fu_neg fe_int) fa_nil))) (fa_cons (fe_tup (fa_cons (fe_un fu_neg fe_int) (fa_cons fe_int fa_nil))) fa_nil))) (fa_cons (fe_tup (fa_cons (fe_tup (fa_cons fe_int (fa_cons (fe_un fu_neg fe_int) fa_nil))) (fa_cons (fe_tup (fa_cons (fe_un fu_neg fe_int) (fa_cons fe_int fa_nil))) fa_nil))) (fa_cons (fe_tup (fa_cons (fe_tup (fa_cons fe_int (fa_cons (fe_un fu_neg fe_int) fa_nil))) (fa_cons (fe_tup (fa_cons (fe_un fu_neg fe_int) (fa_cons fe_int fa_nil))) fa_nil))) (fa_cons (fe_tup (fa_cons (fe_tup (fa_cons fe_int (fa_cons (fe_un fu_neg fe_int) fa_nil))) (fa_cons (fe_tup (fa_cons (fe_un fu_neg fe_int) (fa_cons fe_int fa_nil))) fa_nil))) (fa_cons (fe_tup (fa_cons (fe_tup (fa_cons fe_int (fa_cons (fe_un fu_neg fe_int) fa_nil))) (fa_cons (fe_tup (fa_cons (fe_un fu_neg fe_int) (fa_cons fe_int fa_nil))) fa_nil))) fa_nil))))))))
    (fss_cons (fs_par 2 3 rfl sc.nd (fe_fn D__law_pick tk (hr.mono (by decide)) (fa_cons (fe_var 0) (fa_cons (fe_var 1) fa_nil))) (fe_fn D__law_drawn tk (hr.mono (by decide)) (fa_cons (fe_var 0) fa_nil)))
    (fss_cons (fs_set 4 sc.nd (fe_fn D__law_text tk (hr.mono (by decide)) (fa_cons (fe_var 2) (fa_cons (fe_var 3) fa_nil))))
    (fss_cons (fs_set 5 sc.nd (fe_fn D_picture tk (hr.mono (by decide)) (fa_cons (fe_var 2) (fa_cons (fe_var 3) fa_nil))))
    (fss_cons (fs_if (FW.ft (fw_or (ft_cmp (fo_ne (Room.u64 hr)) (fe_callB (fc_reprS hgd (Room.u66 hr)) m_repr (by rfl) (fa_cons (fe_var 5) fa_nil)) (fe_callB (fc_reprS hgd (Room.u66 hr)) m_repr (by rfl) (fa_cons (fe_var 4) fa_nil))) (fw_or1 (ft_cmp (fo_ne (Room.u64 hr)) (fe_callB (fc_reprS hgd (Room.u66 hr)) m_repr (by rfl) (fa_cons (fe_fn D__law_heard tk (hr.mono (by decide)) (fa_cons (fe_var 2) (fa_cons (fe_var 5) fa_nil))) fa_nil)) (fe_callB (fc_reprS hgd (Room.u66 hr)) m_repr (by rfl) (fa_cons (fe_var 3) fa_nil)))))) (fss_one (fs_ret fe_bl)) fss_nil)
    (fss_cons (fs_for (passes_of rfl) rfl (fi_rg1 m_range (fa_cons fe_int fa_nil)) (fp_name 6 sc.nd) (fss_cons (fs_set 7 sc.nd (fe_fn D__law_bent tk (hr.mono (by decide)) (fa_cons (fe_var 0) (fa_cons (fe_var 2) (fa_cons (fe_var 4) fa_nil)))))
    (fss_cons (fs_set 7 sc.nd (fe_ifExp (ft_cmp (fo_eq (Room.u64 hr)) (fe_fn D__law_draw tk (hr.mono (by decide)) (fa_cons (fe_var 0) (fa_cons fe_int fa_nil))) fe_int) (fe_fn D__law_bent tk (hr.mono (by decide)) (fa_cons (fe_var 0) (fa_cons (fe_var 2) (fa_cons (fe_var 7) fa_nil)))) (fe_var 7)))
    (fss_one (fs_if (ft_cmp (fo_ne (Room.u64 hr)) (fe_callB (fc_reprS hgd (Room.u66 hr)) m_repr (by rfl) (fa_cons (fe_fn D__law_heard tk (hr.mono (by decide)) (fa_cons (fe_var 2) (fa_cons (fe_var 7) fa_nil))) fa_nil)) (fe_callB (fc_reprS hgd (Room.u66 hr)) m_repr (by rfl) (fa_cons (fe_fn D__law_read tk (hr.mono (by decide)) (fa_cons (fe_var 2) (fa_cons (fe_var 7) fa_nil))) fa_nil))) (fss_one (fs_ret fe_bl)) fss_nil)))))
    (fss_cons (fs_set 8 sc.nd (fe_fn D__law_pick tk (hr.mono (by decide)) (fa_cons (fe_var 0) (fa_cons (fe_var 1) fa_nil))))
    (fss_one (fs_ret (fe_cmp (fo_eq (Room.u64 hr)) (fe_callB (fc_reprS hgd (Room.u66 hr)) m_repr (by rfl) (fa_cons (fe_fn D__law_heard tk (hr.mono (by decide)) (fa_cons (fe_var 8) (fa_cons (fe_var 4) fa_nil))) fa_nil)) (fe_callB (fc_reprS hgd (Room.u66 hr)) m_repr (by rfl) (fa_cons (fe_fn D__law_read tk (hr.mono (by decide)) (fa_cons (fe_var 8) (fa_cons (fe_var 4) fa_nil))) fa_nil))))))))))))
theorem sc_law : FnScope N_law ["_law_script"] (defScope s_law) := ⟨rfl, rfl, rfl, by decide +kernel, rfl, by decide +kernel, by decide +kernel⟩
theorem d_law
    (D__law_is_right : DefOkG p P w K mg base "_law_is_right" s__law_is_right ["_law_well_here"] 12 F__law_is_right)
    (D__law_well : DefOk p P w K mg base "_law_well" s__law_well ["_law_script"] 1 F__law_well)
    (U : UDef K mg "law" s_law) : DefOkG p P w K mg base "law" s_law ["_law_script"] 13 F_law := by
  have sc := sc_law
  refine def_mkG (k := 12) U sc (fun _ _ _ _ _ _ us hl => match us, hl with | [_], _ => rfl) fun f cdv A outer s H E hgd hr => ?_
  have tk := takes_of (X := cxOf (L2.CX P w) P w K mg base N_law "law" (defScope s_law) f cdv A outer s H E) rfl rfl rfl rfl
  exact (fss_one (fs_ret (fe_fnG D__law_is_right hgd tk (hr.mono (by decide)) (fa_cons (fe_fn D__law_well tk (hr.mono (by decide)) (fa_cons (fe_var 0) fa_nil)) fa_nil))))
end
end K57

set_option Elab.async false
set_option linter.all false
set_option maxRecDepth 100000
set_option maxHeartbeats 0
namespace K57
open PySem PySem.Spec PyProof.Rows L2 DL
abbrev prK (K : PySem.W.Frag) : Pr := { cA := fun n => match n with | 0 => He.ga K "BadText" | _ => 0, cF := fun n => match n with | 0 => some "spot" | _ => none, fA := fun _ => 0 }
theorem facts {P : Program} {w : World} {K : PySem.W.Frag} {h : Heap} {mg : Str → Option Value} {f : Addr} (X : K.In h) (G : h.Ns mainGlobals mg) (hfa : mg ("law" : Str) = some (.ref f)) (c : He.SaysD faD fnD K) (hx : exD K = true) :
    ∃ fd : FuncData, (∀ (s : Shared) (u : Value), BindsTo s fd ⟨[u], []⟩ [("_law_script", u)]) ∧ ∀ base : Heap, K.In base → base.Ns mainGlobals mg → FnOkG P w K mg base (L2.CX P w) 13 f fd ["_law_script"] (spD K (prK K) 1 F_law) := by
  let pr : Pr := prK K
  obtain ⟨e1, z1⟩ := He.ba (show ((He.eqO (PySem.W.nsIn K mainGlobals "gcd") (some (some (.builtin "math.gcd")))) && ((iniB K "BadText" "spot") && ((kindB K "KINDS" [(1, [102, 105, 110, 105, 116, 101]), (0, [97, 102, 102, 105, 110, 101]), (-1, [105, 110, 100, 101, 102, 105, 110, 105, 116, 101])]) && ((conB K "MARKS" t_MARKS) && (dspB K "SPOTS" t_SPOTS))))) = true from hx)
  obtain ⟨e2, z2⟩ := He.ba (show ((iniB K "BadText" "spot") && ((kindB K "KINDS" [(1, [102, 105, 110, 105, 116, 101]), (0, [97, 102, 102, 105, 110, 101]), (-1, [105, 110, 100, 101, 102, 105, 110, 105, 116, 101])]) && ((conB K "MARKS" t_MARKS) && (dspB K "SPOTS" t_SPOTS)))) = true from z1)
  obtain ⟨e3, z3⟩ := He.ba (show ((kindB K "KINDS" [(1, [102, 105, 110, 105, 116, 101]), (0, [97, 102, 102, 105, 110, 101]), (-1, [105, 110, 100, 101, 102, 105, 110, 105, 116, 101])]) && ((conB K "MARKS" t_MARKS) && (dspB K "SPOTS" t_SPOTS))) = true from z2)
  obtain ⟨e4, z4⟩ := He.ba (show ((conB K "MARKS" t_MARKS) && (dspB K "SPOTS" t_SPOTS)) = true from z3)
  have e5 := z4
  have c_DIGITS : ∃ t, mg "DIGITS" = some (.str "0123456789" t) := He.str_ok X G (c.fact 0 (f := .str "DIGITS" "0123456789") rfl)
  have c_END : ∃ t, mg "END" = some (.str "</svg>" t) := He.str_ok X G (c.fact 1 (f := .str "END" "</svg>") rfl)
  have c_HEAD : ∃ t, mg "HEAD" = some (.str "<svg xmlns=\"http://www.w3.org/2000/svg\" viewBox=\"-300 -300 600 600\">" t) := He.str_ok X G (c.fact 2 (f := .str "HEAD" "<svg xmlns=\"http://www.w3.org/2000/svg\" viewBox=\"-300 -300 600 600\">") rfl)
  have c_MOST_NODES : ∃ t, mg "MOST_NODES" = some (.int 8 t) := He.int_ok X G (c.fact 3 (f := .int "MOST_NODES" 8) rfl)
  have c_MOST_RANK : ∃ t, mg "MOST_RANK" = some (.int 4 t) := He.int_ok X G (c.fact 4 (f := .int "MOST_RANK" 4) rfl)
  have c_MOST_SIZE_pathwork : ∃ t, mg "MOST_SIZE_pathwork" = some (.int 1000 t) := He.int_ok X G (c.fact 5 (f := .int "MOST_SIZE_pathwork" 1000) rfl)
  have c_MOST_SIZE_picturework : ∃ t, mg "MOST_SIZE_picturework" = some (.int 1000 t) := He.int_ok X G (c.fact 6 (f := .int "MOST_SIZE_picturework" 1000) rfl)
  have c_RANK : ∃ t, mg "RANK" = some (.int 2 t) := He.int_ok X G (c.fact 7 (f := .int "RANK" 2) rfl)
  have g_gcd : mg "gcd" = some (.builtin "math.gcd") := PySem.W.mg_of X G (He.eqO_ok e1)
  have ik_BadText := iniB_ok e2
  obtain ⟨fi_BadText, Fi_BadText⟩ := c.def_ 55 (d := oi_BadText) rfl
  have k_KINDS : KIntD K w mg "KINDS" t_KINDS := kintD (He.glo_ok X G (c.fact 9 (f := .glo "KINDS") rfl)) e3
  have m_abs : mg "abs" = none := He.free_ok X G (c.fact 10 (f := .free "abs") rfl)
  have m_all : mg "all" = none := He.free_ok X G (c.fact 11 (f := .free "all") rfl)
  have m_bool : mg "bool" = none := He.free_ok X G (c.fact 12 (f := .free "bool") rfl)
  have m_divmod : mg "divmod" = none := He.free_ok X G (c.fact 13 (f := .free "divmod") rfl)
  have m_enumerate : mg "enumerate" = none := He.free_ok X G (c.fact 14 (f := .free "enumerate") rfl)
  have m_int : mg "int" = none := He.free_ok X G (c.fact 15 (f := .free "int") rfl)
  have m_isinstance : mg "isinstance" = none := He.free_ok X G (c.fact 16 (f := .free "isinstance") rfl)
  have m_len : mg "len" = none := He.free_ok X G (c.fact 17 (f := .free "len") rfl)
  have m_list : mg "list" = none := He.free_ok X G (c.fact 18 (f := .free "list") rfl)
  have m_range : mg "range" = none := He.free_ok X G (c.fact 19 (f := .free "range") rfl)
  have m_repr : mg "repr" = none := He.free_ok X G (c.fact 20 (f := .free "repr") rfl)
  have m_sorted : mg "sorted" = none := He.free_ok X G (c.fact 21 (f := .free "sorted") rfl)
  have m_str : mg "str" = none := He.free_ok X G (c.fact 22 (f := .free "str") rfl)
  have m_sum : mg "sum" = none := He.free_ok X G (c.fact 23 (f := .free "sum") rfl)
  have m_tuple : mg "tuple" = none := He.free_ok X G (c.fact 24 (f := .free "tuple") rfl)
  have m_zip : mg "zip" = none := He.free_ok X G (c.fact 25 (f := .free "zip") rfl)
  have t_MARKS : KCon K mg "MARKS" K57.t_MARKS := conB_ok X G e4
  have u_SPOTS : KTup K mg "SPOTS" K57.t_SPOTS := ⟨He.glo_ok X G (c.fact 26 (f := .glo "SPOTS") rfl), e5⟩
  have x2_BadText : mg "BadText" = some (.ref (pr.cA 0)) := He.glo_ok X G (c.fact 8 (f := .glo "BadText") rfl)
  have x6_BadText : PySem.W.exmOne K (.ref (pr.cA 0)) (.ref (pr.cA 0)) = some true := He.exm_ok (c.fact 27 (f := .exm "BadText" "BadText" true) rfl)
  have y1_BadText : XfC K (pr.cA 0) := ik_BadText.x
  have y2_BadText : PySem.W.findIn K (.ref (pr.cA 0)) "spot" = some none := ik_BadText.n
  have y3_BadText : pr.cF 0 = some "spot" := rfl
  obtain ⟨fd0, Fd0⟩ := c.def_ 0 (d := o_is_whole) rfl
  have g0 := He.glo_ok X G (c.fact 28 (f := .glo "is_whole") rfl)
  obtain ⟨fd1, Fd1⟩ := c.def_ 1 (d := o_is_row_of) rfl
  have g1 := He.glo_ok X G (c.fact 29 (f := .glo "is_row_of") rfl)
  obtain ⟨fd2, Fd2⟩ := c.def_ 2 (d := o_is_cartan) rfl
  have g2 := He.glo_ok X G (c.fact 30 (f := .glo "is_cartan") rfl)
  obtain ⟨fd3, Fd3⟩ := c.def_ 3 (d := o_joined_to) rfl
  have g3 := He.glo_ok X G (c.fact 31 (f := .glo "joined_to") rfl)
  obtain ⟨fd4, Fd4⟩ := c.def_ 4 (d := o_all_parts) rfl
  have g4 := He.glo_ok X G (c.fact 32 (f := .glo "all_parts") rfl)
  obtain ⟨fd5, Fd5⟩ := c.def_ 5 (d := o_matrix_at) rfl
  have g5 := He.glo_ok X G (c.fact 33 (f := .glo "matrix_at") rfl)
  obtain ⟨fd6, Fd6⟩ := c.def_ 6 (d := o_dot) rfl
  have g6 := He.glo_ok X G (c.fact 34 (f := .glo "dot") rfl)
  obtain ⟨fd7, Fd7⟩ := c.def_ 7 (d := o_product_by) rfl
  have g7 := He.glo_ok X G (c.fact 35 (f := .glo "product_by") rfl)
  obtain ⟨fd8, Fd8⟩ := c.def_ 8 (d := o_small_vector) rfl
  have g8 := He.glo_ok X G (c.fact 36 (f := .glo "small_vector") rfl)
  obtain ⟨fd9, Fd9⟩ := c.def_ 9 (d := o_sweep) rfl
  have g9 := He.glo_ok X G (c.fact 37 (f := .glo "sweep") rfl)
  obtain ⟨fd10, Fd10⟩ := c.def_ 10 (d := o_determinant_by) rfl
  have g10 := He.glo_ok X G (c.fact 38 (f := .glo "determinant_by") rfl)
  obtain ⟨fd11, Fd11⟩ := c.def_ 11 (d := o_signs_of) rfl
  have g11 := He.glo_ok X G (c.fact 39 (f := .glo "signs_of") rfl)
  obtain ⟨fd12, Fd12⟩ := c.def_ 12 (d := o_flat_vector) rfl
  have g12 := He.glo_ok X G (c.fact 40 (f := .glo "flat_vector") rfl)
  obtain ⟨fd13, Fd13⟩ := c.def_ 13 (d := o_shown_part) rfl
  have g13 := He.glo_ok X G (c.fact 41 (f := .glo "shown_part") rfl)
  obtain ⟨fd14, Fd14⟩ := c.def_ 14 (d := o_kind_of_part) rfl
  have g14 := He.glo_ok X G (c.fact 42 (f := .glo "kind_of_part") rfl)
  obtain ⟨fd15, Fd15⟩ := c.def_ 15 (d := o_all_kinds) rfl
  have g15 := He.glo_ok X G (c.fact 43 (f := .glo "all_kinds") rfl)
  obtain ⟨fd16, Fd16⟩ := c.def_ 16 (d := o_is_finite) rfl
  have g16 := He.glo_ok X G (c.fact 44 (f := .glo "is_finite") rfl)
  obtain ⟨fd17, Fd17⟩ := c.def_ 17 (d := o_is_weighted) rfl
  have g17 := He.glo_ok X G (c.fact 45 (f := .glo "is_weighted") rfl)
  obtain ⟨fd18, Fd18⟩ := c.def_ 18 (d := o_is_counted) rfl
  have g18 := He.glo_ok X G (c.fact 46 (f := .glo "is_counted") rfl)
  obtain ⟨fd19, Fd19⟩ := c.def_ 19 (d := o_is_tabled) rfl
  have g19 := He.glo_ok X G (c.fact 47 (f := .glo "is_tabled") rfl)
  obtain ⟨fd20, Fd20⟩ := c.def_ 20 (d := o_size_by) rfl
  have g20 := He.glo_ok X G (c.fact 48 (f := .glo "size_by") rfl)
  obtain ⟨fd21, Fd21⟩ := c.def_ 21 (d := o_check_matrix) rfl
  have g21 := He.glo_ok X G (c.fact 49 (f := .glo "check_matrix") rfl)
  obtain ⟨fd22, Fd22⟩ := c.def_ 22 (d := o_check_finite) rfl
  have g22 := He.glo_ok X G (c.fact 50 (f := .glo "check_finite") rfl)
  obtain ⟨fd23, Fd23⟩ := c.def_ 23 (d := o_check_small) rfl
  have g23 := He.glo_ok X G (c.fact 51 (f := .glo "check_small") rfl)
  obtain ⟨fd24, Fd24⟩ := c.def_ 24 (d := o_check_table) rfl
  have g24 := He.glo_ok X G (c.fact 52 (f := .glo "check_table") rfl)
  obtain ⟨fd25, Fd25⟩ := c.def_ 25 (d := o_check_text) rfl
  have g25 := He.glo_ok X G (c.fact 53 (f := .glo "check_text") rfl)
  obtain ⟨fd26, Fd26⟩ := c.def_ 26 (d := o_check_flat) rfl
  have g26 := He.glo_ok X G (c.fact 54 (f := .glo "check_flat") rfl)
  obtain ⟨fd27, Fd27⟩ := c.def_ 27 (d := o_steps_of) rfl
  have g27 := He.glo_ok X G (c.fact 55 (f := .glo "steps_of") rfl)
  obtain ⟨fd28, Fd28⟩ := c.def_ 28 (d := o_spot_of) rfl
  have g28 := He.glo_ok X G (c.fact 56 (f := .glo "spot_of") rfl)
  obtain ⟨fd29, Fd29⟩ := c.def_ 29 (d := o_pair_line) rfl
  have g29 := He.glo_ok X G (c.fact 57 (f := .glo "pair_line") rfl)
  obtain ⟨fd30, Fd30⟩ := c.def_ 30 (d := o_picture_by) rfl
  have g30 := He.glo_ok X G (c.fact 58 (f := .glo "picture_by") rfl)
  obtain ⟨fd31, Fd31⟩ := c.def_ 31 (d := o_whole_told) rfl
  have g31 := He.glo_ok X G (c.fact 59 (f := .glo "whole_told") rfl)
  obtain ⟨fd32, Fd32⟩ := c.def_ 32 (d := o_numbers_in) rfl
  have g32 := He.glo_ok X G (c.fact 60 (f := .glo "numbers_in") rfl)
  obtain ⟨fd33, Fd33⟩ := c.def_ 33 (d := o_weight_at) rfl
  have g33 := He.glo_ok X G (c.fact 61 (f := .glo "weight_at") rfl)
  obtain ⟨fd34, Fd34⟩ := c.def_ 34 (d := o_pair_in) rfl
  have g34 := He.glo_ok X G (c.fact 62 (f := .glo "pair_in") rfl)
  obtain ⟨fd35, Fd35⟩ := c.def_ 35 (d := o_table_read) rfl
  have g35 := He.glo_ok X G (c.fact 63 (f := .glo "table_read") rfl)
  obtain ⟨fd36, Fd36⟩ := c.def_ 36 (d := o_picture) rfl
  have g36 := He.glo_ok X G (c.fact 64 (f := .glo "picture") rfl)
  obtain ⟨fd37, Fd37⟩ := c.def_ 37 (d := o_read_picture) rfl
  have g37 := He.glo_ok X G (c.fact 65 (f := .glo "read_picture") rfl)
  obtain ⟨fd38, Fd38⟩ := c.def_ 38 (d := o__law_well) rfl
  have g38 := He.glo_ok X G (c.fact 66 (f := .glo "_law_well") rfl)
  obtain ⟨fd39, Fd39⟩ := c.def_ 39 (d := o__law_draw) rfl
  have g39 := He.glo_ok X G (c.fact 67 (f := .glo "_law_draw") rfl)
  obtain ⟨fd40, Fd40⟩ := c.def_ 40 (d := o__law_pick) rfl
  have g40 := He.glo_ok X G (c.fact 68 (f := .glo "_law_pick") rfl)
  obtain ⟨fd41, Fd41⟩ := c.def_ 41 (d := o__law_axes) rfl
  have g41 := He.glo_ok X G (c.fact 69 (f := .glo "_law_axes") rfl)
  obtain ⟨fd42, Fd42⟩ := c.def_ 42 (d := o__law_line) rfl
  have g42 := He.glo_ok X G (c.fact 70 (f := .glo "_law_line") rfl)
  obtain ⟨fd43, Fd43⟩ := c.def_ 43 (d := o__law_head) rfl
  have g43 := He.glo_ok X G (c.fact 71 (f := .glo "_law_head") rfl)
  obtain ⟨fd44, Fd44⟩ := c.def_ 44 (d := o__law_text) rfl
  have g44 := He.glo_ok X G (c.fact 72 (f := .glo "_law_text") rfl)
  obtain ⟨fd45, Fd45⟩ := c.def_ 45 (d := o__law_whole) rfl
  have g45 := He.glo_ok X G (c.fact 73 (f := .glo "_law_whole") rfl)
  obtain ⟨fd46, Fd46⟩ := c.def_ 46 (d := o__law_pair) rfl
  have g46 := He.glo_ok X G (c.fact 74 (f := .glo "_law_pair") rfl)
  obtain ⟨fd47, Fd47⟩ := c.def_ 47 (d := o__law_read) rfl
  have g47 := He.glo_ok X G (c.fact 75 (f := .glo "_law_read") rfl)
  obtain ⟨fd48, Fd48⟩ := c.def_ 48 (d := o__law_number) rfl
  have g48 := He.glo_ok X G (c.fact 76 (f := .glo "_law_number") rfl)
  obtain ⟨fd49, Fd49⟩ := c.def_ 49 (d := o__law_drawn) rfl
  have g49 := He.glo_ok X G (c.fact 77 (f := .glo "_law_drawn") rfl)
  obtain ⟨fd50, Fd50⟩ := c.def_ 50 (d := o__law_bent_line) rfl
  have g50 := He.glo_ok X G (c.fact 78 (f := .glo "_law_bent_line") rfl)
  obtain ⟨fd51, Fd51⟩ := c.def_ 51 (d := o__law_bent) rfl
  have g51 := He.glo_ok X G (c.fact 79 (f := .glo "_law_bent") rfl)
  obtain ⟨fd52, Fd52⟩ := c.def_ 52 (d := o__law_heard) rfl
  have g52 := He.glo_ok X G (c.fact 80 (f := .glo "_law_heard") rfl)
  obtain ⟨fd53, Fd53⟩ := c.def_ 53 (d := o__law_is_right) rfl
  have g53 := He.glo_ok X G (c.fact 81 (f := .glo "_law_is_right") rfl)
  obtain ⟨fd54, Fd54⟩ := c.def_ 54 (d := o_law) rfl
  have g54 := He.glo_ok X G (c.fact 82 (f := .glo "law") rfl)
  have e := hfa.symm.trans g54
  cases e
  have b := FunD.bindsA (ps := ["_law_script"]) Fd54 fun _ _ _ _ _ _ us hl => match us, hl with | [_], _ => rfl
  refine ⟨fd54, fun s v => b s [v] rfl, fun base _ _ => ?_⟩
  have i_BadText : IniOk P w K mg base pr 0 "BadText" "spot" := ini_mk ik_BadText rfl rfl (He.glo_ok X G (c.fact 8 (f := .glo "BadText") rfl)) Fi_BadText (⟨rfl, rfl, rfl, by decide +kernel, rfl, by decide +kernel, by decide +kernel⟩) (FunD.bindsN Fi_BadText fun _ _ _ _ _ _ us hl => match us, hl with | [_, _], _ => rfl) (Or.inl rfl) (Or.inl rfl)
  have D_is_whole := d_is_whole (P := P) (w := w) (base := base) (p := pr) (m_bool := m_bool) (m_int := m_int) (m_isinstance := m_isinstance) (U := ⟨_, _, g0, Fd0⟩)
  have D_is_row_of := d_is_row_of (P := P) (w := w) (base := base) (p := pr) (D_is_whole := D_is_whole) (m_all := m_all) (m_isinstance := m_isinstance) (m_len := m_len) (m_tuple := m_tuple) (U := ⟨_, _, g1, Fd1⟩)
  have D_is_cartan := d_is_cartan (P := P) (w := w) (base := base) (p := pr) (D_is_row_of := D_is_row_of) (c_MOST_NODES := c_MOST_NODES) (m_all := m_all) (m_enumerate := m_enumerate) (m_isinstance := m_isinstance) (m_len := m_len) (m_tuple := m_tuple) (U := ⟨_, _, g2, Fd2⟩)
  have D_joined_to := d_joined_to (P := P) (w := w) (base := base) (p := pr) (m_enumerate := m_enumerate) (m_sorted := m_sorted) (m_tuple := m_tuple) (U := ⟨_, _, g3, Fd3⟩)
  have D_all_parts := d_all_parts (P := P) (w := w) (base := base) (p := pr) (D_joined_to := D_joined_to) (m_len := m_len) (m_range := m_range) (m_tuple := m_tuple) (U := ⟨_, _, g4, Fd4⟩)
  have D_matrix_at := d_matrix_at (P := P) (w := w) (base := base) (p := pr) (m_tuple := m_tuple) (U := ⟨_, _, g5, Fd5⟩)
  have D_dot := d_dot (P := P) (w := w) (base := base) (p := pr) (m_sum := m_sum) (m_zip := m_zip) (U := ⟨_, _, g6, Fd6⟩)
  have D_product_by := d_product_by (P := P) (w := w) (base := base) (p := pr) (D_dot := D_dot) (m_tuple := m_tuple) (U := ⟨_, _, g7, Fd7⟩)
  have D_small_vector := d_small_vector (P := P) (w := w) (base := base) (p := pr) (g_gcd := g_gcd) (m_tuple := m_tuple) (U := ⟨_, _, g8, Fd8⟩)
  have D_sweep := d_sweep (P := P) (w := w) (base := base) (p := pr) (m_len := m_len) (m_list := m_list) (m_range := m_range) (U := ⟨_, _, g9, Fd9⟩)
  have D_determinant_by := d_determinant_by (P := P) (w := w) (base := base) (p := pr) (D_sweep := D_sweep) (U := ⟨_, _, g10, Fd10⟩)
  have D_signs_of := d_signs_of (P := P) (w := w) (base := base) (p := pr) (m_len := m_len) (U := ⟨_, _, g11, Fd11⟩)
  have D_flat_vector := d_flat_vector (P := P) (w := w) (base := base) (p := pr) (D_determinant_by := D_determinant_by) (m_len := m_len) (m_range := m_range) (m_tuple := m_tuple) (U := ⟨_, _, g12, Fd12⟩)
  have D_shown_part := d_shown_part (P := P) (w := w) (base := base) (p := pr) (D_determinant_by := D_determinant_by) (D_flat_vector := D_flat_vector) (D_product_by := D_product_by) (D_signs_of := D_signs_of) (D_small_vector := D_small_vector) (m_abs := m_abs) (m_len := m_len) (m_tuple := m_tuple) (m_zip := m_zip) (U := ⟨_, _, g13, Fd13⟩)
  have D_kind_of_part := d_kind_of_part (P := P) (w := w) (base := base) (p := pr) (D_product_by := D_product_by) (D_shown_part := D_shown_part) (D_signs_of := D_signs_of) (k_KINDS := k_KINDS) (U := ⟨_, _, g14, Fd14⟩)
  have D_all_kinds := d_all_kinds (P := P) (w := w) (base := base) (p := pr) (D_all_parts := D_all_parts) (D_kind_of_part := D_kind_of_part) (D_matrix_at := D_matrix_at) (m_tuple := m_tuple) (U := ⟨_, _, g15, Fd15⟩)
  have D_is_finite := d_is_finite (P := P) (w := w) (base := base) (p := pr) (D_all_kinds := D_all_kinds) (m_all := m_all) (U := ⟨_, _, g16, Fd16⟩)
  have D_is_weighted := d_is_weighted (P := P) (w := w) (base := base) (p := pr) (D_is_row_of := D_is_row_of) (m_len := m_len) (U := ⟨_, _, g17, Fd17⟩)
  have D_is_counted := d_is_counted (P := P) (w := w) (base := base) (p := pr) (D_is_weighted := D_is_weighted) (D_is_whole := D_is_whole) (m_isinstance := m_isinstance) (m_len := m_len) (m_tuple := m_tuple) (U := ⟨_, _, g18, Fd18⟩)
  have D_is_tabled := d_is_tabled (P := P) (w := w) (base := base) (p := pr) (D_is_counted := D_is_counted) (m_all := m_all) (m_isinstance := m_isinstance) (m_tuple := m_tuple) (m_zip := m_zip) (U := ⟨_, _, g19, Fd19⟩)
  have D_size_by := d_size_by (P := P) (w := w) (base := base) (p := pr) (m_abs := m_abs) (m_sum := m_sum) (U := ⟨_, _, g20, Fd20⟩)
  have D_check_matrix := d_check_matrix (P := P) (w := w) (base := base) (p := pr) (D_is_cartan := D_is_cartan) (U := ⟨_, _, g21, Fd21⟩)
  have D_check_finite := d_check_finite (P := P) (w := w) (base := base) (p := pr) (D_check_matrix := D_check_matrix) (D_is_finite := D_is_finite) (U := ⟨_, _, g22, Fd22⟩)
  have D_check_small := d_check_small (P := P) (w := w) (base := base) (p := pr) (D_check_finite := D_check_finite) (c_MOST_RANK := c_MOST_RANK) (m_len := m_len) (U := ⟨_, _, g23, Fd23⟩)
  have D_check_table := d_check_table (P := P) (w := w) (base := base) (p := pr) (D_is_tabled := D_is_tabled) (D_size_by := D_size_by) (c_MOST_SIZE_pathwork := c_MOST_SIZE_pathwork) (U := ⟨_, _, g24, Fd24⟩)
  have D_check_text := d_check_text (P := P) (w := w) (base := base) (p := pr) (i_BadText := i_BadText) (m_isinstance := m_isinstance) (m_str := m_str) (U := ⟨_, _, g25, Fd25⟩)
  have D_check_flat := d_check_flat (P := P) (w := w) (base := base) (p := pr) (c_RANK := c_RANK) (m_len := m_len) (U := ⟨_, _, g26, Fd26⟩)
  have D_steps_of := d_steps_of (P := P) (w := w) (base := base) (p := pr) (u_SPOTS := u_SPOTS) (U := ⟨_, _, g27, Fd27⟩)
  have D_spot_of := d_spot_of (P := P) (w := w) (base := base) (p := pr) (D_steps_of := D_steps_of) (U := ⟨_, _, g28, Fd28⟩)
  have D_pair_line := d_pair_line (P := P) (w := w) (base := base) (p := pr) (D_spot_of := D_spot_of) (t_MARKS := t_MARKS) (U := ⟨_, _, g29, Fd29⟩)
  have D_picture_by := d_picture_by (P := P) (w := w) (base := base) (p := pr) (D_pair_line := D_pair_line) (c_END := c_END) (c_HEAD := c_HEAD) (U := ⟨_, _, g30, Fd30⟩)
  have D_whole_told := d_whole_told (P := P) (w := w) (base := base) (p := pr) (c_DIGITS := c_DIGITS) (m_all := m_all) (m_int := m_int) (U := ⟨_, _, g31, Fd31⟩)
  have D_numbers_in := d_numbers_in (P := P) (w := w) (base := base) (p := pr) (D_whole_told := D_whole_told) (m_len := m_len) (m_zip := m_zip) (t_MARKS := t_MARKS) (U := ⟨_, _, g32, Fd32⟩)
  have D_weight_at := d_weight_at (P := P) (w := w) (base := base) (p := pr) (D_steps_of := D_steps_of) (U := ⟨_, _, g33, Fd33⟩)
  have D_pair_in := d_pair_in (P := P) (w := w) (base := base) (p := pr) (D_numbers_in := D_numbers_in) (D_weight_at := D_weight_at) (U := ⟨_, _, g34, Fd34⟩)
  have D_table_read := d_table_read (P := P) (w := w) (base := base) (p := pr) (D_pair_in := D_pair_in) (c_END := c_END) (c_HEAD := c_HEAD) (c_MOST_SIZE_picturework := c_MOST_SIZE_picturework) (i_BadText := i_BadText) (m_abs := m_abs) (m_enumerate := m_enumerate) (m_len := m_len) (m_sum := m_sum) (m_tuple := m_tuple) (U := ⟨_, _, g35, Fd35⟩)
  have D_picture := d_picture (P := P) (w := w) (base := base) (p := pr) (D_check_flat := D_check_flat) (D_check_small := D_check_small) (D_check_table := D_check_table) (D_picture_by := D_picture_by) (U := ⟨_, _, g36, Fd36⟩)
  have D_read_picture := d_read_picture (P := P) (w := w) (base := base) (p := pr) (D_check_flat := D_check_flat) (D_check_small := D_check_small) (D_check_text := D_check_text) (D_table_read := D_table_read) (U := ⟨_, _, g37, Fd37⟩)
  have D__law_well := d__law_well (P := P) (w := w) (base := base) (p := pr) (m_abs := m_abs) (m_int := m_int) (U := ⟨_, _, g38, Fd38⟩)
  have D__law_draw := d__law_draw (P := P) (w := w) (base := base) (p := pr) (m_divmod := m_divmod) (m_int := m_int) (U := ⟨_, _, g39, Fd39⟩)
  have D__law_pick := d__law_pick (P := P) (w := w) (base := base) (p := pr) (D__law_draw := D__law_draw) (m_len := m_len) (U := ⟨_, _, g40, Fd40⟩)
  have D__law_axes := d__law_axes (P := P) (w := w) (base := base) (p := pr)  (U := ⟨_, _, g41, Fd41⟩)
  have D__law_line := d__law_line (P := P) (w := w) (base := base) (p := pr) (D__law_axes := D__law_axes) (m_str := m_str) (U := ⟨_, _, g42, Fd42⟩)
  have D__law_head := d__law_head (P := P) (w := w) (base := base) (p := pr)  (U := ⟨_, _, g43, Fd43⟩)
  have D__law_text := d__law_text (P := P) (w := w) (base := base) (p := pr) (D__law_head := D__law_head) (D__law_line := D__law_line) (U := ⟨_, _, g44, Fd44⟩)
  have D__law_whole := d__law_whole (P := P) (w := w) (base := base) (p := pr) (m_all := m_all) (m_int := m_int) (m_len := m_len) (m_str := m_str) (U := ⟨_, _, g45, Fd45⟩)
  have D__law_pair := d__law_pair (P := P) (w := w) (base := base) (p := pr) (D__law_axes := D__law_axes) (D__law_line := D__law_line) (D__law_whole := D__law_whole) (m_len := m_len) (U := ⟨_, _, g46, Fd46⟩)
  have D__law_read := d__law_read (P := P) (w := w) (base := base) (p := pr) (D__law_head := D__law_head) (D__law_pair := D__law_pair) (m_abs := m_abs) (m_len := m_len) (m_range := m_range) (m_tuple := m_tuple) (U := ⟨_, _, g47, Fd47⟩)
  have D__law_number := d__law_number (P := P) (w := w) (base := base) (p := pr) (D__law_draw := D__law_draw) (D__law_pick := D__law_pick) (U := ⟨_, _, g48, Fd48⟩)
  have D__law_drawn := d__law_drawn (P := P) (w := w) (base := base) (p := pr) (D__law_draw := D__law_draw) (D__law_number := D__law_number) (m_abs := m_abs) (m_range := m_range) (m_sorted := m_sorted) (m_sum := m_sum) (m_tuple := m_tuple) (U := ⟨_, _, g49, Fd49⟩)
  have D__law_bent_line := d__law_bent_line (P := P) (w := w) (base := base) (p := pr) (D__law_draw := D__law_draw) (D__law_head := D__law_head) (D__law_pick := D__law_pick) (m_len := m_len) (m_str := m_str) (U := ⟨_, _, g50, Fd50⟩)
  have D__law_bent := d__law_bent (P := P) (w := w) (base := base) (p := pr) (D__law_bent_line := D__law_bent_line) (D__law_draw := D__law_draw) (D__law_line := D__law_line) (D__law_pick := D__law_pick) (m_len := m_len) (U := ⟨_, _, g51, Fd51⟩)
  have D__law_heard := d__law_heard (P := P) (w := w) (base := base) (p := pr) (D_read_picture := D_read_picture) (x2_BadText := x2_BadText) (x6_BadText := x6_BadText) (y1_BadText := y1_BadText) (y2_BadText := y2_BadText) (y3_BadText := y3_BadText) (U := ⟨_, _, g52, Fd52⟩)
  have D__law_is_right := d__law_is_right (P := P) (w := w) (base := base) (p := pr) (D__law_bent := D__law_bent) (D__law_draw := D__law_draw) (D__law_drawn := D__law_drawn) (D__law_heard := D__law_heard) (D__law_pick := D__law_pick) (D__law_read := D__law_read) (D__law_text := D__law_text) (D_picture := D_picture) (m_range := m_range) (m_repr := m_repr) (U := ⟨_, _, g53, Fd53⟩)
  have D_law := d_law (P := P) (w := w) (base := base) (p := pr) (D__law_is_right := D__law_is_right) (D__law_well := D__law_well) (U := ⟨_, _, g54, Fd54⟩)
  exact fnokG_of D_law g54 Fd54
end K57

open PySem PySem.W PySem.Calls PyProof.Rows
set_option Elab.async false
set_option linter.all false
set_option maxRecDepth 100000
set_option maxHeartbeats 0
theorem PySem.Challenge.cw_weylweights_k57_whole_pictures_there_and_holds : PySem.Challenge.rw_weylweights_k57_whole_pictures_there_and.Holds := by
  w_on; o_law
  refine HandSHeadRun.head_imp (r := OpenLaw.row PySem.Challenge.rw_weylweights_k57_whole_pictures_there_and) (q := view (OpenLaw.row PySem.Challenge.rw_weylweights_k57_whole_pictures_there_and).prog [0, 84]) (H := K57.hk) (ob := K57.ob) (M := 8000) (loose := K57.loose) (d := HandSHeadRun.topDef (OpenLaw.row PySem.Challenge.rw_weylweights_k57_whole_pictures_there_and).prog 84) (kwd := []) K57.ob_eq K57.run
    (by kernel_rfl) (by kernel_rfl) (by kernel_rfl) (by rfl) (by first | assumption | decide +kernel) (by decide +kernel) ⟨rfl, rfl, rfl, rfl, rfl, by decide +kernel⟩ ?hw ?hc
  case hw => w_witness2
  case hc =>
    refine DL.walk_law (law := PySem.Challenge.rw_weylweights_k57_whole_pictures_there_and) (most := 63) (room := 13) (param := "_law_script") (air := fun w => L2.CX (PySem.Challenge.rw_weylweights_k57_whole_pictures_there_and).prog w) rfl (by decide) (by kernel_rfl) ⟨rfl, by decide, by decide⟩ (fun w H s e s' ⟨_, _, _, _, _, _, _, _, _, _, _, _, z⟩ => z) ?F
    intro w mg fa h Y G hmg0
    obtain ⟨K, KX, c, hx⟩ := Y
    have hmg : mg ("law" : PySem.Str) = some (.ref fa) := by
      have e : (HandSHeadRun.topDef (OpenLaw.row PySem.Challenge.rw_weylweights_k57_whole_pictures_there_and).prog 84).name = ("law" : PySem.Str) := by kernel_rfl
      rw [← e]
      exact hmg0
    obtain ⟨fd, hb, hF⟩ := K57.facts (P := (PySem.Challenge.rw_weylweights_k57_whole_pictures_there_and).prog) (w := w) KX G hmg c hx
    exact ⟨K, fd, DL.spD K (K57.prK K) 1 K57.F_law, KX, hb, fun H a ns hl hO hS => DL.sp_script hO hS (K57.law_holds ns), hF⟩
