import PyProof.Rows.All
import Wide.All
import OpenK.AllK
import Wide.FinOn
import HandS.ForMost
import HandS.WordsExc
import HandS.Defaults
import HandS.TupAny
import PyProof.StrBlock2
import HandS.Wide
import HandS.Deep
import HandS.IsInst
import HandS.SortInts
import HandS.Style
import HandS.Flow
import HandS.Strs
import HandS.Conv
import HandS.Zip
import HandS.Ends
import HandS.HeadEnd
import PyProof.ReprRoads
import HandS.Text
import HandS.TupLe
import PyProof.SliceList
import HandS.SortRule
import HandS.Iter
import PyProof.Rows.ChunkLeaf
import HandS.Dict
import HandS.DictComp
import HandS.SetFor
import HandS.Sort
import HandS.More
import HandS.HeadHook3
import HandS.TryMany
import HandS.ExcIs
import HandS.Gcd
import PyProof.TupleOfSeq
import HandS.Zip0
import PyProof.Draws
import HandS.WordsDict
import PyProof.Rows.SortShellAny
import HandS.Set
import HandS.SetKeys
import HandS.SetBool
import PyProof.ReprLen
import PyProof.FitsInt
import KE.KStateDown
import HandS.Head0
import HandS.Head1
import HandS.Head2
import HandS.HeadHook1
import HandS.HeadHook2
import HandS.Head3
import PySem.Challenge.RW_piecesturned_k76_open_days_leads_and_sto
set_option Elab.async false
set_option linter.all false
set_option maxRecDepth 100000
/-! PL1: data, own and shared; what stands for it in the heap. -/
namespace PL
open PySem PySem.Spec L2

abbrev D := PyData

/-- a value as the pure layer sees it: shared data; the script; an own list, an own dict of shared items; own lists and tuples of own things -/
inductive T where
  | sh (d : D)
  | scr (ns : List Int)
  | ol (ds : List D)
  | od (kvs : List (D × D))
  | ot (ts : List T)
  | tu (ts : List T)
  | rg (lo hi : Int)

mutual
def T.er : T → D
  | .sh d => d
  | .scr ns => .list (ns.map PyData.int)
  | .ol ds => .list ds
  | .od kvs => .dict kvs
  | .ot ts => .list (T.ers ts)
  | .tu ts => .tuple (T.ers ts)
  | .rg _ _ => .none
def T.ers : List T → List D
  | [] => []
  | t :: ts => t.er :: T.ers ts
end

def kD : Key → D
  | .inl i => .int i
  | .inr x => .str x

def DcAt (o : Option HO) (ks : List D) (vs : List V) : Prop :=
  (∃ kk : List (Key × V), o = some (.dK kk) ∧ ks = kk.map (fun p => kD p.1) ∧ vs = kk.map (·.2)) ∨
    ∃ kk : List (List Key × V), o = some (.dT kk) ∧ kk ≠ [] ∧ ks = kk.map (fun p => PyData.tuple (p.1.map kD)) ∧ vs = kk.map (·.2)

/-- .. or one that is locked -/
def DcF (o : Option HO) (ks : List D) (vs : List V) : Prop :=
  DcAt o ks vs ∨ ∃ (ob : Obj) (kk : List (Key × V)), o = some (.frz ob (.dK kk)) ∧ ks = kk.map (fun p => kD p.1) ∧ vs = kk.map (·.2)

/-- a tuple, known to its object: it has no dict -/
def IsTp (o : Option HO) (vs : List V) : Prop := ∃ ob, o = some (.frz ob (.tup vs)) ∧ ob.dict = none
theorem IsTp.same {o o' : Option HO} {vs : List V} (h : IsTp o vs) (e : ∀ x, o = some x → o' = some x) : IsTp o' vs := by
  obtain ⟨ob, e1, e2⟩ := h
  exact ⟨ob, e _ e1, e2⟩
theorem IsTp.some {o : Option HO} {vs : List V} (h : IsTp o vs) : ∃ x, o = some x := let ⟨_, e, _⟩ := h; ⟨_, e⟩
theorem IsTp.sq {K : PySem.W.Frag} {H : Hp} {a : Addr} {vs : List V} (h : IsTp (H a) vs) : SqT K H a vs := let ⟨ob, e, _⟩ := h; .inl (.inr ⟨ob, e⟩)

mutual
def RepD (S : Hp) : D → V → Prop
  | .none, v => v = .non
  | .bool b, v => v = .bl b
  | .int i, v => v = .int i
  | .str x, v => v = .str x
  | .list ds, v => ∃ a vs, v = .ref a ∧ S a = some (.lst vs) ∧ RepDs S ds vs
  | .tuple ds, v => ∃ a vs, v = .ref a ∧ IsTp (S a) vs ∧ RepDs S ds vs
  | .dict kvs, v => ∃ a vs, v = .ref a ∧ DcF (S a) (kvs.map (·.1)) vs ∧ RepPs S kvs vs
def RepDs (S : Hp) : List D → List V → Prop
  | [], vs => vs = []
  | d :: ds, vs => ∃ v r, vs = v :: r ∧ RepD S d v ∧ RepDs S ds r
def RepPs (S : Hp) : List (D × D) → List V → Prop
  | [], vs => vs = []
  | p :: ps, vs => ∃ v r, vs = v :: r ∧ RepP S p v ∧ RepPs S ps r
def RepP (S : Hp) : D × D → V → Prop
  | (_, d), v => RepD S d v
end

section
variable {S S' : Hp}
mutual
theorem RepD.mono (h : Same S S') : ∀ (d : D) (v : V), RepD S d v → RepD S' d v
  | .none, _, q => by simp only [RepD] at q ⊢; exact q
  | .bool b, _, q => by simp only [RepD] at q ⊢; exact q
  | .int i, _, q => by simp only [RepD] at q ⊢; exact q
  | .str x, _, q => by simp only [RepD] at q ⊢; exact q
  | .list ds, _, q => by
    simp only [RepD] at q ⊢
    obtain ⟨a, vs, e, ha, r⟩ := q
    exact ⟨a, vs, e, h _ _ ha, RepDs.mono h ds vs r⟩
  | .tuple ds, _, q => by
    simp only [RepD] at q ⊢
    obtain ⟨a, vs, e, ha, r⟩ := q
    exact ⟨a, vs, e, ha.same (h _), RepDs.mono h ds vs r⟩
  | .dict kvs, _, q => by
    simp only [RepD] at q ⊢
    obtain ⟨a, vs, e, ha, r⟩ := q
    refine ⟨a, vs, e, ?_, RepPs.mono h kvs vs r⟩
    rcases ha with (⟨kk, e1, e2⟩ | ⟨kk, e1, e2⟩) | ⟨ob, kk, e1, e2⟩
    · exact .inl (.inl ⟨kk, h _ _ e1, e2⟩)
    · exact .inl (.inr ⟨kk, h _ _ e1, e2⟩)
    · exact .inr ⟨ob, kk, h _ _ e1, e2⟩
theorem RepDs.mono (h : Same S S') : ∀ (ds : List D) (vs : List V), RepDs S ds vs → RepDs S' ds vs
  | [], _, q => by simp only [RepDs] at q ⊢; exact q
  | d :: ds, _, q => by
    simp only [RepDs] at q ⊢
    obtain ⟨v, r, e, q1, q2⟩ := q
    exact ⟨v, r, e, RepD.mono h d v q1, RepDs.mono h ds r q2⟩
theorem RepPs.mono (h : Same S S') : ∀ (ds : List (D × D)) (vs : List V), RepPs S ds vs → RepPs S' ds vs
  | [], _, q => by simp only [RepPs] at q ⊢; exact q
  | d :: ds, _, q => by
    simp only [RepPs] at q ⊢
    obtain ⟨v, r, e, q1, q2⟩ := q
    exact ⟨v, r, e, RepP.mono h d v q1, RepPs.mono h ds r q2⟩
theorem RepP.mono (h : Same S S') : ∀ (d : D × D) (v : V), RepP S d v → RepP S' d v
  | (_, d), v, q => by
    simp only [RepP] at q ⊢
    exact RepD.mono h d v q
end
end

theorem RepDs.length {S : Hp} : ∀ {ds : List D} {vs : List V}, RepDs S ds vs → vs.length = ds.length
  | [], _, q => by simp only [RepDs] at q; rw [q]; rfl
  | d :: ds, _, q => by
    simp only [RepDs] at q
    obtain ⟨v, r, rfl, _, q2⟩ := q
    simp only [List.length_cons, RepDs.length q2]
theorem RepDs.app {S : Hp} : ∀ {ds es : List D} {vs ws : List V}, RepDs S ds vs → RepDs S es ws → RepDs S (ds ++ es) (vs ++ ws)
  | [], _, _, _, q, q' => by simp only [RepDs] at q; subst q; exact q'
  | d :: ds, es, _, ws, q, q' => by
    simp only [RepDs] at q
    obtain ⟨v, r, rfl, q1, q2⟩ := q
    show RepDs S (d :: (ds ++ es)) (v :: (r ++ ws))
    simp only [RepDs]
    exact ⟨v, _, rfl, q1, RepDs.app q2 q'⟩
theorem RepDs.one {S : Hp} {d : D} {v : V} (q : RepD S d v) : RepDs S [d] [v] := by
  simp only [RepDs]; exact ⟨v, [], rfl, q, rfl⟩
theorem RepDs.nil {S : Hp} : RepDs S [] [] := by simp only [RepDs]
theorem RepDs.cons {S : Hp} {d : D} {v : V} {ds : List D} {vs : List V} (q : RepD S d v) (r : RepDs S ds vs) : RepDs S (d :: ds) (v :: vs) := by
  simp only [RepDs]; exact ⟨v, vs, rfl, q, r⟩
theorem RepDs.get {S : Hp} : ∀ {ds : List D} {vs : List V} {i : Nat} {d : D}, RepDs S ds vs → ds[i]? = some d → ∃ v, vs[i]? = some v ∧ RepD S d v
  | [], _, i, d, q, e => by simp at e
  | c :: ds, _, i, d, q, e => by
    simp only [RepDs] at q
    obtain ⟨v, r, rfl, q1, q2⟩ := q
    cases i with
    | zero => simp at e; subst e; exact ⟨v, rfl, q1⟩
    | succ i => exact RepDs.get (ds := ds) (vs := r) (i := i) q2 (by simpa using e)
theorem RepDs.get' {S : Hp} : ∀ {ds : List D} {vs : List V} {i : Nat} {v : V}, RepDs S ds vs → vs[i]? = some v → ∃ d, ds[i]? = some d ∧ RepD S d v
  | [], _, i, d, q, e => by simp only [RepDs] at q; subst q; simp at e
  | c :: ds, _, i, d, q, e => by
    simp only [RepDs] at q
    obtain ⟨v, r, rfl, q1, q2⟩ := q
    cases i with
    | zero => simp at e; subst e; exact ⟨c, rfl, q1⟩
    | succ i => exact RepDs.get' (ds := ds) (vs := r) (i := i) q2 (by simpa using e)
theorem RepDs.take {S : Hp} : ∀ {ds : List D} {vs : List V} (n : Nat), RepDs S ds vs → RepDs S (ds.take n) (vs.take n)
  | _, _, 0, _ => by simp only [List.take_zero, RepDs]
  | [], _, n + 1, q => by simp only [RepDs] at q; subst q; simp only [List.take_nil, RepDs]
  | d :: ds, _, n + 1, q => by
    simp only [RepDs] at q
    obtain ⟨v, r, rfl, q1, q2⟩ := q
    exact .cons q1 (RepDs.take n q2)
theorem RepDs.drop {S : Hp} : ∀ {ds : List D} {vs : List V} (n : Nat), RepDs S ds vs → RepDs S (ds.drop n) (vs.drop n)
  | _, _, 0, q => q
  | [], _, n + 1, q => by simp only [RepDs] at q; subst q; simp only [List.drop_nil, RepDs]
  | d :: ds, _, n + 1, q => by
    simp only [RepDs] at q
    obtain ⟨v, r, rfl, q1, q2⟩ := q
    exact RepDs.drop n q2
theorem RepDs.set {S : Hp} : ∀ {ds : List D} {vs : List V} (n : Nat) {d : D} {v : V}, RepDs S ds vs → RepD S d v → RepDs S (ds.set n d) (vs.set n v)
  | [], _, _, _, _, q, _ => by simp only [RepDs] at q; subst q; exact .nil
  | c :: ds, _, n, d, v, q, qd => by
    simp only [RepDs] at q
    obtain ⟨w, r, rfl, q1, q2⟩ := q
    cases n with
    | zero => exact .cons qd q2
    | succ n => exact .cons q1 (RepDs.set n q2 qd)
theorem RepDs.rev {S : Hp} : ∀ {ds : List D} {vs : List V}, RepDs S ds vs → RepDs S ds.reverse vs.reverse
  | [], _, q => by simp only [RepDs] at q; subst q; exact .nil
  | d :: ds, _, q => by
    simp only [RepDs] at q
    obtain ⟨v, r, rfl, q1, q2⟩ := q
    rw [List.reverse_cons, List.reverse_cons]
    exact (RepDs.rev q2).app (.one q1)

/-! ### own things -/
mutual
def RepT (K : PySem.W.Frag) (S H : Hp) : T → V → List Addr → Prop
  | .sh d, v, fp => fp = [] ∧ RepD S d v
  | .scr ns, v, fp => fp = [] ∧ ∃ a, v = .ref a ∧ SqL K S a (ns.map V.int)
  | .ol ds, v, fp => ∃ a vs, v = .ref a ∧ fp = [a] ∧ H a = some (.lst vs) ∧ RepDs S ds vs
  | .od kvs, v, fp => ∃ a vs, v = .ref a ∧ fp = [a] ∧ DcAt (H a) (kvs.map (·.1)) vs ∧ RepPs S kvs vs
  | .ot ts, v, fp => ∃ a vs f, v = .ref a ∧ fp = a :: f ∧ H a = some (.lst vs) ∧ RepTs K S H ts vs f
  | .tu ts, v, fp => ∃ a vs f, v = .ref a ∧ fp = a :: f ∧ IsTp (H a) vs ∧ RepTs K S H ts vs f
  | .rg lo hi, v, fp => fp = [] ∧ ∃ a, v = .ref a ∧ S a = some (.rng lo hi)
def RepTs (K : PySem.W.Frag) (S H : Hp) : List T → List V → List Addr → Prop
  | [], vs, fp => vs = [] ∧ fp = []
  | t :: ts, vs, fp => ∃ v r f g, vs = v :: r ∧ fp = f ++ g ∧ RepT K S H t v f ∧ RepTs K S H ts r g
end

theorem DcAt.same {o o' : Option HO} {ks : List D} {vs : List V} (h : DcAt o ks vs) (e : ∀ x, o = some x → o' = some x) : DcAt o' ks vs := by
  rcases h with ⟨kk, e1, e2⟩ | ⟨kk, e1, e2⟩
  · exact .inl ⟨kk, e _ e1, e2⟩
  · exact .inr ⟨kk, e _ e1, e2⟩
theorem DcF.same {o o' : Option HO} {ks : List D} {vs : List V} (h : DcF o ks vs) (e : ∀ x, o = some x → o' = some x) : DcF o' ks vs := by
  rcases h with h | ⟨ob, kk, e1, e2⟩
  · exact .inl (h.same e)
  · exact .inr ⟨ob, kk, e _ e1, e2⟩
theorem DcAt.some {o : Option HO} {ks : List D} {vs : List V} (h : DcAt o ks vs) : ∃ x, o = some x := by
  rcases h with ⟨kk, e1, e2⟩ | ⟨kk, e1, e2⟩ <;> exact ⟨_, e1⟩

section
variable {K : PySem.W.Frag} {S S' H H' : Hp}
mutual
theorem RepT.frame (h : Same S S') : ∀ (t : T) (v : V) (fp : List Addr), (∀ a ∈ fp, H' a = H a) → RepT K S H t v fp → RepT K S' H' t v fp
  | .sh d, v, fp, _, q => by
    simp only [RepT] at q ⊢
    exact ⟨q.1, RepD.mono h d v q.2⟩
  | .scr ns, v, fp, _, q => by
    simp only [RepT] at q ⊢
    obtain ⟨e, a, e2, r⟩ := q
    exact ⟨e, a, e2, h.seq r⟩
  | .ol ds, v, fp, k, q => by
    simp only [RepT] at q ⊢
    obtain ⟨a, vs, e1, e2, ha, r⟩ := q
    subst e2
    exact ⟨a, vs, e1, rfl, by rw [k a (by simp)]; exact ha, RepDs.mono h ds vs r⟩
  | .od kvs, v, fp, k, q => by
    simp only [RepT] at q ⊢
    obtain ⟨a, vs, e1, e2, ha, r⟩ := q
    subst e2
    exact ⟨a, vs, e1, rfl, by rw [k a (by simp)]; exact ha, RepPs.mono h kvs vs r⟩
  | .ot ts, v, fp, k, q => by
    simp only [RepT] at q ⊢
    obtain ⟨a, vs, f, e1, e2, ha, r⟩ := q
    subst e2
    exact ⟨a, vs, f, e1, rfl, by rw [k a (by simp)]; exact ha, RepTs.frame h ts vs f (fun b hb => k b (by simp [hb])) r⟩
  | .tu ts, v, fp, k, q => by
    simp only [RepT] at q ⊢
    obtain ⟨a, vs, f, e1, e2, ha, r⟩ := q
    subst e2
    exact ⟨a, vs, f, e1, rfl, by rw [k a (by simp)]; exact ha, RepTs.frame h ts vs f (fun b hb => k b (by simp [hb])) r⟩
  | .rg lo hi, v, fp, k, q => by
    simp only [RepT] at q ⊢
    obtain ⟨e, a, e2, r⟩ := q
    exact ⟨e, a, e2, h _ _ r⟩
theorem RepTs.frame (h : Same S S') : ∀ (ts : List T) (vs : List V) (fp : List Addr), (∀ a ∈ fp, H' a = H a) → RepTs K S H ts vs fp → RepTs K S' H' ts vs fp
  | [], vs, fp, _, q => by simp only [RepTs] at q ⊢; exact q
  | t :: ts, vs, fp, k, q => by
    simp only [RepTs] at q ⊢
    obtain ⟨v, r, f, g, e1, e2, q1, q2⟩ := q
    subst e2
    exact ⟨v, r, f, g, e1, rfl, RepT.frame h t v f (fun b hb => k b (by simp [hb])) q1, RepTs.frame h ts r g (fun b hb => k b (by simp [hb])) q2⟩
end
mutual
theorem RepT.there : ∀ (t : T) (v : V) (fp : List Addr), RepT K S H t v fp → ∀ a ∈ fp, ∃ o, H a = some o
  | .sh d, v, fp, q => by simp only [RepT] at q; rw [q.1]; simp
  | .scr ns, v, fp, q => by simp only [RepT] at q; rw [q.1]; simp
  | .ol ds, v, fp, q => by
    simp only [RepT] at q
    obtain ⟨a, vs, e1, e2, ha, r⟩ := q
    subst e2
    intro b hb
    simp at hb; subst hb
    exact ⟨_, ha⟩
  | .od ds, v, fp, q => by
    simp only [RepT] at q
    obtain ⟨a, vs, e1, e2, ha, r⟩ := q
    subst e2
    intro b hb
    simp at hb; subst hb
    exact ha.some
  | .ot ts, v, fp, q => by
    simp only [RepT] at q
    obtain ⟨a, vs, f, e1, e2, ha, r⟩ := q
    subst e2
    intro b hb
    rcases List.mem_cons.mp hb with rfl | hb
    · exact ⟨_, ha⟩
    · exact RepTs.there ts vs f r b hb
  | .tu ts, v, fp, q => by
    simp only [RepT] at q
    obtain ⟨a, vs, f, e1, e2, ha, r⟩ := q
    subst e2
    intro b hb
    rcases List.mem_cons.mp hb with rfl | hb
    · exact ha.some
    · exact RepTs.there ts vs f r b hb
  | .rg lo hi, v, fp, q => by simp only [RepT] at q; rw [q.1]; simp
theorem RepTs.there : ∀ (ts : List T) (vs : List V) (fp : List Addr), RepTs K S H ts vs fp → ∀ a ∈ fp, ∃ o, H a = some o
  | [], vs, fp, q => by simp only [RepTs] at q; rw [q.2]; simp
  | t :: ts, vs, fp, q => by
    simp only [RepTs] at q
    obtain ⟨v, r, f, g, e1, e2, q1, q2⟩ := q
    subst e2
    intro b hb
    rcases List.mem_append.mp hb with hb | hb
    · exact RepT.there t v f q1 b hb
    · exact RepTs.there ts r g q2 b hb
end
/-- where the heap only grows -/
theorem RepT.grow (h : Same S S') (h2 : Same H H') {t : T} {v : V} {fp : List Addr} (q : RepT K S H t v fp) : RepT K S' H' t v fp :=
  RepT.frame h t v fp (fun a ha => by obtain ⟨o, e⟩ := RepT.there t v fp q a ha; rw [e, h2 _ _ e]) q
theorem RepTs.grow (h : Same S S') (h2 : Same H H') {t : List T} {v : List V} {fp : List Addr} (q : RepTs K S H t v fp) : RepTs K S' H' t v fp :=
  RepTs.frame h t v fp (fun a ha => by obtain ⟨o, e⟩ := RepTs.there t v fp q a ha; rw [e, h2 _ _ e]) q

mutual
def T.noScr : T → Bool
  | .scr _ => false
  | .ot ts => T.noScrs ts
  | .tu ts => T.noScrs ts
  | .rg _ _ => false
  | _ => true
def T.noScrs : List T → Bool
  | [] => true
  | t :: ts => t.noScr && T.noScrs ts
end
mutual
/-- what is own is shared -/
theorem RepT.share (h : Same S S') : ∀ (t : T) (v : V) (fp : List Addr), t.noScr = true → (∀ a ∈ fp, ∀ o, H a = some o → S' a = some o) → RepT K S H t v fp → RepD S' t.er v
  | .sh d, v, fp, _, _, q => by
    simp only [RepT] at q
    simp only [T.er]
    exact RepD.mono h d v q.2
  | .scr ns, v, fp, n, _, q => by simp [T.noScr] at n
  | .ol ds, v, fp, _, k, q => by
    simp only [RepT] at q
    obtain ⟨a, vs, e1, e2, ha, r⟩ := q
    subst e2
    simp only [T.er, RepD]
    exact ⟨a, vs, e1, k a (by simp) _ ha, RepDs.mono h ds vs r⟩
  | .od kvs, v, fp, _, k, q => by
    simp only [RepT] at q
    obtain ⟨a, vs, e1, e2, ha, r⟩ := q
    subst e2
    simp only [T.er, RepD]
    exact ⟨a, vs, e1, .inl (ha.same (k a (by simp))), RepPs.mono h kvs vs r⟩
  | .ot ts, v, fp, n, k, q => by
    simp only [RepT] at q
    obtain ⟨a, vs, f, e1, e2, ha, r⟩ := q
    subst e2
    simp only [T.er, RepD]
    exact ⟨a, vs, e1, k a (by simp) _ ha, RepTs.share h ts vs f (by simpa [T.noScr] using n) (fun b hb => k b (by simp [hb])) r⟩
  | .tu ts, v, fp, n, k, q => by
    simp only [RepT] at q
    obtain ⟨a, vs, f, e1, e2, ha, r⟩ := q
    subst e2
    simp only [T.er, RepD]
    exact ⟨a, vs, e1, ha.same (k a (by simp)), RepTs.share h ts vs f (by simpa [T.noScr] using n) (fun b hb => k b (by simp [hb])) r⟩
  | .rg lo hi, v, fp, n, _, q => by simp [T.noScr] at n
theorem RepTs.share (h : Same S S') : ∀ (ts : List T) (vs : List V) (fp : List Addr), T.noScrs ts = true → (∀ a ∈ fp, ∀ o, H a = some o → S' a = some o) → RepTs K S H ts vs fp → RepDs S' (T.ers ts) vs
  | [], vs, fp, _, _, q => by simp only [RepTs] at q; simp only [T.ers, RepDs]; exact q.1
  | t :: ts, vs, fp, n, k, q => by
    simp only [RepTs] at q
    obtain ⟨v, r, f, g, e1, e2, q1, q2⟩ := q
    subst e2
    simp only [T.noScrs, Bool.and_eq_true] at n
    simp only [T.ers, RepDs]
    exact ⟨v, r, e1, RepT.share h t v f n.1 (fun b hb => k b (by simp [hb])) q1, RepTs.share h ts r g n.2 (fun b hb => k b (by simp [hb])) q2⟩
end
end

/-! ### tuples that are made -/
abbrev tupO (its : List Value) : Obj := { cls := .type "tuple", data := .seq its.toArray }
section
variable {X : Cx} {pins : List (Addr × Obj)} {σ : L2.St} {H : Hp} {s : Shared} {ys : List V} {its : List Value}
theorem tnew (I : Inv X pins σ H s) (hv : Vals ys its) (hz : ys.length ≤ sizeLine) (t' : Nat := s.toks) : Inv X pins σ (upd H s.heap.objs.size (.frz (tupO its) (.tup ys))) { s with heap := s.heap.push (tupO its), toks := t' } :=
  I.laid (t' := t') (fun _ _ e => Heap.get?_push_of_some _ e) (Nat.le_refl _) ⟨Heap.get?_push_size _ rfl, hz, its, hv, ⟨_, Heap.get?_push_size _ rfl, rfl, _, rfl⟩⟩
end
/-- a new tuple, wished for -/
def NewT (H : Hp) (xs : List V) (Q : VK) : Prop := ∀ p o, H p = none → o.dict = none → Q (.ref p) (upd H p (.frz o (.tup xs)))
theorem NewT.at {H : Hp} {xs : List V} {Q : VK} (h : NewT H xs Q) {p : Addr} (n : H p = none) (its : List Value) : Q (.ref p) (upd H p (.frz (tupO its) (.tup xs))) := h p _ n rfl
def tTupF (t : TA) : TE := fun σ H Q => t σ H fun xs H1 => xs.length ≤ sizeLine ∧ NewT H1 xs Q
section
open PyProof.Rows
variable {X : Cx} {es : List Expr} {t : TA} {pos : Pos}
theorem pe_tupF {k : Nat} (h : PA X es t) : PE X (.Tuple es k pos) (tTupF t) := by
  refine ⟨fun pins s σ H Q I hq => ?_⟩
  refine wpAny_Tuple_spliced (thn (h.run pos pins s σ H _ I hq) fun us s1 ⟨xs, H1, I1, r, z, q⟩ => ⟨by rw [← r.length]; exact z, ?_⟩)
  exact ⟨.ref _, _, tnew I1 r z, rfl, q.at I1.fresh us⟩
/-- tuple(xs), tuple(t) -/
def rTupOf (K : PySem.W.Frag) : List V → Hp → VK → Prop := fun xs H Q => ∃ p ys, xs = [.ref p] ∧ ((SqL K H p ys ∧ NewT H ys Q) ∨ (SqT K H p ys ∧ Q (.ref p) H))
theorem call_tupOf : CallR X (.type "tuple") (rTupOf X.K) := by
  intro pins s σ H xs us Q I r h
  obtain ⟨p, ys, rfl, h⟩ := h
  obtain ⟨u, rfl, rx⟩ := vals1 r
  cases rx
  rcases h with ⟨hq, q⟩ | ⟨hq, q⟩
  · obtain ⟨its, r1, pl, hz⟩ := I.list hq
    refine call_tuple_list pl.isList (fun h1 kp => ?_) (by rw [List.size_toArray, ← r1.length]; exact hz)
    have J : Inv X pins σ H { s with heap := h1 } := I.kept (t' := s.toks) kp
    exact ⟨.ref _, _, tnew J r1 hz, rfl, q.at J.fresh its⟩
  · obtain ⟨its, r1, pl, hz⟩ := I.tuple hq
    exact call_tuple_same pl ⟨.ref p, H, I, rfl, q⟩
/-- t + u -/
def rCatF (K : PySem.W.Frag) : R2 := fun x y H Q => ∃ a b xs ys, x = .ref a ∧ y = .ref b ∧ SqT K H a xs ∧ SqT K H b ys ∧ xs.length + ys.length ≤ sizeLine ∧
  (xs = [] → Q (.ref b) H) ∧ (xs ≠ [] → ys = [] → Q (.ref a) H) ∧ (xs ≠ [] → ys ≠ [] → NewT H (xs ++ ys) Q)
theorem op_catF : OpR X (binaryOp .Add) (rCatF X.K) := by
  intro pins s σ H x y v u Q I rx ry h
  obtain ⟨a, b, xs, ys, rfl, rfl, ha, hb, hz, q0, q1, q2⟩ := h
  cases rx
  cases ry
  obtain ⟨its, r1, p1, _⟩ := I.tuple ha
  obtain ⟨jts, r2, p2, _⟩ := I.tuple hb
  by_cases hx : xs = []
  · subst hx
    cases r1
    exact cat_tup0 p1 p2 ⟨.ref b, H, I, rfl, q0 rfl⟩
  · have ix : its ≠ [] := fun z => hx (r1.nil_iff.mp z)
    refine HT.cat_tup p1 p2 ix (fun z => ⟨.ref a, H, I, rfl, q1 hx (r2.nil_iff.mp z)⟩) (fun z => ?_) (by rw [← r1.length, ← r2.length]; exact hz)
    exact ⟨.ref _, _, tnew I (r1.append r2) (by rw [List.length_append]; exact hz), rfl, (q2 hx fun w => z (r2.nil_iff.mpr w)).at I.fresh _⟩
/-- t[lo:hi] -/
def rSlF (K : PySem.W.Frag) : V → Option Int → Option Int → Hp → VK → Prop := fun x lo hi H Q => ∃ a xs, x = .ref a ∧ SqT K H a xs ∧
  (cutV xs lo hi = xs → Q (.ref a) H) ∧ NewT H (cutV xs lo hi) Q
theorem sl_tupF : SlR X (rSlF X.K) := by
  intro pins s σ H x v vl vu lo hi sl Q I rx hs pl pu h
  obtain ⟨a, xs, rfl, hx, q1, q2⟩ := h
  cases rx
  obtain ⟨its, r, ht, hz⟩ := I.tuple hx
  have hlen : its.toArray.size = xs.length := by rw [List.size_toArray]; exact r.length.symm
  refine ⟨"tuple", _, PyProof.Rows.slot_tuple_getitem.lookup, ht.typeIs, ?_⟩
  by_cases hw : HT.sIx xs.length 0 lo = 0 ∧ HT.sIx xs.length xs.length hi = xs.length
  · refine getItem_tuple_whole ht hs pl pu (by rw [hlen]; exact hw) ⟨.ref a, H, I, rfl, q1 ?_⟩
    unfold cutV
    rw [hw.1, hw.2, List.drop_zero, Nat.sub_zero, List.take_length]
  · refine HT.getItem_tuple_cut ht hs pl pu (by rw [hlen]; exact hw) ?_ (by rw [hlen]; exact hz)
    rw [hlen]
    exact ⟨.ref _, _, tnew I ((r.drop (HT.sIx xs.length 0 lo)).take (HT.sIx xs.length xs.length hi - HT.sIx xs.length 0 lo)) (Nat.le_trans (cutV_length xs lo hi) hz), rfl, q2.at I.fresh _⟩
end
end PL
set_option Elab.async false
set_option linter.all false
set_option maxRecDepth 100000
/-! PL2: states, results, judgements. -/
namespace PL
open PySem PySem.Spec L2

/-! ### results -/
inductive Rs (α : Type) where
  | bad
  | ok (a : α)
  | ex (c : Str)
def Rs.bind {α β : Type} (r : Rs α) (f : α → Rs β) : Rs β := match r with
  | .bad => .bad
  | .ok a => f a
  | .ex c => .ex c
theorem Rs.ok_bind {α β : Type} (a : α) (f : α → Rs β) : (Rs.ok a).bind f = f a := rfl
theorem Rs.ex_bind {α β : Type} (c : Str) (f : α → Rs β) : (Rs.ex c : Rs α).bind f = .ex c := rfl
theorem Rs.bad_bind {α β : Type} (f : α → Rs β) : (Rs.bad : Rs α).bind f = .bad := rfl
def RsOK {α : Type} (r : Rs α) (P : α → Prop) (X : Str → Prop) : Prop := match r with
  | .bad => False
  | .ok a => P a
  | .ex c => X c
theorem RsOK.bind {α β : Type} {r : Rs α} {f : α → Rs β} {P : β → Prop} {X : Str → Prop} (h : RsOK (r.bind f) P X) : RsOK r (fun a => RsOK (f a) P X) X := by
  cases r with
  | bad => exact h
  | ok a => exact h
  | ex c => exact h
theorem RsOK.imp {α : Type} {r : Rs α} {P P' : α → Prop} {X X' : Str → Prop} (h : RsOK r P X) (hp : ∀ a, P a → P' a) (hx : ∀ c, X c → X' c) : RsOK r P' X' := by
  cases r with
  | bad => exact h
  | ok a => exact hp _ h
  | ex c => exact hx _ h

abbrev En := List (Option T)
def En.get (ρ : En) (i : Nat) : Option T := match ρ with
  | [] => none
  | x :: r => match i with
    | 0 => x
    | i + 1 => En.get r i
theorem En.get_eq : ∀ (ρ : En) (i : Nat) (t : T), ρ.get i = some t ↔ ρ[i]? = some (some t)
  | [], i, t => by simp [En.get]
  | x :: r, 0, t => by simp [En.get]
  | x :: r, i + 1, t => by
    have := En.get_eq r i t
    simp [En.get, this]
def rsO {α : Type} : Option α → Rs α
  | none => .bad
  | some a => .ok a

/-! ### growth -/
structure Grow (S H S' H' : Hp) : Prop where
  h : Same H H'
  s : Same S S'
  i : Same S' H'
  f : ∀ a, (∃ o, H a = some o) → S a = none → S' a = none
theorem Grow.refl {S H : Hp} (i : Same S H) : Grow S H S H := ⟨.refl _, .refl _, i, fun _ _ e => e⟩
theorem Grow.trans {S H S1 H1 S2 H2 : Hp} (a : Grow S H S1 H1) (b : Grow S1 H1 S2 H2) : Grow S H S2 H2 :=
  ⟨a.h.trans b.h, a.s.trans b.s, b.i, fun c ⟨o, e⟩ n => b.f c ⟨o, a.h _ _ e⟩ (a.f c ⟨o, e⟩ n)⟩
theorem same_upd {H : Hp} {p : Addr} {o : HO} (h : H p = none) : Same H (upd H p o) := fun b x e => by
  rw [upd_ne (ne_of_none e h)]
  exact e
/-- a new own thing -/
theorem Grow.own {S H : Hp} {p : Addr} {o : HO} (i : Same S H) (n : H p = none) : Grow S H S (upd H p o) :=
  ⟨same_upd n, .refl _, i.trans (same_upd n), fun _ _ e => e⟩
/-- a new shared thing -/
theorem Grow.shared {S H : Hp} {p : Addr} {o : HO} (i : Same S H) (n : H p = none) : Grow S H (upd S p o) (upd H p o) := by
  have nS : S p = none := i.free n
  refine ⟨same_upd n, same_upd nS, fun b x e => ?_, fun a ⟨x, e⟩ z => ?_⟩
  · by_cases hb : b = p
    · subst hb; rw [upd_same] at e ⊢; exact e
    · rw [upd_ne hb] at e ⊢; exact i _ _ e
  · rw [upd_ne (ne_of_none e n)]; exact z
/-- own things are shared -/
def shr (S H : Hp) (fp : List Addr) : Hp := fun a => if a ∈ fp then H a else S a
theorem shr_in {S H : Hp} {fp : List Addr} {a : Addr} (h : a ∈ fp) : shr S H fp a = H a := if_pos h
theorem shr_out {S H : Hp} {fp : List Addr} {a : Addr} (h : a ∉ fp) : shr S H fp a = S a := if_neg h
theorem shr_same {S H : Hp} {fp : List Addr} (i : Same S H) : Same S (shr S H fp) := fun a o e => by
  by_cases h : a ∈ fp
  · rw [shr_in h]; exact i _ _ e
  · rw [shr_out h]; exact e
theorem shr_sub {S H : Hp} {fp : List Addr} (i : Same S H) : Same (shr S H fp) H := fun a o e => by
  by_cases h : a ∈ fp
  · rw [shr_in h] at e; exact e
  · rw [shr_out h] at e; exact i _ _ e
theorem Grow.shr {S H S' H' : Hp} {fp : List Addr} (g : Grow S H S' H') (f : ∀ a ∈ fp, H a = none) : Grow S H (shr S' H' fp) H' :=
  ⟨g.h, g.s.trans (shr_same g.i), shr_sub g.i, fun a ⟨o, e⟩ n => by
    have : a ∉ fp := fun z => by rw [f a z] at e; cases e
    rw [shr_out this]; exact g.f a ⟨o, e⟩ n⟩

/-! ### states -/
structure Ent where
  S : Hp
  H : Hp
structure StInv (K : PySem.W.Frag) (E : Ent) (S : Hp) (φ : Nat → List Addr) (ρ : En) (σ : St) (H : Hp) : Prop where
  gr : Grow E.S E.H S H
  len : ρ.length = σ.length
  slot : ∀ (i : Nat) t, ρ[i]? = some (some t) → ∃ v, σ[i]? = some (some v) ∧ RepT K S H t v (φ i)
  nd : ∀ i, (φ i).Nodup
  dj : ∀ i j a, a ∈ φ i → a ∈ φ j → i = j
  fr : ∀ i a, a ∈ φ i → S a = none ∧ E.H a = none ∧ ∃ o, H a = some o
theorem StInv.grow {K : PySem.W.Frag} {E : Ent} {S S' : Hp} {φ : Nat → List Addr} {ρ : En} {σ : St} {H H' : Hp} (I : StInv K E S φ ρ σ H) (g : Grow S H S' H') : StInv K E S' φ ρ σ H' :=
  ⟨I.gr.trans g, I.len, fun i t e => by
    obtain ⟨v, e1, r⟩ := I.slot i t e
    exact ⟨v, e1, r.grow g.s g.h⟩, I.nd, I.dj, fun i a ha => by
    obtain ⟨h1, h2, o, h3⟩ := I.fr i a ha
    exact ⟨g.f a ⟨o, h3⟩ h1, h2, o, g.h _ _ h3⟩⟩

/-- an exception's wish -/
def XOK (mg : Str → Option Value) (W : WX) (c : Str) (σ : St) (H : Hp) : Prop := ∀ C, mg c = some (.ref C) → W (.ref C) none σ H
/-- an own or shared result, new -/
def Ret (K : PySem.W.Frag) (S H : Hp) (t : T) (Q : VK) : Prop :=
  ∀ v S' H' fp, Grow S H S' H' → RepT K S' H' t v fp → fp.Nodup → (∀ a ∈ fp, S' a = none ∧ H a = none) → Q v H'
theorem Ret.later {K : PySem.W.Frag} {S H S1 H1 : Hp} {t : T} {Q : VK} (r : Ret K S H t Q) (g : Grow S H S1 H1) : Ret K S1 H1 t Q :=
  fun v S' H' fp g' q n f => r v S' H' fp (g.trans g') q n fun a ha => ⟨(f a ha).1, g.h.free (f a ha).2⟩
/-- a result that may hold moved slots' things -/
def RetM (K : PySem.W.Frag) (S H : Hp) (φ : Nat → List Addr) (mv : List Nat) (t : T) (Q : VK) : Prop :=
  ∀ v S' H' fp, Grow S H S' H' → RepT K S' H' t v fp → fp.Nodup → (∀ a ∈ fp, S' a = none ∧ (H a = none ∨ ∃ i ∈ mv, a ∈ φ i)) → Q v H'
theorem RetM.ret {K : PySem.W.Frag} {S H : Hp} {φ : Nat → List Addr} {mv : List Nat} {t : T} {Q : VK} (r : RetM K S H φ mv t Q) : Ret K S H t Q :=
  fun v S' H' fp g' q n f => r v S' H' fp g' q n fun a ha => ⟨(f a ha).1, .inl (f a ha).2⟩
/-- a view -/
def RetV (K : PySem.W.Frag) (S H : Hp) (t : T) (Q : VK) : Prop :=
  ∀ v S' H' fp, Grow S H S' H' → RepT K S' H' t v fp → Q v H'

def SemE (K : PySem.W.Frag) (mg : Str → Option Value) (W : WX) (te : TE) (ev : En → Rs T) (mv : List Nat) : Prop :=
  ∀ E S φ ρ σ H Q, StInv K E S φ ρ σ H → RsOK (ev ρ) (fun t => RetM K S H φ mv t Q) (fun c => ∀ S' H', Grow S H S' H' → XOK mg W c σ H') → te σ H Q
def SemV (K : PySem.W.Frag) (mg : Str → Option Value) (W : WX) (te : TE) (ev : En → Rs T) : Prop :=
  ∀ E S φ ρ σ H Q, StInv K E S φ ρ σ H → RsOK (ev ρ) (fun t => RetV K S H t Q) (fun c => ∀ S' H', Grow S H S' H' → XOK mg W c σ H') → te σ H Q
/-- an expression's value, owned -/
structure DE (X : Cx) (W : WX) (e : Expr) (te : TE) (ev : En → Rs T) (mv : List Nat) : Prop where
  pe : PE X e te
  sm : SemE X.K X.mg W te ev mv
/-- an expression's value, looked at -/
structure DV (X : Cx) (W : WX) (e : Expr) (te : TE) (ev : En → Rs T) : Prop where
  pe : PE X e te
  sm : SemV X.K X.mg W te ev
def SemB (K : PySem.W.Frag) (mg : Str → Option Value) (W : WX) (tt : TT) (ev : En → Rs Bool) : Prop :=
  ∀ E S φ ρ σ H Q, StInv K E S φ ρ σ H → RsOK (ev ρ) (fun b => ∀ S' H', Grow S H S' H' → Q b H') (fun c => ∀ S' H', Grow S H S' H' → XOK mg W c σ H') → tt σ H Q
/-- a test -/
structure DT (X : Cx) (W : WX) (e : Expr) (tt : TT) (ev : En → Rs Bool) : Prop where
  pe : PT X e tt
  sm : SemB X.K X.mg W tt ev
structure DW (X : Cx) (W : WX) (e : Expr) (tt : TT) (ev : En → Rs Bool) : Prop where
  pe : PW X e tt
  sm : SemB X.K X.mg W tt ev

/-! ### from one to the other -/
def evSh (ev : En → Rs T) : En → Rs T := fun ρ => (ev ρ).bind fun t => if t.noScr then .ok (.sh t.er) else .bad
def evEsc (ev : En → Rs T) : En → Rs T := fun ρ => (ev ρ).bind fun t => match t with
  | .sh d => .ok (.sh d)
  | .scr ns => .ok (.scr ns)
  | _ => .bad
section
variable {X : Cx} {W : WX} {e : Expr} {te : TE} {ev : En → Rs T}
theorem dv_of (h : DE X W e te ev []) : DV X W e te (evSh ev) := by
  refine ⟨h.pe, fun E S φ ρ σ H Q I r => h.sm E S φ ρ σ H Q I (r.bind.imp (fun t ht v S' H' fp g q n f => ?_) fun _ x => x)⟩
  by_cases hn : t.noScr = true
  · rw [if_pos hn] at ht
    refine ht v (shr S' H' fp) H' [] (g.shr fun a ha => ?_) ?_
    · rcases (f a ha).2 with z | ⟨i, hi, _⟩
      · exact z
      · cases hi
    · simp only [RepT, true_and]
      exact RepT.share (shr_same g.i) t v fp hn (fun a ha o e => by rw [shr_in ha]; exact e) q
  · rw [if_neg hn] at ht
    exact False.elim ht
theorem de_esc (h : DV X W e te ev) : DE X W e te (evEsc ev) [] := by
  refine ⟨h.pe, fun E S φ ρ σ H Q I r => h.sm E S φ ρ σ H Q I (r.bind.imp (fun t ht v S' H' fp g q => ?_) fun _ x => x)⟩
  cases t with
  | sh d =>
    have q' := q
    simp only [RepT] at q'
    obtain ⟨e, q'⟩ := q'
    subst e
    exact ht v S' H' [] g q .nil fun a ha => by cases ha
  | scr ns =>
    have q' := q
    simp only [RepT] at q'
    obtain ⟨e, q'⟩ := q'
    subst e
    exact ht v S' H' [] g q .nil fun a ha => by cases ha
  | ol _ => exact False.elim ht
  | od _ => exact False.elim ht
  | ot _ => exact False.elim ht
  | tu _ => exact False.elim ht
  | rg _ _ => exact False.elim ht
end

/-! ### names, constants -/
def evVar (i : Nat) : En → Rs T := fun ρ => rsO (ρ.get i)
def evC (d : D) : En → Rs T := fun _ => .ok (.sh d)
section
variable {X : Cx} {W : WX}
theorem dv_var (i : Nat) {x : Str} {pos : Pos} (hN : X.N[i]? = some x := by rfl) (hv : Vis X.env.scope x := by first | exact Or.inl rfl | exact Or.inr (Or.inl rfl) | exact Or.inr (Or.inr rfl)) (hd : (x == ("__debug__" : Str)) = false := by decide)
    (hcd : (x == ("__classdict__" : Str)) = false := by decide) : DV X W (.Name x pos) (tVar i) (evVar i) := by
  refine ⟨pe_var hN hv hd hcd, fun E S φ ρ σ H Q I r => ?_⟩
  unfold evVar rsO at r
  cases e : ρ.get i with
  | none => rw [e] at r; exact False.elim r
  | some t =>
    rw [e] at r
    obtain ⟨v, e1, q⟩ := I.slot i t ((En.get_eq _ _ _).mp e)
    exact ⟨v, e1, r v S H _ (.refl I.gr.i) q⟩
theorem de_mov (i : Nat) {x : Str} {pos : Pos} (hN : X.N[i]? = some x := by rfl) (hv : Vis X.env.scope x := by first | exact Or.inl rfl | exact Or.inr (Or.inl rfl) | exact Or.inr (Or.inr rfl)) (hd : (x == ("__debug__" : Str)) = false := by decide)
    (hcd : (x == ("__classdict__" : Str)) = false := by decide) : DE X W (.Name x pos) (tVar i) (evVar i) [i] := by
  refine ⟨pe_var hN hv hd hcd, fun E S φ ρ σ H Q I r => ?_⟩
  unfold evVar rsO at r
  cases e : ρ.get i with
  | none => rw [e] at r; exact False.elim r
  | some t =>
    rw [e] at r
    obtain ⟨v, e1, q⟩ := I.slot i t ((En.get_eq _ _ _).mp e)
    exact ⟨v, e1, r v S H _ (.refl I.gr.i) q (I.nd i) fun a ha => ⟨(I.fr i a ha).1, .inr ⟨i, by simp, ha⟩⟩⟩
theorem sem_c {te : TE} {d : D} {v : V} (h : ∀ S, RepD S d v) (ht : ∀ σ H Q, Q v H → te σ H Q) : SemE X.K X.mg W te (evC d) [] := fun E S φ ρ σ H Q I r =>
  ht _ _ _ (r v S H [] (.refl I.gr.i) (by simp only [RepT, true_and]; exact h S) .nil fun a ha => by cases ha)
theorem de_int {i j pos} : DE X W (.Constant (.int i) j pos) (tC (.int i)) (evC (.int i)) [] := ⟨pe_int, sem_c (fun _ => by simp only [RepD]) fun _ _ _ h => h⟩
theorem de_bl {i j pos} : DE X W (.Constant (.bool i) j pos) (tC (.bl i)) (evC (.bool i)) [] := ⟨pe_bl, sem_c (fun _ => by simp only [RepD]) fun _ _ _ h => h⟩
theorem de_non {j pos} : DE X W (.Constant .none j pos) (tC .non) (evC .none) [] := ⟨pe_non, sem_c (fun _ => by simp only [RepD]) fun _ _ _ h => h⟩
theorem de_str {i j pos} : DE X W (.Constant (.str i) j pos) (tC (.str i)) (evC (.str i)) [] := ⟨pe_str, sem_c (fun _ => by simp only [RepD]) fun _ _ _ h => h⟩
end

/-! ### operators by values -/
theorem RsOK.rsO {α : Type} {o : Option α} {P : α → Prop} {X : Str → Prop} (h : RsOK (rsO o) P X) : ∃ a, o = some a ∧ P a := by
  cases o with
  | none => exact False.elim h
  | some a => exact ⟨a, rfl, h⟩
def SemOp (K : PySem.W.Frag) (r : R2) (f : T → T → Option T) : Prop :=
  ∀ S H x y vx vy fx fy Q t, Same S H → RepT K S H x vx fx → RepT K S H y vy fy → f x y = some t → Ret K S H t Q → r vx vy H Q
def evBin (f : T → T → Option T) (ea eb : En → Rs T) : En → Rs T := fun ρ => (ea ρ).bind fun x => (eb ρ).bind fun y => rsO (f x y)
section
variable {X : Cx} {W : WX} {a b : Expr} {ta tb : TE} {ea eb : En → Rs T} {pos : Pos} {r : R2} {f : T → T → Option T}
theorem sem_bin {K : PySem.W.Frag} {mg : Str → Option Value} (hs : SemOp K r f) (ha : SemV K mg W ta ea) (hb : SemV K mg W tb eb) : SemE K mg W (tOp r ta tb) (evBin f ea eb) [] := by
  intro E S φ ρ σ H Q I h
  refine ha E S φ ρ σ H _ I (h.bind.imp (fun x hx vx S1 H1 fx g1 qx => ?_) fun _ z => z)
  refine hb E S1 φ ρ σ H1 _ (I.grow g1) (hx.bind.imp (fun y hy vy S2 H2 fy g2 qy => ?_) fun _ z S' H' g => z S' H' (g1.trans g))
  have g := g1.trans g2
  obtain ⟨t, e, ht⟩ := hy.rsO
  exact hs S2 H2 x y vx vy fx fy Q t g2.i (qx.grow g2.s g2.h) qy e (ht.ret.later g)
theorem de_op {op : Operator} (ho : OpR X (binaryOp op) r) (hs : SemOp X.K r f) (ha : DV X W a ta ea) (hb : DV X W b tb eb) : DE X W (.BinOp a op b pos) (tOp r ta tb) (evBin f ea eb) [] :=
  ⟨pe_op ho ha.pe hb.pe, sem_bin hs ha.sm hb.sm⟩
theorem de_cmp {op : CmpOp} (ho : OpR X (compareOp op) r) (hs : SemOp X.K r f) (ha : DV X W a ta ea) (hb : DV X W b tb eb) (hm : behindInMarks op b = false) : DE X W (.Compare a [op] [b] pos) (tOp r ta tb) (evBin f ea eb) [] :=
  ⟨pe_cmpR ho ha.pe hb.pe hm, sem_bin hs ha.sm hb.sm⟩
end
end PL
set_option Elab.async false
set_option linter.all false
set_option maxRecDepth 100000
/-! PL3: tests, displays, calls. -/
namespace PL
open PySem PySem.Spec L2

/-! ### tests -/
def T.asB : T → Option Bool
  | .sh (.bool b) => some b
  | _ => none
def evB (ev : En → Rs T) : En → Rs Bool := fun ρ => (ev ρ).bind fun t => rsO t.asB
theorem asB_rep {K : PySem.W.Frag} {S H : Hp} {t : T} {v : V} {fp : List Addr} {b : Bool} (q : RepT K S H t v fp) (e : t.asB = some b) : v = .bl b := by
  unfold T.asB at e
  split at e
  · cases e
    simp only [RepT, RepD] at q
    exact q.2
  · cases e
section
variable {X : Cx} {W : WX} {a b e : Expr} {te ta tb : TE} {ev ea eb : En → Rs T} {pos : Pos} {r r' : R2} {f f' : T → T → Option T} {tA tB' : TT} {eA eB : En → Rs Bool}
theorem sem_b {K : PySem.W.Frag} {mg : Str → Option Value} (h : SemV K mg W te ev) : SemB K mg W (fun σ H Q => te σ H fun x H1 => ∃ c, x = .bl c ∧ Q c H1) (evB ev) := by
  intro E S φ ρ σ H Q I q
  refine h E S φ ρ σ H _ I (q.bind.imp (fun t ht v S' H' fp g q => ?_) fun _ x => x)
  obtain ⟨b, e, ht⟩ := ht.rsO
  exact ⟨b, asB_rep q e, ht S' H' g⟩
theorem dt_val (h : DV X W e te ev) (he : ∀ whole, isTrue e X.env whole = (do let v ← whole; standAt e.pos; holding [v] (truthy v)) := by intro _; rfl) : DT X W e (tB te) (evB ev) :=
  ⟨pt_val h.pe he, sem_b h.sm⟩
theorem sem_v {K : PySem.W.Frag} {mg : Str → Option Value} {te : TE} {ev : En → Rs T} (h : SemE K mg W te ev []) : SemV K mg W te (evSh ev) := by
  intro E S φ ρ σ H Q I r
  refine h E S φ ρ σ H Q I (r.bind.imp (fun t ht v S' H' fp g q n f => ?_) fun _ x => x)
  by_cases hn : t.noScr = true
  · rw [if_pos hn] at ht
    refine ht v (shr S' H' fp) H' [] (g.shr fun a ha => ?_) ?_
    · rcases (f a ha).2 with z | ⟨i, hi, _⟩
      · exact z
      · cases hi
    · simp only [RepT, true_and]
      exact RepT.share (shr_same g.i) t v fp hn (fun a ha o e => by rw [shr_in ha]; exact e) q
  · rw [if_neg hn] at ht
    exact False.elim ht
/-- an owned value that is a bool, as a test -/
def evEB (ev : En → Rs T) : En → Rs Bool := fun ρ => (ev ρ).bind fun t => rsO t.asB
theorem sem_eb {K : PySem.W.Frag} {mg : Str → Option Value} (h : SemE K mg W te ev []) : SemB K mg W (fun σ H Q => te σ H fun x H1 => ∃ c, x = .bl c ∧ Q c H1) (evEB ev) := by
  intro E S φ ρ σ H Q I q
  refine h E S φ ρ σ H _ I (q.bind.imp (fun t ht v S' H' fp g q _ _ => ?_) fun _ x => x)
  obtain ⟨b, e, ht⟩ := ht.rsO
  exact ⟨b, asB_rep q e, ht S' H' g⟩
theorem dt_eval (h : DE X W e te ev []) (he : ∀ whole, isTrue e X.env whole = (do let v ← whole; standAt e.pos; holding [v] (truthy v)) := by intro _; rfl) : DT X W e (tB te) (evEB ev) :=
  ⟨pt_val h.pe he, sem_eb h.sm⟩
theorem dt_cmp {op : CmpOp} (ho : OpR X (compareOp op) r) (hs : SemOp X.K r f) (ha : DV X W a ta ea) (hb : DV X W b tb eb) (hm : behindInMarks op b = false) : DT X W (.Compare a [op] [b] pos) (tTest (tOp r ta tb)) (evEB (evBin f ea eb)) :=
  ⟨pt_cmpR ho ha.pe hb.pe hm, sem_eb (sem_bin hs ha.sm hb.sm)⟩
/-- a op1 b op2 c -/
def evChain (f f' : T → T → Option T) (ea eb ec : En → Rs T) : En → Rs T := fun ρ => (ea ρ).bind fun x => (eb ρ).bind fun y => (rsO ((f x y).bind T.asB)).bind fun k =>
  bif k then (ec ρ).bind fun z => rsO (f' y z) else .ok (.sh (.bool false))
theorem sem_chain {K : PySem.W.Frag} {mg : Str → Option Value} {c : Expr} {tc : TE} {ec : En → Rs T} (hs : SemOp K r f) (hs' : SemOp K r' f') (ha : SemV K mg W ta ea) (hb : SemV K mg W tb eb) (hc : SemV K mg W tc ec) : SemE K mg W (tChain r r' ta tb tc) (evChain f f' ea eb ec) [] := by
  intro E S φ ρ σ H Q I h
  refine ha E S φ ρ σ H _ I (h.bind.imp (fun x hx vx S1 H1 fx g1 qx => ?_) fun _ z => z)
  refine hb E S1 φ ρ σ H1 _ (I.grow g1) (hx.bind.imp (fun y hy vy S2 H2 fy g2 qy => ?_) fun _ z S' H' g => z S' H' (g1.trans g))
  have g := g1.trans g2
  obtain ⟨k, e, ht⟩ := hy.bind.rsO
  cases ef : f x y with
  | none => rw [ef] at e; cases e
  | some t =>
    rw [ef] at e
    have e : t.asB = some k := e
    refine hs S2 H2 x y vx vy fx fy _ t g2.i (qx.grow g2.s g2.h) qy ef (fun v S3 H3 fp g3 q3 n3 f3 => ⟨k, asB_rep q3 e, ?_⟩)
    cases k with
    | false =>
      rw [if_neg (by decide)]
      exact ht (.bl false) S3 H3 [] (g.trans g3) (by simp only [RepT, RepD, true_and]) .nil fun a ha => by cases ha
    | true =>
      rw [if_pos rfl]
      refine hc E S3 φ ρ σ H3 _ (I.grow (g.trans g3)) (RsOK.imp (RsOK.bind ht) (fun z hz vz S4 H4 fz g4 qz => ?_) fun _ z S' H' g' => z S' H' ((g.trans g3).trans g'))
      obtain ⟨t', e', ht'⟩ := hz.rsO
      have g24 := g3.trans g4
      exact hs' S4 H4 y z vy vz fy fz Q t' g4.i (qy.grow g24.s g24.h) qz e' (ht'.ret.later (g.trans g24))
theorem de_chain {c : Expr} {tc : TE} {ec : En → Rs T} {op op' : CmpOp} (ho : OpR X (compareOp op) r) (hs : SemOp X.K r f) (ho' : OpR X (compareOp op') r') (hs' : SemOp X.K r' f') (ha : DV X W a ta ea) (hb : DV X W b tb eb) (hc : DV X W c tc ec)
    (hm : lastMarks [op, op'] [b, c] = false := by with_unfolding_all rfl) : DE X W (.Compare a [op, op'] [b, c] pos) (tChain r r' ta tb tc) (evChain f f' ea eb ec) [] :=
  ⟨pe_chain ho ho' ha.pe hb.pe hc.pe hm, sem_chain (c := c) hs hs' ha.sm hb.sm hc.sm⟩
theorem dt_chain {c : Expr} {tc : TE} {ec : En → Rs T} {op op' : CmpOp} (ho : OpR X (compareOp op) r) (hs : SemOp X.K r f) (ho' : OpR X (compareOp op') r') (hs' : SemOp X.K r' f') (ha : DV X W a ta ea) (hb : DV X W b tb eb) (hc : DV X W c tc ec)
    (hm : lastMarks [op, op'] [b, c] = false := by with_unfolding_all rfl) : DT X W (.Compare a [op, op'] [b, c] pos) (tTest (tChain r r' ta tb tc)) (evEB (evChain f f' ea eb ec)) :=
  ⟨pt_chain ho ho' ha.pe hb.pe hc.pe hm, sem_eb (sem_chain (c := c) hs hs' ha.sm hb.sm hc.sm)⟩

/-! and, or, not -/
def evAnd (ea eb : En → Rs Bool) : En → Rs Bool := fun ρ => (ea ρ).bind fun x => bif x then eb ρ else .ok false
def evOr (ea eb : En → Rs Bool) : En → Rs Bool := fun ρ => (ea ρ).bind fun x => bif x then .ok true else eb ρ
def evNot (ea : En → Rs Bool) : En → Rs Bool := fun ρ => (ea ρ).bind fun x => .ok (!x)
theorem sem_and {K : PySem.W.Frag} {mg : Str → Option Value} (ha : SemB K mg W tA eA) (hb : SemB K mg W tB' eB) : SemB K mg W (tAnd tA tB') (evAnd eA eB) := by
  intro E S φ ρ σ H Q I h
  refine ha E S φ ρ σ H _ I (h.bind.imp (fun x hx S1 H1 g1 => ?_) fun _ z => z)
  cases x with
  | false => rw [if_neg (by decide)]; exact hx S1 H1 g1
  | true =>
    rw [if_pos rfl]
    exact hb E S1 φ ρ σ H1 _ (I.grow g1) (RsOK.imp hx (fun b hb S2 H2 g2 => hb S2 H2 (g1.trans g2)) fun _ z S' H' g => z S' H' (g1.trans g))
theorem sem_or {K : PySem.W.Frag} {mg : Str → Option Value} (ha : SemB K mg W tA eA) (hb : SemB K mg W tB' eB) : SemB K mg W (tOr tA tB') (evOr eA eB) := by
  intro E S φ ρ σ H Q I h
  refine ha E S φ ρ σ H _ I (h.bind.imp (fun x hx S1 H1 g1 => ?_) fun _ z => z)
  cases x with
  | true => rw [if_pos rfl]; exact hx S1 H1 g1
  | false =>
    rw [if_neg (by decide)]
    exact hb E S1 φ ρ σ H1 _ (I.grow g1) (RsOK.imp hx (fun b hb S2 H2 g2 => hb S2 H2 (g1.trans g2)) fun _ z S' H' g => z S' H' (g1.trans g))
theorem sem_not {K : PySem.W.Frag} {mg : Str → Option Value} (ha : SemB K mg W tA eA) : SemB K mg W (tNot tA) (evNot eA) := by
  intro E S φ ρ σ H Q I h
  exact ha E S φ ρ σ H _ I (h.bind.imp (fun x hx S1 H1 g1 => hx S1 H1 g1) fun _ z => z)
variable {rest : List Expr}
theorem dw_and1 (ha : DT X W a tA eA) : DW X W (.BoolOp .And [a] pos) tA eA := ⟨pw_and1 ha.pe, ha.sm⟩
theorem dw_or1 (ha : DT X W a tA eA) : DW X W (.BoolOp .Or [a] pos) tA eA := ⟨pw_or1 ha.pe, ha.sm⟩
theorem dw_and (ha : DT X W a tA eA) (hb : DW X W (.BoolOp .And (b :: rest) pos) tB' eB) : DW X W (.BoolOp .And (a :: b :: rest) pos) (tAnd tA tB') (evAnd eA eB) := ⟨pw_and ha.pe hb.pe, sem_and ha.sm hb.sm⟩
theorem dw_or (ha : DT X W a tA eA) (hb : DW X W (.BoolOp .Or (b :: rest) pos) tB' eB) : DW X W (.BoolOp .Or (a :: b :: rest) pos) (tOr tA tB') (evOr eA eB) := ⟨pw_or ha.pe hb.pe, sem_or ha.sm hb.sm⟩
theorem dt_bool (h : DW X W e tA eA) : DT X W e tA eA := ⟨h.pe.pt, h.sm⟩
theorem dt_not (ha : DT X W a tA eA) : DT X W (.UnaryOp .Not a pos) (tNot tA) (evNot eA) := ⟨pt_not ha.pe, sem_not ha.sm⟩
/-- as values: bools -/
def evAndV (ea eb : En → Rs T) : En → Rs T := fun ρ => (ea ρ).bind fun x => (rsO x.asB).bind fun k => bif k then eb ρ else .ok (.sh (.bool false))
def evOrV (ea eb : En → Rs T) : En → Rs T := fun ρ => (ea ρ).bind fun x => (rsO x.asB).bind fun k => bif k then .ok (.sh (.bool true)) else eb ρ
def evNotV (ea : En → Rs T) : En → Rs T := fun ρ => (ea ρ).bind fun x => (rsO x.asB).bind fun k => .ok (.sh (.bool (!k)))
theorem sem_orV {K : PySem.W.Frag} {mg : Str → Option Value} (ha : SemV K mg W ta ea) (hb : SemE K mg W tb eb []) : SemE K mg W (tOrV ta tb) (evOrV ea eb) [] := by
  intro E S φ ρ σ H Q I h
  refine ha E S φ ρ σ H _ I (h.bind.imp (fun x hx v S1 H1 fx g1 qx => ?_) fun _ z => z)
  obtain ⟨k, e, ht⟩ := hx.bind.rsO
  refine ⟨k, asB_rep qx e, ?_⟩
  cases k with
  | true => rw [if_pos rfl]; exact ht (.bl true) S1 H1 [] g1 (by simp only [RepT, RepD, true_and]) .nil fun a ha => by cases ha
  | false =>
    rw [if_neg (by decide)]
    refine hb E S1 φ ρ σ H1 _ (I.grow g1) (RsOK.imp ht (fun t q v S2 H2 fp g2 q2 n2 f2 => ?_) fun _ z S' H' g => z S' H' (g1.trans g))
    refine q v S2 H2 fp (g1.trans g2) q2 n2 fun a ha => ⟨(f2 a ha).1, ?_⟩
    rcases (f2 a ha).2 with z | ⟨i, hi, _⟩
    · exact .inl (g1.h.free z)
    · cases hi
theorem sem_andV {K : PySem.W.Frag} {mg : Str → Option Value} (ha : SemV K mg W ta ea) (hb : SemE K mg W tb eb []) : SemE K mg W (tAndV ta tb) (evAndV ea eb) [] := by
  intro E S φ ρ σ H Q I h
  refine ha E S φ ρ σ H _ I (h.bind.imp (fun x hx v S1 H1 fx g1 qx => ?_) fun _ z => z)
  obtain ⟨k, e, ht⟩ := hx.bind.rsO
  refine ⟨k, asB_rep qx e, ?_⟩
  cases k with
  | false => rw [if_neg (by decide)]; exact ht (.bl false) S1 H1 [] g1 (by simp only [RepT, RepD, true_and]) .nil fun a ha => by cases ha
  | true =>
    rw [if_pos rfl]
    refine hb E S1 φ ρ σ H1 _ (I.grow g1) (RsOK.imp ht (fun t q v S2 H2 fp g2 q2 n2 f2 => ?_) fun _ z S' H' g => z S' H' (g1.trans g))
    refine q v S2 H2 fp (g1.trans g2) q2 n2 fun a ha => ⟨(f2 a ha).1, ?_⟩
    rcases (f2 a ha).2 with z | ⟨i, hi, _⟩
    · exact .inl (g1.h.free z)
    · cases hi
theorem sem_notV {K : PySem.W.Frag} {mg : Str → Option Value} (ha : SemV K mg W ta ea) : SemE K mg W (tNotV ta) (evNotV ea) [] := by
  intro E S φ ρ σ H Q I h
  refine ha E S φ ρ σ H _ I (h.bind.imp (fun x hx v S1 H1 fx g1 qx => ?_) fun _ z => z)
  obtain ⟨k, e, ht⟩ := hx.bind.rsO
  exact ⟨k, asB_rep qx e, ht (.bl (!k)) S1 H1 [] g1 (by simp only [RepT, RepD, true_and]) .nil fun a ha => by cases ha⟩
theorem de_one {op} (h : DE X W a ta ea []) : DE X W (.BoolOp op [a] pos) ta ea [] := ⟨pe_one h.pe, h.sm⟩
theorem de_and (ha : DV X W a ta ea) (hb : DE X W (.BoolOp .And (b :: rest) pos) tb eb []) : DE X W (.BoolOp .And (a :: b :: rest) pos) (tAndV ta tb) (evAndV ea eb) [] := ⟨pe_and ha.pe hb.pe, sem_andV ha.sm hb.sm⟩
theorem de_or (ha : DV X W a ta ea) (hb : DE X W (.BoolOp .Or (b :: rest) pos) tb eb []) : DE X W (.BoolOp .Or (a :: b :: rest) pos) (tOrV ta tb) (evOrV ea eb) [] := ⟨pe_or ha.pe hb.pe, sem_orV ha.sm hb.sm⟩
theorem de_not (ha : DV X W a ta ea) : DE X W (.UnaryOp .Not a pos) (tNotV ta) (evNotV ea) [] := ⟨pe_not ha.pe, sem_notV ha.sm⟩
/-- a if c else b -/
def evIf (ec : En → Rs Bool) (ea eb : En → Rs T) : En → Rs T := fun ρ => (ec ρ).bind fun k => bif k then ea ρ else eb ρ
theorem RetM.later0 {K : PySem.W.Frag} {S H S1 H1 : Hp} {φ : Nat → List Addr} {mv : List Nat} {t : T} {Q : VK} (r : RetM K S H φ mv t Q) (g : Grow S H S1 H1) : RetM K S1 H1 φ mv t Q :=
  fun v S' H' fp g' q n f => r v S' H' fp (g.trans g') q n fun a ha => ⟨(f a ha).1, (f a ha).2.imp (fun z => g.h.free z) id⟩
theorem RetM.wider {K : PySem.W.Frag} {S H : Hp} {φ : Nat → List Addr} {mv mv' : List Nat} {t : T} {Q : VK} (r : RetM K S H φ mv' t Q) (h : ∀ i ∈ mv, i ∈ mv') : RetM K S H φ mv t Q :=
  fun v S' H' fp g' q n f => r v S' H' fp g' q n fun a ha => ⟨(f a ha).1, (f a ha).2.imp id fun ⟨i, hi, hm⟩ => ⟨i, h i hi, hm⟩⟩
theorem de_if {c : Expr} {tc : TT} {ec : En → Rs Bool} {m1 m2 : List Nat} (hc : DT X W c tc ec) (ha : DE X W a ta ea m1) (hb : DE X W b tb eb m2) : DE X W (.IfExp c a b pos) (tIf tc ta tb) (evIf ec ea eb) (m1 ++ m2) := by
  refine ⟨pe_ifExp hc.pe ha.pe hb.pe, fun E S φ ρ σ H Q I h => ?_⟩
  refine hc.sm E S φ ρ σ H _ I (h.bind.imp (fun x hx S1 H1 g1 => ?_) fun _ z => z)
  cases x with
  | true =>
    rw [if_pos rfl]
    exact ha.sm E S1 φ ρ σ H1 _ (I.grow g1) (RsOK.imp hx (fun t q => (RetM.wider q (by intro i hi; exact List.mem_append_left _ hi)).later0 g1) fun _ z S' H' g => z S' H' (g1.trans g))
  | false =>
    rw [if_neg (by decide)]
    exact hb.sm E S1 φ ρ σ H1 _ (I.grow g1) (RsOK.imp hx (fun t q => (RetM.wider q (by intro i hi; exact List.mem_append_right _ hi)).later0 g1) fun _ z S' H' g => z S' H' (g1.trans g))
end

/-! ### arguments -/
def Views (K : PySem.W.Frag) (S H : Hp) : List T → List V → Prop
  | [], vs => vs = []
  | t :: ts, vs => ∃ v r fp, vs = v :: r ∧ RepT K S H t v fp ∧ Views K S H ts r
theorem Views.grow {K : PySem.W.Frag} {S S' H H' : Hp} (h : Same S S') (h2 : Same H H') : ∀ {ts : List T} {vs : List V}, Views K S H ts vs → Views K S' H' ts vs
  | [], _, q => q
  | t :: ts, _, ⟨v, r, fp, e, q, qs⟩ => ⟨v, r, fp, e, q.grow h h2, Views.grow h h2 qs⟩
def SemAs (K : PySem.W.Frag) (mg : Str → Option Value) (W : WX) (ta : TA) (ev : En → Rs (List T)) : Prop :=
  ∀ E S φ ρ σ H Q, StInv K E S φ ρ σ H → RsOK (ev ρ) (fun ts => ∀ vs S' H', Grow S H S' H' → Views K S' H' ts vs → Q vs H') (fun c => ∀ S' H', Grow S H S' H' → XOK mg W c σ H') → ta σ H Q
structure DAs (X : Cx) (W : WX) (es : List Expr) (ta : TA) (ev : En → Rs (List T)) : Prop where
  pe : PA X es ta
  sm : SemAs X.K X.mg W ta ev
def evNil : En → Rs (List T) := fun _ => .ok []
def evCons (ea : En → Rs T) (er : En → Rs (List T)) : En → Rs (List T) := fun ρ => (ea ρ).bind fun t => (er ρ).bind fun ts => .ok (t :: ts)
/-- owned items -/
def SemAe (K : PySem.W.Frag) (mg : Str → Option Value) (W : WX) (ta : TA) (ev : En → Rs (List T)) (mv : List Nat) : Prop :=
  ∀ E S φ ρ σ H Q, StInv K E S φ ρ σ H → RsOK (ev ρ) (fun ts => ∀ vs S' H' fp, Grow S H S' H' → RepTs K S' H' ts vs fp → fp.Nodup → (∀ a ∈ fp, S' a = none ∧ (H a = none ∨ ∃ i ∈ mv, a ∈ φ i)) → Q vs H')
    (fun c => ∀ S' H', Grow S H S' H' → XOK mg W c σ H') → ta σ H Q
structure DAe (X : Cx) (W : WX) (es : List Expr) (ta : TA) (ev : En → Rs (List T)) (mv : List Nat) : Prop where
  pe : PA X es ta
  sm : SemAe X.K X.mg W ta ev mv
section
variable {X : Cx} {W : WX} {a b e : Expr} {es : List Expr} {te ta : TE} {tr : TA} {ev ea : En → Rs T} {er : En → Rs (List T)} {pos : Pos}
theorem das_nil : DAs X W [] tNil evNil := ⟨pa_nil, fun E S φ ρ σ H Q I r => r [] S H (.refl I.gr.i) rfl⟩
theorem das_cons (ha : DV X W a ta ea) (hr : DAs X W es tr er) (hs : starEach (a :: es) X.env = (false, eval a X.env) :: starEach es X.env := by rfl) : DAs X W (a :: es) (tCons ta tr) (evCons ea er) := by
  refine ⟨pa_cons ha.pe hr.pe hs, fun E S φ ρ σ H Q I h => ?_⟩
  refine ha.sm E S φ ρ σ H _ I (h.bind.imp (fun x hx vx S1 H1 fx g1 qx => ?_) fun _ z => z)
  refine hr.sm E S1 φ ρ σ H1 _ (I.grow g1) (hx.bind.imp (fun ts hts vs S2 H2 g2 q2 => ?_) fun _ z S' H' g => z S' H' (g1.trans g))
  exact hts (vx :: vs) S2 H2 (g1.trans g2) ⟨vx, vs, fx, rfl, qx.grow g2.s g2.h, q2⟩
theorem dae_nil : DAe X W [] tNil evNil [] := ⟨pa_nil, fun E S φ ρ σ H Q I r => r [] S H [] (.refl I.gr.i) (by simp only [RepTs, and_self]) .nil fun a ha => by cases ha⟩
theorem dae_cons {m1 m2 : List Nat} (ha : DE X W a ta ea m1) (hr : DAe X W es tr er m2) (hd : ∀ i ∈ m1, i ∉ m2 := by decide) (hs : starEach (a :: es) X.env = (false, eval a X.env) :: starEach es X.env := by rfl) : DAe X W (a :: es) (tCons ta tr) (evCons ea er) (m1 ++ m2) := by
  refine ⟨pa_cons ha.pe hr.pe hs, fun E S φ ρ σ H Q I h => ?_⟩
  refine ha.sm E S φ ρ σ H _ I (h.bind.imp (fun x hx vx S1 H1 fx g1 qx nx fx1 => ?_) fun _ z => z)
  refine hr.sm E S1 φ ρ σ H1 _ (I.grow g1) (hx.bind.imp (fun ts hts vs S2 H2 fp g2 q2 n2 f2 => ?_) fun _ z S' H' g => z S' H' (g1.trans g))
  refine hts (vx :: vs) S2 H2 (fx ++ fp) (g1.trans g2) (by simp only [RepTs]; exact ⟨vx, vs, fx, fp, rfl, rfl, qx.grow g2.s g2.h, q2⟩) ?_ fun c hc => ?_
  · refine List.nodup_append.mpr ⟨nx, n2, fun c hc d hd' => ?_⟩
    rintro rfl
    obtain ⟨o, ho⟩ := RepT.there _ _ _ qx c hc
    rcases (f2 c hd').2 with z | ⟨j, hj, hm⟩
    · rw [z] at ho; cases ho
    · obtain ⟨o2, ho2⟩ := (I.fr j c hm).2.2
      rcases (fx1 c hc).2 with z | ⟨i, hi, hm'⟩
      · rw [z] at ho2; cases ho2
      · exact hd i hi (I.dj i j c hm' hm ▸ hj)
  · rcases List.mem_append.mp hc with hc | hc
    · obtain ⟨z1, z2⟩ := fx1 c hc
      refine ⟨g2.f c (RepT.there _ _ _ qx c hc) z1, z2.imp id fun ⟨i, hi, hm⟩ => ⟨i, List.mem_append_left _ hi, hm⟩⟩
    · obtain ⟨z1, z2⟩ := f2 c hc
      exact ⟨z1, z2.imp (fun z => g1.h.free z) fun ⟨i, hi, hm⟩ => ⟨i, List.mem_append_right _ hi, hm⟩⟩

/-! ### displays -/
def T.shs : List T → Option (List D)
  | [] => some []
  | .sh d :: ts => (T.shs ts).map (d :: ·)
  | _ :: _ => none
def mkL (ts : List T) : T := match T.shs ts with
  | some ds => .ol ds
  | none => .ot ts
def mkT (ts : List T) : T := match T.shs ts with
  | some ds => .sh (.tuple ds)
  | none => .tu ts
theorem shs_rep {K : PySem.W.Frag} {S H : Hp} : ∀ {ts : List T} {ds : List D} {vs : List V} {fp : List Addr}, T.shs ts = some ds → RepTs K S H ts vs fp → fp = [] ∧ RepDs S ds vs
  | [], ds, vs, fp, e, q => by
    simp only [T.shs, Option.some.injEq] at e
    subst e
    simp only [RepTs] at q
    exact ⟨q.2, by rw [q.1]; exact .nil⟩
  | t :: ts, ds, vs, fp, e, q => by
    cases t with
    | sh d =>
      cases e2 : T.shs ts with
      | none => simp [T.shs, e2] at e
      | some r =>
        simp [T.shs, e2] at e
        subst e
        simp only [RepTs] at q
        obtain ⟨v, w, f, g, rfl, rfl, q1, q2⟩ := q
        simp only [RepT] at q1
        obtain ⟨h1, h2⟩ := shs_rep e2 q2
        exact ⟨by rw [q1.1, h1]; rfl, .cons q1.2 h2⟩
    | _ => simp [T.shs] at e
def evLst (er : En → Rs (List T)) : En → Rs T := fun ρ => (er ρ).bind fun ts => if ts.length ≤ 4096 then .ok (mkL ts) else .bad
def evTup (er : En → Rs (List T)) : En → Rs T := fun ρ => (er ρ).bind fun ts => if ts.length ≤ 4096 then .ok (mkT ts) else .bad
theorem RepTs.length {K : PySem.W.Frag} {S H : Hp} : ∀ {ts : List T} {vs : List V} {fp : List Addr}, RepTs K S H ts vs fp → vs.length = ts.length
  | [], vs, fp, q => by simp only [RepTs] at q; rw [q.1]; rfl
  | t :: ts, vs, fp, q => by
    simp only [RepTs] at q
    obtain ⟨v, r, f, g, rfl, _, _, q2⟩ := q
    simp only [List.length_cons, RepTs.length q2]
theorem size4096 {n : Nat} (h : n ≤ 4096) : n ≤ sizeLine := Nat.le_trans h (by decide)
theorem de_list {mv : List Nat} (h : DAe X W es tr er mv) : DE X W (.List es pos) (tLst tr) (evLst er) mv := by
  refine ⟨pe_lst h.pe, fun E S φ ρ σ H Q I r => ?_⟩
  refine h.sm E S φ ρ σ H _ I (r.bind.imp (fun ts hts vs S1 H1 fp g1 q1 n1 f1 => ?_) fun _ z => z)
  by_cases hl : ts.length ≤ 4096
  · rw [if_pos hl] at hts
    refine ⟨by rw [q1.length]; exact size4096 hl, fun p hp => ?_⟩
    have np : p ∉ fp := fun z => by
      obtain ⟨o, e⟩ := RepTs.there _ _ _ q1 p z
      rw [hp] at e; cases e
    have nS : S1 p = none := g1.i.free hp
    unfold mkL at hts
    cases es : T.shs ts with
    | some ds =>
      rw [es] at hts
      obtain ⟨e1, q2⟩ := shs_rep es q1
      refine hts _ S1 _ [p] (g1.trans (.own g1.i hp)) ?_ (by simp) fun a ha => ?_
      · simp only [RepT]
        exact ⟨p, vs, rfl, rfl, upd_same, q2⟩
      · have e : a = p := by simpa using ha
        subst e
        exact ⟨nS, .inl (g1.h.free hp)⟩
    | none =>
      rw [es] at hts
      refine hts _ S1 _ (p :: fp) (g1.trans (.own g1.i hp)) ?_ (List.nodup_cons.mpr ⟨np, n1⟩) fun a ha => ?_
      · simp only [RepT]
        exact ⟨p, vs, fp, rfl, rfl, upd_same, q1.grow (.refl _) (same_upd hp)⟩
      · rcases List.mem_cons.mp ha with e | ha
        · subst e
          exact ⟨nS, .inl (g1.h.free hp)⟩
        · exact f1 a ha
  · rw [if_neg hl] at hts
    exact False.elim hts
theorem de_tuple {mv : List Nat} {k : Nat} (h : DAe X W es tr er mv) : DE X W (.Tuple es k pos) (tTupF tr) (evTup er) mv := by
  refine ⟨pe_tupF h.pe, fun E S φ ρ σ H Q I r => ?_⟩
  refine h.sm E S φ ρ σ H _ I (r.bind.imp (fun ts hts vs S1 H1 fp g1 q1 n1 f1 => ?_) fun _ z => z)
  by_cases hl : ts.length ≤ 4096
  · rw [if_pos hl] at hts
    refine ⟨by rw [q1.length]; exact size4096 hl, fun p ob hp hdn => ?_⟩
    have np : p ∉ fp := fun z => by
      obtain ⟨o, e⟩ := RepTs.there _ _ _ q1 p z
      rw [hp] at e; cases e
    have nS : S1 p = none := g1.i.free hp
    unfold mkT at hts
    cases es : T.shs ts with
    | some ds =>
      rw [es] at hts
      obtain ⟨e1, q2⟩ := shs_rep es q1
      refine hts _ (upd S1 p (.frz ob (.tup vs))) _ [] (g1.trans (.shared g1.i hp)) ?_ .nil fun a ha => by cases ha
      simp only [RepT, RepD, true_and]
      exact ⟨p, vs, rfl, ⟨ob, upd_same, hdn⟩, RepDs.mono (same_upd nS) _ _ q2⟩
    | none =>
      rw [es] at hts
      refine hts _ S1 _ (p :: fp) (g1.trans (.own g1.i hp)) ?_ (List.nodup_cons.mpr ⟨np, n1⟩) fun a ha => ?_
      · simp only [RepT]
        exact ⟨p, vs, fp, rfl, rfl, ⟨ob, upd_same, hdn⟩, q1.grow (.refl _) (same_upd hp)⟩
      · rcases List.mem_cons.mp ha with e | ha
        · subst e
          exact ⟨nS, .inl (g1.h.free hp)⟩
        · exact f1 a ha
  · rw [if_neg hl] at hts
    exact False.elim hts
end

/-! ### promises and calls -/
def RepArg (K : PySem.W.Frag) (S : Hp) : T → V → Prop
  | .sh d, v => RepD S d v
  | .scr ns, v => ∃ a, v = .ref a ∧ SqL K S a (ns.map V.int)
  | _, _ => False
def RepArgs (K : PySem.W.Frag) (S : Hp) : List T → List V → Prop
  | [], vs => vs = []
  | t :: ts, vs => ∃ v r, vs = v :: r ∧ RepArg K S t v ∧ RepArgs K S ts r
/-- what a def of n parameters promises: the value of Fn -/
def spD (K : PySem.W.Frag) (mg : Str → Option Value) (n : Nat) (Fn : List T → Rs T) : Sp := fun vs H Q E =>
  ∃ (S : Hp) (ts : List T), Same S H ∧ ts.length = n ∧ RepArgs K S ts vs ∧ RsOK (Fn ts) (fun t => Ret K S H t Q) (fun c => ∀ S' H', Grow S H S' H' → ∀ C, mg c = some (.ref C) → E (.ref C) none H')
theorem RepArgs.length {K : PySem.W.Frag} {S : Hp} : ∀ {ts : List T} {vs : List V}, RepArgs K S ts vs → vs.length = ts.length
  | [], vs, q => by have q : vs = [] := q; rw [q]; rfl
  | t :: ts, vs, ⟨v, r, e, _, q⟩ => by rw [e, List.length_cons, List.length_cons, RepArgs.length q]
theorem spD.len {K : PySem.W.Frag} {mg : Str → Option Value} {n : Nat} {Fn : List T → Rs T} {vs : List V} {H : Hp} {Q : VK} {E : XK} (h : spD K mg n Fn vs H Q E) : vs.length = n := by
  obtain ⟨S, ts, _, e, q, _⟩ := h
  rw [q.length, e]
def flatD : D → Bool
  | .none => true
  | .bool _ => true
  | .int _ => true
  | .str _ => true
  | _ => false
mutual
def T.solid : T → Bool
  | .sh d => flatD d
  | .scr _ => false
  | .ol ds => ds.all flatD
  | .od kvs => kvs.all fun p => flatD p.2
  | .ot ts => T.solids ts
  | .tu ts => T.solids ts
  | .rg _ _ => false
def T.solids : List T → Bool
  | [] => true
  | t :: ts => t.solid && T.solids ts
end
theorem flat_rep {S S' : Hp} {d : D} {v : V} (f : flatD d = true) (q : RepD S d v) : RepD S' d v := by
  cases d <;> simp only [flatD, Bool.false_eq_true] at f <;> (simp only [RepD] at q ⊢; exact q)
theorem flats_rep {S S' : Hp} : ∀ {ds : List D} {vs : List V}, ds.all flatD = true → RepDs S ds vs → RepDs S' ds vs
  | [], _, _, q => by simp only [RepDs] at q ⊢; exact q
  | d :: ds, _, f, q => by
    rw [List.all_cons, Bool.and_eq_true] at f
    simp only [RepDs] at q
    obtain ⟨v, r, rfl, q1, q2⟩ := q
    exact .cons (flat_rep f.1 q1) (flats_rep f.2 q2)
theorem flatp_rep {S S' : Hp} : ∀ {ds : List (D × D)} {vs : List V}, (ds.all fun p => flatD p.2) = true → RepPs S ds vs → RepPs S' ds vs
  | [], _, _, q => by simp only [RepPs] at q ⊢; exact q
  | (k, d) :: ds, _, f, q => by
    rw [List.all_cons, Bool.and_eq_true] at f
    simp only [RepPs, RepP] at q ⊢
    obtain ⟨v, r, rfl, q1, q2⟩ := q
    exact ⟨v, r, rfl, flat_rep f.1 q1, flatp_rep f.2 q2⟩
mutual
theorem solid_rep {K : PySem.W.Frag} {S S' H : Hp} : ∀ (t : T) (v : V) (fp : List Addr), t.solid = true → RepT K S H t v fp → RepT K S' H t v fp
  | .sh d, v, fp, f, q => by
    simp only [T.solid] at f
    simp only [RepT] at q ⊢
    exact ⟨q.1, flat_rep f q.2⟩
  | .scr ns, v, fp, f, q => by simp [T.solid] at f
  | .ol ds, v, fp, f, q => by
    simp only [T.solid] at f
    simp only [RepT] at q ⊢
    obtain ⟨a, vs, e1, e2, ha, r⟩ := q
    exact ⟨a, vs, e1, e2, ha, flats_rep f r⟩
  | .od ds, v, fp, f, q => by
    simp only [T.solid] at f
    simp only [RepT] at q ⊢
    obtain ⟨a, vs, e1, e2, ha, r⟩ := q
    exact ⟨a, vs, e1, e2, ha, flatp_rep f r⟩
  | .ot ts, v, fp, f, q => by
    simp only [T.solid] at f
    simp only [RepT] at q ⊢
    obtain ⟨a, vs, fp', e1, e2, ha, r⟩ := q
    exact ⟨a, vs, fp', e1, e2, ha, solids_rep ts vs fp' f r⟩
  | .tu ts, v, fp, f, q => by
    simp only [T.solid] at f
    simp only [RepT] at q ⊢
    obtain ⟨a, vs, fp', e1, e2, ha, r⟩ := q
    exact ⟨a, vs, fp', e1, e2, ha, solids_rep ts vs fp' f r⟩
  | .rg lo hi, v, fp, f, q => by simp [T.solid] at f
theorem solids_rep {K : PySem.W.Frag} {S S' H : Hp} : ∀ (ts : List T) (vs : List V) (fp : List Addr), T.solids ts = true → RepTs K S H ts vs fp → RepTs K S' H ts vs fp
  | [], vs, fp, f, q => by simp only [RepTs] at q ⊢; exact q
  | t :: ts, vs, fp, f, q => by
    simp only [T.solids, Bool.and_eq_true] at f
    simp only [RepTs] at q ⊢
    obtain ⟨v, r, f1, f2, e1, e2, q1, q2⟩ := q
    exact ⟨v, r, f1, f2, e1, e2, solid_rep t v f1 f.1 q1, solids_rep ts r f2 f.2 q2⟩
end
def T.isSh : T → Bool
  | .sh _ => true
  | .scr _ => true
  | _ => false
def T.toArg : T → T
  | .scr ns => .scr ns
  | t => .sh t.er
def T.argOk : T → Bool
  | .scr _ => true
  | t => t.noScr
/-- a call: shared arguments, any answer; own ones that are looked at, an answer that holds nothing of them -/
def T.flatT : T → Bool
  | .sh (.tuple ds) => ds.all flatD
  | _ => false
def T.argL : T → Bool
  | .sh _ => true
  | .scr _ => true
  | .ol _ => true
  | _ => false
def callF (n : Nat) (Fn : List T → Rs T) (ts : List T) : Rs T :=
  if ts.length = n then
    (if ts.all T.isSh = true then Fn ts else if ts.all T.argOk = true then (Fn (ts.map T.toArg)).bind fun t => if t.solid then .ok t else if (t.flatT && ts.all T.argL) = true then .ok t else .bad else .bad)
  else .bad
def ownA : List T → List V → List Addr
  | .ol _ :: ts, .ref a :: vs => a :: ownA ts vs
  | _ :: ts, _ :: vs => ownA ts vs
  | _, _ => []
theorem views_argL {K : PySem.W.Frag} {S S1 H : Hp} (h1 : Same S S1) : ∀ {ts : List T} {vs : List V}, ts.all T.argL = true → (∀ a ∈ ownA ts vs, S1 a = H a) → Views K S H ts vs → RepArgs K S1 (ts.map T.toArg) vs ∧ ∀ a ∈ ownA ts vs, ∃ us, H a = some (.lst us)
  | [], _, _, _, q => ⟨q, fun a h => by cases h⟩
  | t :: ts, _, f, hS, ⟨v, r, fp, e, q, qs⟩ => by
    rw [List.all_cons, Bool.and_eq_true] at f
    subst e
    cases t with
    | scr ns =>
      obtain ⟨k1, k2⟩ := views_argL h1 f.2 (fun a ha => hS a (by cases v <;> exact ha)) qs
      simp only [RepT] at q
      obtain ⟨_, a, e, z⟩ := q
      exact ⟨⟨v, r, rfl, ⟨a, e, h1.seq z⟩, k1⟩, fun a ha => k2 a (by cases v <;> exact ha)⟩
    | sh d =>
      obtain ⟨k1, k2⟩ := views_argL h1 f.2 (fun a ha => hS a (by cases v <;> exact ha)) qs
      simp only [RepT] at q
      exact ⟨⟨v, r, rfl, RepD.mono h1 _ _ q.2, k1⟩, fun a ha => k2 a (by cases v <;> exact ha)⟩
    | ol d =>
      simp only [RepT] at q
      obtain ⟨a, us, rfl, e2, ha, rr⟩ := q
      obtain ⟨k1, k2⟩ := views_argL h1 f.2 (fun b hb => hS b (List.mem_cons_of_mem _ hb)) qs
      refine ⟨⟨_, r, rfl, ?_, k1⟩, fun b hb => ?_⟩
      · show RepD S1 (.list d) (.ref a)
        simp only [RepD]
        exact ⟨a, us, rfl, by rw [hS a List.mem_cons_self]; exact ha, RepDs.mono h1 _ _ rr⟩
      · rcases List.mem_cons.mp hb with z | z
        · exact ⟨us, by rw [z]; exact ha⟩
        · exact k2 b z
    | _ => cases f.1
theorem views_sh {K : PySem.W.Frag} {S H : Hp} : ∀ {ts : List T} {vs : List V}, ts.all T.isSh = true → Views K S H ts vs → RepArgs K S ts vs
  | [], _, _, q => q
  | t :: ts, _, f, ⟨v, r, fp, e, q, qs⟩ => by
    rw [List.all_cons, Bool.and_eq_true] at f
    refine ⟨v, r, e, ?_, views_sh f.2 qs⟩
    cases t with
    | sh d => simp only [RepT] at q; exact q.2
    | scr ns => simp only [RepT] at q; exact q.2
    | _ => simp [T.isSh] at f
theorem views_arg {K : PySem.W.Frag} {S H : Hp} (i : Same S H) : ∀ {ts : List T} {vs : List V}, ts.all T.argOk = true → Views K S H ts vs → RepArgs K H (ts.map T.toArg) vs
  | [], _, _, q => q
  | t :: ts, _, f, ⟨v, r, fp, e, q, qs⟩ => by
    rw [List.all_cons, Bool.and_eq_true] at f
    refine ⟨v, r, e, ?_, views_arg i f.2 qs⟩
    have gen : t.noScr = true → RepD H t.er v := fun n => RepT.share i t v fp n (fun _ _ _ e => e) q
    cases t with
    | scr ns =>
      simp only [RepT] at q
      obtain ⟨_, a, e, z⟩ := q
      exact ⟨a, e, i.seq z⟩
    | sh d => exact gen f.1
    | ol d => exact gen f.1
    | od d => exact gen f.1
    | ot d => exact gen f.1
    | tu d => exact gen f.1
    | rg _ _ => exact gen f.1
theorem call_sem {K : PySem.W.Frag} {mg : Str → Option Value} {S H : Hp} {n : Nat} {Fn : List T → Rs T} {ts : List T} {vs : List V} {Q : VK} {E : XK} (i : Same S H) (q : Views K S H ts vs)
    (h : RsOK (callF n Fn ts) (fun t => Ret K S H t Q) (fun c => ∀ S' H', Grow S H S' H' → ∀ C, mg c = some (.ref C) → E (.ref C) none H')) : spD K mg n Fn vs H Q E := by
  unfold callF at h
  by_cases hn : ts.length = n
  · rw [if_pos hn] at h
    by_cases hs : ts.all T.isSh = true
    · rw [if_pos hs] at h
      exact ⟨S, ts, i, hn, views_sh hs q, h⟩
    · rw [if_neg hs] at h
      by_cases ha : ts.all T.argOk = true
      · rw [if_pos ha] at h
        by_cases hL : ts.all T.argL = true
        · classical
          have hs1 : Same S fun x => if x ∈ ownA ts vs then H x else S x := fun x o e => by
            show (if x ∈ ownA ts vs then H x else S x) = some o
            split
            · exact i _ _ e
            · exact e
          have hs2 : Same (fun x => if x ∈ ownA ts vs then H x else S x) H := fun x o e => by
            have e : (if x ∈ ownA ts vs then H x else S x) = some o := e
            split at e
            · exact e
            · exact i _ _ e
          obtain ⟨k1, k2⟩ := views_argL (S1 := fun x => if x ∈ ownA ts vs then H x else S x) hs1 hL (fun a ha => if_pos ha) q
          refine ⟨fun x => if x ∈ ownA ts vs then H x else S x, ts.map T.toArg, hs2, by rw [List.length_map]; exact hn, k1, h.bind.imp (fun t ht => ?_) fun c hc S' H' g C e => ?_⟩
          · intro v S' H' fp g r n f
            by_cases hso : t.solid = true
            · rw [if_pos hso] at ht
              refine ht v S H' fp ⟨g.h, .refl _, i.trans g.h, fun _ _ z => z⟩ (solid_rep t v fp hso r) n fun a ha => ⟨i.free (f a ha).2, (f a ha).2⟩
            · rw [if_neg hso] at ht
              by_cases hfl : (t.flatT && ts.all T.argL) = true
              · rw [if_pos hfl] at ht
                rw [Bool.and_eq_true] at hfl
                have hf := hfl.1
                cases t with
                | sh d =>
                  cases d with
                  | tuple ds =>
                    simp only [RepT, RepD] at r
                    obtain ⟨rfl, a, us, rfl, hA, rr⟩ := r
                    have gr : Grow S H (fun x => if x ∈ ownA ts vs ∧ S x = none then none else S' x) H' := ⟨g.h, fun x o e => by
                      show (if x ∈ ownA ts vs ∧ S x = none then none else S' x) = some o
                      rw [if_neg fun z => by rw [z.2] at e; cases e]
                      exact g.s _ _ (hs1 _ _ e), fun x o e => by
                      have e : (if x ∈ ownA ts vs ∧ S x = none then none else S' x) = some o := e
                      split at e
                      · cases e
                      · exact g.i _ _ e, fun x hx hx2 => by
                      show (if x ∈ ownA ts vs ∧ S x = none then none else S' x) = none
                      split
                      · rfl
                      · rename_i hz
                        refine g.f x hx ?_
                        show (if x ∈ ownA ts vs then H x else S x) = none
                        rw [if_neg fun z => hz ⟨z, hx2⟩]; exact hx2⟩
                    refine ht _ _ H' [] gr ?_ .nil fun b hb => by cases hb
                    simp only [RepT, RepD]
                    refine ⟨trivial, a, us, rfl, ?_, flats_rep hf rr⟩
                    show IsTp (if a ∈ ownA ts vs ∧ S a = none then none else S' a) us
                    rw [if_neg fun z => ?_]
                    · exact hA
                    · obtain ⟨ws, hw⟩ := k2 a z.1
                      have : S' a = some (.lst ws) := g.s _ _ (by
                        show (if a ∈ ownA ts vs then H a else S a) = some (.lst ws)
                        rw [if_pos z.1]; exact hw)
                      rw [this] at hA
                      obtain ⟨ob, hA, _⟩ := hA
                      cases hA
                  | _ => cases hf
                | _ => cases hf
              · rw [if_neg hfl] at ht
                exact False.elim ht
          · exact hc S H' ⟨g.h, .refl _, i.trans g.h, fun _ _ z => z⟩ C e
        refine ⟨H, ts.map T.toArg, .refl _, by rw [List.length_map]; exact hn, views_arg i ha q, h.bind.imp (fun t ht => ?_) fun c hc S' H' g C e => ?_⟩
        · by_cases hso : t.solid = true
          · rw [if_pos hso] at ht
            intro v S' H' fp g r n f
            refine ht v S H' fp ⟨g.h, .refl _, i.trans g.h, fun _ _ z => z⟩ (solid_rep t v fp hso r) n fun a ha => ⟨i.free (f a ha).2, (f a ha).2⟩
          · rw [if_neg hso, if_neg (by simp only [hL, Bool.and_false]; decide)] at ht
            exact False.elim ht
        · exact hc S H' ⟨g.h, .refl _, i.trans g.h, fun _ _ z => z⟩ C e
      · rw [if_neg ha] at h
        exact False.elim h
  · rw [if_neg hn] at h
    exact False.elim h
def evCall (n : Nat) (Fn : List T → Rs T) (er : En → Rs (List T)) : En → Rs T := fun ρ => (er ρ).bind fun ts => callF n Fn ts
section
variable {X : Cx} {W : WX} {e : Expr} {es : List Expr} {tr : TA} {er : En → Rs (List T)} {pos p : Pos} {k n : Nat} {f : Addr} {fd : FuncData} {ps : List Str} {Fn : List T → Rs T} {x : Str}
theorem de_call (F : FnOk X.prog X.w X.K X.mg X.base (L2.CX X.prog X.w) k f fd ps (spD X.K X.mg n Fn)) (hr : Room k X.A) (tk : Takes X W) (hg : Gl X x) (hm : X.mg x = some (.ref f)) (hk : PySem.W.keepIn X.K (.ref f) = true) (hb : Binds X.K fd ps [])
    (ha : DAs X W (e :: es) tr er) (hdb : (x == ("__debug__" : Str)) = false := by decide) (he : starEach (e :: es) X.env = (false, eval e X.env) :: starEach es X.env := by rfl) (hpl : (backTo pos (starEach es X.env)).any (·.1) = false := by rfl) :
    DE X W (.Call (.Name x p) (e :: es) [] pos) (tCallS (spD X.K X.mg n Fn) (WE W) tr) (evCall n Fn er) [] := by
  refine ⟨pe_callS F hr hg hm hk hb (passAt tk) ha.pe hdb he hpl, fun E S φ ρ σ H Q I h => ?_⟩
  refine ha.sm E S φ ρ σ H _ I (h.bind.imp (fun ts hts vs S1 H1 g1 q1 => ?_) fun _ z => z)
  exact call_sem g1.i q1 (RsOK.imp hts (fun t ht => ht.ret.later g1) fun c hc S' H' g C e => hc S' H' (g1.trans g) C e)
end
end PL
set_option Elab.async false
set_option linter.all false
set_option maxRecDepth 100000
/-! PL4: statements. -/
namespace PL
open PySem PySem.Spec L2

inductive Out where
  | bad
  | nx (ρ : En)
  | bk (ρ : En)
  | ct (ρ : En)
  | rt (t : T)
  | ex (c : Str) (ρ : En)

structure Step (S : Hp) (σ : St) (as : List Nat) (S' : Hp) (σ' : St) : Prop where
  s : Same S S'
  k : ∀ i, i ∉ as → σ'[i]? = σ[i]?
theorem Step.refl {S : Hp} {σ : St} {as : List Nat} : Step S σ as S σ := ⟨.refl _, fun _ _ => rfl⟩
theorem Step.trans {S S1 S2 : Hp} {σ σ1 σ2 : St} {as bs cs : List Nat} (a : Step S σ as S1 σ1) (b : Step S1 σ1 bs S2 σ2) (h1 : ∀ i ∈ as, i ∈ cs) (h2 : ∀ i ∈ bs, i ∈ cs) : Step S σ cs S2 σ2 :=
  ⟨a.s.trans b.s, fun i hi => (b.k i fun z => hi (h2 i z)).trans (a.k i fun z => hi (h1 i z))⟩
theorem Step.wide {S S1 : Hp} {σ σ1 : St} {as cs : List Nat} (a : Step S σ as S1 σ1) (h : ∀ i ∈ as, i ∈ cs) : Step S σ cs S1 σ1 := ⟨a.s, fun i hi => a.k i fun z => hi (h i z)⟩

def OutOK (K : PySem.W.Frag) (mg : Str → Option Value) (W : WX) (E : Ent) (S : Hp) (σ : St) (as : List Nat) (o : Out) (D : Ends) : Prop :=
  match o with
  | .bad => False
  | .nx ρ' => ∀ S' φ' σ' H', Step S σ as S' σ' → StInv K E S' φ' ρ' σ' H' → D.nx σ' H'
  | .bk ρ' => ∀ S' φ' σ' H', Step S σ as S' σ' → StInv K E S' φ' ρ' σ' H' → D.bk σ' H'
  | .ct ρ' => ∀ S' φ' σ' H', Step S σ as S' σ' → StInv K E S' φ' ρ' σ' H' → D.ct σ' H'
  | .rt t => Ret K E.S E.H t D.rt
  | .ex c ρ' => ∀ S' φ' σ' H', Step S σ as S' σ' → StInv K E S' φ' ρ' σ' H' → XOK mg W c σ' H'
def SemS (K : PySem.W.Frag) (mg : Str → Option Value) (W : WX) (ts : TS) (se : En → Out) (as : List Nat) : Prop :=
  ∀ E S φ ρ σ H D, StInv K E S φ ρ σ H → OutOK K mg W E S σ as (se ρ) D → ts D σ H
structure DS (X : Cx) (W : WX) (st : Stmt) (ts : TS) (se : En → Out) (as : List Nat) : Prop where
  ps : PS X st ts
  sm : SemS X.K X.mg W ts se as
structure DSs (X : Cx) (W : WX) (st : List Stmt) (ts : TS) (se : En → Out) (as : List Nat) : Prop where
  ps : PSs X st ts
  sm : SemS X.K X.mg W ts se as

def rsK {α : Type} (r : Rs α) (ρ : En) (k : α → Out) : Out := match r with
  | .bad => .bad
  | .ok a => k a
  | .ex c => .ex c ρ
section
variable {K : PySem.W.Frag} {mg : Str → Option Value} {W : WX} {E : Ent} {S : Hp} {φ : Nat → List Addr} {ρ : En} {σ : St} {H : Hp} {as : List Nat} {D : Ends}
theorem OutOK.rsK {α : Type} {r : Rs α} {k : α → Out} (I : StInv K E S φ ρ σ H) (h : OutOK K mg W E S σ as (rsK r ρ k) D) : RsOK r (fun a => OutOK K mg W E S σ as (k a) D) (fun c => ∀ S' H', Grow S H S' H' → XOK mg W c σ H') := by
  cases r with
  | bad => exact h
  | ok a => exact h
  | ex c => exact fun S' H' g => h S' φ σ H' ⟨g.s, fun _ _ => rfl⟩ (I.grow g)
/-- from a later state -/
theorem OutOK.later {o : Out} {S' : Hp} {σ' : St} {as bs : List Nat} (h : OutOK K mg W E S σ bs o D) (s : Step S σ as S' σ') (cs : List Nat) (h1 : ∀ i ∈ as, i ∈ bs) (h2 : ∀ i ∈ cs, i ∈ bs) : OutOK K mg W E S' σ' cs o D := by
  cases o with
  | bad => exact h
  | nx ρ => exact fun S2 φ2 σ2 H2 s2 I => h S2 φ2 σ2 H2 (s.trans s2 h1 h2) I
  | bk ρ => exact fun S2 φ2 σ2 H2 s2 I => h S2 φ2 σ2 H2 (s.trans s2 h1 h2) I
  | ct ρ => exact fun S2 φ2 σ2 H2 s2 I => h S2 φ2 σ2 H2 (s.trans s2 h1 h2) I
  | rt t => exact h
  | ex c ρ => exact fun S2 φ2 σ2 H2 s2 I => h S2 φ2 σ2 H2 (s.trans s2 h1 h2) I
end

/-! ### blocks -/
def seqO (o : Out) (k : En → Out) : Out := match o with
  | .nx ρ => k ρ
  | o => o
def sNil : En → Out := .nx
def sSeq (a b : En → Out) : En → Out := fun ρ => seqO (a ρ) b
section
variable {X : Cx} {W : WX} {st : Stmt} {rest : List Stmt} {t u : TS} {a b : En → Out} {as bs : List Nat} {pos : Pos}
theorem dss_nil : DSs X W [] tNext sNil [] := ⟨pss_nil, fun E S φ ρ σ H D I h => h S φ σ H .refl I⟩
theorem dss_one (h : DS X W st t a as) : DSs X W [st] t a as := ⟨pss_one h.ps, h.sm⟩
theorem dss_cons (h1 : DS X W st t a as) (h2 : DSs X W rest u b bs) : DSs X W (st :: rest) (tSeq t u) (sSeq a b) (as ++ bs) := by
  refine ⟨pss_cons h1.ps h2.ps, fun E S φ ρ σ H D I h => ?_⟩
  refine h1.sm E S φ ρ σ H _ I ?_
  have h : OutOK X.K X.mg W E S σ (as ++ bs) (seqO (a ρ) b) D := h
  cases e : a ρ with
  | bad => rw [e] at h; exact h
  | nx ρ' =>
    rw [e] at h
    exact fun S' φ' σ' H' s I' => h2.sm E S' φ' ρ' σ' H' D I' (OutOK.later h s bs (fun i hi => List.mem_append_left _ hi) fun i hi => List.mem_append_right _ hi)
  | bk ρ' => rw [e] at h; exact fun S' φ' σ' H' s I' => h S' φ' σ' H' (s.wide fun i hi => List.mem_append_left _ hi) I'
  | ct ρ' => rw [e] at h; exact fun S' φ' σ' H' s I' => h S' φ' σ' H' (s.wide fun i hi => List.mem_append_left _ hi) I'
  | rt t => rw [e] at h; exact h
  | ex c ρ' => rw [e] at h; exact fun S' φ' σ' H' s I' => h S' φ' σ' H' (s.wide fun i hi => List.mem_append_left _ hi) I'
/-- an own slot is shared ahead of a statement -/
def En.share (ρ : En) (i : Nat) : En := match ρ with
  | [] => []
  | x :: r => match i with
    | 0 => (match x with
      | some (.scr ns) => some (.scr ns)
      | some t => some (if t.noScr then .sh t.er else t)
      | none => none) :: r
    | i + 1 => x :: En.share r i
def sShare (i : Nat) (a : En → Out) : En → Out := fun ρ => a (ρ.share i)
def shT : T → T
  | .scr ns => .scr ns
  | t => if t.noScr then .sh t.er else t
theorem share_len : ∀ (ρ : En) (i : Nat), (ρ.share i).length = ρ.length
  | [], i => rfl
  | x :: r, 0 => rfl
  | x :: r, i + 1 => by simp [En.share, share_len r i]
theorem share_at : ∀ (ρ : En) (i j : Nat), (ρ.share i)[j]? = if j = i then (ρ[j]?).map (fun x => x.map shT) else ρ[j]?
  | [], i, j => by simp [En.share]
  | x :: r, 0, 0 => by
    cases x with
    | none => rfl
    | some t => cases t <;> rfl
  | x :: r, 0, j + 1 => by simp [En.share]
  | x :: r, i + 1, 0 => by simp [En.share]
  | x :: r, i + 1, j + 1 => by
    have := share_at r i j
    simp [En.share, this]
theorem StInv.share {K : PySem.W.Frag} {E : Ent} {S : Hp} {φ : Nat → List Addr} {ρ : En} {σ : St} {H : Hp} (I : StInv K E S φ ρ σ H) (i : Nat) : ∃ S' φ', Same S S' ∧ StInv K E S' φ' (ρ.share i) σ H := by
  -- is there something own that may be shared
  by_cases hx : ∃ t, ρ[i]? = some (some t) ∧ t.noScr = true
  · obtain ⟨t, ht, hn⟩ := hx
    obtain ⟨v, hv, q⟩ := I.slot i t ht
    have hs : shT t = .sh t.er := by
      cases t with
      | scr ns => simp [T.noScr] at hn
      | _ => simp [shT, hn]
    refine ⟨shr S H (φ i), fun j => if j = i then [] else φ j, shr_same I.gr.i, ?_⟩
    refine ⟨⟨I.gr.h, I.gr.s.trans (shr_same I.gr.i), shr_sub I.gr.i, fun a ⟨o, e⟩ n => ?_⟩, by rw [share_len]; exact I.len, fun j t' hj => ?_, fun j => ?_, fun j k a h1 h2 => ?_, fun j a ha => ?_⟩
    · have : a ∉ φ i := fun z => by rw [(I.fr i a z).2.1] at e; cases e
      rw [shr_out this]; exact I.gr.f a ⟨o, e⟩ n
    · rw [share_at] at hj
      by_cases e : j = i
      · subst e
        rw [if_pos rfl, ht] at hj
        simp only [Option.map_some, Option.some.injEq] at hj
        subst hj
        rw [hs]
        refine ⟨v, hv, ?_⟩
        simp only [RepT, if_true, true_and]
        exact RepT.share (shr_same I.gr.i) t v (φ j) hn (fun a ha o e => by rw [shr_in ha]; exact e) q
      · rw [if_neg e] at hj
        obtain ⟨v', h1, q'⟩ := I.slot j t' hj
        refine ⟨v', h1, ?_⟩
        rw [if_neg e]
        exact RepT.frame (shr_same I.gr.i) t' v' (φ j) (fun _ _ => rfl) q'
    · show (if j = i then [] else φ j).Nodup
      by_cases e : j = i
      · rw [if_pos e]; exact .nil
      · rw [if_neg e]; exact I.nd j
    · by_cases e : j = i
      · rw [if_pos e] at h1; cases h1
      · rw [if_neg e] at h1
        by_cases e' : k = i
        · rw [if_pos e'] at h2; cases h2
        · rw [if_neg e'] at h2; exact I.dj j k a h1 h2
    · by_cases e : j = i
      · rw [if_pos e] at ha; cases ha
      · rw [if_neg e] at ha
        obtain ⟨h1, h2, h3⟩ := I.fr j a ha
        have : a ∉ φ i := fun z => e (I.dj j i a ha z)
        exact ⟨by rw [shr_out this]; exact h1, h2, h3⟩
  · refine ⟨S, φ, .refl _, ?_⟩
    have e : ρ.share i = ρ := by
      apply List.ext_getElem?
      intro j
      rw [share_at]
      by_cases e : j = i
      · subst e
        rw [if_pos rfl]
        cases h : ρ[j]? with
        | none => rfl
        | some x =>
          cases x with
          | none => rfl
          | some t =>
            have hn : ¬ t.noScr = true := fun z => hx ⟨t, h, z⟩
            cases t with
            | scr ns => rfl
            | _ => simp [shT, hn]
      · rw [if_neg e]
    rw [e]; exact I
theorem ds_share (i : Nat) (h : DS X W st t a as) : DS X W st t (sShare i a) as := by
  refine ⟨h.ps, fun E S φ ρ σ H D I q => ?_⟩
  obtain ⟨S', φ', hs, I'⟩ := I.share i
  exact h.sm E S' φ' _ σ H D I' (OutOK.later (as := as) q ⟨hs, fun _ _ => rfl⟩ as (fun _ z => z) fun _ z => z)
theorem ds_pass : DS X W (.Pass pos) tNext sNil [] := ⟨ps_pass, fun E S φ ρ σ H D I h => h S φ σ H .refl I⟩
theorem ds_doc {x j pos pos'} : DS X W (.Expr (.Constant (.str x) j pos) pos') tNext sNil [] := ⟨ps_doc, fun E S φ ρ σ H D I h => h S φ σ H .refl I⟩
def sBreak : En → Out := .bk
def sCont : En → Out := .ct
theorem ds_break : DS X W (.Break pos) tBreak sBreak [] := ⟨ps_break, fun E S φ ρ σ H D I h => h S φ σ H .refl I⟩
theorem ds_cont : DS X W (.Continue pos) tCont sCont [] := ⟨ps_continue, fun E S φ ρ σ H D I h => h S φ σ H .refl I⟩
end

/-! ### stores -/
def En.put (ρ : En) (i : Nat) (t : Option T) : En := match ρ with
  | [] => []
  | x :: r => match i with
    | 0 => t :: r
    | i + 1 => x :: En.put r i t
theorem put_eq : ∀ (ρ : En) (i : Nat) (t : Option T), ρ.put i t = List.set ρ i t
  | [], i, t => rfl
  | x :: r, 0, t => rfl
  | x :: r, i + 1, t => by simp [En.put, put_eq r i t]
def En.clr (ρ : En) : List Nat → En
  | [] => ρ
  | i :: r => En.clr (ρ.put i none) r
theorem clr_len : ∀ (mv : List Nat) (ρ : En), (ρ.clr mv).length = ρ.length
  | [], ρ => rfl
  | i :: r, ρ => by rw [En.clr, clr_len r, put_eq, List.length_set]
theorem clr_at : ∀ (mv : List Nat) (ρ : En) (j : Nat) (t : T), (ρ.clr mv)[j]? = some (some t) → ρ[j]? = some (some t) ∧ j ∉ mv
  | [], ρ, j, t, h => ⟨h, by simp⟩
  | i :: r, ρ, j, t, h => by
    obtain ⟨h1, h2⟩ := clr_at r _ j t h
    rw [put_eq] at h1
    by_cases e : i = j
    · subst e
      by_cases hl : i < ρ.length
      · rw [List.getElem?_set_self hl] at h1; cases h1
      · rw [List.getElem?_eq_none (by simpa using hl)] at h1; cases h1
    · rw [List.getElem?_set_ne e] at h1
      exact ⟨h1, by simp only [List.mem_cons, not_or]; exact ⟨fun z => e z.symm, h2⟩⟩
/-- a value is stored in slot i -/
theorem StInv.store {K : PySem.W.Frag} {E : Ent} {S S' : Hp} {φ : Nat → List Addr} {ρ : En} {σ : St} {H H' : Hp} {mv : List Nat} {t : T} {v : V} {fp : List Addr} (i : Nat) (I : StInv K E S φ ρ σ H) (g : Grow S H S' H') (q : RepT K S' H' t v fp) (n : fp.Nodup)
    (f : ∀ a ∈ fp, S' a = none ∧ (H a = none ∨ ∃ i ∈ mv, a ∈ φ i)) :
    StInv K E S' (fun j => if j = i then fp else if j ∈ mv then [] else φ j) ((ρ.clr mv).put i (some t)) (σ.set i (some v)) H' := by
  have I' := I.grow g
  refine ⟨I'.gr, by rw [put_eq, List.length_set, clr_len, List.length_set]; exact I.len, fun j t' hj => ?_, fun j => ?_, fun j k a h1 h2 => ?_, fun j a ha => ?_⟩
  · rw [put_eq] at hj
    by_cases e : i = j
    · subst e
      have hl : i < (ρ.clr mv).length := by
        by_cases hl : i < (ρ.clr mv).length
        · exact hl
        · rw [List.getElem?_eq_none (by simpa using hl)] at hj; cases hj
      rw [List.getElem?_set_self hl] at hj
      simp only [Option.some.injEq] at hj
      subst hj
      refine ⟨v, List.getElem?_set_self (by rw [← I.len, ← clr_len mv ρ]; exact hl), ?_⟩
      rw [if_pos rfl]; exact q
    · rw [List.getElem?_set_ne e] at hj
      obtain ⟨h1, h2⟩ := clr_at mv ρ j t' hj
      obtain ⟨w, h3, r⟩ := I'.slot j t' h1
      refine ⟨w, by rw [List.getElem?_set_ne e]; exact h3, ?_⟩
      rw [if_neg (fun z => e z.symm), if_neg h2]; exact r
  · show (if j = i then fp else if j ∈ mv then [] else φ j).Nodup
    split
    · exact n
    · split
      · exact .nil
      · exact I.nd j
  · have key : ∀ {j k : Nat}, a ∈ fp → (if k ∈ mv then [] else φ k) = φ k → k ∉ mv → a ∈ φ k → False := fun {j k} h1 _ hk h2 => by
      obtain ⟨o, ho⟩ := (I.fr k a h2).2.2
      rcases (f a h1).2 with z | ⟨l, hl, hm⟩
      · rw [z] at ho; cases ho
      · exact hk (I.dj l k a hm h2 ▸ hl)
    by_cases ej : j = i
    · by_cases ek : k = i
      · rw [ej, ek]
      · rw [if_pos ej] at h1
        rw [if_neg ek] at h2
        by_cases hk : k ∈ mv
        · rw [if_pos hk] at h2; cases h2
        · rw [if_neg hk] at h2
          exact (key (j := 0) h1 (if_neg hk) hk h2).elim
    · rw [if_neg ej] at h1
      by_cases hj : j ∈ mv
      · rw [if_pos hj] at h1; cases h1
      · rw [if_neg hj] at h1
        by_cases ek : k = i
        · rw [if_pos ek] at h2
          exact (key (j := 0) h2 (if_neg hj) hj h1).elim
        · rw [if_neg ek] at h2
          by_cases hk : k ∈ mv
          · rw [if_pos hk] at h2; cases h2
          · rw [if_neg hk] at h2
            exact I.dj j k a h1 h2
  · by_cases ej : j = i
    · rw [if_pos ej] at ha
      obtain ⟨h1, h2⟩ := f a ha
      refine ⟨h1, ?_, RepT.there _ _ _ q a ha⟩
      rcases h2 with z | ⟨l, _, hm⟩
      · exact I.gr.h.free z
      · exact (I.fr l a hm).2.1
    · rw [if_neg ej] at ha
      by_cases hj : j ∈ mv
      · rw [if_pos hj] at ha; cases ha
      · rw [if_neg hj] at ha
        exact I'.fr j a ha
theorem Step.set {S S' : Hp} {σ : St} {i : Nat} {v : Option V} (h : Same S S') : Step S σ [i] S' (σ.set i v) :=
  ⟨h, fun j hj => List.getElem?_set_ne (fun e => hj (by simp [e]))⟩
def sSet (i : Nat) (mv : List Nat) (ev : En → Rs T) : En → Out := fun ρ => rsK (ev ρ) ρ fun t => .nx ((ρ.clr mv).put i (some t))
section
variable {X : Cx} {W : WX} {e : Expr} {te : TE} {ev : En → Rs T} {pos pos' : Pos} {x : Str}
theorem sem_set {K : PySem.W.Frag} {mg : Str → Option Value} {mv : List Nat} (i : Nat) (h : SemE K mg W te ev mv) : SemS K mg W (tAsg te (gName i)) (sSet i mv ev) [i] := by
  intro E S φ ρ σ H D I q
  refine h E S φ ρ σ H _ I ((OutOK.rsK I q).imp (fun t ht v S' H' fp g r n f => ?_) fun _ z => z)
  exact ht S' _ _ H' (.set g.s) (I.store i g r n f)
theorem ds_set (i : Nat) {mv : List Nat} (hN : X.N.Nodup) (he : DE X W e te ev mv) (hi : X.N[i]? = some x := by rfl) (hx : Loc X.env.scope x := by first | exact Or.inl rfl | exact Or.inr rfl) (hs : swapsWith e (some (.Name x pos')) pos.line X.env = pure false := by rfl) (hf : X.fn x = true ∨ X.env.scope.names.lookup x = some .local := by first | exact .inl rfl | exact .inr rfl | assumption) :
    DS X W (.Assign [.Name x pos'] e pos) (tAsg te (gName i)) (sSet i mv ev) [i] :=
  ⟨ps_set hN hi hx he.pe hs hf, sem_set i he.sm⟩

/-! ### return, if, while -/
def sRet (ev : En → Rs T) : En → Out := fun ρ => rsK (ev ρ) ρ .rt
theorem ds_ret {mv : List Nat} (he : DE X W e te ev mv) : DS X W (.Return (some e) pos) (tRet te) (sRet ev) [] := by
  refine ⟨ps_ret he.pe, fun E S φ ρ σ H D I q => ?_⟩
  refine he.sm E S φ ρ σ H _ I ((OutOK.rsK I q).imp (fun t ht v S' H' fp g r n f => ?_) fun _ z => z)
  refine ht v S' H' fp (I.gr.trans g) r n fun a ha => ⟨(f a ha).1, ?_⟩
  rcases (f a ha).2 with z | ⟨l, _, hm⟩
  · exact I.gr.h.free z
  · exact (I.fr l a hm).2.1
def sRetN : En → Out := fun _ => .rt (.sh .none)
theorem ds_retN : DS X W (.Return none pos) tRetN sRetN [] :=
  ⟨ps_retN, fun E S φ ρ σ H D I q => q .non S H [] I.gr (by simp only [RepT, RepD, true_and]) .nil fun a ha => by cases ha⟩
def sIf (c : En → Rs Bool) (a b : En → Out) : En → Out := fun ρ => rsK (c ρ) ρ fun k => bif k then a ρ else b ρ
theorem ds_if {c : Expr} {tc : TT} {ec : En → Rs Bool} {sa sb : List Stmt} {ta tb : TS} {a b : En → Out} {as bs : List Nat} (hc : DT X W c tc ec) (ha : DSs X W sa ta a as) (hb : DSs X W sb tb b bs) :
    DS X W (.If c sa sb pos) (tIfS tc ta tb) (sIf ec a b) (as ++ bs) := by
  refine ⟨ps_if hc.pe ha.ps hb.ps, fun E S φ ρ σ H D I q => ?_⟩
  refine hc.sm E S φ ρ σ H _ I ((OutOK.rsK I q).imp (fun k hk S' H' g => ?_) fun _ z => z)
  cases k with
  | true =>
    rw [if_pos rfl]
    exact ha.sm E S' φ ρ σ H' D (I.grow g) (OutOK.later (as := []) hk ⟨g.s, fun _ _ => rfl⟩ as (fun i hi => by cases hi) fun i hi => List.mem_append_left _ hi)
  | false =>
    rw [if_neg (by decide)]
    exact hb.sm E S' φ ρ σ H' D (I.grow g) (OutOK.later (as := []) hk ⟨g.s, fun _ _ => rfl⟩ bs (fun i hi => by cases hi) fun i hi => List.mem_append_right _ hi)
def whileN (c : En → Rs Bool) (b : En → Out) : Nat → En → Out
  | 0, _ => .bad
  | n + 1, ρ => rsK (c ρ) ρ fun k => bif k then (match b ρ with
    | .nx ρ' => whileN c b n ρ'
    | .ct ρ' => whileN c b n ρ'
    | .bk ρ' => .nx ρ'
    | o => o) else .nx ρ
def fuel : Nat := 2 ^ 64
def sWhile (c : En → Rs Bool) (b : En → Out) : En → Out := whileN c b fuel
theorem ds_while {c : Expr} {tc : TT} {ec : En → Rs Bool} {sb : List Stmt} {tb : TS} {b : En → Out} {bs : List Nat} (hp : PassesOwn (model X.prog X.w) X.A X.env X.xe) (hc : DT X W c tc ec) (hb : DSs X W sb tb b bs) :
    DS X W (.While c sb [] pos) (tWhile tc tb) (sWhile ec b) bs := by
  refine ⟨ps_while hp hc.pe hb.ps, fun E S φ ρ σ H D I q => ?_⟩
  refine ⟨fun m σ' H' => ∃ S' φ' ρ', StInv X.K E S' φ' ρ' σ' H' ∧ OutOK X.K X.mg W E S' σ' bs (whileN ec b m ρ') D, ⟨fuel, S, φ, ρ, I, q⟩, ?_⟩
  rintro m σ' H' ⟨S', φ', ρ', I', q'⟩
  cases m with
  | zero => exact False.elim q'
  | succ m =>
    refine hc.sm E S' φ' ρ' σ' H' _ I' ((OutOK.rsK I' q').imp (fun k hk S2 H2 g => ?_) fun _ z => z)
    cases k with
    | false =>
      rw [if_neg (by decide)]
      exact hk S2 φ' σ' H2 ⟨g.s, fun _ _ => rfl⟩ (I'.grow g)
    | true =>
      rw [if_pos rfl]
      refine ⟨fun σ3 H3 => ∃ S3 φ3 ρ3, StInv X.K E S3 φ3 ρ3 σ3 H3 ∧ OutOK X.K X.mg W E S3 σ3 bs (whileN ec b m ρ3) D, fun σ3 H3 h3 => ⟨m, Nat.lt_succ_self m, h3⟩, ?_⟩
      refine hb.sm E S2 φ' ρ' σ' H2 _ (I'.grow g) ?_
      have hk : OutOK X.K X.mg W E S' σ' bs (match b ρ' with
        | .nx ρ' => whileN ec b m ρ'
        | .ct ρ' => whileN ec b m ρ'
        | .bk ρ' => .nx ρ'
        | o => o) D := hk
      have st : ∀ {S3 σ3}, Step S2 σ' bs S3 σ3 → Step S' σ' bs S3 σ3 := fun s => ⟨g.s.trans s.s, s.k⟩
      cases eb : b ρ' with
      | bad => rw [eb] at hk; exact hk
      | nx ρ3 => rw [eb] at hk; exact fun S3 φ3 σ3 H3 s3 I3 => ⟨S3, φ3, ρ3, I3, OutOK.later hk (st s3) bs (fun _ z => z) fun _ z => z⟩
      | ct ρ3 => rw [eb] at hk; exact fun S3 φ3 σ3 H3 s3 I3 => ⟨S3, φ3, ρ3, I3, OutOK.later hk (st s3) bs (fun _ z => z) fun _ z => z⟩
      | bk ρ3 => rw [eb] at hk; exact fun S3 φ3 σ3 H3 s3 I3 => hk S3 φ3 σ3 H3 (st s3) I3
      | rt t => rw [eb] at hk; exact hk
      | ex c ρ3 => rw [eb] at hk; exact fun S3 φ3 σ3 H3 s3 I3 => hk S3 φ3 σ3 H3 (st s3) I3
end

/-! ### what a loop walks: shared items -/
/-- what an item that a walk hands on is known to be -/
abbrev Rel := Hp → Hp → D → V → Prop
def RD : Rel := fun S _ d v => RepD S d v
/-- a tuple that the walk has made: it is taken apart at once -/
def RP (K : PySem.W.Frag) : Rel := fun S H d v => ∃ ds a vs, d = .tuple ds ∧ v = .ref a ∧ SqT K H a vs ∧ RepDs S ds vs
def ItOK (Rp : Rel) (S : Hp) (J : It) (ds : List D) : Prop :=
  ∀ S1 H1 i, Same S S1 → Same S1 H1 → (∀ d, ds[i]? = some d → J.go i H1 ∧ ∀ x H2, J.yld i H1 x H2 → ∃ S2, Grow S1 H1 S2 H2 ∧ Rp S2 H2 d x) ∧ (ds.length ≤ i → J.stop i H1)
def SemI (Rp : Rel) (K : PySem.W.Frag) (mg : Str → Option Value) (W : WX) (wi : TI) (ei : En → Rs (List D)) : Prop :=
  ∀ E S φ ρ σ H R, StInv K E S φ ρ σ H → RsOK (ei ρ) (fun ds => ∀ S' H' J, Grow S H S' H' → ItOK Rp S' J ds → R J H') (fun c => ∀ S' H', Grow S H S' H' → XOK mg W c σ H') → wi σ H R
structure DI (Rp : Rel) (X : Cx) (W : WX) (tg iter : Expr) (wi : TI) (ei : En → Rs (List D)) : Prop where
  pi : PI X tg iter wi
  sm : SemI Rp X.K X.mg W wi ei
/-- targets -/
def SemG (Rp : Rel) (K : PySem.W.Frag) (g : TG) (eg : D → En → Option En) (as : List Nat) : Prop :=
  ∀ E S φ ρ σ H d v Q ρ', StInv K E S φ ρ σ H → Rp S H d v → eg d ρ = some ρ' → (∀ φ' σ', (∀ i a, a ∈ φ' i → a ∈ φ i) → (∀ i, i ∉ as → σ'[i]? = σ[i]?) → σ'.length = σ.length → StInv K E S φ' ρ' σ' H → Q σ' H) → g v σ H Q
structure DG (Rp : Rel) (X : Cx) (tg : Expr) (g : TG) (eg : D → En → Option En) (as : List Nat) : Prop where
  pg : PG X tg g
  sm : SemG Rp X.K g eg as
def egName (i : Nat) : D → En → Option En := fun d ρ => some (ρ.put i (some (.sh d)))
theorem StInv.putS {K : PySem.W.Frag} {E : Ent} {S : Hp} {φ : Nat → List Addr} {ρ : En} {σ : St} {H : Hp} {d : D} {v : V} (i : Nat) (I : StInv K E S φ ρ σ H) (q : RepD S d v) : ∃ φ', (∀ i a, a ∈ φ' i → a ∈ φ i) ∧ StInv K E S φ' (ρ.put i (some (.sh d))) (σ.set i (some v)) H :=
  ⟨_, fun j a ha => by
    by_cases e : j = i
    · simp only [e, if_true] at ha; cases ha
    · simpa [e] using ha, I.store (mv := []) (fp := []) i (.refl I.gr.i) (by simp only [RepT, true_and]; exact q) .nil fun a ha => by cases ha⟩
section
variable {X : Cx} {W : WX} {pos : Pos} {x : Str} {tg : Expr}
theorem dg_name (i : Nat) (hN : X.N.Nodup) (hi : X.N[i]? = some x := by rfl) (hx : Loc X.env.scope x := by first | exact Or.inl rfl | exact Or.inr rfl) (hf : X.fn x = true ∨ X.env.scope.names.lookup x = some .local := by first | exact .inl rfl | exact .inr rfl | assumption) : DG RD X (.Name x pos) (gName i) (egName i) [i] := by
  refine ⟨pg_name hN hi hx hf, fun E S φ ρ σ H d v Q ρ' I r e h => ?_⟩
  cases e
  obtain ⟨φ', sb, I'⟩ := I.putS i r
  exact h φ' _ sb (fun j hj => List.getElem?_set_ne (fun e => hj (by simp [e]))) (List.length_set ..) I'
/-- tuples -/
def SemGs (K : PySem.W.Frag) (g : TGs) (eg : List D → En → Option En) (as : List Nat) : Prop :=
  ∀ E S φ ρ σ H ds vs Q ρ', StInv K E S φ ρ σ H → RepDs S ds vs → eg ds ρ = some ρ' → (∀ φ' σ', (∀ i a, a ∈ φ' i → a ∈ φ i) → (∀ i, i ∉ as → σ'[i]? = σ[i]?) → σ'.length = σ.length → StInv K E S φ' ρ' σ' H → Q σ' H) → g vs σ H Q
structure DGs (X : Cx) (ts : List Expr) (g : TGs) (eg : List D → En → Option En) (as : List Nat) : Prop where
  pg : PGs X ts g
  sm : SemGs X.K g eg as
def egNil : List D → En → Option En := fun ds ρ => match ds with
  | [] => some ρ
  | _ => none
def egCons (a : D → En → Option En) (b : List D → En → Option En) : List D → En → Option En := fun ds ρ => match ds with
  | [] => none
  | d :: ds => (a d ρ).bind (b ds)
def egTup (n : Nat) (a : List D → En → Option En) : D → En → Option En := fun d ρ => match d with
  | .tuple ds => if ds.length = n then a ds ρ else none
  | _ => none
theorem dgs_nil : DGs X [] gNil egNil [] := by
  refine ⟨pgs_nil, fun E S φ ρ σ H ds vs Q ρ' I r e h => ?_⟩
  cases ds with
  | nil =>
    cases e
    simp only [RepDs] at r
    exact ⟨r, h φ σ (fun _ _ z => z) (fun _ _ => rfl) rfl I⟩
  | cons _ _ => cases e
theorem dgs_cons {e : Expr} {es : List Expr} {g : TG} {gs : TGs} {a : D → En → Option En} {b : List D → En → Option En} {as bs : List Nat} (h1 : DG RD X e g a as) (h2 : DGs X es gs b bs)
    (hs : (assignEach (e :: es) X.env).map (·.2) = assign e X.env :: (assignEach es X.env).map (·.2) := by rfl) : DGs X (e :: es) (gCons g gs) (egCons a b) (as ++ bs) := by
  refine ⟨pgs_cons h1.pg h2.pg hs, fun E S φ ρ σ H ds vs Q ρ' I r e h => ?_⟩
  cases ds with
  | nil => cases e
  | cons d ds =>
    simp only [RepDs] at r
    obtain ⟨v, w, rfl, r1, r2⟩ := r
    have e : (a d ρ).bind (b ds) = some ρ' := e
    cases ea : a d ρ with
    | none => rw [ea] at e; cases e
    | some ρ1 =>
      rw [ea] at e
      refine ⟨v, w, rfl, h1.sm E S φ ρ σ H d v _ ρ1 I r1 ea fun φ1 σ1 b1 k1 l1 I1 => ?_⟩
      exact h2.sm E S φ1 ρ1 σ1 H ds w Q ρ' I1 r2 e fun φ2 σ2 b2 k2 l2 I2 => h φ2 σ2 (fun i a z => b1 i a (b2 i a z)) (fun i hi => (k2 i fun z => hi (List.mem_append_right _ z)).trans (k1 i fun z => hi (List.mem_append_left _ z))) (l2.trans l1) I2
theorem dg_tup {es : List Expr} {k n : Nat} {gs : TGs} {a : List D → En → Option En} {as : List Nat} (hc : X.calm = true) (h : DGs X es gs a as) (hn : (assignEach es X.env).length = n := by rfl) (hst : (assignEach es X.env).findIdx? (·.1) = none := by rfl) :
    DG RD X (.Tuple es k pos) (gTup X.K n gs) (egTup n a) as := by
  refine ⟨pg_tup hc h.pg hn hst, fun E S φ ρ σ H d v Q ρ' I r e hq => ?_⟩
  cases d with
  | tuple ds =>
    have e : (if ds.length = n then a ds ρ else none) = some ρ' := e
    by_cases hl : ds.length = n
    · rw [if_pos hl] at e
      have r : RepD S (.tuple ds) v := r
      simp only [RepD] at r
      obtain ⟨p, vs, rfl, hp, r⟩ := r
      exact ⟨p, vs, rfl, (hp.same (I.gr.i _)).sq, by rw [r.length]; exact hl, h.sm E S φ ρ σ H ds vs Q ρ' I r e hq⟩
    · rw [if_neg hl] at e; cases e
  | _ => cases e
end

theorem RD.rp {K : PySem.W.Frag} {S H : Hp} {ds : List D} {v : V} (i : Same S H) (r : RD S H (.tuple ds) v) : RP K S H (.tuple ds) v := by
  have r : RepD S (.tuple ds) v := r
  simp only [RepD] at r
  obtain ⟨a, vs, rfl, ha, q⟩ := r
  exact ⟨ds, a, vs, rfl, rfl, (ha.same (i _)).sq, q⟩
section
variable {X : Cx} {pos : Pos}
theorem dg_tupP {K : PySem.W.Frag} {es : List Expr} {k n : Nat} {gs : TGs} {a : List D → En → Option En} {as : List Nat} (hc : X.calm = true) (h : DGs X es gs a as) (hK : X.K = K := by rfl) (hn : (assignEach es X.env).length = n := by rfl) (hst : (assignEach es X.env).findIdx? (·.1) = none := by rfl) :
    DG (RP K) X (.Tuple es k pos) (gTup K n gs) (egTup n a) as := by
  subst hK
  refine ⟨pg_tup hc h.pg hn hst, fun E S φ ρ σ H d v Q ρ' I r e hq => ?_⟩
  obtain ⟨ds, p, vs, rfl, rfl, hp, r⟩ := r
  have e : (if ds.length = n then a ds ρ else none) = some ρ' := e
  by_cases hl : ds.length = n
  · rw [if_pos hl] at e
    exact ⟨p, vs, rfl, hp, by rw [r.length]; exact hl, h.sm E S φ ρ σ H ds vs Q ρ' I r e hq⟩
  · rw [if_neg hl] at e; cases e
end

/-! ### for -/
def forL (g : D → En → Option En) (b : En → Out) : List D → En → Out
  | [], ρ => .nx ρ
  | d :: ds, ρ => match g d ρ with
    | none => .bad
    | some ρ1 => match b ρ1 with
      | .nx ρ' => forL g b ds ρ'
      | .ct ρ' => forL g b ds ρ'
      | .bk ρ' => .nx ρ'
      | o => o
def sFor (ei : En → Rs (List D)) (g : D → En → Option En) (b : En → Out) : En → Out := fun ρ => rsK (ei ρ) ρ fun ds => forL g b ds ρ
section
variable {X : Cx} {W : WX} {pos : Pos} {tg iter : Expr}
theorem sem_for_at {K : PySem.W.Frag} {mg : Str → Option Value} {Rp : Rel} {wi : TI} {ei : En → Rs (List D)} {g : TG} {eg : D → En → Option En} {tb : TS} {b : En → Out} {as bs : List Nat} {E : Ent} {S : Hp} {φ : Nat → List Addr} {ρ : En} {σ : St} {H : Hp} {D : Ends}
    (hi : ∀ R, RsOK (ei ρ) (fun ds => ∀ S' H' J, Grow S H S' H' → ItOK Rp S' J ds → R J H') (fun c => ∀ S' H', Grow S H S' H' → XOK mg W c σ H') → wi σ H R) (hg : SemG Rp K g eg as) (hb : SemS K mg W tb b bs) (I : StInv K E S φ ρ σ H) (q : OutOK K mg W E S σ (as ++ bs) (sFor ei eg b ρ) D) : tFor wi g tb D σ H := by
  refine hi _ ((OutOK.rsK I q).imp (fun ds hds S0 H0 J g0 hJ => ?_) fun _ z => z)
  refine ⟨fun i m σ' H' => m = ds.length - i ∧ i ≤ ds.length ∧ ∃ S' φ' ρ', Same S0 S' ∧ StInv K E S' φ' ρ' σ' H' ∧ OutOK K mg W E S' σ' (as ++ bs) (forL eg b (ds.drop i) ρ') D,
    ⟨ds.length, by simp, Nat.zero_le _, S0, φ, ρ, .refl _, I.grow g0, OutOK.later (as := []) hds ⟨g0.s, fun _ _ => rfl⟩ (as ++ bs) (fun i hi => by cases hi) fun _ z => z⟩, ?_⟩
  rintro i m σ' H' ⟨rfl, hle, S', φ', ρ', hS, I', q'⟩
  obtain ⟨h1, h2⟩ := hJ S' H' i hS I'.gr.i
  by_cases hlt : i < ds.length
  · obtain ⟨hgo, hy⟩ := h1 ds[i] (by simp [hlt])
    have q0 := q'
    rw [List.drop_eq_getElem_cons hlt] at q0
    refine .inr ⟨hgo, fun σ3 H3 => ∃ S3 φ3 ρ3, Same S0 S3 ∧ StInv K E S3 φ3 ρ3 σ3 H3 ∧ OutOK K mg W E S3 σ3 (as ++ bs) (forL eg b (ds.drop (i + 1)) ρ3) D, fun σ3 H3 ⟨S3, φ3, ρ3, z⟩ => ⟨ds.length - (i + 1), by omega, rfl, hlt, S3, φ3, ρ3, z⟩, fun x H2 y => ?_⟩
    obtain ⟨S2, g2, r2⟩ := hy x H2 y
    have q0 : OutOK K mg W E S' σ' (as ++ bs) (match eg ds[i] ρ' with
      | none => .bad
      | some ρ1 => match b ρ1 with
        | .nx ρ' => forL eg b (ds.drop (i + 1)) ρ'
        | .ct ρ' => forL eg b (ds.drop (i + 1)) ρ'
        | .bk ρ' => .nx ρ'
        | o => o) D := q0
    cases eg1 : eg ds[i] ρ' with
    | none => rw [eg1] at q0; exact False.elim q0
    | some ρ1 =>
      rw [eg1] at q0
      refine hg E S2 φ' ρ' σ' H2 _ x _ ρ1 (I'.grow g2) r2 eg1 fun φ1 σ1 _ k1 _ I1 => ?_
      refine hb E S2 φ1 ρ1 σ1 H2 _ I1 ?_
      have st : ∀ {S3 σ3}, Step S2 σ1 bs S3 σ3 → Step S' σ' (as ++ bs) S3 σ3 := fun s =>
        ⟨g2.s.trans s.s, fun i hi => (s.k i fun z => hi (List.mem_append_right _ z)).trans (k1 i fun z => hi (List.mem_append_left _ z))⟩
      have q0 : OutOK K mg W E S' σ' (as ++ bs) (match b ρ1 with
        | .nx ρ' => forL eg b (ds.drop (i + 1)) ρ'
        | .ct ρ' => forL eg b (ds.drop (i + 1)) ρ'
        | .bk ρ' => .nx ρ'
        | o => o) D := q0
      have hS2 : Same S0 S2 := hS.trans g2.s
      cases eb : b ρ1 with
      | bad => rw [eb] at q0; exact q0
      | nx ρ3 => rw [eb] at q0; exact fun S3 φ3 σ3 H3 s3 I3 => ⟨S3, φ3, ρ3, hS2.trans s3.s, I3, OutOK.later q0 (st s3) _ (fun _ z => z) fun _ z => z⟩
      | ct ρ3 => rw [eb] at q0; exact fun S3 φ3 σ3 H3 s3 I3 => ⟨S3, φ3, ρ3, hS2.trans s3.s, I3, OutOK.later q0 (st s3) _ (fun _ z => z) fun _ z => z⟩
      | bk ρ3 => rw [eb] at q0; exact fun S3 φ3 σ3 H3 s3 I3 => q0 S3 φ3 σ3 H3 (st s3) I3
      | rt t => rw [eb] at q0; exact q0
      | ex c ρ3 => rw [eb] at q0; exact fun S3 φ3 σ3 H3 s3 I3 => q0 S3 φ3 σ3 H3 (st s3) I3
  · have e : i = ds.length := by omega
    subst e
    rw [List.drop_length] at q'
    exact .inl ⟨h2 (Nat.le_refl _), q' S' φ' σ' H' ⟨.refl _, fun _ _ => rfl⟩ I'⟩
theorem ds_for {Rp : Rel} {body : List Stmt} {wi : TI} {ei : En → Rs (List D)} {g : TG} {eg : D → En → Option En} {tb : TS} {b : En → Out} {as bs : List Nat} (hp : PassesOwn (model X.prog X.w) X.A X.env X.xe) (hc : X.calm = true) (hi : DI Rp X W tg iter wi ei) (hg : DG Rp X tg g eg as) (hb : DSs X W body tb b bs)
    (hs : ∀ x, foldedSetIterable iter X.env x = pure x := by intro _; rfl) : DS X W (.For tg iter body [] pos) (tFor wi g tb) (sFor ei eg b) (as ++ bs) := by
  exact ⟨ps_for hp hc hi.pi hg.pg hb.ps hs, fun E S φ ρ σ H D I q => sem_for_at (fun R => hi.sm E S φ ρ σ H R I) hg.sm hb.sm I q⟩
end

/-! ### the items of a list, a tuple, a range -/
def T.items : T → Option (List D)
  | .sh (.list ds) => some ds
  | .sh (.tuple ds) => some ds
  | .scr ns => some (ns.map PyData.int)
  | .sh (.str x) => some (x.cps.toList.map fun c => PyData.str ⟨#[c]⟩)
  | _ => none
def eiSeq (ev : En → Rs T) : En → Rs (List D) := fun ρ => (ev ρ).bind fun t => rsO t.items
section
variable {X : Cx} {W : WX} {tg l : Expr} {tl : TE} {ev : En → Rs T}
theorem rep_ints {S : Hp} : ∀ ns : List Int, RepDs S (ns.map PyData.int) (ns.map V.int)
  | [] => .nil
  | n :: ns => .cons (by simp only [RepD]) (rep_ints ns)
theorem it_list {K : PySem.W.Frag} {S : Hp} {a : Addr} {vs : List V} {ds : List D} (h : SqL K S a vs) (r : RepDs S ds vs) (uniq : ∀ S1 ws, Same S S1 → SqL K S1 a ws → ws = vs) : ItOK RD S (Itl K a) ds := by
  intro S1 H1 i hs hi
  have sq : SqL K H1 a vs := (hs.trans hi).seq h
  refine ⟨fun d hd => ?_, fun hl => ⟨vs, sq, by rw [r.length]; exact hl⟩⟩
  obtain ⟨v, hv, q⟩ := r.get hd
  refine ⟨⟨vs, v, sq, hv⟩, fun x H2 y => ?_⟩
  obtain ⟨rfl, y⟩ := y
  have := y vs sq
  rw [hv] at this; cases this
  exact ⟨S1, .refl hi, RepD.mono hs _ _ q⟩
/-- [K] iList or iTup: which one it is, is seen where the value stands -/
def iSeq (K : PySem.W.Frag) (tl : TE) : TI := fun σ H R => tl σ H fun x H1 => (∃ a, x = .ref a ∧ (((∃ xs, SqL K H1 a xs) ∧ R (Itl K a) H1) ∨ ((∃ xs, SqT K H1 a xs) ∧ R (Itt K a) H1))) ∨ ∃ y, x = .str y ∧ R (Its y) H1
theorem pi_seq (hl : PE X l tl) : PI X tg l (iSeq X.K tl) := by
  refine ⟨fun pins s σ H R I h => ?_⟩
  refine thn (hl.run pins s σ H _ I h) fun v s1 ⟨x, H1, I1, r1, q1⟩ => ?_
  rcases q1 with ⟨a, e, q⟩ | ⟨y, e, q⟩
  rotate_left
  · subst e
    obtain ⟨t, rfl⟩ := r1
    cases ha : y.cps.all (· < 128)
    · exact wpAny_pyIter_wide ha (pi_one (tk := s1.toks) I1 _ (turn_str _ y t "str_iterator" (.inr rfl)) ⟨_, Heap.get?_push_size _ rfl, rfl, rfl⟩ q)
    · exact wpAny_pyIter_ascii ha (pi_one (tk := s1.toks) I1 _ (turn_str _ y t "str_ascii_iterator" (.inl rfl)) ⟨_, Heap.get?_push_size _ rfl, rfl, rfl⟩ q)
  subst e
  cases r1
  rcases q with ⟨⟨xs, hq⟩, q⟩ | ⟨⟨xs, hq⟩, q⟩
  · obtain ⟨its, rv, p, hz⟩ := I1.list hq
    refine wpAny_pyIter_list p.isList ?_
    refine ⟨s1.heap.objs.size, [s1.heap.objs.size], _, _, H1, rfl, I1.kept (t' := s1.toks) fun b o e => Heap.get?_push_of_some _ e, turn_list a _, ⟨_, Heap.get?_push_size _ rfl, rfl, rfl⟩, fun b hb => ?_, q⟩
    have e : b = s1.heap.objs.size := by simpa using hb
    subst e
    exact I1.fpOk (Nat.le_refl _) (I1.hok.fresh (Nat.le_refl _))
  · obtain ⟨its, rv, p, hz⟩ := I1.tuple hq
    refine wpAny_pyIter_tuple (show s1.heap.IsTuple a its.toArray from p) ?_
    refine ⟨s1.heap.objs.size, [s1.heap.objs.size], _, _, H1, rfl, I1.kept (t' := s1.toks) fun b o e => Heap.get?_push_of_some _ e, turn_tuple a _, ⟨_, Heap.get?_push_size _ rfl, rfl, rfl⟩, fun b hb => ?_, q⟩
    have e : b = s1.heap.objs.size := by simpa using hb
    subst e
    exact I1.fpOk (Nat.le_refl _) (I1.hok.fresh (Nat.le_refl _))
theorem di_seq (h : DV X W l tl ev) : DI RD X W tg l (iSeq X.K tl) (eiSeq ev) := by
  refine ⟨pi_seq h.pe, fun E S φ ρ σ H R I q => ?_⟩
  refine h.sm E S φ ρ σ H _ I (q.bind.imp (fun t ht v S' H' fp g r => ?_) fun _ z => z)
  obtain ⟨ds, e, ht⟩ := ht.rsO
  have key : ∀ {a : Addr} {vs : List V}, S' a = some (.lst vs) → RepDs S' ds vs → (∃ b, V.ref a = V.ref b ∧ (((∃ xs, SqL X.K H' b xs) ∧ R (Itl X.K b) H') ∨ ((∃ xs, SqT X.K H' b xs) ∧ R (Itt X.K b) H'))) ∨ ∃ y, V.ref a = V.str y ∧ R (Its y) H' := fun {a vs} ha rr => by
    have sq : SqL X.K H' a vs := .of (g.i _ _ ha)
    refine .inl ⟨a, rfl, .inl ⟨⟨vs, sq⟩, ht S' H' _ g fun S1 H1 i hs hi => ?_⟩⟩
    have sq1 : SqL X.K H1 a vs := .of (hi _ _ (hs _ _ ha))
    refine ⟨fun d hd => ?_, fun hl => ⟨vs, sq1, by rw [rr.length]; exact hl⟩⟩
    obtain ⟨w, hw, q⟩ := rr.get hd
    refine ⟨⟨vs, w, sq1, hw⟩, fun x H2 y => ?_⟩
    obtain ⟨rfl, y⟩ := y
    have := y vs sq1
    rw [hw] at this; cases this
    exact ⟨S1, .refl hi, RepD.mono hs _ _ q⟩
  unfold T.items at e
  split at e
  · cases e
    simp only [RepT, RepD] at r
    obtain ⟨_, a, vs, rfl, ha, rr⟩ := r
    exact key ha rr
  · cases e
    simp only [RepT, RepD] at r
    obtain ⟨_, a, vs, rfl, ha, rr⟩ := r
    have sq : SqT X.K H' a vs := (ha.same (g.i _)).sq
    refine .inl ⟨a, rfl, .inr ⟨⟨vs, sq⟩, ht S' H' _ g fun S1 H1 i hs hi => ?_⟩⟩
    have sq1 : SqT X.K H1 a vs := (ha.same fun x e => hi _ _ (hs _ _ e)).sq
    refine ⟨fun d hd => ?_, fun hl => ⟨vs, sq1, by rw [rr.length]; exact hl⟩⟩
    obtain ⟨w, hw, q⟩ := rr.get hd
    refine ⟨⟨vs, w, sq1, hw⟩, fun x H2 y => ?_⟩
    obtain ⟨rfl, y⟩ := y
    have := y vs sq1
    rw [hw] at this; cases this
    exact ⟨S1, .refl hi, RepD.mono hs _ _ q⟩
  · rename_i ns
    cases e
    simp only [RepT] at r
    obtain ⟨_, a, rfl, sq⟩ := r
    have sq0 : SqL X.K H' a (ns.map V.int) := g.i.seq sq
    refine .inl ⟨a, rfl, .inl ⟨⟨_, sq0⟩, ht S' H' _ g fun S1 H1 i hs hi => ?_⟩⟩
    have sq1 : SqL X.K H1 a (ns.map V.int) := (hs.trans hi).seq sq
    have rr : RepDs S1 (ns.map PyData.int) (ns.map V.int) := rep_ints ns
    refine ⟨fun d hd => ?_, fun hl => ⟨_, sq1, by rw [rr.length]; exact hl⟩⟩
    obtain ⟨w, hw, q⟩ := rr.get hd
    refine ⟨⟨_, w, sq1, hw⟩, fun x H2 y => ?_⟩
    obtain ⟨rfl, y⟩ := y
    have := y _ sq1
    rw [hw] at this; cases this
    exact ⟨S1, .refl hi, q⟩
  · rename_i x
    cases e
    simp only [RepT, RepD] at r
    obtain ⟨_, rfl⟩ := r
    refine .inr ⟨x, rfl, ht S' H' _ g fun S1 H1 i hs hi => ⟨fun d hd => ?_, fun hl => by
      show x.cps.size ≤ i
      simpa using hl⟩⟩
    rw [List.getElem?_map, Option.map_eq_some_iff] at hd
    obtain ⟨c, hc, rfl⟩ := hd
    rw [Array.getElem?_toList] at hc
    refine ⟨(Array.getElem?_eq_some_iff.mp hc).1, fun v H2 y => ?_⟩
    obtain ⟨rfl, c', hc', rfl⟩ := y
    rw [hc] at hc'; cases hc'
    exact ⟨S1, .refl hi, by show V.str _ = V.str _; rfl⟩
  · cases e
def rngD (lo hi : Int) : List D := (List.range (hi - lo).toNat).map fun (k : Nat) => PyData.int (lo + (k : Int))
def eiRng1 (er : En → Rs (List T)) : En → Rs (List D) := fun ρ => (er ρ).bind fun ts => match ts with
  | [.sh (.int j)] => if -(2 ^ 62) ≤ j ∧ j < 2 ^ 62 then .ok (rngD 0 j) else .bad
  | _ => .bad
def eiRng2 (er : En → Rs (List T)) : En → Rs (List D) := fun ρ => (er ρ).bind fun ts => match ts with
  | [.sh (.int i), .sh (.int j)] => if -(2 ^ 62) ≤ i ∧ i < 2 ^ 62 ∧ -(2 ^ 62) ≤ j ∧ j < 2 ^ 62 then .ok (rngD i j) else .bad
  | _ => .bad
theorem it_rng {S : Hp} (lo hi : Int) : ItOK RD S (Itr lo (hi - lo).toNat) (rngD lo hi) := by
  intro S1 H1 i hs hi'
  refine ⟨fun d hd => ?_, fun hl => ?_⟩
  · unfold rngD at hd
    rw [List.getElem?_map] at hd
    by_cases h : i < (hi - lo).toNat
    · rw [List.getElem?_range h] at hd
      simp only [Option.map_some, Option.some.injEq] at hd
      subst hd
      refine ⟨h, fun x H2 y => ?_⟩
      obtain ⟨rfl, rfl⟩ := y
      exact ⟨S1, .refl hi', by show RepD _ _ _; simp only [RepD]⟩
    · rw [List.getElem?_eq_none (by simpa using h)] at hd; cases hd
  · unfold rngD at hl
    rw [List.length_map, List.length_range] at hl
    exact hl
theorem di_range1 {a : Expr} {ta : TA} {er : En → Rs (List T)} {p pos : Pos} (hg : Gl X "range") (hm : X.mg "range" = none) (ha : DAs X W [a] ta er) (hs : starEach [a] X.env = [(false, eval a X.env)] := by rfl) : DI RD X W tg (.Call (.Name "range" p) [a] [] pos) (iRng1 ta) (eiRng1 er) := by
  refine ⟨pi_range1 hg hm ha.pe hs, fun E S φ ρ σ H R I q => ?_⟩
  refine ha.sm E S φ ρ σ H _ I (q.bind.imp (fun ts ht vs S' H' g r => ?_) fun _ z => z)
  split at ht
  · rename_i j
    split at ht
    · rename_i hb
      obtain ⟨v, w, fp, rfl, r1, rfl⟩ := r
      simp only [RepT, RepD] at r1
      obtain ⟨_, rfl⟩ := r1
      refine ⟨j, rfl, hb.1, hb.2, ht S' H' _ g ?_⟩
      have := it_rng (S := S') 0 j
      rwa [show (j - 0).toNat = j.toNat by rw [Int.sub_zero]] at this
    · exact False.elim ht
  · exact False.elim ht
theorem di_range2 {a b : Expr} {ta : TA} {er : En → Rs (List T)} {p pos : Pos} (hg : Gl X "range") (hm : X.mg "range" = none) (ha : DAs X W [a, b] ta er) (hs : starEach [a, b] X.env = [(false, eval a X.env), (false, eval b X.env)] := by rfl) (hs2 : starEach [b] X.env = [(false, eval b X.env)] := by rfl) :
    DI RD X W tg (.Call (.Name "range" p) [a, b] [] pos) (iRng2 ta) (eiRng2 er) := by
  refine ⟨pi_range2 hg hm ha.pe hs hs2, fun E S φ ρ σ H R I q => ?_⟩
  refine ha.sm E S φ ρ σ H _ I (q.bind.imp (fun ts ht vs S' H' g r => ?_) fun _ z => z)
  split at ht
  · rename_i i j
    split at ht
    · rename_i hb
      obtain ⟨v, w, fp, rfl, r1, v2, w2, fp2, rfl, r2, rfl⟩ := r
      simp only [RepT, RepD] at r1 r2
      obtain ⟨_, rfl⟩ := r1
      obtain ⟨_, rfl⟩ := r2
      exact ⟨i, j, rfl, hb, ht S' H' _ g (it_rng i j)⟩
    · exact False.elim ht
  · exact False.elim ht
end

/-! ### a def -/
def outR : Out → Rs T
  | .nx _ => .ok (.sh .none)
  | .rt t => .ok t
  | .ex c _ => .ex c
  | _ => .bad
/-- the arguments, then the names not yet assigned -/
def en0 (n : Nat) (ts : List T) : En := ts.map some ++ List.replicate n none
/-- a def with n parameters and m further names -/
def fnD (n m : Nat) (b : En → Out) (ts : List T) : Rs T := if ts.length = n then outR (b (en0 m ts)) else .bad
section
variable {P : Program} {w : World} {K : PySem.W.Frag} {mg : Str → Option Value} {base : Heap} {x qual : Str} {params : Arguments} {body : List Stmt} {scope : Scope} {f : Addr} {fd : FuncData} {N ps : List Str} {k n m : Nat} {b : En → Out}
theorem args_slot {S H : Hp} : ∀ {ts : List T} {vs : List V} {i : Nat} {t : T}, RepArgs K S ts vs → ts[i]? = some t → ∃ v, vs[i]? = some v ∧ RepT K S H t v []
  | [], _, i, t, q, e => by simp at e
  | c :: ts, _, i, t, ⟨v, r, e0, q, qs⟩, e => by
    subst e0
    cases i with
    | zero =>
      simp at e
      subst e
      refine ⟨v, rfl, ?_⟩
      cases c with
      | sh d => simp only [RepT, true_and]; exact q
      | scr ns => simp only [RepT, true_and]; exact q
      | _ => exact False.elim q
    | succ i => exact args_slot (i := i) qs (by simpa using e)
theorem body_sem {W : WX} {t : TS} {as : List Nat} {vs : List V} {H : Hp} {Q : VK} {E : XK} (d : SemS K mg (fun cls d _ H' => E cls d H') t b as) (hm : N.length = n + m) (h : spD K mg n (fnD n m b) vs H Q E) : t { nx := fun _ H' => Q .non H', rt := Q } (L2.start N vs) H := by
  obtain ⟨S, ts, i, hl, q, r⟩ := h
  have lv : vs.length = n := q.length.trans hl
  have I : StInv K ⟨S, H⟩ S (fun _ => []) (en0 m ts) (L2.start N vs) H := by
    refine ⟨.refl i, ?_, fun j t hj => ?_, fun _ => .nil, fun _ _ a h1 _ => (nomatch h1), fun _ a h1 => (nomatch h1)⟩
    · simp only [en0, L2.start, List.length_append, List.length_map, List.length_replicate]
      omega
    · unfold en0 at hj
      by_cases hlt : j < ts.length
      · rw [List.getElem?_append_left (by simpa using hlt), List.getElem?_map] at hj
        cases e : ts[j]? with
        | none => rw [e] at hj; cases hj
        | some t0 =>
          rw [e] at hj
          simp only [Option.map_some, Option.some.injEq] at hj
          subst hj
          obtain ⟨v, hv, r⟩ := args_slot (H := H) q e
          refine ⟨v, ?_, r⟩
          unfold L2.start
          rw [List.getElem?_append_left (by rw [List.length_map, lv, ← hl]; exact hlt), List.getElem?_map, hv]
          rfl
      · rw [List.getElem?_append_right (by simpa using hlt), List.getElem?_replicate] at hj
        split at hj <;> cases hj
  refine d ⟨S, H⟩ S _ _ _ H _ I ?_
  unfold fnD at r
  rw [if_pos hl] at r
  cases e : b (en0 m ts) with
  | bad => rw [e] at r; exact r
  | nx ρ =>
    rw [e] at r
    exact fun S' φ' σ' H' _ I' => r .non S' H' [] I'.gr (by simp only [RepT, RepD, true_and]) .nil fun a ha => by cases ha
  | bk ρ => rw [e] at r; exact False.elim r
  | ct ρ => rw [e] at r; exact False.elim r
  | rt t => rw [e] at r; exact r
  | ex c ρ =>
    rw [e] at r
    exact fun S' φ' σ' H' _ I' C hC => r S' H' I'.gr C hC
theorem fn_ok (F : FunD K x qual params body scope [] [] f fd) (Sc : FnScope N ps scope) (hn : ps.length = n) (hm : N.length = n + m)
    (hbody : ∀ (cdv : Value) (A : Around) (outer : List Env) (s : Shared) (H : Hp) (Q : VK) (E : XK), Room k (A.deeper (PyProof.Rows.envOfC qual scope s.heap.objs.size f cdv)) →
      ∃ ts as, DSs (cxOf (L2.CX P w) P w K mg base N qual scope f cdv A outer s H E) (fun cls d _ H' => E cls d H') body ts b as) :
    FnOk P w K mg base (L2.CX P w) (k + 1) f fd ps (spD K mg n (fnD n m b)) := by
  refine F.ok Sc (fun vs H Q E h => h.len.trans hn.symm) (fun cdv A outer s H vs Q E hr h => ?_)
  obtain ⟨t, as, d⟩ := hbody cdv A outer s H Q E hr
  exact ⟨t, d.ps, body_sem (W := fun _ _ _ _ => True) d.sm hm h⟩

end
end PL
set_option Elab.async false
set_option linter.all false
set_option maxRecDepth 100000
/-! PL5: operators, subscripts, built-in calls. -/
namespace PL
open PySem PySem.Spec L2

/-! ### forms of values -/
def T.asI : T → Option Int
  | .sh (.int i) => some i
  | _ => none
def T.lits : T → Option (List D)
  | .sh (.list ds) => some ds
  | .ol ds => some ds
  | _ => none
def T.tups : T → Option (List D)
  | .sh (.tuple ds) => some ds
  | _ => none
section
variable {K : PySem.W.Frag} {S H : Hp} {t : T} {v : V} {fp : List Addr}
theorem asI_rep {i : Int} (q : RepT K S H t v fp) (e : t.asI = some i) : v = .int i := by
  unfold T.asI at e
  split at e
  · cases e
    simp only [RepT, RepD] at q
    exact q.2
  · cases e
theorem lits_rep {ds : List D} (i : Same S H) (q : RepT K S H t v fp) (e : t.lits = some ds) : ∃ a vs, v = .ref a ∧ H a = some (.lst vs) ∧ RepDs S ds vs := by
  unfold T.lits at e
  split at e
  · cases e
    simp only [RepT, RepD] at q
    obtain ⟨_, a, vs, e1, h, r⟩ := q
    exact ⟨a, vs, e1, i _ _ h, r⟩
  · cases e
    simp only [RepT] at q
    obtain ⟨a, vs, e1, _, h, r⟩ := q
    exact ⟨a, vs, e1, h, r⟩
  · cases e
theorem tups_rep {ds : List D} (q : RepT K S H t v fp) (e : t.tups = some ds) : ∃ a vs, v = .ref a ∧ IsTp (S a) vs ∧ RepDs S ds vs := by
  unfold T.tups at e
  split at e
  · cases e
    simp only [RepT, RepD] at q
    exact q.2
  · cases e
theorem rep_sh {d : D} (q : RepT K S H (.sh d) v fp) : RepD S d v := by simp only [RepT] at q; exact q.2
theorem rep_d {d : D} (q : RepD S d v) : RepT K S H (.sh d) v [] := by simp only [RepT, true_and]; exact q
end
/-- a flat answer -/
theorem Ret.flat {K : PySem.W.Frag} {S H : Hp} {d : D} {v : V} {Q : VK} (i : Same S H) (r : Ret K S H (.sh d) Q) (q : ∀ S, RepD S d v) : Q v H :=
  r v S H [] (.refl i) (rep_d (q S)) .nil fun a ha => by cases ha
/-- shared data that stands -/
theorem Ret.old {K : PySem.W.Frag} {S H : Hp} {d : D} {v : V} {Q : VK} (i : Same S H) (r : Ret K S H (.sh d) Q) (q : RepD S d v) : Q v H :=
  r v S H [] (.refl i) (rep_d q) .nil fun a ha => by cases ha
/-- a new own list -/
theorem Ret.lst {K : PySem.W.Frag} {S H : Hp} {ds : List D} {vs : List V} {Q : VK} (i : Same S H) (r : Ret K S H (.ol ds) Q) (q : RepDs S ds vs) {p : Addr} (hp : H p = none) : Q (.ref p) (upd H p (.lst vs)) :=
  r (.ref p) S _ [p] (.own i hp) (by simp only [RepT]; exact ⟨p, vs, rfl, rfl, upd_same, q⟩) (by simp) fun a ha => by
    have e : a = p := by simpa using ha
    subst e
    exact ⟨i.free hp, hp⟩
/-- a new shared tuple -/
theorem Ret.tup {K : PySem.W.Frag} {S H : Hp} {ds : List D} {vs : List V} {Q : VK} (i : Same S H) (r : Ret K S H (.sh (.tuple ds)) Q) (q : RepDs S ds vs) : NewT H vs Q := fun p o hp hdn =>
  r (.ref p) (upd S p (.frz o (.tup vs))) _ [] (.shared i hp) (by
    simp only [RepT, RepD, true_and]
    exact ⟨p, vs, rfl, ⟨o, upd_same, hdn⟩, RepDs.mono (same_upd (i.free hp)) _ _ q⟩) .nil fun a ha => by cases ha

theorem SemOp.or {K : PySem.W.Frag} {r r' : R2} {f f' : T → T → Option T} (h : SemOp K r f) (h' : SemOp K r' f') : SemOp K (fun x y H Q => r x y H Q ∨ r' x y H Q) (fun x y => (f x y).or (f' x y)) :=
  fun S H x y vx vy fx fy Q t i qx qy e R => by
    have e : (f x y).or (f' x y) = some t := e
    cases e1 : f x y with
    | some z =>
      rw [e1] at e
      exact .inl (h S H x y vx vy fx fy Q t i qx qy (e1.trans (by simpa using e)) R)
    | none =>
      rw [e1] at e
      exact .inr (h' S H x y vx vy fx fy Q t i qx qy (by simpa using e) R)

/-! ### ints -/
def f2I (g : Int → Int → Option D) (x y : T) : Option T := match x, y with
  | .sh (.int i), .sh (.int j) => (g i j).map .sh
  | _, _ => none
theorem sem_I0 {K : PySem.W.Frag} {g : Int → Int → Int} : SemOp K (rI0 fun i j => .int (g i j)) (f2I fun i j => some (.int (g i j))) := by
  intro S H x y vx vy fx fy Q t i qx qy e R
  unfold f2I at e
  split at e
  · rename_i a b
    cases e
    exact ⟨a, b, by have := rep_sh qx; simpa only [RepD] using this, by have := rep_sh qy; simpa only [RepD] using this, R.flat i fun _ => by simp only [RepD]⟩
  · cases e
theorem sem_B0 {K : PySem.W.Frag} {g : Int → Int → Bool} : SemOp K (rI0 fun i j => .bl (g i j)) (f2I fun i j => some (.bool (g i j))) := by
  intro S H x y vx vy fx fy Q t i qx qy e R
  unfold f2I at e
  split at e
  · rename_i a b
    cases e
    exact ⟨a, b, by have := rep_sh qx; simpa only [RepD] using this, by have := rep_sh qy; simpa only [RepD] using this, R.flat i fun _ => by simp only [RepD]⟩
  · cases e
theorem sem_I {K : PySem.W.Frag} {C : Int → Int → Prop} {g : Int → Int → Int} {c : Int → Int → Bool} (hc : ∀ i j, c i j = true → C i j) : SemOp K (rI C fun i j => .int (g i j)) (f2I fun i j => if c i j then some (.int (g i j)) else none) := by
  intro S H x y vx vy fx fy Q t i qx qy e R
  unfold f2I at e
  split at e
  · rename_i a b
    have e : Option.map T.sh (if c a b = true then some (PyData.int (g a b)) else none) = some t := e
    by_cases h : c a b = true
    · rw [if_pos h] at e
      cases e
      exact ⟨a, b, by have := rep_sh qx; simpa only [RepD] using this, by have := rep_sh qy; simpa only [RepD] using this, hc _ _ h, R.flat i fun _ => by simp only [RepD]⟩
    · rw [if_neg h] at e
      cases e
  · cases e
/-! str + str, list + list, tuple + tuple -/
def fStrAdd (x y : T) : Option T := match x, y with
  | .sh (.str i), .sh (.str j) => if i.length + j.length ≤ sizeLine then some (.sh (.str (i ++ j))) else none
  | _, _ => none
theorem sem_strAdd {K : PySem.W.Frag} : SemOp K (fun x y H Q => ∃ i j, x = .str i ∧ y = .str j ∧ i.length + j.length ≤ sizeLine ∧ Q (.str (i ++ j)) H) fStrAdd := by
  intro S H x y vx vy fx fy Q t i qx qy e R
  unfold fStrAdd at e
  split at e
  · rename_i a b
    split at e
    · rename_i h
      cases e
      exact ⟨a, b, by have := rep_sh qx; simpa only [RepD] using this, by have := rep_sh qy; simpa only [RepD] using this, h, R.flat i fun _ => by simp only [RepD]⟩
    · cases e
  · cases e
def fCat (x y : T) : Option T := match x.lits, y.lits with
  | some a, some b => if a.length + b.length ≤ sizeLine then some (.ol (a ++ b)) else none
  | _, _ => none
theorem sem_cat {K : PySem.W.Frag} : SemOp K rCat fCat := by
  intro S H x y vx vy fx fy Q t i qx qy e R
  unfold fCat at e
  split at e
  · rename_i a b ea eb
    split at e
    · rename_i h
      cases e
      obtain ⟨p, vs, rfl, hp, r1⟩ := lits_rep i qx ea
      obtain ⟨q, ws, rfl, hq, r2⟩ := lits_rep i qy eb
      exact ⟨p, q, vs, ws, rfl, rfl, hp, hq, by rw [r1.length, r2.length]; exact h, fun z hz => R.lst i (r1.app r2) hz⟩
    · cases e
  · cases e
def fCatT (x y : T) : Option T := match x.tups, y.tups with
  | some a, some b => if a.length + b.length ≤ sizeLine then some (.sh (.tuple (a ++ b))) else none
  | _, _ => none
theorem nil_of_len {α : Type} {l : List α} (h : l.length = 0) : l = [] := by cases l with | nil => rfl | cons _ _ => cases h
theorem sem_catT {K : PySem.W.Frag} : SemOp K (rCatF K) fCatT := by
  intro S H x y vx vy fx fy Q t i qx qy e R
  unfold fCatT at e
  split at e
  · rename_i a b ea eb
    split at e
    · rename_i h
      cases e
      obtain ⟨p, vs, rfl, hp, r1⟩ := tups_rep qx ea
      obtain ⟨q, ws, rfl, hq, r2⟩ := tups_rep qy eb
      refine ⟨p, q, vs, ws, rfl, rfl, (hp.same (i _)).sq, (hq.same (i _)).sq, by rw [r1.length, r2.length]; exact h, fun z => ?_, fun _ z => ?_, fun _ _ => R.tup i (r1.app r2)⟩
      · have : a = [] := nil_of_len (by rw [← r1.length, z]; rfl)
        subst this
        exact R.old i (by simp only [RepD]; exact ⟨q, ws, rfl, hq, r2⟩)
      · have : b = [] := nil_of_len (by rw [← r2.length, z]; rfl)
        subst this
        rw [List.append_nil] at R
        exact R.old i (by simp only [RepD]; exact ⟨p, vs, rfl, hp, r1⟩)
    · cases e
  · cases e
def fAdd (x y : T) : Option T := (f2I (fun i j => some (.int (i + j))) x y).or ((fStrAdd x y).or ((fCat x y).or (fCatT x y)))
abbrev rI' (g : Int → Int → Int) : R2 := rI0 fun i j => .int (g i j)
abbrev rB' (g : Int → Int → Bool) : R2 := rI0 fun i j => .bl (g i j)
abbrev orR (r r' : R2) : R2 := fun x y H Q => r x y H Q ∨ r' x y H Q
abbrev rStrAdd : R2 := fun x y H Q => ∃ i j, x = .str i ∧ y = .str j ∧ i.length + j.length ≤ sizeLine ∧ Q (.str (i ++ j)) H
def rPlus (K : PySem.W.Frag) : R2 := orR (rI' fun i j => i + j) (orR rStrAdd (orR rCat (rCatF K)))
theorem sem_add {K : PySem.W.Frag} : SemOp K (rPlus K) fAdd := sem_I0.or (sem_strAdd.or (sem_cat.or (sem_catT (K := K))))
theorem op_plus {X : Cx} : OpR X (binaryOp .Add) (rPlus X.K) := op_add.or (op_add_str.or (op_cat.or op_catF))
def fSub (x y : T) : Option T := f2I (fun i j => some (.int (i - j))) x y
/-- list * int -/
def fRep (x y : T) : Option T := match x.lits, y with
  | some a, .sh (.int k) => if -(2 ^ 63) ≤ k ∧ k < 2 ^ 63 ∧ a.length * k.toNat ≤ sizeLine then some (.ol (List.replicate k.toNat a).flatten) else none
  | _, _ => none
theorem RepDs.rep {S : Hp} {ds : List D} {vs : List V} (q : RepDs S ds vs) : ∀ n : Nat, RepDs S (List.replicate n ds).flatten (List.replicate n vs).flatten
  | 0 => .nil
  | n + 1 => by
    rw [List.replicate_succ, List.replicate_succ, List.flatten_cons, List.flatten_cons]
    exact q.app (RepDs.rep q n)
theorem sem_rep {K : PySem.W.Frag} : SemOp K rRep fRep := by
  intro S H x y vx vy fx fy Q t i qx qy e R
  unfold fRep at e
  split at e
  · rename_i a k ea
    split at e
    · rename_i h
      cases e
      obtain ⟨p, vs, rfl, hp, r1⟩ := lits_rep i qx ea
      exact ⟨p, k, vs, rfl, by have := rep_sh qy; simpa only [RepD] using this, hp, h.1, h.2.1, by rw [r1.length]; exact h.2.2, fun z hz => R.lst i (r1.rep _) hz⟩
    · cases e
  · cases e
def bits (i : Int) : Nat := i.natAbs.log2
abbrev CMulB (i j : Int) : Prop := CMul i j ∨ CMulW i j
def cMul (i j : Int) : Bool := decide (((-(2 ^ 64) < i ∧ i < 2 ^ 64) ∨ (-(2 ^ 64) < j ∧ j < 2 ^ 64)) ∨ i.natAbs.log2 + j.natAbs.log2 < 1000000)
theorem cMul_s {i j : Int} (h : (-(2 ^ 64) < i ∧ i < 2 ^ 64) ∨ (-(2 ^ 64) < j ∧ j < 2 ^ 64)) : cMul i j = true := decide_eq_true (.inl h)
/-- text * int -/
def fRepS (x y : T) : Option T := match x, y with
  | .sh (.str s), .sh (.int k) => if 0 ≤ k ∧ k ≤ 1000 ∧ s.length ≤ 1000 then some (.sh (.str (Txt.mul s k))) else none
  | _, _ => none
def rRepS : R2 := fun x y H Q => ∃ s k, x = .str s ∧ y = .int k ∧ 0 ≤ k ∧ k ≤ 1000 ∧ s.length ≤ 1000 ∧ Q (.str (Txt.mul s k)) H
theorem mul_okS {s : Str} {k : Int} (h0 : 0 ≤ k) (h1 : k ≤ 1000) (h2 : s.length ≤ 1000) : MulOk s k := by
  refine ⟨?_, fun hk _ hz => ?_, fun hk _ => ?_⟩
  · rw [decide_eq_false (by omega), decide_eq_false (by omega)]; rfl
  · have hn : (0 : Int) < k := by omega
    have : (s.length : Int) * k ≤ 1000 * 1000 := Int.mul_le_mul (by omega) h1 h0 (by decide)
    have := (Int.le_ediv_iff_mul_le (c := k) (b := 2 ^ 63 - 1) (a := s.length) hn).mpr (by omega)
    omega
  · have : s.length * k.toNat ≤ 1000 * 1000 := Nat.mul_le_mul h2 (by omega)
    have z : 1000 * 1000 ≤ sizeLine := by decide
    exact decide_eq_false (Nat.not_lt.mpr (Nat.le_trans this z))
theorem op_repS {X : Cx} : OpR X (binaryOp .Mult) rRepS := by
  intro pins s σ H x y v u Q I rx ry h
  obtain ⟨i, k, rfl, rfl, h0, h1, h2, q⟩ := h
  obtain ⟨t, rfl⟩ := rx
  obtain ⟨u, rfl⟩ := ry
  exact SB.mul (mul_okS h0 h1 h2) fun t' tk => ⟨.str _, H, I.tok _, ⟨_, rfl⟩, q⟩
theorem sem_repS {K : PySem.W.Frag} : SemOp K rRepS fRepS := by
  intro S H x y vx vy fx fy Q t i qx qy e R
  unfold fRepS at e
  split at e
  · rename_i a k
    split at e
    · rename_i h
      cases e
      have h1 := rep_sh qx
      have h2 := rep_sh qy
      simp only [RepD] at h1 h2
      exact ⟨a, k, h1, h2, h.1, h.2.1, h.2.2, R.flat i fun _ => by simp only [RepD]⟩
    · cases e
  · cases e
def fMul (x y : T) : Option T := (f2I (fun i j => if cMul i j then some (.int (i * j)) else none) x y).or ((fRep x y).or (fRepS x y))
def rTimes : R2 := orR (rI CMulB fun i j => .int (i * j)) (orR rRep rRepS)
theorem op_mulB {X : Cx} : OpR X (binaryOp .Mult) (rI CMulB fun i j => .int (i * j)) := by
  intro pins s σ H x y v u Q I rx ry h
  obtain ⟨i, j, hx, hy, hc, q⟩ := h
  rcases hc with hc | hc
  · exact op_mul pins s σ H x y v u Q I rx ry ⟨i, j, hx, hy, hc, q⟩
  · exact op_mulW pins s σ H x y v u Q I rx ry ⟨i, j, hx, hy, hc, q⟩
theorem sem_mul {K : PySem.W.Frag} : SemOp K rTimes fMul := (sem_I (C := CMulB) (g := fun i j => i * j) (c := cMul) (fun i j h => by have q := decide_eq_true_iff.mp (show decide _ = true from h); exact q)).or (sem_rep.or (sem_repS (K := K)))
theorem op_times {X : Cx} : OpR X (binaryOp .Mult) rTimes := op_mulB.or (op_rep.or op_repS)
def cDiv (i j : Int) : Bool := decide (0 < j ∧ j.natAbs.log2 < 9000)
def fDiv (x y : T) : Option T := f2I (fun i j => if cDiv i j then some (.int (i / j)) else none) x y
theorem sem_div {K : PySem.W.Frag} : SemOp K (rI CDivW fun i j => .int (i / j)) fDiv := sem_I (C := CDivW) (g := fun i j => i / j) (c := cDiv) fun i j h => by have q := decide_eq_true_iff.mp (show decide _ = true from h); exact q
def fMod (x y : T) : Option T := f2I (fun i j => if decide (0 < j) then some (.int (i % j)) else none) x y
theorem sem_mod {K : PySem.W.Frag} : SemOp K (rI (fun _ j => 0 < j) fun i j => .int (i % j)) fMod := sem_I (C := fun _ j => 0 < j) (g := fun i j => i % j) (c := fun _ j => decide (0 < j)) fun i j h => by have q := decide_eq_true_iff.mp (show decide _ = true from h); exact q
def cPow (i j : Int) : Bool := decide (0 ≤ j ∧ j ≤ 1000000 ∧ i.natAbs < 2 ^ 64)
def fPow (x y : T) : Option T := f2I (fun i j => if cPow i j then some (.int (i ^ j.toNat)) else none) x y
theorem sem_pow {K : PySem.W.Frag} : SemOp K (rI CPow fun i j => .int (i ^ j.toNat)) fPow := sem_I (C := CPow) (g := fun i j => i ^ j.toNat) (c := cPow) fun i j h => by have q := decide_eq_true_iff.mp (show decide _ = true from h); exact q
def fShl (x y : T) : Option T := f2I (fun i j => if cPow i j then some (.int (i * 2 ^ j.toNat)) else none) x y
theorem sem_shl {K : PySem.W.Frag} : SemOp K (rI CPow fun i j => .int (i * 2 ^ j.toNat)) fShl := sem_I (C := CPow) (g := fun i j => i * 2 ^ j.toNat) (c := cPow) fun i j h => by have q := decide_eq_true_iff.mp (show decide _ = true from h); exact q
def fShr (x y : T) : Option T := f2I (fun i j => if decide (0 ≤ j) then some (.int (i / 2 ^ j.toNat)) else none) x y
theorem sem_shr {K : PySem.W.Frag} : SemOp K (rI (fun _ j => 0 ≤ j) fun i j => .int (i / 2 ^ j.toNat)) fShr := sem_I (C := fun _ j => 0 ≤ j) (g := fun i j => i / 2 ^ j.toNat) (c := fun _ j => decide (0 ≤ j)) fun i j h => by have q := decide_eq_true_iff.mp (show decide _ = true from h); exact q
def fAnd (x y : T) : Option T := f2I (fun i j => some (.int (Builtin.bitAnd i j))) x y
def fLtI (x y : T) : Option T := f2I (fun i j => some (.bool (decide (i < j)))) x y
def fLeI (x y : T) : Option T := f2I (fun i j => some (.bool (decide (i ≤ j)))) x y
def fGtI (x y : T) : Option T := f2I (fun i j => some (.bool (decide (j < i)))) x y
def fGeI (x y : T) : Option T := f2I (fun i j => some (.bool (decide (j ≤ i)))) x y

/-! ### ==, != -/
theorem dp_of {K : PySem.W.Frag} {H : Hp} : ∀ (d : D) (v : V), d.canLay0 = true → RepD H d v → Dp K H v d
  | .none, v, _, q => by simp only [RepD] at q; subst q; exact .non
  | .bool b, v, _, q => by simp only [RepD] at q; subst q; exact .bl b
  | .int b, v, _, q => by simp only [RepD] at q; subst q; exact .int b
  | .str b, v, _, q => by simp only [RepD] at q; subst q; exact .str b
  | .list ds, v, c, q => by
    simp only [RepD] at q
    obtain ⟨a, vs, rfl, h, r⟩ := q
    exact .lst (.of h) (go ds vs (by simpa only [PyData.canLay0] using c) r)
  | .tuple ds, v, c, q => by
    simp only [RepD] at q
    obtain ⟨a, vs, rfl, h, r⟩ := q
    exact .tup h.sq (go ds vs (by simpa only [PyData.canLay0] using c) r)
  | .dict _, v, c, q => by simp [PyData.canLay0] at c
where go : ∀ (ds : List D) (vs : List V), PyData.canLayAll0 ds = true → RepDs H ds vs → DpAll K H vs ds
  | [], vs, _, q => by simp only [RepDs] at q; subst q; exact .nil
  | d :: ds, vs, c, q => by
    simp only [PyData.canLayAll0, Bool.and_eq_true] at c
    simp only [RepDs] at q
    obtain ⟨v, r, rfl, q1, q2⟩ := q
    exact .cons (dp_of d v c.1 q1) (go ds r c.2 q2)
theorem dp_t {K : PySem.W.Frag} {S H : Hp} {t : T} {v : V} {fp : List Addr} (i : Same S H) (n : t.noScr = true) (c : SeqAt.shaped t.er = true) (q : RepT K S H t v fp) : Dp K H v t.er :=
  dp_of _ _ (SeqAt.canLay_of_shaped c) (RepT.share i t v fp n (fun _ _ _ e => e) q)
def eqD (a b : D) : Bool := PyData.eqv a b
/-- flat ones are told apart by themselves -/
def fEqF (x y : T) : Option T := match x, y with
  | .sh (.int i), .sh (.int j) => some (.sh (.bool (decide (i = j))))
  | .sh (.bool i), .sh (.bool j) => some (.sh (.bool (decide (i = j))))
  | .sh (.str i), .sh (.str j) => some (.sh (.bool (decide (i = j))))
  | .sh .none, .sh .none => some (.sh (.bool true))
  | .sh .none, .sh (.int _) => some (.sh (.bool false))
  | .sh (.int _), .sh .none => some (.sh (.bool false))
  | _, _ => none
def fEqG (x y : T) : Option T := if (x.noScr && y.noScr && SeqAt.shaped x.er && SeqAt.shaped y.er) then some (.sh (.bool (eqD x.er y.er))) else none
def fEq (x y : T) : Option T := (fEqF x y).or (fEqG x y)
def fNot (o : Option T) : Option T := match o with
  | some (.sh (.bool b)) => some (.sh (.bool (!b)))
  | _ => none
def fNe (x y : T) : Option T := fNot (fEq x y)
theorem sem_eqF {K : PySem.W.Frag} : SemOp K rEq fEqF := by
  intro S H x y vx vy fx fy Q t i qx qy e R
  unfold fEqF at e
  split at e <;> first | (cases e; done) | skip
  all_goals
    (cases e
     have q1 := rep_sh qx
     have q2 := rep_sh qy
     simp only [RepD] at q1 q2
     subst q1
     subst q2
     refine ⟨rfl, ?_⟩)
  · rename_i a b
    have : decide (V.int a = V.int b) = decide (a = b) := by simp
    rw [this]; exact R.flat i fun _ => by simp only [RepD]
  · rename_i a b
    have : decide (V.bl a = V.bl b) = decide (a = b) := by simp
    rw [this]; exact R.flat i fun _ => by simp only [RepD]
  · rename_i a b
    have : decide (V.str a = V.str b) = decide (a = b) := by simp
    rw [this]; exact R.flat i fun _ => by simp only [RepD]
  · exact R.flat i fun _ => by simp only [RepD]; decide
  · exact R.flat i fun _ => by simp only [RepD]; simp
  · exact R.flat i fun _ => by simp only [RepD]; simp
theorem sem_eqG {K : PySem.W.Frag} : SemOp K (rEqD K) fEqG := by
  intro S H x y vx vy fx fy Q t i qx qy e R
  unfold fEqG at e
  split at e
  · rename_i h
    simp only [Bool.and_eq_true] at h
    obtain ⟨⟨⟨h1, h2⟩, h3⟩, h4⟩ := h
    cases e
    exact ⟨x.er, y.er, dp_t i h1 h3 qx, dp_t i h2 h4 qy, h3, h4, R.flat i fun _ => by simp only [RepD, eqD]⟩
  · cases e
abbrev rEqs (K : PySem.W.Frag) : R2 := orR rEq (rEqD K)
abbrev rNes (K : PySem.W.Frag) : R2 := orR rNe (rNeD K)
theorem sem_eq {K : PySem.W.Frag} : SemOp K (rEqs K) fEq := sem_eqF.or (sem_eqG (K := K))
theorem op_eqs {X : Cx} (hu : X.A.units + 64 < cLine) : OpR X (compareOp .Eq) (rEqs X.K) := op_eq.or (op_eqD hu)
/-- != is the other answer of == -/
theorem sem_ne {K : PySem.W.Frag} : SemOp K (rNes K) fNe := by
  intro S H x y vx vy fx fy Q t i qx qy e R
  unfold fNe at e
  cases ee : fEq x y with
  | none => rw [ee] at e; cases e
  | some z =>
    rw [ee] at e
    have ⟨b, hb⟩ : ∃ b, z = .sh (.bool b) := by
      unfold fNot at e
      split at e
      · rename_i z' b hz
        cases hz
        exact ⟨b, rfl⟩
      · cases e
    subst hb
    have e : some (T.sh (.bool (!b))) = some t := e
    cases e
    have fin : ∀ c, c = b → Q (.bl (!c)) H := fun c hc => by subst hc; exact R.flat i fun _ => by simp only [RepD]
    have h2 := sem_eq (K := K) S H x y vx vy fx fy (fun v H' => v = .bl b) (.sh (.bool b)) i qx qy ee (fun v S' H' fp g q _ _ => by
      have := rep_sh q
      simpa only [RepD] using this)
    rcases h2 with ⟨h1, h2⟩ | ⟨d, e', h1, h2, h3, h4, h5⟩
    · refine .inl ⟨h1, fin _ ?_⟩
      exact V.bl.inj h2
    · exact .inr ⟨d, e', h1, h2, h3, h4, fin _ (V.bl.inj h5)⟩
theorem op_nes {X : Cx} (hu : X.A.units + 64 < cLine) : OpR X (compareOp .NotEq) (rNes X.K) := op_ne.or (op_neD hu)
/-! is None -/
def T.isN : T → Bool
  | .sh .none => true
  | _ => false
def fIsN (x y : T) : Option T := match y with
  | .sh .none => some (.sh (.bool x.isN))
  | _ => none
def fNotN (x y : T) : Option T := match y with
  | .sh .none => some (.sh (.bool (!x.isN)))
  | _ => none
theorem isN_rep {K : PySem.W.Frag} {S H : Hp} {t : T} {v : V} {fp : List Addr} (q : RepT K S H t v fp) : decide (v = .non) = t.isN := by
  cases t with
  | sh d =>
    have q := rep_sh q
    cases d <;> simp only [RepD] at q
    · subst q; rfl
    · subst q; rfl
    · subst q; rfl
    · subst q; rfl
    · obtain ⟨a, vs, rfl, _⟩ := q; rfl
    · obtain ⟨a, vs, rfl, _⟩ := q; rfl
    · obtain ⟨a, vs, rfl, _⟩ := q; rfl
  | scr ns => simp only [RepT] at q; obtain ⟨_, a, rfl, _⟩ := q; rfl
  | ol ds => simp only [RepT] at q; obtain ⟨a, vs, rfl, _⟩ := q; rfl
  | od ds => simp only [RepT] at q; obtain ⟨a, vs, rfl, _⟩ := q; rfl
  | ot ds => simp only [RepT] at q; obtain ⟨a, vs, f, rfl, _⟩ := q; rfl
  | tu ds => simp only [RepT] at q; obtain ⟨a, vs, f, rfl, _⟩ := q; rfl
  | rg _ _ => simp only [RepT] at q; obtain ⟨_, a, rfl, _⟩ := q; rfl
theorem sem_isN {K : PySem.W.Frag} : SemOp K (fun x y H Q => y = .non ∧ Q (.bl (decide (x = .non))) H) fIsN := by
  intro S H x y vx vy fx fy Q t i qx qy e R
  unfold fIsN at e
  split at e
  · cases e
    refine ⟨by have := rep_sh qy; simpa only [RepD] using this, ?_⟩
    rw [isN_rep qx]
    exact R.flat i fun _ => by simp only [RepD]
  · cases e
theorem sem_notN {K : PySem.W.Frag} : SemOp K (fun x y H Q => y = .non ∧ Q (.bl (!decide (x = .non))) H) fNotN := by
  intro S H x y vx vy fx fy Q t i qx qy e R
  unfold fNotN at e
  split at e
  · cases e
    refine ⟨by have := rep_sh qy; simpa only [RepD] using this, ?_⟩
    rw [isN_rep qx]
    exact R.flat i fun _ => by simp only [RepD]
  · cases e

/-! ### in -/
theorem eqV_rep {S : Hp} {d e : D} {v w : V} (fd : flatD d = true) (fe : flatD e = true) (q : RepD S d v) (r : RepD S e w) : eqV v w = PyData.eqv d e ∧ flatV v = true ∧ flatV w = true := by
  cases d <;> simp only [flatD, Bool.false_eq_true] at fd <;> cases e <;> simp only [flatD, Bool.false_eq_true] at fe <;> (simp only [RepD] at q r; subst q; subst r; simp [eqV, PyData.eqv, flatV])
theorem inV_rep {S : Hp} {e : D} {w : V} (fe : flatD e = true) (r : RepD S e w) : ∀ {ds : List D} {vs : List V}, ds.all flatD = true → RepDs S ds vs → inV w vs = ds.any (fun z => PyData.eqv z e) ∧ vs.all flatV = true
  | [], _, _, q => by simp only [RepDs] at q; subst q; exact ⟨rfl, rfl⟩
  | d :: ds, _, f, q => by
    rw [List.all_cons, Bool.and_eq_true] at f
    simp only [RepDs] at q
    obtain ⟨v, vs, rfl, q1, q2⟩ := q
    obtain ⟨h1, h2⟩ := inV_rep fe r f.2 q2
    obtain ⟨h3, h4, _⟩ := eqV_rep f.1 fe q1 r
    constructor
    · show (eqV v w || inV w vs) = _
      rw [h1, h3, List.any_cons]
    · rw [List.all_cons, h2, h4]; rfl
theorem flatW {S : Hp} {e : D} {w : V} (fe : flatD e = true) (r : RepD S e w) : flatV w = true := by
  cases e <;> simp only [flatD, Bool.false_eq_true] at fe <;> (simp only [RepD] at r; subst r; rfl)
def T.seqs (t : T) : Option (List D) := t.lits.or t.tups
theorem seqs_rep {K : PySem.W.Frag} {S H : Hp} {t : T} {v : V} {fp : List Addr} {ds : List D} (i : Same S H) (q : RepT K S H t v fp) (e : t.seqs = some ds) : ∃ a vs, v = .ref a ∧ (SqL K H a vs ∨ SqT K H a vs) ∧ RepDs S ds vs := by
  unfold T.seqs at e
  cases e1 : t.lits with
  | some es =>
    rw [e1] at e
    cases e
    obtain ⟨a, vs, e2, h, r⟩ := lits_rep i q e1
    exact ⟨a, vs, e2, .inl (.of h), r⟩
  | none =>
    rw [e1] at e
    obtain ⟨a, vs, e2, h, r⟩ := tups_rep q (by simpa using e)
    exact ⟨a, vs, e2, .inr (h.same (i _)).sq, r⟩
def fInF (neg : Bool) (x y : T) : Option T := match x, y.seqs with
  | .sh d, some ds => if (flatD d && ds.all flatD) then some (.sh (.bool (if neg then !(ds.any fun z => eqD z d) else ds.any fun z => eqD z d))) else none
  | _, _ => none
theorem sem_inF {K : PySem.W.Frag} (neg : Bool) : SemOp K (rIn K neg) (fInF neg) := by
  intro S H x y vx vy fx fy Q t i qx qy e R
  unfold fInF at e
  split at e
  · rename_i d ds es
    split at e
    · rename_i h
      rw [Bool.and_eq_true] at h
      cases e
      obtain ⟨a, vs, rfl, sq, r⟩ := seqs_rep i qy es
      have qd := rep_sh qx
      obtain ⟨h1, h2⟩ := inV_rep h.1 qd h.2 r
      refine ⟨a, vs, rfl, sq, flatW h.1 qd, h2, ?_⟩
      rw [h1]
      exact R.flat i fun _ => by simp only [RepD, eqD]
    · cases e
  · cases e
def fInG (neg : Bool) (x y : T) : Option T := match y.lits with
  | some ds => if (x.noScr && SeqAt.shaped x.er && SeqAt.shaped (.list ds)) then some (.sh (.bool (if neg then !(ds.any fun z => eqD z x.er) else ds.any fun z => eqD z x.er))) else none
  | none => none
theorem sem_inG {K : PySem.W.Frag} : SemOp K (rInD K) (fInG false) := by
  intro S H x y vx vy fx fy Q t i qx qy e R
  unfold fInG at e
  split at e
  · rename_i ds es
    split at e
    · rename_i h
      simp only [Bool.and_eq_true] at h
      obtain ⟨⟨h1, h2⟩, h3⟩ := h
      cases e
      obtain ⟨a, vs, rfl, hp, r⟩ := lits_rep i qy es
      refine ⟨x.er, ds, dp_t i h1 h2 qx, dp_of _ _ (SeqAt.canLay_of_shaped h3) ?_, h2, h3, R.flat i fun _ => by simp only [RepD, eqD]; rfl⟩
      simp only [RepD]
      exact ⟨a, vs, rfl, hp, RepDs.mono i _ _ r⟩
    · cases e
  · cases e
theorem sem_ninG {K : PySem.W.Frag} : SemOp K (rNotInD K) (fInG true) := by
  intro S H x y vx vy fx fy Q t i qx qy e R
  unfold fInG at e
  split at e
  · rename_i ds es
    split at e
    · rename_i h
      simp only [Bool.and_eq_true] at h
      obtain ⟨⟨h1, h2⟩, h3⟩ := h
      cases e
      obtain ⟨a, vs, rfl, hp, r⟩ := lits_rep i qy es
      refine ⟨x.er, ds, dp_t i h1 h2 qx, dp_of _ _ (SeqAt.canLay_of_shaped h3) ?_, h2, h3, R.flat i fun _ => by simp only [RepD, eqD]; rfl⟩
      simp only [RepD]
      exact ⟨a, vs, rfl, hp, RepDs.mono i _ _ r⟩
    · cases e
  · cases e
end PL
set_option Elab.async false
set_option linter.all false
set_option maxRecDepth 100000
/-! PL6: subscripts, slices, built-in calls. -/
namespace PL
open PySem PySem.Spec L2

/-! ### subscripts: views -/
def SemOpV (K : PySem.W.Frag) (r : R2) (f : T → T → Option T) : Prop :=
  ∀ S H x y vx vy fx fy Q t, Same S H → RepT K S H x vx fx → RepT K S H y vy fy → f x y = some t → (∀ v fp, RepT K S H t v fp → Q v H) → r vx vy H Q
theorem SemOpV.or {K : PySem.W.Frag} {r r' : R2} {f f' : T → T → Option T} (h : SemOpV K r f) (h' : SemOpV K r' f') : SemOpV K (orR r r') (fun x y => (f x y).or (f' x y)) :=
  fun S H x y vx vy fx fy Q t i qx qy e R => by
    have e : (f x y).or (f' x y) = some t := e
    cases e1 : f x y with
    | some z =>
      rw [e1] at e
      exact .inl (h S H x y vx vy fx fy Q t i qx qy (e1.trans (by simpa using e)) R)
    | none =>
      rw [e1] at e
      exact .inr (h' S H x y vx vy fx fy Q t i qx qy (by simpa using e) R)
section
variable {X : Cx} {W : WX} {a b : Expr} {ta tb : TE} {ea eb : En → Rs T} {pos : Pos} {r : R2} {f : T → T → Option T}
theorem sem_binV {K : PySem.W.Frag} {mg : Str → Option Value} (hs : SemOpV K r f) (ha : SemV K mg W ta ea) (hb : SemV K mg W tb eb) : SemV K mg W (tOp r ta tb) (evBin f ea eb) := by
  intro E S φ ρ σ H Q I h
  refine ha E S φ ρ σ H _ I (h.bind.imp (fun x hx vx S1 H1 fx g1 qx => ?_) fun _ z => z)
  refine hb E S1 φ ρ σ H1 _ (I.grow g1) (hx.bind.imp (fun y hy vy S2 H2 fy g2 qy => ?_) fun _ z S' H' g => z S' H' (g1.trans g))
  have g := g1.trans g2
  obtain ⟨t, e, ht⟩ := hy.rsO
  exact hs S2 H2 x y vx vy fx fy Q t g2.i (qx.grow g2.s g2.h) qy e fun v fp q => ht v S2 H2 fp g q
end
theorem atI_rep {S : Hp} {ds : List D} {vs : List V} {k : Int} {d : D} (r : RepDs S ds vs) (e : atI ds k = some d) : ∃ v, atI vs k = some v ∧ RepD S d v := by
  unfold atI at e ⊢
  rw [r.length]
  cases h : ixN ds.length k with
  | none => rw [h] at e; cases e
  | some j =>
    rw [h] at e
    exact r.get e
theorem RepTs.get {K : PySem.W.Frag} {S H : Hp} : ∀ {ts : List T} {vs : List V} {fp : List Addr} {i : Nat} {t : T}, RepTs K S H ts vs fp → ts[i]? = some t → ∃ v f, vs[i]? = some v ∧ RepT K S H t v f
  | [], _, _, i, t, q, e => by simp at e
  | c :: ts, _, _, i, t, q, e => by
    simp only [RepTs] at q
    obtain ⟨v, r, f, g, rfl, _, q1, q2⟩ := q
    cases i with
    | zero => simp at e; subst e; exact ⟨v, f, rfl, q1⟩
    | succ i => exact RepTs.get (i := i) q2 (by simpa using e)
theorem atI_repT {K : PySem.W.Frag} {S H : Hp} {ts : List T} {vs : List V} {fp : List Addr} {k : Int} {t : T} (r : RepTs K S H ts vs fp) (e : atI ts k = some t) : ∃ v f, atI vs k = some v ∧ RepT K S H t v f := by
  unfold atI at e ⊢
  rw [r.length]
  cases h : ixN ts.length k with
  | none => rw [h] at e; cases e
  | some j =>
    rw [h] at e
    exact r.get e
theorem atI_map {α β : Type} (f : α → β) (xs : List α) (k : Int) : atI (xs.map f) k = (atI xs k).map f := by
  unfold atI
  rw [List.length_map]
  cases ixN xs.length k with
  | none => rfl
  | some j => simp
def fIx (x y : T) : Option T := match y with
  | .sh (.int k) => (match x with
    | .sh (.list ds) => (atI ds k).map .sh
    | .sh (.tuple ds) => (atI ds k).map .sh
    | .ol ds => (atI ds k).map .sh
    | .ot ts => atI ts k
    | .tu ts => atI ts k
    | .scr ns => (atI ns k).map fun n => .sh (.int n)
    | .sh (.str z) => if z.length ≤ sizeLine then (atI z.cps.toList k).map fun c => .sh (.str ⟨#[c]⟩) else none
    | _ => none)
  | _ => none
theorem omap {α β : Type} {o : Option α} {f : α → β} {b : β} (h : o.map f = some b) : ∃ a, o = some a ∧ f a = b := by
  cases o with
  | none => cases h
  | some a => exact ⟨a, rfl, Option.some.inj h⟩
theorem sem_ix {K : PySem.W.Frag} : SemOpV K (rIx K) fIx := by
  intro S H x y vx vy fx fy Q t i qx qy e R
  unfold fIx at e
  split at e
  · rename_i k
    have qk : vy = .int k := by have := rep_sh qy; simpa only [RepD] using this
    subst qk
    split at e
    · rename_i ds
      obtain ⟨d, e1, rfl⟩ := omap e
      have q := rep_sh qx
      simp only [RepD] at q
      obtain ⟨a, vs, rfl, ha, r⟩ := q
      obtain ⟨v, e2, q⟩ := atI_rep r e1
      exact .inl ⟨a, vs, k, v, rfl, rfl, .of (i _ _ ha), e2, R v [] (rep_d q)⟩
    · rename_i ds
      obtain ⟨d, e1, rfl⟩ := omap e
      have q := rep_sh qx
      simp only [RepD] at q
      obtain ⟨a, vs, rfl, ha, r⟩ := q
      obtain ⟨v, e2, q⟩ := atI_rep r e1
      exact .inr (.inl ⟨a, vs, k, v, rfl, rfl, (ha.same (i _)).sq, e2, R v [] (rep_d q)⟩)
    · rename_i ds
      obtain ⟨d, e1, rfl⟩ := omap e
      simp only [RepT] at qx
      obtain ⟨a, vs, rfl, _, ha, r⟩ := qx
      obtain ⟨v, e2, q⟩ := atI_rep r e1
      exact .inl ⟨a, vs, k, v, rfl, rfl, .of ha, e2, R v [] (rep_d q)⟩
    · rename_i ts
      simp only [RepT] at qx
      obtain ⟨a, vs, f, rfl, _, ha, r⟩ := qx
      obtain ⟨v, f', e2, q⟩ := atI_repT r e
      exact .inl ⟨a, vs, k, v, rfl, rfl, .of ha, e2, R v f' q⟩
    · rename_i ts
      simp only [RepT] at qx
      obtain ⟨a, vs, f, rfl, _, ha, r⟩ := qx
      obtain ⟨v, f', e2, q⟩ := atI_repT r e
      exact .inr (.inl ⟨a, vs, k, v, rfl, rfl, ha.sq, e2, R v f' q⟩)
    · rename_i ns
      obtain ⟨n, e1, rfl⟩ := omap e
      simp only [RepT] at qx
      obtain ⟨_, a, rfl, sq⟩ := qx
      refine .inl ⟨a, ns.map V.int, k, .int n, rfl, rfl, i.seq sq, by rw [atI_map, e1]; rfl, R _ [] (rep_d (by simp only [RepD]))⟩
    · rename_i z
      split at e
      · rename_i hz
        obtain ⟨c, e1, rfl⟩ := omap e
        have q := rep_sh qx
        simp only [RepD] at q
        subst q
        exact .inr (.inr ⟨z, k, c, rfl, rfl, hz, e1, R _ [] (rep_d (by simp only [RepD]))⟩)
      · cases e
    · cases e
  · cases e
section
variable {X : Cx} {W : WX} {a b : Expr} {ta tb : TE} {ea eb : En → Rs T} {pos : Pos}
theorem dv_ixS (ha : DV X W a ta ea) (hb : DV X W b tb eb) (hs : PlainIx b := by exact fun _ _ => rfl) : DV X W (.Subscript a b pos) (tOp (rIx X.K) ta tb) (evBin fIx ea eb) :=
  ⟨pe_ix ix_seq ha.pe hb.pe hs, sem_binV sem_ix ha.sm hb.sm⟩
end

/-! ### slices -/
def SemO (K : PySem.W.Frag) (mg : Str → Option Value) (W : WX) (to : TO) (eo : En → Rs (Option Int)) : Prop :=
  ∀ E S φ ρ σ H Q, StInv K E S φ ρ σ H → RsOK (eo ρ) (fun o => ∀ S' H', Grow S H S' H' → Q o H') (fun c => ∀ S' H', Grow S H S' H' → XOK mg W c σ H') → to σ H Q
structure DO (X : Cx) (W : WX) (e : Option Expr) (to : TO) (eo : En → Rs (Option Int)) : Prop where
  po : PO X e to
  sm : SemO X.K X.mg W to eo
def eoN : En → Rs (Option Int) := fun _ => .ok none
def eoS (ev : En → Rs T) : En → Rs (Option Int) := fun ρ => (ev ρ).bind fun t => (rsO t.asI).bind fun i => .ok (some i)
def SemSl (K : PySem.W.Frag) (r : V → Option Int → Option Int → Hp → VK → Prop) (f : T → Option Int → Option Int → Option T) : Prop :=
  ∀ S H x vx fx lo hi Q t, Same S H → RepT K S H x vx fx → f x lo hi = some t → Ret K S H t Q → r vx lo hi H Q
def evSl (f : T → Option Int → Option Int → Option T) (ea : En → Rs T) (el eh : En → Rs (Option Int)) : En → Rs T := fun ρ => (ea ρ).bind fun x => (el ρ).bind fun l => (eh ρ).bind fun h => rsO (f x l h)
section
variable {X : Cx} {W : WX} {a e : Expr} {te ta : TE} {ev ea : En → Rs T} {pos p2 : Pos} {r : V → Option Int → Option Int → Hp → VK → Prop} {f : T → Option Int → Option Int → Option T} {lo hi : Option Expr} {tl th : TO} {el eh : En → Rs (Option Int)}
theorem do_none : DO X W none tNoPart eoN := ⟨po_none, fun E S φ ρ σ H Q I r => r S H (.refl I.gr.i)⟩
theorem do_some (h : DV X W e te ev) : DO X W (some e) (tPart te) (eoS ev) := by
  refine ⟨po_some h.pe, fun E S φ ρ σ H Q I q => ?_⟩
  refine h.sm E S φ ρ σ H _ I (q.bind.imp (fun t ht v S' H' fp g q => ?_) fun _ x => x)
  obtain ⟨i, e, ht⟩ := ht.bind.rsO
  exact ⟨i, asI_rep q e, ht S' H' g⟩
theorem de_slice (hr : SlR X r) (hs : SemSl X.K r f) (ha : DV X W a ta ea) (hl : DO X W lo tl el) (hh : DO X W hi th eh) : DE X W (.Subscript a (.Slice lo hi none p2) pos) (tSl r ta tl th) (evSl f ea el eh) [] := by
  refine ⟨pe_slice hr ha.pe hl.po hh.po, fun E S φ ρ σ H Q I h => ?_⟩
  refine ha.sm E S φ ρ σ H _ I (h.bind.imp (fun x hx vx S1 H1 fx g1 qx => ?_) fun _ z => z)
  refine hl.sm E S1 φ ρ σ H1 _ (I.grow g1) (hx.bind.imp (fun l hl S2 H2 g2 => ?_) fun _ z S' H' g => z S' H' (g1.trans g))
  have g12 := g1.trans g2
  refine hh.sm E S2 φ ρ σ H2 _ (I.grow g12) (hl.bind.imp (fun u hu S3 H3 g3 => ?_) fun _ z S' H' g => z S' H' (g12.trans g))
  obtain ⟨t, e, ht⟩ := hu.rsO
  have g23 := g2.trans g3
  exact hs S3 H3 x vx fx l u Q t g3.i (qx.grow g23.s g23.h) e (ht.ret.later (g12.trans g3))
end
def cutD (ds : List D) (lo hi : Option Int) : List D := (ds.drop (HT.sIx ds.length 0 lo)).take (HT.sIx ds.length ds.length hi - HT.sIx ds.length 0 lo)
theorem RepDs.cut {S : Hp} {ds : List D} {vs : List V} (r : RepDs S ds vs) (lo hi : Option Int) : RepDs S (cutD ds lo hi) (cutV vs lo hi) := by
  unfold cutD cutV
  rw [r.length]
  exact (r.drop _).take _
def fSl (x : T) (lo hi : Option Int) : Option T := match x.lits with
  | some ds => some (.ol (cutD ds lo hi))
  | none => match x with
    | .sh (.tuple ds) => some (.sh (.tuple (cutD ds lo hi)))
    | .sh (.str z) => if z.length ≤ sizeLine then some (.sh (.str (cutS z lo hi))) else none
    | _ => none
abbrev rSlAll (K : PySem.W.Frag) : V → Option Int → Option Int → Hp → VK → Prop := fun x lo hi H Q => rSlL K x lo hi H Q ∨ (fun x lo hi H Q => rSlF K x lo hi H Q ∨ rSlS x lo hi H Q) x lo hi H Q
theorem sl_all {X : Cx} : SlR X (rSlAll X.K) := sl_list.or (sl_tupF.or sl_str)
theorem sem_sl {K : PySem.W.Frag} : SemSl K (rSlAll K) fSl := by
  intro S H x vx fx lo hi Q t i qx e R
  unfold fSl at e
  split at e
  · rename_i ds ex
    cases e
    obtain ⟨a, vs, rfl, ha, r⟩ := lits_rep i qx ex
    exact .inl ⟨a, vs, rfl, .of ha, fun p hp => R.lst i (r.cut lo hi) hp⟩
  · split at e
    · rename_i ds _
      cases e
      have q := rep_sh qx
      have q0 := q
      simp only [RepD] at q
      obtain ⟨a, vs, rfl, ha, r⟩ := q
      refine .inr (.inl ⟨a, vs, rfl, (ha.same (i _)).sq, fun z => ?_, R.tup i (r.cut lo hi)⟩)
      refine R.old i ?_
      simp only [RepD]
      refine ⟨a, vs, rfl, ha, ?_⟩
      have := r.cut lo hi
      rwa [z] at this
    · rename_i z _
      split at e
      · rename_i hz
        cases e
        have q := rep_sh qx
        simp only [RepD] at q
        subst q
        exact .inr (.inr ⟨z, rfl, hz, R.flat i fun _ => by simp only [RepD]⟩)
      · cases e
    · cases e
/-- [::-1] of a list -/
def fRev (x : T) : Option T := match x.lits with
  | some ds => some (.ol ds.reverse)
  | none => none
def evUn (f : T → Option T) (ea : En → Rs T) : En → Rs T := fun ρ => (ea ρ).bind fun x => rsO (f x)
section
variable {X : Cx} {W : WX} {a e : Expr} {te ta : TE} {ev ea : En → Rs T} {pos : Pos}
theorem de_rev {k : Nat} {p1 p2 p3 : Pos} (ha : DV X W a ta ea) : DE X W (.Subscript a (.Slice none none (some (.UnaryOp .USub (.Constant (.int 1) k p1) p2)) p3) pos) (tRevL X.K ta) (evUn fRev ea) [] := by
  refine ⟨pe_revL ha.pe, fun E S φ ρ σ H Q I h => ?_⟩
  refine ha.sm E S φ ρ σ H _ I (h.bind.imp (fun x hx vx S1 H1 fx g1 qx => ?_) fun _ z => z)
  obtain ⟨t, e, ht⟩ := hx.rsO
  unfold fRev at e
  split at e
  · rename_i ds ex
    cases e
    obtain ⟨a, vs, rfl, ha, r⟩ := lits_rep g1.i qx ex
    exact ⟨a, vs, rfl, .of ha, fun p hp => (ht.ret.later g1).lst g1.i r.rev hp⟩
  · cases e
/-- -x -/
def fNeg (x : T) : Option T := match x with
  | .sh (.int i) => some (.sh (.int (-i)))
  | _ => none
theorem de_neg (ha : DV X W a ta ea) : DE X W (.UnaryOp .USub a pos) (tUn (rU fun i => .int (-i)) ta) (evUn fNeg ea) [] := by
  refine ⟨pe_un un_neg ha.pe, fun E S φ ρ σ H Q I h => ?_⟩
  refine ha.sm E S φ ρ σ H _ I (h.bind.imp (fun x hx vx S1 H1 fx g1 qx => ?_) fun _ z => z)
  obtain ⟨t, e, ht⟩ := hx.rsO
  unfold fNeg at e
  split at e
  · rename_i i
    cases e
    exact ⟨i, by have := rep_sh qx; simpa only [RepD] using this, (ht.ret.later g1).flat g1.i fun _ => by simp only [RepD]⟩
  · cases e
end

/-! ### built-in calls -/
def SemC (K : PySem.W.Frag) (r : List V → Hp → VK → Prop) (f : List T → Option T) : Prop :=
  ∀ S H ts vs Q t, Same S H → Views K S H ts vs → f ts = some t → Ret K S H t Q → r vs H Q
theorem SemC.or {K : PySem.W.Frag} {r r' : List V → Hp → VK → Prop} {f f' : List T → Option T} (h : SemC K r f) (h' : SemC K r' f') : SemC K (fun xs H Q => r xs H Q ∨ r' xs H Q) (fun ts => (f ts).or (f' ts)) :=
  fun S H ts vs Q t i q e R => by
    have e : (f ts).or (f' ts) = some t := e
    cases e1 : f ts with
    | some z =>
      rw [e1] at e
      exact .inl (h S H ts vs Q t i q (e1.trans (by simpa using e)) R)
    | none =>
      rw [e1] at e
      exact .inr (h' S H ts vs Q t i q (by simpa using e) R)
def evC1 (f : List T → Option T) (er : En → Rs (List T)) : En → Rs T := fun ρ => (er ρ).bind fun ts => rsO (f ts)
section
variable {X : Cx} {W : WX} {e : Expr} {es : List Expr} {tr : TA} {er : En → Rs (List T)} {pos p : Pos} {x : Str} {id Ty : String} {r : List V → Hp → VK → Prop} {f : List T → Option T}
theorem sem_call {K : PySem.W.Frag} {mg : Str → Option Value} (hs : SemC K r f) (ha : SemAs K mg W tr er) : SemE K mg W (tCB r tr) (evC1 f er) [] := by
  intro E S φ ρ σ H Q I h
  refine ha E S φ ρ σ H _ I (h.bind.imp (fun ts hts vs S1 H1 g1 q1 => ?_) fun _ z => z)
  obtain ⟨t, e, ht⟩ := hts.rsO
  exact hs S1 H1 ts vs Q t g1.i q1 e (ht.ret.later g1)
theorem de_callB (hc : CallR X (.builtin id) r) (hs : SemC X.K r f) (hg : Gl X x) (hm : X.mg x = none) (hv : bootBuiltins x = some (.builtin id)) (ha : DAs X W (e :: es) tr er) (hn : x ≠ "__name__" := by decide) (hdb : (x == ("__debug__" : Str)) = false := by decide)
    (he : starEach (e :: es) X.env = (false, eval e X.env) :: starEach es X.env := by rfl) (hpl : (backTo pos (starEach es X.env)).any (·.1) = false := by rfl) : DE X W (.Call (.Name x p) (e :: es) [] pos) (tCB r tr) (evC1 f er) [] :=
  ⟨pe_callB hc hg hm hv ha.pe hn hdb he hpl, sem_call hs ha.sm⟩
theorem de_callTy (hc : CallR X (.type Ty) r) (hs : SemC X.K r f) (hg : Gl X x) (hm : X.mg x = none) (hv : bootBuiltins x = some (.type Ty)) (ha : DAs X W (e :: es) tr er) (hn : x ≠ "__name__" := by decide) (hdb : (x == ("__debug__" : Str)) = false := by decide)
    (he : starEach (e :: es) X.env = (false, eval e X.env) :: starEach es X.env := by rfl) (hpl : (backTo pos (starEach es X.env)).any (·.1) = false := by rfl) : DE X W (.Call (.Name x p) (e :: es) [] pos) (tCB r tr) (evC1 f er) [] :=
  ⟨pe_callTy hc hg hm hv ha.pe hn hdb he hpl, sem_call hs ha.sm⟩
end
/-- one argument -/
def f1 (g : T → Option T) (ts : List T) : Option T := match ts with
  | [t] => g t
  | _ => none
theorem f1_some {g : T → Option T} {ts : List T} {t : T} (e : f1 g ts = some t) : ∃ x, ts = [x] ∧ g x = some t := by
  unfold f1 at e
  split at e
  · exact ⟨_, rfl, e⟩
  · cases e
theorem views1 {K : PySem.W.Frag} {S H : Hp} {x : T} {vs : List V} (q : Views K S H [x] vs) : ∃ v fp, vs = [v] ∧ RepT K S H x v fp := by
  obtain ⟨v, r, fp, rfl, q, rfl⟩ := q
  exact ⟨v, fp, rfl, q⟩
theorem views2 {K : PySem.W.Frag} {S H : Hp} {x y : T} {vs : List V} (q : Views K S H [x, y] vs) : ∃ v w fp fq, vs = [v, w] ∧ RepT K S H x v fp ∧ RepT K S H y w fq := by
  obtain ⟨v, r, fp, rfl, q, w, r, fq, rfl, q', rfl⟩ := q
  exact ⟨v, w, fp, fq, rfl, q, q'⟩
/-! len -/
def T.len : T → Option Nat
  | .sh (.list ds) => some ds.length
  | .sh (.tuple ds) => some ds.length
  | .sh (.str z) => if z.length ≤ sizeLine then some z.length else none
  | .scr ns => some ns.length
  | .ol ds => some ds.length
  | .ot ts => some ts.length
  | .tu ts => some ts.length
  | _ => none
theorem len_rep {K : PySem.W.Frag} {S H : Hp} {t : T} {v : V} {fp : List Addr} {n : Nat} (i : Same S H) (q : RepT K S H t v fp) (e : t.len = some n) : LenV K v H n := by
  unfold T.len at e
  split at e
  · cases e
    have q := rep_sh q
    simp only [RepD] at q
    obtain ⟨a, vs, rfl, h, r⟩ := q
    exact .inl ⟨vs, .of (i _ _ h), r.length.symm⟩
  · cases e
    have q := rep_sh q
    simp only [RepD] at q
    obtain ⟨a, vs, rfl, h, r⟩ := q
    exact .inr ⟨vs, (h.same (i _)).sq, r.length.symm⟩
  · split at e
    · rename_i hz
      cases e
      have q := rep_sh q
      simp only [RepD] at q
      subst q
      exact ⟨hz, rfl⟩
    · cases e
  · cases e
    simp only [RepT] at q
    obtain ⟨_, a, rfl, sq⟩ := q
    exact .inl ⟨_, i.seq sq, by rw [List.length_map]⟩
  · cases e
    simp only [RepT] at q
    obtain ⟨a, vs, rfl, _, h, r⟩ := q
    exact .inl ⟨vs, .of h, r.length.symm⟩
  · cases e
    simp only [RepT] at q
    obtain ⟨a, vs, f, rfl, _, h, r⟩ := q
    exact .inl ⟨vs, .of h, r.length.symm⟩
  · cases e
    simp only [RepT] at q
    obtain ⟨a, vs, f, rfl, _, h, r⟩ := q
    exact .inr ⟨vs, h.sq, r.length.symm⟩
  · cases e
def fLen : List T → Option T := f1 fun t => t.len.map fun (n : Nat) => T.sh (PyData.int (n : Int))
abbrev rLenS (K : PySem.W.Frag) : List V → Hp → VK → Prop := fun xs H Q => ∃ x n, xs = [x] ∧ LenV K x H n ∧ Q (.int n) H
theorem sem_len {K : PySem.W.Frag} : SemC K (rLenS K) fLen := by
  intro S H ts vs Q t i q e R
  obtain ⟨x, hx, e0⟩ := f1_some e
  clear e
  subst hx
  obtain ⟨v, fp, hv, q0⟩ := views1 q
  clear q
  subst hv
  have e := e0
  have q := q0
  clear e0 q0
  obtain ⟨n, e1, rfl⟩ := omap e
  exact ⟨v, n, rfl, len_rep i q e1, R.flat i fun _ => by simp only [RepD]⟩
/-! int, abs, min, max, str -/
def fInt1 : List T → Option T := f1 fun t => match t with
  | .sh (.int i) => some (.sh (.int i))
  | .sh (.bool b) => some (.sh (.int (if b then 1 else 0)))
  | _ => none
abbrev rInt1 : List V → Hp → VK → Prop := fun xs H Q => (∃ i, xs = [.int i] ∧ Q (.int i) H) ∨ ∃ k, xs = [.bl k] ∧ Q (.int (if k then 1 else 0)) H
theorem sem_int1 {K : PySem.W.Frag} : SemC K rInt1 fInt1 := by
  intro S H ts vs Q t i q e R
  obtain ⟨x, hx, e0⟩ := f1_some e
  clear e
  subst hx
  obtain ⟨v, fp, hv, q0⟩ := views1 q
  clear q
  subst hv
  have e := e0
  have q := q0
  clear e0 q0
  split at e
  · rename_i k
    cases e
    exact .inl ⟨k, by have := rep_sh q; simp only [RepD] at this; rw [this], R.flat i fun _ => by simp only [RepD]⟩
  · rename_i k
    cases e
    exact .inr ⟨k, by have := rep_sh q; simp only [RepD] at this; rw [this], R.flat i fun _ => by simp only [RepD]⟩
  · cases e
def fAbs : List T → Option T := f1 fun t => match t with
  | .sh (.int i) => some (.sh (.int (if i < 0 then -i else i)))
  | _ => none
theorem sem_abs {K : PySem.W.Frag} : SemC K (fun xs H Q => ∃ i, xs = [.int i] ∧ Q (.int (if i < 0 then -i else i)) H) fAbs := by
  intro S H ts vs Q t i q e R
  obtain ⟨x, hx, e0⟩ := f1_some e
  clear e
  subst hx
  obtain ⟨v, fp, hv, q0⟩ := views1 q
  clear q
  subst hv
  have e := e0
  have q := q0
  clear e0 q0
  split at e
  · rename_i k
    cases e
    exact ⟨k, by have := rep_sh q; simp only [RepD] at this; rw [this], R.flat i fun _ => by simp only [RepD]⟩
  · cases e
def f2Is (g : Int → Int → Int) (ts : List T) : Option T := match ts with
  | [.sh (.int i), .sh (.int j)] => some (.sh (.int (g i j)))
  | _ => none
theorem sem_2Is {K : PySem.W.Frag} {g : Int → Int → Int} : SemC K (fun xs H Q => ∃ i j, xs = [.int i, .int j] ∧ Q (.int (g i j)) H) (f2Is g) := by
  intro S H ts vs Q t i q e R
  unfold f2Is at e
  split at e
  · rename_i a b
    cases e
    obtain ⟨v, w, fp, fq, rfl, q1, q2⟩ := views2 q
    have h1 := rep_sh q1
    have h2 := rep_sh q2
    simp only [RepD] at h1 h2
    exact ⟨a, b, by rw [h1, h2], R.flat i fun _ => by simp only [RepD]⟩
  · cases e
def fMax2 : List T → Option T := f2Is fun i j => if j > i then j else i
def fMin2 : List T → Option T := f2Is fun i j => if j < i then j else i
/-! lists of ints, of bools -/
def intsD : List D → Option (List Int)
  | [] => some []
  | .int i :: ds => (intsD ds).map (i :: ·)
  | _ :: _ => none
def boolsD : List D → Option (List Bool)
  | [] => some []
  | .bool i :: ds => (boolsD ds).map (i :: ·)
  | _ :: _ => none
theorem intsD_rep {S : Hp} : ∀ {ds : List D} {vs : List V} {ns : List Int}, intsD ds = some ns → RepDs S ds vs → vs = ns.map V.int
  | [], vs, ns, e, q => by cases e; simp only [RepDs] at q; rw [q]; rfl
  | d :: ds, vs, ns, e, q => by
    cases d with
    | int i =>
      obtain ⟨r, e1, rfl⟩ := omap (show (intsD ds).map (i :: ·) = some ns from e)
      simp only [RepDs, RepD] at q
      obtain ⟨v, w, rfl, rfl, q2⟩ := q
      rw [intsD_rep e1 q2]; rfl
    | _ => cases e
theorem boolsD_rep {S : Hp} : ∀ {ds : List D} {vs : List V} {ns : List Bool}, boolsD ds = some ns → RepDs S ds vs → vs = ns.map V.bl
  | [], vs, ns, e, q => by cases e; simp only [RepDs] at q; rw [q]; rfl
  | d :: ds, vs, ns, e, q => by
    cases d with
    | bool i =>
      obtain ⟨r, e1, rfl⟩ := omap (show (boolsD ds).map (i :: ·) = some ns from e)
      simp only [RepDs, RepD] at q
      obtain ⟨v, w, rfl, rfl, q2⟩ := q
      rw [boolsD_rep e1 q2]; rfl
    | _ => cases e
theorem intsD_map : ∀ ns : List Int, intsD (ns.map PyData.int) = some ns
  | [] => rfl
  | n :: ns => by simp [intsD, intsD_map ns]
theorem boolsD_map : ∀ ns : List Bool, boolsD (ns.map PyData.bool) = some ns
  | [] => rfl
  | n :: ns => by simp [boolsD, boolsD_map ns]
def T.ints (t : T) : Option (List Int) := t.lits.bind intsD
def T.bools (t : T) : Option (List Bool) := t.lits.bind boolsD
theorem obind {α β : Type} {o : Option α} {f : α → Option β} {b : β} (h : o.bind f = some b) : ∃ a, o = some a ∧ f a = some b := by
  cases o with
  | none => cases h
  | some a => exact ⟨a, rfl, h⟩
theorem ints_rep {K : PySem.W.Frag} {S H : Hp} {t : T} {v : V} {fp : List Addr} {ns : List Int} (i : Same S H) (q : RepT K S H t v fp) (e : t.ints = some ns) : ∃ a, v = .ref a ∧ SqL K H a (ns.map V.int) := by
  obtain ⟨ds, e1, e2⟩ := obind e
  obtain ⟨a, vs, rfl, h, r⟩ := lits_rep i q e1
  rw [intsD_rep e2 r] at h
  exact ⟨a, rfl, .of h⟩
theorem bools_rep {K : PySem.W.Frag} {S H : Hp} {t : T} {v : V} {fp : List Addr} {ns : List Bool} (i : Same S H) (q : RepT K S H t v fp) (e : t.bools = some ns) : ∃ a, v = .ref a ∧ SqL K H a (ns.map V.bl) := by
  obtain ⟨ds, e1, e2⟩ := obind e
  obtain ⟨a, vs, rfl, h, r⟩ := lits_rep i q e1
  rw [boolsD_rep e2 r] at h
  exact ⟨a, rfl, .of h⟩
def fSum : List T → Option T := f1 fun t => t.ints.map fun ns => .sh (.int ns.sum)
theorem sem_sum {K : PySem.W.Frag} : SemC K (rSum K) fSum := by
  intro S H ts vs Q t i q e R
  obtain ⟨x, hx, e0⟩ := f1_some e
  clear e
  subst hx
  obtain ⟨v, fp, hv, q0⟩ := views1 q
  clear q
  subst hv
  have e := e0
  have q := q0
  clear e0 q0
  obtain ⟨ns, e1, rfl⟩ := omap e
  obtain ⟨a, rfl, sq⟩ := ints_rep i q e1
  exact ⟨a, ns, rfl, sq, R.flat i fun _ => by simp only [RepD]⟩
def maxI : List Int → Int
  | [] => 0
  | [x] => x
  | x :: xs => max x (maxI xs)
def minI : List Int → Int
  | [] => 0
  | [x] => x
  | x :: xs => min x (minI xs)
theorem maxI_mem : ∀ {ns : List Int}, ns ≠ [] → maxI ns ∈ ns ∧ ∀ y ∈ ns, y ≤ maxI ns
  | [], h => absurd rfl h
  | [x], _ => by simp [maxI]
  | x :: y :: r, _ => by
    obtain ⟨h1, h2⟩ := maxI_mem (ns := y :: r) (by simp)
    have e : maxI (x :: y :: r) = max x (maxI (y :: r)) := rfl
    rw [e]
    constructor
    · by_cases h : x ≤ maxI (y :: r)
      · rw [Int.max_eq_right h]; exact List.mem_cons_of_mem _ h1
      · rw [Int.max_eq_left (by omega)]; exact List.mem_cons_self
    · intro z hz
      rcases List.mem_cons.mp hz with rfl | hz
      · omega
      · have := h2 z hz; omega
theorem minI_mem : ∀ {ns : List Int}, ns ≠ [] → minI ns ∈ ns ∧ ∀ y ∈ ns, minI ns ≤ y
  | [], h => absurd rfl h
  | [x], _ => by simp [minI]
  | x :: y :: r, _ => by
    obtain ⟨h1, h2⟩ := minI_mem (ns := y :: r) (by simp)
    have e : minI (x :: y :: r) = min x (minI (y :: r)) := rfl
    rw [e]
    constructor
    · by_cases h : minI (y :: r) ≤ x
      · rw [Int.min_eq_right h]; exact List.mem_cons_of_mem _ h1
      · rw [Int.min_eq_left (by omega)]; exact List.mem_cons_self
    · intro z hz
      rcases List.mem_cons.mp hz with rfl | hz
      · omega
      · have := h2 z hz; omega
def fMaxL : List T → Option T := f1 fun t => t.ints.bind fun ns => if ns.isEmpty then none else some (.sh (.int (maxI ns)))
def fMinL : List T → Option T := f1 fun t => t.ints.bind fun ns => if ns.isEmpty then none else some (.sh (.int (minI ns)))
theorem sem_maxL {K : PySem.W.Frag} : SemC K (rMax K) fMaxL := by
  intro S H ts vs Q t i q e R
  obtain ⟨x, hx, e0⟩ := f1_some e
  clear e
  subst hx
  obtain ⟨v, fp, hv, q0⟩ := views1 q
  clear q
  subst hv
  have e := e0
  have q := q0
  clear e0 q0
  obtain ⟨ns, e1, e⟩ := obind e
  obtain ⟨a, rfl, sq⟩ := ints_rep i q e1
  split at e
  · cases e
  · rename_i hn
    cases e
    have hne : ns ≠ [] := by intro z; rw [z] at hn; exact hn rfl
    obtain ⟨h1, h2⟩ := maxI_mem hne
    refine ⟨a, ns, rfl, sq, List.length_pos_iff.mpr hne, fun m hm hb => ?_⟩
    have e : m = maxI ns := Int.le_antisymm (h2 m hm) (hb _ h1)
    subst e
    exact R.flat i fun _ => by simp only [RepD]
theorem sem_minL {K : PySem.W.Frag} : SemC K (rMin K) fMinL := by
  intro S H ts vs Q t i q e R
  obtain ⟨x, hx, e0⟩ := f1_some e
  clear e
  subst hx
  obtain ⟨v, fp, hv, q0⟩ := views1 q
  clear q
  subst hv
  have e := e0
  have q := q0
  clear e0 q0
  obtain ⟨ns, e1, e⟩ := obind e
  obtain ⟨a, rfl, sq⟩ := ints_rep i q e1
  split at e
  · cases e
  · rename_i hn
    cases e
    have hne : ns ≠ [] := by intro z; rw [z] at hn; exact hn rfl
    obtain ⟨h1, h2⟩ := minI_mem hne
    refine ⟨a, ns, rfl, sq, List.length_pos_iff.mpr hne, fun m hm hb => ?_⟩
    have e : m = minI ns := Int.le_antisymm (hb _ h1) (h2 m hm)
    subst e
    exact R.flat i fun _ => by simp only [RepD]
abbrev rMaxA (K : PySem.W.Frag) : List V → Hp → VK → Prop := fun xs H Q => (∃ i j, xs = [.int i, .int j] ∧ Q (.int (if j > i then j else i)) H) ∨ rMax K xs H Q
abbrev rMinA (K : PySem.W.Frag) : List V → Hp → VK → Prop := fun xs H Q => (∃ i j, xs = [.int i, .int j] ∧ Q (.int (if j < i then j else i)) H) ∨ rMin K xs H Q
def fMax (ts : List T) : Option T := (fMax2 ts).or (fMaxL ts)
def fMin (ts : List T) : Option T := (fMin2 ts).or (fMinL ts)
theorem sem_max {K : PySem.W.Frag} : SemC K (rMaxA K) fMax := sem_2Is.or (sem_maxL (K := K))
theorem sem_min {K : PySem.W.Frag} : SemC K (rMinA K) fMin := sem_2Is.or (sem_minL (K := K))
theorem cr_maxA {X : Cx} (hc : X.calm = true) : CallR X (.builtin "max") (rMaxA X.K) := (call_max2 hc).or (cr_max hc)
theorem cr_minA {X : Cx} (hc : X.calm = true) : CallR X (.builtin "min") (rMinA X.K) := (call_min2 hc).or (cr_min hc)
def fAll : List T → Option T := f1 fun t => t.bools.map fun ns => .sh (.bool (ns.all id))
def fAny : List T → Option T := f1 fun t => t.bools.map fun ns => .sh (.bool (ns.any id))
theorem sem_all {K : PySem.W.Frag} : SemC K (rAll K) fAll := by
  intro S H ts vs Q t i q e R
  obtain ⟨x, hx, e0⟩ := f1_some e
  clear e
  subst hx
  obtain ⟨v, fp, hv, q0⟩ := views1 q
  clear q
  subst hv
  have e := e0
  have q := q0
  clear e0 q0
  obtain ⟨ns, e1, rfl⟩ := omap e
  obtain ⟨a, rfl, sq⟩ := bools_rep i q e1
  exact ⟨a, ns, rfl, sq, R.flat i fun _ => by simp only [RepD]⟩
theorem sem_any {K : PySem.W.Frag} : SemC K (rAny K) fAny := by
  intro S H ts vs Q t i q e R
  obtain ⟨x, hx, e0⟩ := f1_some e
  clear e
  subst hx
  obtain ⟨v, fp, hv, q0⟩ := views1 q
  clear q
  subst hv
  have e := e0
  have q := q0
  clear e0 q0
  obtain ⟨ns, e1, rfl⟩ := omap e
  obtain ⟨a, rfl, sq⟩ := bools_rep i q e1
  exact ⟨a, ns, rfl, sq, R.flat i fun _ => by simp only [RepD]⟩
def sortI (ns : List Int) : List Int := ns.mergeSort (fun a b => decide (a ≤ b))
theorem sortI_eq {ns ms : List Int} (h1 : ms.Perm ns) (h2 : ms.Pairwise (· ≤ ·)) : ms = sortI ns := by
  have p : (sortI ns).Perm ns := List.mergeSort_perm _ _
  have s : (sortI ns).Pairwise (· ≤ ·) := by
    have := List.pairwise_mergeSort (le := fun (a b : Int) => decide (a ≤ b)) (fun a b c h1 h2 => by simp at *; omega) (fun a b => by simp; omega) ns
    exact this.imp fun h => by simpa using h
  exact List.Perm.eq_of_pairwise (fun _ _ _ _ a b => Int.le_antisymm a b) h2 s (h1.trans p.symm)
theorem sortI_perm (ns : List Int) : (sortI ns).Perm ns := List.mergeSort_perm _ _
theorem sortI_sorted (ns : List Int) : (sortI ns).Pairwise (· ≤ ·) := by
  have := List.pairwise_mergeSort (le := fun (a b : Int) => decide (a ≤ b)) (fun a b c h1 h2 => by simp at *; omega) (fun a b => by simp; omega) ns
  exact this.imp fun h => by simpa using h
def fSortI : List T → Option T := f1 fun t => t.ints.map fun ns => .ol ((sortI ns).map PyData.int)
theorem sem_sortI {K : PySem.W.Frag} : SemC K (rSortedI K) fSortI := by
  intro S H ts vs Q t i q e R
  obtain ⟨x, hx, e0⟩ := f1_some e
  clear e
  subst hx
  obtain ⟨v, fp, hv, q0⟩ := views1 q
  clear q
  subst hv
  have e := e0
  have q := q0
  clear e0 q0
  obtain ⟨ns, e1, rfl⟩ := omap e
  obtain ⟨a, rfl, sq⟩ := ints_rep i q e1
  refine ⟨a, ns, rfl, sq, fun ms p h1 h2 hp => ?_⟩
  rw [sortI_eq h1 h2]
  exact R.lst i (rep_ints _) hp
/-! list(x), tuple(x) -/
def fList : List T → Option T := f1 fun t => match t.seqs with
  | some ds => some (.ol ds)
  | none => match t with
    | .scr ns => some (.ol (ns.map PyData.int))
    | _ => none
abbrev rListOf (K : PySem.W.Frag) : List V → Hp → VK → Prop := fun xs H Q => ∃ p ys, xs = [.ref p] ∧ (SqL K H p ys ∨ SqT K H p ys) ∧ ∀ l, H l = none → Q (.ref l) (upd H l (.lst ys))
theorem sem_list {K : PySem.W.Frag} : SemC K (rListOf K) fList := by
  intro S H ts vs Q t i q e R
  obtain ⟨x, hx, e0⟩ := f1_some e
  clear e
  subst hx
  obtain ⟨v, fp, hv, q0⟩ := views1 q
  clear q
  subst hv
  have e := e0
  have q := q0
  clear e0 q0
  split at e
  · rename_i ds es
    cases e
    obtain ⟨a, vs, rfl, sq, r⟩ := seqs_rep i q es
    exact ⟨a, vs, rfl, sq, fun l hl => R.lst i r hl⟩
  · split at e
    · rename_i ns _
      cases e
      simp only [RepT] at q
      obtain ⟨_, a, rfl, sq⟩ := q
      exact ⟨a, _, rfl, .inl (i.seq sq), fun l hl => R.lst i (rep_ints ns) hl⟩
    · cases e
def fTuple : List T → Option T := f1 fun t => match t.lits with
  | some ds => some (.sh (.tuple ds))
  | none => match t with
    | .sh (.tuple ds) => some (.sh (.tuple ds))
    | _ => none
theorem sem_tuple {K : PySem.W.Frag} : SemC K (rTupOf K) fTuple := by
  intro S H ts vs Q t i q e R
  obtain ⟨x, hx, e0⟩ := f1_some e
  clear e
  subst hx
  obtain ⟨v, fp, hv, q0⟩ := views1 q
  clear q
  subst hv
  have e := e0
  have q := q0
  clear e0 q0
  split at e
  · rename_i ds es
    cases e
    obtain ⟨a, vs, rfl, h, r⟩ := lits_rep i q es
    exact ⟨a, vs, rfl, .inl ⟨.of h, R.tup i r⟩⟩
  · split at e
    · rename_i ds _
      cases e
      have q0 := rep_sh q
      have q := q0
      simp only [RepD] at q
      obtain ⟨a, vs, rfl, h, r⟩ := q
      exact ⟨a, vs, rfl, .inr ⟨(h.same (i _)).sq, R.old i q0⟩⟩
    · cases e
/-! isinstance -/
def tyD : D → String
  | .none => "NoneType"
  | .bool _ => "bool"
  | .int _ => "int"
  | .str _ => "str"
  | .list _ => "list"
  | .tuple _ => "tuple"
  | .dict _ => "dict"
def T.ty : T → String
  | .sh d => tyD d
  | .scr _ => "list"
  | .ol _ => "list"
  | .od _ => "dict"
  | .ot _ => "list"
  | .tu _ => "tuple"
  | .rg _ _ => "range"
def T.isRg : T → Bool
  | .rg _ _ => true
  | _ => false
theorem ty_rep {K : PySem.W.Frag} {S H : Hp} {t : T} {v : V} {fp : List Addr} (i : Same S H) (q : RepT K S H t v fp) (nr : t.isRg = false) : TyX K H v (.type t.ty) := by
  have dc : ∀ {a : Addr} {ks vs}, DcAt (H a) ks vs → TyX K H (.ref a) (.type "dict") := fun h => by
    rcases h with ⟨kk, e1, _⟩ | ⟨kk, e1, _⟩
    · exact .base (.dK e1)
    · exact .base (.dT e1)
  have df : ∀ {a : Addr} {ks vs}, DcF (H a) ks vs → TyX K H (.ref a) (.type "dict") := fun h => by
    rcases h with h | ⟨ob, kk, e1, _⟩
    · exact dc h
    · exact .fDict e1
  cases t with
  | sh d =>
    have q := rep_sh q
    cases d <;> simp only [RepD] at q
    · subst q; exact .base .non
    · subst q; exact .base (.bl _)
    · subst q; exact .base (.int _)
    · subst q; exact .base (.str _)
    · obtain ⟨a, vs, rfl, h, _⟩ := q; exact .base (.lst (i _ _ h))
    · obtain ⟨a, vs, rfl, ⟨ob, h, _⟩, _⟩ := q; exact .fTuple (i _ _ h)
    · obtain ⟨a, vs, rfl, h, _⟩ := q; exact df (h.same (i _))
  | scr ns =>
    simp only [RepT] at q
    obtain ⟨_, a, rfl, sq⟩ := q
    rcases i.seq sq with (h | ⟨o, h⟩) | ⟨o, its, n, h, hc, _⟩
    · exact .base (.lst h)
    · exact .base (.frz h)
    · exact .kList h hc
  | ol ds => simp only [RepT] at q; obtain ⟨a, vs, rfl, _, h, _⟩ := q; exact .base (.lst h)
  | od ds => simp only [RepT] at q; obtain ⟨a, vs, rfl, _, h, _⟩ := q; exact dc h
  | ot ds => simp only [RepT] at q; obtain ⟨a, vs, f, rfl, _, h, _⟩ := q; exact .base (.lst h)
  | tu ds => simp only [RepT] at q; obtain ⟨a, vs, f, rfl, _, ⟨ob, h, _⟩, _⟩ := q; exact .fTuple h
  | rg _ _ => cases nr
/-- the built-in classes that are asked of these -/
def isaB (a b : String) : Bool := a == b || (a == "bool" && b == "int")
theorem kit_isa {K : PySem.W.Frag} (t : T) (nr : t.isRg = false) (b : String) (hb : b = "int" ∨ b = "bool" ∨ b = "str" ∨ b = "list" ∨ b = "tuple" ∨ b = "dict") : PySem.W.kitOne K (.type t.ty) (.type b) = some (isaB t.ty b) := by
  have : t.ty = "NoneType" ∨ t.ty = "bool" ∨ t.ty = "int" ∨ t.ty = "str" ∨ t.ty = "list" ∨ t.ty = "tuple" ∨ t.ty = "dict" := by
    cases t with
    | sh d => cases d <;> simp [T.ty, tyD]
    | rg _ _ => cases nr
    | _ => simp [T.ty]
  rcases this with e | e | e | e | e | e | e <;> rw [e] <;> rcases hb with rfl | rfl | rfl | rfl | rfl | rfl <;> (apply kit_ty; decide +kernel)
def evIsi (b : String) (ea : En → Rs T) : En → Rs T := fun ρ => (ea ρ).bind fun t => bif t.isRg then .bad else .ok (.sh (.bool (isaB t.ty b)))
section
variable {X : Cx} {W : WX} {a : Expr} {ta : TE} {ea : En → Rs T} {pos p p2 : Pos} {b : String}
theorem de_isi (hg : Gl X "isinstance") (hm : X.mg "isinstance" = none) (ha : DV X W a ta ea) (gb : Gl X (Str.ofString b)) (mb : X.mg (Str.ofString b) = none) (hv : bootBuiltins (Str.ofString b) = some (.type b)) (hb : b = "int" ∨ b = "bool" ∨ b = "str" ∨ b = "list" ∨ b = "tuple" ∨ b = "dict")
    (hn : (Str.ofString b) ≠ "__name__" := by decide) (hdb : (Str.ofString b == ("__debug__" : Str)) = false := by decide)
    (hs : starEach [a, .Name (Str.ofString b) p2] X.env = (false, eval a X.env) :: starEach [.Name (Str.ofString b) p2] X.env := by rfl) (hpl : (backTo pos (starEach [.Name (Str.ofString b) p2] X.env)).any (·.1) = false := by rfl) :
    DE X W (.Call (.Name "isinstance" p) [a, .Name (Str.ofString b) p2] [] pos) (tCB (rIsi X.K) (tCons ta (tCons (tC (.ty b)) tNil))) (evIsi b ea) [] := by
  refine ⟨pe_callB call_isi hg hm (by decide +kernel) (pa_cons ha.pe (pa_cons (pe_bltn gb mb hv rfl hn hdb) pa_nil) hs) (by decide) (by decide) hs hpl, fun E S φ ρ σ H Q I h => ?_⟩
  refine ha.sm E S φ ρ σ H _ I (h.bind.imp (fun x hx vx S1 H1 fx g1 qx => ?_) fun _ z => z)
  cases nr : x.isRg with
  | true => rw [nr] at hx; exact False.elim hx
  | false =>
  rw [nr] at hx
  exact ⟨vx, .ty b, _, _, _, rfl, .ty b, ty_rep g1.i qx nr, kit_isa x nr b hb, (RetM.ret (show RetM X.K S H φ [] (.sh (.bool (isaB x.ty b))) Q from hx) |>.later g1).flat g1.i fun _ => by simp only [RepD]⟩
end
/-! t.index(x) of a tuple: flat items -/
def firstAt (ds : List D) (d : D) : Option Nat := ds.findIdx? fun z => eqD z d
def fIndex (x : T) (ys : List T) : Option T := match ys with
  | [.sh d] => (match x.seqs with
    | some ds => if (flatD d && ds.all flatD) then (firstAt ds d).map fun j => .sh (.int (j : Nat)) else none
    | none => none)
  | _ => none
open PyProof.Rows in
/-- what t.index wants of a tuple -/
def rIdxT : V → List V → Hp → VK → Prop := fun x xs H Q => ∃ p ob ys y j z, x = .ref p ∧ xs = [y] ∧ H p = some (.frz ob (.tup ys)) ∧ ob.dict = none ∧ flatV y = true ∧ ys.all flatV = true ∧ ys[j]? = some z ∧ eqV z y = true ∧ (∀ m z', m < j → ys[m]? = some z' → eqV z' y = false) ∧ Q (.int (j : Nat)) H
section
open PyProof.Rows
variable {X : Cx}
theorem mt_idxT : MtR X "tuple.index" rIdxT := by
  intro pins s σ H x xs v us Q I rx rs h
  obtain ⟨p, ob, ys, y, j, z, rfl, rfl, hp, _, fy, fs, hy, hit, hno, q⟩ := h
  cases rx
  obtain ⟨u, rfl, ru⟩ := vals1 rs
  have sq : SqT X.K H p ys := .inl (.inr ⟨ob, hp⟩)
  obtain ⟨its, r, pl, hz⟩ := I.tuple sq
  obtain ⟨⟨cls, dd, dt, sl⟩, ho, hc, n, hd⟩ := pl
  simp only at hc hd
  subst hc
  subst hd
  have hl : its.length = ys.length := r.length.symm
  have hj : j < its.toArray.size := by rw [List.size_toArray, hl]; exact (List.getElem?_eq_some_iff.mp hy).1
  have at' : ∀ (m : Nat) (hm : m < its.toArray.size), ∃ y', ys[m]? = some y' ∧ RelV y' its.toArray[m] := fun m hm => by
    have hm' : m < ys.length := by rw [← hl]; simpa using hm
    obtain ⟨w, hw, hw'⟩ := r.get (i := m) (x := ys[m]) (by simp [hm'])
    refine ⟨ys[m], List.getElem?_eq_getElem hm', ?_⟩
    have e := (List.getElem?_eq_some_iff.mp hw).2
    rw [← e] at hw'
    simpa using hw'
  have fl : ∀ m y', ys[m]? = some y' → flatV y' = true := fun m y' e => List.all_eq_true.mp fs y' (List.mem_of_getElem? e)
  refine call_meets PySem.F.slot_tuple_index ⟨_, ho, rfl⟩ PySem.F.entry_tuple_index (PySem.F.args_tuple_index_2 _ _) (TI.tuple_indexAt p its.toArray n dd sl u (eqU y) j hj ?_ ?_)
    ⟨ho, fun w hw => mem_eqAt ru fy r fs w (by simpa using hw), ⟨.int (j : Nat), H, I.tok _, ⟨_, rfl⟩, q⟩⟩
  · obtain ⟨y', h1, h2⟩ := at' j hj
    rw [hy] at h1
    cases h1
    rw [eqU_of h2 (fl j _ hy)]
    exact hit
  · intro m hm hmj
    obtain ⟨y', h1, h2⟩ := at' m hm
    rw [eqU_of h2 (fl m _ h1)]
    exact hno m y' hmj h1
/-- o.index(e) on a tuple -/
def tBMt (r : V → List V → Hp → VK → Prop) (to : TE) (t : TA) : TE := fun σ H Q => to σ H fun x H1 => (∃ p ob ys, x = .ref p ∧ H1 p = some (.frz ob (.tup ys)) ∧ ob.dict = none) ∧ t σ H1 fun xs H2 => r x xs H2 Q
end
section
variable {X : Cx} {name : Str} {id : String} {r : V → List V → Hp → VK → Prop} {o e : Expr} {es : List Expr} {to : TE} {t : TA} {apos cpos : Pos}
theorem pe_bmt (pa : PlainAttrs "tuple") (slot : Slot "tuple" name id) (hty : typeOf (.builtin id) = pure (.type "method_descriptor")) (hm : MtR X id r) (ho : PE X o to) (ha : PA X (e :: es) t)
    (hbase : attributeBase o name X.env (eval o X.env) = eval o X.env := by rfl)
    (hfew : ((backTo cpos (starEach (e :: es) X.env)).all (fun x => !x.1) && (backToKw cpos (keywordEach [] X.env)).all (fun x => x.1.isSome)
      && decide ((e :: es).length + ([] : List Keyword).length + (if ([] : List Keyword).isEmpty then 0 else 1) < 30)) = true := by rfl)
    (hline : (apos.endLine == cpos.line) = true := by rfl) (hs : starEach (e :: es) X.env = (false, eval e X.env) :: starEach es X.env := by rfl) (hplain : (backTo cpos (starEach es X.env)).any (·.1) = false := by rfl) :
    PE X (.Call (.Attribute o name apos) (e :: es) [] cpos) (tBMt r to t) := by
  refine ⟨fun pins s σ H Q I h => ?_⟩
  refine wpAny_Call_method_late hbase hfew hline rfl (thn (ho.run pins s σ H _ I h) fun v s1 ⟨x, H1, I1, r1, ty, q1⟩ => ?_)
  obtain ⟨p, ob, ys, rfl, hp, hdn⟩ := ty
  cases r1
  obtain ⟨hob, _, its, iv, hit⟩ : s1.heap.get? p = some ob ∧ ys.length ≤ sizeLine ∧ ∃ its : List Value, Vals ys its ∧ PyProof.Rows.IsTup s1.heap p its.toArray := I1.hok p _ hp
  have hT : s1.TypeIs (.ref p) "tuple" := hit.typeIs
  refine ⟨"tuple", id, pa, slot, hty, hT, fun a ea => ?_, ?_⟩
  · cases ea
    exact ⟨ob, hob, hdn⟩
  have hA := ha.run cpos pins s1 σ H1 _ I1 q1
  rw [hs] at hA ⊢
  refine Calls.callWith_builtin (by show (false || (backTo cpos (starEach es X.env)).any (·.1)) = false; rw [hplain] <;> rfl) (Calls.evalArgs_plain ?_)
  refine thn hA fun us s2 ⟨vs, H2, I2, r2, q2⟩ => ?_
  exact hm pins s2 σ H2 (.ref p) vs (.ref p) us Q I2 rfl r2 q2
end
end PL
set_option Elab.async false
set_option linter.all false
set_option maxRecDepth 100000
/-! PL7: comprehensions, changes of own things. -/
namespace PL
open PySem PySem.Spec L2

/-! ### comprehensions -/
abbrev W0 : WX := fun _ _ _ _ => False
def Rs.o {α : Type} : Rs α → Option α
  | .ok a => some a
  | _ => none
theorem RsOK.of_o {α : Type} {r : Rs α} {a : α} {P : α → Prop} {X : Str → Prop} (e : r.o = some a) (h : P a) : RsOK r P X := by
  cases r with
  | ok b => cases e; exact h
  | bad => cases e
  | ex c => cases e
def compL (g : D → En → Option En) (c : En → Rs Bool) (e : En → Rs T) (ρ : En) : List D → Option (List T)
  | [] => some []
  | d :: ds => (g d ρ).bind fun ρ1 => (c ρ1).o.bind fun k => bif k then ((e ρ1).o.bind fun t => (compL g c e ρ ds).map (t :: ·)) else compL g c e ρ ds
def evComp (ei : En → Rs (List D)) (vs : List Nat) (g : D → En → Option En) (c : En → Rs Bool) (e : En → Rs T) : En → Rs T := fun ρ =>
  (ei ρ).bind fun ds => if ds.length ≤ sizeLine then (rsO (compL g c e (ρ.clr vs) ds)).bind fun ts => .ok (mkL ts) else .bad
theorem wipe_out' {σ : St} {i : Nat} : ∀ {vs : List Nat}, i ∉ vs → (wipe σ vs)[i]? = σ[i]?
  | [], _ => rfl
  | v :: vs, h => by
    simp only [List.mem_cons, not_or] at h
    unfold wipe
    rw [List.getElem?_set_ne (fun e => h.1 e.symm)]
    exact wipe_out' h.2
theorem wipe_in {σ : St} {i : Nat} : ∀ {vs : List Nat}, i ∈ vs → i < σ.length → (wipe σ vs)[i]? = some none
  | v :: vs, h, hl => by
    unfold wipe
    by_cases e : v = i
    · subst e
      rw [List.getElem?_set_self (by rw [wipe_length]; exact hl)]
    · rw [List.getElem?_set_ne e]
      exact wipe_in (by simpa [Ne.symm e, eq_comm, e] using (List.mem_cons.mp h).resolve_left fun z => e z.symm) hl
theorem wipe_eq {σ σ' : St} {vs as : List Nat} (hl : σ'.length = σ.length) (h : ∀ i, i ∉ as → σ'[i]? = (wipe σ vs)[i]?) (ha : ∀ i ∈ as, i ∈ vs) : wipe σ' vs = wipe σ vs := by
  apply List.ext_getElem?
  intro i
  by_cases hi : i ∈ vs
  · by_cases hlt : i < σ.length
    · rw [wipe_in hi (by rw [hl]; exact hlt), wipe_in hi hlt]
    · rw [List.getElem?_eq_none (by rw [wipe_length, hl]; omega), List.getElem?_eq_none (by rw [wipe_length]; omega)]
  · rw [wipe_out' hi]
    exact h i fun z => hi (ha i z)
theorem StInv.wipe {K : PySem.W.Frag} {E : Ent} {S : Hp} {φ : Nat → List Addr} {ρ : En} {σ : St} {H : Hp} (I : StInv K E S φ ρ σ H) (vs : List Nat) : StInv K E S φ (ρ.clr vs) (L2.wipe σ vs) H :=
  ⟨I.gr, by rw [clr_len, wipe_length]; exact I.len, fun i t e => by
    obtain ⟨h1, h2⟩ := clr_at vs ρ i t e
    obtain ⟨v, h3, q⟩ := I.slot i t h1
    exact ⟨v, by rw [wipe_out' h2]; exact h3, q⟩, I.nd, I.dj, I.fr⟩
structure DTs (X : Cx) (W : WX) (ifs : List Expr) (tt : TT) (ev : En → Rs Bool) : Prop where
  pt : PTs X ifs tt
  sm : SemB X.K X.mg W tt ev
def evYes : En → Rs Bool := fun _ => .ok true
theorem dts_nil {X : Cx} {W : WX} : DTs X W [] tYes evYes := ⟨pts_nil, fun E S φ ρ σ H Q I r => r S H (.refl I.gr.i)⟩
theorem dts_one {X : Cx} {W : WX} {c : Expr} {t : TT} {ev : En → Rs Bool} (h : DT X W c t ev) : DTs X W [c] t ev := ⟨pts_one h.pe, h.sm⟩
theorem RepTs.app {K : PySem.W.Frag} {S H : Hp} : ∀ {ts : List T} {vs : List V} {fp : List Addr} {t : T} {v : V} {f : List Addr}, RepTs K S H ts vs fp → RepT K S H t v f → RepTs K S H (ts ++ [t]) (vs ++ [v]) (fp ++ f)
  | [], vs, fp, t, v, f, q, r => by
    simp only [RepTs] at q
    obtain ⟨rfl, rfl⟩ := q
    simp only [List.nil_append, RepTs]
    exact ⟨v, [], f, [], rfl, by simp, r, rfl, rfl⟩
  | c :: ts, vs, fp, t, v, f, q, r => by
    simp only [RepTs] at q
    obtain ⟨w, vs', g, h, rfl, rfl, q1, q2⟩ := q
    show RepTs K S H (c :: (ts ++ [t])) (w :: (vs' ++ [v])) _
    simp only [RepTs]
    exact ⟨w, _, g, h ++ f, rfl, by rw [List.append_assoc], q1, RepTs.app q2 r⟩
/-- the list that has been made -/
theorem RetM.mkL {K : PySem.W.Frag} {S H S' H' : Hp} {φ : Nat → List Addr} {mv : List Nat} {ts : List T} {Q : VK} (r : RetM K S H φ mv (mkL ts) Q) (g : Grow S H S' H') {p : Addr} {vs : List V} {fp : List Addr}
    (hp : H' p = some (.lst vs)) (n0 : H p = none) (n1 : S' p = none) (q : RepTs K S' H' ts vs fp) (nd : fp.Nodup) (np : p ∉ fp) (f : ∀ a ∈ fp, S' a = none ∧ H a = none) : Q (.ref p) H' := by
  unfold PL.mkL at r
  cases e : T.shs ts with
  | some ds =>
    rw [e] at r
    obtain ⟨e1, q2⟩ := shs_rep e q
    refine r _ S' H' [p] g (by simp only [RepT]; exact ⟨p, vs, rfl, rfl, hp, q2⟩) (by simp) fun a ha => ?_
    have e : a = p := by simpa using ha
    subst e
    exact ⟨n1, .inl n0⟩
  | none =>
    rw [e] at r
    refine r _ S' H' (p :: fp) g (by simp only [RepT]; exact ⟨p, vs, fp, rfl, rfl, hp, q⟩) (List.nodup_cons.mpr ⟨np, nd⟩) fun a ha => ?_
    rcases List.mem_cons.mp ha with rfl | ha
    · exact ⟨n1, .inl n0⟩
    · exact ⟨(f a ha).1, .inl (f a ha).2⟩
theorem sem_comp_at {Rp : Rel} {K : PySem.W.Frag} {mg : Str → Option Value} {W : WX} {wi : TI} {ei : En → Rs (List D)} {vs as : List Nat} {g : TG} {eg : D → En → Option En} {tt : TT} {ec : En → Rs Bool} {te : TE} {ee : En → Rs T}
    {E : Ent} {S : Hp} {φ : Nat → List Addr} {ρ : En} {σ : St} {H : Hp} {Q : VK} (hi : ∀ R, RsOK (ei ρ) (fun ds => ∀ S' H' J, Grow S H S' H' → ItOK Rp S' J ds → R J H') (fun c => ∀ S' H', Grow S H S' H' → XOK mg W c σ H') → wi σ H R) (hg : SemG Rp K g eg as) (ha : ∀ i ∈ as, i ∈ vs) (ht : SemB K mg W0 tt ec) (he : SemE K mg W0 te ee []) (I : StInv K E S φ ρ σ H) (h : RsOK (evComp ei vs eg ec ee ρ) (fun t => RetM K S H φ [] t Q) (fun c => ∀ S' H', Grow S H S' H' → XOK mg W c σ H')) : tLc wi g tt te vs σ H Q := by
  refine hi _ (h.bind.imp (fun ds hds S0 H0 J g0 hJ D hD => ?_) fun _ z => z)
  by_cases hsz : ¬ ds.length ≤ sizeLine
  · rw [if_neg hsz] at hds; exact False.elim hds
  have hsz := Classical.not_not.mp hsz
  rw [if_pos hsz] at hds
  obtain ⟨tot, etot, hQ⟩ := hds.bind.rsO
  have hQ : RetM K S H φ [] (mkL tot) Q := hQ
  have nS0 : S0 D = none := g0.i.free hD
  refine ⟨fun i m H' => m = ds.length - i ∧ i ≤ ds.length ∧ ∃ S' ts us fp rest, Grow S0 H0 S' H' ∧ H' D = some (.lst us) ∧ S' D = none ∧ D ∉ fp ∧ RepTs K S' H' ts us fp ∧ fp.Nodup ∧ (∀ a ∈ fp, S' a = none ∧ H0 a = none) ∧
    ts.length ≤ i ∧ compL eg ec ee (ρ.clr vs) (ds.drop i) = some rest ∧ tot = ts ++ rest, ⟨ds.length, by simp, Nat.zero_le _, S0, [], [], [], tot, ?_, upd_same, nS0, by simp, by simp only [RepTs, and_self], .nil, (fun a ha => by cases ha), Nat.le_refl _, etot, rfl⟩, ?_⟩
  · exact .own g0.i hD
  rintro i m H' ⟨rfl, hle, S', ts, us, fp, rest, gg, hl, nD, dfp, q, nd, f, hlen, er, et⟩
  obtain ⟨h1, h2⟩ := hJ S' H' i gg.s gg.i
  by_cases hlt : i < ds.length
  · obtain ⟨hgo, hy⟩ := h1 ds[i] (by simp [hlt])
    rw [List.drop_eq_getElem_cons hlt] at er
    refine .inr ⟨hgo, fun H3 => ∃ S3 ts us fp rest, Grow S0 H0 S3 H3 ∧ H3 D = some (.lst us) ∧ S3 D = none ∧ D ∉ fp ∧ RepTs K S3 H3 ts us fp ∧ fp.Nodup ∧ (∀ a ∈ fp, S3 a = none ∧ H0 a = none) ∧
      ts.length ≤ i + 1 ∧ compL eg ec ee (ρ.clr vs) (ds.drop (i + 1)) = some rest ∧ tot = ts ++ rest, fun H3 ⟨S3, ts, us, fp, rest, z⟩ => ⟨ds.length - (i + 1), by omega, rfl, hlt, S3, ts, us, fp, rest, z⟩, fun x H2 y => ?_⟩
    obtain ⟨S2, g2, r2⟩ := hy x H2 y
    have I2 : StInv K E S2 φ (ρ.clr vs) (L2.wipe σ vs) H2 := ((I.grow g0).grow (gg.trans g2)).wipe vs
    obtain ⟨ρ1, e1, er⟩ := obind er
    refine hg E S2 φ _ _ H2 ds[i] x _ ρ1 I2 r2 e1 fun φ1 σ1 _ k1 l1 I1 => ⟨wipe_eq (by rw [l1, wipe_length]) k1 ha, ?_⟩
    obtain ⟨k, e2, er⟩ := obind er
    refine ht E S2 φ1 ρ1 σ1 H2 _ I1 (RsOK.of_o e2 fun S3 H3 g3 => ?_)
    have g23 := g2.trans g3
    cases k with
    | false =>
      rw [if_neg (by decide)]
      exact ⟨S3, ts, us, fp, rest, gg.trans g23, g23.h _ _ hl, g23.f D ⟨_, hl⟩ nD, dfp, q.grow g23.s g23.h, nd, fun a z => ⟨g23.f a (RepTs.there _ _ _ q a z) (f a z).1, (f a z).2⟩, by omega, er, et⟩
    | true =>
      rw [if_pos rfl]
      obtain ⟨t, e3, er⟩ := obind (show ((ee ρ1).o.bind fun t => (compL eg ec ee (ρ.clr vs) (ds.drop (i + 1))).map (t :: ·)) = some rest from er)
      obtain ⟨rest', e4, rfl⟩ := omap er
      refine he E S3 φ1 ρ1 σ1 H3 _ (I1.grow g3) (RsOK.of_o e3 fun v S4 H4 f4 g4 q4 n4 fr4 => ?_)
      have g24 := g23.trans g4
      have hl4 : H4 D = some (.lst us) := g24.h _ _ hl
      have nS4 : S4 D = none := g24.f D ⟨_, hl⟩ nD
      have d4 : D ∉ f4 := fun z => by
        rcases (fr4 D z).2 with w | ⟨j, hj, _⟩
        · have := g23.h _ _ hl; rw [w] at this; cases this
        · cases hj
      refine ⟨us, hl4, by rw [q.length]; omega, S4, ts ++ [t], us ++ [v], fp ++ f4, rest', ?_, upd_same, nS4, ?_, ?_, ?_, ?_, by simp; omega, e4, by rw [et]; simp⟩
      · have G := gg.trans g24
        refine ⟨fun b o e => ?_, G.s, fun b o e => ?_, G.f⟩
        · rw [upd_ne (ne_of_none e hD)]; exact G.h _ _ e
        · rw [upd_ne (ne_of_none e nS4)]; exact G.i _ _ e
      · simp only [List.mem_append, not_or]; exact ⟨dfp, d4⟩
      · have q' := q.grow g24.s g24.h
        refine RepTs.app (RepTs.frame (.refl _) _ _ _ (fun a z => upd_ne fun e => dfp (e ▸ z)) q') (RepT.frame (.refl _) _ _ _ (fun a z => upd_ne fun e => d4 (e ▸ z)) q4)
      · refine List.nodup_append.mpr ⟨nd, n4, fun a z b z' => ?_⟩
        rintro rfl
        obtain ⟨o, ho⟩ := RepTs.there _ _ _ q a z
        rcases (fr4 a z').2 with w | ⟨j, hj, _⟩
        · have := g23.h _ _ ho; rw [w] at this; cases this
        · cases hj
      · intro a z
        rcases List.mem_append.mp z with z | z
        · exact ⟨g24.f a (RepTs.there _ _ _ q a z) (f a z).1, (f a z).2⟩
        · refine ⟨(fr4 a z).1, ?_⟩
          rcases (fr4 a z).2 with w | ⟨j, hj, _⟩
          · exact (gg.trans g23).h.free w
          · cases hj
  · have e : i = ds.length := by omega
    subst e
    rw [List.drop_length] at er
    cases er
    rw [List.append_nil] at et
    subst et
    exact .inl ⟨h2 (Nat.le_refl _), hQ.mkL (g0.trans gg) hl (g0.h.free hD) nD q nd dfp fun a z => ⟨(f a z).1, g0.h.free (f a z).2⟩⟩
theorem sem_comp {Rp : Rel} {K : PySem.W.Frag} {mg : Str → Option Value} {W : WX} {wi : TI} {ei : En → Rs (List D)} {vs as : List Nat} {g : TG} {eg : D → En → Option En} {tt : TT} {ec : En → Rs Bool} {te : TE} {ee : En → Rs T}
    (hi : SemI Rp K mg W wi ei) (hg : SemG Rp K g eg as) (ha : ∀ i ∈ as, i ∈ vs) (ht : SemB K mg W0 tt ec) (he : SemE K mg W0 te ee []) : SemE K mg W (tLc wi g tt te vs) (evComp ei vs eg ec ee) [] :=
  fun E S φ ρ σ H Q I h => sem_comp_at (fun R => hi E S φ ρ σ H R I) hg ha ht he I h
section
variable {X : Cx} {W : WX} {elt tg iter : Expr} {ifs : List Expr} {scope : Scope} {own : List (Str × Nat)} {pos : Pos} {wi : TI} {ei : En → Rs (List D)} {as : List Nat} {g : TG} {eg : D → En → Option En} {tt : TT} {ec : En → Rs Bool} {te : TE} {ee : En → Rs T}
theorem de_lc {Rp : Rel} (vs : List Nat) (hc : X.calm = true) (hN : X.N.Nodup) (hi : DI Rp X W tg iter wi ei) (ok : BlkOk X.N X.env.scope scope own)
    (hg : ∀ (s : Shared) (H : Hp) (C : Addr) (cl : List (Str × Addr)) (fp : List Addr), DG Rp (X.blk s H scope (compEnvC scope cl C X.env) fp) tg g eg as)
    (ht : ∀ (s : Shared) (H : Hp) (C : Addr) (cl : List (Str × Addr)) (fp : List Addr), DTs (X.blk s H scope (compEnvC scope cl C X.env) fp) W0 ifs tt ec)
    (he : ∀ (s : Shared) (H : Hp) (C : Addr) (cl : List (Str × Addr)) (fp : List Addr), DE (X.blk s H scope (compEnvC scope cl C X.env) fp) W0 elt te ee [])
    (hv : own.map (·.2) = vs := by rfl) (ha : ∀ i ∈ as, i ∈ vs := by decide) (hs : ∀ x, foldedSetIterable iter X.env x = pure x := by intro _; rfl) :
    DE X W (.ListComp elt [⟨tg, iter, ifs, 0⟩] scope pos) (tLc wi g tt te (own.map (·.2))) (evComp ei vs eg ec ee) [] := by
  subst hv
  exact ⟨pe_lc hc hN hi.pi ok (fun s H C cl fp => (hg s H C cl fp).pg) (fun s H C cl fp => (ht s H C cl fp).pt) (fun s H C cl fp => (he s H C cl fp).pe) hs,
    sem_comp hi.sm (hg X.s_0 (fun _ => none) 0 [] []).sm ha (ht X.s_0 (fun _ => none) 0 [] []).sm (he X.s_0 (fun _ => none) 0 [] []).sm⟩
theorem ds_setLc {Rp : Rel} (i : Nat) {y : Str} {py spos : Pos} (vs : List Nat) (hc : X.calm = true) (hN : X.N.Nodup) (hi : DI Rp X W tg iter wi ei) (ok : BlkOk X.N X.env.scope scope own)
    (hg : ∀ (s : Shared) (H : Hp) (C : Addr) (cl : List (Str × Addr)) (fp : List Addr), DG Rp (X.blk s H scope (compEnvC scope cl C X.env) fp) tg g eg as)
    (ht : ∀ (s : Shared) (H : Hp) (C : Addr) (cl : List (Str × Addr)) (fp : List Addr), DTs (X.blk s H scope (compEnvC scope cl C X.env) fp) W0 ifs tt ec)
    (he : ∀ (s : Shared) (H : Hp) (C : Addr) (cl : List (Str × Addr)) (fp : List Addr), DE (X.blk s H scope (compEnvC scope cl C X.env) fp) W0 elt te ee [])
    (hy : X.N[i]? = some y := by rfl) (hyl : X.env.scope.names.lookup y = some .local := by rfl)
    (hsw : swapsWith (.ListComp elt [⟨tg, iter, ifs, 0⟩] scope pos) (some (.Name y py)) spos.line X.env = pure true := by exact sw_true rfl rfl rfl (by decide +kernel))
    (hv : own.map (·.2) = vs := by rfl) (ha : ∀ i ∈ as, i ∈ vs := by decide) (hs : ∀ x, foldedSetIterable iter X.env x = pure x := by intro _; rfl) :
    DS X W (.Assign [.Name y py] (.ListComp elt [⟨tg, iter, ifs, 0⟩] scope pos) spos) (tAsg (tLc wi g tt te (own.map (·.2))) (gName i)) (sSet i [] (evComp ei vs eg ec ee)) [i] := by
  subst hv
  exact ⟨ps_setLc hc hN hy hyl hsw hi.pi ok (fun s H C cl fp => (hg s H C cl fp).pg) (fun s H C cl fp => (ht s H C cl fp).pt) (fun s H C cl fp => (he s H C cl fp).pe) hs,
    sem_set i (sem_comp hi.sm (hg X.s_0 (fun _ => none) 0 [] []).sm ha (ht X.s_0 (fun _ => none) 0 [] []).sm (he X.s_0 (fun _ => none) 0 [] []).sm)⟩
end
end PL
set_option Elab.async false
set_option linter.all false
set_option maxRecDepth 100000
/-! PL8: changes of own things. -/
namespace PL
open PySem PySem.Spec L2

theorem StInv.write {K : PySem.W.Frag} {E : Ent} {S : Hp} {φ : Nat → List Addr} {ρ : En} {σ : St} {H : Hp} {mv : List Nat} {t0 t : T} {v : V} {fp : List Addr} {o : HO} {l : Addr} (i : Nat) (I : StInv K E S φ ρ σ H) (hl : l ∈ φ i) (h0 : ρ[i]? = some (some t0)) (hv : σ[i]? = some (some v))
    (q : RepT K S (upd H l o) t v fp) (nd : fp.Nodup) (f : ∀ a ∈ fp, a ∈ φ i ∨ (S a = none ∧ E.H a = none ∧ (∃ o, H a = some o) ∧ ∀ j, a ∈ φ j → j ∈ mv)) (hi : i ∉ mv) :
    StInv K E S (fun j => if j = i then fp else if j ∈ mv then [] else φ j) ((ρ.clr mv).put i (some t)) σ (upd H l o) := by
  obtain ⟨s1, s2, o1, s3⟩ := I.fr i l hl
  have there : ∀ a, (∃ x, H a = some x) → ∃ x, upd H l o a = some x := fun a ⟨x, hx⟩ => by
    by_cases e : a = l
    · subst e; exact ⟨o, upd_same⟩
    · exact ⟨x, by rw [upd_ne e]; exact hx⟩
  refine ⟨⟨fun b x e => ?_, I.gr.s, fun b x e => ?_, I.gr.f⟩, by rw [put_eq, List.length_set, clr_len]; exact I.len, fun j t' hj => ?_, fun j => ?_, fun j k a h1 h2 => ?_, fun j a ha => ?_⟩
  · rw [upd_ne (ne_of_none e s2)]; exact I.gr.h _ _ e
  · rw [upd_ne (ne_of_none e s1)]; exact I.gr.i _ _ e
  · rw [put_eq] at hj
    by_cases e : i = j
    · subst e
      have hlt : i < (ρ.clr mv).length := by rw [clr_len]; exact (List.getElem?_eq_some_iff.mp h0).1
      rw [List.getElem?_set_self hlt] at hj
      simp only [Option.some.injEq] at hj
      subst hj
      refine ⟨v, hv, ?_⟩
      rw [if_pos rfl]; exact q
    · rw [List.getElem?_set_ne e] at hj
      obtain ⟨h1, h2⟩ := clr_at mv ρ j t' hj
      obtain ⟨w, h3, r⟩ := I.slot j t' h1
      refine ⟨w, h3, ?_⟩
      rw [if_neg (fun z => e z.symm), if_neg h2]
      exact RepT.frame (.refl _) _ _ _ (fun a ha => upd_ne fun z => e (I.dj i j l hl (z ▸ ha))) r
  · show (if j = i then fp else if j ∈ mv then [] else φ j).Nodup
    split
    · exact nd
    · split
      · exact .nil
      · exact I.nd j
  · have key : ∀ {k : Nat}, a ∈ fp → k ≠ i → k ∉ mv → a ∈ φ k → False := fun {k} h1 hk hm h2 => by
      rcases f a h1 with z | ⟨_, _, _, z⟩
      · exact hk (I.dj k i a h2 z)
      · exact hm (z k h2)
    by_cases ej : j = i
    · by_cases ek : k = i
      · rw [ej, ek]
      · rw [if_pos ej] at h1
        rw [if_neg ek] at h2
        by_cases hk : k ∈ mv
        · rw [if_pos hk] at h2; cases h2
        · rw [if_neg hk] at h2
          exact (key h1 ek hk h2).elim
    · rw [if_neg ej] at h1
      by_cases hj : j ∈ mv
      · rw [if_pos hj] at h1; cases h1
      · rw [if_neg hj] at h1
        by_cases ek : k = i
        · rw [if_pos ek] at h2
          exact (key h2 ej hj h1).elim
        · rw [if_neg ek] at h2
          by_cases hk : k ∈ mv
          · rw [if_pos hk] at h2; cases h2
          · rw [if_neg hk] at h2
            exact I.dj j k a h1 h2
  · by_cases ej : j = i
    · rw [if_pos ej] at ha
      rcases f a ha with z | ⟨z1, z2, z3, _⟩
      · obtain ⟨h1, h2, h3⟩ := I.fr i a z
        exact ⟨h1, h2, there a h3⟩
      · exact ⟨z1, z2, there a z3⟩
    · rw [if_neg ej] at ha
      by_cases hj : j ∈ mv
      · rw [if_pos hj] at ha; cases ha
      · rw [if_neg hj] at ha
        obtain ⟨h1, h2, h3⟩ := I.fr j a ha
        exact ⟨h1, h2, there a h3⟩
/-- what a value that was made ahead of the change holds -/
theorem StInv.apart {K : PySem.W.Frag} {E : Ent} {S S1 : Hp} {φ : Nat → List Addr} {ρ : En} {σ : St} {H H1 : Hp} {mv : List Nat} {t : T} {v : V} {fp : List Addr} (I : StInv K E S φ ρ σ H) (g : Grow S H S1 H1) (q : RepT K S1 H1 t v fp)
    (f : ∀ a ∈ fp, S1 a = none ∧ (H a = none ∨ ∃ i ∈ mv, a ∈ φ i)) : ∀ a ∈ fp, S1 a = none ∧ E.H a = none ∧ (∃ o, H1 a = some o) ∧ ∀ j, a ∈ φ j → j ∈ mv := fun a ha => by
  obtain ⟨h1, h2⟩ := f a ha
  refine ⟨h1, ?_, RepT.there _ _ _ q a ha, fun j hj => ?_⟩
  · rcases h2 with z | ⟨k, _, hk⟩
    · exact I.gr.h.free z
    · exact (I.fr k a hk).2.1
  · rcases h2 with z | ⟨k, hk, hm⟩
    · obtain ⟨o, ho⟩ := (I.fr j a hj).2.2
      rw [z] at ho; cases ho
    · exact I.dj k j a hm hj ▸ hk
theorem reps_sh {K : PySem.W.Frag} {S H : Hp} : ∀ {ds : List D} {vs : List V}, RepDs S ds vs → RepTs K S H (ds.map .sh) vs []
  | [], vs, q => by simp only [RepDs] at q; subst q; simp only [List.map_nil, RepTs, and_self]
  | d :: ds, vs, q => by
    simp only [RepDs] at q
    obtain ⟨v, r, rfl, q1, q2⟩ := q
    simp only [List.map_cons, RepTs]
    exact ⟨v, r, [], [], rfl, rfl, rep_d q1, reps_sh q2⟩

/-! ### x.append(e) -/
def appT (c t : T) : Option T := match c with
  | .ol ds => if ds.length < sizeLine then (match t with
    | .sh d => some (.ol (ds ++ [d]))
    | .scr _ => none
    | t => some (.ot (ds.map .sh ++ [t]))) else none
  | .ot ts => if ts.length < sizeLine then (match t with
    | .scr _ => none
    | t => some (.ot (ts ++ [t]))) else none
  | _ => none
def T.isL : T → Bool
  | .ol _ => true
  | .ot _ => true
  | _ => false
def outO {α : Type} (o : Option α) (k : α → Out) : Out := match o with
  | none => .bad
  | some a => k a
def sApp (i : Nat) (mv : List Nat) (ev : En → Rs T) : En → Out := fun ρ => outO (ρ.get i) fun c => bif c.isL then rsK (ev ρ) ρ fun t => outO (appT c t) fun c' => .nx ((ρ.clr mv).put i (some c')) else .bad
theorem OutOK.outO {K : PySem.W.Frag} {mg : Str → Option Value} {W : WX} {E : Ent} {S : Hp} {σ : St} {as : List Nat} {D : Ends} {α : Type} {o : Option α} {k : α → Out} (h : OutOK K mg W E S σ as (outO o k) D) : ∃ a, o = some a ∧ OutOK K mg W E S σ as (k a) D := by
  cases o with
  | none => exact False.elim h
  | some a => exact ⟨a, rfl, h⟩
theorem isL_rep {K : PySem.W.Frag} {S H : Hp} {c : T} {v : V} {fp : List Addr} (h : c.isL = true) (q : RepT K S H c v fp) : ∃ l us, v = .ref l ∧ H l = some (.lst us) := by
  cases c with
  | ol ds => simp only [RepT] at q; obtain ⟨l, us, e1, e2, hl, _⟩ := q; exact ⟨l, us, e1, hl⟩
  | ot ts => simp only [RepT] at q; obtain ⟨l, us, g, e1, e2, hl, _⟩ := q; exact ⟨l, us, e1, hl⟩
  | _ => cases h
theorem En.get_some {ρ : En} {i : Nat} {t : T} (h : ρ.get i = some t) : ρ[i]? = some (some t) := (En.get_eq _ _ _).mp h
theorem app_rep {K : PySem.W.Frag} {S H : Hp} {c t c' : T} {v w : V} {fp f : List Addr} (e : appT c t = some c') (q : RepT K S H c v fp) (r : RepT K S H t w f) (dj : ∀ a ∈ fp, a ∉ f) (nd : fp.Nodup) (nf : f.Nodup) :
    ∃ l us g, v = .ref l ∧ fp = l :: g ∧ H l = some (.lst us) ∧ us.length < sizeLine ∧ RepT K S (upd H l (.lst (us ++ [w]))) c' v (fp ++ f) := by
  have own : ∀ {l : Addr} {us : List V} {g : List Addr} {ts : List T}, v = .ref l → fp = l :: g → H l = some (.lst us) → RepTs K S H ts us g → RepT K S (upd H l (.lst (us ++ [w]))) (.ot (ts ++ [t])) v (fp ++ f) := fun {l us g ts} e1 e2 hl qq => by
    subst e1
    subst e2
    simp only [RepT]
    have nl : l ∉ g := (List.nodup_cons.mp nd).1
    have nf' : l ∉ f := dj l (by simp)
    refine ⟨l, us ++ [w], g ++ f, rfl, rfl, upd_same, ?_⟩
    exact RepTs.app (RepTs.frame (.refl _) _ _ _ (fun a z => upd_ne fun e => nl (e ▸ z)) qq) (RepT.frame (.refl _) _ _ _ (fun a z => upd_ne fun e => nf' (e ▸ z)) r)
  unfold appT at e
  split at e
  · rename_i ds
    split at e
    · rename_i hlt
      simp only [RepT] at q
      obtain ⟨l, us, e1, e2, hl, q⟩ := q
      refine ⟨l, us, [], e1, e2, hl, by rw [q.length]; exact hlt, ?_⟩
      cases t with
      | sh d =>
        cases e
        simp only [RepT] at r
        obtain ⟨rfl, r⟩ := r
        subst e1
        subst e2
        simp only [RepT]
        exact ⟨l, _, rfl, rfl, upd_same, q.app (.one r)⟩
      | scr _ => cases e
      | ol _ => cases e; exact own e1 e2 hl (reps_sh q)
      | od _ => cases e; exact own e1 e2 hl (reps_sh q)
      | ot _ => cases e; exact own e1 e2 hl (reps_sh q)
      | tu _ => cases e; exact own e1 e2 hl (reps_sh q)
      | rg _ _ => cases e; exact own e1 e2 hl (reps_sh q)
    · cases e
  · rename_i ts
    split at e
    · rename_i hlt
      simp only [RepT] at q
      obtain ⟨l, us, g, e1, e2, hl, q⟩ := q
      refine ⟨l, us, g, e1, e2, hl, by rw [q.length]; exact hlt, ?_⟩
      cases t with
      | scr _ => cases e
      | sh d => cases e; exact own e1 e2 hl q
      | ol _ => cases e; exact own e1 e2 hl q
      | od _ => cases e; exact own e1 e2 hl q
      | ot _ => cases e; exact own e1 e2 hl q
      | tu _ => cases e; exact own e1 e2 hl q
      | rg _ _ => cases e; exact own e1 e2 hl q
    · cases e
  · cases e
section
variable {X : Cx} {W : WX} {e : Expr} {te : TE} {ev : En → Rs T} {pos apos cpos np : Pos} {x : Str}
theorem sem_app {K : PySem.W.Frag} {mg : Str → Option Value} {mv : List Nat} (i : Nat) (h : SemE K mg W te ev mv) (hi : i ∉ mv) : SemS K mg W (tDrop (tBM K "list" rAppend (tVar i) (tCons te tNil))) (sApp i mv ev) [] := by
  intro E S φ ρ σ H D I q
  obtain ⟨c, ec, q⟩ := OutOK.outO (show OutOK K mg W E S σ [] (outO (ρ.get i) _) D from q)
  obtain ⟨v, hv, qc⟩ := I.slot i c (En.get_some ec)
  cases hL : c.isL with
  | false => rw [hL] at q; exact False.elim q
  | true =>
    rw [hL] at q
    obtain ⟨l0, us0, rfl, hl0⟩ := isL_rep hL qc
    refine ⟨_, hv, .inl ⟨rfl, us0, .of hl0⟩, ?_⟩
    refine h E S φ ρ σ H _ I ((OutOK.rsK I q).imp (fun t ht w S1 H1 f g1 r n fr => ?_) fun _ z => z)
    obtain ⟨c', ea, ht⟩ := ht.outO
    have I1 := I.grow g1
    have ap := I.apart g1 r fr
    have qc1 := qc.grow g1.s g1.h
    obtain ⟨l, us, g, e1, e2, hl, hlt, q'⟩ := app_rep ea qc1 r (fun a ha hf => hi ((ap a hf).2.2.2 i ha)) (I.nd i) n
    cases e1
    refine ⟨l0, us, w, rfl, rfl, hl, hlt, ?_⟩
    refine ht S1 _ σ _ ⟨g1.s, fun _ _ => rfl⟩ (I1.write (mv := mv) (l := l0) i (by rw [e2]; simp) (En.get_some ec) hv q' ?_ (fun a ha => ?_) hi)
    · exact List.nodup_append.mpr ⟨I.nd i, n, fun a ha b hb e => hi ((ap b hb).2.2.2 i (e ▸ ha))⟩
    · rcases List.mem_append.mp ha with z | z
      · exact .inl z
      · exact .inr (ap a z)
theorem ds_app (i : Nat) {mv : List Nat} (he : DE X W e te ev mv) (hi : i ∉ mv := by decide) (hN : X.N[i]? = some x := by rfl) (hv : Vis X.env.scope x := by first | exact Or.inl rfl | exact Or.inr (Or.inl rfl) | exact Or.inr (Or.inr rfl)) (hd : (x == ("__debug__" : Str)) = false := by decide)
    (hcd : (x == ("__classdict__" : Str)) = false := by decide)
    (hbase : attributeBase (.Name x np) "append" X.env (eval (.Name x np) X.env) = eval (.Name x np) X.env := by rfl)
    (hfew : ((backTo cpos (starEach [e] X.env)).all (fun x => !x.1) && (backToKw cpos (keywordEach [] X.env)).all (fun x => x.1.isSome)
      && decide ([e].length + ([] : List Keyword).length + (if ([] : List Keyword).isEmpty then 0 else 1) < 30)) = true := by rfl)
    (hline : (apos.endLine == cpos.line) = true := by rfl) (hs : starEach [e] X.env = (false, eval e X.env) :: starEach [] X.env := by rfl) (hplain : (backTo cpos (starEach ([] : List Expr) X.env)).any (·.1) = false := by rfl)
    (hsw : swapsWith (.Call (.Attribute (.Name x np) "append" apos) [e] [] cpos) none pos.line X.env = pure false := by rfl) :
    DS X W (.Expr (.Call (.Attribute (.Name x np) "append" apos) [e] [] cpos) pos) (tDrop (tBM X.K "list" rAppend (tVar i) (tCons te tNil))) (sApp i mv ev) [] :=
  ⟨ps_expr (pe_bm PySem.F.plainAttrs_list PySem.F.slot_list_append PySem.F.type_list_append mt_append (pe_var hN hv hd hcd) (pa_cons he.pe pa_nil hs) hbase hfew hline hs hplain) hsw, sem_app i he.sm hi⟩

/-! ### x[i] = e on an own list -/
def setT (c : T) (k : Int) (d : D) : Option T := match c with
  | .ol ds => (ixN ds.length k).map fun j => .ol (ds.set j d)
  | _ => none
def T.asD : T → Option D
  | .sh d => some d
  | _ => none
def sPut (i : Nat) (ek ev : En → Rs T) : En → Out := fun ρ => outO (ρ.get i) fun c => rsK (ev ρ) ρ fun t => outO t.asD fun d => rsK (ek ρ) ρ fun k => outO k.asI fun k => outO (setT c k d) fun c' => .nx (ρ.put i (some c'))
theorem sem_put {K : PySem.W.Frag} {mg : Str → Option Value} {tk : TE} {ek : En → Rs T} (i : Nat) (h : SemV K mg W te ev) (hk : SemV K mg W tk ek) : SemS K mg W (tAsg te (gSub (tVar i) tk rSetL)) (sPut i ek ev) [] := by
  intro E S φ ρ σ H D I q
  obtain ⟨c, ec, q⟩ := OutOK.outO (show OutOK K mg W E S σ [] (outO (ρ.get i) _) D from q)
  obtain ⟨v, hv, qc⟩ := I.slot i c (En.get_some ec)
  refine h E S φ ρ σ H _ I ((OutOK.rsK I q).imp (fun t ht w S1 H1 f g1 r => ⟨v, hv, ?_⟩) fun _ z => z)
  obtain ⟨d, ed, ht⟩ := ht.outO
  have I1 := I.grow g1
  have ht1 := OutOK.later (as := []) ht ⟨g1.s, fun _ _ => rfl⟩ [] (fun _ z => z) fun _ z => z
  refine hk E S1 φ ρ σ H1 _ I1 ((OutOK.rsK I1 ht1).imp (fun k hk' kv S2 H2 fk g2 rk => ?_) fun _ z => z)
  obtain ⟨k, ek', hk'⟩ := hk'.outO
  obtain ⟨c', ea, hk'⟩ := hk'.outO
  have I2 := I1.grow g2
  have g12 := g1.trans g2
  have qc2 := qc.grow g12.s g12.h
  have hset : ∃ ds j, c = .ol ds ∧ ixN ds.length k = some j ∧ T.ol (ds.set j d) = c' := by
    cases c with
    | ol ds =>
      obtain ⟨j, ej, e3⟩ := omap (show (ixN ds.length k).map (fun j => T.ol (ds.set j d)) = some c' from ea)
      exact ⟨ds, j, rfl, ej, e3⟩
    | _ => cases ea
  · obtain ⟨ds, j, rfl, ej, rfl⟩ := hset
    have rd : RepD S2 d w := by
      unfold T.asD at ed
      split at ed
      · cases ed
        simp only [RepT] at r
        exact RepD.mono g2.s _ _ r.2
      · cases ed
    simp only [RepT] at qc2
    obtain ⟨l, us, rfl, e2, hl, qs⟩ := qc2
    refine ⟨l, us, k, j, rfl, asI_rep rk ek', hl, by rw [qs.length]; exact ej, ?_⟩
    have I3 := I2.write (mv := []) (l := l) (o := .lst (us.set j w)) (t := .ol (ds.set j d)) (fp := [l]) i (by rw [e2]; simp) (En.get_some ec) hv (by simp only [RepT]; exact ⟨l, _, rfl, rfl, upd_same, qs.set j rd⟩) (by simp) (fun a ha => .inl (by rw [e2]; exact ha)) (by simp)
    exact hk' S2 _ σ _ ⟨g2.s, fun _ _ => rfl⟩ I3
theorem ds_put (i : Nat) {k : Expr} {tk : TE} {ek : En → Rs T} {spos : Pos} (he : DV X W e te ev) (hk : DV X W k tk ek) (hN : X.N[i]? = some x := by rfl) (hv : Vis X.env.scope x := by first | exact Or.inl rfl | exact Or.inr (Or.inl rfl) | exact Or.inr (Or.inr rfl)) (hd : (x == ("__debug__" : Str)) = false := by decide)
    (hcd : (x == ("__classdict__" : Str)) = false := by decide)
    (ha : ∀ v, assign (.Subscript (.Name x np) k spos) X.env v = (do
      let ov ← holding [v] (eval (.Name x np) X.env)
      let iv ← holding [v, ov] (eval k X.env)
      standAt spos
      holding [v, ov, iv] (setItem ov iv v)
      release [v, ov, iv] []) := by intro _; rfl)
    (hs : swapsWithSole [.Subscript (.Name x np) k spos] e pos.line X.env = pure false := by rfl) (hw : swappedStores [.Subscript (.Name x np) k spos] e X.env = pure none := by rfl)
    (h1 : (assignEach [.Subscript (.Name x np) k spos] X.env).map (·.2) = [assign (.Subscript (.Name x np) k spos) X.env] := by rfl) :
    DS X W (.Assign [.Subscript (.Name x np) k spos] e pos) (tAsg te (gSub (tVar i) tk rSetL)) (sPut i ek ev) [] :=
  ⟨ps_asg he.pe (pg_sub (pe_var hN hv hd hcd) hk.pe set_list ha) hs hw h1, sem_put i he.sm hk.sm⟩

/-! ### x op= e, numbers and texts -/
theorem sem_aug {K : PySem.W.Frag} {mg : Str → Option Value} {r : R2} {f : T → T → Option T} (i : Nat) (hs : SemOp K r f) (h : SemV K mg W te ev) : SemS K mg W (tAug i te r) (sSet i [] (evBin f (evVar i) ev)) [i] := by
  intro E S φ ρ σ H D I q
  have q1 := (OutOK.rsK I q).bind
  obtain ⟨c, ec, q1⟩ := (show RsOK (rsO (ρ.get i)) _ _ from q1).rsO
  obtain ⟨v, hv, qc⟩ := I.slot i c (En.get_some ec)
  refine ⟨v, hv, ?_⟩
  refine h E S φ ρ σ H _ I ((RsOK.bind q1).imp (fun t ht w S1 H1 fw g1 rw' => ?_) fun _ z => z)
  obtain ⟨t', et, ht⟩ := ht.rsO
  refine hs S1 H1 c t v w (φ i) fw _ t' g1.i (qc.grow g1.s g1.h) rw' et (fun z S2 H2 fz g2 rz nz fz' => ?_)
  have g := g1.trans g2
  exact ht S2 _ _ H2 (.set g.s) (I.store (mv := []) i g rz nz fun a ha => ⟨(fz' a ha).1, .inl (g1.h.free (fz' a ha).2)⟩)
theorem ds_aug (i : Nat) {op : Operator} {r : R2} {f : T → T → Option T} (hN : X.N.Nodup) (ho : OpR X (inplaceOp op) r) (hs : SemOp X.K r f) (he : DV X W e te ev) (hi : X.N[i]? = some x := by rfl) (hx : Loc X.env.scope x := by first | exact Or.inl rfl | exact Or.inr rfl) (hf : X.fn x = true ∨ X.env.scope.names.lookup x = some .local := by first | exact .inl rfl | exact .inr rfl | assumption) :
    DS X W (.AugAssign (.Name x np) op e pos) (tAug i te r) (sSet i [] (evBin f (evVar i) ev)) [i] :=
  ⟨ps_aug hN hi hx he.pe (fun pins s σ H x y v u Q I rx ry h => ho pins s σ H x y v u Q I rx ry h) hf, sem_aug i hs he.sm⟩
def rIPlus : R2 := orR (rI' fun i j => i + j) rStrAdd
theorem iop_plus {X : Cx} : OpR X (inplaceOp .Add) rIPlus := iop_add.or iop_add_str
def fIAdd (x y : T) : Option T := (f2I (fun i j => some (.int (i + j))) x y).or (fStrAdd x y)
theorem sem_iadd {K : PySem.W.Frag} : SemOp K rIPlus fIAdd := sem_I0.or (sem_strAdd (K := K))

/-! ### a, b = e -/
def T.parts : T → Option (List T)
  | .sh (.tuple ds) => some (ds.map .sh)
  | .tu ts => some ts
  | _ => none
/-- slots take the values one behind another -/
def putAll : List Nat → List T → En → Option En
  | [], [], ρ => some ρ
  | i :: is, t :: ts, ρ => putAll is ts (ρ.put i (some t))
  | _, _, _ => none
def sUnp (is : List Nat) (mv : List Nat) (ev : En → Rs T) : En → Out := fun ρ => rsK (ev ρ) ρ fun t => outO t.parts fun ts => outO (putAll is ts (ρ.clr mv)) .nx
def gNames : List Nat → TGs
  | [] => gNil
  | i :: is => gCons (gName i) (gNames is)
/-- the values ts at vs, their things at fps, laid into slots one behind another -/
theorem putAll_ok {K : PySem.W.Frag} {E : Ent} {S : Hp} {H : Hp} : ∀ {is : List Nat} {ts : List T} {vs : List V} {fp : List Addr} {φ : Nat → List Addr} {ρ ρ' : En} {σ : St} {Q : St → Hp → Prop}, StInv K E S φ ρ σ H → RepTs K S H ts vs fp → fp.Nodup →
    (∀ a ∈ fp, S a = none ∧ E.H a = none ∧ ∀ j, a ∉ φ j) → putAll is ts ρ = some ρ' → (∀ φ' σ', (∀ i, i ∉ is → σ'[i]? = σ[i]?) → StInv K E S φ' ρ' σ' H → Q σ' H) → gNames is vs σ H Q
  | [], [], vs, fp, φ, ρ, ρ', σ, Q, I, q, nd, f, e, k => by
    cases e
    simp only [RepTs] at q
    exact ⟨q.1, k φ σ (fun _ _ => rfl) I⟩
  | [], t :: ts, vs, fp, φ, ρ, ρ', σ, Q, I, q, nd, f, e, k => by cases e
  | i :: is, [], vs, fp, φ, ρ, ρ', σ, Q, I, q, nd, f, e, k => by cases e
  | i :: is, t :: ts, vs, fp, φ, ρ, ρ', σ, Q, I, q, nd, f, e, k => by
    simp only [RepTs] at q
    obtain ⟨v, r, f1, f2, rfl, rfl, q1, q2⟩ := q
    obtain ⟨n1, n2, n3⟩ := List.nodup_append.mp nd
    refine ⟨v, r, rfl, ?_⟩
    -- slot i
    have I1 : StInv K E S (fun j => if j = i then f1 else φ j) (ρ.put i (some t)) (σ.set i (some v)) H := by
      refine ⟨I.gr, by rw [put_eq, List.length_set, List.length_set]; exact I.len, fun j t' hj => ?_, fun j => ?_, fun j l a h1 h2 => ?_, fun j a ha => ?_⟩
      · rw [put_eq] at hj
        by_cases ej : i = j
        · subst ej
          have hlt : i < ρ.length := by
            by_cases hl : i < ρ.length
            · exact hl
            · rw [List.getElem?_eq_none (by simpa using hl)] at hj; cases hj
          rw [List.getElem?_set_self hlt] at hj
          cases hj
          exact ⟨v, List.getElem?_set_self (by rw [← I.len]; exact hlt), by rw [if_pos rfl]; exact q1⟩
        · rw [List.getElem?_set_ne ej] at hj
          obtain ⟨w, h3, r'⟩ := I.slot j t' hj
          exact ⟨w, by rw [List.getElem?_set_ne ej]; exact h3, by rw [if_neg (fun z => ej z.symm)]; exact r'⟩
      · show (if j = i then f1 else φ j).Nodup
        split
        · exact n1
        · exact I.nd j
      · by_cases ej : j = i
        · rw [if_pos ej] at h1
          by_cases el : l = i
          · rw [ej, el]
          · rw [if_neg el] at h2
            exact absurd h2 ((f a (List.mem_append_left _ h1)).2.2 l)
        · rw [if_neg ej] at h1
          by_cases el : l = i
          · rw [if_pos el] at h2
            exact absurd h1 ((f a (List.mem_append_left _ h2)).2.2 j)
          · rw [if_neg el] at h2
            exact I.dj j l a h1 h2
      · by_cases ej : j = i
        · rw [if_pos ej] at ha
          obtain ⟨z1, z2, _⟩ := f a (List.mem_append_left _ ha)
          exact ⟨z1, z2, RepT.there _ _ _ q1 a ha⟩
        · rw [if_neg ej] at ha
          exact I.fr j a ha
    refine putAll_ok I1 q2 n2 (fun a ha => ?_) e fun φ' σ' k' I' => k φ' σ' (fun j hj => ?_) I'
    · obtain ⟨z1, z2, z3⟩ := f a (List.mem_append_right _ ha)
      refine ⟨z1, z2, fun j => ?_⟩
      by_cases ej : j = i
      · rw [if_pos ej]; exact fun z => n3 a z a ha rfl
      · rw [if_neg ej]; exact z3 j
    · simp only [List.mem_cons, not_or] at hj
      rw [k' j hj.2, List.getElem?_set_ne fun e => hj.1 e.symm]
theorem StInv.clrd {K : PySem.W.Frag} {E : Ent} {S : Hp} {φ : Nat → List Addr} {ρ : En} {σ : St} {H : Hp} (I : StInv K E S φ ρ σ H) (mv : List Nat) : StInv K E S (fun j => if j ∈ mv then [] else φ j) (ρ.clr mv) σ H := by
  refine ⟨I.gr, by rw [clr_len]; exact I.len, fun j t hj => ?_, fun j => ?_, fun j l a h1 h2 => ?_, fun j a ha => ?_⟩
  · obtain ⟨h1, h2⟩ := clr_at mv ρ j t hj
    obtain ⟨w, h3, r⟩ := I.slot j t h1
    exact ⟨w, h3, by rw [if_neg h2]; exact r⟩
  · show (if j ∈ mv then [] else φ j).Nodup
    split
    · exact .nil
    · exact I.nd j
  · by_cases hj : j ∈ mv
    · rw [if_pos hj] at h1; cases h1
    · rw [if_neg hj] at h1
      by_cases hk : l ∈ mv
      · rw [if_pos hk] at h2; cases h2
      · rw [if_neg hk] at h2
        exact I.dj j l a h1 h2
  · by_cases hj : j ∈ mv
    · rw [if_pos hj] at ha; cases ha
    · rw [if_neg hj] at ha
      exact I.fr j a ha
theorem parts_rep {K : PySem.W.Frag} {S H : Hp} {t : T} {v : V} {fp : List Addr} {ts : List T} (i : Same S H) (e : t.parts = some ts) (q : RepT K S H t v fp) : ∃ p us f, v = .ref p ∧ SqT K H p us ∧ RepTs K S H ts us f ∧ (∀ a ∈ f, a ∈ fp) ∧ (fp.Nodup → f.Nodup) := by
  unfold T.parts at e
  split at e
  · cases e
    have q := rep_sh q
    simp only [RepD] at q
    obtain ⟨p, us, rfl, h, r⟩ := q
    exact ⟨p, us, [], rfl, (h.same (i _)).sq, reps_sh r, (fun a ha => by cases ha), fun _ => List.Pairwise.nil⟩
  · cases e
    simp only [RepT] at q
    obtain ⟨p, us, f, rfl, rfl, h, r⟩ := q
    exact ⟨p, us, f, rfl, h.sq, r, fun a ha => List.mem_cons_of_mem _ ha, fun n => (List.nodup_cons.mp n).2⟩
  · cases e
theorem putAll_len : ∀ {is : List Nat} {ts : List T} {ρ ρ' : En}, putAll is ts ρ = some ρ' → ts.length = is.length
  | [], [], _, _, _ => rfl
  | [], _ :: _, _, _, e => by cases e
  | _ :: _, [], _, _, e => by cases e
  | i :: is, t :: ts, ρ, ρ', e => by
    show ts.length + 1 = is.length + 1
    rw [putAll_len (show putAll is ts (ρ.put i (some t)) = some ρ' from e)]
theorem sem_unp {K : PySem.W.Frag} {mg : Str → Option Value} {mv is : List Nat} (h : SemE K mg W te ev mv) : SemS K mg W (tAsg te (gTup K is.length (gNames is))) (sUnp is mv ev) is := by
  intro E S φ ρ σ H D I q
  refine h E S φ ρ σ H _ I ((OutOK.rsK I q).imp (fun t ht w S1 H1 f g1 r n fr => ?_) fun _ z => z)
  obtain ⟨ts, et, ht⟩ := ht.outO
  obtain ⟨ρ', ep, ht⟩ := ht.outO
  obtain ⟨p, us, f', rfl, sq, rs, sub, nd⟩ := parts_rep g1.i et r
  have ap := I.apart g1 r fr
  refine ⟨p, us, rfl, sq, by rw [rs.length]; exact putAll_len ep, ?_⟩
  refine putAll_ok ((I.grow g1).clrd mv) rs (nd n) (fun a ha => ?_) ep fun φ' σ' k I' => ht S1 φ' σ' H1 ⟨g1.s, k⟩ I'
  obtain ⟨z1, z2, _, z3⟩ := ap a (sub a ha)
  refine ⟨z1, z2, fun j => ?_⟩
  by_cases hj : j ∈ mv
  · rw [if_pos hj]; simp
  · rw [if_neg hj]; exact fun z => hj (z3 j z)
/-- targets that are plain names -/
structure DN (X : Cx) (ts : List Expr) (is : List Nat) : Prop where
  pg : PGs X ts (gNames is)
theorem dn_nil : DN X [] [] := ⟨pgs_nil⟩
theorem dn_cons (i : Nat) {r : List Expr} {is : List Nat} (hN : X.N.Nodup) (h : DN X r is) (hi : X.N[i]? = some x := by rfl) (hx : Loc X.env.scope x := by first | exact Or.inl rfl | exact Or.inr rfl) (hf : X.fn x = true ∨ X.env.scope.names.lookup x = some .local := by first | exact .inl rfl | exact .inr rfl | assumption)
    (hs : (assignEach (.Name x np :: r) X.env).map (·.2) = assign (.Name x np) X.env :: (assignEach r X.env).map (·.2) := by rfl) : DN X (.Name x np :: r) (i :: is) :=
  ⟨pgs_cons (pg_name hN hi hx hf) h.pg hs⟩
theorem ds_unp {es : List Expr} {is mv : List Nat} {k : Nat} {tpos : Pos} (hc : X.calm = true) (hn : DN X es is) (he : DE X W e te ev mv) (hl : (assignEach es X.env).length = is.length := by rfl) (hst : (assignEach es X.env).findIdx? (·.1) = none := by rfl)
    (hs : swapsWithSole [.Tuple es k tpos] e pos.line X.env = pure false := by rfl) (hw : swappedStores [.Tuple es k tpos] e X.env = pure none := by rfl)
    (h1 : (assignEach [.Tuple es k tpos] X.env).map (·.2) = [assign (.Tuple es k tpos) X.env] := by rfl) :
    DS X W (.Assign [.Tuple es k tpos] e pos) (tAsg te (gTup X.K is.length (gNames is))) (sUnp is mv ev) is :=
  ⟨ps_asg he.pe (pg_tup hc hn.pg hl hst) hs hw h1, sem_unp he.sm⟩
/-- an expression whose value is dropped -/
def sDrop (ev : En → Rs T) : En → Out := fun ρ => rsK (ev ρ) ρ fun _ => .nx ρ
theorem ds_expr (he : DE X W e te ev []) (hs : swapsWith e none pos.line X.env = pure false := by rfl) : DS X W (.Expr e pos) (tDrop te) (sDrop ev) [] := by
  refine ⟨ps_expr he.pe hs, fun E S φ ρ σ H D I q => ?_⟩
  exact he.sm E S φ ρ σ H _ I ((OutOK.rsK I q).imp (fun t ht w S1 H1 f g1 r n fr => ht S1 φ σ H1 ⟨g1.s, fun _ _ => rfl⟩ (I.grow g1)) fun _ z => z)
end
end PL
set_option Elab.async false
set_option linter.all false
set_option maxRecDepth 100000
/-! PL9: truth, several roads for one operator, the ways of calls. -/
namespace PL
open PySem PySem.Spec L2

def T.tru : T → Option Bool
  | .sh .none => some false
  | .sh (.bool b) => some b
  | .sh (.int i) => some (i != 0)
  | .sh (.str z) => if z.length ≤ sizeLine then some ((z.length : Int) != 0) else none
  | .sh (.list ds) => some (!ds.isEmpty)
  | .sh (.tuple ds) => some (!ds.isEmpty)
  | .ol ds => some (!ds.isEmpty)
  | .ot ds => some (!ds.isEmpty)
  | .tu ds => some (!ds.isEmpty)
  | .scr ns => some (!ns.isEmpty)
  | _ => none
theorem empty_len {α β : Type} {a : List α} {b : List β} (h : b.length = a.length) : (!a.isEmpty) = !b.isEmpty := by
  cases a <;> cases b <;> first | rfl | (simp at h)
theorem tru_rep {K : PySem.W.Frag} {S H : Hp} {t : T} {v : V} {fp : List Addr} {b : Bool} (i : Same S H) (q : RepT K S H t v fp) (e : t.tru = some b) : TruV K v H b := by
  unfold T.tru at e
  split at e
  · cases e; have q := rep_sh q; simp only [RepD] at q; subst q; rfl
  · cases e; have q := rep_sh q; simp only [RepD] at q; subst q; rfl
  · cases e; have q := rep_sh q; simp only [RepD] at q; subst q; rfl
  · split at e
    · rename_i hz
      cases e; have q := rep_sh q; simp only [RepD] at q; subst q; exact ⟨hz, rfl⟩
    · cases e
  · cases e
    have q := rep_sh q
    simp only [RepD] at q
    obtain ⟨a, vs, rfl, h, r⟩ := q
    exact .inl ⟨vs, .of (i _ _ h), empty_len r.length⟩
  · cases e
    have q := rep_sh q
    simp only [RepD] at q
    obtain ⟨a, vs, rfl, h, r⟩ := q
    exact .inr (.inl ⟨vs, (h.same (i _)).sq, empty_len r.length⟩)
  · cases e
    simp only [RepT] at q
    obtain ⟨a, vs, rfl, _, h, r⟩ := q
    exact .inl ⟨vs, .of h, empty_len r.length⟩
  · cases e
    simp only [RepT] at q
    obtain ⟨a, vs, f, rfl, _, h, r⟩ := q
    exact .inl ⟨vs, .of h, empty_len r.length⟩
  · cases e
    simp only [RepT] at q
    obtain ⟨a, vs, f, rfl, _, h, r⟩ := q
    exact .inr (.inl ⟨vs, h.sq, empty_len r.length⟩)
  · cases e
    simp only [RepT] at q
    obtain ⟨_, a, rfl, h⟩ := q
    exact .inl ⟨_, i.seq h, empty_len (by rw [List.length_map])⟩
  · cases e
def evTru (ev : En → Rs T) : En → Rs Bool := fun ρ => (ev ρ).bind fun t => rsO t.tru
section
variable {X : Cx} {W : WX} {e : Expr} {te : TE} {ev : En → Rs T}
theorem dt_tru (h : DV X W e te ev) (he : ∀ whole, isTrue e X.env whole = (do let v ← whole; standAt e.pos; holding [v] (truthy v)) := by intro _; rfl) : DT X W e (fun σ H Q => te σ H fun x H' => ∃ k, TruV X.K x H' k ∧ Q k H') (evTru ev) := by
  refine ⟨pt_truth h.pe he, fun E S φ ρ σ H Q I q => ?_⟩
  refine h.sm E S φ ρ σ H _ I (q.bind.imp (fun t ht v S' H' fp g q => ?_) fun _ x => x)
  obtain ⟨b, e, ht⟩ := ht.rsO
  exact ⟨b, tru_rep g.i q e, ht S' H' g⟩
end
/-! ### in -/
def fInS (neg : Bool) (x y : T) : Option T := match x, y with
  | .sh (.str i), .sh (.str j) => some (.sh (.bool (if neg then !(!(Builtin.Str.occurrences j i 0 j.length 1).isEmpty) else !(Builtin.Str.occurrences j i 0 j.length 1).isEmpty)))
  | _, _ => none
abbrev rInS : R2 := fun x y H Q => ∃ i j, x = .str i ∧ y = .str j ∧ Q (.bl (!(Builtin.Str.occurrences j i 0 j.length 1).isEmpty)) H
abbrev rNinS : R2 := fun x y H Q => ∃ i j, x = .str i ∧ y = .str j ∧ Q (.bl (!(!(Builtin.Str.occurrences j i 0 j.length 1).isEmpty))) H
theorem sem_inS {K : PySem.W.Frag} : SemOp K rInS (fInS false) := by
  intro S H x y vx vy fx fy Q t i qx qy e R
  unfold fInS at e
  split at e
  · rename_i a b
    cases e
    have h1 := rep_sh qx
    have h2 := rep_sh qy
    simp only [RepD] at h1 h2
    exact ⟨a, b, h1, h2, R.flat i fun _ => by simp only [RepD]; rfl⟩
  · cases e
theorem sem_ninS {K : PySem.W.Frag} : SemOp K rNinS (fInS true) := by
  intro S H x y vx vy fx fy Q t i qx qy e R
  unfold fInS at e
  split at e
  · rename_i a b
    cases e
    have h1 := rep_sh qx
    have h2 := rep_sh qy
    simp only [RepD] at h1 h2
    exact ⟨a, b, h1, h2, R.flat i fun _ => by simp only [RepD]; rfl⟩
  · cases e
def fIn (x y : T) : Option T := (fInF false x y).or ((fInS false x y).or (fInG false x y))
def fNin (x y : T) : Option T := (fInF true x y).or ((fInS true x y).or (fInG true x y))
abbrev rInA (K : PySem.W.Frag) : R2 := orR (rIn K false) (orR rInS (rInD K))
abbrev rNinA (K : PySem.W.Frag) : R2 := orR (rIn K true) (orR rNinS (rNotInD K))
theorem sem_in {K : PySem.W.Frag} : SemOp K (rInA K) fIn := (sem_inF false).or (sem_inS.or sem_inG)
theorem sem_nin {K : PySem.W.Frag} : SemOp K (rNinA K) fNin := (sem_inF true).or (sem_ninS.or sem_ninG)
theorem op_ins {X : Cx} {k : Nat} (hr : Room k X.A) : OpR X (compareOp .In) (rInA X.K) := op_in_seq.or (op_in_str.or (op_inD (by have := hr.un; omega)))
theorem op_nins {X : Cx} {k : Nat} (hr : Room k X.A) : OpR X (compareOp .NotIn) (rNinA X.K) := op_notIn_seq.or (op_notIn_str.or (op_notInD (by have := hr.un; omega)))
end PL
set_option Elab.async false
set_option linter.all false
set_option maxRecDepth 100000
/-! PL10: ranges as lists and tuples, constants of the module, raise. -/
namespace PL
open PySem PySem.Spec L2

/-! ### list(range(..)), tuple(range(..)) -/
def SemR (K : PySem.W.Frag) (mg : Str → Option Value) (W : WX) (t : St → Hp → (Int → Int → Hp → Prop) → Prop) (ev : En → Rs (Int × Int)) : Prop :=
  ∀ E S φ ρ σ H Q, StInv K E S φ ρ σ H → RsOK (ev ρ) (fun p => ∀ S' H', Grow S H S' H' → Q p.1 p.2 H') (fun c => ∀ S' H', Grow S H S' H' → XOK mg W c σ H') → t σ H Q
structure DRg (X : Cx) (W : WX) (e : Expr) (t : St → Hp → (Int → Int → Hp → Prop) → Prop) (ev : En → Rs (Int × Int)) : Prop where
  pr : PRg X e t
  sm : SemR X.K X.mg W t ev
def erg1 (ea : En → Rs T) : En → Rs (Int × Int) := fun ρ => (ea ρ).bind fun t => (rsO t.asI).bind fun i => .ok (0, i)
def erg2 (ea eb : En → Rs T) : En → Rs (Int × Int) := fun ρ => (ea ρ).bind fun t => (eb ρ).bind fun u => (rsO t.asI).bind fun i => (rsO u.asI).bind fun j => .ok (i, j)
def okRg (p : Int × Int) : Bool := decide (-(2 ^ 62) ≤ p.1 ∧ p.1 < 2 ^ 62 ∧ -(2 ^ 62) ≤ p.2 ∧ p.2 < 2 ^ 62 ∧ (p.2 - p.1).toNat ≤ 2 ^ 24)
theorem okRg_ok {p : Int × Int} (h : okRg p = true) : RgOk p.1 p.2 := by
  have := of_decide_eq_true (show decide _ = true from h)
  exact this
def evLRg (er : En → Rs (Int × Int)) : En → Rs T := fun ρ => (er ρ).bind fun p => if okRg p = true then .ok (.ol (rngD p.1 p.2)) else .bad
def evTRg (er : En → Rs (Int × Int)) : En → Rs T := fun ρ => (er ρ).bind fun p => if okRg p = true then .ok (.sh (.tuple (rngD p.1 p.2))) else .bad
theorem rep_map {S : Hp} {α : Type} (f : α → D) (g : α → V) (h : ∀ x, RepD S (f x) (g x)) : ∀ l : List α, RepDs S (l.map f) (l.map g)
  | [] => .nil
  | x :: l => .cons (h x) (rep_map f g h l)
theorem rep_rng {S : Hp} (a b : Int) : RepDs S (rngD a b) (rgV a b) := rep_map _ _ (fun _ => by simp only [RepD]) _
def tTupRgF (te : St → Hp → (Int → Int → Hp → Prop) → Prop) : TE := fun σ H Q => te σ H fun a b H1 => RgOk a b ∧ NewT H1 (rgV a b) Q
open PyProof.Rows in
theorem pe_tupRgF {X : Cx} {p pos : Pos} {e : Expr} {te : L2.St → Hp → (Int → Int → Hp → Prop) → Prop} (hc : X.calm = true) (hg : Gl X "tuple") (hm : X.mg "tuple" = none) (he : PRg X e te) (na : starEach [e] X.env = (false, eval e X.env) :: starEach [] X.env := by rfl) : PE X (.Call (.Name "tuple" p) [e] [] pos) (tTupRgF te) := by
  refine ⟨fun pins s σ H Q I h => ?_⟩
  refine Call_ (ld_blt I hg hm boot_tuple (PyProof.Rows.callWith_type1 (args_cons (thn (he pins s σ H _ I h) fun x s1 ⟨r, a, b, t, u, v, H1, ex, hr, I1, ok, q⟩ => args_nil ?_) na) na))
  subst ex
  obtain ⟨b1, b2, b3, b4, b5⟩ := ok
  refine call_tuple_range (n := (b - a).toNat) (I1.ok.hd hc) hr (small_one b1 b2 b3 b4) (rangeSize_nat a b) b5 fun h' tk acc hk hi => ?_
  have J : Inv X pins σ H1 { s1 with heap := h', toks := tk } := I1.kept hk
  have hz : (rgV a b).length ≤ sizeLine := by rw [rgV_length, sizeLine_eq]; omega
  have z := tnew J (vals_rg hi) hz tk
  have e : acc.toList.toArray = acc := Array.toArray_toList
  simp only [tupO, e] at z
  exact ⟨.ref h'.objs.size, _, z, rfl, q _ _ J.fresh rfl⟩
section
variable {X : Cx} {W : WX} {a b : Expr} {ta tb : TE} {ea eb : En → Rs T} {p pos : Pos} {e : Expr} {te : St → Hp → (Int → Int → Hp → Prop) → Prop} {er : En → Rs (Int × Int)}
theorem drg_1 (hg : Gl X "range") (hm : X.mg "range" = none) (ha : DV X W a ta ea) (na : starEach [a] X.env = (false, eval a X.env) :: starEach [] X.env := by rfl) : DRg X W (.Call (.Name "range" p) [a] [] pos) (tRg1 ta) (erg1 ea) := by
  refine ⟨prg_1 hg hm ha.pe na, fun E S φ ρ σ H Q I h => ?_⟩
  refine ha.sm E S φ ρ σ H _ I (h.bind.imp (fun t ht v S1 H1 f g1 q => ?_) fun _ z => z)
  obtain ⟨i, ei, ht⟩ := ht.bind.rsO
  exact ⟨i, asI_rep q ei, ht S1 H1 g1⟩
theorem drg_2 (hg : Gl X "range") (hm : X.mg "range" = none) (ha : DV X W a ta ea) (hb : DV X W b tb eb) (na : starEach [a, b] X.env = (false, eval a X.env) :: starEach [b] X.env := by rfl) (nb : starEach [b] X.env = (false, eval b X.env) :: starEach [] X.env := by rfl) (hp : ((backTo pos (starEach [b] X.env)).any fun x => x.fst) = false := by rfl) :
    DRg X W (.Call (.Name "range" p) [a, b] [] pos) (tRg2 ta tb) (erg2 ea eb) := by
  refine ⟨prg_2 hg hm ha.pe hb.pe na nb hp, fun E S φ ρ σ H Q I h => ?_⟩
  refine ha.sm E S φ ρ σ H _ I (h.bind.imp (fun t ht v S1 H1 f g1 q => ?_) fun _ z => z)
  refine hb.sm E S1 φ ρ σ H1 _ (I.grow g1) (ht.bind.imp (fun u hu w S2 H2 f2 g2 q2 => ?_) fun _ z S' H' g => z S' H' (g1.trans g))
  obtain ⟨i, ei, hu⟩ := hu.bind.rsO
  obtain ⟨j, ej, hu⟩ := (RsOK.bind hu).rsO
  exact ⟨i, j, asI_rep q ei, asI_rep q2 ej, hu S2 H2 (g1.trans g2)⟩
theorem de_listRg (hc : X.calm = true) (hg : Gl X "list") (hm : X.mg "list" = none) (he : DRg X W e te er) (na : starEach [e] X.env = (false, eval e X.env) :: starEach [] X.env := by rfl) : DE X W (.Call (.Name "list" p) [e] [] pos) (tLstRg te) (evLRg er) [] := by
  refine ⟨pe_listRg hc hg hm he.pr na, fun E S φ ρ σ H Q I h => ?_⟩
  refine he.sm E S φ ρ σ H _ I (h.bind.imp (fun p hp S1 H1 g1 => ?_) fun _ z => z)
  by_cases ok : okRg p = true
  · rw [if_pos ok] at hp
    exact ⟨okRg_ok ok, fun q hq => (RetM.ret (show RetM X.K S H φ [] _ Q from hp) |>.later g1).lst g1.i (rep_rng _ _) hq⟩
  · rw [if_neg ok] at hp; exact False.elim hp
theorem de_tupleRg (hc : X.calm = true) (hg : Gl X "tuple") (hm : X.mg "tuple" = none) (he : DRg X W e te er) (na : starEach [e] X.env = (false, eval e X.env) :: starEach [] X.env := by rfl) : DE X W (.Call (.Name "tuple" p) [e] [] pos) (tTupRgF te) (evTRg er) [] := by
  refine ⟨pe_tupRgF hc hg hm he.pr na, fun E S φ ρ σ H Q I h => ?_⟩
  refine he.sm E S φ ρ σ H _ I (h.bind.imp (fun p hp S1 H1 g1 => ?_) fun _ z => z)
  by_cases ok : okRg p = true
  · rw [if_pos ok] at hp
    exact ⟨okRg_ok ok, (RetM.ret (show RetM X.K S H φ [] _ Q from hp) |>.later g1).tup g1.i (rep_rng _ _)⟩
  · rw [if_neg ok] at hp; exact False.elim hp
end

/-! ### constants of the module -/
section
variable {X : Cx} {W : WX} {x : Str} {pos : Pos} {i : Int} {z : Str}
theorem de_gI (h : ∃ t, X.mg x = some (.int i t)) (hg : Gl X x := by rfl) (hd : (x == ("__debug__" : Str)) = false := by decide) : DE X W (.Name x pos) (tC (.int i)) (evC (.int i)) [] := by
  obtain ⟨t, hm⟩ := h
  exact ⟨pe_glob hg hm ⟨t, rfl⟩ hd, sem_c (fun _ => by simp only [RepD]) fun _ _ _ h => h⟩
theorem de_gS (h : ∃ t, X.mg x = some (.str z t)) (hg : Gl X x := by rfl) (hd : (x == ("__debug__" : Str)) = false := by decide) : DE X W (.Name x pos) (tC (.str z)) (evC (.str z)) [] := by
  obtain ⟨t, hm⟩ := h
  exact ⟨pe_glob hg hm ⟨t, rfl⟩ hd, sem_c (fun _ => by simp only [RepD]) fun _ _ _ h => h⟩
end

/-! ### raise X('..') -/
structure ExcOk (K : PySem.W.Frag) (mg : Str → Option Value) (x : Str) : Prop where
  ex : ∃ C, mg x = some (.ref C) ∧ PySem.W.excIn K C [.type "ValueError", .type "Exception", .type "BaseException", .type "object"] "ValueError.__new__" = true ∧ PySem.W.keepIn K (.ref C) = true ∧ PySem.W.subIn K (.ref C) (.type "BaseException") = some true ∧ PySem.W.typeIn K (.ref C) = some (.type "type")
def sRaise (c : Str) : En → Out := fun ρ => .ex c ρ
section
variable {X : Cx} {W : WX} {x m : Str} {pos p p2 p3 : Pos} {j : Nat}
def tRaise (mg : Str → Option Value) (W : WX) (x : Str) : TS := fun D σ H => ∀ C, mg x = some (.ref C) → W (.ref C) none σ H
theorem ds_raise (tk : Takes X W) (h : ExcOk X.K X.mg x) (hc : X.calm = true := by rfl) (hg : Gl X x := by rfl) (hdb : (x == ("__debug__" : Str)) = false := by decide) : DS X W (.Raise (some (.Call (.Name x p) [.Constant (.str m) j p2] [] p3)) none pos) (tRaise X.mg W x) (sRaise x) [] := by
  obtain ⟨C, g, e, k, s, t⟩ := h.ex
  refine ⟨⟨fun pins s' σ H D I q => ?_⟩, fun E S φ ρ σ H D I q => ?_⟩
  · exact (ps_raise hc tk (pmk_own PySem.F.excBase_ValueError e g k (raises_own s t) hg hdb)).run pins s' σ H D I (q C g)
  · exact q S φ σ H .refl I
end
end PL
set_option Elab.async false
set_option linter.all false
/-! PL11: the rules whose reading names the frame of the program, with that frame as a letter (a reading must not name the block's own things). -/
namespace PL
open PySem PySem.Spec L2
section
variable {X : Cx} {W : WX} {a b : Expr} {ta tb : TE} {ea eb : En → Rs T} {pos : Pos} {K : PySem.W.Frag} {mg : Str → Option Value}
theorem dv_ixK (ha : DV X W a ta ea) (hb : DV X W b tb eb) (hK : X.K = K := by rfl) (hs : PlainIx b := by exact fun _ _ => rfl) : DV X W (.Subscript a b pos) (tOp (rIx K) ta tb) (evBin fIx ea eb) := by subst hK; exact dv_ixS ha hb hs
theorem op_plusK (hK : X.K = K := by rfl) : OpR X (binaryOp .Add) (rPlus K) := by subst hK; exact op_plus
theorem op_eqsK (hu : X.A.units + 64 < cLine) (hK : X.K = K := by rfl) : OpR X (compareOp .Eq) (rEqs K) := by subst hK; exact op_eqs hu
theorem op_nesK (hu : X.A.units + 64 < cLine) (hK : X.K = K := by rfl) : OpR X (compareOp .NotEq) (rNes K) := by subst hK; exact op_nes hu
theorem op_insK {k : Nat} (hr : Room k X.A) (hK : X.K = K := by rfl) : OpR X (compareOp .In) (rInA K) := by subst hK; exact op_ins hr
theorem op_ninsK {k : Nat} (hr : Room k X.A) (hK : X.K = K := by rfl) : OpR X (compareOp .NotIn) (rNinA K) := by subst hK; exact op_nins hr
theorem sl_allK (hK : X.K = K := by rfl) : SlR X (rSlAll K) := by subst hK; exact sl_all
theorem de_revK {k : Nat} {p1 p2 p3 : Pos} (ha : DV X W a ta ea) (hK : X.K = K := by rfl) : DE X W (.Subscript a (.Slice none none (some (.UnaryOp .USub (.Constant (.int 1) k p1) p2)) p3) pos) (tRevL K ta) (evUn fRev ea) [] := by subst hK; exact de_rev ha
theorem cr_lenK (hK : X.K = K := by rfl) : CallR X (.builtin "len") (rLenS K) := by subst hK; exact call_len
theorem cr_sumK (hc : X.calm = true) (hK : X.K = K := by rfl) : CallR X (.builtin "sum") (rSum K) := by subst hK; exact cr_sum hc
theorem cr_maxK (hc : X.calm = true) (hK : X.K = K := by rfl) : CallR X (.builtin "max") (rMaxA K) := by subst hK; exact cr_maxA hc
theorem cr_minK (hc : X.calm = true) (hK : X.K = K := by rfl) : CallR X (.builtin "min") (rMinA K) := by subst hK; exact cr_minA hc
theorem cr_allK (hc : X.calm = true) (hK : X.K = K := by rfl) : CallR X (.builtin "all") (rAll K) := by subst hK; exact cr_all hc
theorem cr_anyK (hc : X.calm = true) (hK : X.K = K := by rfl) : CallR X (.builtin "any") (rAny K) := by subst hK; exact cr_any hc
theorem cr_sortedIK (hK : X.K = K := by rfl) : CallR X (.builtin "sorted") (rSortedI K) := by subst hK; exact cr_sortedI
theorem cr_listK (hK : X.K = K := by rfl) : CallR X (.type "list") (rListOf K) := by subst hK; exact call_list_of
theorem cr_tupK (hK : X.K = K := by rfl) : CallR X (.type "tuple") (rTupOf K) := by subst hK; exact call_tupOf
theorem de_isiK {b : String} {p p2 : Pos} (hg : Gl X "isinstance") (hm : X.mg "isinstance" = none) (ha : DV X W a ta ea) (gb : Gl X (Str.ofString b)) (mb : X.mg (Str.ofString b) = none) (hv : bootBuiltins (Str.ofString b) = some (.type b)) (hb : b = "int" ∨ b = "bool" ∨ b = "str" ∨ b = "list" ∨ b = "tuple" ∨ b = "dict")
    (hK : X.K = K := by rfl) (hn : (Str.ofString b) ≠ "__name__" := by decide) (hdb : (Str.ofString b == ("__debug__" : Str)) = false := by decide)
    (hs : starEach [a, .Name (Str.ofString b) p2] X.env = (false, eval a X.env) :: starEach [.Name (Str.ofString b) p2] X.env := by rfl) (hpl : (backTo pos (starEach [.Name (Str.ofString b) p2] X.env)).any (·.1) = false := by rfl) :
    DE X W (.Call (.Name "isinstance" p) [a, .Name (Str.ofString b) p2] [] pos) (tCB (rIsi K) (tCons ta (tCons (tC (.ty b)) tNil))) (evIsi b ea) [] := by subst hK; exact de_isi hg hm ha gb mb hv hb hn hdb hs hpl
theorem dt_truK (h : DV X W a ta ea) (hK : X.K = K := by rfl) (he : ∀ whole, isTrue a X.env whole = (do let v ← whole; standAt a.pos; holding [v] (truthy v)) := by intro _; rfl) : DT X W a (fun σ H Q => ta σ H fun x H' => ∃ k, TruV K x H' k ∧ Q k H') (evTru ea) := by subst hK; exact dt_tru h he
theorem dg_tupK {es : List Expr} {k n : Nat} {gs : TGs} {a : List D → En → Option En} {as : List Nat} (hc : X.calm = true) (h : DGs X es gs a as) (hK : X.K = K := by rfl) (hn : (assignEach es X.env).length = n := by rfl) (hst : (assignEach es X.env).findIdx? (·.1) = none := by rfl) :
    DG RD X (.Tuple es k pos) (gTup K n gs) (egTup n a) as := by subst hK; exact dg_tup hc h hn hst
theorem de_callK {e : Expr} {es : List Expr} {tr : TA} {er : En → Rs (List T)} {p : Pos} {k n : Nat} {f : Addr} {fd : FuncData} {ps : List Str} {Fn : List T → Rs T} {x : Str} (F : FnOk X.prog X.w X.K X.mg X.base (L2.CX X.prog X.w) k f fd ps (spD K mg n Fn)) (hr : Room k X.A) (tk : Takes X W) (hg : Gl X x) (hm : X.mg x = some (.ref f)) (hk : PySem.W.keepIn X.K (.ref f) = true) (hb : Binds X.K fd ps [])
    (ha : DAs X W (e :: es) tr er) (hK : X.K = K := by rfl) (hM : X.mg = mg := by rfl) (hdb : (x == ("__debug__" : Str)) = false := by decide) (he : starEach (e :: es) X.env = (false, eval e X.env) :: starEach es X.env := by rfl) (hpl : (backTo pos (starEach es X.env)).any (·.1) = false := by rfl) :
    DE X W (.Call (.Name x p) (e :: es) [] pos) (tCallS (spD K mg n Fn) (WE W) tr) (evCall n Fn er) [] := by subst hK; subst hM; exact de_call F hr tk hg hm hk hb ha hdb he hpl
theorem di_seqK {tg : Expr} (h : DV X W a ta ea) (hK : X.K = K := by rfl) : DI RD X W tg a (iSeq K ta) (eiSeq ea) := by subst hK; exact di_seq h
end
end PL
set_option Elab.async false
set_option linter.all false
set_option maxRecDepth 100000
/-! PL12: enumerate, zip, repr; a shared value of a new one; the def that is called by the caller itself. -/
namespace PL
open PySem PySem.Spec L2 PyProof.Rows

/-! ### what is new is shared at once -/
section
variable {X : Cx} {W : WX} {e : Expr} {te : TE} {ev : En → Rs T}
theorem de_sh (h : DE X W e te ev []) : DE X W e te (evSh ev) [] := by
  refine ⟨h.pe, fun E S φ ρ σ H Q I r => (dv_of h).sm E S φ ρ σ H Q I ?_⟩
  unfold evSh at r ⊢
  cases hr : ev ρ with
  | bad => rw [hr] at r; exact r
  | ex c => rw [hr] at r; exact r
  | ok t =>
    rw [hr] at r
    have r : RsOK (if t.noScr = true then Rs.ok (T.sh t.er) else Rs.bad) (fun t => RetM X.K S H φ [] t Q) _ := r
    show RsOK (if t.noScr = true then Rs.ok (T.sh t.er) else Rs.bad) (fun t => RetV X.K S H t Q) _
    by_cases hn : t.noScr = true
    · rw [if_pos hn] at r ⊢
      intro v S' H' fp g q
      have q' := q
      simp only [RepT] at q'
      obtain ⟨rfl, _⟩ := q'
      exact r v S' H' [] g q .nil fun a ha => by cases ha
    · rw [if_neg hn] at r; exact False.elim r
end

/-! ### enumerate(xs), zip(xs, ys): pairs that are taken apart at once -/
def T.itL : T → Option (List D)
  | .sh (.list ds) => some ds
  | .scr ns => some (ns.map PyData.int)
  | _ => none
def T.itT : T → Option (List D)
  | .sh (.tuple ds) => some ds
  | _ => none
theorem itL_rep {K : PySem.W.Frag} {S H : Hp} {t : T} {v : V} {fp : List Addr} {ds : List D} (q : RepT K S H t v fp) (e : t.itL = some ds) : ∃ a vs, v = .ref a ∧ SqL K S a vs ∧ RepDs S ds vs := by
  unfold T.itL at e
  split at e
  · cases e
    simp only [RepT, RepD] at q
    obtain ⟨_, a, vs, rfl, ha, r⟩ := q
    exact ⟨a, vs, rfl, .of ha, r⟩
  · cases e
    simp only [RepT] at q
    obtain ⟨_, a, rfl, h⟩ := q
    exact ⟨a, _, rfl, h, rep_ints _⟩
  · cases e
theorem itT_rep {K : PySem.W.Frag} {S H : Hp} {t : T} {v : V} {fp : List Addr} {ds : List D} (q : RepT K S H t v fp) (e : t.itT = some ds) : ∃ a vs, v = .ref a ∧ IsTp (S a) vs ∧ RepDs S ds vs := by
  unfold T.itT at e
  split at e
  · cases e
    simp only [RepT, RepD] at q
    obtain ⟨_, a, vs, rfl, ha, r⟩ := q
    exact ⟨a, vs, rfl, ha, r⟩
  · cases e
def enumD (ds : List D) : List D := ds.zipIdx.map fun p => PyData.tuple [.int (p.2 : Nat), p.1]
theorem enumD_at {ds : List D} {i : Nat} {d : D} (h : (enumD ds)[i]? = some d) : ∃ c, ds[i]? = some c ∧ d = .tuple [.int (i : Nat), c] := by
  unfold enumD at h
  rw [List.getElem?_map, List.getElem?_zipIdx] at h
  cases e : ds[i]? with
  | none => rw [e] at h; cases h
  | some c =>
    rw [e] at h
    simp only [Option.map_some, Option.some.injEq, Nat.zero_add] at h
    exact ⟨c, rfl, h.symm⟩
theorem enumD_len (ds : List D) : (enumD ds).length = ds.length := by simp [enumD]
def zipD (as bs : List D) : List D := List.zipWith (fun a b => PyData.tuple [a, b]) as bs
def eiEnum (er : En → Rs (List T)) : En → Rs (List D) := fun ρ => (er ρ).bind fun ts => match ts with
  | [t] => (rsO t.itL).bind fun ds => .ok (enumD ds)
  | _ => .bad
def eiZip (er : En → Rs (List T)) : En → Rs (List D) := fun ρ => (er ρ).bind fun ts => match ts with
  | [t, u] => (rsO ((t.itL.bind fun a => u.itL.map fun b => zipD a b).or (t.itT.bind fun a => u.itT.map fun b => zipD a b)))
  | _ => .bad
theorem rp_pair {K : PySem.W.Frag} {S H : Hp} {T : Addr} {c d : D} {x y : V} (h : H T = some (.tup [x, y])) (qc : RepD S c x) (qd : RepD S d y) : RP K S H (.tuple [c, d]) (.ref T) :=
  ⟨[c, d], T, [x, y], rfl, rfl, .inl (.inl h), .cons qc (.cons qd .nil)⟩
section
variable {X : Cx} {W : WX} {e e2 : Expr} {elts : List Expr} {kk : Nat} {p pos tpos : Pos} {ta : TA} {er : En → Rs (List T)}
theorem di_enum {K : PySem.W.Frag} (hg : Gl X "enumerate") (hm : X.mg "enumerate" = none) (ha : DAs X W [e] ta er) (hK : X.K = K := by rfl) (hs : starEach [e] X.env = [(false, eval e X.env)] := by rfl) :
    DI (RP K) X W (.Tuple elts kk tpos) (.Call (.Name "enumerate" p) [e] [] pos) (iEnum K ta) (eiEnum er) := by
  subst hK
  refine ⟨pi_enum hg hm ha.pe hs, fun E S φ ρ σ H R I q => ?_⟩
  refine ha.sm E S φ ρ σ H _ I (q.bind.imp (fun ts ht vs S' H' g r => ?_) fun _ z => z)
  match ts, ht, r with
  | [], ht, _ => exact False.elim ht
  | _ :: _ :: _, ht, _ => exact False.elim ht
  | [t], ht, r =>
    obtain ⟨v, fp, ev, r1⟩ := views1 r
    obtain ⟨ds, e, ht⟩ := (RsOK.bind ht).rsO
    obtain ⟨a, us, rfl, hs, rr⟩ := itL_rep r1 e
    subst ev
    have sq : SqL X.K H' a us := g.i.seq hs
    refine ⟨a, us, rfl, sq, ht S' H' _ g fun S1 H1 i hs1 hi => ?_⟩
    have sq1 : SqL X.K H1 a us := (hs1.trans hi).seq hs
    refine ⟨fun d hd => ?_, fun hl => ⟨us, sq1, by rw [rr.length]; rwa [enumD_len] at hl⟩⟩
    obtain ⟨c, hc, rfl⟩ := enumD_at hd
    obtain ⟨w, hw, q⟩ := rr.get hc
    refine ⟨⟨us, w, sq1, hw⟩, fun x H2 y => ?_⟩
    obtain ⟨T, x', rfl, hT, rfl, y⟩ := y
    have := y us sq1
    rw [hw] at this; cases this
    exact ⟨S1, .own hi hT, rp_pair upd_same (by simp only [RepD]) (RepD.mono hs1 _ _ q)⟩
theorem di_zip {K : PySem.W.Frag} (hg : Gl X "zip") (hm : X.mg "zip" = none) (ha : DAs X W [e, e2] ta er) (hK : X.K = K := by rfl) (hs : starEach [e, e2] X.env = (false, eval e X.env) :: starEach [e2] X.env := by rfl) (hpl : (backTo pos (starEach [e2] X.env)).any (·.1) = false := by rfl) :
    DI (RP K) X W (.Tuple elts kk tpos) (.Call (.Name "zip" p) [e, e2] [] pos) (RZ.iZipA K ta) (eiZip er) := by
  subst hK
  refine ⟨RZ.pi_zipA hg hm ha.pe hs hpl, fun E S φ ρ σ H R I q => ?_⟩
  refine ha.sm E S φ ρ σ H _ I (q.bind.imp (fun ts ht vs S' H' g r => ?_) fun _ z => z)
  match ts, ht, r with
  | [], ht, _ => exact False.elim ht
  | [_], ht, _ => exact False.elim ht
  | _ :: _ :: _ :: _, ht, _ => exact False.elim ht
  | [t, u], ht, r =>
    obtain ⟨v, w, fp, fq, ev, r1, r2⟩ := views2 r
    obtain ⟨ds, e, ht⟩ := RsOK.rsO ht
    have at1 : ∀ {as bs : List D} {i : Nat} {d : D}, (zipD as bs)[i]? = some d → ∃ c c', as[i]? = some c ∧ bs[i]? = some c' ∧ d = .tuple [c, c'] := fun {as bs i d} h => by
      unfold zipD at h
      rw [List.getElem?_zipWith] at h
      cases e1 : as[i]? with
      | none => rw [e1] at h; cases h
      | some c =>
        cases e2 : bs[i]? with
        | none => rw [e1, e2] at h; cases h
        | some c' =>
          rw [e1, e2] at h
          exact ⟨c, c', rfl, rfl, (Option.some.inj h).symm⟩
    cases e1 : (t.itL.bind fun a => u.itL.map fun b => zipD a b) with
    | some ds' =>
      rw [e1] at e
      obtain rfl : ds' = ds := Option.some.inj e
      obtain ⟨as, ea, e3⟩ := obind e1
      obtain ⟨bs, eb, rfl⟩ := omap e3
      obtain ⟨a, us, rfl, ha1, ra⟩ := itL_rep r1 ea
      obtain ⟨b, ws, rfl, hb1, rb⟩ := itL_rep r2 eb
      subst ev
      refine ⟨a, b, us, ws, rfl, .inl ⟨g.i.seq ha1, g.i.seq hb1, ht S' H' _ g fun S1 H1 i hs1 hi => ?_⟩⟩
      have sa := (hs1.trans hi).seq ha1
      have sb := (hs1.trans hi).seq hb1
      refine ⟨fun d hd => ?_, fun hl => ⟨us, ws, sa, sb, ?_⟩⟩
      · obtain ⟨c, c', h1, h2, rfl⟩ := at1 hd
        obtain ⟨x, hx, qx⟩ := ra.get h1
        obtain ⟨y, hy, qy⟩ := rb.get h2
        refine ⟨⟨us, ws, x, y, sa, sb, hx, hy⟩, fun z H2 yz => ?_⟩
        obtain ⟨T, x', y', rfl, hT, rfl, k1, k2⟩ := yz
        have h3 := k1 us sa
        have h4 := k2 ws sb
        rw [hx] at h3; cases h3
        rw [hy] at h4; cases h4
        exact ⟨S1, .own hi hT, rp_pair upd_same (RepD.mono hs1 _ _ qx) (RepD.mono hs1 _ _ qy)⟩
      · rw [ra.length, rb.length]
        simp only [zipD, List.length_zipWith] at hl
        omega
    | none =>
      rw [e1] at e
      obtain ⟨as, ea, e3⟩ := obind (show (t.itT.bind fun a => u.itT.map fun b => zipD a b) = some ds from e)
      obtain ⟨bs, eb, rfl⟩ := omap e3
      obtain ⟨a, us, rfl, ha1, ra⟩ := itT_rep r1 ea
      obtain ⟨b, ws, rfl, hb1, rb⟩ := itT_rep r2 eb
      have tq : ∀ {S0 H0 : Hp} {c : Addr} {zs : List V}, IsTp (S0 c) zs → Same S0 H0 → SqT X.K H0 c zs := fun h i => (h.same (i _)).sq
      subst ev
      refine ⟨a, b, us, ws, rfl, .inr ⟨tq ha1 g.i, tq hb1 g.i, ht S' H' _ g fun S1 H1 i hs1 hi => ?_⟩⟩
      have sa := tq ha1 (hs1.trans hi)
      have sb := tq hb1 (hs1.trans hi)
      refine ⟨fun d hd => ?_, fun hl => ⟨us, ws, sa, sb, ?_⟩⟩
      · obtain ⟨c, c', h1, h2, rfl⟩ := at1 hd
        obtain ⟨x, hx, qx⟩ := ra.get h1
        obtain ⟨y, hy, qy⟩ := rb.get h2
        refine ⟨⟨us, ws, x, y, sa, sb, hx, hy⟩, fun z H2 yz => ?_⟩
        obtain ⟨T, x', y', rfl, hT, rfl, k1, k2⟩ := yz
        have h3 := k1 us sa
        have h4 := k2 ws sb
        rw [hx] at h3; cases h3
        rw [hy] at h4; cases h4
        exact ⟨S1, .own hi hT, rp_pair upd_same (RepD.mono hs1 _ _ qx) (RepD.mono hs1 _ _ qy)⟩
      · rw [ra.length, rb.length]
        simp only [zipD, List.length_zipWith] at hl
        omega
end

/-! ### repr: where no repr is under way -/
section
variable {X : Cx} {pins : List (Addr × Obj)} {σ : L2.St} {H : Hp} {s : Shared}
mutual
def reprOk : D → Bool
  | .none => true
  | .bool _ => true
  | .int i => decide (i.natAbs.log2 < 1920)
  | .str _ => true
  | .list ds => reprOks ds
  | .tuple ds => reprOks ds
  | .dict _ => false
def reprOks : List D → Bool
  | [] => true
  | d :: ds => reprOk d && reprOks ds
end
mutual
theorem reprOk_show : ∀ d : D, reprOk d = true → d.showable = true ∧ d.hasDict = false
  | .none, _ => ⟨rfl, rfl⟩
  | .bool _, _ => ⟨rfl, rfl⟩
  | .int i, h => ⟨by simpa only [PyData.showable, reprOk] using h, rfl⟩
  | .str _, _ => ⟨rfl, rfl⟩
  | .list ds, h => by
    obtain ⟨h1, h2⟩ := reprOks_show ds (by simpa only [reprOk] using h)
    exact ⟨by simpa only [PyData.showable] using h1, by simpa only [PyData.hasDict] using h2⟩
  | .tuple ds, h => by
    obtain ⟨h1, h2⟩ := reprOks_show ds (by simpa only [reprOk] using h)
    exact ⟨by simpa only [PyData.showable] using h1, by simpa only [PyData.hasDict] using h2⟩
  | .dict _, h => by simp [reprOk] at h
theorem reprOks_show : ∀ ds : List D, reprOks ds = true → PyData.showableAll ds = true ∧ PyData.hasDictAll ds = false
  | [], _ => ⟨rfl, rfl⟩
  | d :: ds, h => by
    simp only [reprOks, Bool.and_eq_true] at h
    obtain ⟨h1, h2⟩ := reprOk_show d h.1
    obtain ⟨h3, h4⟩ := reprOks_show ds h.2
    exact ⟨by simp only [PyData.showableAll, h1, h3, Bool.and_self], by simp only [PyData.hasDictAll, h2, h4, Bool.or_self]⟩
end
mutual
theorem reads_of (I : Inv X pins σ H s) : ∀ (d : D) (v : V) (u : Value), reprOk d = true → RepD H d v → RelV v u → ∃ as, Reads s.heap u d as
  | .none, v, u, _, q, r => by simp only [RepD] at q; subst q; obtain rfl : u = Value.none := r; exact ⟨_, .none⟩
  | .bool b, v, u, _, q, r => by simp only [RepD] at q; subst q; obtain rfl : u = Value.bool b := r; exact ⟨_, .bool b⟩
  | .int b, v, u, _, q, r => by simp only [RepD] at q; subst q; obtain ⟨t, rfl⟩ := (show ∃ t, u = Value.int b t from r); exact ⟨_, .int b t⟩
  | .str b, v, u, _, q, r => by simp only [RepD] at q; subst q; obtain ⟨t, rfl⟩ := (show ∃ t, u = Value.str b t from r); exact ⟨_, .str b t⟩
  | .list ds, v, u, h, q, r => by
    simp only [RepD] at q
    obtain ⟨a, vs, rfl, ha, rr⟩ := q
    obtain rfl : u = Value.ref a := r
    obtain ⟨its, rv, ⟨o, n, e1, e2, e3, e4⟩, _⟩ := I.list (.of ha)
    obtain ⟨as, h2⟩ := readss_of I ds vs its (by simpa only [reprOk] using h) rr rv
    exact ⟨_, .list e1 e2 e4 (by simpa using h2)⟩
  | .tuple ds, v, u, h, q, r => by
    simp only [RepD] at q
    obtain ⟨a, vs, rfl, ha, rr⟩ := q
    obtain rfl : u = Value.ref a := r
    obtain ⟨its, rv, ⟨o, e1, e2, n, e4⟩, _⟩ := I.tuple ha.sq
    obtain ⟨as, h2⟩ := readss_of I ds vs its (by simpa only [reprOk] using h) rr rv
    exact ⟨_, .tuple e1 e2 e4 (by simpa using h2)⟩
  | .dict _, _, _, h, _, _ => by simp [reprOk] at h
theorem readss_of (I : Inv X pins σ H s) : ∀ (ds : List D) (vs : List V) (us : List Value), reprOks ds = true → RepDs H ds vs → Vals vs us → ∃ as, ReadsAll s.heap us ds as
  | [], vs, us, _, q, r => by
    simp only [RepDs] at q
    subst q
    cases r
    exact ⟨_, .nil⟩
  | d :: ds, vs, us, h, q, r => by
    simp only [RepDs] at q
    obtain ⟨v, w, rfl, q1, q2⟩ := q
    simp only [reprOks, Bool.and_eq_true] at h
    cases r with
    | cons r1 r2 =>
      obtain ⟨as, h1⟩ := reads_of I d v _ h.1 q1 r1
      obtain ⟨bs, h2⟩ := readss_of I ds w _ h.2 q2 r2
      exact ⟨_, .cons h1 h2⟩
end
def okShow (d : D) : Bool := reprOk d && decide (d.depth ≤ 100) && decide (d.shown.length ≤ sizeLine)
def isSeqD : D → Bool
  | .list _ => true
  | .tuple _ => true
  | _ => false
def rRepr : List V → Hp → VK → Prop := fun xs H Q => ∃ x d, xs = [x] ∧ RepD H d x ∧ isSeqD d = true ∧ okShow d = true ∧ Q (.str d.shown) H
theorem call_reprD (hg : X.A.guards = some []) (hu : X.A.units + 150 < cLine) : CallR X (.builtin "repr") rRepr := by
  intro pins s σ H xs us Q I r h
  obtain ⟨x, d, rfl, q, hsq, ok, hQ⟩ := h
  obtain ⟨u, rfl, r1⟩ := vals1 r
  simp only [okShow, Bool.and_eq_true, decide_eq_true_eq] at ok
  obtain ⟨⟨ok1, ok2⟩, ok3⟩ := ok
  obtain ⟨h1, h2⟩ := reprOk_show d ok1
  have ref : ∃ a, u = .ref a := by
    cases d with
    | list ds => simp only [RepD] at q; obtain ⟨a, vs, rfl, _⟩ := q; exact ⟨a, r1⟩
    | tuple ds => simp only [RepD] at q; obtain ⟨a, vs, rfl, _⟩ := q; exact ⟨a, r1⟩
    | _ => cases hsq
  obtain ⟨as, rd⟩ := reads_of I d x u ok1 q r1
  obtain ⟨a, rfl⟩ := ref
  refine repr_of_reads' rd h1 (fun z => by rw [h2] at z; cases z) hg (by omega) (fun _ _ e => e) (fun h' t tk hk => ?_) ok3
  exact ⟨.str d.shown, H, I.kept hk, ⟨t, rfl⟩, hQ⟩
def fRepr : List T → Option T := f1 fun t => match t with
  | .sh d => if isSeqD d && okShow d then some (.sh (.str d.shown)) else none
  | _ => none
theorem sem_repr {K : PySem.W.Frag} : SemC K rRepr fRepr := by
  intro S H ts vs Q t i q e R
  obtain ⟨x, rfl, e1⟩ := f1_some e
  obtain ⟨v, fp, rfl, q1⟩ := views1 q
  split at e1
  · rename_i d
    split at e1
    · rename_i hd
      cases e1
      simp only [Bool.and_eq_true] at hd
      have q := rep_sh q1
      exact ⟨v, d, rfl, RepD.mono i _ _ q, hd.1, hd.2, R.flat i fun _ => by simp only [RepD]⟩
    · cases e1
  · cases e1
end

/-! ### the law's def, called by the caller -/
/-- what the law's def promises where the caller calls it -/
def RunC (P : Program) (w : World) (K : PySem.W.Frag) (mg : Str → Option Value) (base : Heap) (CX : CXT) (f : Addr) (fd : FuncData) (ps : List Str) (sp : Sp) : Prop :=
  ∀ (s : Shared) (H : Hp) (args : Args) (us : List Value) (vs : List V) (Q : VK) (E : XK), Env0 P w K mg base callerA [] s H → BindsTo s fd args (ps.zip us) → Vals vs us → sp vs H Q E →
    codeAny (model P w) callerA (.call (.ref f) args) (CR CX [] P w H s Q E) s
section
variable {P : Program} {w : World} {K : PySem.W.Frag} {mg : Str → Option Value} {base : Heap} {x qual : Str} {params : Arguments} {body : List Stmt} {scope : Scope} {f : Addr} {fd : FuncData} {N ps : List Str} {k n m : Nat} {b : En → Out}
theorem fn_run {CX : CXT} {sp : Sp} (F : FunD K x qual params body scope [] [] f fd) (Sc : FnScope N ps scope) (hr : Room (k + 1) callerA) (len : ∀ vs H Q E, sp vs H Q E → vs.length = ps.length)
    (hbody : ∀ (cdv : Value) (s : Shared) (H : Hp) (vs : List V) (Q : VK) (E : XK), Room k (callerA.deeper (envOfC qual scope s.heap.objs.size f cdv)) → sp vs H Q E →
      ∃ t, PSs (cxOf CX P w K mg base N qual scope f cdv callerA [] s H E) body t ∧ t { nx := fun _ H' => Q .non H', rt := Q } (L2.start N vs) H) : RunC P w K mg base CX f fd ps sp := by
  obtain ⟨oc, od, dV, kV, doc, pm, an, cdv, ct, osl, rfl, lk, hcd, _, _⟩ := F.ex
  intro s H args us vs Q E e0 hb r hsp
  have hl := len _ _ _ _ hsp
  have KX : K.In s.heap := e0.mod.kin.keeps fun b o e => (e0.bs b o e).1
  have lim : s.heap.NoLimit := e0.mod.nolimit.keeps fun b o e => (e0.bs b o e).1
  refine codeAny_call_function hr.depth (KX _ _ lk) rfl Sc.co Sc.gen rfl (PySem.W.codeRec_of KX hcd) (hb _ _ _ _ ?_)
  refine wpAny_newFunctionEnv_cells Sc.kind (fun ⟨nm, v⟩ hy => ?_) fun env he s1 x1 => ?_
  · rcases Sc.par nm (List.of_mem_zip hy).1 with q | q
    · exact .inl q
    · exact .inr ⟨q, PySem.W.cellsFrom_some _ _ _ (.inl q)⟩
  subst he
  refine ⟨lim.keeps x1.toInCall.keep, codeAny_func ?_⟩
  obtain ⟨t, ht, hq⟩ := hbody cdv s H vs Q E (hr.deeper _) hsp
  refine wpAny_mono (ht.run [] s1 (L2.start N vs) H _ (inv_start Sc hr.hd e0 hl r x1) hq) (fun fl s' hs => ?_) fun e s' hs => hs
  cases fl with
  | ret u => obtain ⟨v, σ', H', J, rv, q⟩ := hs; exact ⟨v, H', J.os, J.bare, J.base, J.hok, rv, q⟩
  | next => obtain ⟨σ', H', J, q⟩ := hs; exact ⟨V.non, H', J.os, J.bare, J.base, J.hok, (rfl : Value.none = Value.none), q⟩
  | brk => obtain ⟨_, _, _, q⟩ := hs; exact False.elim q
  | cont => obtain ⟨_, _, _, q⟩ := hs; exact False.elim q
/-- fn_ok, where the caller calls -/
theorem fn_runC (F : FunD K x qual params body scope [] [] f fd) (Sc : FnScope N ps scope) (hn : ps.length = n) (hm : N.length = n + m) (hr : Room (k + 1) callerA)
    (hbody : ∀ (cdv : Value) (s : Shared) (H : Hp) (Q : VK) (E : XK), Room k (callerA.deeper (envOfC qual scope s.heap.objs.size f cdv)) →
      ∃ ts as, DSs (cxOf (L2.CX P w) P w K mg base N qual scope f cdv callerA [] s H E) (fun cls d _ H' => E cls d H') body ts b as) :
    RunC P w K mg base (L2.CX P w) f fd ps (spD K mg n (fnD n m b)) := by
  refine fn_run F Sc hr (fun vs H Q E h => h.len.trans hn.symm) (fun cdv s H vs Q E hr h => ?_)
  obtain ⟨t, as, d⟩ := hbody cdv s H Q E hr
  exact ⟨t, d.ps, body_sem (W := fun _ _ _ _ => True) d.sm hm h⟩
end
end PL
set_option Elab.async false
set_option linter.all false
set_option maxRecDepth 100000
set_option maxHeartbeats 2000000
/-! PL13: a law's end, from its def's run where the caller calls it. -/
namespace PL
open PySem PySem.Spec L2 PyProof.Rows

section
variable {P : Program} {w : World} {K : PySem.W.Frag} {mg mb : Str → Option Value} {CX : CXT} {k : Nat} {fa a : Addr} {fd : FuncData} {x : Str} {sp : Sp} {s₁ : Shared} {vs : List Value} {ns : List Int}
/-- from an abstract heap that holds at most the script -/
theorem run_from (KX : K.In s₁.heap) (hns : s₁.heap.Ns mainGlobals mg) (hb : s₁.heap.Ns builtinsNs mb) (hbb : ∀ x : Str, x ≠ "__name__" → mb x = bootBuiltins x) (hlim : s₁.heap.NoLimit) (hg : s₁.gens = #[])
    (F : ∀ base : Heap, K.In base → base.Ns mainGlobals mg → RunC P w K mg base CX fa fd [x] sp) (hbind : ∀ (s : Shared) (u : Value), BindsTo s fd ⟨[u], []⟩ [(x, u)]) (hCX : ∀ H e s', CX [] H s₁ (fun _ _ _ => False) e s' → False)
    (H : Hp) (hsp : sp [.ref a] H (fun v _ => v = .bl true) fun _ _ _ => False) (hok : HOk P w H s₁.heap)
    (hA : ∀ b u, H b = some u → (∃ o xs, u = .frz o (.lst xs)) ∧ K.lookup b = none ∧ (∃ o, s₁.heap.get? b = some o ∧ ∀ es ep, o.data ≠ .dict es ep)) :
    codeAny (model P w) callerA (.call (.ref fa) ⟨[.ref a], []⟩) (fun r s' => r = .ok (.ret (.bool true)) ∧ OldK s₁.heap s'.heap ∧ s'.os = s₁.os ∧ AllBare s'.gens) s₁ := by
  have gone : ∀ {b : Addr} {o : Obj}, s₁.heap.get? b = some o → H b = none → (hidT s₁.heap H).get? b = some o := fun e n => hidT_get e n
  have free : ∀ {b : Addr} {o : Obj} {es : Array DictEntry} {ep : Nat}, s₁.heap.get? b = some o → o.data = .dict es ep → H b = none := fun {b o es ep} e d => by
    cases q : H b with
    | none => rfl
    | some u =>
      obtain ⟨o', e', nd⟩ := (hA b u q).2.2
      rw [e] at e'; cases e'
      exact absurd d (nd es ep)
  have toNs : ∀ {b : Addr} {m : Str → Option Value}, s₁.heap.Ns b m → (hidT s₁.heap H).Ns b m := fun {b m} ⟨o, es, ep, e, d, r⟩ => ⟨o, es, ep, gone e (free e d), d, r⟩
  have hKb : K.In (hidT s₁.heap H) := fun b o e => gone (KX b o e) (by
    cases q : H b with
    | none => rfl
    | some u => rw [(hA b u q).2.1] at e; cases e)
  have e0 : Env0 P w K mg (hidT s₁.heap H) callerA [] s₁ H :=
    ⟨rfl, ⟨hKb, toNs hns, ⟨mb, toNs hb, hbb⟩, let ⟨mc, h1, h2⟩ := hlim; ⟨mc, toNs h1, h2⟩⟩, fun b o e => of_hidT e, Nat.le_of_eq (hidT_size _ _), trivial, fun b hb => absurd (show b ∈ ([] : List Addr) from hb) (by simp), hok, .of_eq hg⟩
  refine codeAny_mono (F _ hKb (toNs hns) s₁ H ⟨[.ref a], []⟩ [.ref a] [.ref a] _ _ e0 (hbind s₁ (.ref a)) (.cons rfl .nil) hsp) fun r s' h => ?_
  cases r with
  | error e => exact (hCX H e s' h).elim
  | ok fl =>
    cases fl with
    | next => exact False.elim h
    | brk => exact False.elim h
    | cont => exact False.elim h
    | ret u =>
      obtain ⟨v, H', os, bare, un, hok', r', q⟩ := h
      obtain rfl : v = .bl true := q
      obtain rfl : u = Value.bool true := r'
      refine ⟨rfl, OldK.of_keep fun b o e => ?_, os, bare⟩
      cases q : H b with
      | none => exact un.keep b o e q (by intro z; exact absurd (show b ∈ ([] : List Addr) from z) (by simp)) (by simp)
      | some u =>
        obtain ⟨⟨ob, xs, rfl⟩, _⟩ := hA b u q
        obtain ⟨e1, _⟩ := hok b _ q
        obtain ⟨e2, _⟩ := hok' b _ (un.frzs b ob _ q)
        rw [e] at e1; cases e1
        exact e2
theorem law_run (KX : K.In s₁.heap) (hns : s₁.heap.Ns mainGlobals mg) (hb : s₁.heap.Ns builtinsNs mb) (hbb : ∀ x : Str, x ≠ "__name__" → mb x = bootBuiltins x) (hlim : s₁.heap.NoLimit) (hg : s₁.gens = #[])
    (ha : s₁.heap.get? a = some { cls := .type "list", data := .seq vs.toArray }) (hi : IntsAre vs ns) (hl : ns.length ≤ sizeLine)
    (F : ∀ base : Heap, K.In base → base.Ns mainGlobals mg → RunC P w K mg base CX fa fd [x] sp) (hbind : ∀ (s : Shared) (u : Value), BindsTo s fd ⟨[u], []⟩ [(x, u)])
    (hsp : ∀ H : Hp, Only H → SqL K H a (ns.map V.int) → sp [.ref a] H (fun v _ => v = .bl true) fun _ _ _ => False) (hCX : ∀ H e s', CX [] H s₁ (fun _ _ _ => False) e s' → False) :
    codeAny (model P w) callerA (.call (.ref fa) ⟨[.ref a], []⟩) (fun r s' => r = .ok (.ret (.bool true)) ∧ OldK s₁.heap s'.heap ∧ s'.os = s₁.os ∧ AllBare s'.gens) s₁ := by
  have rv := vals_ints hi
  have lenV := hi.length
  cases hk : K.lookup a with
  | some o =>
    have e := KX a o hk
    rw [ha] at e
    cases e
    exact run_from KX hns hb hbb hlim hg F hbind hCX (fun _ => none) (hsp _ (fun _ => .inl rfl) (.inr ⟨_, vs.toArray, _, hk, rfl, rfl, rfl, by rw [List.size_toArray, lenV]; exact hl, by simpa using rv⟩))
      (fun b u z => by have z' : (none : Option HO) = some u := z; cases z') fun b u z => by have z' : (none : Option HO) = some u := z; cases z'
  | none =>
    have at' : ∀ b u, (if b = a then some (HO.frz { cls := .type "list", data := .seq vs.toArray } (.lst (ns.map V.int))) else none) = some u → b = a ∧ u = .frz { cls := .type "list", data := .seq vs.toArray } (.lst (ns.map V.int)) := fun b u z => by
      by_cases hb : b = a
      · rw [if_pos hb] at z
        exact ⟨hb, (Option.some.inj z).symm⟩
      · rw [if_neg hb] at z; cases z
    refine run_from KX hns hb hbb hlim hg F hbind hCX (fun b => if b = a then some (.frz { cls := .type "list", data := .seq vs.toArray } (.lst (ns.map V.int))) else none) (hsp _ (fun b => ?_) (.inl (.inr ⟨{ cls := .type "list", data := .seq vs.toArray }, if_pos rfl⟩))) (fun b u z => ?_) fun b u z => ?_
    · by_cases hb : b = a
      · exact .inr ⟨_, _, if_pos hb⟩
      · exact .inl (if_neg hb)
    · obtain ⟨rfl, rfl⟩ := at' b u z
      exact ⟨ha, by rw [List.length_map]; exact hl, vs, _, rv, ha⟩
    · obtain ⟨rfl, rfl⟩ := at' b u z
      exact ⟨⟨_, _, rfl⟩, hk, _, ha, fun es ep z => by cases z⟩
end
/-- a law over a head by facts, from its def's run -/
theorem walk_run {l : PySem.W.OpenLaw} {n : Nat} {q : Program} {loose : List Str} {XP : (Str → Option Value) → Heap → Prop} {YP : World → Heap → Prop} {d : DefRec} {CX : Program → World → CXT} {x : Str}
    (hn : l.most = some n) (hn2 : n ≤ sizeLine) (hdf : d.params.defaults = [])
    (F : ∀ (w : World) (mg : Str → Option Value) (fa : Addr) (h : Heap), YP w h → h.Ns mainGlobals mg → mg d.name = some (.ref fa) →
      ∃ (K : PySem.W.Frag) (fd : FuncData) (sp : Sp), K.In h ∧ (∀ (s : Shared) (u : Value), BindsTo s fd ⟨[u], []⟩ [(x, u)]) ∧
        (∀ (H : Hp) (a : Addr) (ns : List Int), ns.length ≤ n → Only H → SqL K H a (ns.map V.int) → sp [.ref a] H (fun v _ => v = .bl true) fun _ _ _ => False) ∧
        ∀ base : Heap, K.In base → base.Ns mainGlobals mg → RunC l.prog w K mg base (CX l.prog w) fa fd [x] sp)
    (hCX : ∀ (w : World) (H : Hp) (s : Shared) (e : Value) (s' : Shared), CX l.prog w [] H s (fun _ _ _ => False) e s' → False) :
    PySem.W.WalkO q loose XP YP l.row.toRowW d [] (fun f vs => PySem.call f vs) := by
  refine Att.attach_call hn hdf fun w s₀ s₁ mg mb fa o pm cd doc a vs ns G Y ho hd hcd hmg hobj hints hlen hg => ?_
  obtain ⟨K, fd, sp, KX, hb, hsp, hF⟩ := F w mg fa _ Y G.T.g hmg
  exact law_run KX G.T.g G.T.b G.T.builtins G.T.nolimit hg hobj hints (Nat.le_trans hlen hn2) hF hb (fun H hO hS => hsp H a ns hlen hO hS) fun H e s' => hCX w H s₁ e s'
end PL
set_option Elab.async false
set_option linter.all false
set_option maxRecDepth 100000
/-! PL14: shared at once, in a comprehension's assignment; a promise of nothing (where a recursion ends). -/
namespace PL
open PySem PySem.Spec L2
theorem sem_sh {K : PySem.W.Frag} {mg : Str → Option Value} {W : WX} {te : TE} {ev : En → Rs T} (h : SemE K mg W te ev []) : SemE K mg W te (evSh ev) [] := by
  intro E S φ ρ σ H Q I r
  refine sem_v h E S φ ρ σ H Q I ?_
  unfold evSh at r ⊢
  cases hr : ev ρ with
  | bad => rw [hr] at r; exact r
  | ex c => rw [hr] at r; exact r
  | ok t =>
    rw [hr] at r
    have r : RsOK (if t.noScr = true then Rs.ok (T.sh t.er) else Rs.bad) (fun t => RetM K S H φ [] t Q) _ := r
    show RsOK (if t.noScr = true then Rs.ok (T.sh t.er) else Rs.bad) (fun t => RetV K S H t Q) _
    by_cases hn : t.noScr = true
    · rw [if_pos hn] at r ⊢
      intro v S' H' fp g q
      have q' := q
      simp only [RepT] at q'
      obtain ⟨rfl, _⟩ := q'
      exact r v S' H' [] g q .nil fun a ha => by cases ha
    · rw [if_neg hn] at r; exact False.elim r
section
variable {X : Cx} {W : WX} {elt tg iter : Expr} {ifs : List Expr} {scope : Scope} {own : List (Str × Nat)} {pos : Pos} {wi : TI} {ei : En → Rs (List D)} {as : List Nat} {g : TG} {eg : D → En → Option En} {tt : TT} {ec : En → Rs Bool} {te : TE} {ee : En → Rs T}
theorem ds_setLcSh {Rp : Rel} (i : Nat) {y : Str} {py spos : Pos} (vs : List Nat) (hc : X.calm = true) (hN : X.N.Nodup) (hi : DI Rp X W tg iter wi ei) (ok : BlkOk X.N X.env.scope scope own)
    (hg : ∀ (s : Shared) (H : Hp) (C : Addr) (cl : List (Str × Addr)) (fp : List Addr), DG Rp (X.blk s H scope (compEnvC scope cl C X.env) fp) tg g eg as)
    (ht : ∀ (s : Shared) (H : Hp) (C : Addr) (cl : List (Str × Addr)) (fp : List Addr), DTs (X.blk s H scope (compEnvC scope cl C X.env) fp) W0 ifs tt ec)
    (he : ∀ (s : Shared) (H : Hp) (C : Addr) (cl : List (Str × Addr)) (fp : List Addr), DE (X.blk s H scope (compEnvC scope cl C X.env) fp) W0 elt te ee [])
    (hy : X.N[i]? = some y := by rfl) (hyl : X.env.scope.names.lookup y = some .local := by rfl)
    (hsw : swapsWith (.ListComp elt [⟨tg, iter, ifs, 0⟩] scope pos) (some (.Name y py)) spos.line X.env = pure true := by exact sw_true rfl rfl rfl (by decide +kernel))
    (hv : own.map (·.2) = vs := by rfl) (ha : ∀ i ∈ as, i ∈ vs := by decide) (hs : ∀ x, foldedSetIterable iter X.env x = pure x := by intro _; rfl) :
    DS X W (.Assign [.Name y py] (.ListComp elt [⟨tg, iter, ifs, 0⟩] scope pos) spos) (tAsg (tLc wi g tt te (own.map (·.2))) (gName i)) (sSet i [] (evSh (evComp ei vs eg ec ee))) [i] := by
  subst hv
  exact ⟨ps_setLc hc hN hy hyl hsw hi.pi ok (fun s H C cl fp => (hg s H C cl fp).pg) (fun s H C cl fp => (ht s H C cl fp).pt) (fun s H C cl fp => (he s H C cl fp).pe) hs,
    sem_set i (sem_sh (sem_comp hi.sm (hg X.s_0 (fun _ => none) 0 [] []).sm ha (ht X.s_0 (fun _ => none) 0 [] []).sm (he X.s_0 (fun _ => none) 0 [] []).sm))⟩
end
theorem u150 {k : Nat} {A : Around} (r : Room k A) : A.units + 150 < cLine := by have := r.un; omega
theorem fn_bad {P : Program} {w : World} {K : PySem.W.Frag} {mg : Str → Option Value} {base : Heap} {CX : CXT} {k n : Nat} {f : Addr} {fd : FuncData} {ps : List Str} (h : ps.length = n) : FnOk P w K mg base CX k f fd ps (spD K mg n fun _ => .bad) :=
  ⟨fun vs H Q E q => q.len.trans h.symm, fun A outer s H args us vs Q E _ _ _ _ q => by
    obtain ⟨_, _, _, _, _, r⟩ := q
    exact False.elim r⟩
theorem law_sp {K : PySem.W.Frag} {mg : Str → Option Value} {Fn : List T → Rs T} {H : Hp} {a : Addr} {ns : List Int} (h : Fn [.scr ns] = .ok (.sh (.bool true))) (hS : SqL K H a (ns.map V.int)) : spD K mg 1 Fn [.ref a] H (fun v _ => v = .bl true) fun _ _ _ => False := by
  refine ⟨H, [.scr ns], .refl _, rfl, ⟨.ref a, [], rfl, ⟨a, rfl, hS⟩, rfl⟩, ?_⟩
  rw [h]
  intro v S' H' fp _ q _ _
  simp only [RepT, RepD] at q
  exact q.2
theorem cx_none {P : Program} {w : World} {H : Hp} {s : Shared} {e : Value} {s' : Shared} (z : L2.CX P w [] H s (fun _ _ _ => False) e s') : False := by
  obtain ⟨_, _, _, _, _, _, _, _, _, _, _, _, q⟩ := z
  exact q
end PL
set_option Elab.async false
set_option linter.all false
set_option maxRecDepth 100000
/-! PL17: max of three. -/
namespace PL
open PySem PySem.Spec L2
theorem three {x y z : V} {us : List Value} (r : Vals [x, y, z] us) : ∃ u v w, us = [u, v, w] ∧ L2.RelV x u ∧ L2.RelV y v ∧ L2.RelV z w := by
  cases r with
  | cons r1 r2 =>
    obtain ⟨v, w, rfl, h1, h2⟩ := vals2 r2
    exact ⟨_, v, w, rfl, r1, h1, h2⟩
abbrev rMax3 : List V → Hp → VK → Prop := fun xs H Q => ∃ i j k : Int, xs = [.int i, .int j, .int k] ∧ Q (.int (max (max i j) k)) H
theorem cr_max3 {X : Cx} (hc : X.calm = true) : CallR X (.builtin "max") rMax3 := by
  intro pins s σ H xs us Q I r h
  obtain ⟨i, j, k, rfl, q⟩ := h
  obtain ⟨u, v, w, rfl, ⟨t, rfl⟩, ⟨t', rfl⟩, ⟨t2, rfl⟩⟩ := three r
  refine PySem.max_three_ints (I.ok.hd hc) fun h' tk hk => ⟨_, H, I.kept hk, ?_, q⟩
  have e : ∀ (a b : Int) (ta tb : Tok), L2.RelV (.int (max a b)) (if b > a then .int b tb else .int a ta) := fun a b ta tb => by
    by_cases h : b > a
    · rw [if_pos h, show max a b = b by omega]; exact ⟨_, rfl⟩
    · rw [if_neg h, show max a b = a by omega]; exact ⟨_, rfl⟩
  by_cases h : j > i
  · rw [if_pos h, show max i j = j by omega]; exact e _ _ _ _
  · rw [if_neg h, show max i j = i by omega]; exact e _ _ _ _
def fMax3 : List T → Option T
  | [.sh (.int i), .sh (.int j), .sh (.int k)] => some (.sh (.int (max (max i j) k)))
  | _ => none
theorem sem_max3 {K : PySem.W.Frag} : SemC K rMax3 fMax3 := by
  intro S H ts vs Q t i q e R
  unfold fMax3 at e
  split at e
  · rename_i a b c
    cases e
    obtain ⟨v1, r1, f1, rfl, q1, v2, r2, f2, rfl, q2, v3, r3, f3, rfl, q3, rfl⟩ := q
    have h1 := rep_sh q1
    have h2 := rep_sh q2
    have h3 := rep_sh q3
    simp only [RepD] at h1 h2 h3
    subst h1; subst h2; subst h3
    exact ⟨a, b, c, rfl, R.flat i fun _ => by simp only [RepD]⟩
  · cases e
end PL
set_option Elab.async false
set_option linter.all false
set_option maxRecDepth 100000
/-! PL20: < of ints, texts, tuples of ints; two names at once. -/
namespace PL
open PySem PySem.Spec L2
def fLtS (x y : T) : Option T := match x, y with
  | .sh (.str i), .sh (.str j) => some (.sh (.bool (decide (i.cps.toList < j.cps.toList))))
  | _, _ => none
theorem sem_ltS {K : PySem.W.Frag} : SemOp K (fun x y H Q => ∃ i j, x = .str i ∧ y = .str j ∧ Q (.bl (decide (i.cps.toList < j.cps.toList))) H) fLtS := by
  intro S H x y vx vy fx fy Q t i qx qy e R
  unfold fLtS at e
  split at e
  · rename_i a b
    cases e
    have h1 := rep_sh qx
    have h2 := rep_sh qy
    simp only [RepD] at h1 h2
    exact ⟨a, b, h1, h2, R.flat i fun _ => by simp only [RepD]⟩
  · cases e
def fLtT (x y : T) : Option T := match x, y with
  | .sh (.tuple as), .sh (.tuple bs) => (intsD as).bind fun ns => (intsD bs).map fun ms => .sh (.bool (HT.lexLt ns ms))
  | _, _ => none
theorem sem_ltT {K : PySem.W.Frag} : SemOp K (rLtT K) fLtT := by
  intro S H x y vx vy fx fy Q t i qx qy e R
  unfold fLtT at e
  split at e
  · rename_i as bs
    obtain ⟨ns, h1, e⟩ := obind e
    obtain ⟨ms, h2, rfl⟩ := omap e
    have q1 := rep_sh qx
    have q2 := rep_sh qy
    simp only [RepD] at q1 q2
    obtain ⟨a, vs, rfl, ha, r1⟩ := q1
    obtain ⟨b, ws, rfl, hb, r2⟩ := q2
    obtain rfl := intsD_rep h1 r1
    obtain rfl := intsD_rep h2 r2
    exact ⟨a, b, ns, ms, rfl, rfl, (ha.same (i _)).sq, (hb.same (i _)).sq, R.flat i fun _ => by simp only [RepD]⟩
  · cases e
def fLt (x y : T) : Option T := (fLtI x y).or ((fLtS x y).or (fLtT x y))
abbrev rLts (K : PySem.W.Frag) : R2 := orR (rB' fun i j => decide (i < j)) (orR (fun x y H Q => ∃ i j, x = .str i ∧ y = .str j ∧ Q (.bl (decide (i.cps.toList < j.cps.toList))) H) (rLtT K))
theorem sem_lts {K : PySem.W.Frag} : SemOp K (rLts K) fLt := sem_B0.or (sem_ltS.or sem_ltT)
theorem op_lts {X : Cx} {K : PySem.W.Frag} (hu : X.A.units + 64 < cLine) (hK : X.K = K := by rfl) : OpR X (compareOp .Lt) (rLts K) := by
  subst hK
  exact op_lt.or (op_lt_str.or (op_ltT (by omega)))
end PL
set_option Elab.async false
set_option linter.all false
set_option maxRecDepth 100000
/-! PL21: comprehensions of two clauses. -/
namespace PL
open PySem PySem.Spec L2
def compL2 (g : D → En → Option En) (c : En → Rs Bool) (ei1 : En → Rs (List D)) (vs1 : List Nat) (g1 : D → En → Option En) (c1 : En → Rs Bool) (e : En → Rs T) (ρ : En) : List D → Option (List T)
  | [] => some []
  | d :: ds => (g d ρ).bind fun ρ1 => (c ρ1).o.bind fun k => bif k then ((ei1 ρ1).o.bind fun ds1 => (compL g1 c1 e (ρ1.clr vs1) ds1).bind fun ts => (compL2 g c ei1 vs1 g1 c1 e ρ ds).map (ts ++ ·)) else compL2 g c ei1 vs1 g1 c1 e ρ ds
def evComp2 (ei : En → Rs (List D)) (vs : List Nat) (g : D → En → Option En) (c : En → Rs Bool) (ei1 : En → Rs (List D)) (vs1 : List Nat) (g1 : D → En → Option En) (c1 : En → Rs Bool) (e : En → Rs T) : En → Rs T := fun ρ =>
  (ei ρ).bind fun ds => (rsO (compL2 g c ei1 vs1 g1 c1 e (ρ.clr vs) ds)).bind fun ts => if ts.length ≤ sizeLine then .ok (mkL ts) else .bad
/-- the heap goes on, but for one new thing that no slot has -/
theorem StInv.past {K : PySem.W.Frag} {E : Ent} {S S' : Hp} {φ : Nat → List Addr} {ρ : En} {σ : St} {H H' : Hp} {A : Addr} (I : StInv K E S φ ρ σ H) (gr : Grow E.S E.H S' H') (hs : Same S S') (hH : ∀ b, b ≠ A → ∀ o, H b = some o → H' b = some o) (na : ∀ i, A ∉ φ i) (hf : ∀ b, b ≠ A → (∃ o, H b = some o) → S b = none → S' b = none) : StInv K E S' φ ρ σ H' :=
  ⟨gr, I.len, fun i t e => by
    obtain ⟨v, e1, r⟩ := I.slot i t e
    refine ⟨v, e1, RepT.frame hs t v (φ i) (fun a ha => ?_) r⟩
    obtain ⟨_, _, o, h3⟩ := I.fr i a ha
    rw [h3, hH a (fun z => na i (z ▸ ha)) o h3], I.nd, I.dj, fun i a ha => by
    obtain ⟨h1, h2, o, h3⟩ := I.fr i a ha
    have ne : a ≠ A := fun z => na i (z ▸ ha)
    exact ⟨hf a ne ⟨o, h3⟩ h1, h2, o, hH a ne o h3⟩⟩
/-- what has been made so far: us at the new list A -/
structure Acc (K : PySem.W.Frag) (S0 H0 : Hp) (A : Addr) (S H : Hp) (ts : List T) : Prop where
  gg : Grow S0 H0 S H
  nA : S A = none
  ex : ∃ us fp, H A = some (.lst us) ∧ A ∉ fp ∧ RepTs K S H ts us fp ∧ fp.Nodup ∧ ∀ a ∈ fp, S a = none ∧ H0 a = none
theorem Acc.on {K : PySem.W.Frag} {S0 H0 S H S' H' : Hp} {A : Addr} {ts : List T} (a : Acc K S0 H0 A S H ts) (g : Grow S H S' H') : Acc K S0 H0 A S' H' ts := by
  obtain ⟨gg, nA, us, fp, h, na, q, nd, f⟩ := a
  exact ⟨gg.trans g, g.f A ⟨_, h⟩ nA, us, fp, g.h _ _ h, na, q.grow g.s g.h, nd, fun b z => ⟨g.f b (RepTs.there _ _ _ q b z) (f b z).1, (f b z).2⟩⟩
theorem Acc.len {K : PySem.W.Frag} {S0 H0 S H : Hp} {A : Addr} {ts : List T} (a : Acc K S0 H0 A S H ts) : ∃ us, H A = some (.lst us) ∧ us.length = ts.length := let ⟨_, _, us, _, h, _, q, _, _⟩ := a; ⟨us, h, q.length⟩
/-- one more -/
theorem Acc.snoc {K : PySem.W.Frag} {S0 H0 S H S' H' : Hp} {A : Addr} {ts : List T} {t : T} {v : V} {f4 : List Addr} (a : Acc K S0 H0 A S H ts) (hA : H0 A = none) (g : Grow S H S' H') (q4 : RepT K S' H' t v f4) (n4 : f4.Nodup) (fr : ∀ b ∈ f4, S' b = none ∧ H b = none) :
    ∃ us, H' A = some (.lst us) ∧ us.length = ts.length ∧ Acc K S0 H0 A S' (upd H' A (.lst (us ++ [v]))) (ts ++ [t]) := by
  obtain ⟨gg0, nA0, us, fp, h0, na, q0, nd, f0⟩ := a
  have gg := gg0.trans g
  have nA := g.f A ⟨_, h0⟩ nA0
  have h := g.h _ _ h0
  have q := q0.grow g.s g.h
  have f : ∀ b ∈ fp, S' b = none ∧ H0 b = none := fun b z => ⟨g.f b (RepTs.there _ _ _ q0 b z) (f0 b z).1, (f0 b z).2⟩
  have d4 : A ∉ f4 := fun z => by have := (fr A z).2; rw [h0] at this; cases this
  refine ⟨us, h, q.length, ⟨fun b o e => ?_, gg.s, fun b o e => ?_, gg.f⟩, nA, us ++ [v], fp ++ f4, upd_same, ?_, RepTs.app (RepTs.frame (.refl _) _ _ _ (fun b z => upd_ne fun e => na (e ▸ z)) q) (RepT.frame (.refl _) _ _ _ (fun b z => upd_ne fun e => d4 (e ▸ z)) q4), ?_, ?_⟩
  · rw [upd_ne (ne_of_none e hA)]; exact gg.h _ _ e
  · rw [upd_ne (ne_of_none e nA)]; exact gg.i _ _ e
  · simp only [List.mem_append, not_or]; exact ⟨na, d4⟩
  · refine List.nodup_append.mpr ⟨nd, n4, fun b z c z' => ?_⟩
    rintro rfl
    obtain ⟨o, ho⟩ := RepTs.there _ _ _ q0 b z
    rw [(fr b z').2] at ho
    cases ho
  · intro b z
    rcases List.mem_append.mp z with z | z
    · exact f b z
    · exact ⟨(fr b z).1, gg0.h.free (fr b z).2⟩
/-- what has changed since, but for the list A -/
structure Past (A : Addr) (S H S' H' : Hp) : Prop where
  s : Same S S'
  h : ∀ b, b ≠ A → ∀ o, H b = some o → H' b = some o
  f : ∀ b, b ≠ A → (∃ o, H b = some o) → S b = none → S' b = none
theorem Past.refl {A : Addr} {S H : Hp} : Past A S H S H := ⟨.refl _, fun _ _ _ e => e, fun _ _ _ e => e⟩
theorem Past.on {A : Addr} {S H S1 H1 S2 H2 : Hp} (p : Past A S H S1 H1) (g : Grow S1 H1 S2 H2) : Past A S H S2 H2 :=
  ⟨p.s.trans g.s, fun b ne o e => g.h _ _ (p.h b ne o e), fun b ne ⟨o, e⟩ n => g.f b ⟨o, p.h b ne o e⟩ (p.f b ne ⟨o, e⟩ n)⟩
theorem Past.upd {A : Addr} {S H S1 H1 : Hp} {o : HO} (p : Past A S H S1 H1) : Past A S H S1 (upd H1 A o) :=
  ⟨p.s, fun b ne o e => by rw [upd_ne ne]; exact p.h b ne o e, p.f⟩
theorem sem_comp2 {Rp Rp1 : Rel} {K : PySem.W.Frag} {mg : Str → Option Value} {W : WX} {wi wi1 : TI} {ei ei1 : En → Rs (List D)} {vs vs1 as as1 : List Nat} {g g1 : TG} {eg eg1 : D → En → Option En} {tt tt1 : TT} {ec ec1 : En → Rs Bool} {te : TE} {ee : En → Rs T}
    (hi : SemI Rp K mg W wi ei) (hg : SemG Rp K g eg as) (ha : ∀ i ∈ as, i ∈ vs) (ht : SemB K mg W0 tt ec) (hi1 : SemI Rp1 K mg W0 wi1 ei1) (hg1 : SemG Rp1 K g1 eg1 as1) (ha1 : ∀ i ∈ as1, i ∈ vs1) (ht1 : SemB K mg W0 tt1 ec1) (he : SemE K mg W0 te ee []) :
    SemE K mg W (tLc2 wi g tt wi1 g1 tt1 te vs vs1) (evComp2 ei vs eg ec ei1 vs1 eg1 ec1 ee) [] := by
  intro E S φ ρ σ H Q I h
  refine hi E S φ ρ σ H _ I (h.bind.imp (fun ds hds S0 H0 J g0 hJ A hA => ?_) fun _ z => z)
  obtain ⟨tot, etot, hds⟩ := hds.bind.rsO
  by_cases hsz : ¬ tot.length ≤ sizeLine
  · rw [if_neg hsz] at hds; exact False.elim hds
  have hsz := Classical.not_not.mp hsz
  rw [if_pos hsz] at hds
  have hQ : RetM K S H φ [] (mkL tot) Q := hds
  have nS0 : S0 A = none := g0.i.free hA
  have I0 := I.grow g0
  have na0 : ∀ i, A ∉ φ i := fun i z => by
    obtain ⟨o, e⟩ := (I0.fr i A z).2.2
    rw [hA] at e; cases e
  let NX : Nat → Hp → Prop := fun i H' => ∃ S' ts rest, Acc K S0 H0 A S' H' ts ∧ compL2 eg ec ei1 vs1 eg1 ec1 ee (ρ.clr vs) (ds.drop i) = some rest ∧ tot = ts ++ rest
  refine ⟨fun i m H' => m = ds.length - i ∧ i ≤ ds.length ∧ NX i H', ⟨ds.length, by simp, Nat.zero_le _, S0, [], tot, ⟨.own g0.i hA, nS0, [], [], upd_same, by simp, by simp only [RepTs, and_self], .nil, fun a ha => by cases ha⟩, etot, rfl⟩, ?_⟩
  rintro i m H' ⟨rfl, hle, S', ts, rest, ac, er, et⟩
  obtain ⟨h1, h2⟩ := hJ S' H' i ac.gg.s ac.gg.i
  by_cases hlt : i < ds.length
  · obtain ⟨hgo, hy⟩ := h1 ds[i] (by simp [hlt])
    rw [List.drop_eq_getElem_cons hlt] at er
    refine .inr ⟨hgo, NX (i + 1), fun H3 z => ⟨ds.length - (i + 1), by omega, rfl, hlt, z⟩, fun x H2 y => ?_⟩
    obtain ⟨S2, g2, r2⟩ := hy x H2 y
    have ac2 := ac.on g2
    have I2 : StInv K E S2 φ (ρ.clr vs) (L2.wipe σ vs) H2 := (I0.grow ac2.gg).wipe vs
    obtain ⟨ρ1, e1, er⟩ := obind er
    refine hg E S2 φ _ _ H2 ds[i] x _ ρ1 I2 r2 e1 fun φ1 σ1 b1 k1 l1 I1 => ⟨wipe_eq (by rw [l1, wipe_length]) k1 ha, ?_⟩
    have na1 : ∀ j, A ∉ φ1 j := fun j z => na0 j (b1 j A z)
    obtain ⟨k, e2, er⟩ := obind er
    refine ht E S2 φ1 ρ1 σ1 H2 _ I1 (RsOK.of_o e2 fun S3 H3 g3 => ?_)
    have ac3 := ac2.on g3
    cases k with
    | false =>
      rw [if_neg (by decide)]
      exact ⟨S3, ts, rest, ac3, er, et⟩
    | true =>
      rw [if_pos rfl]
      obtain ⟨ds1, e3, er⟩ := obind (show ((ei1 ρ1).o.bind fun ds1 => (compL eg1 ec1 ee (ρ1.clr vs1) ds1).bind fun ts => (compL2 eg ec ei1 vs1 eg1 ec1 ee (ρ.clr vs) (ds.drop (i + 1))).map (ts ++ ·)) = some rest from er)
      obtain ⟨mid, e4, er⟩ := obind er
      obtain ⟨rest', e5, rfl⟩ := omap er
      refine hi1 E S3 φ1 ρ1 σ1 H3 _ (I1.grow g3) (RsOK.of_o e3 fun S4 H4 J1 g4 hJ1 => ?_)
      have ac4 := ac3.on g4
      have I4 := (I1.grow g3).grow g4
      refine ⟨fun j k H5 => k = ds1.length - j ∧ j ≤ ds1.length ∧ ∃ S5 ts1 mid1, Acc K S0 H0 A S5 H5 ts1 ∧ Past A S4 H4 S5 H5 ∧ compL eg1 ec1 ee (ρ1.clr vs1) (ds1.drop j) = some mid1 ∧ tot = ts1 ++ (mid1 ++ rest'), ⟨ds1.length, by simp, Nat.zero_le _, S4, ts, mid, ac4, .refl, e4, et⟩, ?_⟩
      rintro j k H5 ⟨rfl, hle1, S5, ts1, mid1, ac5, pa5, em, et5⟩
      obtain ⟨p1, p2⟩ := hJ1 S5 H5 j pa5.s ac5.gg.i
      by_cases hlt1 : j < ds1.length
      · obtain ⟨hgo1, hy1⟩ := p1 ds1[j] (by simp [hlt1])
        rw [List.drop_eq_getElem_cons hlt1] at em
        refine .inr ⟨hgo1, fun H6 => ∃ S6 ts1 mid1, Acc K S0 H0 A S6 H6 ts1 ∧ Past A S4 H4 S6 H6 ∧ compL eg1 ec1 ee (ρ1.clr vs1) (ds1.drop (j + 1)) = some mid1 ∧ tot = ts1 ++ (mid1 ++ rest'), fun H6 z => ⟨ds1.length - (j + 1), by omega, rfl, hlt1, z⟩, fun x1 H6 y1 => ?_⟩
        obtain ⟨S6, g6, r6⟩ := hy1 x1 H6 y1
        have ac6 := ac5.on g6
        have pa6 := pa5.on g6
        have I6 : StInv K E S6 φ1 (ρ1.clr vs1) (L2.wipe σ1 vs1) H6 := (I4.past ((I.gr.trans g0).trans ac6.gg) pa6.s pa6.h na1 pa6.f).wipe vs1
        obtain ⟨ρ2, e6, em⟩ := obind em
        refine hg1 E S6 φ1 _ _ H6 ds1[j] x1 _ ρ2 I6 r6 e6 fun φ2 σ2 b2 k2 l2 I7 => ⟨wipe_eq (by rw [l2, wipe_length]) k2 ha1, ?_⟩
        obtain ⟨kk, e7, em⟩ := obind em
        refine ht1 E S6 φ2 ρ2 σ2 H6 _ I7 (RsOK.of_o e7 fun S7 H7 g7 => ?_)
        have ac7 := ac6.on g7
        have pa7 := pa6.on g7
        cases kk with
        | false =>
          rw [if_neg (by decide)]
          exact ⟨S7, ts1, mid1, ac7, pa7, em, et5⟩
        | true =>
          rw [if_pos rfl]
          obtain ⟨t, e8, em⟩ := obind (show ((ee ρ2).o.bind fun t => (compL eg1 ec1 ee (ρ1.clr vs1) (ds1.drop (j + 1))).map (t :: ·)) = some mid1 from em)
          obtain ⟨mid', e9, rfl⟩ := omap em
          refine he E S7 φ2 ρ2 σ2 H7 _ (I7.grow g7) (RsOK.of_o e8 fun v S8 H8 f8 g8 q8 n8 fr8 => ?_)
          have fr8' : ∀ b ∈ f8, S8 b = none ∧ H7 b = none := fun b z => ⟨(fr8 b z).1, (fr8 b z).2.resolve_right fun ⟨j, hj, _⟩ => by cases hj⟩
          obtain ⟨us, hus, hul, ac8⟩ := ac7.snoc hA g8 q8 n8 fr8'
          have hlen : us.length < sizeLine := by
            have := congrArg List.length et5
            simp only [List.length_append, List.length_cons] at this
            omega
          exact ⟨us, hus, hlen, S8, ts1 ++ [t], mid', ac8, (pa7.on g8).upd, e9, by rw [et5]; simp⟩
      · have e : j = ds1.length := by omega
        subst e
        rw [List.drop_length] at em
        cases em
        exact .inl ⟨p2 (Nat.le_refl _), S5, ts1, rest', ac5, e5, et5⟩
  · have e : i = ds.length := by omega
    subst e
    rw [List.drop_length] at er
    cases er
    rw [List.append_nil] at et
    subst et
    obtain ⟨gg, nA, us, fp, hl, dfp, q, nd, f⟩ := ac
    exact .inl ⟨h2 (Nat.le_refl _), hQ.mkL (g0.trans gg) hl (g0.h.free hA) nA q nd dfp fun a z => ⟨(f a z).1, g0.h.free (f a z).2⟩⟩
section
variable {X : Cx} {W : WX} {elt tg iter tg1 iter1 : Expr} {ifs ifs1 : List Expr} {scope : Scope} {own : List (Str × Nat)} {pos : Pos} {wi wi1 : TI} {ei ei1 : En → Rs (List D)} {as as1 vs1 : List Nat} {g g1 : TG} {eg eg1 : D → En → Option En} {tt tt1 : TT} {ec ec1 : En → Rs Bool} {te : TE} {ee : En → Rs T}
abbrev BK (X : Cx) (scope : Scope) (P : Cx → Prop) : Prop := ∀ (s : Shared) (H : Hp) (C : Addr) (cl : List (Str × Addr)) (fp : List Addr), P (X.blk s H scope (compEnvC scope cl C X.env) fp)
theorem de_lc2 {Rp Rp1 : Rel} (vs : List Nat) (hc : X.calm = true) (hN : X.N.Nodup) (hi : DI Rp X W tg iter wi ei) (ok : BlkOk X.N X.env.scope scope own)
    (hg : BK X scope fun Y => DG Rp Y tg g eg as) (ht : BK X scope fun Y => DTs Y W0 ifs tt ec) (hi1 : BK X scope fun Y => DI Rp1 Y W0 tg1 iter1 wi1 ei1) (hg1 : BK X scope fun Y => DG Rp1 Y tg1 g1 eg1 as1) (ht1 : BK X scope fun Y => DTs Y W0 ifs1 tt1 ec1) (he : BK X scope fun Y => DE Y W0 elt te ee [])
    (hv : own.map (·.2) = vs := by rfl) (hv1 : ∀ i ∈ vs1, i ∈ own.map (·.2) := by decide) (ha : ∀ i ∈ as, i ∈ vs := by decide) (ha1 : ∀ i ∈ as1, i ∈ vs1 := by decide) (hs : ∀ x, foldedSetIterable iter X.env x = pure x := by intro _; rfl) (hs1 : ∀ env x, foldedSetIterable iter1 env x = pure x := by intro _ _; rfl) :
    DE X W (.ListComp elt [⟨tg, iter, ifs, 0⟩, ⟨tg1, iter1, ifs1, 0⟩] scope pos) (tLc2 wi g tt wi1 g1 tt1 te (own.map (·.2)) vs1) (evComp2 ei vs eg ec ei1 vs1 eg1 ec1 ee) [] := by
  subst hv
  exact ⟨pe_lc2 hc hN hi.pi ok hv1 (fun s H C cl fp => (hg s H C cl fp).pg) (fun s H C cl fp => (ht s H C cl fp).pt) (fun s H C cl fp => (hi1 s H C cl fp).pi) (fun s H C cl fp => (hg1 s H C cl fp).pg) (fun s H C cl fp => (ht1 s H C cl fp).pt) (fun s H C cl fp => (he s H C cl fp).pe) hs hs1,
    sem_comp2 hi.sm (hg X.s_0 (fun _ => none) 0 [] []).sm ha (ht X.s_0 (fun _ => none) 0 [] []).sm (hi1 X.s_0 (fun _ => none) 0 [] []).sm (hg1 X.s_0 (fun _ => none) 0 [] []).sm ha1 (ht1 X.s_0 (fun _ => none) 0 [] []).sm (he X.s_0 (fun _ => none) 0 [] []).sm⟩
theorem ds_setLc2 {Rp Rp1 : Rel} (i : Nat) {y : Str} {py spos : Pos} (vs : List Nat) (hc : X.calm = true) (hN : X.N.Nodup) (hi : DI Rp X W tg iter wi ei) (ok : BlkOk X.N X.env.scope scope own)
    (hg : BK X scope fun Y => DG Rp Y tg g eg as) (ht : BK X scope fun Y => DTs Y W0 ifs tt ec) (hi1 : BK X scope fun Y => DI Rp1 Y W0 tg1 iter1 wi1 ei1) (hg1 : BK X scope fun Y => DG Rp1 Y tg1 g1 eg1 as1) (ht1 : BK X scope fun Y => DTs Y W0 ifs1 tt1 ec1) (he : BK X scope fun Y => DE Y W0 elt te ee [])
    (hy : X.N[i]? = some y := by rfl) (hyl : X.env.scope.names.lookup y = some .local := by rfl)
    (hsw : swapsWith (.ListComp elt [⟨tg, iter, ifs, 0⟩, ⟨tg1, iter1, ifs1, 0⟩] scope pos) (some (.Name y py)) spos.line X.env = pure true := by exact sw_true rfl rfl rfl (by decide +kernel))
    (hv : own.map (·.2) = vs := by rfl) (hv1 : ∀ i ∈ vs1, i ∈ own.map (·.2) := by decide) (ha : ∀ i ∈ as, i ∈ vs := by decide) (ha1 : ∀ i ∈ as1, i ∈ vs1 := by decide) (hs : ∀ x, foldedSetIterable iter X.env x = pure x := by intro _; rfl) (hs1 : ∀ env x, foldedSetIterable iter1 env x = pure x := by intro _ _; rfl) :
    DS X W (.Assign [.Name y py] (.ListComp elt [⟨tg, iter, ifs, 0⟩, ⟨tg1, iter1, ifs1, 0⟩] scope pos) spos) (tAsg (tLc2 wi g tt wi1 g1 tt1 te (own.map (·.2)) vs1) (gName i)) (sSet i [] (evSh (evComp2 ei vs eg ec ei1 vs1 eg1 ec1 ee))) [i] := by
  subst hv
  exact ⟨ps_setLc2 hc hN hy hyl hsw hi.pi ok hv1 (fun s H C cl fp => (hg s H C cl fp).pg) (fun s H C cl fp => (ht s H C cl fp).pt) (fun s H C cl fp => (hi1 s H C cl fp).pi) (fun s H C cl fp => (hg1 s H C cl fp).pg) (fun s H C cl fp => (ht1 s H C cl fp).pt) (fun s H C cl fp => (he s H C cl fp).pe) hs hs1,
    sem_set i (sem_sh (sem_comp2 hi.sm (hg X.s_0 (fun _ => none) 0 [] []).sm ha (ht X.s_0 (fun _ => none) 0 [] []).sm (hi1 X.s_0 (fun _ => none) 0 [] []).sm (hg1 X.s_0 (fun _ => none) 0 [] []).sm ha1 (ht1 X.s_0 (fun _ => none) 0 [] []).sm (he X.s_0 (fun _ => none) 0 [] []).sm))⟩
end
end PL
set_option Elab.async false
set_option linter.all false
set_option maxRecDepth 100000
/-! PL22: two names at once. -/
namespace PL
open PySem PySem.Spec L2
def sPar (i j : Nat) (mv : List Nat) (er : En → Rs (List T)) : En → Out := fun ρ => rsK (er ρ) ρ fun ts => outO (putAll [i, j] ts (ρ.clr mv)) .nx
theorem StInv.apartA {K : PySem.W.Frag} {E : Ent} {S S' H H' : Hp} {φ : Nat → List Addr} {ρ : En} {σ : St} {mv : List Nat} {fp : List Addr} (I : StInv K E S φ ρ σ H) (g : Grow S H S' H') (ex : ∀ a ∈ fp, ∃ o, H' a = some o) (f : ∀ a ∈ fp, S' a = none ∧ (H a = none ∨ ∃ i ∈ mv, a ∈ φ i)) :
    ∀ a ∈ fp, S' a = none ∧ E.H a = none ∧ ∀ j, a ∈ φ j → j ∈ mv := fun a ha => by
  obtain ⟨h1, h2⟩ := f a ha
  refine ⟨h1, ?_, fun j hj => ?_⟩
  · rcases h2 with z | ⟨l, _, hm⟩
    · exact I.gr.h.free z
    · exact (I.fr l a hm).2.1
  · obtain ⟨o, ho⟩ := (I.fr j a hj).2.2
    rcases h2 with z | ⟨l, hl, hm⟩
    · rw [z] at ho; cases ho
    · exact I.dj l j a hm hj ▸ hl
section
variable {X : Cx} {W : WX} {x y : Str} {px py pt pos : Pos} {kt k2 : Nat} {pt2 : Pos} {a b : Expr} {ta : TA} {er : En → Rs (List T)} {mv : List Nat}
theorem sem_par {K : PySem.W.Frag} {mg : Str → Option Value} (i j : Nat) (h : SemAe K mg W ta er mv) : SemS K mg W (tPar i j ta) (sPar i j mv er) [i, j] := by
  intro E S φ ρ σ H D I q
  refine h E S φ ρ σ H _ I ((OutOK.rsK I q).imp (fun ts ht vs S1 H1 fp g1 r n fr => ?_) fun _ z => z)
  obtain ⟨ρ', ep, ht⟩ := ht.outO
  have ap := I.apartA g1 (RepTs.there _ _ _ r) fr
  have key : gNames [i, j] vs σ H1 D.nx := by
    refine putAll_ok ((I.grow g1).clrd mv) r n (fun a ha => ?_) ep fun φ' σ' k I' => ht S1 φ' σ' H1 ⟨g1.s, k⟩ I'
    obtain ⟨z1, z2, z3⟩ := ap a ha
    refine ⟨z1, z2, fun l => ?_⟩
    by_cases hj : l ∈ mv
    · rw [if_pos hj]; simp
    · rw [if_neg hj]; exact fun z => hj (z3 l z)
  obtain ⟨v, r1, rfl, w, r2, rfl, e, k⟩ := key
  subst e
  exact ⟨v, w, rfl, k⟩
theorem ds_par (i j : Nat) (hc : X.calm = true) (hN : X.N.Nodup) (ha : DAe X W [a, b] ta er mv) (hi : X.N[i]? = some x := by rfl) (hj : X.N[j]? = some y := by rfl) (hij : i ≠ j := by decide)
    (hx : X.env.scope.names.lookup x = some .local := by rfl) (hy : X.env.scope.names.lookup y = some .local := by rfl)
    (hw : swappedStores [.Tuple [.Name x px, .Name y py] kt pt] (.Tuple [a, b] k2 pt2) X.env = pure (some [x, y]) := by rfl)
    (hs : swapsWithSole [.Tuple [.Name x px, .Name y py] kt pt] (.Tuple [a, b] k2 pt2) pos.line X.env = pure false := by rfl) :
    DS X W (.Assign [.Tuple [.Name x px, .Name y py] kt pt] (.Tuple [a, b] k2 pt2) pos) (tPar i j ta) (sPar i j mv er) [i, j] :=
  ⟨ps_par hc hN hi hj hij hx hy ha.pe hw hs, sem_par i j ha.sm⟩
end
end PL
set_option Elab.async false
set_option linter.all false
set_option maxRecDepth 100000
/-! PL23: is of bools, xs.index(x). -/
namespace PL
open PySem PySem.Spec L2
def fIsB (neg : Bool) (x y : T) : Option T := match x, y with
  | .sh (.bool a), .sh (.bool b) => some (.sh (.bool (if neg then !decide (a = b) else decide (a = b))))
  | _, _ => none
theorem sem_isB {K : PySem.W.Frag} (neg : Bool) : SemOp K (fun x y H Q => ∃ a b, x = .bl a ∧ y = .bl b ∧ Q (.bl (if neg then !decide (a = b) else decide (a = b))) H) (fIsB neg) := by
  intro S H x y vx vy fx fy Q t i qx qy e R
  unfold fIsB at e
  split at e
  · rename_i a b
    cases e
    have h1 := rep_sh qx
    have h2 := rep_sh qy
    simp only [RepD] at h1 h2
    exact ⟨a, b, h1, h2, R.flat i fun _ => by simp only [RepD]⟩
  · cases e
/-! xs.index(x) -/
def fIdx (x y : T) : Option T := match y with
  | .sh d => x.seqs.bind fun ds => if (flatD d && ds.all flatD) then (firstAt ds d).map fun j => .sh (.int (j : Nat)) else none
  | _ => none
def evIdx (ea eb : En → Rs T) : En → Rs T := fun ρ => (ea ρ).bind fun x => if x.seqs.isSome = true then (eb ρ).bind fun y => rsO (fIdx x y) else .bad
theorem firstAt_ok {S : Hp} {ds : List D} {vs : List V} {d : D} {w : V} {j : Nat} (fd : flatD d = true) (fs : ds.all flatD = true) (q : RepD S d w) (r : RepDs S ds vs) (e : firstAt ds d = some j) :
    flatV w = true ∧ vs.all flatV = true ∧ ∃ z, vs[j]? = some z ∧ eqV z w = true ∧ ∀ m z', m < j → vs[m]? = some z' → eqV z' w = false := by
  have fl : ∀ c ∈ ds, flatD c = true := List.all_eq_true.mp fs
  obtain ⟨hj, h1, h2⟩ := List.findIdx?_eq_some_iff_getElem.mp e
  obtain ⟨z, hz, qz⟩ := r.get (List.getElem?_eq_getElem hj)
  refine ⟨flatW fd q, (inV_rep fd q fs r).2, z, hz, ?_, fun m z' hm hz' => ?_⟩
  · rw [(eqV_rep (fl _ (List.getElem_mem hj)) fd qz q).1]; exact h1
  · obtain ⟨c, hc, qc⟩ := r.get' hz'
    have hm' : m < ds.length := by omega
    rw [List.getElem?_eq_getElem hm'] at hc
    cases hc
    rw [(eqV_rep (fl _ (List.getElem_mem hm')) fd qc q).1]
    show eqD ds[m] d = false
    simpa using h2 m hm
theorem sem_idx {K : PySem.W.Frag} {mg : Str → Option Value} {W : WX} {ta tb : TE} {ea eb : En → Rs T} (ha : SemV K mg W ta ea) (hb : SemV K mg W tb eb) :
    SemE K mg W (fun σ H Q => tBM K "list" (rIndex K) ta (tCons tb tNil) σ H Q ∨ tBMt rIdxT ta (tCons tb tNil) σ H Q) (evIdx ea eb) [] := by
  intro E S φ ρ σ H Q I h
  have h0 := h.bind
  cases hx : ea ρ with
  | bad => rw [hx] at h0; exact False.elim h0
  | ex c => exact .inl (ha E S φ ρ σ H _ I (by rw [hx] at h0 ⊢; exact h0))
  | ok x =>
    rw [hx] at h0
    have h0 : RsOK (if x.seqs.isSome = true then (eb ρ).bind fun y => rsO (fIdx x y) else .bad) (fun t => RetM K S H φ [] t Q) _ := h0
    by_cases hsq : ¬ x.seqs.isSome = true
    · rw [if_neg hsq] at h0; exact False.elim h0
    have hsq := Classical.not_not.mp hsq
    rw [if_pos hsq] at h0
    have fin : ∀ {S1 H1 S2 H2 : Hp} {y : T} {vy : V} {fy : List Addr} {ds : List D} {vs : List V}, Grow S H S1 H1 → Grow S1 H1 S2 H2 → RepT K S2 H2 y vy fy → x.seqs = some ds → RepDs S1 ds vs → RsOK (rsO (fIdx x y)) (fun t => RetM K S H φ [] t Q) (fun _ => True) →
        ∃ j z, flatV vy = true ∧ vs.all flatV = true ∧ vs[j]? = some z ∧ eqV z vy = true ∧ (∀ m z', m < j → vs[m]? = some z' → eqV z' vy = false) ∧ Q (.int (j : Nat)) H2 := fun {S1 H1 S2 H2 y vy fy ds vs} g1 g2 qy es rr hr => by
      obtain ⟨t, e, ht⟩ := hr.rsO
      unfold fIdx at e
      split at e
      · rename_i d
        rw [es] at e
        have e : (if (flatD d && ds.all flatD) = true then (firstAt ds d).map fun j => T.sh (.int (j : Nat)) else none) = some t := e
        by_cases hf : (flatD d && ds.all flatD) = true
        · rw [if_pos hf] at e
          obtain ⟨j, e1, rfl⟩ := omap e
          rw [Bool.and_eq_true] at hf
          obtain ⟨h1, h2, z, h3, h4, h5⟩ := firstAt_ok hf.1 hf.2 (rep_sh qy) (RepDs.mono g2.s _ _ rr) e1
          exact ⟨j, z, h1, h2, h3, h4, h5, (ht.ret.later (g1.trans g2)).flat g2.i fun _ => by simp only [RepD]⟩
        · rw [if_neg hf] at e; cases e
      · cases e
    cases e1 : x.lits with
    | some ds =>
      refine .inl (ha E S φ ρ σ H _ I ?_)
      rw [hx]
      intro vx S1 H1 fx g1 qx
      obtain ⟨a, vs, rfl, hA, rr⟩ := lits_rep g1.i qx e1
      refine ⟨.inl ⟨rfl, vs, .of hA⟩, hb E S1 φ ρ σ H1 _ (I.grow g1) (h0.bind.imp (fun y hy vy S2 H2 fy g2 qy => ?_) fun c z S' H' g => z S' H' (g1.trans g))⟩
      obtain ⟨j, z, k1, k2, k3, k4, k5, k6⟩ := fin g1 g2 qy (by unfold T.seqs; rw [e1]; rfl) rr (hy.imp (fun _ z => z) fun _ _ => trivial)
      exact ⟨a, vs, vy, j, z, rfl, rfl, .of (g2.h _ _ hA), k1, k2, k3, k4, k5, k6⟩
    | none =>
      cases e2 : x.tups with
      | none =>
        unfold T.seqs at hsq
        rw [e1, e2] at hsq
        cases hsq
      | some ds =>
        refine .inr (ha E S φ ρ σ H _ I ?_)
        rw [hx]
        intro vx S1 H1 fx g1 qx
        obtain ⟨a, vs, rfl, ⟨ob, ho, hd⟩, rr⟩ := tups_rep qx e2
        refine ⟨⟨a, ob, vs, rfl, g1.i _ _ ho, hd⟩, hb E S1 φ ρ σ H1 _ (I.grow g1) (h0.bind.imp (fun y hy vy S2 H2 fy g2 qy => ?_) fun c z S' H' g => z S' H' (g1.trans g))⟩
        obtain ⟨j, z, k1, k2, k3, k4, k5, k6⟩ := fin g1 g2 qy (by unfold T.seqs; rw [e1, e2]; rfl) rr (hy.imp (fun _ z => z) fun _ _ => trivial)
        exact ⟨a, ob, vs, vy, j, z, rfl, rfl, g2.h _ _ (g1.i _ _ ho), hd, k1, k2, k3, k4, k5, k6⟩
section
variable {X : Cx} {W : WX} {o e : Expr} {ta tb : TE} {ea eb : En → Rs T} {apos cpos : Pos}
theorem de_index {K : PySem.W.Frag} (ha : DV X W o ta ea) (hb : DV X W e tb eb) (hK : X.K = K := by rfl)
    (hbase : attributeBase o "index" X.env (eval o X.env) = eval o X.env := by rfl)
    (hfew : ((backTo cpos (starEach [e] X.env)).all (fun x => !x.1) && (backToKw cpos (keywordEach [] X.env)).all (fun x => x.1.isSome)
      && decide ([e].length + ([] : List Keyword).length + (if ([] : List Keyword).isEmpty then 0 else 1) < 30)) = true := by rfl)
    (hline : (apos.endLine == cpos.line) = true := by rfl) (hs : starEach [e] X.env = (false, eval e X.env) :: starEach [] X.env := by rfl) (hplain : (backTo cpos (starEach [] X.env)).any (·.1) = false := by rfl) :
    DE X W (.Call (.Attribute o "index" apos) [e] [] cpos) (fun σ H Q => tBM K "list" (rIndex K) ta (tCons tb tNil) σ H Q ∨ tBMt rIdxT ta (tCons tb tNil) σ H Q) (evIdx ea eb) [] := by
  subst hK
  refine ⟨⟨fun pins s σ H Q I h => ?_⟩, sem_idx ha.sm hb.sm⟩
  rcases h with h | h
  · exact (pe_bm PySem.F.plainAttrs_list PySem.F.slot_list_index PySem.F.type_list_index mt_index ha.pe (pa_cons hb.pe pa_nil hs) hbase hfew hline hs hplain).run pins s σ H Q I h
  · exact (pe_bmt PySem.F.plainAttrs_tuple PySem.F.slot_tuple_index PySem.F.type_tuple_index mt_idxT ha.pe (pa_cons hb.pe pa_nil hs) hbase hfew hline hs hplain).run pins s σ H Q I h
end
end PL
set_option Elab.async false
set_option linter.all false
set_option maxRecDepth 100000
/-! PL27: slices with a step -/
namespace L2
open PySem PySem.Spec PyProof.Rows
def stepIx (n : Nat) (lo hi st : Option Int) : List Nat := sliceRange (sliceBounds lo hi st n).1 (sliceBounds lo hi st n).2.1 (sliceBounds lo hi st n).2.2
def stepL {α : Type} (xs : List α) (lo hi st : Option Int) : List α := (stepIx xs.length lo hi st).filterMap fun (i : Nat) => xs[i]?
theorem vals_pick {xs : List V} {us : List Value} (r : Vals xs us) : ∀ is : List Nat, Vals (is.filterMap fun i => xs[i]?) (is.filterMap fun i => us[i]?)
  | [] => .nil
  | i :: is => by
    have ih := vals_pick r is
    have hl := r.length
    cases h : xs[i]? with
    | none =>
      have h2 : us[i]? = none := by
        rw [List.getElem?_eq_none_iff] at h ⊢; omega
      rw [List.filterMap_cons_none h, List.filterMap_cons_none h2]; exact ih
    | some x =>
      obtain ⟨u, h2, q⟩ := r.get h
      rw [List.filterMap_cons_some h, List.filterMap_cons_some h2]
      exact .cons q ih
def tStep (K : PySem.W.Frag) (te : TE) (tl th ts : TO) : TE := fun σ H Q => te σ H fun x H1 => tl σ H1 fun l H2 => th σ H2 fun u H3 => ts σ H3 fun st H4 => ∃ a xs, x = .ref a ∧ st ≠ some 0 ∧ SqL K H4 a xs ∧ (stepL xs l u st).length ≤ sizeLine ∧ ∀ p, H4 p = none → Q (.ref p) (upd H4 p (.lst (stepL xs l u st)))
section
variable {X : Cx} {e es : Expr} {te : TE} {lo hi : Option Expr} {tl th ts : TO} {pos p2 : Pos}
theorem pe_step (he : PE X e te) (hl : PO X lo tl) (hu : PO X hi th) (hs : PO X (some es) ts) : PE X (.Subscript e (.Slice lo hi (some es) p2) pos) (tStep X.K te tl th ts) := by
  refine ⟨fun pins s σ H Q I h => ?_⟩
  refine Subscript_ (thn (he.run pins s σ H _ I h) fun v s1 ⟨x, H1, I1, r1, q1⟩ => ?_)
  refine wpAny_Slice (thn (hl.run pins s1 σ H1 _ I1 q1) fun vl s2 ⟨l, H2, I2, pl, q2⟩ => ?_)
  refine thn (hu.run pins s2 σ H2 _ I2 q2) fun vu s3 ⟨u, H3, I3, pu, q3⟩ => ?_
  refine thn (hs.run pins s3 σ H3 _ I3 q3) fun vs s4 ⟨o, H4, I4, ps, q4⟩ => ?_
  obtain ⟨a, xs, ex, h0, hx, hz2, q⟩ := q4
  subst ex
  cases r1
  have I5 : Inv X pins σ H4 { s4 with heap := s4.heap.push { cls := .type "slice", data := .fields #[vl, vu, vs] } } := I4.kept (t' := s4.toks) fun b ob q => Heap.get?_push_of_some _ q
  obtain ⟨its, r, ht, hz⟩ := I5.list hx
  have hlen := r.length
  show wpAny (model X.prog X.w) X.A (subscriptTail e (.Slice lo hi (some es) p2) (.ref a) (.ref s4.heap.objs.size)) (EP X pins σ Q) X.xe { s4 with heap := s4.heap.push { cls := .type "slice", data := .fields #[vl, vu, vs] } }
  refine tail_any (ops := [.ref a, .ref s4.heap.objs.size]) ht.isList.typeIs (PySem.slot_list_getitem.lookup) ?_ (by with_unfolding_all rfl)
  refine wpAny_getItem_list_slice ht.isList (Heap.IsSliceOf.new _ vl vu vs) pl pu ps h0 ?_ (by rw [List.size_toArray]; omega)
  have ep : slicePick its.toArray l u o = (stepL its l u o).toArray := by
    unfold slicePick stepL stepIx
    rw [List.size_toArray]
    congr 1
    congr 1
    funext i
    rw [List.getElem?_toArray]
  rw [ep]
  have rv : Vals (stepL xs l u o) (stepL its l u o) := by
    unfold stepL
    rw [hlen]
    exact vals_pick r _
  refine ⟨.ref _, _, I5.laid (t' := s4.toks) (o := .lst (stepL xs l u o)) (fun b ob q => Heap.get?_push_of_some _ q) (Nat.le_refl _) ?_, rfl, q _ (I5.hok.fresh (Nat.le_refl _))⟩
  exact ⟨hz2, _, 0, rv, Heap.get?_push_size _ rfl⟩
end
end L2
namespace PL
open PySem PySem.Spec L2
theorem RepDs.pick {S : Hp} {ds : List D} {vs : List V} (r : RepDs S ds vs) : ∀ is : List Nat, RepDs S (is.filterMap fun i => ds[i]?) (is.filterMap fun i => vs[i]?)
  | [] => .nil
  | i :: is => by
    have ih := RepDs.pick r is
    have hl := r.length
    cases h : ds[i]? with
    | none =>
      have h2 : vs[i]? = none := by
        rw [List.getElem?_eq_none_iff] at h ⊢; omega
      rw [List.filterMap_cons_none h, List.filterMap_cons_none h2]; exact ih
    | some x =>
      obtain ⟨u, h2, q⟩ := r.get h
      rw [List.filterMap_cons_some h, List.filterMap_cons_some h2]
      exact .cons q ih
theorem RepDs.step {S : Hp} {ds : List D} {vs : List V} (r : RepDs S ds vs) (lo hi st : Option Int) : RepDs S (stepL ds lo hi st) (stepL vs lo hi st) := by
  unfold stepL
  rw [r.length]
  exact r.pick _
def fStep (x : T) (lo hi st : Option Int) : Option T := match x.lits with
  | some ds => if st ≠ some 0 ∧ (stepL ds lo hi st).length ≤ sizeLine then some (.ol (stepL ds lo hi st)) else none
  | none => none
def evStep (ea : En → Rs T) (el eh es : En → Rs (Option Int)) : En → Rs T := fun ρ => (ea ρ).bind fun x => (el ρ).bind fun l => (eh ρ).bind fun h => (es ρ).bind fun s => rsO (fStep x l h s)
section
variable {X : Cx} {W : WX} {a e : Expr} {te ta : TE} {ev ea : En → Rs T} {pos p2 : Pos} {lo hi : Option Expr} {es : Expr} {tl th ts : TO} {el eh eS : En → Rs (Option Int)}
theorem de_step (ha : DV X W a ta ea) (hl : DO X W lo tl el) (hh : DO X W hi th eh) (hs : DO X W (some es) ts eS) : DE X W (.Subscript a (.Slice lo hi (some es) p2) pos) (tStep X.K ta tl th ts) (evStep ea el eh eS) [] := by
  refine ⟨pe_step ha.pe hl.po hh.po hs.po, fun E S φ ρ σ H Q I h => ?_⟩
  refine ha.sm E S φ ρ σ H _ I (h.bind.imp (fun x hx vx S1 H1 fx g1 qx => ?_) fun _ z => z)
  refine hl.sm E S1 φ ρ σ H1 _ (I.grow g1) (hx.bind.imp (fun l hl S2 H2 g2 => ?_) fun _ z S' H' g => z S' H' (g1.trans g))
  have g12 := g1.trans g2
  refine hh.sm E S2 φ ρ σ H2 _ (I.grow g12) (hl.bind.imp (fun u hu S3 H3 g3 => ?_) fun _ z S' H' g => z S' H' (g12.trans g))
  have g13 := g12.trans g3
  refine hs.sm E S3 φ ρ σ H3 _ (I.grow g13) (hu.bind.imp (fun st hst S4 H4 g4 => ?_) fun _ z S' H' g => z S' H' (g13.trans g))
  obtain ⟨t, e, ht⟩ := hst.rsO
  have g24 := (g2.trans g3).trans g4
  have qx := qx.grow g24.s g24.h
  unfold fStep at e
  split at e
  · rename_i ds ex
    split at e
    · rename_i hz
      cases e
      obtain ⟨a, vs, rfl, ha, r⟩ := lits_rep g4.i qx ex
      refine ⟨a, vs, rfl, hz.1, .of ha, ?_, fun p hp => (ht.ret.later (g13.trans g4)).lst g4.i (RepDs.step r l u st) hp⟩
      have := (RepDs.step r l u st).length
      omega
    · cases e
  · cases e
theorem de_stepK {K : PySem.W.Frag} (ha : DV X W a ta ea) (hl : DO X W lo tl el) (hh : DO X W hi th eh) (hs : DO X W (some es) ts eS) (hK : X.K = K := by rfl) : DE X W (.Subscript a (.Slice lo hi (some es) p2) pos) (tStep K ta tl th ts) (evStep ea el eh eS) [] := by
  subst hK
  exact de_step ha hl hh hs
end
end PL
set_option Elab.async false
set_option linter.all false
set_option maxRecDepth 100000
/-! PL28: sorted of pairs of ints, any number of them -/
namespace L2
open PySem PySem.Spec PyProof.Rows
def rSortQ (K : PySem.W.Frag) : List V → Hp → VK → Prop := fun vs H Q => ∃ (a : Addr) (xs : List V) (k : V → Int × Int), vs = [V.ref a] ∧ SqL K H a xs ∧ (∀ x ∈ xs, ∃ t, x = V.ref t ∧ SqT K H t [.int (k x).1, .int (k x).2]) ∧
  ∀ ys p, SrtO.Srtd (ltP k) ys → SrtO.Stb (ltP k) ys xs → H p = none → Q (.ref p) (upd H p (.lst ys))
section
variable {X : Cx}
theorem cr_sortQ : CallR X (.builtin "sorted") (rSortQ X.K) := by
  intro pins s σ H vs us Q I r h
  obtain ⟨a, xs, k, rfl, hs, hx, q⟩ := h
  obtain ⟨its, rv, hl, hz⟩ := I.list hs
  obtain ⟨u, rfl, ru⟩ := vals1 r
  obtain rfl : u = Value.ref a := ru
  obtain ⟨e1, e2⟩ := refs_back rv fun x m => by
    obtain ⟨t, e, _⟩ := hx x m
    exact ⟨t, e⟩
  refine SrtO.sorted_pairsO (k := fun u => k (backV u)) hl.isList (by rw [← rv.length]; exact hz) (fun v hv => ?_) fun h' d out h1 h2 kp hd hn => ?_
  · obtain ⟨t, rfl⟩ := e2 v hv
    have hm : V.ref t ∈ xs := by rw [e1]; exact List.mem_map.mpr ⟨_, hv, rfl⟩
    obtain ⟨t', e, ht⟩ := hx _ hm
    cases e
    obtain ⟨its2, r2, ⟨o, ho, hc, n, hd⟩, _⟩ := I.tuple ht
    obtain ⟨u1, u2, rfl, ri, rj⟩ := vals2 r2
    obtain ⟨t1, rfl⟩ := ri
    obtain ⟨t2, rfl⟩ := rj
    exact ⟨t, o, t1, t2, n, rfl, ho, hc, hd⟩
  · have h3 : ∀ u ∈ out, ∃ a, u = Value.ref a := fun u hu => e2 u (h2.perm.mem_iff.mp hu)
    obtain ⟨n, hn⟩ := hn
    have hb : SrtO.Stb (ltP k) (out.map backV) xs := by
      rw [e1]
      exact SrtO.Stb.map (ltP_swo k) backV h2
    refine ⟨.ref d, upd H d (.lst (out.map backV)), I.laid (t' := s.toks) kp hd ⟨?_, out, n, vals_back h3, hn⟩, rfl, q _ d (SrtO.srtd_map h1) hb (I.hok.fresh hd)⟩
    rw [hb.len]
    exact hz
end
end L2
namespace PL
open PySem PySem.Spec L2
abbrev pD (x : Int × Int) : D := .tuple [.int x.1, .int x.2]
def pairsD : List D → Option (List (Int × Int))
  | [] => some []
  | .tuple [.int i, .int j] :: ds => (pairsD ds).map ((i, j) :: ·)
  | _ :: _ => none
theorem pairsD_map : ∀ ps : List (Int × Int), pairsD (ps.map pD) = some ps
  | [] => rfl
  | p :: ps => by simp [pairsD, pairsD_map ps]
theorem pairsD_inv : ∀ {ds : List D} {ps : List (Int × Int)}, pairsD ds = some ps → ds = ps.map pD
  | [], ps, e => by cases e; rfl
  | d :: ds, ps, e => by
    unfold pairsD at e
    split at e
    · rename_i h; cases h
    · rename_i i j ds' h
      cases h
      obtain ⟨r, e1, rfl⟩ := omap e
      rw [pairsD_inv e1]; rfl
    · cases e
def leP (a b : Int × Int) : Bool := !SrtO.lexB b a
theorem leP_iff {a b : Int × Int} : leP a b = true ↔ a.1 < b.1 ∨ (a.1 = b.1 ∧ a.2 ≤ b.2) := by
  unfold leP
  rw [Bool.not_eq_true', SrtO.lexB_no]; omega
def sortP (ps : List (Int × Int)) : List (Int × Int) := ps.mergeSort leP
theorem sortP_perm (ps : List (Int × Int)) : (sortP ps).Perm ps := List.mergeSort_perm _ _
theorem sortP_sorted (ps : List (Int × Int)) : (sortP ps).Pairwise (fun a b => a.1 < b.1 ∨ (a.1 = b.1 ∧ a.2 ≤ b.2)) := by
  have := List.pairwise_mergeSort (le := leP) (fun a b c h1 h2 => by rw [leP_iff] at *; omega) (fun a b => by rw [Bool.or_eq_true, leP_iff, leP_iff]; omega) ps
  exact this.imp fun h => leP_iff.mp h
theorem sortP_eq {ps qs : List (Int × Int)} (h1 : qs.Perm ps) (h2 : qs.Pairwise (fun a b => a.1 < b.1 ∨ (a.1 = b.1 ∧ a.2 ≤ b.2))) : qs = sortP ps :=
  List.Perm.eq_of_pairwise (fun a b _ _ x y => by
    refine Prod.ext ?_ ?_ <;> omega) h2 (sortP_sorted ps) (h1.trans (sortP_perm ps).symm)
def T.pairs (t : T) : Option (List (Int × Int)) := t.lits.bind pairsD
def fSortP : List T → Option T := f1 fun t => t.pairs.map fun ps => .ol ((sortP ps).map pD)
theorem IsTp.uniq {o : Option HO} {vs ws : List V} (h : IsTp o vs) (h' : IsTp o ws) : vs = ws := by
  obtain ⟨a, e1, _⟩ := h
  obtain ⟨b, e2, _⟩ := h'
  rw [e1] at e2
  cases e2
  rfl
open Classical in
noncomputable def keyAt (S : Hp) (x : V) : Int × Int := match x with
  | .ref t => if h : ∃ p : Int × Int, IsTp (S t) [.int p.1, .int p.2] then choose h else (0, 0)
  | _ => (0, 0)
theorem keyAt_eq {S : Hp} {t : Addr} {p : Int × Int} (h : IsTp (S t) [.int p.1, .int p.2]) : keyAt S (.ref t) = p := by
  unfold keyAt
  have hx : ∃ p : Int × Int, IsTp (S t) [.int p.1, .int p.2] := ⟨p, h⟩
  simp only [dif_pos hx]
  have := IsTp.uniq (Classical.choose_spec hx) h
  simp only [List.cons.injEq, V.int.injEq, and_true] at this
  exact Prod.ext this.1 this.2
theorem pairs_vals {S : Hp} : ∀ {ps : List (Int × Int)} {vs : List V}, RepDs S (ps.map pD) vs → (∀ v ∈ vs, ∃ t, v = .ref t ∧ IsTp (S t) [.int (keyAt S v).1, .int (keyAt S v).2]) ∧ vs.map (keyAt S) = ps
  | [], vs, q => by
    simp only [List.map_nil, RepDs] at q
    subst q
    exact ⟨fun v hv => (nomatch hv), rfl⟩
  | p :: ps, vs, q => by
    simp only [List.map_cons, RepDs] at q
    obtain ⟨v, r, rfl, q1, q2⟩ := q
    simp only [pD, RepD] at q1
    obtain ⟨t, ws, rfl, ht, hw⟩ := q1
    simp only [RepDs, RepD] at hw
    obtain ⟨v1, r1, rfl, rfl, v2, r2, rfl, rfl, rfl⟩ := hw
    have hk := keyAt_eq (p := p) ht
    obtain ⟨i1, i2⟩ := pairs_vals q2
    refine ⟨fun v hv => ?_, by rw [List.map_cons, hk, i2]⟩
    rcases List.mem_cons.mp hv with z | z
    · subst z; rw [hk]; exact ⟨t, rfl, ht⟩
    · exact i1 v z
theorem vals_pairs {S : Hp} : ∀ {ys : List V}, (∀ v ∈ ys, ∃ t, v = .ref t ∧ IsTp (S t) [.int (keyAt S v).1, .int (keyAt S v).2]) → RepDs S ((ys.map (keyAt S)).map pD) ys
  | [], _ => .nil
  | v :: ys, h => by
    obtain ⟨t, e, ht⟩ := h v List.mem_cons_self
    refine .cons ?_ (vals_pairs fun w hw => h w (List.mem_cons_of_mem _ hw))
    simp only [pD, RepD]
    exact ⟨t, _, e, ht, .cons (by simp only [RepD]) (.cons (by simp only [RepD]) .nil)⟩
theorem sem_sortP {K : PySem.W.Frag} : SemC K (rSortQ K) fSortP := by
  intro S H ts vs Q t i q e R
  obtain ⟨x, hx, e0⟩ := f1_some e
  clear e
  subst hx
  obtain ⟨v, fp, hv, q0⟩ := views1 q
  clear q
  subst hv
  obtain ⟨ps, e1, rfl⟩ := omap e0
  obtain ⟨ds, e2, e3⟩ := obind e1
  obtain ⟨a, vs, rfl, ha, r⟩ := lits_rep i q0 e2
  rw [pairsD_inv e3] at r
  obtain ⟨h1, h2⟩ := pairs_vals r
  refine ⟨a, vs, keyAt S, rfl, .of ha, fun x hx => ?_, fun ys p hs hb hp => ?_⟩
  · obtain ⟨t, e, ht⟩ := h1 x hx
    exact ⟨t, e, (ht.same (i _)).sq⟩
  · have hy : ys.map (keyAt S) = sortP ps := by
      refine sortP_eq ?_ ?_
      · rw [← h2]; exact hb.perm.map _
      · refine List.pairwise_map.mpr (hs.imp fun {u v} h => ?_)
        have := SrtO.lexB_no.mp h
        omega
    refine R.lst i ?_ hp
    rw [← hy]
    exact vals_pairs fun v hv => h1 v (hb.perm.mem_iff.mp hv)
def fSrt (ts : List T) : Option T := (fSortI ts).or (fSortP ts)
theorem cr_srtK {X : Cx} {K : PySem.W.Frag} (hK : X.K = K := by rfl) : CallR X (.builtin "sorted") (fun xs H Q => rSortedI K xs H Q ∨ rSortQ K xs H Q) := by
  subst hK; exact cr_sortedI.or cr_sortQ
theorem sem_srt {K : PySem.W.Frag} : SemC K (fun xs H Q => rSortedI K xs H Q ∨ rSortQ K xs H Q) fSrt := sem_sortI.or sem_sortP
end PL
set_option Elab.async false
set_option linter.all false
set_option maxRecDepth 100000
/-! PL30: A.append(B.pop(e)); range with a step -/
namespace PL
open PySem PySem.Spec L2
/-- the item at a place and the list without it -/
def popT (c : T) (k : Int) : Option (D × T) := match c with
  | .ol ds => if 0 ≤ k ∧ k < (ds.length : Int) ∧ k < 2 ^ 63 then (ds[k.toNat]?).map fun d => (d, .ol (ds.eraseIdx k.toNat)) else none
  | _ => none
def sAppPop (i j : Nat) (ev : En → Rs T) : En → Out := fun ρ => outO (ρ.get i) fun c => bif c.isL then outO (ρ.get j) fun d => bif d.isL then rsK (ev ρ) ρ fun t => outO t.asI fun k => outO (popT d k) fun p => outO (appT c (.sh p.1)) fun c' => .nx ((ρ.put j (some p.2)).put i (some c')) else .bad else .bad
theorem seqIx {n : Nat} {k : Int} (h0 : 0 ≤ k) (h1 : k < (n : Int)) : seqIndex? k n = some k.toNat := by
  unfold seqIndex?
  simp only [show ¬ k < 0 from by omega, if_false]
  first
    | rw [if_pos (by omega)]
    | simp [h0, h1]
theorem RepDs.erase {S : Hp} : ∀ {ds : List D} {vs : List V} (n : Nat), RepDs S ds vs → RepDs S (ds.eraseIdx n) (vs.eraseIdx n)
  | [], vs, n, q => by
    simp only [RepDs] at q
    subst q
    exact .nil
  | d :: ds, vs, 0, q => by
    simp only [RepDs] at q
    obtain ⟨v, r, rfl, _, q2⟩ := q
    exact q2
  | d :: ds, vs, n + 1, q => by
    simp only [RepDs] at q
    obtain ⟨v, r, rfl, q1, q2⟩ := q
    exact .cons q1 (RepDs.erase n q2)
theorem put_get_ne {ρ : En} {i j : Nat} {t : Option T} (h : i ≠ j) : (ρ.put j t)[i]? = ρ[i]? := by
  rw [put_eq, List.getElem?_set_ne (fun e => h e.symm)]
section
variable {X : Cx} {W : WX} {e : Expr} {te : TE} {ev : En → Rs T} {pos apos cpos np apos2 cpos2 np2 : Pos} {x y : Str}
theorem sem_appPop {K : PySem.W.Frag} {mg : Str → Option Value} (i j : Nat) (h : SemV K mg W te ev) (hij : i ≠ j) : SemS K mg W (tDrop (tBM K "list" rAppend (tVar i) (tCons (tBM K "list" rPopAt (tVar j) (tCons te tNil)) tNil))) (sAppPop i j ev) [] := by
  intro E S φ ρ σ H D I q
  obtain ⟨c, ec, q⟩ := OutOK.outO (show OutOK K mg W E S σ [] (outO (ρ.get i) _) D from q)
  obtain ⟨v, hv, qc⟩ := I.slot i c (En.get_some ec)
  cases hL : c.isL with
  | false => rw [hL] at q; exact False.elim q
  | true =>
    rw [hL] at q
    obtain ⟨l0, us0, rfl, hl0⟩ := isL_rep hL qc
    obtain ⟨d, ed, q⟩ := OutOK.outO (show OutOK K mg W E S σ [] (outO (ρ.get j) _) D from q)
    obtain ⟨w, hw, qd⟩ := I.slot j d (En.get_some ed)
    cases hM : d.isL with
    | false => rw [hM] at q; exact False.elim q
    | true =>
      rw [hM] at q
      obtain ⟨l1, us1, rfl, hl1⟩ := isL_rep hM qd
      refine ⟨_, hv, .inl ⟨rfl, us0, .of hl0⟩, ?_⟩
      refine ⟨_, hw, .inl ⟨rfl, us1, .of hl1⟩, ?_⟩
      refine h E S φ ρ σ H _ I ((OutOK.rsK I q).imp (fun t ht z S1 H1 f g1 r => ?_) fun _ z => z)
      obtain ⟨k, ek, ht⟩ := ht.outO
      obtain ⟨p, ep, ht⟩ := ht.outO
      obtain ⟨c', ea, ht⟩ := ht.outO
      have I1 := I.grow g1
      have qd1 := qd.grow g1.s g1.h
      obtain ⟨ds, a, rfl, hk0, hk1, hk2, ha, rfl⟩ : ∃ ds a, d = .ol ds ∧ 0 ≤ k ∧ k < (ds.length : Int) ∧ k < 2 ^ 63 ∧ ds[k.toNat]? = some a ∧ p = (a, .ol (ds.eraseIdx k.toNat)) := by
        cases d with
        | ol ds =>
          unfold popT at ep
          simp only at ep
          split at ep
          · rename_i hk
            obtain ⟨a, e1, e2⟩ := omap ep
            exact ⟨ds, a, rfl, hk.1, hk.2.1, hk.2.2, e1, e2.symm⟩
          · cases ep
        | _ => cases ep
      simp only [RepT] at qd1
      obtain ⟨l, us, e1, e2, hl, qs⟩ := qd1
      cases e1
      obtain ⟨b, hb, qb⟩ := qs.get ha
      refine ⟨l1, us, k, k.toNat, b, rfl, by rw [asI_rep r ek], hl, by omega, hk2, seqIx hk0 (by rw [qs.length]; exact hk1), hb, ?_⟩
      have I2 := I1.write (mv := []) (l := l1) (o := .lst (us.eraseIdx k.toNat)) (t := .ol (ds.eraseIdx k.toNat)) (fp := [l1]) j (by rw [e2]; simp) (En.get_some ed) hw (by simp only [RepT]; exact ⟨l1, _, rfl, rfl, upd_same, qs.erase k.toNat⟩) (by simp) (fun a ha => .inl (by rw [e2]; exact ha)) (by simp)
      simp only [En.clr] at I2
      have ec2 : (ρ.put j (some (.ol (ds.eraseIdx k.toNat))))[i]? = some (some c) := by rw [put_get_ne hij]; exact En.get_some ec
      obtain ⟨v2, hv2, qc2⟩ := I2.slot i c ec2
      rw [hv] at hv2
      cases hv2
      have rb : RepT K S1 (upd H1 l1 (.lst (us.eraseIdx k.toNat))) (.sh a) b [] := by
        simp only [RepT]
        exact ⟨trivial, qb⟩
      obtain ⟨l2, us2, g, e3, e4, hl2, hlt, q'⟩ := app_rep ea qc2 rb (fun a _ hf => by cases hf) (I2.nd i) .nil
      cases e3
      refine ⟨l0, us2, b, rfl, rfl, hl2, hlt, ?_⟩
      have I3 := I2.write (mv := []) (l := l0) i (by rw [e4]; simp) ec2 hv q' (by rw [List.append_nil]; exact I2.nd i) (fun a ha => by rw [List.append_nil] at ha; exact .inl ha) (by simp)
      simp only [En.clr] at I3
      exact ht S1 _ σ _ ⟨g1.s, fun _ _ => rfl⟩ I3
theorem ds_appPop (i j : Nat) (he : DV X W e te ev) (hij : i ≠ j := by decide) (hN : X.N[i]? = some x := by rfl) (hN2 : X.N[j]? = some y := by rfl)
    (hv : Vis X.env.scope x := by first | exact Or.inl rfl | exact Or.inr (Or.inl rfl) | exact Or.inr (Or.inr rfl)) (hd : (x == ("__debug__" : Str)) = false := by decide) (hcd : (x == ("__classdict__" : Str)) = false := by decide)
    (hv2 : Vis X.env.scope y := by first | exact Or.inl rfl | exact Or.inr (Or.inl rfl) | exact Or.inr (Or.inr rfl)) (hd2 : (y == ("__debug__" : Str)) = false := by decide) (hcd2 : (y == ("__classdict__" : Str)) = false := by decide)
    (hbase2 : attributeBase (.Name y np2) "pop" X.env (eval (.Name y np2) X.env) = eval (.Name y np2) X.env := by rfl)
    (hfew2 : ((backTo cpos2 (starEach [e] X.env)).all (fun x => !x.1) && (backToKw cpos2 (keywordEach [] X.env)).all (fun x => x.1.isSome)
      && decide ([e].length + ([] : List Keyword).length + (if ([] : List Keyword).isEmpty then 0 else 1) < 30)) = true := by rfl)
    (hline2 : (apos2.endLine == cpos2.line) = true := by rfl) (hs2 : starEach [e] X.env = (false, eval e X.env) :: starEach [] X.env := by rfl) (hplain2 : (backTo cpos2 (starEach ([] : List Expr) X.env)).any (·.1) = false := by rfl)
    (hbase : attributeBase (.Name x np) "append" X.env (eval (.Name x np) X.env) = eval (.Name x np) X.env := by rfl)
    (hfew : ((backTo cpos (starEach [.Call (.Attribute (.Name y np2) "pop" apos2) [e] [] cpos2] X.env)).all (fun x => !x.1) && (backToKw cpos (keywordEach [] X.env)).all (fun x => x.1.isSome)
      && decide ([Expr.Call (.Attribute (.Name y np2) "pop" apos2) [e] [] cpos2].length + ([] : List Keyword).length + (if ([] : List Keyword).isEmpty then 0 else 1) < 30)) = true := by rfl)
    (hline : (apos.endLine == cpos.line) = true := by rfl) (hs : starEach [.Call (.Attribute (.Name y np2) "pop" apos2) [e] [] cpos2] X.env = (false, eval (.Call (.Attribute (.Name y np2) "pop" apos2) [e] [] cpos2) X.env) :: starEach [] X.env := by rfl) (hplain : (backTo cpos (starEach ([] : List Expr) X.env)).any (·.1) = false := by rfl)
    (hsw : swapsWith (.Call (.Attribute (.Name x np) "append" apos) [.Call (.Attribute (.Name y np2) "pop" apos2) [e] [] cpos2] [] cpos) none pos.line X.env = pure false := by rfl) :
    DS X W (.Expr (.Call (.Attribute (.Name x np) "append" apos) [.Call (.Attribute (.Name y np2) "pop" apos2) [e] [] cpos2] [] cpos) pos) (tDrop (tBM X.K "list" rAppend (tVar i) (tCons (tBM X.K "list" rPopAt (tVar j) (tCons te tNil)) tNil))) (sAppPop i j ev) [] :=
  ⟨ps_expr (pe_bm PySem.F.plainAttrs_list PySem.F.slot_list_append PySem.F.type_list_append mt_append (pe_var hN hv hd hcd) (pa_cons (pe_bm PySem.F.plainAttrs_list PySem.F.slot_list_pop PySem.F.type_list_pop mt_popAt (pe_var hN2 hv2 hd2 hcd2) (pa_cons he.pe pa_nil hs2) hbase2 hfew2 hline2 hs2 hplain2) pa_nil hs) hbase hfew hline hs hplain) hsw, sem_appPop i j he.sm hij⟩
end
end PL
namespace PL
open PySem PySem.Spec L2
def rng3D (i j c : Int) : List D := (List.range (Builtin.Range.rangeSize i j c).toNat).map fun (k : Nat) => PyData.int (i + (k : Int) * c)
def eiRng3 (er : En → Rs (List T)) : En → Rs (List D) := fun ρ => (er ρ).bind fun ts => match ts with
  | [.sh (.int i), .sh (.int j), .sh (.int c)] => if c ≠ 0 ∧ c.natAbs < 1073741824 ∧ Builtin.Range.small i j c = true then .ok (rng3D i j c) else .bad
  | _ => .bad
theorem it_rng3 {S : Hp} (i j c : Int) : ItOK RD S (Itc i c (Builtin.Range.rangeSize i j c).toNat) (rng3D i j c) := by
  intro S1 H1 m hs hi'
  refine ⟨fun d hd => ?_, fun hl => ?_⟩
  · unfold rng3D at hd
    rw [List.getElem?_map] at hd
    by_cases h : m < (Builtin.Range.rangeSize i j c).toNat
    · rw [List.getElem?_range h] at hd
      simp only [Option.map_some, Option.some.injEq] at hd
      subst hd
      refine ⟨h, fun x H2 y => ?_⟩
      obtain ⟨rfl, rfl⟩ := y
      exact ⟨S1, .refl hi', by show RepD _ _ _; simp only [RepD]⟩
    · rw [List.getElem?_eq_none (by simpa using h)] at hd; cases hd
  · unfold rng3D at hl
    rw [List.length_map, List.length_range] at hl
    exact hl
section
variable {X : Cx} {W : WX} {tg : Expr}
theorem di_range3 {a b c : Expr} {ta : TA} {er : En → Rs (List T)} {p pos : Pos} (hg : Gl X "range") (hm : X.mg "range" = none) (ha : DAs X W [a, b, c] ta er) (hs : starEach [a, b, c] X.env = (false, eval a X.env) :: starEach [b, c] X.env := by rfl) (hpl : (backTo pos (starEach [b, c] X.env)).any (·.1) = false := by rfl) :
    DI RD X W tg (.Call (.Name "range" p) [a, b, c] [] pos) (iRng3 ta) (eiRng3 er) := by
  refine ⟨pi_range3 hg hm ha.pe hs hpl, fun E S φ ρ σ H R I q => ?_⟩
  refine ha.sm E S φ ρ σ H _ I (q.bind.imp (fun ts ht vs S' H' g r => ?_) fun _ z => z)
  split at ht
  · rename_i i j c
    split at ht
    · rename_i hb
      obtain ⟨v, w, fp, rfl, r1, v2, w2, fp2, rfl, r2, v3, w3, fp3, rfl, r3, rfl⟩ := r
      simp only [RepT, RepD] at r1 r2 r3
      obtain ⟨_, rfl⟩ := r1
      obtain ⟨_, rfl⟩ := r2
      obtain ⟨_, rfl⟩ := r3
      exact ⟨i, j, c, _, rfl, ⟨hb.1, hb.2.1, hb.2.2, PyProof.Rows.rangeSize_toNat i j c⟩, ht S' H' _ g (it_rng3 i j c)⟩
    · exact False.elim ht
  · exact False.elim ht
end
end PL
set_option Elab.async false
set_option linter.all false
set_option maxRecDepth 100000
/-! PL31: dicts with ints and texts as keys -/
namespace PL
open PySem PySem.Spec L2
def kOf : D → Option Key
  | .int i => some (.inl i)
  | .str x => some (.inr x)
  | _ => none
theorem kOf_kD (k : Key) : kOf (kD k) = some k := by cases k <;> rfl
theorem kOf_inv {d : D} {k : Key} (h : kOf d = some k) : d = kD k := by
  cases d <;> simp only [kOf, reduceCtorEq, Option.some.injEq] at h <;> subst h <;> rfl
theorem kD_rep {S : Hp} {d : D} {k : Key} {v : V} (h : kOf d = some k) (q : RepD S d v) : v = kV k := by
  rw [kOf_inv h] at q
  cases k <;> (simp only [kD, RepD] at q; exact q)
/-- the value under a key -/
def valD (kvs : List (D × D)) (k : Key) : Option D := match kvs with
  | [] => none
  | p :: r => if kOf p.1 = some k then some p.2 else valD r k
def putD (kvs : List (D × D)) (k : Key) (d : D) : List (D × D) :=
  if (kvs.any fun p => decide (kOf p.1 = some k)) = true then kvs.map (fun p => if kOf p.1 = some k then (p.1, d) else p) else kvs ++ [(kD k, d)]
/-- all keys are ints and texts -/
def keysK (kvs : List (D × D)) : Bool := kvs.all fun p => (kOf p.1).isSome
theorem dc_keys {o : Option HO} {kvs : List (D × D)} {vs : List V} (h : DcAt o (kvs.map (·.1)) vs) (hk : keysK kvs = true) : ∃ kk : List (Key × V), o = some (.dK kk) ∧ kvs.map (·.1) = kk.map (fun p => kD p.1) ∧ vs = kk.map (·.2) := by
  rcases h with h | ⟨kk, _, e2, e3, _⟩
  · exact h
  · exfalso
    cases kk with
    | nil => exact e2 rfl
    | cons p kk =>
      cases kvs with
      | nil => cases e3
      | cons q kvs =>
        simp only [List.map_cons, List.cons.injEq] at e3
        unfold keysK at hk
        rw [List.all_cons, Bool.and_eq_true, e3.1] at hk
        cases hk.1
theorem dcF_keys {o : Option HO} {kvs : List (D × D)} {vs : List V} (h : DcF o (kvs.map (·.1)) vs) (hk : keysK kvs = true) : ∃ kk : List (Key × V), (o = some (.dK kk) ∨ ∃ ob, o = some (.frz ob (.dK kk))) ∧ kvs.map (·.1) = kk.map (fun p => kD p.1) ∧ vs = kk.map (·.2) := by
  rcases h with h | ⟨ob, kk, e1, e2⟩
  · obtain ⟨kk, e1, e2⟩ := dc_keys h hk
    exact ⟨kk, .inl e1, e2⟩
  · exact ⟨kk, .inr ⟨ob, e1⟩, e2⟩
theorem val_rep {S : Hp} : ∀ {kvs : List (D × D)} {kk : List (Key × V)} (k : Key), kvs.map (·.1) = kk.map (fun p => kD p.1) → RepPs S kvs (kk.map (·.2)) → match valD kvs k with
    | some d => ∃ v, valV kk k = some v ∧ RepD S d v
    | none => valV kk k = none
  | [], [], k, _, _ => rfl
  | [], _ :: _, k, e, _ => by cases e
  | _ :: _, [], k, e, _ => by cases e
  | p :: kvs, q :: kk, k, e, r => by
    simp only [List.map_cons, List.cons.injEq] at e
    simp only [List.map_cons, RepPs] at r
    obtain ⟨v, rr, e1, r1, r2⟩ := r
    simp only [List.cons.injEq] at e1
    obtain ⟨rfl, rfl⟩ := e1
    unfold valD
    rw [e.1, kOf_kD]
    by_cases h : q.1 = k
    · rw [if_pos (by rw [h]), valV_pos h]
      refine ⟨_, rfl, ?_⟩
      obtain ⟨pk, pd⟩ := p
      simpa only [RepP] using r1
    · rw [if_neg (by simpa using h), valV_neg h]
      exact val_rep k e.2 r2
def T.dk : T → Option (List (D × D))
  | .sh (.dict kvs) => some kvs
  | .od kvs => some kvs
  | _ => none
theorem dk_rep {K : PySem.W.Frag} {S H : Hp} {t : T} {v : V} {fp : List Addr} {kvs : List (D × D)} (i : Same S H) (q : RepT K S H t v fp) (e : t.dk = some kvs) : ∃ a vs, v = .ref a ∧ DcF (H a) (kvs.map (·.1)) vs ∧ RepPs S kvs vs := by
  unfold T.dk at e
  split at e
  · cases e
    simp only [RepT, RepD] at q
    obtain ⟨_, a, vs, rfl, ha, r⟩ := q
    exact ⟨a, vs, rfl, ha.same (i _), r⟩
  · cases e
    simp only [RepT] at q
    obtain ⟨a, vs, rfl, _, ha, r⟩ := q
    exact ⟨a, vs, rfl, .inl ha, r⟩
  · cases e
/-- d[k] -/
def fDGet (x y : T) : Option T := x.dk.bind fun kvs => match y with
  | .sh d => (kOf d).bind fun k => if keysK kvs = true then (valD kvs k).map T.sh else none
  | _ => none
/-- k in d -/
def fDIn (neg : Bool) (y x : T) : Option T := x.dk.bind fun kvs => match y with
  | .sh d => (kOf d).bind fun k => if keysK kvs = true then some (.sh (.bool (if neg then !(valD kvs k).isSome else (valD kvs k).isSome))) else none
  | _ => none
/-- d.get(k, z) -/
def fDGet2 (x y z : T) : Option T := x.dk.bind fun kvs => match y with
  | .sh d => (kOf d).bind fun k => if keysK kvs = true then (match valD kvs k with
    | some v => some (.sh v)
    | none => (match z with
      | .sh c => some (.sh c)
      | _ => none)) else none
  | _ => none
theorem get_some {K : PySem.W.Frag} {S H : Hp} {x y : T} {vx vy : V} {fx fy : List Addr} (i : Same S H) (qx : RepT K S H x vx fx) (qy : RepT K S H y vy fy) {kvs : List (D × D)} {d : D} {k : Key} (e1 : x.dk = some kvs) (e2 : y = .sh d) (e3 : kOf d = some k) (e4 : keysK kvs = true) :
    ∃ a, vx = .ref a ∧ match valD kvs k with
      | some c => ∃ v, DGet H a vy (some v) ∧ RepD S c v
      | none => DGet H a vy none := by
  obtain ⟨a, vs, rfl, ha, r⟩ := dk_rep i qx e1
  obtain ⟨kk, o1, o2, rfl⟩ := dcF_keys ha e4
  subst e2
  have hy := kD_rep e3 (rep_sh qy)
  subst hy
  refine ⟨a, rfl, ?_⟩
  have := val_rep k o2 r
  cases hv : valD kvs k with
  | some c =>
    rw [hv] at this
    obtain ⟨v, h1, h2⟩ := this
    exact ⟨v, by rw [← h1]; exact .inl ⟨kk, k, o1, rfl, rfl⟩, h2⟩
  | none =>
    rw [hv] at this
    have h1 : valV kk k = none := this
    show DGet H a (kV k) none
    rw [← h1]; exact .inl ⟨kk, k, o1, rfl, rfl⟩
section
variable {X : Cx} {W : WX} {a b e : Expr} {ta tb te : TE} {ea eb ev : En → Rs T} {pos : Pos}
theorem dv_dget (hu : X.A.units + 64 < cLine) (ha : DV X W a ta ea) (hb : DV X W b tb eb) (hs : NoSl b := by exact fun _ _ => rfl) : DV X W (.Subscript a b pos) (tDGet ta tb) (evBin fDGet ea eb) := by
  refine ⟨pe_dget (by omega) ha.pe hb.pe hs, fun E S φ ρ σ H Q I h => ?_⟩
  refine ha.sm E S φ ρ σ H _ I (h.bind.imp (fun x hx vx S1 H1 fx g1 qx => ?_) fun _ z => z)
  refine hb.sm E S1 φ ρ σ H1 _ (I.grow g1) (hx.bind.imp (fun y hy vy S2 H2 fy g2 qy => ?_) fun _ z S' H' g => z S' H' (g1.trans g))
  obtain ⟨t, et, ht⟩ := hy.rsO
  unfold fDGet at et
  obtain ⟨kvs, e1, et⟩ := obind et
  split at et
  · rename_i d
    obtain ⟨k, e3, et⟩ := obind et
    split at et
    · rename_i e4
      obtain ⟨c, e5, rfl⟩ := omap et
      obtain ⟨p, rfl, hg⟩ := get_some g2.i (qx.grow g2.s g2.h) qy e1 rfl e3 e4
      rw [e5] at hg
      obtain ⟨v, h1, h2⟩ := hg
      exact ⟨p, v, rfl, h1, ht v S2 H2 [] (g1.trans g2) (by simp only [RepT]; exact ⟨trivial, h2⟩)⟩
    · cases et
  · cases et
theorem dt_din (hu : X.A.units + 64 < cLine) (ha : DV X W a ta ea) (hb : DV X W b tb eb) (hm : behindInMarks .In b = false := by rfl) : DT X W (.Compare a [.In] [b] pos) (tB (tDIn ta tb)) (evEB (evBin (fDIn false) ea eb)) := by
  refine ⟨pt_cmp (pc_din (by omega) ha.pe hb.pe) hm, sem_eb fun E S φ ρ σ H Q I h => ?_⟩
  refine ha.sm E S φ ρ σ H _ I (h.bind.imp (fun y hy vy S1 H1 fy g1 qy => ?_) fun _ z => z)
  refine hb.sm E S1 φ ρ σ H1 _ (I.grow g1) (hy.bind.imp (fun x hx vx S2 H2 fx g2 qx => ?_) fun _ z S' H' g => z S' H' (g1.trans g))
  obtain ⟨t, et, ht⟩ := hx.rsO
  unfold fDIn at et
  obtain ⟨kvs, e1, et⟩ := obind et
  split at et
  · rename_i d
    obtain ⟨k, e3, et⟩ := obind et
    split at et
    · rename_i e4
      cases et
      obtain ⟨p, rfl, hg⟩ := get_some g2.i qx (qy.grow g2.s g2.h) e1 rfl e3 e4
      cases hv : valD kvs k with
      | some c =>
        rw [hv] at hg
        obtain ⟨v, h1, h2⟩ := hg
        exact ⟨p, some v, rfl, h1, (ht.ret.later (g1.trans g2)).flat g2.i fun _ => by rw [hv]; simp only [RepD]; rfl⟩
      | none =>
        rw [hv] at hg
        exact ⟨p, none, rfl, hg, (ht.ret.later (g1.trans g2)).flat g2.i fun _ => by rw [hv]; simp only [RepD]; rfl⟩
    · cases et
  · cases et
theorem dt_dnotin (hu : X.A.units + 64 < cLine) (ha : DV X W a ta ea) (hb : DV X W b tb eb) (hm : behindInMarks .NotIn b = false := by rfl) : DT X W (.Compare a [.NotIn] [b] pos) (tB (tDNotIn ta tb)) (evEB (evBin (fDIn true) ea eb)) := by
  refine ⟨pt_cmp (pc_dnotin (by omega) ha.pe hb.pe) hm, sem_eb fun E S φ ρ σ H Q I h => ?_⟩
  refine ha.sm E S φ ρ σ H _ I (h.bind.imp (fun y hy vy S1 H1 fy g1 qy => ?_) fun _ z => z)
  refine hb.sm E S1 φ ρ σ H1 _ (I.grow g1) (hy.bind.imp (fun x hx vx S2 H2 fx g2 qx => ?_) fun _ z S' H' g => z S' H' (g1.trans g))
  obtain ⟨t, et, ht⟩ := hx.rsO
  unfold fDIn at et
  obtain ⟨kvs, e1, et⟩ := obind et
  split at et
  · rename_i d
    obtain ⟨k, e3, et⟩ := obind et
    split at et
    · rename_i e4
      cases et
      obtain ⟨p, rfl, hg⟩ := get_some g2.i qx (qy.grow g2.s g2.h) e1 rfl e3 e4
      cases hv : valD kvs k with
      | some c =>
        rw [hv] at hg
        obtain ⟨v, h1, h2⟩ := hg
        exact ⟨p, some v, rfl, h1, (ht.ret.later (g1.trans g2)).flat g2.i fun _ => by rw [hv]; simp only [RepD]; rfl⟩
      | none =>
        rw [hv] at hg
        exact ⟨p, none, rfl, hg, (ht.ret.later (g1.trans g2)).flat g2.i fun _ => by rw [hv]; simp only [RepD]; rfl⟩
    · cases et
  · cases et
/-- {} -/
def evNewD : En → Rs T := fun _ => .ok (.od [])
theorem de_dnew : DE X W (.Dict [] [] pos) tDNewK evNewD [] := by
  refine ⟨pe_dnewK, fun E S φ ρ σ H Q I h p hp => ?_⟩
  have h : RetM X.K S H φ [] (.od []) Q := h
  refine h (.ref p) S _ [p] (.own I.gr.i hp) (by simp only [RepT]; exact ⟨p, [], rfl, rfl, .inl ⟨[], upd_same, rfl, rfl⟩, by simp only [RepPs]⟩) (by simp) fun a ha => ?_
  have e : a = p := by simpa using ha
  subst e
  exact ⟨I.gr.i.free hp, .inl hp⟩
end
/-! ### d[k] = v on an own dict -/
theorem any_rep {k : Key} : ∀ {kvs : List (D × D)} {kk : List (Key × V)}, kvs.map (·.1) = kk.map (fun p => kD p.1) → (kvs.any fun p => decide (kOf p.1 = some k)) = kk.any fun kv => decide (kv.1 = k)
  | [], [], _ => rfl
  | [], _ :: _, e => by cases e
  | _ :: _, [], e => by cases e
  | p :: kvs, q :: kk, e => by
    simp only [List.map_cons, List.cons.injEq] at e
    rw [List.any_cons, List.any_cons, any_rep e.2, e.1, kOf_kD]
    congr 1
    simp
theorem repl_rep {S : Hp} {k : Key} {d : D} {v : V} (qd : RepD S d v) : ∀ {kvs : List (D × D)} {kk : List (Key × V)}, kvs.map (·.1) = kk.map (fun p => kD p.1) → RepPs S kvs (kk.map (·.2)) →
    (kvs.map fun p => if kOf p.1 = some k then (p.1, d) else p).map (·.1) = (kk.map fun kv => if kv.1 = k then (kv.1, v) else kv).map (fun p => kD p.1) ∧ RepPs S (kvs.map fun p => if kOf p.1 = some k then (p.1, d) else p) ((kk.map fun kv => if kv.1 = k then (kv.1, v) else kv).map (·.2))
  | [], [], _, _ => ⟨rfl, by simp only [List.map_nil, RepPs]⟩
  | [], _ :: _, e, _ => by cases e
  | _ :: _, [], e, _ => by cases e
  | p :: kvs, q :: kk, e, r => by
    simp only [List.map_cons, List.cons.injEq] at e
    simp only [List.map_cons, RepPs] at r
    obtain ⟨w, rr, e1, r1, r2⟩ := r
    simp only [List.cons.injEq] at e1
    obtain ⟨rfl, rfl⟩ := e1
    obtain ⟨i1, i2⟩ := repl_rep qd (k := k) e.2 r2
    have hk : (kOf p.1 = some k) = (q.1 = k) := by rw [e.1, kOf_kD]; simp
    simp only [List.map_cons, RepPs, List.cons.injEq]
    refine ⟨⟨?_, i1⟩, _, _, ⟨rfl, rfl⟩, ?_, i2⟩
    · by_cases h : q.1 = k
      · rw [if_pos h, if_pos (by rw [hk]; exact h)]; exact e.1
      · rw [if_neg h, if_neg (by rw [hk]; exact h)]; exact e.1
    · by_cases h : q.1 = k
      · rw [if_pos h, if_pos (by rw [hk]; exact h)]
        simp only [RepP]; exact qd
      · rw [if_neg h, if_neg (by rw [hk]; exact h)]; exact r1
theorem RepPs.app {S : Hp} : ∀ {kvs ls : List (D × D)} {vs ws : List V}, RepPs S kvs vs → RepPs S ls ws → RepPs S (kvs ++ ls) (vs ++ ws)
  | [], ls, vs, ws, q, r => by
    simp only [RepPs] at q
    subst q; exact r
  | p :: kvs, ls, vs, ws, q, r => by
    simp only [RepPs] at q
    obtain ⟨v, rr, rfl, q1, q2⟩ := q
    simp only [List.cons_append, RepPs]
    exact ⟨v, _, rfl, q1, RepPs.app q2 r⟩
theorem put_rep {S : Hp} {k : Key} {d : D} {v : V} (qd : RepD S d v) {kvs : List (D × D)} {kk : List (Key × V)} (e : kvs.map (·.1) = kk.map (fun p => kD p.1)) (r : RepPs S kvs (kk.map (·.2))) :
    (putD kvs k d).map (·.1) = (putK kk k v).map (fun p => kD p.1) ∧ RepPs S (putD kvs k d) ((putK kk k v).map (·.2)) := by
  unfold putD putK
  rw [any_rep (k := k) e]
  split
  · exact repl_rep qd e r
  · refine ⟨by rw [List.map_append, List.map_append, e]; rfl, ?_⟩
    rw [List.map_append]
    refine RepPs.app r ?_
    simp only [List.map_cons, List.map_nil, RepPs, RepP]
    exact ⟨v, [], rfl, qd, rfl⟩
def T.asK : T → Option Key
  | .sh d => kOf d
  | _ => none
theorem asK_rep {K : PySem.W.Frag} {S H : Hp} {t : T} {v : V} {fp : List Addr} {k : Key} (q : RepT K S H t v fp) (e : t.asK = some k) : v = kV k := by
  unfold T.asK at e
  split at e
  · exact kD_rep e (rep_sh q)
  · cases e
def putDT (c : T) (k : Key) (d : D) : Option T := match c with
  | .od kvs => if keysK kvs = true ∧ kvs.length < sizeLine then some (.od (putD kvs k d)) else none
  | _ => none
def sDPutS (i : Nat) (ek ev : En → Rs T) : En → Out := fun ρ => outO (ρ.get i) fun c => rsK (ev ρ) ρ fun t => outO t.asD fun d => rsK (ek ρ) ρ fun k => outO k.asK fun k => outO (putDT c k d) fun c' => .nx (ρ.put i (some c'))
theorem sem_dput {W : WX} {te tk : TE} {ev ek : En → Rs T} {K : PySem.W.Frag} {mg : Str → Option Value} (i : Nat) (h : SemV K mg W te ev) (hk : SemV K mg W tk ek) : SemS K mg W (sDPut (tVar i) tk te) (sDPutS i ek ev) [] := by
  intro E S φ ρ σ H D I q
  obtain ⟨c, ec, q⟩ := OutOK.outO (show OutOK K mg W E S σ [] (outO (ρ.get i) _) D from q)
  obtain ⟨v, hv, qc⟩ := I.slot i c (En.get_some ec)
  refine h E S φ ρ σ H _ I ((OutOK.rsK I q).imp (fun t ht w S1 H1 f g1 r => ⟨v, hv, ?_⟩) fun _ z => z)
  obtain ⟨d, ed, ht⟩ := ht.outO
  have I1 := I.grow g1
  have ht1 := OutOK.later (as := []) ht ⟨g1.s, fun _ _ => rfl⟩ [] (fun _ z => z) fun _ z => z
  refine hk E S1 φ ρ σ H1 _ I1 ((OutOK.rsK I1 ht1).imp (fun k hk' kv S2 H2 fk g2 rk => ?_) fun _ z => z)
  obtain ⟨k, ek', hk'⟩ := hk'.outO
  obtain ⟨c', ea, hk'⟩ := hk'.outO
  have I2 := I1.grow g2
  have g12 := g1.trans g2
  have qc2 := qc.grow g12.s g12.h
  have rd : RepD S2 d w := by
    unfold T.asD at ed
    split at ed
    · cases ed
      simp only [RepT] at r
      exact RepD.mono g2.s _ _ r.2
    · cases ed
  obtain ⟨kvs, rfl, hc, rfl⟩ : ∃ kvs, c = .od kvs ∧ (keysK kvs = true ∧ kvs.length < sizeLine) ∧ T.od (putD kvs k d) = c' := by
    cases c with
    | od kvs =>
      unfold putDT at ea
      simp only at ea
      split at ea
      · rename_i hc
        exact ⟨kvs, rfl, hc, Option.some.inj ea⟩
      · cases ea
    | _ => cases ea
  simp only [RepT] at qc2
  obtain ⟨l, vs, rfl, e2, hl, qs⟩ := qc2
  obtain ⟨kk, o1, o2, rfl⟩ := dc_keys hl hc.1
  have hkv := asK_rep rk ek'
  subst hkv
  obtain ⟨p1, p2⟩ := put_rep (k := k) rd o2 qs
  have hlen : kk.length < sizeLine := by
    have := congrArg List.length o2
    rw [List.length_map, List.length_map] at this
    rw [← this]; exact hc.2
  refine ⟨l, _, rfl, .k o1 hlen, ?_⟩
  have I3 := I2.write (mv := []) (l := l) (o := .dK (putK kk k w)) (t := .od (putD kvs k d)) (fp := [l]) i (by rw [e2]; simp) (En.get_some ec) hv (by simp only [RepT]; exact ⟨l, _, rfl, rfl, .inl ⟨_, upd_same, p1, rfl⟩, p2⟩) (by simp) (fun a ha => .inl (by rw [e2]; exact ha)) (by simp)
  simp only [En.clr] at I3
  exact hk' S2 _ σ _ ⟨g2.s, fun _ _ => rfl⟩ I3
section
variable {X : Cx} {W : WX} {e : Expr} {te : TE} {ev : En → Rs T} {pos np : Pos} {x : Str}
theorem ds_dput (i : Nat) {k : Expr} {tk : TE} {ek : En → Rs T} {spos : Pos} (hu : X.A.units + 64 < cLine) (he : DV X W e te ev) (hk : DV X W k tk ek) (hN : X.N[i]? = some x := by rfl) (hv : Vis X.env.scope x := by first | exact Or.inl rfl | exact Or.inr (Or.inl rfl) | exact Or.inr (Or.inr rfl)) (hd : (x == ("__debug__" : Str)) = false := by decide)
    (hcd : (x == ("__classdict__" : Str)) = false := by decide)
    (hs : swapsWith e (some (.Subscript (.Name x np) k spos)) pos.line X.env = pure false := by rfl) :
    DS X W (.Assign [.Subscript (.Name x np) k spos] e pos) (sDPut (tVar i) tk te) (sDPutS i ek ev) [] :=
  ⟨ps_dput (by omega) (pe_var hN hv hd hcd) hk.pe he.pe hs, sem_dput i he.sm hk.sm⟩
end
end PL
set_option Elab.async false
set_option linter.all false
set_option maxRecDepth 100000
/-! PL32: dict comprehensions, keys ints or texts -/
namespace PL
open PySem PySem.Spec L2
def dcompL (g : D → En → Option En) (c : En → Rs Bool) (ek ev : En → Rs T) (ρ : En) (acc : List (D × D)) : List D → Option (List (D × D))
  | [] => some acc
  | d :: ds => (g d ρ).bind fun ρ1 => (c ρ1).o.bind fun k => bif k then ((ek ρ1).o.bind fun kt => kt.asK.bind fun key => (ev ρ1).o.bind fun t => t.asD.bind fun v => if acc.length < sizeLine then dcompL g c ek ev ρ (putD acc key v) ds else none) else dcompL g c ek ev ρ acc ds
def evDComp (ei : En → Rs (List D)) (vs : List Nat) (g : D → En → Option En) (c : En → Rs Bool) (ek ev : En → Rs T) : En → Rs T := fun ρ =>
  (ei ρ).bind fun ds => (rsO (dcompL g c ek ev (ρ.clr vs) [] ds)).bind fun kvs => .ok (.od kvs)
theorem sem_dcomp {Rp : Rel} {K : PySem.W.Frag} {mg : Str → Option Value} {W : WX} {wi : TI} {ei : En → Rs (List D)} {vs as : List Nat} {g : TG} {eg : D → En → Option En} {tt : TT} {ec : En → Rs Bool} {tk tv : TE} {ek ev : En → Rs T}
    (hi : SemI Rp K mg W wi ei) (hg : SemG Rp K g eg as) (ha : ∀ i ∈ as, i ∈ vs) (ht : SemB K mg W0 tt ec) (hk : SemV K mg W0 tk ek) (he : SemV K mg W0 tv ev) : SemE K mg W (tDc wi g tt tk tv vs) (evDComp ei vs eg ec ek ev) [] := by
  intro E S φ ρ σ H Q I h
  refine hi E S φ ρ σ H _ I (h.bind.imp (fun ds hds S0 H0 J g0 hJ D hD => ?_) fun _ z => z)
  obtain ⟨tot, etot, hQ⟩ := hds.bind.rsO
  have hQ : RetM K S H φ [] (.od tot) Q := hQ
  have nS0 : S0 D = none := g0.i.free hD
  refine ⟨fun i m H' => m = ds.length - i ∧ i ≤ ds.length ∧ ∃ S' acc kk, Grow S0 H0 S' H' ∧ H' D = some (.dK kk) ∧ S' D = none ∧ acc.map (·.1) = kk.map (fun p => kD p.1) ∧ RepPs S' acc (kk.map (·.2)) ∧
    dcompL eg ec ek ev (ρ.clr vs) acc (ds.drop i) = some tot, ⟨ds.length, by simp, Nat.zero_le _, S0, [], [], ?_, upd_same, nS0, rfl, by simp only [List.map_nil, RepPs], etot⟩, ?_⟩
  · exact .own g0.i hD
  rintro i m H' ⟨rfl, hle, S', acc, kk, gg, hl, nD, ek0, q, er⟩
  obtain ⟨h1, h2⟩ := hJ S' H' i gg.s gg.i
  by_cases hlt : i < ds.length
  · obtain ⟨hgo, hy⟩ := h1 ds[i] (by simp [hlt])
    rw [List.drop_eq_getElem_cons hlt] at er
    refine .inr ⟨hgo, fun H3 => ∃ S3 acc kk, Grow S0 H0 S3 H3 ∧ H3 D = some (.dK kk) ∧ S3 D = none ∧ acc.map (·.1) = kk.map (fun p => kD p.1) ∧ RepPs S3 acc (kk.map (·.2)) ∧
      dcompL eg ec ek ev (ρ.clr vs) acc (ds.drop (i + 1)) = some tot, fun H3 ⟨S3, acc, kk, z⟩ => ⟨ds.length - (i + 1), by omega, rfl, hlt, S3, acc, kk, z⟩, fun x H2 y => ?_⟩
    obtain ⟨S2, g2, r2⟩ := hy x H2 y
    have I2 : StInv K E S2 φ (ρ.clr vs) (L2.wipe σ vs) H2 := ((I.grow g0).grow (gg.trans g2)).wipe vs
    obtain ⟨ρ1, e1, er⟩ := obind er
    refine hg E S2 φ _ _ H2 ds[i] x _ ρ1 I2 r2 e1 fun φ1 σ1 _ k1 l1 I1 => ⟨wipe_eq (by rw [l1, wipe_length]) k1 ha, ?_⟩
    obtain ⟨k, e2, er⟩ := obind er
    refine ht E S2 φ1 ρ1 σ1 H2 _ I1 (RsOK.of_o e2 fun S3 H3 g3 => ?_)
    have g23 := g2.trans g3
    cases k with
    | false =>
      rw [if_neg (by decide)]
      exact ⟨S3, acc, kk, gg.trans g23, g23.h _ _ hl, g23.f D ⟨_, hl⟩ nD, ek0, RepPs.mono g23.s _ _ q, er⟩
    | true =>
      rw [if_pos rfl]
      obtain ⟨kt, e3, er⟩ := obind (show ((ek ρ1).o.bind fun kt => kt.asK.bind fun key => (ev ρ1).o.bind fun t => t.asD.bind fun v => if acc.length < sizeLine then dcompL eg ec ek ev (ρ.clr vs) (putD acc key v) (ds.drop (i + 1)) else none) = some tot from er)
      obtain ⟨key, e4, er⟩ := obind er
      obtain ⟨t, e5, er⟩ := obind er
      obtain ⟨v, e6, er⟩ := obind er
      split at er
      · rename_i hz
        refine hk E S3 φ1 ρ1 σ1 H3 _ (I1.grow g3) (RsOK.of_o e3 fun kv S4 H4 f4 g4 q4 => ?_)
        refine he E S4 φ1 ρ1 σ1 H4 _ ((I1.grow g3).grow g4) (RsOK.of_o e5 fun w S5 H5 f5 g5 q5 => ?_)
        have hkv := asK_rep q4 e4
        subst hkv
        have g25 := (g23.trans g4).trans g5
        have hl5 : H5 D = some (.dK kk) := g25.h _ _ hl
        have nS5 : S5 D = none := g25.f D ⟨_, hl⟩ nD
        have rd : RepD S5 v w := by
          unfold T.asD at e6
          split at e6
          · cases e6
            exact rep_sh q5
          · cases e6
        obtain ⟨p1, p2⟩ := put_rep (k := key) rd ek0 (RepPs.mono g25.s _ _ q)
        have hlen : kk.length < sizeLine := by
          have := congrArg List.length ek0
          rw [List.length_map, List.length_map] at this
          omega
        refine ⟨kk, key, rfl, hl5, hlen, S5, putD acc key v, putK kk key w, ?_, upd_same, nS5, p1, p2, er⟩
        have G := gg.trans g25
        refine ⟨fun b o e => ?_, G.s, fun b o e => ?_, G.f⟩
        · rw [upd_ne (ne_of_none e hD)]; exact G.h _ _ e
        · rw [upd_ne (ne_of_none e nS5)]; exact G.i _ _ e
      · cases er
  · have e : i = ds.length := by omega
    subst e
    rw [List.drop_length] at er
    cases er
    refine .inl ⟨h2 (Nat.le_refl _), hQ _ S' H' [D] (g0.trans gg) (by simp only [RepT]; exact ⟨D, _, rfl, rfl, .inl ⟨kk, hl, ek0, rfl⟩, q⟩) (by simp) fun a ha => ?_⟩
    have e : a = D := by simpa using ha
    subst e
    exact ⟨nD, .inl (g0.h.free hD)⟩
section
variable {X : Cx} {W : WX} {kx vx tg iter : Expr} {ifs : List Expr} {scope : Scope} {own : List (Str × Nat)} {pos : Pos} {wi : TI} {ei : En → Rs (List D)} {as : List Nat} {g : TG} {eg : D → En → Option En} {tt : TT} {ec : En → Rs Bool} {tk tv : TE} {ek ev : En → Rs T}
theorem de_dc {Rp : Rel} (vs : List Nat) (hc : X.calm = true) (hN : X.N.Nodup) (hi : DI Rp X W tg iter wi ei) (ok : BlkOk X.N X.env.scope scope own)
    (hg : ∀ (s : Shared) (H : Hp) (C : Addr) (cl : List (Str × Addr)) (fp : List Addr), DG Rp (X.blk s H scope (compEnvC scope cl C X.env) fp) tg g eg as)
    (ht : ∀ (s : Shared) (H : Hp) (C : Addr) (cl : List (Str × Addr)) (fp : List Addr), DTs (X.blk s H scope (compEnvC scope cl C X.env) fp) W0 ifs tt ec)
    (hk : ∀ (s : Shared) (H : Hp) (C : Addr) (cl : List (Str × Addr)) (fp : List Addr), DV (X.blk s H scope (compEnvC scope cl C X.env) fp) W0 kx tk ek)
    (he : ∀ (s : Shared) (H : Hp) (C : Addr) (cl : List (Str × Addr)) (fp : List Addr), DV (X.blk s H scope (compEnvC scope cl C X.env) fp) W0 vx tv ev)
    (hv : own.map (·.2) = vs := by rfl) (ha : ∀ i ∈ as, i ∈ vs := by decide) (hs : ∀ x, foldedSetIterable iter X.env x = pure x := by intro _; rfl) :
    DE X W (.DictComp kx vx [⟨tg, iter, ifs, 0⟩] scope pos) (tDc wi g tt tk tv (own.map (·.2))) (evDComp ei vs eg ec ek ev) [] := by
  subst hv
  exact ⟨pe_dc hc hN hi.pi ok (fun s H C cl fp => (hg s H C cl fp).pg) (fun s H C cl fp => (ht s H C cl fp).pt) (fun s H C cl fp => (hk s H C cl fp).pe) (fun s H C cl fp => (he s H C cl fp).pe) hs,
    sem_dcomp hi.sm (hg X.s_0 (fun _ => none) 0 [] []).sm ha (ht X.s_0 (fun _ => none) 0 [] []).sm (hk X.s_0 (fun _ => none) 0 [] []).sm (he X.s_0 (fun _ => none) 0 [] []).sm⟩
end
end PL
set_option Elab.async false
set_option linter.all false
set_option maxRecDepth 100000
set_option maxHeartbeats 4000000
/-! PL33: range(..) as a value, walked by its name; sorted(set(list of ints)). -/
namespace PL
open PySem PySem.Spec PyProof.Rows L2
def dedI : List Int → List Int
  | [] => []
  | n :: ns => if n ∈ ns then dedI ns else n :: dedI ns
theorem dedI_mem : ∀ (ns : List Int) (k : Int), k ∈ dedI ns ↔ k ∈ ns
  | [], k => by simp [dedI]
  | n :: ns, k => by
    unfold dedI
    have := dedI_mem ns k
    by_cases h : n ∈ ns
    · rw [if_pos h, this]
      constructor
      · exact fun z => List.mem_cons_of_mem _ z
      · intro z
        rcases List.mem_cons.mp z with rfl | z
        · exact h
        · exact z
    · rw [if_neg h, List.mem_cons, List.mem_cons, this]
theorem dedI_nodup : ∀ ns : List Int, (dedI ns).Nodup
  | [] => by simp [dedI]
  | n :: ns => by
    unfold dedI
    by_cases h : n ∈ ns
    · rw [if_pos h]; exact dedI_nodup ns
    · rw [if_neg h]; exact List.nodup_cons.mpr ⟨fun z => h ((dedI_mem ns n).mp z), dedI_nodup ns⟩
theorem setR_card {w : World} {h : Heap} {a : Addr} {ns : List Int} {c : Nat} (R : SetR w h a (fun j => decide (j ∈ ns)) c) : c = (dedI ns).length := by
  obtain ⟨o, es, ep, t, ho, hx, hd, g, nd, hm, hb, hf, hn, _⟩ := R
  have p : (es.toList.map keyOf).Perm (dedI ns) := (List.perm_ext_iff_of_nodup nd (dedI_nodup ns)).mpr fun k => by
    rw [dedI_mem, ← hm k]; simp
  have := p.length_eq
  rw [List.length_map, Array.length_toList, hn] at this
  exact this
theorem dedI_take (ns : List Int) (i : Nat) : (dedI (ns.take i)).length ≤ (dedI ns).length := by
  have p : (dedI (ns.take i)).Perm ((dedI ns).filter fun k => decide (k ∈ ns.take i)) := (List.perm_ext_iff_of_nodup (dedI_nodup _) ((dedI_nodup ns).filter _)).mpr fun k => by
    rw [dedI_mem, List.mem_filter, dedI_mem]
    simp only [decide_eq_true_eq]
    exact ⟨fun h => ⟨List.mem_of_mem_take h, h⟩, fun h => h.2⟩
  rw [p.length_eq]
  exact List.length_filter_le _ _
section
variable {P : Program} {w : World} {A : Around} {E : Value → Shared → Prop} {s : Shared}
theorem set_update_ded {I : Addr} {fp wr : List Addr} {G : Array GenState → Array GenState → Prop} {n : Nat} {Pv : Nat → Value → Prop} {St : Nat → Shared → Prop} {R : Result → Shared → Prop}
    (W : WalksS P w A.in1 I fp wr G n Pv St) (S : Addr) (hSf : S ∉ fp) (ns : List Int) (hn : n = ns.length) (hb : (dedI ns).length + 1 < scanBound) (hval : ∀ i v, Pv i v → ∃ k t, ns[i]? = some k ∧ v = .int k t) :
    ∀ (k i : Nat) (s : Shared), n - i = k → i ≤ n → St i s → (∃ c, c ≤ i ∧ SetR w s.heap S (fun j => decide (j ∈ ns.take i)) c) →
      (∀ s' c, Moved (S :: wr) G s s' → c ≤ n → SetR w s'.heap S (fun j => decide (j ∈ ns)) c → R (.ok (.ret .none)) s') →
      codeAny (model P w) A (.builtin "set.update.loop" ⟨[.ref S, .ref I], []⟩) R s := by
  have hSw : S ∉ wr := fun h => hSf (W.sub _ h)
  have hsub : ∀ b ∈ wr, b ∈ S :: wr := fun b hb => List.mem_cons_of_mem _ hb
  intro k
  induction k with
  | zero =>
    intro i s hk' hi hst ⟨c, hc, hS⟩ hR
    have hin : i = n := by omega
    subst hin
    refine codeAny_builtin F.entry_set_update_loop ?_
    rw [Around.under_plainId F.plain_set_update_loop _]
    show wpAny _ A.in1 (pyNext (.ref I) >>= _) _ _ s
    refine wpAny_bind (W.done s _ _ hst fun s' hm => ?_)
    show wpAny _ A.in1 (ret Value.none) _ _ s'
    have e : ns.take i = ns := List.take_of_length_le (by omega)
    rw [e] at hS
    exact wpAny_pure (hR s' c (hm.mono hsub) hc (hS.at fun o e => hm.heap S o hSw e))
  | succ k ih =>
    intro i s hk' hi hst ⟨c, hc, hS⟩ hR
    have hlt : i < n := by omega
    refine codeAny_builtin F.entry_set_update_loop ?_
    rw [Around.under_plainId F.plain_set_update_loop _]
    show wpAny _ A.in1 (pyNext (.ref I) >>= _) _ _ s
    refine wpAny_bind (W.item i s _ _ hlt hst fun v s' hP hst' hm => ?_)
    obtain ⟨z, t, hz, rfl⟩ := hval i v hP
    have hS' : SetR w s'.heap S (fun j => decide (j ∈ ns.take i)) c := hS.at fun o e => hm.heap S o hSw e
    show wpAny _ A.in1 (holding [Value.int z t] (setAdd S (.int z t)) >>= _) _ _ s'
    refine wpAny_bind (wpAny_holding ?_)
    unfold setAdd
    refine wpAny_holding ?_
    refine wpAny_bind ((intKind P w).pyHash (k := z) (intKind_is _ _ _ _) ?_)
    refine setR_add_hashed (s := { s' with toks := s'.toks + 1 }) hS' (by have z1 := setR_card hS'; have z2 := dedI_take ns i; omega) fun h' hsb hS2 => ?_
    have hS3 : SetR w h' S (fun j => decide (j ∈ ns.take (i + 1))) (if decide (z ∈ ns.take i) = true then c else c + 1) := hS2.congr fun j => by
      rw [List.take_add_one, hz]
      simp [List.mem_append]
    have hc3 : (if decide (z ∈ ns.take i) = true then c else c + 1) ≤ i + 1 := by
      split <;> omega
    refine wpAny_pure ⟨plainId_quiet F.plain_set_update_loop _, ih (i + 1) _ (by omega) hlt (W.frame _ s' _ _ hst' (Nat.le_succ _) fun b hb o e => ?_) ⟨_, hc3, hS3⟩ fun s'' c2 hm'' hc'' hS'' => ?_⟩
    · rw [hsb.2 b (fun h : b = S => hSf (by rw [← h]; exact hb))]; exact e
    · refine hR s'' c2 (Moved.trans W.gtrans ((hm.mono hsub).then_heap (Nat.le_succ _) fun b o hb e => ?_) hm'') hc'' hS''
      rw [hsb.2 b (fun h : b = S => hb (by rw [h]; exact List.mem_cons_self))]; exact e

set_option maxRecDepth 100000 in
set_option maxHeartbeats 3200000 in
theorem call_set_listI {l : Addr} {items : Array Value} (ns : List Int) {Q : Value → Shared → Prop} (hh : A.handled = none) (hl : s.heap.IsList l items) (hit : IntsAre items.toList ns) (hb : (dedI ns).length + 1 < scanBound)
    (h : ∀ (h' : Heap) (tk c : Nat), SetR w h' s.heap.objs.size (fun j => decide (j ∈ ns)) c → c ≤ ns.length → (∀ b o, s.heap.get? b = some o → h'.get? b = some o) → Q (.ref s.heap.objs.size) { s with heap := h', toks := tk }) :
    wpAny (model P w) A (call (.type "set") [.ref l]) Q E s := by
  have hisz : items.size = ns.length := by
    have q := IntsAre.length hit
    rw [Array.length_toList] at q
    exact q
  obtain ⟨c, tl, hmro⟩ := F.called_set.mro
  have hmade := F.called_set.made
  have hsub := F.called_set.sub
  refine wpAny_call (codeAny_of_tree ?_)
  show wpAny _ _ (callAny (.type "set") _) _ _ _
  refine wpAny_pure ⟨Code.quiet_builtin _ (by decide +kernel), codeAny_builtin F.entry_type_call ?_⟩
  rw [Around.under_plain (weight_type_call_type "set" [.ref l] []) rfl]
  have h1 := F.called_set.notType
  have h2 := F.called_set.canCreate
  have hct := F.typeCall_set_1 (.ref l)
  repeat (any_goals (first | assumption | wp_step))

  refine codeAny_mono (code_set_led1 (.ref l) (E := E) (Q₁ := fun obj s₁ => obj = .ref s.heap.objs.size ∧ s₁ = { s with heap := s.heap.push { cls := .type "set", dict := none, data := .set #[] 0 (.fresh 0 0 (!w.params.followText "set-order")) } }) ⟨rfl, rfl⟩) fun r s₁ hr => ?_
  cases r with
  | error e => exact hr
  | ok fl =>
    cases fl with
    | ret obj =>
      obtain ⟨rfl, rfl⟩ := hr
      have hS : (s.heap.push { cls := .type "set", dict := none, data := .set #[] 0 (.fresh 0 0 (!w.params.followText "set-order")) }).get? s.heap.objs.size = some { cls := .type "set", dict := none, data := .set #[] 0 (.fresh 0 0 (!w.params.followText "set-order")) } := Heap.get?_push_size _ rfl
      have hT : Shared.TypeIs { s with heap := s.heap.push { cls := .type "set", dict := none, data := .set #[] 0 (.fresh 0 0 (!w.params.followText "set-order")) } } (.ref s.heap.objs.size) "set" := ⟨_, hS, rfl⟩
      have hli := F.called_set.init.lookup
      have hbi := F.called_set.init.bind (.ref s.heap.objs.size)
      repeat (any_goals (first | assumption | wp_step))

      refine codeAny_mono (codeAny_call_builtin (R := wants (fun r s₂ => r = .none ∧ ∃ h' tk c, s₂ = { s with heap := h', toks := tk } ∧ SetR w h' s.heap.objs.size (fun j => decide (j ∈ ns)) c ∧ c ≤ ns.length ∧
          (∀ b o, s.heap.get? b = some o → h'.get? b = some o)) E) F.called_set.init.plain F.entry_set_init (check_set_init_1 hT ?_)) fun r₂ s₂ hr₂ => ?_
      · obtain ⟨ol, hol, hcl, nl, hdl⟩ := hl
        obtain ⟨ocls, odict, odata, oslots⟩ := ol
        simp only at hcl hdl
        subst hcl; subst hdl
        have hol' : (s.heap.push { cls := .type "set", dict := none, data := .set #[] 0 (.fresh 0 0 (!w.params.followText "set-order")) }).get? l = some { cls := .type "list", dict := odict, data := .seq items nl, slots := oslots } := Heap.get?_push_of_some _ hol
        have hsls := F.sub_list_set
        have hslf := F.sub_list_frozenset
        have hne : (Value.type "list" == Value.type "dict") = false := by decide
        have hl1 : (s.heap.push { cls := .type "set", dict := none, data := .set #[] 0 (.fresh 0 0 (!w.params.followText "set-order")) }).IsList l items := ⟨_, hol', rfl, nl, rfl⟩
        unfold Builtin.«set.__init__» noKeywords Builtin.Frozenset.updateFrom
        generalize hPI : pyIter = PI
        wp_walk
        subst hPI

        refine wpAny_pyIter_list hl1 ?_
        refine wpAny_bind (wpAny_runValue ?_)
        have hlS : l < s.heap.objs.size := Heap.lt_size hol
        have hh3 : A.in1.in1.in1.handled = none := by simp [hh]
        have hz1 : (s.heap.push { cls := .type "set", dict := none, data := .set #[] 0 (.fresh 0 0 (!w.params.followText "set-order")) }).objs.size = s.heap.objs.size + 1 := Heap.size_push ..
        have hneI : l ≠ (s.heap.push { cls := .type "set", dict := none, data := .set #[] 0 (.fresh 0 0 (!w.params.followText "set-order")) }).objs.size := by
          rw [Heap.size_push]; exact Nat.ne_of_lt (Nat.lt_succ_of_lt hlS)
        have hSf : s.heap.objs.size ∉ [(s.heap.push { cls := .type "set", dict := none, data := .set #[] 0 (.fresh 0 0 (!w.params.followText "set-order")) }).objs.size, l] := by
          rw [Heap.size_push]; simp only [List.mem_cons, List.mem_singleton, List.not_mem_nil, or_false, not_or]
          exact ⟨Nat.ne_of_lt (Nat.lt_succ_self _), Nat.ne_of_gt hlS⟩
        have hval : ∀ (i : Nat) (v : Value), items[i]? = some v → ∃ k t, ns[i]? = some k ∧ v = .int k t := fun i v hv => by
          have hi : i < ns.length := by rw [← hisz]; exact (Array.getElem?_eq_some_iff.mp hv).1
          obtain ⟨t, e⟩ := PyProof.Rows.IntsAre.int_at hit i v (by rw [Array.getElem?_toList]; exact hv)
          refine ⟨ns[i], t, List.getElem?_eq_getElem hi, ?_⟩
          rw [e, List.getD_eq_getElem?_getD, List.getElem?_eq_getElem hi] <;> rfl
        refine set_update_ded ((Walks.list hh3 _ l hneI items).toS) s.heap.objs.size
          hSf ns hisz hb hval (items.size - 0) 0 _ (by omega) (Nat.zero_le _)
          ⟨⟨_, Heap.get?_push_size _ rfl, rfl, rfl⟩, (hl1.push _)⟩ ?hS0 ?hR
        case hS0 =>
          have hget : ((s.heap.push { cls := .type "set", dict := none, data := .set #[] 0 (.fresh 0 0 (!w.params.followText "set-order")) }).push { cls := .type "list_iterator", data := .fields #[.ref l, .int 0 0] }).get? s.heap.objs.size
              = some { cls := .type "set", dict := none, data := .set #[] 0 (.fresh 0 0 (!w.params.followText "set-order")) } := Heap.get?_push_of_some _ hS
          exact ⟨0, Nat.le_refl 0, setR_new_at hget⟩
        case hR =>
          intro s' c' hm hc' hS'
          obtain ⟨h', g2, d', tk', os'⟩ := s'
          have eg : g2 = s.gens := hm.gens
          have ed : d' = s.drawn := hm.drawn
          have eo : os' = s.os := hm.os
          subst eg; subst ed; subst eo
          show wpAny _ _ _ _ _ _
          refine wpAny_pure ?_
          show wpAny _ _ (ret Value.none) _ _ _
          rw [hisz] at hc'
          refine wpAny_pure ⟨rfl, h', tk', c', rfl, hS', hc', fun b o e => ?_⟩
          have hb0 : b < s.heap.objs.size := Heap.lt_size e
          have hb1 : b ≠ s.heap.objs.size := Nat.ne_of_lt hb0
          have hb2 : b ≠ (s.heap.push { cls := .type "set", dict := none, data := .set #[] 0 (.fresh 0 0 (!w.params.followText "set-order")) }).objs.size := by
            rw [Heap.size_push]; exact Nat.ne_of_lt (Nat.lt_succ_of_lt hb0)
          exact hm.heap b o (by simp only [List.mem_cons, List.mem_singleton, List.not_mem_nil, or_false, not_or]; exact ⟨hb1, hb2⟩) (Heap.get?_push_of_some _ (Heap.get?_push_of_some _ e))

      · cases r₂ with
        | error e => exact hr₂
        | ok fl₂ =>
          cases fl₂ with
          | ret r =>
            obtain ⟨rfl, h', tk, c', rfl, hS', hc', hk'⟩ := hr₂
            repeat (any_goals (first | assumption | wp_step))
            exact h _ _ _ hS' hc' hk'
          | _ => exact hr₂.elim
    | _ => exact hr.elim

end
/-- set(xs), xs a list of ints -/
def rSetL (K : PySem.W.Frag) (w : World) : List V → Hp → VK → Prop := fun xs H Q => ∃ (p : Addr) (ns : List Int), xs = [.ref p] ∧ SqL K H p (ns.map V.int) ∧ (dedI ns).length + 1 < scanBound ∧
  ∀ q, H q = none → Q (.ref q) (upd H q (SetO w q (fun j => decide (j ∈ ns)) (dedI ns).length))
theorem cr_setL {X : Cx} (hc : X.calm = true) : CallR X (.type "set") (rSetL X.K X.w) := by
  intro pins s σ H xs us Q I r h
  obtain ⟨p, ns, rfl, hq, hb, q⟩ := h
  rw [Vals.ref1 r]
  obtain ⟨its, rv, pl, hz⟩ := I.list hq
  have hi : IntsAre its.toArray.toList ns := ints_of_vals rv
  refine call_set_listI ns (I.ok.hd hc) pl.isList hi hb fun h' tk c R hc' k => ?_
  have ec := setR_card R
  subst ec
  have hp : H s.heap.objs.size = none := I.hok.fresh (Nat.le_refl _)
  exact ⟨.ref s.heap.objs.size, upd H s.heap.objs.size (SetO X.w s.heap.objs.size (fun j => decide (j ∈ ns)) (dedI ns).length), I.laid (t' := tk) k (Nat.le_refl _) (setO_new R), rfl, q _ hp⟩
def setI (ns : List Int) : List Int := sortI (dedI ns)
def evSortSet (ev : En → Rs T) : En → Rs T := fun ρ => (ev ρ).bind fun t => rsO (t.ints.bind fun ns => if (dedI ns).length < 64 then some (.ol ((setI ns).map PyData.int)) else none)
theorem setI_eq {ns ms : List Int} (h1 : ms.Pairwise (· < ·)) (h2 : ∀ k, k ∈ ms ↔ k ∈ ns) : ms = setI ns := by
  have n1 : ms.Nodup := h1.imp fun h => Int.ne_of_lt h
  have p : ms.Perm (dedI ns) := (List.perm_ext_iff_of_nodup n1 (dedI_nodup ns)).mpr fun k => by rw [h2, dedI_mem]
  exact sortI_eq p (h1.imp fun h => Int.le_of_lt h)
section
variable {X : Cx} {W : WX} {e : Expr} {te : TE} {ev : En → Rs T} {pos p p2 pos2 : Pos} {w : World} {K : PySem.W.Frag}
theorem de_sortSet (he : DV X W e te ev) (hc : X.calm = true) (gs : Gl X "sorted") (ms : X.mg "sorted" = none) (g : Gl X "set") (m : X.mg "set" = none)
    (hs : starEach [e] X.env = [(false, eval e X.env)] := by rfl) (hs2 : starEach [.Call (.Name "set" p2) [e] [] pos2] X.env = [(false, eval (.Call (.Name "set" p2) [e] [] pos2) X.env)] := by rfl) (hK : X.K = K := by rfl) (hw : X.w = w := by rfl) :
    DE X W (.Call (.Name "sorted" p) [.Call (.Name "set" p2) [e] [] pos2] [] pos) (tCB (rSortedSet w) (tCons (tCB (rSetL K w) (tCons te tNil)) tNil)) (evSortSet ev) [] := by
  subst hK hw
  refine ⟨pe_callB (cr_sortedSet hc) gs ms (by decide +kernel) (pa_cons (pe_callTy (cr_setL hc) g m (by decide +kernel) (pa_cons he.pe pa_nil hs) (by decide) (by decide) hs (by rfl)) pa_nil hs2) (by decide) (by decide) hs2 (by rfl), fun E S φ ρ σ H Q I h => ?_⟩
  refine he.sm E S φ ρ σ H _ I (h.bind.imp (fun x hx vx S1 H1 fx g1 qx => ?_) fun _ z => z)
  obtain ⟨t, e1, ht⟩ := hx.rsO
  cases e2 : x.ints with
  | none => rw [e2] at e1; cases e1
  | some ns =>
    rw [e2] at e1
    simp only [Option.bind_some] at e1
    split at e1
    · rename_i hl
      cases e1
      obtain ⟨a, rfl, hq⟩ := ints_rep g1.i qx e2
      refine ⟨a, ns, rfl, hq, by unfold scanBound; omega, fun q hq0 => ⟨q, _, _, rfl, upd_same, hl, fun ns' r h1 h2 _ hr => ?_⟩⟩
      have e3 := setI_eq (ns := ns) h1 fun k => (h2 k).trans (by simp)
      subst e3
      have g2 : Grow S1 H1 S1 (upd H1 q (SetO X.w q (fun j => decide (j ∈ ns)) (dedI ns).length)) := .own g1.i hq0
      refine ht _ S1 _ [r] ((g1.trans g2).trans (.own g2.i hr)) ?_ (by simp) fun b hb => ?_
      · simp only [RepT]
        exact ⟨r, _, rfl, rfl, upd_same, rep_ints _⟩
      · have e : b = r := by simpa using hb
        subst e
        exact ⟨g2.i.free hr, .inl (g1.h.free (g2.h.free hr))⟩
    · cases e1
end

/-! ### a range as a value -/
theorem cr_range1 {X : Cx} : CallR X (.type "range") (fun vs H Q => ∃ j, vs = [V.int j] ∧ ∀ p, H p = none → Q (.ref p) (upd H p (.rng 0 j))) := by
  intro pins s σ H vs us Q I r h
  obtain ⟨j, rfl, q⟩ := h
  cases r with
  | cons rj rr =>
    cases rr
    obtain ⟨u, rfl⟩ := rj
    refine call_range_1 ⟨.ref s.heap.objs.size, upd H s.heap.objs.size (.rng 0 j), I.laid (t' := s.toks + 1 + 1) (fun b o e => Heap.get?_push_of_some _ e) (Nat.le_refl _) ?_, rfl, q _ (I.hok.fresh (Nat.le_refl _))⟩
    exact ⟨s.toks, u, s.toks + 1, Heap.get?_push_size _ rfl⟩
def fRg1 : List T → Option T := f1 fun t => match t with
  | .sh (.int j) => some (.rg 0 j)
  | _ => none
theorem sem_rg1 {K : PySem.W.Frag} : SemC K (fun vs H Q => ∃ j, vs = [V.int j] ∧ ∀ p, H p = none → Q (.ref p) (upd H p (.rng 0 j))) fRg1 := by
  intro S H ts vs Q t i q e R
  have e3 := f1_some e
  clear e
  obtain ⟨x, rfl, e⟩ := e3
  obtain ⟨v, fp, rfl, r⟩ := views1 q
  split at e
  · rename_i j
    cases e
    have := rep_sh r
    simp only [RepD] at this
    subst this
    refine ⟨j, rfl, fun p hp => R _ _ _ [] (.shared i hp) ?_ .nil fun a ha => by cases ha⟩
    simp only [RepT, true_and]
    exact ⟨p, rfl, upd_same⟩
  · cases e
def iRgV (tl : TE) : TI := fun σ H R => tl σ H fun x H1 => ∃ (a : Addr) (lo hi : Int), x = .ref a ∧ H1 a = some (.rng lo hi) ∧ -(2 ^ 62) ≤ lo ∧ lo < 2 ^ 62 ∧ -(2 ^ 62) ≤ hi ∧ hi < 2 ^ 62 ∧ R (Itr lo (hi - lo).toNat) H1
section
variable {X : Cx} {W : WX} {tg l : Expr} {tl : TE} {ev : En → Rs T}
theorem pi_rgV (hl : PE X l tl) : PI X tg l (iRgV tl) := by
  refine ⟨fun pins s σ H R I h => ?_⟩
  refine thn (hl.run pins s σ H _ I h) fun v s1 ⟨x, H1, I1, r1, q1⟩ => ?_
  obtain ⟨a, lo, hi, e, ha, h1, h2, h3, h4, q⟩ := q1
  subst e
  cases r1
  obtain ⟨t, u, v, ho⟩ := I1.hok a _ ha
  refine wpAny_pyIter_range (r := a) (a := lo) (b := hi) (c := 1) ho (small_one h1 h2 h3 h4) ?_
  refine ⟨s1.heap.objs.size, [s1.heap.objs.size], _, _, H1, rfl, I1.kept (t' := s1.toks) fun b o e => Heap.get?_push_of_some _ e, turn_range _ lo (hi - lo).toNat, ?_, fun b hb => ?_, q⟩
  · have e1 : lo + ((0 : Nat) : Int) * 1 = lo := by simp
    have e2 : (((hi - lo).toNat : Nat) : Int) - ((0 : Nat) : Int) = Builtin.Range.rangeSize lo hi 1 := by rw [rangeSize_one]; split <;> omega
    show IsRangeIter _ _ (lo + ((0 : Nat) : Int) * 1) ((((hi - lo).toNat : Nat) : Int) - ((0 : Nat) : Int)) 1
    rw [e1, e2]
    exact Heap.get?_push_size _ rfl
  · have e : b = s1.heap.objs.size := by simpa using hb
    subst e
    exact I1.fpOk (Nat.le_refl _) (I1.hok.fresh (Nat.le_refl _))
def eiRgV (ev : En → Rs T) : En → Rs (List D) := fun ρ => (ev ρ).bind fun t => match t with
  | .rg lo hi => if -(2 ^ 62) ≤ lo ∧ lo < 2 ^ 62 ∧ -(2 ^ 62) ≤ hi ∧ hi < 2 ^ 62 then .ok (rngD lo hi) else .bad
  | _ => .bad
theorem di_rgV (h : DV X W l tl ev) : DI RD X W tg l (iRgV tl) (eiRgV ev) := by
  refine ⟨pi_rgV h.pe, fun E S φ ρ σ H R I q => ?_⟩
  refine h.sm E S φ ρ σ H _ I (q.bind.imp (fun t ht v S' H' fp g r => ?_) fun _ z => z)
  cases t with
  | rg lo hi =>
    simp only [RepT] at r
    obtain ⟨_, a, rfl, ha⟩ := r
    by_cases hb : -(2 ^ 62) ≤ lo ∧ lo < 2 ^ 62 ∧ -(2 ^ 62) ≤ hi ∧ hi < 2 ^ 62
    · dsimp only at ht
      rw [if_pos hb] at ht
      exact ⟨a, lo, hi, rfl, g.i _ _ ha, hb.1, hb.2.1, hb.2.2.1, hb.2.2.2, ht S' H' _ g (it_rng lo hi)⟩
    · dsimp only at ht
      rw [if_neg hb] at ht
      exact False.elim ht
  | _ => exact False.elim ht
end
end PL
set_option Elab.async false
set_option linter.all false
set_option maxRecDepth 100000
/-! PL34: x[k]..[l].append(d), own lists within own things. -/
namespace PL
open PySem PySem.Spec L2
def T.appAt (t : T) (ks : List Int) (d : D) : Option T := match ks with
  | [] => (match t with
    | .ol ds => if ds.length < sizeLine then some (.ol (ds ++ [d])) else none
    | .ot ts => if ts.length < sizeLine then some (.ot (ts ++ [.sh d])) else none
    | _ => none)
  | k :: ks => (match t with
    | .ot ts => (ixN ts.length k).bind fun j => (ts[j]?).bind fun u => (u.appAt ks d).map fun u' => .ot (ts.set j u')
    | .tu ts => (ixN ts.length k).bind fun j => (ts[j]?).bind fun u => (u.appAt ks d).map fun u' => .tu (ts.set j u')
    | _ => none)
def runP (K : PySem.W.Frag) (ks : List Int) (v : V) (H : Hp) (Q : VK) : Prop := match ks with
  | [] => Q v H
  | k :: ks => rIx K v (.int k) H fun v' H' => runP K ks v' H' Q
theorem RepTs.setAt {K : PySem.W.Frag} {S H : Hp} : ∀ {ts : List T} {vs : List V} {fp : List Addr} {j : Nat} {t : T}, RepTs K S H ts vs fp → fp.Nodup → ts[j]? = some t →
    ∃ v f, vs[j]? = some v ∧ RepT K S H t v f ∧ f.Nodup ∧ (∀ a ∈ f, a ∈ fp) ∧ ∀ H' t', (∀ a ∈ fp, a ∉ f → H' a = H a) → RepT K S H' t' v f → RepTs K S H' (ts.set j t') vs fp
  | [], _, _, j, _, _, _, e => by simp at e
  | u :: ts, vs, fp, 0, t, q, n, e => by
    simp only [RepTs] at q
    obtain ⟨v, r, f, g, rfl, rfl, q1, q2⟩ := q
    simp at e; subst e
    obtain ⟨n1, n2, n3⟩ := List.nodup_append.mp n
    refine ⟨v, f, rfl, q1, n1, fun a ha => List.mem_append_left _ ha, fun H' t' h r' => ?_⟩
    show RepTs K S H' (t' :: ts) (v :: r) (f ++ g)
    simp only [RepTs]
    exact ⟨v, r, f, g, rfl, rfl, r', RepTs.frame (.refl _) _ _ _ (fun a ha => h a (List.mem_append_right _ ha) fun z => n3 a z a ha rfl) q2⟩
  | u :: ts, vs, fp, j + 1, t, q, n, e => by
    simp only [RepTs] at q
    obtain ⟨v, r, f, g, rfl, rfl, q1, q2⟩ := q
    obtain ⟨n1, n2, n3⟩ := List.nodup_append.mp n
    obtain ⟨v', f', e1, q', n', s', k⟩ := RepTs.setAt q2 n2 (show ts[j]? = some t by simpa using e)
    refine ⟨v', f', by simpa using e1, q', n', fun a ha => List.mem_append_right _ (s' a ha), fun H' t' h r' => ?_⟩
    show RepTs K S H' (u :: ts.set j t') (v :: r) (f ++ g)
    simp only [RepTs]
    exact ⟨v, r, f, g, rfl, rfl, RepT.frame (.refl _) _ _ _ (fun a ha => h a (List.mem_append_left _ ha) fun z => n3 a ha a (s' a z) rfl) q1, k H' t' (fun a ha hn => h a (List.mem_append_right _ ha) hn) r'⟩
theorem path_go {K : PySem.W.Frag} {S H : Hp} {d : D} : ∀ (ks : List Int) {t t' : T} {v : V} {fp : List Addr}, RepT K S H t v fp → fp.Nodup → t.appAt ks d = some t' →
    ∃ l us, l ∈ fp ∧ H l = some (.lst us) ∧ us.length < sizeLine ∧ (∀ Q : VK, Q (.ref l) H → runP K ks v H Q) ∧ ∀ H' w, RepD S d w → (∀ a ∈ fp, a ≠ l → H' a = H a) → H' l = some (.lst (us ++ [w])) → RepT K S H' t' v fp
  | [], t, t', v, fp, q, n, e => by
    cases t with
    | ol ds =>
      unfold T.appAt at e
      dsimp only at e
      split at e
      · rename_i hl
        cases e
        simp only [RepT] at q
        obtain ⟨a, us, rfl, rfl, ha, r⟩ := q
        refine ⟨a, us, by simp, ha, by rw [r.length]; exact hl, fun Q h => h, fun H' w rw' h1 h2 => ?_⟩
        simp only [RepT]
        exact ⟨a, _, rfl, rfl, h2, r.app (.one rw')⟩
      · cases e
    | ot ts =>
      unfold T.appAt at e
      dsimp only at e
      split at e
      · rename_i hl
        cases e
        simp only [RepT] at q
        obtain ⟨a, us, f, rfl, rfl, ha, r⟩ := q
        obtain ⟨na, nf⟩ := List.nodup_cons.mp n
        refine ⟨a, us, by simp, ha, by rw [r.length]; exact hl, fun Q h => h, fun H' w rw' h1 h2 => ?_⟩
        simp only [RepT]
        have r2 : RepTs K S H' ts us f := RepTs.frame (.refl _) _ _ _ (fun b hb => h1 b (List.mem_cons_of_mem _ hb) fun z => na (z ▸ hb)) r
        have r3 := r2.app (show RepT K S H' (.sh d) w [] by simp only [RepT, true_and]; exact rw')
        rw [List.append_nil] at r3
        exact ⟨a, _, f, rfl, rfl, h2, r3⟩
      · cases e
    | _ => cases e
  | k :: ks, t, t', v, fp, q, n, e => by
    cases t with
    | ot ts =>
      unfold T.appAt at e
      dsimp only at e
      obtain ⟨j, e1, e⟩ := obind e
      obtain ⟨u, e2, e⟩ := obind e
      obtain ⟨u', e3, rfl⟩ := omap e
      simp only [RepT] at q
      obtain ⟨a, vs, f, rfl, rfl, ha, r⟩ := q
      obtain ⟨na, nf⟩ := List.nodup_cons.mp n
      obtain ⟨w, g, h1, h2, h3, h4, h5⟩ := r.setAt nf e2
      obtain ⟨l, us, k1, k2, k3, k4, k5⟩ := path_go ks h2 h3 e3
      have eA : atI vs k = some w := by unfold atI; rw [r.length, e1]; exact h1
      refine ⟨l, us, List.mem_cons_of_mem _ (h4 l k1), k2, k3, fun Q hQ => .inl ⟨a, vs, k, w, rfl, rfl, .of ha, eA, k4 Q hQ⟩, fun H' x rx z1 z2 => ?_⟩
      have nal : a ≠ l := fun z => na (z ▸ h4 l k1)
      simp only [RepT]
      refine ⟨a, vs, f, rfl, rfl, by rw [z1 a (by simp) nal]; exact ha, h5 H' u' (fun b hb hn => z1 b (List.mem_cons_of_mem _ hb) fun z => hn (z ▸ k1)) (k5 H' x rx (fun b hb hn => z1 b (List.mem_cons_of_mem _ (h4 b hb)) hn) z2)⟩
    | tu ts =>
      unfold T.appAt at e
      dsimp only at e
      obtain ⟨j, e1, e⟩ := obind e
      obtain ⟨u, e2, e⟩ := obind e
      obtain ⟨u', e3, rfl⟩ := omap e
      simp only [RepT] at q
      obtain ⟨a, vs, f, rfl, rfl, ha, r⟩ := q
      obtain ⟨na, nf⟩ := List.nodup_cons.mp n
      obtain ⟨w, g, h1, h2, h3, h4, h5⟩ := r.setAt nf e2
      obtain ⟨l, us, k1, k2, k3, k4, k5⟩ := path_go ks h2 h3 e3
      have eA : atI vs k = some w := by unfold atI; rw [r.length, e1]; exact h1
      refine ⟨l, us, List.mem_cons_of_mem _ (h4 l k1), k2, k3, fun Q hQ => .inr (.inl ⟨a, vs, k, w, rfl, rfl, ha.sq, eA, k4 Q hQ⟩), fun H' x rx z1 z2 => ?_⟩
      have nal : a ≠ l := fun z => na (z ▸ h4 l k1)
      simp only [RepT]
      refine ⟨a, vs, f, rfl, rfl, by rw [z1 a (by simp) nal]; exact ha, h5 H' u' (fun b hb hn => z1 b (List.mem_cons_of_mem _ hb) fun z => hn (z ▸ k1)) (k5 H' x rx (fun b hb hn => z1 b (List.mem_cons_of_mem _ (h4 b hb)) hn) z2)⟩
    | _ => cases e
def sAppAt (i : Nat) (ks : List Int) (d : D) : En → Out := fun ρ => outO (ρ.get i) fun c => outO (c.appAt ks d) fun c' => .nx (ρ.put i (some c'))
/-- constants that are written: their values -/
def isC (te : TE) (d : D) (v : V) : Prop := (∀ S, RepD S d v) ∧ ∀ σ H Q, Q v H → te σ H Q
section
variable {X : Cx} {W : WX} {o e : Expr} {te : TE} {to : TE} {pos apos cpos : Pos} {ks : List Int} {d : D} {w : V}
theorem sem_appAt {K : PySem.W.Frag} {mg : Str → Option Value} (i : Nat) (ho : ∀ σ H Q, (tVar i σ H fun v H1 => runP K ks v H1 Q) → to σ H Q) (hc : isC te d w) :
    SemS K mg W (tDrop (tBM K "list" rAppend to (tCons te tNil))) (sAppAt i ks d) [] := by
  intro E S φ ρ σ H D I q
  obtain ⟨c, ec, q⟩ := OutOK.outO (show OutOK K mg W E S σ [] (outO (ρ.get i) _) D from q)
  obtain ⟨c', e2, q⟩ := OutOK.outO q
  obtain ⟨v, hv, qc⟩ := I.slot i c (En.get_some ec)
  obtain ⟨l, us, k1, k2, k3, k4, k5⟩ := path_go ks qc (I.nd i) e2
  refine ho _ _ _ ⟨v, hv, k4 _ ⟨.inl ⟨rfl, us, .of k2⟩, ?_⟩⟩
  refine hc.2 _ _ _ ?_
  refine ⟨l, us, w, rfl, rfl, k2, k3, ?_⟩
  have I2 := I.write (mv := []) (l := l) (o := .lst (us ++ [w])) (t := c') (fp := φ i) i k1 (En.get_some ec) hv (k5 _ w (hc.1 S) (fun a _ hn => upd_ne hn) upd_same) (I.nd i) (fun a ha => .inl ha) (by simp)
  exact q S _ σ _ ⟨.refl _, fun _ _ => rfl⟩ I2
theorem ds_appAt (i : Nat) (po : PE X o to) (ho : ∀ σ H Q, (tVar i σ H fun v H1 => runP X.K ks v H1 Q) → to σ H Q) (he : PE X e te) (hc : isC te d w)
    (hbase : attributeBase o "append" X.env (eval o X.env) = eval o X.env := by rfl)
    (hfew : ((backTo cpos (starEach [e] X.env)).all (fun x => !x.1) && (backToKw cpos (keywordEach [] X.env)).all (fun x => x.1.isSome)
      && decide ([e].length + ([] : List Keyword).length + (if ([] : List Keyword).isEmpty then 0 else 1) < 30)) = true := by rfl)
    (hline : (apos.endLine == cpos.line) = true := by rfl) (hs : starEach [e] X.env = (false, eval e X.env) :: starEach [] X.env := by rfl) (hplain : (backTo cpos (starEach ([] : List Expr) X.env)).any (·.1) = false := by rfl)
    (hsw : swapsWith (.Call (.Attribute o "append" apos) [e] [] cpos) none pos.line X.env = pure false := by rfl) :
    DS X W (.Expr (.Call (.Attribute o "append" apos) [e] [] cpos) pos) (tDrop (tBM X.K "list" rAppend to (tCons te tNil))) (sAppAt i ks d) [] :=
  ⟨ps_expr (pe_bm PySem.F.plainAttrs_list PySem.F.slot_list_append PySem.F.type_list_append mt_append po (pa_cons he pa_nil hs) hbase hfew hline hs hplain) hsw, sem_appAt i ho hc⟩
end
end PL
set_option Elab.async false
set_option linter.all false
set_option maxRecDepth 100000
/-! PL36: a dict of the module, text keys and int values: NAME.get(e, i); a head's hook with checks of one's own. -/
namespace PL
open PySem PySem.Spec PyProof.Rows L2
def lookK : List (Str × Int) → Str → Option Int
  | [], _ => none
  | p :: r, z => if p.1 = z then some p.2 else lookK r z
def entO (e : DictEntry) : Option (Str × Int) := match e.key, e.val with
  | .str x _, .int i _ => some (x, i)
  | _, _ => none
theorem entO_some {e : DictEntry} {p : Str × Int} (h : entO e = some p) : ∃ t u, e.key = .str p.1 t ∧ e.val = .int p.2 u := by
  unfold entO at h
  split at h
  · rename_i x t i u e1 e2
    cases h
    exact ⟨t, u, e1, e2⟩
  · cases h
theorem ent_find : ∀ {l : List DictEntry} {kvs : List (Str × Int)} (z : Str), l.map entO = kvs.map some →
    (match lookK kvs z with
      | some i => ∃ e t, l.find? (fun e => e.key.isStr z) = some e ∧ e.val = .int i t
      | none => l.find? (fun e => e.key.isStr z) = none) ∧ l.any (fun e => e.refKey) = false
  | [], [], z, _ => ⟨rfl, rfl⟩
  | [], _ :: _, _, h => by cases h
  | _ :: _, [], _, h => by cases h
  | e :: l, p :: kvs, z, h => by
    obtain ⟨h1, h2⟩ := List.cons.inj (show entO e :: l.map entO = some p :: kvs.map some from h)
    obtain ⟨t, u, e1, e2⟩ := entO_some h1
    obtain ⟨ih1, ih2⟩ := ent_find z h2
    have er : e.refKey = false := by
      unfold DictEntry.refKey
      rw [e1]
    refine ⟨?_, by rw [List.any_cons, er, ih2]; rfl⟩
    unfold lookK
    by_cases hz : p.1 = z
    · rw [if_pos hz]
      refine ⟨e, u, ?_, e2⟩
      rw [List.find?_cons_of_pos]
      rw [e1, hz]
      show (z == z) = true
      exact beq_self_eq_true z
    · rw [if_neg hz]
      have : e.key.isStr z = false := by
        rw [e1]
        show (p.1 == z) = false
        exact beq_eq_false_iff_ne.mpr hz
      rw [List.find?_cons_of_neg (by rw [this]; exact Bool.false_ne_true)]
      exact ih1
def tabB (K : PySem.W.Frag) (a : Addr) (kvs : List (Str × Int)) : Bool := match K.lookup a with
  | some ⟨_, _, .dict es _, _⟩ => decide (es.toList.map entO = kvs.map some)
  | _ => false
structure KTab (K : PySem.W.Frag) (w : World) (mg : Str → Option Value) (x : Str) (kvs : List (Str × Int)) : Prop where
  ex : ∃ d es n, mg x = some (.ref d) ∧ KDict K w d es n ∧ es.toList.map entO = kvs.map some
theorem ktab_of {K : PySem.W.Frag} {w : World} {mg : Str → Option Value} {x : Str} {kvs : List (Str × Int)} {d : Addr} (hm : mg x = some (.ref d)) (D : ∃ es n, KDict K w d es n) (hb : tabB K d kvs = true) : KTab K w mg x kvs := by
  obtain ⟨es, n, D⟩ := D
  unfold tabB at hb
  rw [D.at_] at hb
  exact ⟨d, es, n, hm, D, of_decide_eq_true hb⟩
def tKGet (kvs : List (Str × Int)) (i0 : Int) (ty : TE) : TE := fun σ H Q => ty σ H fun y H2 => ∃ z, y = .str z ∧ Q (.int ((lookK kvs z).getD i0)) H2
theorem pe_kget {X : Cx} {x : Str} {kvs : List (Str × Int)} {i0 : Int} {j : Nat} {e : Expr} {ty : TE} {np apos cpos fp : Pos} (T : KTab X.K X.w X.mg x kvs) (hg : Gl X x) (he : PE X e ty) (m : M2 X (.Name x np) "get" apos e (.Constant (.int i0) j fp) cpos)
    (hd : (x == ("__debug__" : Str)) = false := by decide) : PE X (.Call (.Attribute (.Name x np) "get" apos) [e, .Constant (.int i0) j fp] [] cpos) (tKGet kvs i0 ty) := by
  obtain ⟨d, es, n, hm, D, hk⟩ := T.ex
  have ho : PE X (.Name x np) (tC (.ref d)) := pe_glob hg hm rfl hd
  refine ⟨fun pins s σ H Q I h => ?_⟩
  refine wpAny_Call_method m.base m.few m.line PySem.F.plainAttrs_dict PySem.F.slot_dict_get PySem.F.type_dict_get (thn (ho.run pins s σ H (fun v H1 => v = .ref d ∧ H1 = H) I ⟨rfl, rfl⟩) fun u s1 ⟨x1, H1, I1, rx, ex, eH⟩ => ?_)
  subst ex eH
  obtain rfl : u = Value.ref d := rx
  refine ⟨kd_type D I1, fun b q => ?_, ?_⟩
  · cases q
    exact ⟨_, I1.kIn _ _ D.at_, rfl⟩
  rw [m.trees]
  refine Calls.callWith_builtin rfl (Calls.evalArgs_plain (Calls.spliced_cons (thn (he.run pins s1 σ _ _ I1 h) fun iv s2 ⟨y, H2, I2, ry, z, ez, q2⟩ =>
    Calls.spliced_cons (thn ((pe_int (X := X) (i := i0) (j := j) (pos := fp)).run pins s2 σ H2 (fun v H3 => v = .int i0 ∧ H3 = H2) I2 ⟨rfl, rfl⟩) fun fv s3 ⟨zz, H3, I3, rz, e3, e4⟩ => Calls.spliced_nil ?_))))
  subst ez e3 e4
  obtain ⟨t, rfl⟩ := ry
  obtain ⟨t2, rfl⟩ := rz
  refine call_meetsIn PySem.F.slot_dict_get (kd_type D I3) PySem.F.entry_dict_get (PySem.F.args_dict_get_3 _ _ _) (meets_dict_get_default (PySem.strKind X.prog X.w) d (PySem.strKind_is X.prog X.w z t) D.low (.int i0 t2)) ⟨_, PySem.W.mapOf_K (prog := X.prog) I3.kIn D.at_ D.lit, ?_⟩
  obtain ⟨f1, f2⟩ := ent_find z hk
  cases hl : lookK kvs z with
  | some i =>
    rw [hl] at f1
    obtain ⟨e1, t3, g1, g2⟩ := f1
    have ens : PySem.W.nsIn X.K d z = some (some (.int i t3)) := by
      unfold PySem.W.nsIn
      rw [D.at_]
      simp only [g1, g2]
    rw [PySem.W.find_K D.at_ ens]
    rw [hl] at q2
    exact ⟨.int i, _, I3.tok _, ⟨t3, rfl⟩, q2⟩
  | none =>
    rw [hl] at f1
    have ens : PySem.W.nsIn X.K d z = some none := by
      unfold PySem.W.nsIn
      rw [D.at_]
      simp only [f1, f2]
      rfl
    rw [PySem.W.find_K D.at_ ens]
    rw [hl] at q2
    exact ⟨.int i0, _, I3.tok _, ⟨t2, rfl⟩, q2⟩
def evKGet (kvs : List (Str × Int)) (i0 : Int) (ea : En → Rs T) : En → Rs T := fun ρ => (ea ρ).bind fun t => match t with
  | .sh (.str z) => .ok (.sh (.int ((lookK kvs z).getD i0)))
  | _ => .bad
theorem de_kget {X : Cx} {W : WX} {x : Str} {kvs : List (Str × Int)} {i0 : Int} {j : Nat} {e : Expr} {te : TE} {ev : En → Rs T} {np apos cpos fp : Pos} (T : KTab X.K X.w X.mg x kvs) (he : DV X W e te ev) (hg : Gl X x := by rfl) (m : M2 X (.Name x np) "get" apos e (.Constant (.int i0) j fp) cpos := by exact ⟨rfl, rfl, rfl, rfl⟩)
    (hd : (x == ("__debug__" : Str)) = false := by decide) : DE X W (.Call (.Attribute (.Name x np) "get" apos) [e, .Constant (.int i0) j fp] [] cpos) (tKGet kvs i0 te) (evKGet kvs i0 ev) [] := by
  refine ⟨pe_kget T hg he.pe m hd, fun E S φ ρ σ H Q I h => ?_⟩
  refine he.sm E S φ ρ σ H _ I (h.bind.imp (fun t ht v S1 H1 f g1 q => ?_) fun _ z => z)
  split at ht
  · rename_i z
    have q := rep_sh q
    simp only [RepD] at q
    subst q
    exact ⟨z, rfl, (RetM.ret (show RetM X.K S H φ [] (.sh (.int ((lookK kvs z).getD i0))) Q from ht) |>.later g1).flat g1.i fun _ => by simp only [RepD]⟩
  · exact False.elim ht
end PL
namespace He
open PySem PySem.Spec PyProof.Rows L2
abbrev AlP : Type := AlT × Bool
def obsP (fa : List Fa) (fn : List DefD) (ts : List Tab) (ex : List (PySem.W.Frag → Bool)) (K : PySem.W.Frag) : AlP := (obsT fa fn ts K, ex.all fun f => f K)
def valP (fn : List DefD) (ts : List Tab) (w : World) : AlP := (valT fn ts w, true)
def SaysP (fa : List Fa) (fn : List DefD) (ts : List Tab) (ex : List (PySem.W.Frag → Bool)) (w : World) (K : PySem.W.Frag) : Prop := obsP fa fn ts ex K = valP fn ts w
def obsPG (n : Nat) (fa : List Fa) (fn : List DefD) (ts : List Tab) (ex : List (PySem.W.Frag → Bool)) (g : Addr → Option Obj) : AlP := obsP fa fn ts ex (frG g (asD g n))
def hookP (n : Nat) (fa : List Fa) (fn : List DefD) (ts : List Tab) (ex : List (PySem.W.Frag → Bool)) : PySem.W.Hook where
  α := AlP
  obs := fun s => obsPG n fa fn ts ex s.heap.get?
  val := fun w => valP fn ts w
  says := fun w h => ∃ K : PySem.W.Frag, K.In h ∧ SaysP fa fn ts ex w K
  of := fun _ _ e => ⟨_, frG_in, e⟩
  keeps := fun _ _ _ ⟨K, hK, c⟩ k => ⟨K, PySem.W.Frag.In.keeps hK k, c⟩
theorem obsPG_eq {n : Nat} {fa : List Fa} {fn : List DefD} {ts : List Tab} {ex : List (PySem.W.Frag → Bool)} {g : Addr → Option Obj} {s : Shared} (h : ∀ a, g a = s.heap.get? a) : obsPG n fa fn ts ex g = (hookP n fa fn ts ex).obs s := by
  have e : g = s.heap.get? := funext h
  rw [e] <;> rfl
section
variable {fa : List Fa} {fn : List DefD} {ts : List Tab} {ex : List (PySem.W.Frag → Bool)} {w : World} {K : PySem.W.Frag}
theorem SaysP.t (c : SaysP fa fn ts ex w K) : SaysT fa fn ts w K := congrArg (fun z : AlP => z.1) c
theorem SaysP.d (c : SaysP fa fn ts ex w K) : SaysD fa fn K := c.t.d
theorem SaysP.x (c : SaysP fa fn ts ex w K) (i : Nat) {f : PySem.W.Frag → Bool} (h : ex[i]? = some f := by rfl) : f K = true :=
  List.all_eq_true.mp (show (ex.all fun f => f K) = true from congrArg (fun z : AlP => z.2) c) f (List.mem_of_getElem? h)
end
end He
set_option Elab.async false
set_option linter.all false
set_option maxRecDepth 100000
set_option maxHeartbeats 4000000
/-! PL37: try .. except C as e, one clause or several; what the suite says of the exception's class. -/
namespace PL
open PySem PySem.Spec PyProof.Rows L2

/-! ### the clauses, by readings -/
abbrev TSX := Addr → Value → Option Addr → TS
def endsAs (i : Nat) (D : Ends) : Ends := { nx := fun σ' H' => D.nx (σ'.set i none) H', rt := D.rt, bk := fun σ' H' => D.bk (σ'.set i none) H', ct := fun σ' H' => D.ct (σ'.set i none) H' }
def wMix (K : PySem.W.Frag) (Wout : WX) (D : Ends) : List (Value × Option Nat × TSX) → WX
  | [] => Wout
  | (c, oi, ts) :: r => fun cls d σ H => ∃ b, PySem.W.exmOne K cls c = some b ∧
      (b = true → ∀ a, H a = none → match oi with
        | none => ts a cls d D σ H
        | some i => ts a cls d (endsAs i D) (σ.set i (some (.ref a))) H) ∧ (b = false → wMix K Wout D r cls d σ H)
inductive MixOk (X : Cx) : List ExceptHandler → List (Value × Option Nat × TSX) → Prop
  | nil : MixOk X [] []
  | bare {x : Str} {c : Value} {ts : TSX} {b₀ : Stmt} {suite : List Stmt} {np pos' : Pos} {hds : List ExceptHandler} {l : List (Value × Option Nat × TSX)} (hc : Names X x c)
      (hsu : ∀ (a : Addr) (oe : Obj) (cls : Value) (d : Option Addr) (pn : List (Addr × Obj)), Zc cls d oe → (∃ vs, oe.data = .fields vs) → PSs (X.suite a ((a, oe) :: pn)) (b₀ :: suite) (ts a cls d)) (r : MixOk X hds l) :
      MixOk X (.ExceptHandler (some (.Name x np)) none (b₀ :: suite) pos' :: hds) ((c, none, ts) :: l)
  | named {x n : Str} {i : Nat} {c : Value} {ts : TSX} {b₀ : Stmt} {suite : List Stmt} {np pos' : Pos} {hds : List ExceptHandler} {l : List (Value × Option Nat × TSX)} (hN : X.N.Nodup) (hi : X.N[i]? = some n) (hln : X.env.kindOf n = some .local) (hc : Names X x c)
      (hsu : ∀ (a : Addr) (oe : Obj) (cls : Value) (d : Option Addr) (pn : List (Addr × Obj)), Zc cls d oe → (∃ vs, oe.data = .fields vs) → PSs (X.suite a ((a, oe) :: pn)) (b₀ :: suite) (ts a cls d)) (r : MixOk X hds l) :
      MixOk X (.ExceptHandler (some (.Name x np)) (some n) (b₀ :: suite) pos' :: hds) ((c, some i, ts) :: l)
section
variable {X : Cx} {body : List Stmt} {h₀ : ExceptHandler} {hds : List ExceptHandler} {l : List (Value × Option Nat × TSX)} {pos : Pos} {tb : WX → TS} {Wout : WX}
theorem ps_try_mix (hs : X.stack = X.env :: X.outer) (hf : X.env.frame = some X.env.locals) (tk : Takes X Wout)
    (hb : ∀ (W : WX) (pn : List (Addr × Obj)) (xe : Value → Shared → Prop), Takes (X.tr pn xe) W → PassesOwn (model X.prog X.w) X.A X.env xe → PSs (X.tr pn xe) body (tb W))
    (hh : MixOk X (h₀ :: hds) l) : PS X (.Try body (h₀ :: hds) [] [] pos) (fun D σ H => tb (wMix X.K Wout D l) D σ H) := by
  refine ⟨fun pins s σ H D I h => ?_⟩
  have ok := I.ok
  have hfr : X.A.frames = some (X.env :: X.outer) := by rw [ok.frames, hs]
  refine wpAny_Try_except (wpAny_mono ((hb (wMix X.K Wout D l) (X.pn ++ pins) _ ?tak PassesOwn.looking).run [] s σ H D (I.toTry _) h) ?good fun e s1 he => he)
  case good =>
    intro f s1 hsp
    cases f with
    | next => obtain ⟨σ', H', J', q⟩ := hsp; exact wpAny_execs_nil ⟨σ', H', J'.ofTry ok, q⟩
    | brk => obtain ⟨σ', H', J', q⟩ := hsp; exact ⟨σ', H', J'.ofTry ok, q⟩
    | cont => obtain ⟨σ', H', J', q⟩ := hsp; exact ⟨σ', H', J'.ofTry ok, q⟩
    | ret u => obtain ⟨v, σ', H', J', r, q⟩ := hsp; exact ⟨v, σ', H', J'.ofTry ok, r, q⟩
  case tak =>
    intro u s' xx
    obtain ⟨a, B, sI, pins', σ', H', cls, d, rfl, J', nb, up, sky, na, os, ag, w⟩ := xx
    have J : Inv X pins σ' H' sI := J'.ofTry ok
    have sky' : Sky B (X.env :: X.outer) a (Zc cls d) X.env.locals s'.heap := hs ▸ sky
    show wpAny (model X.prog X.w) X.A (noteFrame (.ref a) X.env) _ _ _
    refine Sky.land Zc.steady hfr hf sky' fun h3 fl3 up3 => ?_
    have J3 : Inv X pins σ' H' { s' with heap := h3 } := J.landed nb fl3.1 (up.trans up3) os ag
    obtain ⟨oe3, vs3, he3, hz3, hd3⟩ := fl3.there
    have nfr : a ∉ frs (X.env :: X.outer) := fun hm => by
      obtain ⟨_, o', e', hnf⟩ := fl3.2.2.1.mem hm
      rw [he3] at e'
      cases e'
      exact hnf _ hd3
    have nL : a ≠ X.env.locals := fun z => nfr (List.mem_filterMap.mpr ⟨X.env, List.mem_cons_self, by rw [hf, z]⟩)
    have nF : a ∉ X.fs := fun hm => by
      obtain ⟨e, he, q⟩ := List.mem_filterMap.mp hm
      exact nfr (List.mem_filterMap.mpr ⟨e, List.mem_cons_of_mem _ he, q⟩)
    have S3 := J3.suite he3 hd3 na nL nF
    have LT : PySem.W.Looks (model X.prog X.w) h3 (typeOf (.ref a)) cls := fun A Q E s k q => wpAny_typeOf_ref (k _ _ he3) (by rw [hz3.1]; exact q)
    have test : ∀ {x : Str} {c : Value} {np : Pos}, Names X x c → ∀ {Q : Value → Shared → Prop} {E : Value → Shared → Prop}, Q c { s' with heap := h3 } → wpAny (model X.prog X.w) (X.A.mark (some (.ref a))) (eval (.Name x np) X.env) Q E { s' with heap := h3 } := fun {x c np} hc {Q E} q => by
      obtain ⟨hg, hdbg, hm | ⟨hm, hv, hnn⟩⟩ := hc
      · exact ld_glob (X := X.suite a ((a, oe3) :: (X.pn ++ pins))) S3 hg hm q hdbg
      · exact ld_blt (X := X.suite a ((a, oe3) :: (X.pn ++ pins))) S3 hg hm hv q hnn hdbg
    have go : ∀ {hds' : List ExceptHandler} {l' : List (Value × Option Nat × TSX)}, MixOk X hds' l' → wMix X.K Wout D l' cls d σ' H' →
        wpAny (model X.prog X.w) X.A (handleBy (.ref a) X.env hds') (SP X pins D) X.xe { s' with heap := h3 } := by
      intro hds' l' hk
      induction hk with
      | nil =>
        intro w
        refine wpAny_handleBy_nil ?_
        obtain ⟨k1, k2, k3, oe, vs, T, oT, ts', he, hz, hd, h1, hr⟩ := id fl3
        unfold PySem.passOn
        refine wpAny_bind (wpAny_field he hd h1 ?_)
        rw [if_neg (show ¬ ((Value.ref T == Value.none) = true) from by simp)]
        have fin : wpAny (model X.prog X.w) X.A (setFlight (.ref a) X.env.frame) (fun _ s4 => wpAny (model X.prog X.w) X.A (throw (.ref a) : Sem Flow) (SP X pins D) X.xe s4) X.xe { s' with heap := h3 } := by
          rw [hf]
          refine HandSPX.setFlight_upZ fl3 fun h4 hh4 up4 => wpAny_throw (tk _ _ ?_)
          exact ⟨a, B, sI, pins, σ', H', cls, d, rfl, J, nb, (up.trans up3).trans up4, .inr (.inr (by rw [hs]; exact hh4)), na, os, ag, w⟩
        first
          | exact wpAny_bind (wpAny_pure (wpAny_bind fin))
          | exact wpAny_bind fin
      | @bare x c ts b₀ suite np pos' hds2 l2 hc hsu r ih =>
        intro w
        obtain ⟨b, hb1, hyes, hno⟩ := w
        refine wpAny_handleBy_cons (codeAny_handlers_test ?_) (by intro q; cases q)
        refine test hc ((PySem.W.exm_one (M := model X.prog X.w) (J3.kIn) LT hb1).here ?_)
        cases b with
        | false =>
          show wpAny _ X.A (handleBy (.ref a) X.env hds2) _ _ _
          exact ih (hno rfl)
        | true =>
          refine codeAny_handlers_suite (HandSPX.lands_againZ fl3 fun h4 fl4 up4 => ?_)
          have J4 : Inv X pins σ' H' { s' with heap := h4 } := J.landed nb fl4.1 ((up.trans up3).trans up4) os ag
          obtain ⟨oe4, vs4, he4, hz4, hd4⟩ := fl4.there
          have S4 := J4.suite he4 hd4 na nL nF
          refine wpAny_mono ((hsu a oe4 cls d (X.pn ++ pins) hz4 ⟨_, hd4⟩).run [] _ _ H' _ S4 (hyes rfl a na)) (fun f s6 hsp => ?_) fun _ _ z => False.elim z
          cases f with
          | next => obtain ⟨σ6, H6, S6, q6⟩ := hsp; exact ⟨_, _, S6.unsuite ok, q6⟩
          | brk => obtain ⟨σ6, H6, S6, q6⟩ := hsp; exact ⟨_, _, S6.unsuite ok, q6⟩
          | cont => obtain ⟨σ6, H6, S6, q6⟩ := hsp; exact ⟨_, _, S6.unsuite ok, q6⟩
          | ret u => obtain ⟨v6, σ6, H6, S6, r6, q6⟩ := hsp; exact ⟨_, _, _, S6.unsuite ok, r6, q6⟩
      | @named x n i c ts b₀ suite np pos' hds2 l2 hN hi hln hc hsu r ih =>
        intro w
        obtain ⟨b, hb1, hyes, hno⟩ := w
        refine wpAny_handleBy_cons (codeAny_handlers_test ?_) (by intro q; cases q)
        refine test hc ((PySem.W.exm_one (M := model X.prog X.w) (J3.kIn) LT hb1).here ?_)
        cases b with
        | false =>
          show wpAny _ X.A (handleBy (.ref a) X.env hds2) _ _ _
          exact ih (hno rfl)
        | true =>
          refine codeAny_handlers_suite_as (HandSPX.lands_againZ fl3 fun h4 fl4 up4 => ?_)
          have J4 : Inv X pins σ' H' { s' with heap := h4 } := J.landed nb fl4.1 ((up.trans up3).trans up4) os ag
          obtain ⟨oe4, vs4, he4, hz4, hd4⟩ := fl4.there
          have S4 := J4.suite he4 hd4 na nL nF
          refine store_ok (X := X.suite a ((a, oe4) :: (X.pn ++ pins))) (v := .ref a) S4 hN hi (.inl hln) rfl (fun s5 S5 => ?_) (.inr hln)
          refine wpAny_mono ((hsu a oe4 cls d (X.pn ++ pins) hz4 ⟨_, hd4⟩).run [] s5 _ H' _ S5 (hyes rfl a na)) (fun f s6 hsp => ?_) fun _ _ z => False.elim z
          have end_ : ∀ {σ6 : L2.St} {H6 : Hp} {Q : Shared → Prop}, Inv (X.suite a ((a, oe4) :: (X.pn ++ pins))) [] σ6 H6 s6 → (∀ s7, Inv X pins (σ6.set i none) H6 s7 → Q s7) →
              wpAny (model X.prog X.w) X.A (do bindName X.env n .none; unbindBehindTheSuite X.env n pos') (fun _ s7 => Q s7) X.xe s6 := fun {σ6 H6 Q} S6 hq => gone_ok (S6.unsuite ok) hN hi hln hq
          cases f with
          | next => obtain ⟨σ6, H6, S6, q6⟩ := hsp; exact end_ S6 fun s7 J7 => ⟨_, _, J7, q6⟩
          | brk => obtain ⟨σ6, H6, S6, q6⟩ := hsp; exact end_ S6 fun s7 J7 => ⟨_, _, J7, q6⟩
          | cont => obtain ⟨σ6, H6, S6, q6⟩ := hsp; exact end_ S6 fun s7 J7 => ⟨_, _, J7, q6⟩
          | ret u => obtain ⟨v6, σ6, H6, S6, r6, q6⟩ := hsp; exact end_ S6 fun s7 J7 => ⟨_, _, _, J7, r6, q6⟩
    exact go hh w
end

/-! ### the pure side -/
def subT : List (Str × Bool) → Str → Option Bool
  | [], _ => none
  | p :: r, z => if p.1 = z then some p.2 else subT r z
structure Cl where
  sub : List (Str × Bool)
  oi : Option Nat
  s : En → Out
def clrO (oi : Option Nat) (o : Out) : Out := match oi with
  | none => (match o with
    | .ex _ _ => .bad
    | o => o)
  | some i => match o with
    | .nx ρ => .nx (ρ.put i none)
    | .bk ρ => .bk (ρ.put i none)
    | .ct ρ => .ct (ρ.put i none)
    | .rt t => .rt t
    | _ => .bad
def hdl : List Cl → Str → En → Out
  | [], c, ρ => .ex c ρ
  | k :: r, c, ρ => match subT k.sub c with
    | some true => (match k.oi with
      | none => clrO none (k.s ρ)
      | some i => if i < ρ.length then clrO (some i) (k.s (ρ.put i none)) else .bad)
    | some false => hdl r c ρ
    | none => .bad
def sTry (b : En → Out) (ks : List Cl) : En → Out := fun ρ => match b ρ with
  | .ex c ρ' => hdl ks c ρ'
  | o => o
/-- how the class z stands to the class x of a clause -/
def SubF (K : PySem.W.Frag) (mg : Str → Option Value) (x : Str) (z : Str) (b : Bool) : Prop := ∀ C D, mg z = some (.ref C) → mg x = some (.ref D) → PySem.W.exmOne K (.ref C) (.ref D) = some b
inductive SubsF (K : PySem.W.Frag) (mg : Str → Option Value) (x : Str) : List (Str × Bool) → Prop
  | nil : SubsF K mg x []
  | cons {z : Str} {b : Bool} {l : List (Str × Bool)} : SubF K mg x z b → SubsF K mg x l → SubsF K mg x ((z, b) :: l)
theorem SubsF.get {K : PySem.W.Frag} {mg : Str → Option Value} {x : Str} {l : List (Str × Bool)} (h : SubsF K mg x l) {z : Str} {b : Bool} (e : subT l z = some b) : SubF K mg x z b := by
  induction h with
  | nil => cases e
  | @cons y c l h1 h2 ih =>
    unfold subT at e
    by_cases hy : y = z
    · rw [if_pos hy] at e
      cases e
      subst hy
      exact h1
    · rw [if_neg hy] at e
      exact ih e
abbrev WF0 : WX := fun _ _ _ _ => False
inductive DHds (X : Cx) : List ExceptHandler → List (Value × Option Nat × TSX) → List Cl → List Nat → Prop
  | nil : DHds X [] [] [] []
  | bare {x : Str} {C : Addr} {ts : TS} {s : En → Out} {sub : List (Str × Bool)} {b₀ : Stmt} {suite : List Stmt} {np pos' : Pos} {hds : List ExceptHandler} {l : List (Value × Option Nat × TSX)} {ks : List Cl} {as bs : List Nat}
      (hg : Gl X x) (hdb : (x == ("__debug__" : Str)) = false) (hm : X.mg x = some (.ref C)) (hsub : SubsF X.K X.mg x sub)
      (hsu : ∀ (a : Addr) (oe : Obj) (cls : Value) (d : Option Addr) (pn : List (Addr × Obj)), Zc cls d oe → (∃ vs, oe.data = .fields vs) → DSs (X.suite a ((a, oe) :: pn)) WF0 (b₀ :: suite) ts s as) (r : DHds X hds l ks bs) :
      DHds X (.ExceptHandler (some (.Name x np)) none (b₀ :: suite) pos' :: hds) ((.ref C, none, fun _ _ _ => ts) :: l) (⟨sub, none, s⟩ :: ks) (as ++ bs)
  | named {x n z0 : Str} {i : Nat} {C : Addr} {ts : TSX} {s : En → Out} {sub : List (Str × Bool)} {b₀ : Stmt} {suite : List Stmt} {np pos' : Pos} {hds : List ExceptHandler} {l : List (Value × Option Nat × TSX)} {ks : List Cl} {as bs : List Nat}
      (hN : X.N.Nodup) (hi : X.N[i]? = some n) (hln : X.env.kindOf n = some .local) (hg : Gl X x) (hdb : (x == ("__debug__" : Str)) = false) (hm : X.mg x = some (.ref C)) (hsub : SubsF X.K X.mg x sub) (hz : ∀ z, subT sub z = some true → z = z0)
      (hsu : ∀ (a : Addr) (oe : Obj) (cls : Value) (d : Option Addr) (pn : List (Addr × Obj)), Zc cls d oe → (∃ vs, oe.data = .fields vs) → PSs (X.suite a ((a, oe) :: pn)) (b₀ :: suite) (ts a cls d))
      (hsm : ∀ (a C : Addr), X.mg z0 = some (.ref C) → ∀ E S φ ρ σ H D, StInv X.K E S φ ρ σ H → σ[i]? = some (some (.ref a)) → OutOK X.K X.mg WF0 E S σ as (s ρ) D → ts a (.ref C) none D σ H) (r : DHds X hds l ks bs) :
      DHds X (.ExceptHandler (some (.Name x np)) (some n) (b₀ :: suite) pos' :: hds) ((.ref C, some i, ts) :: l) (⟨sub, some i, s⟩ :: ks) ((i :: as) ++ bs)
theorem DHds.mix {X : Cx} {hds : List ExceptHandler} {l : List (Value × Option Nat × TSX)} {ks : List Cl} {as : List Nat} (h : DHds X hds l ks as) : MixOk X hds l := by
  induction h with
  | nil => exact .nil
  | bare hg hdb hm hsub hsu r ih => exact .bare ⟨hg, hdb, .inl hm⟩ (fun a oe cls d pn z e => (hsu a oe cls d pn z e).ps) ih
  | named hN hi hln hg hdb hm hsub hz hsu hsm r ih => exact .named hN hi hln ⟨hg, hdb, .inl hm⟩ hsu ih
theorem StInv.slotN {K : PySem.W.Frag} {E : Ent} {S : Hp} {φ : Nat → List Addr} {ρ : En} {σ : L2.St} {H : Hp} (I : StInv K E S φ ρ σ H) (i : Nat) (v : Option V) : StInv K E S φ (ρ.put i none) (σ.set i v) H := by
  refine ⟨I.gr, by rw [put_eq, List.length_set, List.length_set]; exact I.len, fun j t e => ?_, I.nd, I.dj, I.fr⟩
  rw [put_eq] at e
  by_cases hj : j = i
  · subst hj
    rw [List.getElem?_set] at e
    simp at e
  · rw [List.getElem?_set_ne (Ne.symm hj)] at e
    obtain ⟨w, e1, r⟩ := I.slot j t e
    exact ⟨w, by rw [List.getElem?_set_ne (Ne.symm hj)]; exact e1, r⟩
section
variable {X : Cx} {body : List Stmt} {h₀ : ExceptHandler} {hds : List ExceptHandler} {l : List (Value × Option Nat × TSX)} {ks : List Cl} {as bs : List Nat} {pos : Pos} {tb : WX → TS} {W : WX} {b : En → Out}
theorem OutOK.named {K : PySem.W.Frag} {mg : Str → Option Value} {E : Ent} {S : Hp} {σ : L2.St} {i : Nat} {cs : List Nat} {o : Out} {D : Ends} (h : OutOK K mg W E S σ cs (clrO (some i) o) D) (v : V) (hi : ∀ j ∈ i :: as, j ∈ cs) : OutOK K mg WF0 E S (σ.set i (some v)) as o (endsAs i D) := by
  have st : ∀ {S' σ'}, Step S (σ.set i (some v)) as S' σ' → Step S σ cs S' (σ'.set i none) := fun s => ⟨s.s, fun j hj => by
    have h1 : j ≠ i := fun e => hj (hi j (by simp [e]))
    have h2 : j ∉ as := fun e => hj (hi j (List.mem_cons_of_mem _ e))
    rw [List.getElem?_set_ne (Ne.symm h1), s.k j h2, List.getElem?_set_ne (Ne.symm h1)]⟩
  cases o with
  | bad => exact h
  | nx ρ => exact fun S' φ' σ' H' s I => h S' φ' _ H' (st s) (I.slotN i none)
  | bk ρ => exact fun S' φ' σ' H' s I => h S' φ' _ H' (st s) (I.slotN i none)
  | ct ρ => exact fun S' φ' σ' H' s I => h S' φ' _ H' (st s) (I.slotN i none)
  | rt t => exact h
  | ex c ρ => exact False.elim h
theorem OutOK.bare {K : PySem.W.Frag} {mg : Str → Option Value} {E : Ent} {S : Hp} {σ : L2.St} {cs : List Nat} {o : Out} {D : Ends} (h : OutOK K mg W E S σ cs (clrO none o) D) (hi : ∀ j ∈ as, j ∈ cs) : OutOK K mg WF0 E S σ as o D := by
  cases o with
  | bad => exact h
  | nx ρ => exact fun S' φ' σ' H' s I => h S' φ' _ H' (s.wide hi) I
  | bk ρ => exact fun S' φ' σ' H' s I => h S' φ' _ H' (s.wide hi) I
  | ct ρ => exact fun S' φ' σ' H' s I => h S' φ' _ H' (s.wide hi) I
  | rt t => exact h
  | ex c ρ => exact False.elim h
theorem DHds.sem {E : Ent} {S : Hp} {φ : Nat → List Addr} {ρ : En} {σ : L2.St} {H : Hp} {D : Ends} {c : Str} {C : Addr} {cs : List Nat} (h : DHds X hds l ks as) (hm : X.mg c = some (.ref C)) (I : StInv X.K E S φ ρ σ H) :
    (∀ j ∈ as, j ∈ cs) → OutOK X.K X.mg W E S σ cs (hdl ks c ρ) D → wMix X.K W D l (.ref C) none σ H := by
  induction h with
  | nil => exact fun _ q => q S φ σ H .refl I C hm
  | @bare x D0 ts s sub b₀ suite np pos' hds l ks as bs hg hdb hx hsub hsu r ih =>
    intro hcs q
    unfold hdl at q
    cases e : subT sub c with
    | none => rw [e] at q; exact False.elim q
    | some b =>
      rw [e] at q
      refine ⟨b, hsub.get e C D0 hm hx, fun hb a na => ?_, fun hb => ?_⟩
      · subst hb
        have q' : OutOK X.K X.mg W E S σ cs (clrO none (s ρ)) D := q
        obtain ⟨oe, hz⟩ : ∃ oe : Obj, Zc (.ref C) none oe ∧ ∃ vs, oe.data = .fields vs := ⟨{ cls := .ref C, dict := none, data := .fields #[] }, ⟨rfl, rfl⟩, _, rfl⟩
        exact (hsu a oe (.ref C) none [] hz.1 hz.2).sm E S φ ρ σ H D I (q'.bare fun j hj => hcs j (List.mem_append_left _ hj))
      · subst hb
        exact ih (fun j hj => hcs j (List.mem_append_right _ hj)) q
  | @named x n z0 i D0 ts s sub b₀ suite np pos' hds l ks as bs hN hi hln hg hdb hx hsub hz hsu hsm r ih =>
    intro hcs q
    unfold hdl at q
    cases e : subT sub c with
    | none => rw [e] at q; exact False.elim q
    | some b =>
      rw [e] at q
      refine ⟨b, hsub.get e C D0 hm hx, fun hb a na => ?_, fun hb => ?_⟩
      · subst hb
        have q' : OutOK X.K X.mg W E S σ cs (if i < ρ.length then clrO (some i) (s (ρ.put i none)) else .bad) D := q
        have ez := hz c e
        subst ez
        by_cases hl : i < ρ.length
        case neg => rw [if_neg hl] at q'; exact False.elim q'
        rw [if_pos hl] at q'
        have hlt : i < σ.length := by rw [← I.len]; exact hl
        refine hsm a C hm E S φ _ _ H _ (I.slotN i (some (.ref a))) ?_ (q'.named (.ref a) fun j hj => hcs j (List.mem_append_left _ hj))
        rw [List.getElem?_set_self hlt]
      · subst hb
        exact ih (fun j hj => hcs j (List.mem_append_right _ hj)) q
/-- try: body / except C: .. -/
theorem ds_try (hs : X.stack = X.env :: X.outer) (hf : X.env.frame = some X.env.locals) (tk : Takes X W)
    (hb : ∀ (W' : WX) (pn : List (Addr × Obj)) (xe : Value → Shared → Prop), Takes (X.tr pn xe) W' → PassesOwn (model X.prog X.w) X.A X.env xe → DSs (X.tr pn xe) W' body (tb W') b bs)
    (hh : DHds X (h₀ :: hds) l ks as) : DS X W (.Try body (h₀ :: hds) [] [] pos) (fun D σ H => tb (wMix X.K W D l) D σ H) (sTry b ks) (bs ++ as) := by
  refine ⟨ps_try_mix hs hf tk (fun W' pn xe t p => (hb W' pn xe t p).ps) hh.mix, fun E S φ ρ σ H D I q => ?_⟩
  refine (hb (wMix X.K W D l) [] (fun e s₁ => wpAny (model X.prog X.w) X.A (noteFrame e X.env) (fun _ s₂ => wpAny (model X.prog X.w) X.A (setFlight e none) (fun _ _ => True) (fun _ _ => True) s₂) (fun _ _ => True) s₁) (fun u s' xx => ?_) PassesOwn.looking).sm E S φ ρ σ H D I ?_
  · obtain ⟨a, B, sI, pins', σ', H', cls, d, rfl, J', nb, up, sky, na, os, ag, w⟩ := xx
    have hfr : X.A.frames = some (X.env :: X.outer) := by rw [← hs]; exact J'.ok.frames
    have sky' : Sky B (X.env :: X.outer) a (Zc cls d) X.env.locals s'.heap := hs ▸ sky
    exact Sky.land Zc.steady hfr hf sky' fun h3 fl3 up3 => trivial
  have q : OutOK X.K X.mg W E S σ (bs ++ as) (match b ρ with
    | .ex c ρ' => hdl ks c ρ'
    | o => o) D := q
  cases e : b ρ with
  | bad => rw [e] at q; exact q
  | nx ρ' => rw [e] at q; exact fun S' φ' σ' H' s I => q S' φ' σ' H' (s.wide fun j hj => List.mem_append_left _ hj) I
  | bk ρ' => rw [e] at q; exact fun S' φ' σ' H' s I => q S' φ' σ' H' (s.wide fun j hj => List.mem_append_left _ hj) I
  | ct ρ' => rw [e] at q; exact fun S' φ' σ' H' s I => q S' φ' σ' H' (s.wide fun j hj => List.mem_append_left _ hj) I
  | rt t => rw [e] at q; exact q
  | ex c ρ' =>
    rw [e] at q
    intro S' φ' σ' H' s I' C hm
    refine hh.sem (cs := bs ++ as) hm I' (fun j hj => List.mem_append_right _ hj) ?_
    exact OutOK.later (as := bs) q s _ (fun j hj => List.mem_append_left _ hj) fun _ z => z
end
end PL
set_option Elab.async false
set_option linter.all false
set_option maxRecDepth 100000
set_option maxHeartbeats 4000000
/-! PL38: isinstance of the exception that a suite holds; suites that return by it. -/
namespace PL
open PySem PySem.Spec PyProof.Rows L2
/-- a class in isinstance: an own one, or a built-in one -/
inductive CN where
  | own (x : Str)
  | blt (b : String)
def CN.v (mg : Str → Option Value) : CN → Value → Prop
  | .own x, u => mg x = some u ∧ ∃ D, u = .ref D
  | .blt b, u => u = .type b
/-- isinstance(e, c) for an exception of the class z -/
def IsF (K : PySem.W.Frag) (mg : Str → Option Value) (z : Str) (c : CN) (b : Bool) : Prop := ∀ C, mg z = some (.ref C) → ∃ u, c.v mg u ∧ PySem.W.kitOne K (.ref C) u = some b
def ExcK (K : PySem.W.Frag) (mg : Str → Option Value) (z : Str) : Prop := ∀ C, mg z = some (.ref C) → ExcC K C
def rIsEx (K : PySem.W.Frag) (cls : Value) (d : Option Addr) (a : Addr) : List V → Hp → VK → Prop := fun xs H Q => ∃ C, cls = .ref C ∧ d = none ∧ ExcC K C ∧ ∃ (c : V) (u : Value) (b : Bool), xs = [.ref a, c] ∧ ClsV c u ∧ PySem.W.kitOne K (.ref C) u = some b ∧ Q (.bl b) H
def rIsExT (K : PySem.W.Frag) (cls : Value) (d : Option Addr) (a : Addr) : List V → Hp → VK → Prop := fun xs H Q => ∃ C, cls = .ref C ∧ d = none ∧ ExcC K C ∧ ∃ (tp : Addr) (cs : List V) (us : List Value) (b : Bool), xs = [.ref a, .ref tp] ∧ H tp = some (.tup cs) ∧ Paired ClsV cs us ∧ PySem.W.kitAny K (.ref C) us = some b ∧ Q (.bl b) H
section
variable {X : Cx} {a : Addr} {oe : Obj} {cls : Value} {d : Option Addr} {pn : List (Addr × Obj)}
theorem exc_inst {pins : List (Addr × Obj)} {σ : L2.St} {H : Hp} {s : Shared} {C : Addr} (I : Inv (X.suite a ((a, oe) :: pn)) pins σ H s) (hz : Zc (.ref C) none oe) (hf : ∃ vs, oe.data = .fields vs) : PySem.W.InstAt s.heap a oe C none := by
  obtain ⟨hget, _⟩ := I.pin (a, oe) (List.mem_append.mpr (.inl List.mem_cons_self))
  obtain ⟨vs, hv⟩ := hf
  obtain ⟨oc, od, oda, osl⟩ := oe
  obtain ⟨h1, h2⟩ := hz
  dsimp only at h1 h2 hv
  subst h1 h2 hv
  exact ⟨hget, rfl, rfl, trivial⟩
theorem call_isEx (hz : Zc cls d oe) (hf : ∃ vs, oe.data = .fields vs) : CallR (X.suite a ((a, oe) :: pn)) (.builtin "isinstance") (rIsEx X.K cls d a) := by
  intro pins s σ H xs us Q I r h
  obtain ⟨C, rfl, rfl, G, c, u, b, rfl, k, e, q⟩ := h
  obtain ⟨u1, u2, rfl, r1, r2⟩ := vals2 r
  cases (show u1 = Value.ref a from r1)
  have e2 := k.eq r2
  subst e2
  exact PySem.W.kia_one (PySem.W.handS_kitx_exc G.hg G.hk G.hs G.hd G.ha G.hn G.ht G.hm) I.kIn (exc_inst I hz hf) e (fun z => nomatch z) fun tk => ⟨.bl b, H, I.tok tk, rfl, q⟩
theorem call_isExT (hz : Zc cls d oe) (hf : ∃ vs, oe.data = .fields vs) : CallR (X.suite a ((a, oe) :: pn)) (.builtin "isinstance") (rIsExT X.K cls d a) := by
  intro pins s σ H xs us Q I r h
  obtain ⟨C, rfl, rfl, G, tp, cs, ws, b, rfl, hT, k, e, q⟩ := h
  obtain ⟨u1, u2, rfl, r1, r2⟩ := vals2 r
  cases (show u1 = Value.ref a from r1)
  cases (show u2 = Value.ref tp from r2)
  obtain ⟨_, its, rv, o, h1, h2, n, h3⟩ := (show ObjOk X.prog X.w H s.heap tp (.tup cs) from I.hok tp _ hT)
  have e3 := ClsV.all k rv
  subst e3
  obtain ⟨oc, od, dt, sl⟩ := o
  simp only at h2 h3
  subst h2 h3
  exact PySem.W.kia_tup (PySem.W.handS_kitx_exc G.hg G.hk G.hs G.hd G.ha G.hn G.ht G.hm) I.kIn (exc_inst I hz hf) h1 e (fun z => nomatch z) fun tk => ⟨.bl b, H, I.tok tk, rfl, q⟩
end
/-- an expression of the suite whose value is known: slot i holds the exception -/
structure DX (X : Cx) (z0 : Str) (i : Nat) (e : Expr) (te : Addr → Value → Option Addr → TE) (v : V) : Prop where
  pe : ∀ (a : Addr) (oe : Obj) (cls : Value) (d : Option Addr) (pn : List (Addr × Obj)), Zc cls d oe → (∃ vs, oe.data = .fields vs) → PE (X.suite a ((a, oe) :: pn)) e (te a cls d)
  sm : ∀ (a C : Addr), X.mg z0 = some (.ref C) → ∀ (σ : L2.St) (H : Hp) (Q : VK), σ[i]? = some (some (.ref a)) → (∀ H', Same H H' → Q v H') → te a (.ref C) none σ H Q
structure DXs (X : Cx) (z0 : Str) (i : Nat) (es : List Expr) (te : Addr → Value → Option Addr → TA) (vs : List V) : Prop where
  pe : ∀ (a : Addr) (oe : Obj) (cls : Value) (d : Option Addr) (pn : List (Addr × Obj)), Zc cls d oe → (∃ vs, oe.data = .fields vs) → PA (X.suite a ((a, oe) :: pn)) es (te a cls d)
  sm : ∀ (a C : Addr), X.mg z0 = some (.ref C) → ∀ (σ : L2.St) (H : Hp) (Q : List V → Hp → Prop), σ[i]? = some (some (.ref a)) → (∀ H', Same H H' → Q vs H') → te a (.ref C) none σ H Q
section
variable {X : Cx} {z0 : Str} {i : Nat} {e f : Expr} {es : List Expr} {te tf : Addr → Value → Option Addr → TE} {ts : Addr → Value → Option Addr → TA} {v w : V} {vs : List V} {p p2 p3 p4 pos : Pos} {j j2 : Nat}
theorem dx_int {n : Int} : DX X z0 i (.Constant (.int n) j pos) (fun _ _ _ => tC (.int n)) (.int n) := ⟨fun _ _ _ _ _ _ _ => pe_int, fun _ _ _ _ H Q _ h => h H (.refl _)⟩
theorem dx_str {n : Str} : DX X z0 i (.Constant (.str n) j pos) (fun _ _ _ => tC (.str n)) (.str n) := ⟨fun _ _ _ _ _ _ _ => pe_str, fun _ _ _ _ H Q _ h => h H (.refl _)⟩
theorem dx_bl {n : Bool} : DX X z0 i (.Constant (.bool n) j pos) (fun _ _ _ => tC (.bl n)) (.bl n) := ⟨fun _ _ _ _ _ _ _ => pe_bl, fun _ _ _ _ H Q _ h => h H (.refl _)⟩
theorem dx_non : DX X z0 i (.Constant .none j pos) (fun _ _ _ => tC .non) .non := ⟨fun _ _ _ _ _ _ _ => pe_non, fun _ _ _ _ H Q _ h => h H (.refl _)⟩
theorem dxs_nil : DXs X z0 i [] (fun _ _ _ => tNil) [] := ⟨fun _ _ _ _ _ _ _ => pa_nil, fun _ _ _ _ H Q _ h => h H (.refl _)⟩
theorem dxs_cons (h : DX X z0 i e te v) (hr : DXs X z0 i es ts vs) (hs : starEach (e :: es) X.env = (false, eval e X.env) :: starEach es X.env := by rfl) : DXs X z0 i (e :: es) (fun a c d => tCons (te a c d) (ts a c d)) (v :: vs) :=
  ⟨fun a oe cls d pn hz hf => pa_cons (h.pe a oe cls d pn hz hf) (hr.pe a oe cls d pn hz hf) hs, fun a C hm σ H Q hi q => h.sm a C hm σ H _ hi fun H1 s1 => hr.sm a C hm σ H1 _ hi fun H2 s2 => q H2 (s1.trans s2)⟩
/-- isinstance(e, C) -/
theorem dx_is {n x : Str} {b : Bool} {D : Addr} (hx : ExcK X.K X.mg z0) (h : IsF X.K X.mg z0 (.own x) b) (gi : Gl X "isinstance") (mi : X.mg "isinstance" = none) (gx : Gl X x) (hm : X.mg x = some (.ref D)) (hN : X.N[i]? = some n := by rfl) (hv : Vis X.env.scope n := by first | exact Or.inl rfl | exact Or.inr (Or.inl rfl) | exact Or.inr (Or.inr rfl))
    (hd : (n == ("__debug__" : Str)) = false := by decide) (hcd : (n == ("__classdict__" : Str)) = false := by decide) (hdx : (x == ("__debug__" : Str)) = false := by decide)
    (hs : starEach [.Name n p2, .Name x p3] X.env = (false, eval (.Name n p2) X.env) :: starEach [.Name x p3] X.env := by rfl) (hs2 : starEach [.Name x p3] X.env = (false, eval (.Name x p3) X.env) :: starEach [] X.env := by rfl) (hpl : (backTo pos (starEach [.Name x p3] X.env)).any (·.1) = false := by rfl) :
    DX X z0 i (.Call (.Name "isinstance" p) [.Name n p2, .Name x p3] [] pos) (fun a cls d => tCB (rIsEx X.K cls d a) (tCons (tVar i) (tCons (tC (.ref D)) tNil))) (.bl b) := by
  refine ⟨fun a oe cls d pn hz hf => pe_callB (call_isEx hz hf) gi mi (by decide +kernel) (pa_cons (pe_var hN hv hd hcd) (pa_cons (pe_glob gx hm rfl hdx) pa_nil hs2) hs) (by decide) (by decide) hs hpl, fun a C hc σ H Q hi q => ?_⟩
  obtain ⟨u, ⟨hu, D', rfl⟩, hk⟩ := h C hc
  rw [hm] at hu
  cases hu
  exact ⟨.ref a, hi, C, rfl, rfl, hx C hc, .ref D, _, b, rfl, .own D, hk, q H (.refl _)⟩
theorem dx_isB {n : Str} {bn : String} {b : Bool} (hx : ExcK X.K X.mg z0) (h : IsF X.K X.mg z0 (.blt bn) b) (gi : Gl X "isinstance") (mi : X.mg "isinstance" = none) (gx : Gl X (Str.ofString bn)) (hm : X.mg (Str.ofString bn) = none) (hb : bootBuiltins (Str.ofString bn) = some (.type bn)) (hN : X.N[i]? = some n := by rfl) (hv : Vis X.env.scope n := by first | exact Or.inl rfl | exact Or.inr (Or.inl rfl) | exact Or.inr (Or.inr rfl))
    (hd : (n == ("__debug__" : Str)) = false := by decide) (hcd : (n == ("__classdict__" : Str)) = false := by decide) (hdx : ((Str.ofString bn) == ("__debug__" : Str)) = false := by decide) (hnn : Str.ofString bn ≠ "__name__" := by decide)
    (hs : starEach [.Name n p2, .Name (Str.ofString bn) p3] X.env = (false, eval (.Name n p2) X.env) :: starEach [.Name (Str.ofString bn) p3] X.env := by rfl) (hs2 : starEach [.Name (Str.ofString bn) p3] X.env = (false, eval (.Name (Str.ofString bn) p3) X.env) :: starEach [] X.env := by rfl) (hpl : (backTo pos (starEach [.Name (Str.ofString bn) p3] X.env)).any (·.1) = false := by rfl) :
    DX X z0 i (.Call (.Name "isinstance" p) [.Name n p2, .Name (Str.ofString bn) p3] [] pos) (fun a cls d => tCB (rIsEx X.K cls d a) (tCons (tVar i) (tCons (tC (.ty bn)) tNil))) (.bl b) := by
  refine ⟨fun a oe cls d pn hz hf => pe_callB (call_isEx hz hf) gi mi (by decide +kernel) (pa_cons (pe_var hN hv hd hcd) (pa_cons (pe_bltn gx hm hb rfl hnn hdx) pa_nil hs2) hs) (by decide) (by decide) hs hpl, fun a C hc σ H Q hi q => ?_⟩
  obtain ⟨u, rfl, hk⟩ := h C hc
  exact ⟨.ref a, hi, C, rfl, rfl, hx C hc, .ty bn, _, b, rfl, .ty bn, hk, q H (.refl _)⟩
/-- isinstance(e, (C, D)): own classes -/
theorem dx_isT {n : Str} {xs : List Expr} {cs : List V} {us : List Value} {tc : TA} {b : Bool} {kk : Nat} (hx : ExcK X.K X.mg z0) (hp : Paired ClsV cs us) (h : ∀ C, X.mg z0 = some (.ref C) → PySem.W.kitAny X.K (.ref C) us = some b) (hl : cs.length ≤ sizeLine) (gi : Gl X "isinstance") (mi : X.mg "isinstance" = none)
    (hc : ∀ (a : Addr) (oe : Obj) (pn : List (Addr × Obj)), PA (X.suite a ((a, oe) :: pn)) xs tc) (hcs : ∀ σ H Q, Q cs H → tc σ H Q) (hN : X.N[i]? = some n := by rfl) (hv : Vis X.env.scope n := by first | exact Or.inl rfl | exact Or.inr (Or.inl rfl) | exact Or.inr (Or.inr rfl))
    (hd : (n == ("__debug__" : Str)) = false := by decide) (hcd : (n == ("__classdict__" : Str)) = false := by decide)
    (hs : starEach [.Name n p2, .Tuple xs kk p3] X.env = (false, eval (.Name n p2) X.env) :: starEach [.Tuple xs kk p3] X.env := by rfl) (hs2 : starEach [.Tuple xs kk p3] X.env = (false, eval (.Tuple xs kk p3) X.env) :: starEach [] X.env := by rfl) (hpl : (backTo pos (starEach [.Tuple xs kk p3] X.env)).any (·.1) = false := by rfl) :
    DX X z0 i (.Call (.Name "isinstance" p) [.Name n p2, .Tuple xs kk p3] [] pos) (fun a cls d => tCB (rIsExT X.K cls d a) (tCons (tVar i) (tCons (tTup tc) tNil))) (.bl b) := by
  refine ⟨fun a oe cls d pn hz hf => pe_callB (call_isExT hz hf) gi mi (by decide +kernel) (pa_cons (pe_var hN hv hd hcd) (pa_cons (pe_tup (hc a oe pn)) pa_nil hs2) hs) (by decide) (by decide) hs hpl, fun a C hC σ H Q hi q => ?_⟩
  refine ⟨.ref a, hi, hcs _ _ _ ⟨hl, fun tp htp => ?_⟩⟩
  exact ⟨C, rfl, rfl, hx C hC, tp, cs, us, b, rfl, upd_same, hp, h C hC, q _ (same_upd htp)⟩
theorem dx_not {b : Bool} (h : DX X z0 i e te (.bl b)) : DX X z0 i (.UnaryOp .Not e pos) (fun a c d => tNotV (te a c d)) (.bl (!b)) :=
  ⟨fun a oe cls d pn hz hf => pe_not (h.pe a oe cls d pn hz hf), fun a C hm σ H Q hi q => h.sm a C hm σ H _ hi fun H1 s1 => ⟨b, rfl, q H1 s1⟩⟩
theorem dx_one {op : BoolOp} (h : DX X z0 i e te v) : DX X z0 i (.BoolOp op [e] pos) te v := ⟨fun a oe cls d pn hz hf => pe_one (h.pe a oe cls d pn hz hf), h.sm⟩
theorem dx_and {b c : Bool} (h : DX X z0 i e te (.bl b)) (hr : DX X z0 i (.BoolOp .And (f :: es) pos) tf (.bl c)) : DX X z0 i (.BoolOp .And (e :: f :: es) pos) (fun a x d => tAndV (te a x d) (tf a x d)) (.bl (b && c)) := by
  refine ⟨fun a oe cls d pn hz hf => pe_and (h.pe a oe cls d pn hz hf) (hr.pe a oe cls d pn hz hf), fun a C hm σ H Q hi q => h.sm a C hm σ H _ hi fun H1 s1 => ⟨b, rfl, ?_⟩⟩
  cases b with
  | true => rw [if_pos rfl]; exact hr.sm a C hm σ H1 _ hi fun H2 s2 => q H2 (s1.trans s2)
  | false => rw [if_neg Bool.false_ne_true]; exact q H1 s1
theorem dx_or {b c : Bool} (h : DX X z0 i e te (.bl b)) (hr : DX X z0 i (.BoolOp .Or (f :: es) pos) tf (.bl c)) : DX X z0 i (.BoolOp .Or (e :: f :: es) pos) (fun a x d => tOrV (te a x d) (tf a x d)) (.bl (b || c)) := by
  refine ⟨fun a oe cls d pn hz hf => pe_or (h.pe a oe cls d pn hz hf) (hr.pe a oe cls d pn hz hf), fun a C hm σ H Q hi q => h.sm a C hm σ H _ hi fun H1 s1 => ⟨b, rfl, ?_⟩⟩
  cases b with
  | true => rw [if_pos rfl]; exact q H1 s1
  | false => rw [if_neg Bool.false_ne_true]; exact hr.sm a C hm σ H1 _ hi fun H2 s2 => q H2 (s1.trans s2)
theorem dx_eq (h : DX X z0 i e te v) (ev : v = w := by rfl) : DX X z0 i e te w := ev ▸ h
/-- int(b) -/
theorem dx_intB {b : Bool} (h : DX X z0 i e te (.bl b)) (gi : Gl X "int") (mi : X.mg "int" = none) (hs : starEach [e] X.env = (false, eval e X.env) :: starEach [] X.env := by rfl) : DX X z0 i (.Call (.Name "int" p) [e] [] pos)
    (fun a c d => tCB (fun xs H Q => (∃ i, xs = [.int i] ∧ Q (.int i) H) ∨ ∃ k, xs = [.bl k] ∧ Q (.int (if k then 1 else 0)) H) (tCons (te a c d) tNil)) (.int (if b then 1 else 0)) :=
  ⟨fun a oe cls d pn hz hf => pe_callTy call_int1 gi mi (by decide +kernel) (pa_cons (h.pe a oe cls d pn hz hf) pa_nil hs) (by decide) (by decide) hs (by rfl),
    fun a C hm σ H Q hi q => h.sm a C hm σ H _ hi fun H1 s1 => .inr ⟨b, rfl, q H1 s1⟩⟩
/-- [v, w][n] -/
theorem dx_pick {n : Int} (hl : DXs X z0 i es ts vs) (h : DX X z0 i f tf (.int n)) (hv : atI vs n = some v) (hz : vs.length ≤ sizeLine) (hp : PlainIx f := by exact fun _ _ => rfl) : DX X z0 i (.Subscript (.List es p) f pos) (fun a c d => tOp (rIx X.K) (tLst (ts a c d)) (tf a c d)) v := by
  refine ⟨fun a oe cls d pn hz hf => pe_ix ix_seq (pe_lst (hl.pe a oe cls d pn hz hf)) (h.pe a oe cls d pn hz hf) hp, fun a C hm σ H Q hi q => ?_⟩
  refine hl.sm a C hm σ H _ hi fun H1 s1 => ⟨hz, fun P hP => ?_⟩
  have s2 : Same H1 (upd H1 P (.lst vs)) := same_upd hP
  exact h.sm a C hm σ _ _ hi fun H2 s3 => .inl ⟨P, vs, n, v, rfl, rfl, .of (s3 _ _ upd_same), hv, q H2 (s1.trans (s2.trans s3))⟩
theorem pos_ret {S H H' : Hp} (i : Same S H) (s : Same H H') : Grow S H S H' := ⟨s, .refl _, i.trans s, fun _ _ e => e⟩
/-- a suite that is known by the class -/
structure SuOk (X : Cx) (z0 : Str) (i : Nat) (suite : List Stmt) (tsx : TSX) (s : En → Out) : Prop where
  ps : ∀ (a : Addr) (oe : Obj) (cls : Value) (d : Option Addr) (pn : List (Addr × Obj)), Zc cls d oe → (∃ vs, oe.data = .fields vs) → PSs (X.suite a ((a, oe) :: pn)) suite (tsx a cls d)
  sm : ∀ (a C : Addr), X.mg z0 = some (.ref C) → ∀ E S φ ρ σ H D, StInv X.K E S φ ρ σ H → σ[i]? = some (some (.ref a)) → OutOK X.K X.mg WF0 E S σ [] (s ρ) D → tsx a (.ref C) none D σ H
/-- return e -/
theorem dx_ret {d : D} (h : DX X z0 i e te v) (hv : ∀ S, RepD S d v) : SuOk X z0 i [.Return (some e) pos] (fun a cls d => tRet (te a cls d)) (fun _ => Out.rt (.sh d)) := by
  refine ⟨fun a oe cls d pn hz hf => pss_one (ps_ret (h.pe a oe cls d pn hz hf)), fun a C hm E S φ ρ σ H D I hi q => ?_⟩
  exact h.sm a C hm σ H _ hi fun H' s => (show Ret X.K E.S E.H (.sh d) D.rt from q) v S H' [] (I.gr.trans (pos_ret I.gr.i s)) (rep_d (hv S)) .nil fun a ha => by cases ha
/-- return (c, e) -/
theorem dx_retT {ds : List D} {kk : Nat} (h : DXs X z0 i es ts vs) (hv : ∀ S, RepDs S ds vs) (hz : vs.length ≤ sizeLine) : SuOk X z0 i [.Return (some (.Tuple es kk p)) pos] (fun a cls d => tRet (tTupF (ts a cls d))) (fun _ => Out.rt (.sh (.tuple ds))) := by
  refine ⟨fun a oe cls d pn hz hf => pss_one (ps_ret (pe_tupF (h.pe a oe cls d pn hz hf))), fun a C hm E S φ ρ σ H D I hi q => ?_⟩
  refine h.sm a C hm σ H _ hi fun H' s => ⟨hz, ?_⟩
  have q : Ret X.K E.S E.H (.sh (.tuple ds)) D.rt := q
  have g := I.gr.trans (pos_ret I.gr.i s)
  exact (q.later g).tup g.i (hv S)
theorem dhds_named {x n : Str} {C : Addr} {tsx : TSX} {s : En → Out} {sub : List (Str × Bool)} {b₀ : Stmt} {suite : List Stmt} {np pos' : Pos} {hds : List ExceptHandler} {l : List (Value × Option Nat × TSX)} {ks : List Cl} {bs : List Nat}
    (hN : X.N.Nodup) (hi : X.N[i]? = some n) (hln : X.env.kindOf n = some .local) (hg : Gl X x) (hdb : (x == ("__debug__" : Str)) = false) (hm : X.mg x = some (.ref C)) (hsub : SubsF X.K X.mg x sub) (hz : ∀ z, subT sub z = some true → z = z0)
    (hb : SuOk X z0 i (b₀ :: suite) tsx s) (r : DHds X hds l ks bs) :
    DHds X (.ExceptHandler (some (.Name x np)) (some n) (b₀ :: suite) pos' :: hds) ((.ref C, some i, tsx) :: l) (⟨sub, some i, s⟩ :: ks) ((i :: []) ++ bs) := .named hN hi hln hg hdb hm hsub hz hb.ps hb.sm r
end
end PL

namespace PL
open PySem PySem.Spec L2
theorem subT_one {l : List (Str × Bool)} {z0 : Str} (h : (l.all fun p => !p.2 || decide (p.1 = z0)) = true) : ∀ z, subT l z = some true → z = z0 := by
  intro z
  induction l with
  | nil => exact fun e => nomatch e
  | cons p l ih =>
    rw [List.all_cons, Bool.and_eq_true] at h
    intro e
    unfold subT at e
    by_cases hp : p.1 = z
    · rw [if_pos hp] at e
      have e2 : p.2 = true := Option.some.inj e
      have h1 := h.1
      rw [e2] at h1
      rw [← hp]
      simpa using h1
    · rw [if_neg hp] at e
      exact ih h.2 e
end PL
namespace He
open PySem PySem.Spec L2 PL
def subB (x z : Str) (b : Bool) : PySem.W.Frag → Bool := fun K => decide (PySem.W.exmOne K (.ref (ga K z)) (.ref (ga K x)) = some b)
def isfB (z : Str) (c : CN) (b : Bool) : PySem.W.Frag → Bool := fun K => match c with
  | .own x => decide (PySem.W.kitOne K (.ref (ga K z)) (.ref (ga K x)) = some b)
  | .blt n => decide (PySem.W.kitOne K (.ref (ga K z)) (.type n) = some b)
def istB (z : Str) (xs : List Str) (b : Bool) : PySem.W.Frag → Bool := fun K => decide (PySem.W.kitAny K (.ref (ga K z)) (xs.map fun x => Value.ref (ga K x)) = some b)
def excB (z : Str) : PySem.W.Frag → Bool := fun K => decide (PySem.W.findIn K (.ref (ga K z)) "__getattribute__" = some (some (.builtin "BaseException.__getattribute__"))) && decide (PySem.W.findIn K (.ref (ga K z)) "__getattr__" = some none) &&
  decide (PySem.W.subIn K (.ref (ga K z)) (.type "BaseException") = some true) && PySem.W.hasDictIn K (ga K z) && decide (PySem.W.findIn K (.ref (ga K z)) "__class__" = some (some (.builtin "object.__class__"))) &&
  decide (PySem.W.specialIn K (.builtin "object.__class__") "__get__" = some (some (.builtin "getset_descriptor.__get__"))) && decide (PySem.W.takesIn K (.builtin "object.__class__") = some true) && decide (PySem.W.mroIn K (ga K z) (.type "object") = some true)
section
variable {K : PySem.W.Frag} {mg : Str → Option Value} {x z : Str} {b : Bool}
theorem subF_ok (gx : mg x = some (.ref (ga K x))) (gz : mg z = some (.ref (ga K z))) (c : subB x z b K = true) : SubF K mg x z b := by
  intro C D h1 h2
  rw [gz] at h1
  rw [gx] at h2
  cases h1
  cases h2
  exact of_decide_eq_true c
theorem isF_own (gx : mg x = some (.ref (ga K x))) (gz : mg z = some (.ref (ga K z))) (c : isfB z (.own x) b K = true) : IsF K mg z (.own x) b := by
  intro C h1
  rw [gz] at h1
  cases h1
  exact ⟨_, ⟨gx, _, rfl⟩, of_decide_eq_true c⟩
theorem isF_blt {n : String} (gz : mg z = some (.ref (ga K z))) (c : isfB z (.blt n) b K = true) : IsF K mg z (.blt n) b := by
  intro C h1
  rw [gz] at h1
  cases h1
  exact ⟨_, rfl, of_decide_eq_true c⟩
theorem isT_ok {xs : List Str} (gz : mg z = some (.ref (ga K z))) (c : istB z xs b K = true) : ∀ C, mg z = some (.ref C) → PySem.W.kitAny K (.ref C) (xs.map fun x => Value.ref (ga K x)) = some b := by
  intro C h1
  rw [gz] at h1
  cases h1
  exact of_decide_eq_true c
theorem excK_ok (gz : mg z = some (.ref (ga K z))) (c : excB z K = true) : ExcK K mg z := by
  intro C h1
  rw [gz] at h1
  cases h1
  simp only [excB, Bool.and_eq_true, decide_eq_true_eq] at c
  obtain ⟨⟨⟨⟨⟨⟨⟨c1, c2⟩, c3⟩, c4⟩, c5⟩, c6⟩, c7⟩, c8⟩ := c
  exact ⟨c1, c2, c3, c4, c5, c6, c7, c8⟩
end
end He
set_option Elab.async false
set_option linter.all false
set_option maxRecDepth 100000
set_option maxHeartbeats 4000000
/-! PL39: x[k]..[l].append(e) for a new value e; gcd. -/
namespace PL
open PySem PySem.Spec PyProof.Rows L2
theorem RepTs.setAtS {K : PySem.W.Frag} {S H : Hp} : ∀ {ts : List T} {vs : List V} {fp : List Addr} {j : Nat} {t : T}, RepTs K S H ts vs fp → fp.Nodup → ts[j]? = some t →
    ∃ v f, vs[j]? = some v ∧ RepT K S H t v f ∧ f.Nodup ∧ (∀ a ∈ f, a ∈ fp) ∧ ∀ S1 H' t', Same S S1 → (∀ a ∈ fp, a ∉ f → H' a = H a) → RepT K S1 H' t' v f → RepTs K S1 H' (ts.set j t') vs fp
  | [], _, _, j, _, _, _, e => by simp at e
  | u :: ts, vs, fp, 0, t, q, n, e => by
    simp only [RepTs] at q
    obtain ⟨v, r, f, g, rfl, rfl, q1, q2⟩ := q
    simp at e; subst e
    obtain ⟨n1, n2, n3⟩ := List.nodup_append.mp n
    refine ⟨v, f, rfl, q1, n1, fun a ha => List.mem_append_left _ ha, fun S1 H' t' hS h r' => ?_⟩
    show RepTs K S1 H' (t' :: ts) (v :: r) (f ++ g)
    simp only [RepTs]
    exact ⟨v, r, f, g, rfl, rfl, r', RepTs.frame hS _ _ _ (fun a ha => h a (List.mem_append_right _ ha) fun z => n3 a z a ha rfl) q2⟩
  | u :: ts, vs, fp, j + 1, t, q, n, e => by
    simp only [RepTs] at q
    obtain ⟨v, r, f, g, rfl, rfl, q1, q2⟩ := q
    obtain ⟨n1, n2, n3⟩ := List.nodup_append.mp n
    obtain ⟨v', f', e1, q', n', s', k⟩ := RepTs.setAtS q2 n2 (show ts[j]? = some t by simpa using e)
    refine ⟨v', f', by simpa using e1, q', n', fun a ha => List.mem_append_right _ (s' a ha), fun S1 H' t' hS h r' => ?_⟩
    show RepTs K S1 H' (u :: ts.set j t') (v :: r) (f ++ g)
    simp only [RepTs]
    exact ⟨v, r, f, g, rfl, rfl, RepT.frame hS _ _ _ (fun a ha => h a (List.mem_append_left _ ha) fun z => n3 a ha a (s' a z) rfl) q1, k S1 H' t' hS (fun a ha hn => h a (List.mem_append_right _ ha) hn) r'⟩
theorem path_goS {K : PySem.W.Frag} {S H : Hp} {d : D} : ∀ (ks : List Int) {t t' : T} {v : V} {fp : List Addr}, RepT K S H t v fp → fp.Nodup → t.appAt ks d = some t' →
    ∃ l us, l ∈ fp ∧ H l = some (.lst us) ∧ us.length < sizeLine ∧ (∀ Q : VK, Q (.ref l) H → runP K ks v H Q) ∧ ∀ S1 H' w, Same S S1 → RepD S1 d w → (∀ a ∈ fp, a ≠ l → H' a = H a) → H' l = some (.lst (us ++ [w])) → RepT K S1 H' t' v fp
  | [], t, t', v, fp, q, n, e => by
    cases t with
    | ol ds =>
      unfold T.appAt at e
      dsimp only at e
      split at e
      · rename_i hl
        cases e
        simp only [RepT] at q
        obtain ⟨a, us, rfl, rfl, ha, r⟩ := q
        refine ⟨a, us, by simp, ha, by rw [r.length]; exact hl, fun Q h => h, fun S1 H' w hS rw' h1 h2 => ?_⟩
        simp only [RepT]
        exact ⟨a, _, rfl, rfl, h2, (RepDs.mono hS _ _ r).app (.one rw')⟩
      · cases e
    | ot ts =>
      unfold T.appAt at e
      dsimp only at e
      split at e
      · rename_i hl
        cases e
        simp only [RepT] at q
        obtain ⟨a, us, f, rfl, rfl, ha, r⟩ := q
        obtain ⟨na, nf⟩ := List.nodup_cons.mp n
        refine ⟨a, us, by simp, ha, by rw [r.length]; exact hl, fun Q h => h, fun S1 H' w hS rw' h1 h2 => ?_⟩
        simp only [RepT]
        have r2 : RepTs K S1 H' ts us f := RepTs.frame hS _ _ _ (fun b hb => h1 b (List.mem_cons_of_mem _ hb) fun z => na (z ▸ hb)) r
        have r3 := r2.app (show RepT K S1 H' (.sh d) w [] by simp only [RepT, true_and]; exact rw')
        rw [List.append_nil] at r3
        exact ⟨a, _, f, rfl, rfl, h2, r3⟩
      · cases e
    | _ => cases e
  | k :: ks, t, t', v, fp, q, n, e => by
    cases t with
    | ot ts =>
      unfold T.appAt at e
      dsimp only at e
      obtain ⟨j, e1, e⟩ := obind e
      obtain ⟨u, e2, e⟩ := obind e
      obtain ⟨u', e3, rfl⟩ := omap e
      simp only [RepT] at q
      obtain ⟨a, vs, f, rfl, rfl, ha, r⟩ := q
      obtain ⟨na, nf⟩ := List.nodup_cons.mp n
      obtain ⟨w, g, h1, h2, h3, h4, h5⟩ := r.setAtS nf e2
      obtain ⟨l, us, k1, k2, k3, k4, k5⟩ := path_goS ks h2 h3 e3
      have eA : atI vs k = some w := by unfold atI; rw [r.length, e1]; exact h1
      refine ⟨l, us, List.mem_cons_of_mem _ (h4 l k1), k2, k3, fun Q hQ => .inl ⟨a, vs, k, w, rfl, rfl, .of ha, eA, k4 Q hQ⟩, fun S1 H' x hS rx z1 z2 => ?_⟩
      have nal : a ≠ l := fun z => na (z ▸ h4 l k1)
      simp only [RepT]
      refine ⟨a, vs, f, rfl, rfl, by rw [z1 a (by simp) nal]; exact ha, h5 S1 H' u' hS (fun b hb hn => z1 b (List.mem_cons_of_mem _ hb) fun z => hn (z ▸ k1)) (k5 S1 H' x hS rx (fun b hb hn => z1 b (List.mem_cons_of_mem _ (h4 b hb)) hn) z2)⟩
    | tu ts =>
      unfold T.appAt at e
      dsimp only at e
      obtain ⟨j, e1, e⟩ := obind e
      obtain ⟨u, e2, e⟩ := obind e
      obtain ⟨u', e3, rfl⟩ := omap e
      simp only [RepT] at q
      obtain ⟨a, vs, f, rfl, rfl, ha, r⟩ := q
      obtain ⟨na, nf⟩ := List.nodup_cons.mp n
      obtain ⟨w, g, h1, h2, h3, h4, h5⟩ := r.setAtS nf e2
      obtain ⟨l, us, k1, k2, k3, k4, k5⟩ := path_goS ks h2 h3 e3
      have eA : atI vs k = some w := by unfold atI; rw [r.length, e1]; exact h1
      refine ⟨l, us, List.mem_cons_of_mem _ (h4 l k1), k2, k3, fun Q hQ => .inr (.inl ⟨a, vs, k, w, rfl, rfl, ha.sq, eA, k4 Q hQ⟩), fun S1 H' x hS rx z1 z2 => ?_⟩
      have nal : a ≠ l := fun z => na (z ▸ h4 l k1)
      simp only [RepT]
      refine ⟨a, vs, f, rfl, rfl, by rw [z1 a (by simp) nal]; exact ha, h5 S1 H' u' hS (fun b hb hn => z1 b (List.mem_cons_of_mem _ hb) fun z => hn (z ▸ k1)) (k5 S1 H' x hS rx (fun b hb hn => z1 b (List.mem_cons_of_mem _ (h4 b hb)) hn) z2)⟩
    | _ => cases e
def appV (r : Rs T) (c : T) (ks : List Int) : Option T := match r with
  | .ok t => c.appAt ks t.er
  | _ => none
def sAppAtV (i : Nat) (ks : List Int) (ev : En → Rs T) : En → Out := fun ρ => outO (ρ.get i) fun c => outO (appV (evSh ev ρ) c ks) fun c' => .nx (ρ.put i (some c'))
section
variable {X : Cx} {W : WX} {o e : Expr} {te : TE} {ev : En → Rs T} {to : TE} {pos apos cpos : Pos} {ks : List Int}
theorem sem_appAtV {K : PySem.W.Frag} {mg : Str → Option Value} (i : Nat) (ho : ∀ σ H Q, (tVar i σ H fun v H1 => runP K ks v H1 Q) → to σ H Q) (hc : SemE K mg W te ev []) :
    SemS K mg W (tDrop (tBM K "list" rAppend to (tCons te tNil))) (sAppAtV i ks ev) [] := by
  intro E S φ ρ σ H D I q
  obtain ⟨c, ec, q⟩ := OutOK.outO (show OutOK K mg W E S σ [] (outO (ρ.get i) _) D from q)
  obtain ⟨c', e2, q⟩ := OutOK.outO q
  obtain ⟨v, hv, qc⟩ := I.slot i c (En.get_some ec)
  have hc2 := sem_v hc E S φ ρ σ H
  cases hr : evSh ev ρ with
  | bad => rw [hr] at e2; cases e2
  | ex x => rw [hr] at e2; cases e2
  | ok t =>
    rw [hr] at e2
    have e2 : c.appAt ks t.er = some c' := e2
    have ht : ∃ d, t = .sh d := by
      unfold evSh at hr
      cases h1 : ev ρ with
      | bad => rw [h1] at hr; cases hr
      | ex x => rw [h1] at hr; cases hr
      | ok u =>
        rw [h1] at hr
        have hr : (if u.noScr = true then Rs.ok (T.sh u.er) else .bad) = .ok t := hr
        split at hr
        · cases hr; exact ⟨_, rfl⟩
        · cases hr
    obtain ⟨d, rfl⟩ := ht
    obtain ⟨l, us, k1, k2, k3, k4, k5⟩ := path_goS ks qc (I.nd i) e2
    refine ho _ _ _ ⟨v, hv, k4 _ ⟨.inl ⟨rfl, us, .of k2⟩, ?_⟩⟩
    refine hc2 _ I ?_
    rw [hr]
    intro w S1 H1 fp g r
    have I1 := I.grow g
    refine ⟨l, us, w, rfl, rfl, g.h _ _ k2, k3, ?_⟩
    have there : ∀ a ∈ φ i, H1 a = H a := fun a ha => by
      obtain ⟨_, _, o, ho⟩ := I.fr i a ha
      rw [ho, g.h _ _ ho]
    have f3 := k5 S1 (upd H1 l (.lst (us ++ [w]))) w g.s (rep_sh r) (fun a ha hn => (upd_ne hn).trans (there a ha)) upd_same
    have I2 := I1.write (mv := []) (l := l) (o := .lst (us ++ [w])) (t := c') (fp := φ i) i k1 (En.get_some ec) hv f3 (I.nd i) (fun a ha => .inl ha) (by simp)
    exact q S1 _ σ _ ⟨g.s, fun _ _ => rfl⟩ I2
theorem ds_appAtV (i : Nat) (po : PE X o to) (ho : ∀ σ H Q, (tVar i σ H fun v H1 => runP X.K ks v H1 Q) → to σ H Q) (he : DE X W e te ev [])
    (hbase : attributeBase o "append" X.env (eval o X.env) = eval o X.env := by rfl)
    (hfew : ((backTo cpos (starEach [e] X.env)).all (fun x => !x.1) && (backToKw cpos (keywordEach [] X.env)).all (fun x => x.1.isSome)
      && decide ([e].length + ([] : List Keyword).length + (if ([] : List Keyword).isEmpty then 0 else 1) < 30)) = true := by rfl)
    (hline : (apos.endLine == cpos.line) = true := by rfl) (hs : starEach [e] X.env = (false, eval e X.env) :: starEach [] X.env := by rfl) (hplain : (backTo cpos (starEach ([] : List Expr) X.env)).any (·.1) = false := by rfl)
    (hsw : swapsWith (.Call (.Attribute o "append" apos) [e] [] cpos) none pos.line X.env = pure false := by rfl) :
    DS X W (.Expr (.Call (.Attribute o "append" apos) [e] [] cpos) pos) (tDrop (tBM X.K "list" rAppend to (tCons te tNil))) (sAppAtV i ks ev) [] :=
  ⟨ps_expr (pe_bm PySem.F.plainAttrs_list PySem.F.slot_list_append PySem.F.type_list_append mt_append po (pa_cons he.pe pa_nil hs) hbase hfew hline hs hplain) hsw, sem_appAtV i ho he.sm⟩
end

/-! ### gcd(a, b) -/
def fGcd (ts : List T) : Option T := match ts with
  | [.sh (.int a), .sh (.int b)] => some (.sh (.int ((Nat.gcd a.natAbs b.natAbs : Nat) : Int)))
  | _ => none
section
variable {X : Cx} {W : WX} {e : Expr} {es : List Expr} {ta : TA} {er : En → Rs (List T)} {p pos : Pos} {x : Str}
theorem de_gcd (hg : Gl X x) (hm : X.mg x = some (.builtin "math.gcd")) (ha : DAs X W (e :: es) ta er) (hdb : (x == ("__debug__" : Str)) = false := by decide) (hs : starEach (e :: es) X.env = (false, eval e X.env) :: starEach es X.env := by rfl) (hpl : (backTo pos (starEach es X.env)).any (·.1) = false := by rfl) :
    DE X W (.Call (.Name x p) (e :: es) [] pos) (tCB rGcd ta) (evC1 fGcd er) [] := by
  refine ⟨pe_callBfun cr_gcd hg hm ha.pe hdb hs hpl, fun E S φ ρ σ H Q I h => ?_⟩
  refine ha.sm E S φ ρ σ H _ I (h.bind.imp (fun ts ht vs S1 H1 g q => ?_) fun _ z => z)
  obtain ⟨t, et, ht⟩ := ht.rsO
  unfold fGcd at et
  split at et
  · rename_i a b
    cases et
    obtain ⟨v, w, fp, fq, rfl, r1, r2⟩ := views2 q
    have r1 := rep_sh r1
    have r2 := rep_sh r2
    simp only [RepD] at r1 r2
    subst r1 r2
    exact ⟨a, b, rfl, (ht.ret.later g).flat g.i fun _ => by simp only [RepD]⟩
  · cases et
end
end PL
namespace He
open PySem PySem.Spec L2 PL
def bltB (x : Str) (id : String) : PySem.W.Frag → Bool := fun K => eqO (PySem.W.nsIn K mainGlobals x) (some (some (.builtin id)))
theorem blt_ok {K : PySem.W.Frag} {h : Heap} {mg : Str → Option Value} {x : Str} {id : String} (X : K.In h) (G : h.Ns mainGlobals mg) (c : bltB x id K = true) : mg x = some (.builtin id) := PySem.W.mg_of X G (eqO_ok c)
end He
set_option Elab.async false
set_option linter.all false
set_option maxRecDepth 100000
set_option maxHeartbeats 4000000
/-! PL40: a slot that a piece of code does not touch keeps its own thing; found.append(some) and then: for x in some. -/
namespace PL
open PySem PySem.Spec PyProof.Rows L2
open Classical in
noncomputable def hid (φ : Nat → List Addr) (i : Nat) (H : Hp) : Hp := fun b => if ∃ k, k ≠ i ∧ b ∈ φ k then none else H b
theorem hid_in {φ : Nat → List Addr} {i : Nat} {H : Hp} {b : Addr} (h : ¬ ∃ k, k ≠ i ∧ b ∈ φ k) : hid φ i H b = H b := if_neg h
theorem hid_out {φ : Nat → List Addr} {i k : Nat} {H : Hp} {b : Addr} (h : k ≠ i) (hb : b ∈ φ k) : hid φ i H b = none := if_pos ⟨k, h, hb⟩
theorem hid_same {φ : Nat → List Addr} {i : Nat} {H : Hp} : Same (hid φ i H) H := fun b o e => by
  by_cases h : ∃ k, k ≠ i ∧ b ∈ φ k
  · rw [show hid φ i H b = none from if_pos h] at e; cases e
  · rw [hid_in h] at e; exact e
section
variable {K : PySem.W.Frag} {E : Ent} {S S' : Hp} {φ φ' : Nat → List Addr} {ρ ρ' : En} {σ σ' : L2.St} {H H' : Hp}
theorem StInv.hide (I : StInv K E S φ ρ σ H) (i : Nat) : StInv K ⟨S, hid φ i H⟩ S (fun k => if k = i then [] else φ k) (ρ.put i none) σ H := by
  refine ⟨⟨hid_same, .refl _, I.gr.i, fun _ _ e => e⟩, by rw [put_eq, List.length_set]; exact I.len, fun k t e => ?_, fun k => ?_, fun k l a h1 h2 => ?_, fun k a ha => ?_⟩
  · rw [put_eq] at e
    by_cases hk : k = i
    · subst hk
      rw [List.getElem?_set] at e
      simp at e
    · rw [List.getElem?_set_ne (Ne.symm hk)] at e
      rw [if_neg hk]
      exact I.slot k t e
  · split
    · exact .nil
    · exact I.nd k
  · by_cases hk : k = i
    · rw [if_pos hk] at h1; cases h1
    · by_cases hl : l = i
      · rw [if_pos hl] at h2; cases h2
      · rw [if_neg hk] at h1
        rw [if_neg hl] at h2
        exact I.dj k l a h1 h2
  · by_cases hk : k = i
    · rw [if_pos hk] at ha; cases ha
    · rw [if_neg hk] at ha
      obtain ⟨h1, _, h3⟩ := I.fr k a ha
      exact ⟨h1, hid_out hk ha, h3⟩
theorem StInv.hidAt (I : StInv K E S φ ρ σ H) {i : Nat} {a : Addr} (ha : a ∈ φ i) : hid φ i H a = H a := hid_in fun ⟨k, hk, hb⟩ => hk (I.dj k i a hb ha)
theorem StInv.back (I : StInv K E S φ ρ σ H) {i : Nat} {t : T} (ht : ρ[i]? = some (some t)) (I' : StInv K ⟨S, hid φ i H⟩ S' φ' ρ' σ' H') (hσ : σ'[i]? = σ[i]?) :
    StInv K E S' (fun k => if k = i then φ i else φ' k) (ρ'.put i (some t)) σ' H' := by
  have g : Grow S (hid φ i H) S' H' := I'.gr
  have hE : Same E.H (hid φ i H) := fun b o e => by
    rw [hid_in fun ⟨k, _, hb⟩ => by rw [(I.fr k b hb).2.1] at e; cases e]
    exact I.gr.h _ _ e
  have keep : ∀ a ∈ φ i, H' a = H a := fun a ha => by
    obtain ⟨_, _, o, ho⟩ := I.fr i a ha
    rw [ho, g.h _ _ ((I.hidAt ha).trans ho)]
  refine ⟨⟨hE.trans g.h, I.gr.s.trans g.s, g.i, fun a ⟨o, e⟩ n => g.f a ⟨o, hE _ _ e⟩ (I.gr.f a ⟨o, e⟩ n)⟩, by rw [put_eq, List.length_set]; exact I'.len, fun k u e => ?_, fun k => ?_, fun k l a h1 h2 => ?_, fun k a ha => ?_⟩
  · rw [put_eq] at e
    by_cases hk : k = i
    · subst hk
      rw [List.getElem?_set] at e
      simp only [if_true] at e
      split at e
      · simp only [Option.some.injEq] at e
        subst e
        obtain ⟨v, h1, r⟩ := I.slot k _ ht
        refine ⟨v, hσ.trans h1, ?_⟩
        rw [if_pos rfl]
        exact RepT.frame g.s _ _ _ keep r
      · cases e
    · rw [List.getElem?_set_ne (Ne.symm hk)] at e
      rw [if_neg hk]
      exact I'.slot k u e
  · split
    · exact I.nd i
    · exact I'.nd k
  · have sep : ∀ {k : Nat} {a : Addr}, a ∈ φ i → a ∈ φ' k → False := fun {k a} ha hk => by
      obtain ⟨_, _, o, ho⟩ := I.fr i a ha
      have := (I'.fr k a hk).2.1
      rw [show (Ent.H ⟨S, hid φ i H⟩) a = H a from I.hidAt ha, ho] at this
      cases this
    by_cases hk : k = i
    · rw [if_pos hk] at h1
      by_cases hl : l = i
      · rw [hk, hl]
      · rw [if_neg hl] at h2
        exact (sep h1 h2).elim
    · rw [if_neg hk] at h1
      by_cases hl : l = i
      · rw [if_pos hl] at h2
        exact (sep h2 h1).elim
      · rw [if_neg hl] at h2
        exact I'.dj k l a h1 h2
  · by_cases hk : k = i
    · rw [if_pos hk] at ha
      obtain ⟨h1, h2, o, ho⟩ := I.fr i a ha
      exact ⟨g.f a ⟨o, (I.hidAt ha).trans ho⟩ h1, h2, o, (keep a ha).trans ho⟩
    · rw [if_neg hk] at ha
      obtain ⟨h1, h2, h3⟩ := I'.fr k a ha
      refine ⟨h1, ?_, h3⟩
      cases e : E.H a with
      | none => rfl
      | some o => rw [show (Ent.H ⟨S, hid φ i H⟩) a = some o from hE _ _ e] at h2; cases h2
/-- a loop over items that the entry knows -/
theorem for_sem {mg : Str → Option Value} {W : WX} {Rp : Rel} {g : TG} {eg : D → En → Option En} {tb : TS} {b : En → Out} {as bs : List Nat} {J : It} {ds : List D} {D : Ends} (hg : SemG Rp K g eg as) (hb : SemS K mg W tb b bs)
    (hit : ∀ S1 H1 i, Same S S1 → Same S1 H1 → Same E.H H1 → (∀ d, ds[i]? = some d → J.go i H1 ∧ ∀ x H2, J.yld i H1 x H2 → ∃ S2, Grow S1 H1 S2 H2 ∧ Rp S2 H2 d x) ∧ (ds.length ≤ i → J.stop i H1))
    (I : StInv K E S φ ρ σ H) (q : OutOK K mg W E S σ (as ++ bs) (forL eg b ds ρ) D) :
    ∃ W0 : Nat → Nat → L2.St → Hp → Prop, (∃ m, W0 0 m σ H) ∧ ∀ i m σ' H', W0 i m σ' H' →
      (J.stop i H' ∧ D.nx σ' H') ∨ (J.go i H' ∧ ∃ N : L2.St → Hp → Prop, (∀ σ3 H3, N σ3 H3 → ∃ m', m' < m ∧ W0 (i + 1) m' σ3 H3) ∧ ∀ x H2, J.yld i H' x H2 → g x σ' H2 fun σ2 H2 => tb { D with nx := N, ct := N, bk := D.nx } σ2 H2) := by
  refine ⟨fun i m σ' H' => m = ds.length - i ∧ i ≤ ds.length ∧ ∃ S' φ' ρ', Same S S' ∧ StInv K E S' φ' ρ' σ' H' ∧ OutOK K mg W E S' σ' (as ++ bs) (forL eg b (ds.drop i) ρ') D, ⟨ds.length, rfl, Nat.zero_le _, S, φ, ρ, .refl _, I, q⟩, ?_⟩
  rintro i m σ' H' ⟨rfl, hle, S', φ', ρ', hS, I', q'⟩
  obtain ⟨h1, h2⟩ := hit S' H' i hS I'.gr.i I'.gr.h
  by_cases hlt : i < ds.length
  · obtain ⟨hgo, hy⟩ := h1 ds[i] (by simp [hlt])
    rw [List.drop_eq_getElem_cons hlt] at q'
    refine .inr ⟨hgo, fun σ3 H3 => ∃ S3 φ3 ρ3, Same S S3 ∧ StInv K E S3 φ3 ρ3 σ3 H3 ∧ OutOK K mg W E S3 σ3 (as ++ bs) (forL eg b (ds.drop (i + 1)) ρ3) D, fun σ3 H3 ⟨S3, φ3, ρ3, z⟩ => ⟨ds.length - (i + 1), by omega, rfl, hlt, S3, φ3, ρ3, z⟩, fun x H2 y => ?_⟩
    obtain ⟨S2, g2, r2⟩ := hy x H2 y
    have q0 : OutOK K mg W E S' σ' (as ++ bs) (match eg ds[i] ρ' with
      | none => .bad
      | some ρ1 => match b ρ1 with
        | .nx ρ' => forL eg b (ds.drop (i + 1)) ρ'
        | .ct ρ' => forL eg b (ds.drop (i + 1)) ρ'
        | .bk ρ' => .nx ρ'
        | o => o) D := q'
    cases eg1 : eg ds[i] ρ' with
    | none => rw [eg1] at q0; exact False.elim q0
    | some ρ1 =>
      rw [eg1] at q0
      refine hg E S2 φ' ρ' σ' H2 _ x _ ρ1 (I'.grow g2) r2 eg1 fun φ1 σ1 _ k1 _ I1 => ?_
      refine hb E S2 φ1 ρ1 σ1 H2 _ I1 ?_
      have st : ∀ {S3 σ3}, Step S2 σ1 bs S3 σ3 → Step S' σ' (as ++ bs) S3 σ3 := fun s =>
        ⟨g2.s.trans s.s, fun i hi => (s.k i fun z => hi (List.mem_append_right _ z)).trans (k1 i fun z => hi (List.mem_append_left _ z))⟩
      have q0 : OutOK K mg W E S' σ' (as ++ bs) (match b ρ1 with
        | .nx ρ' => forL eg b (ds.drop (i + 1)) ρ'
        | .ct ρ' => forL eg b (ds.drop (i + 1)) ρ'
        | .bk ρ' => .nx ρ'
        | o => o) D := q0
      have hS2 : Same S S2 := hS.trans g2.s
      cases eb : b ρ1 with
      | bad => rw [eb] at q0; exact q0
      | nx ρ3 => rw [eb] at q0; exact fun S3 φ3 σ3 H3 s3 I3 => ⟨S3, φ3, ρ3, hS2.trans s3.s, I3, OutOK.later q0 (st s3) _ (fun _ z => z) fun _ z => z⟩
      | ct ρ3 => rw [eb] at q0; exact fun S3 φ3 σ3 H3 s3 I3 => ⟨S3, φ3, ρ3, hS2.trans s3.s, I3, OutOK.later q0 (st s3) _ (fun _ z => z) fun _ z => z⟩
      | bk ρ3 => rw [eb] at q0; exact fun S3 φ3 σ3 H3 s3 I3 => q0 S3 φ3 σ3 H3 (st s3) I3
      | rt t => rw [eb] at q0; exact q0
      | ex c ρ3 => rw [eb] at q0; exact fun S3 φ3 σ3 H3 s3 I3 => q0 S3 φ3 σ3 H3 (st s3) I3
  · have e : i = ds.length := by omega
    subst e
    rw [List.drop_length] at q'
    exact .inl ⟨h2 (Nat.le_refl _), q' S' φ' σ' H' ⟨.refl _, fun _ _ => rfl⟩ I'⟩
end
def backO (i : Nat) (c : T) (o : Out) : Out := match o with
  | .nx ρ => .nx (ρ.put i (some c))
  | _ => .bad
def T.olD : T → Option (List D)
  | .ol ds => some ds
  | _ => none
def sAppFor (i j : Nat) (eg : D → En → Option En) (b : En → Out) : En → Out := fun ρ => outO (ρ.get i) fun c => outO ((ρ.get j).bind T.olD) fun ds => outO (appT c (.ol ds)) fun c' => backO i c' (forL eg b ds ((ρ.clr [j]).put i none))
/-- two statements as one -/
structure DS2 (X : Cx) (W : WX) (s1 s2 : Stmt) (t1 t2 : TS) (se : En → Out) (as : List Nat) : Prop where
  p1 : PS X s1 t1
  p2 : PS X s2 t2
  sm : SemS X.K X.mg W (tSeq t1 t2) se as
section
variable {X : Cx} {W : WX} {s1 s2 : Stmt} {t1 t2 u : TS} {se b : En → Out} {as bs : List Nat} {rest : List Stmt}
theorem dss_two (h : DS2 X W s1 s2 t1 t2 se as) : DSs X W [s1, s2] (tSeq t1 t2) se as := ⟨pss_cons h.p1 (pss_one h.p2), h.sm⟩
theorem dss_cons2 (h : DS2 X W s1 s2 t1 t2 se as) (hr : DSs X W rest u b bs) : DSs X W (s1 :: s2 :: rest) (tSeq t1 (tSeq t2 u)) (sSeq se b) (as ++ bs) := by
  refine ⟨pss_cons h.p1 (pss_cons h.p2 hr.ps), ?_⟩
  have two : DS X W (.Pass ⟨0, 0, 0, 0⟩) (tSeq t1 t2) se as → DSs X W (.Pass ⟨0, 0, 0, 0⟩ :: rest) (tSeq (tSeq t1 t2) u) (sSeq se b) (as ++ bs) := fun d => dss_cons d hr
  intro E S φ ρ σ H D I q
  have key : SemS X.K X.mg W (tSeq (tSeq t1 t2) u) (sSeq se b) (as ++ bs) := by
    intro E S φ ρ σ H D I q
    refine h.sm E S φ ρ σ H _ I ?_
    have q : OutOK X.K X.mg W E S σ (as ++ bs) (seqO (se ρ) b) D := q
    cases e : se ρ with
    | bad => rw [e] at q; exact q
    | nx ρ' => rw [e] at q; exact fun S' φ' σ' H' s I' => hr.sm E S' φ' ρ' σ' H' D I' (OutOK.later (as := as) q s _ (fun _ z => List.mem_append_left _ z) fun _ z => List.mem_append_right _ z)
    | bk ρ' => rw [e] at q; exact fun S' φ' σ' H' s I => q S' φ' σ' H' (s.wide fun j hj => List.mem_append_left _ hj) I
    | ct ρ' => rw [e] at q; exact fun S' φ' σ' H' s I => q S' φ' σ' H' (s.wide fun j hj => List.mem_append_left _ hj) I
    | rt t => rw [e] at q; exact q
    | ex c ρ' => rw [e] at q; exact fun S' φ' σ' H' s I => q S' φ' σ' H' (s.wide fun j hj => List.mem_append_left _ hj) I
  exact key E S φ ρ σ H D I q
end
section
variable {X : Cx} {W : WX} {pos apos cpos np np2 np3 fpos : Pos} {x y : Str} {tg : Expr} {body : List Stmt} {g : TG} {eg : D → En → Option En} {tb : TS} {b : En → Out} {as bs : List Nat} {i j : Nat}
theorem sem_appFor {K : PySem.W.Frag} {mg : Str → Option Value} (hij : i ≠ j) (hi : i ∉ as ++ bs) (hg : SemG RD K g eg as) (hb : SemS K mg W tb b bs) :
    SemS K mg W (tSeq (tDrop (tBM K "list" rAppend (tVar i) (tCons (tVar j) tNil))) (tFor (iSeq K (tVar j)) g tb)) (sAppFor i j eg b) (j :: as ++ bs) := by
  intro E S φ ρ σ H D I q
  obtain ⟨c, ec, q⟩ := OutOK.outO (show OutOK K mg W E S σ (j :: as ++ bs) (outO (ρ.get i) _) D from q)
  obtain ⟨ds, e2, q⟩ := OutOK.outO q
  obtain ⟨c', ea, q⟩ := OutOK.outO q
  obtain ⟨u, eu, e3⟩ := obind e2
  obtain ⟨v, hv, qc⟩ := I.slot i c (En.get_some ec)
  obtain ⟨w, hw, qu⟩ := I.slot j u (En.get_some eu)
  cases u with
  | ol es =>
    cases e3
    have qu0 := qu
    simp only [RepT] at qu
    obtain ⟨a, vs, rfl, ha1, ha2, ra⟩ := qu
    obtain ⟨l, us, g0, e4, e5, hl, hlt, q'⟩ := app_rep ea qc qu0 (fun b hb hb2 => hij (I.dj i j b hb hb2)) (I.nd i) (I.nd j)
    subst e4
    have hla : l ≠ a := fun z => hij (I.dj i j a (by rw [e5, ← z]; simp) (by rw [ha1]; simp))
    refine ⟨_, hv, .inl ⟨rfl, us, .of hl⟩, _, hw, l, us, _, rfl, rfl, hl, hlt, ?_⟩
    have I2 := I.write (mv := [j]) (l := l) i (by rw [e5]; simp) (En.get_some ec) hv q' (List.nodup_append.mpr ⟨I.nd i, I.nd j, fun x hx y hy e => hij (I.dj i j y (e ▸ hx) hy)⟩)
      (fun x hx => by
        rcases List.mem_append.mp hx with z | z
        · exact .inl z
        · obtain ⟨z1, z2, z3⟩ := I.fr j x z
          exact .inr ⟨z1, z2, z3, fun k hk => by rw [I.dj k j x hk z]; simp⟩) (by simpa using hij)
    have haH : upd H l (.lst (us ++ [.ref a])) a = some (.lst vs) := by rw [upd_ne (Ne.symm hla)]; exact ha2
    generalize hφ2 : (fun k => if k = i then φ i ++ φ j else if k ∈ [j] then [] else φ k) = φ2 at I2
    have aφ : a ∈ φ2 i := by rw [← hφ2]; show a ∈ (if i = i then φ i ++ φ j else _); rw [if_pos rfl, ha1]; simp
    generalize hρ2 : (ρ.clr [j]).put i (some c') = ρ2 at I2
    generalize hH2 : upd H l (.lst (us ++ [.ref a])) = H2 at I2 haH
    have ri : ρ2[i]? = some (some c') := by
      rw [← hρ2, put_eq]
      have hlen : i < (ρ.clr [j]).length := by rw [clr_len]; exact (List.getElem?_eq_some_iff.mp (En.get_some ec)).1
      rw [List.getElem?_set_self hlen]
    have I3 := I2.hide i
    -- the loop
    refine ⟨_, hw, .inl ⟨a, rfl, .inl ⟨⟨vs, .of haH⟩, ?_⟩⟩⟩
    have ρe : ρ2.put i none = (ρ.clr [j]).put i none := by rw [← hρ2, put_eq, put_eq, put_eq, List.set_set]
    rw [ρe] at I3
    have q3 : OutOK K mg W ⟨S, hid φ2 i H2⟩ S σ (as ++ bs) (forL eg b ds ((ρ.clr [j]).put i none)) D := by
      have q : OutOK K mg W E S σ (j :: as ++ bs) (backO i c' (forL eg b ds ((ρ.clr [j]).put i none))) D := q
      cases ef : forL eg b ds ((ρ.clr [j]).put i none) with
      | nx ρ' =>
        rw [ef] at q
        intro S' φ' σ' H' s I'
        exact q S' _ σ' H' ⟨s.s, fun k hk => s.k k fun z => hk (by simp only [List.cons_append, List.mem_cons]; exact .inr z)⟩ (I2.back ri I' (s.k i hi))
      | bad => rw [ef] at q; exact q
      | bk _ => rw [ef] at q; exact False.elim q
      | ct _ => rw [ef] at q; exact False.elim q
      | rt _ => rw [ef] at q; exact False.elim q
      | ex _ _ => rw [ef] at q; exact False.elim q
    exact for_sem (J := Itl K a) hg hb (fun S1 H1 k hs hi' hE => by
      have sq : SqL K H1 a vs := .of (hE _ _ ((I2.hidAt aφ).trans haH))
      refine ⟨fun d hd => ?_, fun hlen => ⟨vs, sq, by rw [ra.length]; exact hlen⟩⟩
      obtain ⟨x, hx, qx⟩ := ra.get hd
      refine ⟨⟨vs, x, sq, hx⟩, fun z H3 yz => ?_⟩
      obtain ⟨rfl, yz⟩ := yz
      have := yz vs sq
      rw [hx] at this; cases this
      exact ⟨S1, .refl hi', RepD.mono hs _ _ qx⟩) I3 q3
  | _ => cases e3
theorem ds_appFor (i j : Nat) (hp : PassesOwn (model X.prog X.w) X.A X.env X.xe) (hc : X.calm = true) (hg : DG RD X tg g eg as) (hb : DSs X W body tb b bs) (hij : i ≠ j := by decide) (hi : i ∉ as ++ bs := by decide) (hN : X.N[i]? = some x := by rfl) (hv : Vis X.env.scope x := by first | exact Or.inl rfl | exact Or.inr (Or.inl rfl) | exact Or.inr (Or.inr rfl)) (hd : (x == ("__debug__" : Str)) = false := by decide)
    (hcd : (x == ("__classdict__" : Str)) = false := by decide) (hN2 : X.N[j]? = some y := by rfl) (hv2 : Vis X.env.scope y := by first | exact Or.inl rfl | exact Or.inr (Or.inl rfl) | exact Or.inr (Or.inr rfl)) (hd2 : (y == ("__debug__" : Str)) = false := by decide)
    (hcd2 : (y == ("__classdict__" : Str)) = false := by decide)
    (hbase : attributeBase (.Name x np) "append" X.env (eval (.Name x np) X.env) = eval (.Name x np) X.env := by rfl)
    (hfew : ((backTo cpos (starEach [.Name y np2] X.env)).all (fun x => !x.1) && (backToKw cpos (keywordEach [] X.env)).all (fun x => x.1.isSome)
      && decide (([.Name y np2] : List Expr).length + ([] : List Keyword).length + (if ([] : List Keyword).isEmpty then 0 else 1) < 30)) = true := by rfl)
    (hline : (apos.endLine == cpos.line) = true := by rfl) (hs : starEach [.Name y np2] X.env = (false, eval (.Name y np2) X.env) :: starEach [] X.env := by rfl) (hplain : (backTo cpos (starEach ([] : List Expr) X.env)).any (·.1) = false := by rfl)
    (hsw : swapsWith (.Call (.Attribute (.Name x np) "append" apos) [.Name y np2] [] cpos) none pos.line X.env = pure false := by rfl) (hsf : ∀ z, foldedSetIterable (.Name y np3) X.env z = pure z := by intro _; rfl) :
    DS2 X W (.Expr (.Call (.Attribute (.Name x np) "append" apos) [.Name y np2] [] cpos) pos) (.For tg (.Name y np3) body [] fpos) (tDrop (tBM X.K "list" rAppend (tVar i) (tCons (tVar j) tNil))) (tFor (iSeq X.K (tVar j)) g tb) (sAppFor i j eg b) (j :: as ++ bs) :=
  ⟨ps_expr (pe_bm PySem.F.plainAttrs_list PySem.F.slot_list_append PySem.F.type_list_append mt_append (pe_var hN hv hd hcd) (pa_cons (pe_var hN2 hv2 hd2 hcd2) pa_nil hs) hbase hfew hline hs hplain) hsw,
    ps_for hp hc (pi_seq (pe_var hN2 hv2 hd2 hcd2)) hg.pg hb.ps hsf, sem_appFor hij hi hg.sm hb.sm⟩
end
end PL
set_option Elab.async false
set_option linter.all false
set_option maxRecDepth 100000
set_option maxHeartbeats 4000000
/-! PL41: sorted of a tuple of ints. -/
namespace PL
open PySem PySem.Spec PyProof.Rows L2
section
variable {prog : Program} {w : World} {A : Around} {E : Value → Shared → Prop} {s : Shared}
theorem collect_tup {l : Addr} {vs : List Value} {o : Obj} {n : Nat} {Q : List Value → Shared → Prop} (ho : s.heap.get? l = some o) (hc : o.cls = .type "tuple") (hd : o.data = .seq vs.toArray n)
    (h : Q vs { s with heap := (s.heap.push (seqObj "list" #[] 0)).update s.heap.objs.size (Obj.mapSeq (· ++ vs.toArray)) }) (hz : vs.length ≤ sizeLine) : wpAny (model prog w) A (collect (.ref l)) Q E s := by
  unfold collect
  refine wpAny_bind (wpAny_runValue (codeAny_builtin entry_proto_collect' ?_))
  show wpAny _ _ (do again (.builtin "list.__iadd__" ⟨[← newList [], .ref l], []⟩)) _ _ s
  refine wpAny_bind (wpAny_newList (wpAny_pure ⟨Code.quiet_builtin _ (by decide +kernel), codeAny_builtin entry_list_iadd' ?_⟩))
  show wpAny _ _ (Builtin.List.listExtendWith (.ref s.heap.objs.size) (.ref l) (.ref s.heap.objs.size)) _ _ { s with heap := s.heap.push (seqObj "list" #[] 0) }
  unfold Builtin.List.listExtendWith
  have hp : (s.heap.push (seqObj "list" #[] 0)).get? l = some o := Heap.get?_push_of_some _ ho
  refine wpAny_bind (wpAny_typeOf (T := "tuple") ⟨o, hp, hc⟩ ?_)
  rw [if_pos (by simp)]
  refine wpAny_bind (listItems_at hp hd ?_)
  refine wpAny_bind (listItems_at (xs := #[]) (n := 0) (Heap.get?_push_size _ rfl) rfl ?_)
  rw [if_neg (by simp)]
  refine wpAny_bind (listUpdate_at (xs := #[]) (n := 0) (Heap.get?_push_size _ rfl) rfl ?_ (Nat.zero_le _) (by show (#[] ++ vs.toArray).size ≤ sizeLine + 1; simp only [Array.size_append, List.size_toArray]; simp; omega))
  refine wpAny_pure ?_
  show wpAny (model prog w) A (do
      let o ← load s.heap.objs.size
      match o.data with
      | .seq xs _ => pure xs.toList
      | _ => unsupported "internal:collect") Q E { s with heap := (s.heap.push (seqObj "list" #[] 0)).update s.heap.objs.size (Obj.mapSeq (· ++ vs.toArray)) }
  refine wpAny_bind (wpAny_load (get?_update_seq (Heap.get?_push_size _ rfl) _) ?_)
  show wpAny _ _ (pure ((#[] : Array Value) ++ vs.toArray).toList) Q E _
  rw [show ((#[] : Array Value) ++ vs.toArray).toList = vs by simp]
  exact wpAny_pure h
theorem sorted_seqT {it : Addr} {o : Obj} {vs : List Value} {n : Nat} {ltv : Value → Value → Bool} {Q : Value → Shared → Prop} (O : SrtO.Swo ltv) (ho : s.heap.get? it = some o) (hc : o.cls = .type "tuple") (hd : o.data = .seq vs.toArray n) (hz : vs.length ≤ sizeLine)
    (hS : 2 ≤ vs.length → ∀ (h₁ : Heap) (a : Addr), h₁.get? a = some (seqObj "list" vs.toArray 0) → SrtO.SortableO prog w A.in1.in1 { s with heap := h₁ } a vs ltv)
    (h : ∀ out : List Value, SrtO.Srtd ltv out → SrtO.Stb ltv out vs → Q (.ref (s.heap.objs.size + 1)) { s with heap := sortedAll s.heap vs out.toArray }) :
    wpAny (model prog w) A (call (.builtin "sorted") [.ref it]) Q E s := by
  refine Calls.call_function_entry kind_sorted plain_sorted entry_sorted (args_sorted1 _) ?_
  unfold Builtin.«sorted»
  refine wpAny_bind (m := checkCount "sorted" 1 1 _) (wpAny_pure ?_)
  refine wpAny_bind (collect_tup ho hc hd ?_ hz)
  refine wpAny_bind (wpAny_newList ?_ hz)
  have hsz : ((s.heap.push (seqObj "list" #[] 0)).update s.heap.objs.size (Obj.mapSeq (· ++ vs.toArray))).objs.size = s.heap.objs.size + 1 := by
    rw [Heap.size_update, size_push']
  have hoL : (((s.heap.push (seqObj "list" #[] 0)).update s.heap.objs.size (Obj.mapSeq (· ++ vs.toArray))).push (seqObj "list" vs.toArray 0)).get? (s.heap.objs.size + 1) = some (seqObj "list" vs.toArray 0) := by
    rw [← hsz]; exact Heap.get?_push_size _ rfl
  show wpAny _ _ _ _ _ { s with heap := ((s.heap.push (seqObj "list" #[] 0)).update s.heap.objs.size (Obj.mapSeq (· ++ vs.toArray))).push (seqObj "list" vs.toArray 0) }
  rw [hsz]
  refine wpAny_bind (wpAny_holding (wpAny_call_entry slot_list_sort ⟨_, hoL, rfl⟩ entry_list_sort (SrtO.list_sort_ord O hoL hz (fun h2 => hS h2 _ _ hoL) fun out hs hb => ⟨_, rfl, ?_⟩) (args_list_sort _)))
  exact wpAny_pure ⟨_, rfl, h out hs hb⟩
end
def rSortedIT (K : PySem.W.Frag) : List V → Hp → VK → Prop := fun vs H Q => ∃ (a : Addr) (ns : List Int), vs = [V.ref a] ∧ SqT K H a (ns.map V.int) ∧
  ∀ (ns' : List Int) (p : Addr), ns'.Perm ns → ns'.Pairwise (· ≤ ·) → H p = none → Q (.ref p) (upd H p (.lst (ns'.map V.int)))
theorem cr_sortedIT {X : Cx} : CallR X (.builtin "sorted") (rSortedIT X.K) := by
  intro pins s σ H vs us Q I r h
  obtain ⟨a, ns, rfl, hs, q⟩ := h
  obtain ⟨its, rv, hl, hz⟩ := I.tuple hs
  rw [Vals.ref1 r]
  have hi := rv.ints
  obtain ⟨o, ho, hc, n, hd⟩ := hl
  refine sorted_seqT SrtO.swo_int ho hc hd (by rw [← rv.length]; exact hz) (fun h2 h₁ a' _ => SrtO.ints_sortable hi h2) fun out h1 h2 => ?_
  obtain ⟨k1, k2, k3⟩ := SrtO.ints_out hi h1 h2
  obtain ⟨ep, he'⟩ := PyProof.Rows.sortedAll_at s.heap its out.toArray
  have hlen : ((out.map SrtO.iv).map V.int).length ≤ sizeLine := by
    rw [List.length_map, k2.length_eq]
    rw [List.length_map] at hz
    exact hz
  exact ⟨.ref _, upd H (s.heap.objs.size + 1) (.lst ((out.map SrtO.iv).map V.int)), I.laid (t' := s.toks) (fun _ _ => PyProof.Rows.sortedAll_old) (Nat.le_succ _) ⟨hlen, out, ep, vals_of_ints k1, he'⟩, rfl, q _ _ k2 k3 (I.hok.fresh (Nat.le_succ _))⟩
def T.intsT (t : T) : Option (List Int) := t.tups.bind intsD
def fSortT : List T → Option T := f1 fun t => t.intsT.map fun ns => .ol ((sortI ns).map PyData.int)
theorem sem_sortT {K : PySem.W.Frag} : SemC K (rSortedIT K) fSortT := by
  intro S H ts vs Q t i q e R
  obtain ⟨x, hx, e0⟩ := f1_some e
  clear e
  subst hx
  obtain ⟨v, fp, hv, q0⟩ := views1 q
  clear q
  subst hv
  obtain ⟨ns, e1, rfl⟩ := omap e0
  obtain ⟨ds, e2, e3⟩ := obind e1
  obtain ⟨a, us, rfl, ht, r⟩ := tups_rep q0 e2
  have hr := intsD_rep e3 r
  subst hr
  refine ⟨a, ns, rfl, (ht.same (i _)).sq, fun ns' p hp hs hn => ?_⟩
  have e4 := sortI_eq hp hs
  subst e4
  exact R.lst i (rep_ints _) hn
def fSrtA (ts : List T) : Option T := (fSrt ts).or (fSortT ts)
abbrev rSrtA (K : PySem.W.Frag) : List V → Hp → VK → Prop := fun xs H Q => (rSortedI K xs H Q ∨ rSortQ K xs H Q) ∨ rSortedIT K xs H Q
theorem cr_srtA {X : Cx} {K : PySem.W.Frag} (hK : X.K = K := by rfl) : CallR X (.builtin "sorted") (rSrtA K) := by
  subst hK
  exact (cr_srtK (K := X.K)).or cr_sortedIT
theorem sem_srtA {K : PySem.W.Frag} : SemC K (rSrtA K) fSrtA := sem_srt.or sem_sortT
theorem x_srtT {ns : List Int} : fSrtA [.sh (.tuple (ns.map PyData.int))] = some (.ol ((sortI ns).map PyData.int)) := by
  have e1 : fSrt [.sh (.tuple (ns.map PyData.int))] = none := rfl
  simp only [fSrtA, e1, Option.or, fSortT, f1, T.intsT, T.tups, Option.bind_some, intsD_map, Option.map_some]
theorem x_srtA {t u : T} (h : fSrt [t] = some u) : fSrtA [t] = some u := by
  simp only [fSrtA, h, Option.or]
end PL
set_option Elab.async false
set_option linter.all false
set_option maxRecDepth 100000
set_option maxHeartbeats 4000000
/-! PL43: enumerate of a tuple. -/
namespace PL
open PySem PySem.Spec PyProof.Rows L2
set_option maxHeartbeats 1000000 in
theorem meets_enumT (l : Addr) (items : Array Value) (n : Nat) (dct : Option Addr) (sl : Array (Option Value)) :
    Meets (Builtin.«enumerate.__new__» ⟨[.type "enumerate", .ref l], []⟩) (fun _ R s => s.heap.get? l = some { cls := .type "tuple", dict := dct, data := .seq items n, slots := sl } ∧
      R (.ok (.ret (.ref (s.heap.push { cls := .type "tuple_iterator", data := .fields #[.ref l, .int 0 0] }).objs.size)))
        { s with heap := (s.heap.push { cls := .type "tuple_iterator", data := .fields #[.ref l, .int 0 0] }).push { cls := .type "enumerate", data := .fields #[.none, .bool false, .ref s.heap.objs.size, rawInt 0, .none, .none] } }) :=
  .of_wp fun prog w A R s h => by
    obtain ⟨hp, g, d, tk, os⟩ := s
    obtain ⟨hl, h⟩ := h
    have hsub := sub_enumerate
    have hT : Heap.IsTuple (Shared.heap ⟨hp, g, d, tk, os⟩) l items := ⟨_, hl, rfl, n, rfl⟩
    wp_walk using wpAny_loadPart' hl
    refine wpAny_stack_any fun st => wpAny_pure ?_
    split
    · rename_i c _ _ _ _ _
      cases (c == Value.type "enumerate")
      · wp_walk using wpAny_loadPart' hl, wpAny_pyIter_tuple hT
        exact ⟨_, rfl, h⟩
      · wp_walk using wpAny_loadPart' hl, wpAny_pyIter_tuple hT
        exact ⟨_, rfl, h⟩
    · wp_walk using wpAny_loadPart' hl, wpAny_pyIter_tuple hT
      exact ⟨_, rfl, h⟩
section
variable {prog : Program} {w : World} {A : Around} {E : Value → Shared → Prop} {s : Shared}
theorem call_enumT {l : Addr} {items : Array Value} {Q : Value → Shared → Prop} (hL : s.heap.IsTuple l items)
    (h : ∀ h', IsEnum h' (s.heap.objs.size + 1) s.heap.objs.size 0 .none → h'.IsTupleIter s.heap.objs.size l 0 → h'.objs.size = s.heap.objs.size + 2 →
      (∀ b o, s.heap.get? b = some o → h'.get? b = some o) → Q (.ref (s.heap.objs.size + 1)) { s with heap := h' }) :
    wpAny (model prog w) A (call (.type "enumerate") [.ref l]) Q E s := by
  obtain ⟨⟨c, dct, dt, sl⟩, hl, hc, n, hd⟩ := hL
  replace hc : c = .type "tuple" := hc
  replace hd : dt = .seq items n := hd
  subst hc hd
  refine callType_new F.called_enumerate (by decide) (F.typeCall_enumerate_1 _) (F.newCall_enumerate_1 _) (fun obj => F.args_object_init_2 obj _) F.entry_enumerate_new
    (meets_enumT l items n dct sl) ⟨hl, ?_⟩
  have hz : (s.heap.push { cls := .type "tuple_iterator", data := .fields #[.ref l, .int 0 0] }).objs.size = s.heap.objs.size + 1 := Heap.size_push ..
  show _ ∧ _
  rw [hz]
  have he : IsEnum ((s.heap.push { cls := .type "tuple_iterator", data := .fields #[.ref l, .int 0 0] }).push
      { cls := .type "enumerate", data := .fields #[.none, .bool false, .ref s.heap.objs.size, rawInt 0, .none, .none] }) (s.heap.objs.size + 1) s.heap.objs.size 0 .none := by
    have := Heap.get?_push_size (s.heap.push { cls := .type "tuple_iterator", data := .fields #[.ref l, .int 0 0] })
      (o := { cls := .type "enumerate", data := .fields #[.none, .bool false, .ref s.heap.objs.size, rawInt 0, .none, .none] }) rfl
    rw [hz] at this; exact this
  refine ⟨⟨_, he, rfl⟩, h _ he ⟨_, Heap.get?_push_of_some _ (Heap.get?_push_size _ rfl), rfl, rfl⟩ (by rw [Heap.size_push, hz]) fun b o x => Heap.get?_push_of_some _ (Heap.get?_push_of_some _ x)⟩
theorem draws_tuple (hh : A.handled = none) (it t : Addr) (hne : t ≠ it) (items : Array Value) :
    Draws prog w A it [it, t] items.size (fun i v => items[i]? = some v) (fun i h => h.IsTupleIter it t i ∧ h.IsTuple t items) where
  live := fun i h st => let ⟨⟨o, ho, _⟩, _⟩ := st; ⟨o, ho⟩
  frame := fun i h h' st k => ⟨st.1.at fun o e => k it (by simp) o e, by
    obtain ⟨o, e, r⟩ := st.2
    exact ⟨o, k t (by simp) o e, r⟩⟩
  item := fun i s Q E hi st hQ => by
    refine RZ.nextOf_tuple_item st.1 st.2 (x := items[i]) (by simp [hi]) fun h' hit' sb => hQ _ h' s.toks (by simp [hi]) ⟨hit', ?_⟩ sb
    obtain ⟨o, e, r⟩ := st.2
    exact ⟨o, (sb.2 t hne).trans e, r⟩
  done := fun s Q E st hE => RZ.nextOf_tuple_end hh st.1 st.2 (by simp) hE
end
/-- the tuple at a as it stands at each turn, each item in a new pair -/
def Itet (K : PySem.W.Frag) (a : Addr) : It :=
  ⟨fun i H => ∃ (xs : List V) (x : V), SqT K H a xs ∧ xs[i]? = some x, fun i H v H' => ∃ T x, v = .ref T ∧ H T = none ∧ H' = upd H T (.tup [.int (i : Nat), x]) ∧ ∀ xs, SqT K H a xs → xs[i]? = some x, fun i H => ∃ xs : List V, SqT K H a xs ∧ xs.length ≤ i⟩
theorem turn_enumT {P : Program} {w : World} {K : PySem.W.Frag} {elts : List Expr} {kk : Nat} {tpos : Pos} (a e it : Addr) (hai : a ≠ it) (hae : e ≠ a) :
    Turn P w K (.Tuple elts kk tpos) (Itet K a) [e, it] e (fun i h => (∃ old, IsEnum h e it ((i : Nat) : Int) old) ∧ h.IsTupleIter it a i ∧ e ≠ it) where
  mem := by simp
  obj := fun i h st b hb => by
    obtain ⟨⟨old, he⟩, ⟨o, ho, hc, hd⟩, _⟩ := st
    have e' : b = e ∨ b = it := by simpa using hb
    rcases e' with z | z
    · rw [z]; exact ⟨_, he, fun v q => nomatch q⟩
    · rw [z]; exact ⟨o, ho, fun v q => by rw [hd] at q; cases q⟩
  keep := fun i h h' st k => let ⟨⟨old, he⟩, hi, hne⟩ := st; ⟨⟨old, k e (by simp) _ he⟩, hi.at fun o q => k it (by simp) o q, hne⟩
  item := by
    intro X hP hw hK hc i pins s σ H E I hf st hg
    subst hP hw hK
    obtain ⟨⟨old, he⟩, hit, hne⟩ := st
    obtain ⟨xs, x, hq, hx⟩ := hg
    obtain ⟨its, rv, p, hz⟩ := I.tuple hq
    obtain ⟨u, hu, ru⟩ := rv.get hx
    have hel : e < s.heap.objs.size := Heap.lt_size he
    have hil : it < s.heap.objs.size := by obtain ⟨_, q, _⟩ := hit; exact Heap.lt_size q
    have hlt : i < its.toArray.size := by
      rw [List.size_toArray]
      exact (List.getElem?_eq_some_iff.mp hu).1
    refine wpAny_pyNext_enum_itemD (draws_tuple (prog := X.prog) (w := X.w) (A := X.A.in1) (show X.A.in1.handled = none from I.ok.hd hc) it a hai its.toArray) he ⟨hit, p⟩ hlt hne (by simp [hne, hae]) fun y h' tk hy ho hit' hT hsz hk => ?_
    have ey : y = u := by
      have hy : its.toArray[i]? = some y := hy
      have hu' : its.toArray[i]? = some u := by simpa using hu
      rw [hu'] at hy
      exact (Option.some.inj hy).symm
    subst ey
    refine ⟨_, rfl, wpAny_letOwnedTupleGo_enum (s := { s with heap := h', toks := tk + 1 }) ho fun h'' he' sb => ?_⟩
    have hT2 : h''.get? s.heap.objs.size = some { cls := .type "tuple", data := .seq #[.int i tk, y] } := (sb.2 _ (Nat.ne_of_gt hel)).trans hT
    have new : ObjOk X.prog X.w (upd H s.heap.objs.size (.tup [.int (i : Nat), x])) h'' s.heap.objs.size (.tup [.int (i : Nat), x]) :=
      ⟨by show 2 ≤ sizeLine; decide, [.int i tk, y], .cons ⟨_, rfl⟩ (.cons ru .nil), ⟨_, hT2, rfl, _, rfl⟩⟩
    have I1 : Inv X pins σ (upd H s.heap.objs.size (.tup [.int (i : Nat), x])) { s with heap := h'', toks := tk + 1 } :=
      I.turnedNew (ch := [e, it]) (fun b ob hb q => (sb.2 b (fun z => hb (by simp [z]))).trans (hk b ob (fun z => hb (by simp [z])) (fun z => hb (by simp [z])) q)) hf (Nat.le_refl _) new
    refine ⟨.ref s.heap.objs.size, _, I1, rfl, ⟨_, x, rfl, I.hok.fresh (Nat.le_refl _), rfl, fun ys hy => by rw [I.tuple_inj hy hq]; exact hx⟩, ⟨⟨y, ?_⟩, hit'.1.at fun o q => (sb.2 it (Ne.symm hne)).trans q, hne⟩, fun b hb => ?_⟩
    · have e1 : ((i + 1 : Nat) : Int) = (i : Int) + 1 := by omega
      rw [e1]; exact he'
    · have hb' : b < s.heap.objs.size := by
        have e' : b = e ∨ b = it := by simpa using hb
        rcases e' with z | z
        · rw [z]; exact hel
        · rw [z]; exact hil
      rw [upd_ne (Nat.ne_of_lt hb')]
      exact (hf b hb).1
  done := by
    intro X hP hw hK hc i pins s σ H E I hf st hg
    subst hP hw hK
    obtain ⟨⟨old, he⟩, hit, hne⟩ := st
    obtain ⟨xs, hq, hx⟩ := hg
    obtain ⟨its, rv, p, hz⟩ := I.tuple hq
    obtain ⟨f0, f1, f2, f3, f4, f5⟩ := hf it (by simp)
    have hl := rv.length
    have hT : s.TypeIs (.ref e) "enumerate" := ⟨_, he, rfl⟩
    unfold pyNext
    refine wpAny_bind (wpAny_attempt (wpAny_callSpecial?_slot (name := Str.ofString "__next__") hT F.slot_enumerate_next
      (wpAny_call_entry F.slot_enumerate_next hT F.entry_enumerate_next ?_ (F.args_enumerate_next_1 _))))
    show wpAny _ _ (field (.ref e) 2 >>= _) _ _ _
    refine wpAny_bind (wpAny_field he rfl (x := .ref it) rfl ?_)
    refine wpAny_bind (RZ.nextOf_tuple_end (I.ok.hd hc) hit (show s.heap.IsTuple a its.toArray from p) (by simp; omega) fun h' x he' hx' => ?_)
    obtain ⟨o, ho, hcl⟩ := hx'
    refine wpAny_bind (wpAny_isInstance (T := "StopIteration") (b := true) ⟨o, ho, hcl⟩ isSubtype_stop ?_)
    exact wpAny_pure ⟨rfl, I.turned (t' := s.toks) (fun b o hb q => he' b o hb q) f0 f1 f3 f4 f5⟩
  self := fun A i s Q E st h => let ⟨⟨_, he⟩, _⟩ := st; wpAny_pyIter_enum he h
def iEnumA (K : PySem.W.Frag) (ta : TA) : TI := fun σ H R => ta σ H fun vs H1 => ∃ a xs, vs = [.ref a] ∧ ((SqL K H1 a xs ∧ R (Ite K a) H1) ∨ (SqT K H1 a xs ∧ R (Itet K a) H1))
theorem pi_enumA {X : Cx} {e : Expr} {ta : TA} {p pos tpos : Pos} {elts : List Expr} {kk : Nat} (hg : Gl X "enumerate") (hm : X.mg "enumerate" = none) (ha : PA X [e] ta) (hs : starEach [e] X.env = [(false, eval e X.env)] := by rfl) :
    PI X (.Tuple elts kk tpos) (.Call (.Name "enumerate" p) [e] [] pos) (iEnumA X.K ta) := by
  refine ⟨fun pins s σ H R I h => ?_⟩
  refine Call_ (ld_blt I hg hm boot_enumerate (PyProof.Rows.callWith_type1 (thn (ha.run pos pins s σ H _ I h) fun us s1 ⟨vs, H1, I1, r1, q1⟩ => ?_) hs rfl))
  obtain ⟨a, xs, ex, q1⟩ := q1
  subst ex
  cases r1 with
  | cons r rr =>
    cases rr
    cases r
    have ends : ∀ b ∈ [s1.heap.objs.size + 1, s1.heap.objs.size], FpOk X pins H1 b := fun b hb => by
      have e' : b = s1.heap.objs.size + 1 ∨ b = s1.heap.objs.size := by simpa using hb
      have hle : s1.heap.objs.size ≤ b := by
        rcases e' with z | z
        · rw [z]; exact Nat.le_add_right _ _
        · rw [z]; exact Nat.le_refl _
      exact I1.fpOk hle (I1.hok.fresh hle)
    rcases q1 with ⟨hq, q⟩ | ⟨hq, q⟩
    · obtain ⟨its, rv, p', hz⟩ := I1.list hq
      refine call_enumerate_list p'.isList fun h' he hit hsz hk => wpAny_pyIter_enum he ?_
      have I2 : Inv X pins σ H1 { s1 with heap := h' } := I1.kept (t' := s1.toks) hk
      exact ⟨s1.heap.objs.size + 1, [s1.heap.objs.size + 1, s1.heap.objs.size], _, _, H1, rfl, I2, turn_enum a (s1.heap.objs.size + 1) s1.heap.objs.size, ⟨⟨.none, he⟩, hit, Nat.succ_ne_self _⟩, ends, q⟩
    · obtain ⟨its, rv, p', hz⟩ := I1.tuple hq
      have hlt : a < s1.heap.objs.size := by obtain ⟨o, ho, _⟩ := p'; exact Heap.lt_size ho
      refine call_enumT (show s1.heap.IsTuple a its.toArray from p') fun h' he hit hsz hk => wpAny_pyIter_enum he ?_
      have I2 : Inv X pins σ H1 { s1 with heap := h' } := I1.kept (t' := s1.toks) hk
      exact ⟨s1.heap.objs.size + 1, [s1.heap.objs.size + 1, s1.heap.objs.size], _, _, H1, rfl, I2, turn_enumT a (s1.heap.objs.size + 1) s1.heap.objs.size (Nat.ne_of_lt hlt) (Nat.ne_of_gt (Nat.lt_succ_of_lt hlt)), ⟨⟨.none, he⟩, hit, Nat.succ_ne_self _⟩, ends, q⟩
def eiEnumA (er : En → Rs (List T)) : En → Rs (List D) := fun ρ => (er ρ).bind fun ts => match ts with
  | [t] => (rsO (t.itL.or t.itT)).bind fun ds => .ok (enumD ds)
  | _ => .bad
section
variable {X : Cx} {W : WX} {e e2 : Expr} {elts : List Expr} {kk : Nat} {p pos tpos : Pos} {ta : TA} {er : En → Rs (List T)}
theorem di_enumA {K : PySem.W.Frag} (hg : Gl X "enumerate") (hm : X.mg "enumerate" = none) (ha : DAs X W [e] ta er) (hK : X.K = K := by rfl) (hs : starEach [e] X.env = [(false, eval e X.env)] := by rfl) :
    DI (RP K) X W (.Tuple elts kk tpos) (.Call (.Name "enumerate" p) [e] [] pos) (iEnumA K ta) (eiEnumA er) := by
  subst hK
  refine ⟨pi_enumA hg hm ha.pe hs, fun E S φ ρ σ H R I q => ?_⟩
  refine ha.sm E S φ ρ σ H _ I (q.bind.imp (fun ts ht vs S' H' g r => ?_) fun _ z => z)
  match ts, ht, r with
  | [], ht, _ => exact False.elim ht
  | _ :: _ :: _, ht, _ => exact False.elim ht
  | [t], ht, r =>
    obtain ⟨v, fp, ev, r1⟩ := views1 r
    obtain ⟨ds, e, ht⟩ := (RsOK.bind ht).rsO
    subst ev
    cases eL : t.itL with
    | some ds' =>
      rw [eL] at e
      obtain rfl : ds' = ds := Option.some.inj e
      obtain ⟨a, us, rfl, hs, rr⟩ := itL_rep r1 eL
      have sq : SqL X.K H' a us := g.i.seq hs
      refine ⟨a, us, rfl, .inl ⟨sq, ht S' H' _ g fun S1 H1 i hs1 hi => ?_⟩⟩
      have sq1 : SqL X.K H1 a us := (hs1.trans hi).seq hs
      refine ⟨fun d hd => ?_, fun hl => ⟨us, sq1, by rw [rr.length]; rwa [enumD_len] at hl⟩⟩
      obtain ⟨c, hc, rfl⟩ := enumD_at hd
      obtain ⟨w, hw, q⟩ := rr.get hc
      refine ⟨⟨us, w, sq1, hw⟩, fun x H2 y => ?_⟩
      obtain ⟨T, x', rfl, hT, rfl, y⟩ := y
      have := y us sq1
      rw [hw] at this; cases this
      exact ⟨S1, .own hi hT, rp_pair upd_same (by simp only [RepD]) (RepD.mono hs1 _ _ q)⟩
    | none =>
      rw [eL] at e
      obtain ⟨a, us, rfl, hs, rr⟩ := itT_rep r1 (show t.itT = some ds from e)
      have sq : SqT X.K H' a us := (hs.same (g.i _)).sq
      refine ⟨a, us, rfl, .inr ⟨sq, ht S' H' _ g fun S1 H1 i hs1 hi => ?_⟩⟩
      have sq1 : SqT X.K H1 a us := (hs.same ((hs1.trans hi) _)).sq
      refine ⟨fun d hd => ?_, fun hl => ⟨us, sq1, by rw [rr.length]; rwa [enumD_len] at hl⟩⟩
      obtain ⟨c, hc, rfl⟩ := enumD_at hd
      obtain ⟨w, hw, q⟩ := rr.get hc
      refine ⟨⟨us, w, sq1, hw⟩, fun x H2 y => ?_⟩
      obtain ⟨T, x', rfl, hT, rfl, y⟩ := y
      have := y us sq1
      rw [hw] at this; cases this
      exact ⟨S1, .own hi hT, rp_pair upd_same (by simp only [RepD]) (RepD.mono hs1 _ _ q)⟩
end
theorem x_enumT {ev : En → Rs T} {ρ : En} {ds : List D} (h : ev ρ = .ok (.sh (.tuple ds))) : eiEnumA (evCons ev evNil) ρ = .ok (enumD ds) := by
  simp only [eiEnumA, evCons, evNil, h, Rs.bind, T.itL, T.itT, Option.or, rsO]
theorem x_enumL {ev : En → Rs T} {ρ : En} {ds : List D} (h : ev ρ = .ok (.sh (.list ds))) : eiEnumA (evCons ev evNil) ρ = .ok (enumD ds) := by
  simp only [eiEnumA, evCons, evNil, h, Rs.bind, T.itL, T.itT, Option.or, rsO]
end PL
set_option Elab.async false
set_option linter.all false
set_option maxRecDepth 100000
set_option maxHeartbeats 4000000
/-! PL45: t[::-1] of a tuple. -/
namespace PL
open PySem PySem.Spec PyProof.Rows L2
theorem places_rev (n : Nat) : Builtin.Slice.slicePlaces ((n : Int) - 1) (-1) (-1) = n := by
  unfold Builtin.Slice.slicePlaces
  rw [if_neg (by decide)]
  by_cases h : (n : Int) - 1 > -1
  · rw [if_pos h]
    have : ((n : Int) - 1 - -1 - 1) / - -1 + 1 = n := by
      rw [show (- -1 : Int) = 1 by decide, Int.ediv_one]; omega
    omega
  · rw [if_neg h]; omega
theorem pick_rev (xs : List Value) : ((List.range xs.length).filterMap fun (k : Nat) => xs.toArray[((xs.length : Int) - 1 + (k : Int) * -1).toNat]?) = xs.reverse := by
  have key : ∀ m, m ≤ xs.length → ((List.range m).filterMap fun (k : Nat) => xs.toArray[((xs.length : Int) - 1 + (k : Int) * -1).toNat]?) = xs.reverse.take m := by
    intro m
    induction m with
    | zero => intro _; rfl
    | succ m ih =>
      intro hm
      rw [List.range_succ, List.filterMap_append, ih (by omega), List.take_add_one]
      congr 1
      have e : (((xs.length : Int) - 1 + (m : Int) * -1)).toNat = xs.length - 1 - m := by omega
      have h1 : xs.toArray[(((xs.length : Int) - 1 + (m : Int) * -1)).toNat]? = some (xs[xs.length - 1 - m]'(by omega)) := by
        rw [e, List.getElem?_toArray, List.getElem?_eq_getElem (by omega)]
      have h2 : xs.reverse[m]? = some (xs[xs.length - 1 - m]'(by omega)) := by
        rw [List.getElem?_eq_getElem (by rw [List.length_reverse]; omega), List.getElem_reverse]
      rw [h2]
      simp only [List.filterMap_cons, List.filterMap_nil, h1, Option.toList]
  rw [key _ (Nat.le_refl _)]
  exact List.take_of_length_le (by rw [List.length_reverse]; omega)
section
variable {prog : Program} {w : World} {A : Around} {E : Value → Shared → Prop} {s : Shared}
theorem getItem_tuple_rev {t sl : Addr} {its : List Value} {vs : Value} {Q : Value → Shared → Prop} (ht : IsTup s.heap t its.toArray) (hs : s.heap.IsSliceOf sl .none .none vs) (ps : IsPart vs (some (-1)))
    (h : Q (.ref s.heap.objs.size) { s with heap := s.heap.push { cls := .type "tuple", data := .seq its.reverse.toArray } }) (hsz : its.length ≤ sizeLine) : wpAny (model prog w) A (getItem (.ref t) (.ref sl)) Q E s := by
  have hok : sizeOk (.seq its.reverse.toArray) := by
    show its.reverse.toArray.size ≤ sizeLine
    rw [List.size_toArray, List.length_reverse]; exact hsz
  obtain ⟨os, hos, hcs, hds⟩ := id hs
  have hTs : s.TypeIs (.ref sl) "slice" := ⟨os, hos, hcs⟩
  unfold getItem
  try with_reducible refine wpAny_holding ?_
  first | refine wpAny_bind (wpAny_pure ?_) | skip
  refine wpAny_bind (wpAny_sequenceKey ht.typeIs (by decide) ?_)
  refine wpAny_bind (wpAny_callSpecial?_slot (name := Str.ofString "__getitem__") ht.typeIs PyProof.Rows.slot_tuple_getitem
    (wpAny_call_entry PyProof.Rows.slot_tuple_getitem ht.typeIs entry_tuple_getitem ?_ (args_tuple_getitem _ _)))
  show wpAny _ _ (Builtin.Tuple.tupleItemsOf (.ref t) >>= _) _ _ s
  refine wpAny_bind (tupleItemsOf_ ht ?_)
  refine wpAny_bind (wpAny_typeOf hTs ?_)
  rw [if_pos (by decide)]
  have app : ∀ {Q' : Int × Int × Nat → Shared → Prop} {A' : Around} {E' : Value → Shared → Prop}, Q' ((its.length : Int) - 1, -1, its.length) s → wpAny (model prog w) A' (Builtin.Slice.sliceApplied (.ref sl) (pure ((its.toArray.size : Nat) : Int))) Q' E' s := fun {Q' A' E'} hq => by
    unfold Builtin.Slice.sliceApplied Builtin.Slice.sliceFields
    refine wpAny_bind (wpAny_bind (wpAny_field hos hds (x := .none) rfl (wpAny_bind (wpAny_field hos hds (x := .none) rfl (wpAny_bind (wpAny_field hos hds (x := vs) rfl (wpAny_pure ?_)))))))
    refine wpAny_bind (HT.slicePart_ ps ?_)
    show wpAny _ _ (if ((-1 : Int) == 0) = true then _ else _) _ _ s
    rw [if_neg (by decide)]
    refine wpAny_bind (HT.slicePart_ .none (wpAny_bind (HT.slicePart_ .none (wpAny_bind (wpAny_pure ?_)))))
    show wpAny _ _ (pure ((((its.toArray.size : Nat) : Int) - 1), (-1 : Int), Builtin.Slice.slicePlaces (((its.toArray.size : Nat) : Int) - 1) (-1) (-1))) _ _ s
    rw [places_rev, List.size_toArray]
    exact wpAny_pure hq
  refine wpAny_bind (app ?_)
  have hno : ¬ ((((its.length : Int) - 1) == 0 && (-1 : Int) == 1 && its.length == its.toArray.size) = true) := by
    intro q
    rw [Bool.and_eq_true, Bool.and_eq_true] at q
    have q1 : (-1 : Int) = 1 := eq_of_beq q.1.2
    omega
  show wpAny _ _ (if (((its.length : Int) - 1) == 0 && (-1 : Int) == 1 && its.length == its.toArray.size) = true then _ else _) _ _ s
  rw [if_neg hno, pick_rev]
  first
    | exact wpAny_bind (m := Builtin.Tuple.tupleExact _) (wpAny_newObj_type (wpAny_pure ⟨_, rfl, wpAny_pure h⟩) hok)
    | exact wpAny_bind (m := Builtin.Tuple.tupleExact _) (wpAny_newObj_type (wpAny_bind (wpAny_pure (wpAny_pure ⟨_, rfl, wpAny_pure h⟩))) hok)
    | exact wpAny_bind (wpAny_bind (m := Builtin.Tuple.tupleExact _) (wpAny_newObj_type (wpAny_pure (wpAny_pure ⟨_, rfl, wpAny_pure h⟩)) hok))
    | exact wpAny_bind (wpAny_bind (m := Builtin.Tuple.tupleExact _) (wpAny_newObj_type (wpAny_pure ⟨_, rfl, wpAny_pure h⟩) hok))
end
def tRevA (K : PySem.W.Frag) (te : TE) : TE := fun σ H Q => te σ H fun x H1 => ∃ a xs, x = .ref a ∧ ((SqL K H1 a xs ∧ ∀ p, H1 p = none → Q (.ref p) (upd H1 p (.lst xs.reverse))) ∨ (SqT K H1 a xs ∧ NewT H1 xs.reverse Q))
theorem pe_revA {X : Cx} {e : Expr} {te : TE} {k : Nat} {p1 p2 p3 pos : Pos} (he : PE X e te) : PE X (.Subscript e (.Slice none none (some (.UnaryOp .USub (.Constant (.int 1) k p1) p2)) p3) pos) (tRevA X.K te) := by
  refine ⟨fun pins s σ H Q I h => ?_⟩
  refine Subscript_ (thn (he.run pins s σ H _ I h) fun v s1 ⟨x, H1, I1, r1, q1⟩ => ?_)
  obtain ⟨a, xs, ex, q⟩ := q1
  subst ex
  cases r1
  have hst : PO X (some (.UnaryOp .USub (.Constant (.int 1) k p1) p2)) (tPart (tUn (rU fun i => .int (-i)) (tC (.int 1)))) := po_some (pe_un un_neg pe_int)
  refine wpAny_Slice (thn (po_none.run pins s1 σ H1 (fun o H2 => o = none ∧ H2 = H1) I1 ⟨rfl, rfl⟩) fun vl s2 ⟨l, H2, I2, pl, el, e2⟩ => ?_)
  subst el e2
  refine thn (po_none.run pins s2 σ H2 (fun o H3 => o = none ∧ H3 = H2) I2 ⟨rfl, rfl⟩) fun vu s3 ⟨u, H3, I3, pu, eu, e3⟩ => ?_
  subst eu e3
  refine thn (hst.run pins s3 σ H3 (fun o H4 => o = some (-1) ∧ H4 = H3) I3 ⟨1, rfl, -1, rfl, rfl, rfl⟩) fun vs s4 ⟨o, H4, I4, ps, eo, e4⟩ => ?_
  subst eo e4
  have I5 : Inv X pins σ H4 { s4 with heap := s4.heap.push { cls := .type "slice", data := .fields #[vl, vu, vs] } } := I4.kept (t' := s4.toks) fun b ob q => Heap.get?_push_of_some _ q
  show wpAny (model X.prog X.w) X.A (subscriptTail e (.Slice none none (some (.UnaryOp .USub (.Constant (.int 1) k p1) p2)) p3) (.ref a) (.ref s4.heap.objs.size)) (EP X pins σ Q) X.xe { s4 with heap := s4.heap.push { cls := .type "slice", data := .fields #[vl, vu, vs] } }
  rcases q with ⟨hx, q⟩ | ⟨hx, q⟩
  · obtain ⟨its, r, ht, hz⟩ := I5.list hx
    have hlen := r.length
    refine tail_any (ops := [.ref a, .ref s4.heap.objs.size]) ht.isList.typeIs (PySem.slot_list_getitem.lookup) ?_ (by with_unfolding_all rfl)
    refine wpAny_getItem_list_slice ht.isList (Heap.IsSliceOf.new _ vl vu vs) pl pu ps (by decide) ?_ (by rw [List.size_toArray]; omega)
    rw [PySem.W.krv_pick]
    refine ⟨.ref _, _, I5.laid (t' := s4.toks) (o := .lst xs.reverse) (fun b ob q => Heap.get?_push_of_some _ q) (Nat.le_refl _) ?_, rfl, q _ (I5.hok.fresh (Nat.le_refl _))⟩
    exact ⟨by rw [List.length_reverse]; exact hz, _, 0, r.reverse, Heap.get?_push_size _ rfl⟩
  · obtain ⟨its, r, ht, hz⟩ := I5.tuple hx
    have hlen := r.length
    cases pl
    cases pu
    refine tail_any (ops := [.ref a, .ref s4.heap.objs.size]) ht.typeIs (PyProof.Rows.slot_tuple_getitem.lookup) ?_ (by with_unfolding_all rfl)
    refine getItem_tuple_rev ht (Heap.IsSliceOf.new _ .none .none vs) ps ?_ (by omega)
    exact ⟨.ref _, _, tnew I5 r.reverse (by rw [List.length_reverse]; exact hz), rfl, q.at (I5.hok.fresh (Nat.le_refl _)) its.reverse⟩
def fRevA (x : T) : Option T := (fRev x).or (match x with
  | .sh (.tuple ds) => some (.sh (.tuple ds.reverse))
  | _ => none)
section
variable {X : Cx} {W : WX} {a e : Expr} {te ta : TE} {ev ea : En → Rs T} {pos : Pos}
theorem de_revA {K : PySem.W.Frag} {k : Nat} {p1 p2 p3 : Pos} (ha : DV X W a ta ea) (hK : X.K = K := by rfl) : DE X W (.Subscript a (.Slice none none (some (.UnaryOp .USub (.Constant (.int 1) k p1) p2)) p3) pos) (tRevA K ta) (evUn fRevA ea) [] := by
  subst hK
  refine ⟨pe_revA ha.pe, fun E S φ ρ σ H Q I h => ?_⟩
  refine ha.sm E S φ ρ σ H _ I (h.bind.imp (fun x hx vx S1 H1 fx g1 qx => ?_) fun _ z => z)
  obtain ⟨t, e, ht⟩ := hx.rsO
  cases ex : x.lits with
  | some ds =>
    simp only [fRevA, fRev, ex, Option.or, Option.some.injEq] at e
    subst e
    obtain ⟨a, vs, rfl, ha, r⟩ := lits_rep g1.i qx ex
    exact ⟨a, vs, rfl, .inl ⟨.of ha, fun p hp => (ht.ret.later g1).lst g1.i r.rev hp⟩⟩
  | none =>
    simp only [fRevA, fRev, ex, Option.or] at e
    split at e
    · rename_i ds
      cases e
      have q := rep_sh qx
      simp only [RepD] at q
      obtain ⟨a, vs, rfl, ha, r⟩ := q
      exact ⟨a, vs, rfl, .inr ⟨(ha.same (g1.i _)).sq, (ht.ret.later g1).tup g1.i r.rev⟩⟩
    · cases e
end
theorem x_revT {ds : List D} : fRevA (.sh (.tuple ds)) = some (.sh (.tuple ds.reverse)) := rfl
theorem x_revL {ds : List D} : fRevA (.sh (.list ds)) = some (.ol ds.reverse) := rfl
theorem x_revO {ds : List D} : fRevA (.ol ds) = some (.ol ds.reverse) := rfl
end PL
set_option Elab.async false
set_option linter.all false
set_option maxRecDepth 100000
/-! PL46: the head's check of a table of the module. -/
namespace He
open PySem PySem.Spec PyProof.Rows L2
def tabX (x : Str) (kvs : List (Str × Int)) : PySem.W.Frag → Bool := fun K => PL.tabB K (ga K x) kvs
end He
set_option Elab.async false
set_option linter.all false
set_option maxRecDepth 100000
/-! PL49: walks over a dict's keys (the dict is locked as long as they last). -/
namespace PL
open PySem PySem.Spec L2
theorem DcF.lst {vs : List V} (ks : List D) (ws : List V) : ¬ DcF (some (.lst vs)) ks ws := by
  rintro ((⟨_, e, _⟩ | ⟨_, e, _⟩) | ⟨_, _, e, _⟩) <;> cases e
theorem DcF.tup {ob : Obj} {vs : List V} (ks : List D) (ws : List V) : ¬ DcF (some (.frz ob (.tup vs))) ks ws := by
  rintro ((⟨_, e, _⟩ | ⟨_, e, _⟩) | ⟨_, _, e, _⟩) <;> cases e
theorem DcF.flst {ob : Obj} {vs : List V} (ks : List D) (ws : List V) : ¬ DcF (some (.frz ob (.lst vs))) ks ws := by
  rintro ((⟨_, e, _⟩ | ⟨_, e, _⟩) | ⟨_, _, e, _⟩) <;> cases e
theorem DcF.rng {lo hi : Int} (ks : List D) (ws : List V) : ¬ DcF (some (.rng lo hi)) ks ws := by
  rintro ((⟨_, e, _⟩ | ⟨_, e, _⟩) | ⟨_, _, e, _⟩) <;> cases e
/-- heaps that differ in locks on dicts alone -/
structure LkS (S S' : Hp) : Prop where
  k : ∀ a x, S a = some x → (∀ ks vs, ¬ DcF (some x) ks vs) → S' a = some x
  d : ∀ a ks vs, DcF (S a) ks vs → DcF (S' a) ks vs
section
variable {S S' : Hp}
mutual
theorem RepD.lk (h : LkS S S') : ∀ (d : D) (v : V), RepD S d v → RepD S' d v
  | .none, _, q => by simp only [RepD] at q ⊢; exact q
  | .bool b, _, q => by simp only [RepD] at q ⊢; exact q
  | .int i, _, q => by simp only [RepD] at q ⊢; exact q
  | .str x, _, q => by simp only [RepD] at q ⊢; exact q
  | .list ds, _, q => by
    simp only [RepD] at q ⊢
    obtain ⟨a, vs, e, ha, r⟩ := q
    exact ⟨a, vs, e, h.k _ _ ha DcF.lst, RepDs.lk h ds vs r⟩
  | .tuple ds, _, q => by
    simp only [RepD] at q ⊢
    obtain ⟨a, vs, e, ⟨ob, ha, hd⟩, r⟩ := q
    exact ⟨a, vs, e, ⟨ob, h.k _ _ ha DcF.tup, hd⟩, RepDs.lk h ds vs r⟩
  | .dict kvs, _, q => by
    simp only [RepD] at q ⊢
    obtain ⟨a, vs, e, ha, r⟩ := q
    exact ⟨a, vs, e, h.d _ _ _ ha, RepPs.lk h kvs vs r⟩
theorem RepDs.lk (h : LkS S S') : ∀ (ds : List D) (vs : List V), RepDs S ds vs → RepDs S' ds vs
  | [], _, q => by simp only [RepDs] at q ⊢; exact q
  | d :: ds, _, q => by
    simp only [RepDs] at q ⊢
    obtain ⟨v, r, e, q1, q2⟩ := q
    exact ⟨v, r, e, RepD.lk h d v q1, RepDs.lk h ds r q2⟩
theorem RepPs.lk (h : LkS S S') : ∀ (ds : List (D × D)) (vs : List V), RepPs S ds vs → RepPs S' ds vs
  | [], _, q => by simp only [RepPs] at q ⊢; exact q
  | d :: ds, _, q => by
    simp only [RepPs] at q ⊢
    obtain ⟨v, r, e, q1, q2⟩ := q
    exact ⟨v, r, e, RepP.lk h d v q1, RepPs.lk h ds r q2⟩
theorem RepP.lk (h : LkS S S') : ∀ (d : D × D) (v : V), RepP S d v → RepP S' d v
  | (_, d), v, q => by
    simp only [RepP] at q ⊢
    exact RepD.lk h d v q
end
end
section
variable {K : PySem.W.Frag} {S S' H H' : Hp}
theorem LkS.seq (h : LkS S S') {a : Addr} {xs : List V} (q : SqL K S a xs) : SqL K S' a xs := by
  rcases q with (q | ⟨o, q⟩) | q
  · exact .inl (.inl (h.k _ _ q DcF.lst))
  · exact .inl (.inr ⟨o, h.k _ _ q DcF.flst⟩)
  · exact .inr q
mutual
theorem RepT.lk (h : LkS S S') : ∀ (t : T) (v : V) (fp : List Addr), (∀ a ∈ fp, H' a = H a) → RepT K S H t v fp → RepT K S' H' t v fp
  | .sh d, v, fp, _, q => by
    simp only [RepT] at q ⊢
    exact ⟨q.1, RepD.lk h d v q.2⟩
  | .scr ns, v, fp, _, q => by
    simp only [RepT] at q ⊢
    obtain ⟨e, a, e2, r⟩ := q
    exact ⟨e, a, e2, h.seq r⟩
  | .ol ds, v, fp, k, q => by
    simp only [RepT] at q ⊢
    obtain ⟨a, vs, e1, e2, ha, r⟩ := q
    subst e2
    exact ⟨a, vs, e1, rfl, by rw [k a (by simp)]; exact ha, RepDs.lk h ds vs r⟩
  | .od kvs, v, fp, k, q => by
    simp only [RepT] at q ⊢
    obtain ⟨a, vs, e1, e2, ha, r⟩ := q
    subst e2
    exact ⟨a, vs, e1, rfl, by rw [k a (by simp)]; exact ha, RepPs.lk h kvs vs r⟩
  | .ot ts, v, fp, k, q => by
    simp only [RepT] at q ⊢
    obtain ⟨a, vs, f, e1, e2, ha, r⟩ := q
    subst e2
    exact ⟨a, vs, f, e1, rfl, by rw [k a (by simp)]; exact ha, RepTs.lk h ts vs f (fun b hb => k b (by simp [hb])) r⟩
  | .tu ts, v, fp, k, q => by
    simp only [RepT] at q ⊢
    obtain ⟨a, vs, f, e1, e2, ha, r⟩ := q
    subst e2
    exact ⟨a, vs, f, e1, rfl, by rw [k a (by simp)]; exact ha, RepTs.lk h ts vs f (fun b hb => k b (by simp [hb])) r⟩
  | .rg lo hi, v, fp, k, q => by
    simp only [RepT] at q ⊢
    obtain ⟨e, a, e2, r⟩ := q
    exact ⟨e, a, e2, h.k _ _ r DcF.rng⟩
theorem RepTs.lk (h : LkS S S') : ∀ (ts : List T) (vs : List V) (fp : List Addr), (∀ a ∈ fp, H' a = H a) → RepTs K S H ts vs fp → RepTs K S' H' ts vs fp
  | [], vs, fp, _, q => by simp only [RepTs] at q ⊢; exact q
  | t :: ts, vs, fp, k, q => by
    simp only [RepTs] at q ⊢
    obtain ⟨v, r, f, g, e1, e2, q1, q2⟩ := q
    subst e2
    exact ⟨v, r, f, g, e1, rfl, RepT.lk h t v f (fun b hb => k b (by simp [hb])) q1, RepTs.lk h ts r g (fun b hb => k b (by simp [hb])) q2⟩
end
end
section
variable {S S1 H H1 : Hp} {d : Addr} {ob : Obj} {kk : List (Key × V)}
abbrev fzO (ob : Obj) (kk : List (Key × V)) : HO := .frz ob (.dK kk)
theorem lks_lock (h : S d = some (.dK kk)) : LkS S (upd S d (fzO ob kk)) := by
  refine ⟨fun a x hx hn => ?_, fun a ks vs hd => ?_⟩
  · by_cases e : a = d
    · subst e
      rw [h] at hx
      cases hx
      exact absurd (.inl (.inl ⟨kk, rfl, rfl, rfl⟩)) (hn _ _)
    · rw [upd_ne e]; exact hx
  · by_cases e : a = d
    · subst e
      rw [h] at hd
      rw [upd_same]
      rcases hd with (⟨k2, e, e2⟩ | ⟨_, e, _⟩) | ⟨_, _, e, _⟩
      · cases e; exact .inr ⟨ob, kk, rfl, e2⟩
      · cases e
      · cases e
    · rw [upd_ne e]; exact hd
theorem lks_free (h : S d = some (fzO ob kk)) : LkS S (upd S d (.dK kk)) := by
  refine ⟨fun a x hx hn => ?_, fun a ks vs hd => ?_⟩
  · by_cases e : a = d
    · subst e
      rw [h] at hx
      cases hx
      exact absurd (.inr ⟨ob, kk, rfl, rfl, rfl⟩) (hn _ _)
    · rw [upd_ne e]; exact hx
  · by_cases e : a = d
    · subst e
      rw [h] at hd
      rw [upd_same]
      rcases hd with (⟨k2, e, e2⟩ | ⟨_, e, _⟩) | ⟨_, _, e, e2⟩
      · cases e
      · cases e
      · cases e; exact .inl (.inl ⟨kk, rfl, e2⟩)
    · rw [upd_ne e]; exact hd
open Classical in
/-- the entry of what runs under the lock -/
noncomputable def lkE (φ : Nat → List Addr) (S H : Hp) (d : Addr) (o : HO) : Ent := ⟨upd S d o, fun a => if ∃ i, a ∈ φ i then none else upd H d o a⟩
variable {K : PySem.W.Frag} {E : Ent} {φ φ1 : Nat → List Addr} {ρ ρ1 : En} {σ σ1 : St}
open Classical in
theorem lkE_out {o : HO} {a : Addr} (h : ¬ ∃ i, a ∈ φ i) : (lkE φ S H d o).H a = upd H d o a := by
  show (if ∃ i, a ∈ φ i then none else _) = _
  rw [if_neg h]
open Classical in
theorem lkE_in {o : HO} {a : Addr} {i : Nat} (h : a ∈ φ i) : (lkE φ S H d o).H a = none := by
  show (if ∃ i, a ∈ φ i then none else _) = _
  rw [if_pos ⟨i, h⟩]
theorem ne_own (I : StInv K E S φ ρ σ H) {o : HO} (h : S d = some o) {i : Nat} {a : Addr} (ha : a ∈ φ i) : a ≠ d := fun e => by
  have := (I.fr i a ha).1
  rw [e, h] at this; cases this
theorem StInv.lock (I : StInv K E S φ ρ σ H) (h : S d = some (.dK kk)) : StInv K (lkE φ S H d (fzO ob kk)) (upd S d (fzO ob kk)) φ ρ σ (upd H d (fzO ob kk)) := by
  refine ⟨⟨fun a x hx => ?_, .refl _, fun a x hx => ?_, fun a _ e => e⟩, I.len, fun i t e => ?_, I.nd, I.dj, fun i a ha => ?_⟩
  · by_cases hi : ∃ i, a ∈ φ i
    · obtain ⟨i, hi⟩ := hi
      rw [lkE_in hi] at hx; cases hx
    · rw [lkE_out hi] at hx; exact hx
  · by_cases e : a = d
    · subst e; rw [upd_same] at hx ⊢; exact hx
    · rw [upd_ne e] at hx ⊢; exact I.gr.i _ _ hx
  · obtain ⟨v, e1, r⟩ := I.slot i t e
    exact ⟨v, e1, RepT.lk (lks_lock h) t v _ (fun a ha => upd_ne (ne_own I h ha)) r⟩
  · obtain ⟨h1, h2, o, h3⟩ := I.fr i a ha
    have hn := ne_own I h ha
    exact ⟨by rw [upd_ne hn]; exact h1, lkE_in ha, o, by rw [upd_ne hn]; exact h3⟩
theorem grow_free (I : StInv K E S φ ρ σ H) (h : S d = some (.dK kk)) (s : Same (upd S d (fzO ob kk)) S1) (g : Grow (lkE φ S H d (fzO ob kk)).S (lkE φ S H d (fzO ob kk)).H S1 H1) : Grow E.S E.H (upd S1 d (.dK kk)) (upd H1 d (.dK kk)) := by
  have hH : H d = some (.dK kk) := I.gr.i _ _ h
  have own : ∀ a x, E.H a = some x → ¬ ∃ i, a ∈ φ i := fun a x hx ⟨i, hi⟩ => by
    rw [(I.fr i a hi).2.1] at hx; cases hx
  refine ⟨fun a x hx => ?_, fun a x hx => ?_, fun a x hx => ?_, fun a ⟨o, ho⟩ hn => ?_⟩
  · have hx2 := I.gr.h _ _ hx
    by_cases e : a = d
    · subst e; rw [hH] at hx2; rw [upd_same]; exact hx2
    · rw [upd_ne e]
      refine g.h _ _ ?_
      rw [lkE_out (own a x hx), upd_ne e]; exact hx2
  · have hx2 := I.gr.s _ _ hx
    by_cases e : a = d
    · subst e; rw [h] at hx2; rw [upd_same]; exact hx2
    · rw [upd_ne e]
      exact s _ _ (by rw [upd_ne e]; exact hx2)
  · by_cases e : a = d
    · subst e; rw [upd_same] at hx ⊢; exact hx
    · rw [upd_ne e] at hx ⊢; exact g.i _ _ hx
  · have h1 := I.gr.f a ⟨o, ho⟩ hn
    have e : a ≠ d := fun e => by rw [e, h] at h1; cases h1
    rw [upd_ne e]
    refine g.f a ⟨o, ?_⟩ ?_
    · rw [lkE_out (own a o ho), upd_ne e]; exact I.gr.h _ _ ho
    · show upd S d _ a = none
      rw [upd_ne e]; exact h1
theorem free_E (I : StInv K E S φ ρ σ H) (h : S d = some (.dK kk)) {a : Addr} (ha : (lkE φ S H d (fzO ob kk)).H a = none) : E.H a = none := by
  cases hx : E.H a with
  | none => rfl
  | some x =>
    have own : ¬ ∃ i, a ∈ φ i := fun ⟨i, hi⟩ => by
      rw [(I.fr i a hi).2.1] at hx; cases hx
    rw [lkE_out own] at ha
    by_cases e : a = d
    · subst e; rw [upd_same] at ha; cases ha
    · rw [upd_ne e, I.gr.h _ _ hx] at ha; cases ha
theorem StInv.free (I : StInv K E S φ ρ σ H) (h : S d = some (.dK kk)) (s : Same (upd S d (fzO ob kk)) S1) (I1 : StInv K (lkE φ S H d (fzO ob kk)) S1 φ1 ρ1 σ1 H1) : StInv K E (upd S1 d (.dK kk)) φ1 ρ1 σ1 (upd H1 d (.dK kk)) := by
  have hS1 : S1 d = some (fzO ob kk) := s _ _ upd_same
  refine ⟨grow_free I h s I1.gr, I1.len, fun i t e => ?_, I1.nd, I1.dj, fun i a ha => ?_⟩
  · obtain ⟨v, e1, r⟩ := I1.slot i t e
    exact ⟨v, e1, RepT.lk (lks_free hS1) t v _ (fun a ha => upd_ne (ne_own I1 hS1 ha)) r⟩
  · obtain ⟨h1, h2, o, h3⟩ := I1.fr i a ha
    have hn := ne_own I1 hS1 ha
    exact ⟨by rw [upd_ne hn]; exact h1, free_E I h h2, o, by rw [upd_ne hn]; exact h3⟩
theorem Same.lock_s (h : S d = some (.dK kk)) (s : Same (upd S d (fzO ob kk)) S1) : Same S (upd S1 d (.dK kk)) := fun a x hx => by
  by_cases e : a = d
  · subst e; rw [h] at hx; rw [upd_same]; exact hx
  · rw [upd_ne e]; exact s _ _ (by rw [upd_ne e]; exact hx)
theorem Ret.lock {t : T} {Q : VK} (I : StInv K E S φ ρ σ H) (h : S d = some (.dK kk)) (r : Ret K E.S E.H t Q) : Ret K (lkE φ S H d (fzO ob kk)).S (lkE φ S H d (fzO ob kk)).H t (fun v H' => H' d = some (fzO ob kk) ∧ Q v (upd H' d (.dK kk))) := fun v S' H' fp g q nd f => by
  have hS1 : S' d = some (fzO ob kk) := g.s _ _ upd_same
  refine ⟨g.i _ _ hS1, r v _ _ fp (grow_free I h g.s g) (RepT.lk (lks_free hS1) t v fp (fun a ha => upd_ne fun e => ?_) q) nd fun a ha => ⟨?_, free_E I h (f a ha).2⟩⟩
  · have := (f a ha).1
    rw [e, hS1] at this; cases this
  · rw [upd_ne fun e => by have := (f a ha).1; rw [e, hS1] at this; cases this]
    exact (f a ha).1
theorem RetM.lock {t : T} {Q : VK} (I : StInv K E S φ ρ σ H) (h : S d = some (.dK kk)) (r : RetM K S H φ [] t Q) : RetM K (upd S d (fzO ob kk)) (upd H d (fzO ob kk)) φ [] t (fun v H' => H' d = some (fzO ob kk) ∧ Q v (upd H' d (.dK kk))) := fun v S' H' fp g q nd f => by
  have hS1 : S' d = some (fzO ob kk) := g.s _ _ upd_same
  have hH : H d = some (.dK kk) := I.gr.i _ _ h
  have hn : ∀ a ∈ fp, a ≠ d := fun a ha e => by
    have := (f a ha).1
    rw [e, hS1] at this; cases this
  refine ⟨g.i _ _ hS1, r v _ _ fp ⟨fun a x hx => ?_, Same.lock_s h g.s, fun a x hx => ?_, fun a ⟨o, ho⟩ hs => ?_⟩ (RepT.lk (lks_free hS1) t v fp (fun a ha => upd_ne (hn a ha)) q) nd fun a ha => ⟨by rw [upd_ne (hn a ha)]; exact (f a ha).1, ?_⟩⟩
  · by_cases e : a = d
    · subst e; rw [hH] at hx; rw [upd_same]; exact hx
    · rw [upd_ne e]; exact g.h _ _ (by rw [upd_ne e]; exact hx)
  · by_cases e : a = d
    · subst e; rw [upd_same] at hx ⊢; exact hx
    · rw [upd_ne e] at hx ⊢; exact g.i _ _ hx
  · have e : a ≠ d := fun e => by rw [e, h] at hs; cases hs
    rw [upd_ne e]
    exact g.f a ⟨o, by rw [upd_ne e]; exact ho⟩ (by rw [upd_ne e]; exact hs)
  · rcases (f a ha).2 with w | ⟨j, hj, _⟩
    · rw [upd_ne (hn a ha)] at w; exact .inl w
    · cases hj
end
/-- under a lock, or where there is one -/
def tLkE (t : TE) : TE := fun σ H Q => tLockE t σ H Q ∨ t σ H Q
def tLkS (t : TS) : TS := fun D σ H => tLock t D σ H ∨ t D σ H
theorem pe_lk {X : Cx} {e : Expr} {t : TE} (h : PE X e t) : PE X e (tLkE t) := by
  refine ⟨fun pins s σ H Q I hw => ?_⟩
  rcases hw with hw | hw
  · exact (pe_lock h).run pins s σ H Q I hw
  · exact h.run pins s σ H Q I hw
theorem ps_lk {X : Cx} {e : Stmt} {t : TS} (h : PS X e t) : PS X e (tLkS t) := by
  refine ⟨fun pins s σ H D I hw => ?_⟩
  rcases hw with hw | hw
  · exact (ps_lock h).run pins s σ H D I hw
  · exact h.run pins s σ H D I hw
/-- the keys of the dict in a slot -/
def eiK (i : Nat) : En → Rs (List D) := fun ρ => match ρ.get i with
  | some (.sh (.dict kvs)) => if keysK kvs = true then .ok (kvs.map (·.1)) else .bad
  | _ => .bad
theorem eiK_inv {i : Nat} {ρ : En} {α : Type} {f : List D → Rs α} {P : α → Prop} {X : Str → Prop} (h : RsOK ((eiK i ρ).bind f) P X) : ∃ kvs, ρ.get i = some (.sh (.dict kvs)) ∧ keysK kvs = true ∧ eiK i ρ = .ok (kvs.map (·.1)) := by
  unfold eiK at h
  split at h
  · rename_i kvs e
    split at h
    · rename_i hk
      exact ⟨kvs, e, hk, by unfold eiK; rw [e]; exact if_pos hk⟩
    · exact False.elim h
  · exact False.elim h
theorem it_keys {S : Hp} {d : Addr} {ob : Obj} {kk : List (Key × V)} {kvs : List (D × D)} (h : S d = some (fzO ob kk)) (e : kvs.map (·.1) = kk.map (fun p => kD p.1)) : ItOK RD S (Itk d ob kk) (kvs.map (·.1)) := by
  intro S1 H1 i s1 s2
  have hH : H1 d = some (fzO ob kk) := s2 _ _ (s1 _ _ h)
  rw [e]
  refine ⟨fun x hx => ?_, fun hl => ⟨hH, by rw [List.length_map] at hl; exact hl⟩⟩
  rw [List.getElem?_map] at hx
  cases hk : kk[i]? with
  | none => rw [hk] at hx; cases hx
  | some p =>
    rw [hk] at hx
    cases hx
    have hi : i < kk.length := (List.getElem?_eq_some_iff.mp hk).1
    refine ⟨⟨hH, hi⟩, fun x H2 y => ?_⟩
    obtain ⟨rfl, k, v, e1, rfl⟩ := y
    rw [hk] at e1
    cases e1
    refine ⟨S1, .refl s2, ?_⟩
    show RepD S1 (kD k) (kV k)
    cases k <;> simp only [kD, RepD] <;> rfl
theorem sem_keys {K : PySem.W.Frag} {mg : Str → Option Value} {W : WX} {E : Ent} {S : Hp} {φ : Nat → List Addr} {ρ : En} {σ : St} {H : Hp} {i : Nat} {d : Addr} {ob : Obj} {kk : List (Key × V)} {kvs : List (D × D)} (I : StInv K E S φ ρ σ H) (hσ : σ[i]? = some (some (.ref d))) (h : S d = some (fzO ob kk)) (e : kvs.map (·.1) = kk.map (fun p => kD p.1)) (ev : eiK i ρ = .ok (kvs.map (·.1))) :
    ∀ R, RsOK (eiK i ρ) (fun ds => ∀ S' H' J, Grow S H S' H' → ItOK RD S' J ds → R J H') (fun c => ∀ S' H', Grow S H S' H' → XOK mg W c σ H') → iKeys (tVar i) σ H R := fun R q => by
  rw [ev] at q
  exact ⟨_, hσ, d, ob, rfl, .inl ⟨kk, I.gr.i _ _ h, q S H _ (.refl I.gr.i) (it_keys h e)⟩⟩
/-- the dict of a slot: free, or locked by somebody -/
theorem slot_dict {K : PySem.W.Frag} {E : Ent} {S : Hp} {φ : Nat → List Addr} {ρ : En} {σ : St} {H : Hp} {i : Nat} {kvs : List (D × D)} (I : StInv K E S φ ρ σ H) (e : ρ.get i = some (.sh (.dict kvs))) (hk : keysK kvs = true) :
    ∃ d kk, σ[i]? = some (some (.ref d)) ∧ (S d = some (.dK kk) ∨ ∃ ob, S d = some (fzO ob kk)) ∧ kvs.map (·.1) = kk.map (fun p => kD p.1) := by
  obtain ⟨v, e1, r⟩ := I.slot i _ (En.get_some e)
  have r := rep_sh r
  simp only [RepD] at r
  obtain ⟨a, vs, rfl, hd, _⟩ := r
  obtain ⟨kk, h1, h2, _⟩ := dcF_keys hd hk
  exact ⟨a, kk, e1, h1, h2⟩
section
variable {X : Cx} {W : WX} {elt tg : Expr} {ifs : List Expr} {scope : Scope} {own : List (Str × Nat)} {pos np : Pos} {as bs : List Nat} {g : TG} {eg : D → En → Option En} {tt : TT} {ec : En → Rs Bool} {te : TE} {ee : En → Rs T} {x : Str}
theorem sem_compK {K : PySem.W.Frag} {mg : Str → Option Value} {vs : List Nat} (i : Nat) (hg : SemG RD K g eg as) (ha : ∀ i ∈ as, i ∈ vs) (ht : SemB K mg W0 tt ec) (he : SemE K mg W0 te ee []) : SemE K mg W (tLkE (tLc (iKeys (tVar i)) g tt te vs)) (evComp (eiK i) vs eg ec ee) [] := by
  intro E S φ ρ σ H Q I h
  obtain ⟨kvs, e1, hk, e2⟩ := eiK_inv (f := fun ds => if ds.length ≤ sizeLine then (rsO (compL eg ec ee (ρ.clr vs) ds)).bind fun ts => .ok (mkL ts) else .bad) h
  obtain ⟨d, kk, hσ, hS | ⟨ob, hS⟩, ek⟩ := slot_dict I e1 hk
  · refine .inl ⟨d, .dK kk, I.gr.i _ _ hS, trivial, fun od => ?_⟩
    have I1 := I.lock (ob := od) hS
    refine sem_comp_at (W := W) (sem_keys I1 hσ upd_same ek e2) hg ha ht he I1 ?_
    cases hr : evComp (eiK i) vs eg ec ee ρ with
    | bad => rw [hr] at h; exact h
    | ok t => rw [hr] at h; exact RetM.lock I hS h
    | ex c =>
      exfalso
      unfold evComp at hr
      rw [e2] at hr
      simp only [Rs.bind] at hr
      split at hr
      · cases hc : compL eg ec ee (ρ.clr vs) (kvs.map (·.1)) with
        | none => rw [hc] at hr; cases hr
        | some ts => rw [hc] at hr; cases hr
      · cases hr
  · exact .inr (sem_comp_at (W := W) (sem_keys I hσ hS ek e2) hg ha ht he I h)
theorem de_lcK (i : Nat) (vs : List Nat) (hc : X.calm = true) (hN : X.N.Nodup) (ok : BlkOk X.N X.env.scope scope own)
    (hg : ∀ (s : Shared) (H : Hp) (C : Addr) (cl : List (Str × Addr)) (fp : List Addr), DG RD (X.blk s H scope (compEnvC scope cl C X.env) fp) tg g eg as)
    (ht : ∀ (s : Shared) (H : Hp) (C : Addr) (cl : List (Str × Addr)) (fp : List Addr), DTs (X.blk s H scope (compEnvC scope cl C X.env) fp) W0 ifs tt ec)
    (he : ∀ (s : Shared) (H : Hp) (C : Addr) (cl : List (Str × Addr)) (fp : List Addr), DE (X.blk s H scope (compEnvC scope cl C X.env) fp) W0 elt te ee [])
    (hN2 : X.N[i]? = some x := by rfl) (hvis : Vis X.env.scope x := by first | exact Or.inl rfl | exact Or.inr (Or.inl rfl) | exact Or.inr (Or.inr rfl)) (hd : (x == ("__debug__" : Str)) = false := by decide) (hcd : (x == ("__classdict__" : Str)) = false := by decide)
    (hv : own.map (·.2) = vs := by rfl) (ha : ∀ i ∈ as, i ∈ vs := by decide) (hs : ∀ z, foldedSetIterable (.Name x np) X.env z = pure z := by intro _; rfl) :
    DE X W (.ListComp elt [⟨tg, .Name x np, ifs, 0⟩] scope pos) (tLkE (tLc (iKeys (tVar i)) g tt te (own.map (·.2)))) (evComp (eiK i) vs eg ec ee) [] := by
  subst hv
  exact ⟨pe_lk (pe_lc hc hN (pi_keys (pe_var hN2 hvis hd hcd)) ok (fun s H C cl fp => (hg s H C cl fp).pg) (fun s H C cl fp => (ht s H C cl fp).pt) (fun s H C cl fp => (he s H C cl fp).pe) hs),
    sem_compK i (hg X.s_0 (fun _ => none) 0 [] []).sm ha (ht X.s_0 (fun _ => none) 0 [] []).sm (he X.s_0 (fun _ => none) 0 [] []).sm⟩
/-- for x in a dict: its suite raises nothing -/
def noEx : Out → Out
  | .ex _ _ => .bad
  | o => o
def sForK (i : Nat) (eg : D → En → Option En) (b : En → Out) : En → Out := fun ρ => noEx (sFor (eiK i) eg b ρ)
theorem sem_forK {K : PySem.W.Frag} {mg : Str → Option Value} {tb : TS} {b : En → Out} (i : Nat) (hg : SemG RD K g eg as) (hb : SemS K mg W tb b bs) : SemS K mg W (tLkS (tFor (iKeys (tVar i)) g tb)) (sForK i eg b) (as ++ bs) := by
  intro E S φ ρ σ H D I q
  unfold sForK at q
  have q2 : ∃ kvs, ρ.get i = some (.sh (.dict kvs)) ∧ keysK kvs = true ∧ eiK i ρ = .ok (kvs.map (·.1)) := by
    unfold sFor rsK eiK at q
    split at q
    · exact False.elim q
    · rename_i a e
      split at e
      · rename_i kvs e0
        split at e
        · rename_i hk
          exact ⟨kvs, e0, hk, by unfold eiK; rw [e0]; exact if_pos hk⟩
        · cases e
      · cases e
    · exact False.elim q
  obtain ⟨kvs, e1, hk, e2⟩ := q2
  obtain ⟨d, kk, hσ, hS | ⟨ob, hS⟩, ek⟩ := slot_dict I e1 hk
  · refine .inl ⟨d, .dK kk, I.gr.i _ _ hS, trivial, fun od => ?_⟩
    have I1 := I.lock (ob := od) hS
    refine sem_for_at (W := W) (sem_keys I1 hσ upd_same ek e2) hg hb I1 ?_
    cases hr : sFor (eiK i) eg b ρ with
    | bad => rw [hr] at q; exact q
    | ex c ρ' => rw [hr] at q; exact False.elim q
    | rt t => rw [hr] at q; exact Ret.lock I hS q
    | nx ρ' => rw [hr] at q; exact fun S' φ' σ' H' st I' => ⟨I'.gr.i _ _ (st.s _ _ upd_same), q _ φ' σ' _ ⟨Same.lock_s hS st.s, st.k⟩ (I.free hS st.s I')⟩
    | bk ρ' => rw [hr] at q; exact fun S' φ' σ' H' st I' => ⟨I'.gr.i _ _ (st.s _ _ upd_same), q _ φ' σ' _ ⟨Same.lock_s hS st.s, st.k⟩ (I.free hS st.s I')⟩
    | ct ρ' => rw [hr] at q; exact fun S' φ' σ' H' st I' => ⟨I'.gr.i _ _ (st.s _ _ upd_same), q _ φ' σ' _ ⟨Same.lock_s hS st.s, st.k⟩ (I.free hS st.s I')⟩
  · refine .inr (sem_for_at (W := W) (sem_keys I hσ hS ek e2) hg hb I ?_)
    cases hr : sFor (eiK i) eg b ρ with
    | ex c ρ' => rw [hr] at q; exact False.elim q
    | bad => rw [hr] at q; exact q
    | rt t => rw [hr] at q; exact q
    | nx ρ' => rw [hr] at q; exact q
    | bk ρ' => rw [hr] at q; exact q
    | ct ρ' => rw [hr] at q; exact q
theorem ds_forK {body : List Stmt} {tb : TS} {b : En → Out} (i : Nat) (hp : PassesOwn (model X.prog X.w) X.A X.env X.xe) (hc : X.calm = true) (hg : DG RD X tg g eg as) (hb : DSs X W body tb b bs)
    (hN2 : X.N[i]? = some x := by rfl) (hvis : Vis X.env.scope x := by first | exact Or.inl rfl | exact Or.inr (Or.inl rfl) | exact Or.inr (Or.inr rfl)) (hd : (x == ("__debug__" : Str)) = false := by decide) (hcd : (x == ("__classdict__" : Str)) = false := by decide)
    (hs : ∀ z, foldedSetIterable (.Name x np) X.env z = pure z := by intro _; rfl) : DS X W (.For tg (.Name x np) body [] pos) (tLkS (tFor (iKeys (tVar i)) g tb)) (sForK i eg b) (as ++ bs) :=
  ⟨ps_lk (ps_for hp hc (pi_keys (pe_var hN2 hvis hd hcd)) hg.pg hb.ps hs), sem_forK i hg.sm hb.sm⟩
end
end PL
set_option Elab.async false
set_option linter.all false
set_option maxRecDepth 100000
/-! PL50: sorted of texts and of a dict with text keys; list and len of a dict. -/
namespace PL
open PySem PySem.Spec PyProof.Rows L2
def strsD : List D → Option (List Str)
  | [] => some []
  | .str x :: ds => (strsD ds).map (x :: ·)
  | _ :: _ => none
theorem strsD_map : ∀ xs : List Str, strsD (xs.map PyData.str) = some xs
  | [] => rfl
  | x :: xs => by simp [strsD, strsD_map xs]
theorem strsD_inv : ∀ {ds : List D} {xs : List Str}, strsD ds = some xs → ds = xs.map PyData.str
  | [], xs, e => by cases e; rfl
  | d :: ds, xs, e => by
    unfold strsD at e
    split at e
    · rename_i h; cases h
    · rename_i x ds' h
      cases h
      obtain ⟨r, e1, rfl⟩ := omap e
      rw [strsD_inv e1]; rfl
    · cases e
theorem rep_strs {S : Hp} : ∀ xs : List Str, RepDs S (xs.map PyData.str) (xs.map V.str)
  | [] => .nil
  | x :: xs => .cons (by simp only [RepD]) (rep_strs xs)
theorem strs_vals {S : Hp} : ∀ {xs : List Str} {vs : List V}, RepDs S (xs.map PyData.str) vs → vs = xs.map V.str
  | [], vs, q => by simp only [List.map_nil, RepDs] at q; exact q
  | x :: xs, vs, q => by
    simp only [List.map_cons, RepDs] at q
    obtain ⟨v, r, rfl, q1, q2⟩ := q
    simp only [RepD] at q1
    rw [q1, strs_vals q2]; rfl
/-- a ≤ b, as texts -/
def leS (a b : Str) : Bool := !ltCps b.cps.toList a.cps.toList
theorem leS_iff {a b : Str} : leS a b = true ↔ ¬ b.cps.toList < a.cps.toList := by
  unfold leS
  rw [ltCps_eq]; simp
def sortS (xs : List Str) : List Str := xs.mergeSort leS
theorem leS_trans (a b c : Str) (h1 : leS a b = true) (h2 : leS b c = true) : leS a c = true := by
  rw [leS_iff] at *
  rw [List.not_lt] at *
  exact List.le_trans h1 h2
theorem leS_total (a b : Str) : (leS a b || leS b a) = true := by
  rw [Bool.or_eq_true, leS_iff, leS_iff, List.not_lt, List.not_lt]
  exact List.le_total _ _
theorem leS_anti {a b : Str} (h1 : leS a b = true) (h2 : leS b a = true) : a = b := by
  rw [leS_iff, List.not_lt] at *
  have := List.le_antisymm h1 h2
  obtain ⟨x⟩ := a
  obtain ⟨y⟩ := b
  exact congrArg Str.mk (Array.toList_inj.mp this)
theorem sortS_perm (xs : List Str) : (sortS xs).Perm xs := List.mergeSort_perm _ _
theorem sortS_sorted (xs : List Str) : (sortS xs).Pairwise (fun a b => leS a b = true) := List.pairwise_mergeSort leS_trans leS_total xs
theorem rising_pw : ∀ (l : List Str) (p : Str), risingS p l = true → (p :: l).Pairwise (fun a b => leS a b = true)
  | [], p, _ => by simp
  | x :: r, p, h => by
    simp only [risingS, Bool.and_eq_true] at h
    have ih := rising_pw r x h.2
    refine List.pairwise_cons.mpr ⟨fun y hy => ?_, ih⟩
    have h1 : leS p x = true := h.1
    rcases List.mem_cons.mp hy with e | hy
    · rw [e]; exact h1
    · exact leS_trans _ _ _ h1 ((List.pairwise_cons.mp ih).1 y hy)
theorem sorted_pw {l : List Str} (h : sortedS l = true) : l.Pairwise (fun a b => leS a b = true) := by
  cases l with
  | nil => exact .nil
  | cons x r => exact rising_pw r x h
theorem sortS_eq {xs ys : List Str} (h1 : ys.Perm xs) (h2 : ys.Pairwise (fun a b => leS a b = true)) : ys = sortS xs :=
  List.Perm.eq_of_pairwise (fun a b _ _ x y => leS_anti x y) h2 (sortS_sorted xs) (h1.trans (sortS_perm xs).symm)
theorem sortS_iff {xs ys : List Str} : sortS xs = sortS ys ↔ xs.Perm ys := by
  constructor
  · intro h
    exact (sortS_perm xs).symm.trans (h ▸ sortS_perm ys)
  · intro h
    exact sortS_eq ((sortS_perm xs).trans h) (sortS_sorted xs)
/-! ### sorted(texts) -/
def rSortSA (K : PySem.W.Frag) : List V → Hp → VK → Prop := fun args H Q => ∃ (a : Addr) (xs : List Str), args = [V.ref a] ∧ SqL K H a (xs.map V.str) ∧ ∀ (ys : List Str) (p : Addr), ys.Perm xs → sortedS ys = true → H p = none → Q (.ref p) (upd H p (.lst (ys.map V.str)))
theorem cr_sortSA {X : Cx} : CallR X (.builtin "sorted") (rSortSA X.K) := fun pins s σ H args us Q inv rel ⟨a, xs, e, sq, q⟩ => by
  subst e
  obtain ⟨its, rv, pl, hz⟩ := inv.list sq
  rw [Vals.ref1 rel]
  have lx : xs.length = its.length := by
    have := rv.length
    rwa [List.length_map] at this
  have zx : xs.length ≤ sizeLine := by rwa [List.length_map] at hz
  refine PyProof.Rows.sorted_strsAny pl.isList rv.strs (by rw [← lx]; exact zx) fun out ys h1 h2 h3 => ?_
  obtain ⟨ep, at'⟩ := PyProof.Rows.sortedAll_at s.heap its out
  exact ⟨.ref _, upd H (s.heap.objs.size + 1) (.lst (ys.map V.str)), inv.laid (t' := s.toks) (fun _ _ => PyProof.Rows.sortedAll_old) (Nat.le_succ _) ⟨by rw [List.length_map, h2.length_eq]; exact zx, out.toList, ep, vals_of_strs h1, at'⟩, rfl, q ys _ h2 h3 (inv.hok.fresh (Nat.le_succ _))⟩
def fSortSt : List T → Option T := f1 fun t => (t.lits.bind strsD).bind fun xs => some (.ol ((sortS xs).map PyData.str))
theorem sem_sortSt {K : PySem.W.Frag} : SemC K (rSortSA K) fSortSt := by
  intro S H ts vs Q t i q e R
  obtain ⟨x, hx, e0⟩ := f1_some e
  clear e
  subst hx
  obtain ⟨v, fp, hv, q0⟩ := views1 q
  clear q
  subst hv
  obtain ⟨xs, e1, e2⟩ := obind e0
  cases e2
  obtain ⟨ds, e3, e4⟩ := obind e1
  obtain ⟨a, vs, rfl, ha, r⟩ := lits_rep i q0 e3
  rw [strsD_inv e4] at r
  have hv := strs_vals r
  subst hv
  refine ⟨a, xs, rfl, .of ha, fun ys p hp hs hn => ?_⟩
  rw [sortS_eq hp (sorted_pw hs)]
  exact R.lst i (rep_strs _) hn
/-! ### sorted(dict with text keys) -/
abbrev rSortD : List V → Hp → VK → Prop := fun xs H Q => ∃ (a : Addr) (kvs : List (Key × V)) (ks : List Str), xs = [.ref a] ∧ Rd H a (.dK kvs) ∧ kvs.map (·.1) = ks.map Sum.inr ∧ ks.length < 64 ∧ ∀ ys p, ys.Perm ks → sortedS ys = true → H p = none → Q (.ref p) (upd H p (.lst (ys.map V.str)))
def fSortDk : List T → Option T := f1 fun t => t.dk.bind fun kvs => (strsD (kvs.map (·.1))).bind fun xs => if xs.length < 64 then some (.ol ((sortS xs).map PyData.str)) else none
theorem keysK_strs : ∀ {kvs : List (D × D)} {xs : List Str}, strsD (kvs.map (·.1)) = some xs → keysK kvs = true
  | [], _, _ => rfl
  | p :: kvs, xs, e => by
    have h := strsD_inv e
    cases xs with
    | nil => cases h
    | cons x xs =>
      simp only [List.map_cons, List.cons.injEq] at h
      unfold keysK
      rw [List.all_cons, h.1]
      have : strsD (kvs.map (·.1)) = some xs := by rw [h.2, strsD_map]
      exact keysK_strs this
theorem keys_inr : ∀ {kk : List (Key × V)} {xs : List Str}, xs.map PyData.str = kk.map (fun p => kD p.1) → kk.map (·.1) = xs.map Sum.inr
  | [], [], _ => rfl
  | [], _ :: _, e => by cases e
  | _ :: _, [], e => by cases e
  | p :: kk, x :: xs, e => by
    simp only [List.map_cons, List.cons.injEq] at e
    have h : p.1 = Sum.inr x := by
      have h1 := e.1
      cases hp : p.1 with
      | inl i => rw [hp] at h1; cases h1
      | inr y => rw [hp] at h1; cases h1; rfl
    rw [List.map_cons, List.map_cons, h, keys_inr e.2]
theorem sem_sortDk {K : PySem.W.Frag} : SemC K rSortD fSortDk := by
  intro S H ts vs Q t i q e R
  obtain ⟨x, hx, e0⟩ := f1_some e
  clear e
  subst hx
  obtain ⟨v, fp, hv, q0⟩ := views1 q
  clear q
  subst hv
  obtain ⟨kvs, e1, e2⟩ := obind e0
  obtain ⟨xs, e3, e2⟩ := obind e2
  split at e2
  · rename_i hl
    cases e2
    obtain ⟨a, vs, rfl, ha, r⟩ := dk_rep i q0 e1
    obtain ⟨kk, o1, o2, rfl⟩ := dcF_keys ha (keysK_strs e3)
    rw [strsD_inv e3] at o2
    refine ⟨a, kk, xs, rfl, o1, keys_inr o2, hl, fun ys p hp hs hn => ?_⟩
    rw [sortS_eq hp (sorted_pw hs)]
    exact R.lst i (rep_strs _) hn
  · cases e2
def fSrtB (ts : List T) : Option T := (fSrtA ts).or ((fSortSt ts).or (fSortDk ts))
abbrev rSrtB (K : PySem.W.Frag) : List V → Hp → VK → Prop := fun xs H Q => rSrtA K xs H Q ∨ (rSortSA K xs H Q ∨ rSortD xs H Q)
theorem cr_srtB {X : Cx} {K : PySem.W.Frag} (hc : X.calm = true) (hK : X.K = K := by rfl) : CallR X (.builtin "sorted") (rSrtB K) := by
  subst hK
  exact (cr_srtA (K := X.K)).or (cr_sortSA.or (call_sortedD hc))
theorem sem_srtB {K : PySem.W.Frag} : SemC K (rSrtB K) fSrtB := sem_srtA.or (sem_sortSt.or sem_sortDk)
theorem x_srtB {t u : T} (h : fSrtA [t] = some u) : fSrtB [t] = some u := by
  simp only [fSrtB, h, Option.or]
/-! ### list(d), len(d) -/
abbrev rListDk : List V → Hp → VK → Prop := fun xs H Q => ∃ (a : Addr) (kvs : List (Key × V)), xs = [.ref a] ∧ Rd H a (.dK kvs) ∧ ∀ p, H p = none → Q (.ref p) (upd H p (.lst (kvs.map fun kv => kV kv.1)))
def fListDk : List T → Option T := f1 fun t => t.dk.bind fun kvs => if keysK kvs = true then some (.ol (kvs.map (·.1))) else none
theorem rep_keys {S : Hp} : ∀ {kvs : List (D × D)} {kk : List (Key × V)}, kvs.map (·.1) = kk.map (fun p => kD p.1) → RepDs S (kvs.map (·.1)) (kk.map fun kv => kV kv.1)
  | [], [], _ => .nil
  | [], _ :: _, e => by cases e
  | _ :: _, [], e => by cases e
  | p :: kvs, q :: kk, e => by
    simp only [List.map_cons, List.cons.injEq] at e ⊢
    refine .cons ?_ (rep_keys e.2)
    rw [e.1]
    cases q.1 <;> simp only [kD, RepD] <;> rfl
theorem sem_listDk {K : PySem.W.Frag} : SemC K rListDk fListDk := by
  intro S H ts vs Q t i q e R
  obtain ⟨x, hx, e0⟩ := f1_some e
  clear e
  subst hx
  obtain ⟨v, fp, hv, q0⟩ := views1 q
  clear q
  subst hv
  obtain ⟨kvs, e1, e2⟩ := obind e0
  split at e2
  · rename_i hk
    cases e2
    obtain ⟨a, vs, rfl, ha, r⟩ := dk_rep i q0 e1
    obtain ⟨kk, o1, o2, rfl⟩ := dcF_keys ha hk
    exact ⟨a, kk, rfl, o1, fun p hp => R.lst i (rep_keys o2) hp⟩
  · cases e2
def fListB (ts : List T) : Option T := (fList ts).or (fListDk ts)
abbrev rListB (K : PySem.W.Frag) : List V → Hp → VK → Prop := fun xs H Q => rListOf K xs H Q ∨ rListDk xs H Q
theorem cr_listB {X : Cx} {K : PySem.W.Frag} (hc : X.calm = true) (hK : X.K = K := by rfl) : CallR X (.type "list") (rListB K) := by
  subst hK
  exact (cr_listK (K := X.K)).or (call_listD hc)
theorem sem_listB {K : PySem.W.Frag} : SemC K (rListB K) fListB := sem_list.or sem_listDk
abbrev rLenDk : List V → Hp → VK → Prop := fun xs H Q => ∃ a kvs, xs = [V.ref a] ∧ Rd H a (.dK kvs) ∧ Q (.int kvs.length) H
theorem cr_lenDk {X : Cx} : CallR X (.builtin "len") rLenDk := by
  intro pins s σ H xs us Q I r h
  obtain ⟨a, kvs, rfl, ha, q⟩ := h
  obtain ⟨u, rfl, ru⟩ := L2.vals1 r
  cases ru
  exact d_len I ha fun t s' I' => ⟨.int kvs.length, H, I', ⟨t, rfl⟩, q⟩
def fLenDk : List T → Option T := f1 fun t => t.dk.bind fun kvs => if keysK kvs = true then some (.sh (.int (kvs.length : Nat))) else none
theorem sem_lenDk {K : PySem.W.Frag} : SemC K rLenDk fLenDk := by
  intro S H ts vs Q t i q e R
  obtain ⟨x, hx, e0⟩ := f1_some e
  clear e
  subst hx
  obtain ⟨v, fp, hv, q0⟩ := views1 q
  clear q
  subst hv
  obtain ⟨kvs, e1, e2⟩ := obind e0
  split at e2
  · rename_i hk
    cases e2
    obtain ⟨a, vs, rfl, ha, r⟩ := dk_rep i q0 e1
    obtain ⟨kk, o1, o2, rfl⟩ := dcF_keys ha hk
    have hl : kvs.length = kk.length := by
      have := congrArg List.length o2
      rwa [List.length_map, List.length_map] at this
    refine ⟨a, kk, rfl, o1, ?_⟩
    rw [hl] at R
    exact R.flat i fun _ => by simp only [RepD]
  · cases e2
def fLenB (ts : List T) : Option T := (fLen ts).or (fLenDk ts)
abbrev rLenB (K : PySem.W.Frag) : List V → Hp → VK → Prop := fun xs H Q => rLenS K xs H Q ∨ rLenDk xs H Q
theorem cr_lenB {X : Cx} {K : PySem.W.Frag} (hK : X.K = K := by rfl) : CallR X (.builtin "len") (rLenB K) := by
  subst hK
  exact (cr_lenK (K := X.K)).or cr_lenDk
theorem sem_lenB {K : PySem.W.Frag} : SemC K (rLenB K) fLenB := sem_len.or sem_lenDk
section
variable {X : Cx} {W : WX} {a b e : Expr} {ta tb te : TE} {ea eb ev : En → Rs T} {pos : Pos}
theorem de_din (hu : X.A.units + 64 < cLine) (ha : DV X W a ta ea) (hb : DV X W b tb eb) (hm : behindInMarks .In b = false := by rfl) : DE X W (.Compare a [.In] [b] pos) (tDIn ta tb) (evBin (fDIn false) ea eb) [] := by
  refine ⟨pe_cmp (pc_din (by omega) ha.pe hb.pe) hm, fun E S φ ρ σ H Q I h => ?_⟩
  refine ha.sm E S φ ρ σ H _ I (h.bind.imp (fun y hy vy S1 H1 fy g1 qy => ?_) fun _ z => z)
  refine hb.sm E S1 φ ρ σ H1 _ (I.grow g1) (hy.bind.imp (fun x hx vx S2 H2 fx g2 qx => ?_) fun _ z S' H' g => z S' H' (g1.trans g))
  obtain ⟨t, et, ht⟩ := hx.rsO
  unfold fDIn at et
  obtain ⟨kvs, e1, et⟩ := obind et
  split at et
  · rename_i d
    obtain ⟨k, e3, et⟩ := obind et
    split at et
    · rename_i e4
      cases et
      obtain ⟨p, rfl, hg⟩ := get_some g2.i qx (qy.grow g2.s g2.h) e1 rfl e3 e4
      cases hv : valD kvs k with
      | some c =>
        rw [hv] at hg
        obtain ⟨v, h1, h2⟩ := hg
        exact ⟨p, some v, rfl, h1, ((RetM.ret ht).later (g1.trans g2)).flat g2.i fun _ => by rw [hv]; simp only [RepD]; rfl⟩
      | none =>
        rw [hv] at hg
        exact ⟨p, none, rfl, hg, ((RetM.ret ht).later (g1.trans g2)).flat g2.i fun _ => by rw [hv]; simp only [RepD]; rfl⟩
    · cases et
  · cases et
theorem de_dnotin (hu : X.A.units + 64 < cLine) (ha : DV X W a ta ea) (hb : DV X W b tb eb) (hm : behindInMarks .NotIn b = false := by rfl) : DE X W (.Compare a [.NotIn] [b] pos) (tDNotIn ta tb) (evBin (fDIn true) ea eb) [] := by
  refine ⟨pe_cmp (pc_dnotin (by omega) ha.pe hb.pe) hm, fun E S φ ρ σ H Q I h => ?_⟩
  refine ha.sm E S φ ρ σ H _ I (h.bind.imp (fun y hy vy S1 H1 fy g1 qy => ?_) fun _ z => z)
  refine hb.sm E S1 φ ρ σ H1 _ (I.grow g1) (hy.bind.imp (fun x hx vx S2 H2 fx g2 qx => ?_) fun _ z S' H' g => z S' H' (g1.trans g))
  obtain ⟨t, et, ht⟩ := hx.rsO
  unfold fDIn at et
  obtain ⟨kvs, e1, et⟩ := obind et
  split at et
  · rename_i d
    obtain ⟨k, e3, et⟩ := obind et
    split at et
    · rename_i e4
      cases et
      obtain ⟨p, rfl, hg⟩ := get_some g2.i qx (qy.grow g2.s g2.h) e1 rfl e3 e4
      cases hv : valD kvs k with
      | some c =>
        rw [hv] at hg
        obtain ⟨v, h1, h2⟩ := hg
        exact ⟨p, some v, rfl, h1, ((RetM.ret ht).later (g1.trans g2)).flat g2.i fun _ => by rw [hv]; simp only [RepD]; rfl⟩
      | none =>
        rw [hv] at hg
        exact ⟨p, none, rfl, hg, ((RetM.ret ht).later (g1.trans g2)).flat g2.i fun _ => by rw [hv]; simp only [RepD]; rfl⟩
    · cases et
  · cases et
end
end PL
set_option Elab.async false
set_option linter.all false
set_option maxRecDepth 100000
set_option maxHeartbeats 4000000
/-! PL52: sets of ints or texts that can be walked: their table rises. -/
namespace L2
open PySem PySem.Spec PyProof.Rows
def keyX (v : Value) : Key := match v with
  | .int k _ => .inl k
  | .str x _ => .inr x
  | _ => .inl 0
theorem keyX_of {k : Key} {v : Value} (h : keyIs k v = true) : keyX v = k := by
  rcases keyIs_shape h with ⟨i, t, rfl, rfl⟩ | ⟨x, t, rfl, rfl⟩ <;> rfl
abbrev keysX (es : Array (Int × Value)) : List Key := es.toList.map fun e => keyX e.2
/-- what an array of entries and a table are -/
structure WellX (P : Program) (w : World) (es : Array (Int × Value)) (t : SetTable) (S : Key → Bool) (n : Nat) : Prop where
  el : ElemsOf (mixKind P w) es.toList
  nd : (keysX es).Nodup
  mem : ∀ k, S k = true ↔ k ∈ keysX es
  small : es.size < scanBound
  fits : t.fits es.size = true
  size : es.size = n
  ris : Ris t.place.toList
  led : w.params.followText "set-order" = true ∨ t.led = true
def SetX (P : Program) (w : World) (h : Heap) (a : Addr) (S : Key → Bool) (n : Nat) : Prop :=
  ∃ o es ep t, h.get? a = some o ∧ o.ExactSet ∧ o.data = .set es ep t ∧ WellX P w es t S n
section
variable {P : Program} {w : World} {A : Around} {E : Value → Shared → Prop} {s : Shared} {a : Addr} {S : Key → Bool} {n : Nat}
theorem elems_key {es : List (Int × Value)} (g : ElemsOf (mixKind P w) es) (k : Key) : k ∈ es.map (fun e => keyX e.2) ↔ ∃ e ∈ es, (mixKind P w).is k e.2 = true := by
  constructor
  · intro h
    obtain ⟨e, me, ek⟩ := List.mem_map.mp h
    obtain ⟨⟨k', h1, _⟩, _⟩ := g e me
    have : keyX e.2 = k' := keyX_of h1
    exact ⟨e, me, by rw [← ek, this]; exact h1⟩
  · rintro ⟨e, me, h1⟩
    exact List.mem_map.mpr ⟨e, me, keyX_of h1⟩
/-- the entries in another order, under another table -/
theorem WellX.order {es es' : Array (Int × Value)} {t t' : SetTable} (W : WellX P w es t S n) (pm : es'.toList.Perm es.toList) (f : t'.fits es'.size = true) (r : Ris t'.place.toList) (l : t'.led = t.led) : WellX P w es' t' S n := by
  have hs : es'.size = es.size := by rw [← Array.length_toList, pm.length_eq, Array.length_toList]
  have pk : (keysX es').Perm (keysX es) := pm.map _
  exact ⟨fun e me => W.el e (pm.mem_iff.mp me), pk.nodup_iff.mpr W.nd, fun k => (W.mem k).trans pk.mem_iff.symm, by rw [hs]; exact W.small, f, hs.trans W.size, r, W.led.imp id fun z => l.trans z⟩
theorem store_wellX {b : Bool} {gv : Bool → Sem Unit} {o : Obj} {es es1 : Array (Int × Value)} {ep : Nat} {t t1 : SetTable} {R : Option Bool → Shared → Prop} (pass : ∀ (c : Bool) (s1 : Shared) (Q' : Unit → Shared → Prop), Q' () s1 → wpAny (model P w) A (gv c) Q' E s1)
    (ho : s.heap.get? a = some o) (ex : o.ExactSet) (hd : o.data = .set es ep t) (W : WellX P w es1 t1 S n) (out : ∀ h', Heap.SameBut a s.heap h' → SetX P w h' a S n → R (some true) { s with heap := h' }) :
    wpAny (model P w) A (storeSet a es1 t1 >>= fun _ => if (!b && t1.tooFull) = true then gv (relayAll t1 es1 (SetTable.grown es1.size)).2.2 >>= fun _ => storeSet a (relayAll t1 es1 (SetTable.grown es1.size)).1 (relayAll t1 es1 (SetTable.grown es1.size)).2.1 >>= fun _ => pure (some true) else pure (some true)) R E s := by
  refine wpAny_bind (wpAny_storeSet_of ho hd ?_ (fits_of_scanBound W.small))
  have got := store_at (es' := es1) (t' := t1) ho hd
  have same := Heap.SameBut.update s.heap a (Obj.putSet es1 t1)
  by_cases full : (!b && t1.tooFull) = true
  · rw [if_pos full]
    have W2 := W.order (relayAll_perm t1 es1 (SetTable.grown es1.size)) (relayAll_fits t1 es1 (SetTable.grown es1.size)) (relayAll_ris t1 es1 (SetTable.grown es1.size)) (relayAll_led t1 es1 (SetTable.grown es1.size))
    refine wpAny_bind (pass _ _ _ (wpAny_bind (wpAny_storeSet_of got rfl (wpAny_pure (out _ (same.trans (Heap.SameBut.update _ a _)) ?_)) (fits_of_scanBound W2.small))))
    exact ⟨_, _, _, _, store_at got rfl, ex, rfl, W2⟩
  · rw [if_neg full]
    exact wpAny_pure (out _ same ⟨_, _, _, _, got, ex, rfl, W⟩)
theorem newX {es es1 : Array (Int × Value)} {t t1 : SetTable} {k : Key} {v : Value} (W : WellX P w es t S n) (hk : keyIs k v = true) (sv : v.scannable = true) (room : n + 1 < scanBound) (no : S k = false)
    (pm : es1.toList.Perm ((keyH w k, v) :: es.toList)) (f : t1.fits es1.size = true) (r : Ris t1.place.toList) (l : t1.led = t.led) : WellX P w es1 t1 (fun j => S j || decide (j = k)) (n + 1) := by
  have pk : (keysX es1).Perm (k :: keysX es) := by
    have := pm.map fun e => keyX e.2
    rwa [List.map_cons, keyX_of hk] at this
  have hs : es1.size = n + 1 := by rw [← Array.length_toList, pm.length_eq, List.length_cons, Array.length_toList, W.size]
  have out : k ∉ keysX es := fun z => by rw [(W.mem k).mpr z] at no; cases no
  refine ⟨fun e me => ?_, pk.nodup_iff.mpr (List.nodup_cons.mpr ⟨out, W.nd⟩), fun j => ?_, by omega, f, hs, r, W.led.imp id fun z => l.trans z⟩
  · rcases List.mem_cons.mp (pm.mem_iff.mp me) with z | z
    · rw [z]; exact ⟨⟨k, hk, rfl⟩, sv⟩
    · exact W.el e z
  · rw [pk.mem_iff, List.mem_cons, Bool.or_eq_true, decide_eq_true_eq, W.mem j]
    exact ⟨fun z => z.symm, fun z => z.symm⟩
theorem addX {k : Key} {v : Value} {Q : Value → Shared → Prop} (hk : keyIs k v = true) (sv : v.scannable = true) (R : SetX P w s.heap a S n) (room : n + 1 < scanBound)
    (out : ∀ h', Heap.SameBut a s.heap h' → SetX P w h' a (fun j => S j || decide (j = k)) (if S k = true then n else n + 1) → Q .none { s with heap := h', toks := s.toks + 1 }) :
    wpAny (model P w) A (call (.builtin "set.add") [.ref a, v]) Q E s := by
  obtain ⟨o, es, ep, t, ho, ex, hd, W⟩ := R
  refine wpAny_call_entry F.slot_set_add ⟨o, ho, ex.1⟩ F.entry_set_add ?_ (F.args_set_add_2 _ _)
  unfold Builtin.«set.add» Builtin.Frozenset.oneOther
  simp only [List.isEmpty_nil, bind_assoc]
  unfold Builtin.Frozenset.addrOf setAdd
  refine wpAny_bind (wpAny_pure ?_)
  try dsimp only
  refine wpAny_bind (wpAny_pure ?_)
  try dsimp only
  refine wpAny_bind (wpAny_holding (wpAny_bind ((mixKind P w).pyHash hk ?_)))
  obtain ⟨s1, es1⟩ : ∃ s1 : Shared, s1 = { s with toks := s.toks + 1 } := ⟨_, rfl⟩
  suffices key : wpAny (model P w) A.in1 (setAddHashed a v ((mixKind P w).hash k)) (fun _ s' => Q .none s') E s1 by
    rw [es1] at key
    exact wpAny_mono key (fun _ s' q => wpAny_pure ⟨_, rfl, q⟩) fun _ _ z => z
  have ho1 : s1.heap.get? a = some o := by rw [es1]; exact ho
  have fin : ∀ h', Heap.SameBut a s1.heap h' → SetX P w h' a (fun j => S j || decide (j = k)) (if S k = true then n else n + 1) → Q .none { s1 with heap := h' } := fun h' sb r => by
    rw [es1] at sb ⊢
    exact out h' sb r
  unfold setAddHashed setAddHashedIn
  refine wpAny_holding (wpAny_bind (wpAny_setState_of ho1 hd W.fits ?_))
  dsimp only
  rw [byScan_of sv W.small W.el, if_pos rfl]
  unfold setAddByScan
  refine wpAny_bind (wpAny_bind (wpAny_rule (wpAny_bind (wpAny_setScan_of (knd := mixKind P w) hk ho1 hd W.fits W.el ?_))))
  have ek := elems_key (P := P) (w := w) W.el k
  cases seek : es.toList.findIdx? (fun e => (mixKind P w).is k e.2) with
  | some j =>
    obtain ⟨lt, is, _⟩ := List.findIdx?_eq_some_iff_getElem.mp seek
    have yes : S k = true := (W.mem k).mpr (ek.mpr ⟨es.toList[j], List.getElem_mem lt, is⟩)
    have same : (fun j => S j || decide (j = k)) = S := funext fun j => by
      by_cases e : j = k
      · rw [e, yes]; rfl
      · rw [decide_eq_false e, Bool.or_false]
    have q := fin s1.heap (Heap.SameBut.refl a s1.heap)
    rw [same, if_pos yes] at q
    exact wpAny_pure (wpAny_pure (q ⟨o, es, ep, t, ho1, ex, hd, W⟩))
  | none =>
    have no : S k = false := by
      cases h : S k with
      | false => rfl
      | true =>
        obtain ⟨e, me, is⟩ := ek.mp ((W.mem k).mp h)
        have := List.findIdx?_eq_none_iff.mp seek e me
        rw [is] at this; cases this
    have W1 := newX (v := v) W hk sv room no ((layNew_perm t es (keyH w k) v).trans (by rw [Array.toList_push]; exact List.perm_append_singleton _ _)) (layNew_fits t es (keyH w k) v) (layNew_ris t es (keyH w k) v W.ris) (layNew_led t es (keyH w k) v)
    rw [if_neg (by rw [no]; decide)] at fin
    have eh : (mixKind P w).hash k = keyH w k := rfl
    rw [eh]
    generalize layNew t es (keyH w k) v = Z at W1 ⊢
    obtain ⟨e1, t1, dm, gw⟩ := Z
    dsimp only at W1 ⊢
    have go : ∀ h', Heap.SameBut a s1.heap h' → SetX P w h' a (fun j => S j || decide (j = k)) (n + 1) → wpAny (model P w) A.in1 (pure true) (fun _ s' => Q .none s') E { s1 with heap := h' } := fun h' sb r => wpAny_pure (fin h' sb r)
    have off : WellX P w e1 { t1 with plain := false } (fun j => S j || decide (j = k)) (n + 1) := ⟨W1.el, W1.nd, W1.mem, W1.small, SetTable.fits_plain_off W1.fits, W1.size, W1.ris, W1.led⟩
    have pass : ∀ (c : Bool) (s2 : Shared) (Q' : Unit → Shared → Prop), Q' () s2 → wpAny (model P w) A.in1 (match c with | true => rule "set.scan.the-table-gave-way" | false => pure ()) Q' E s2 := fun c s2 Q' q => by
      cases c
      · exact wpAny_pure q
      · exact wpAny_rule q
    refine wpAny_bind (pass _ _ _ ?_)
    by_cases pl : t1.plain = true
    · rw [if_pos pl]
      refine wpAny_bind ?_
      rw [hashByValue_scannable 8 sv]
      refine wpAny_pure (store_wellX (b := dm) (t1 := if _ then t1 else { t1 with plain := false }) (fun c s2 Q' q => ?_) ho1 ex hd ?_ go)
      · cases c
        · exact wpAny_pure q
        · exact wpAny_rule q
      · split
        · exact W1
        · exact off
    · rw [if_neg pl]
      refine wpAny_bind (wpAny_pure ?_)
      simp only [↓reduceIte]
      refine store_wellX (b := dm) (fun c s2 Q' q => ?_) ho1 ex hd W1 go
      cases c
      · exact wpAny_pure q
      · exact wpAny_rule q
end
end L2
set_option Elab.async false
set_option linter.all false
set_option maxRecDepth 100000
set_option maxHeartbeats 2000000
/-! PL53: a set comprehension of ints or texts, and sorted of it. -/
namespace L2
open PySem PySem.Spec PyProof.Rows
/-- the set at a -/
def SetXO (P : Program) (w : World) (a : Addr) (S : Key → Bool) (n : Nat) : HO := .ext fun h => SetX P w h a S n
theorem setX_at {P : Program} {w : World} {h h' : Heap} {a : Addr} {S : Key → Bool} {n : Nat} (R : SetX P w h a S n) (k : ∀ o, h.get? a = some o → h'.get? a = some o) : SetX P w h' a S n :=
  R.imp fun o ⟨es, ep, t, ho, r⟩ => ⟨es, ep, t, k o ho, r⟩
theorem setX_new {w : World} {P : Program} {H : Hp} {h : Heap} {a : Addr} {S : Key → Bool} {n : Nat} (R : SetX P w h a S n) : ObjOk P w H h a (SetXO P w a S n) :=
  ⟨R, R.imp fun _ ⟨_, _, _, ho, _⟩ => ho, fun h1 h2 p k => setX_at p k⟩
theorem emptyX {P : Program} {w : World} : WellX P w #[] (.fresh 0 0 (!w.params.followText "set-order")) (fun _ => false) 0 := by
  refine ⟨fun e me => by simp at me, .nil, fun k => by simp [keysX], by decide, rfl, rfl, .nil, ?_⟩
  cases h : w.params.followText "set-order" with
  | true => exact .inl rfl
  | false => exact .inr rfl
/-- s.add(k) -/
def rSAddX (P : Program) (w : World) : V → List V → Hp → VK → Prop := fun x xs H Q => ∃ (a : Addr) (k : Key) (S : Key → Bool) (n : Nat), x = V.ref a ∧ xs = [kV k] ∧ H a = some (SetXO P w a S n) ∧ n + 1 < scanBound ∧
  Q .non (upd H a (SetXO P w a (fun j => S j || decide (j = k)) (if S k = true then n else n + 1)))
theorem mt_saddX {X : Cx} : MtR X "set.add" (rSAddX X.prog X.w) := fun pins s σ H x xs v us Q inv rx rxs ⟨a, k, S, n, e1, e2, ha, room, q⟩ => by
  subst e1 e2
  cases rx
  cases rxs with
  | cons ry rt =>
    cases rt
    refine addX (kV_is (P := X.prog) (w := X.w) ry) (key_scan ry) (inv.hok a _ ha).1 room fun h' sb R => ?_
    exact ⟨.non, _, inv.write (e := a) (t' := s.toks + 1) (by rw [ha]; trivial) (.inl rfl) (fun b u hb hu => (sb.2 b hb).trans hu) (R.imp fun _ ⟨_, _, _, ho, _⟩ => ho) (setX_new R), rfl, q⟩
/-- the set's state: which keys, how many -/
def tScX (P : Program) (w : World) (wi : TI) (g : TG) (tt : TT) (te : TE) (vs : List Nat) : TE := fun σ H Q => wi σ H fun J H1 => ∀ D, H1 D = none →
  ∃ Z : Nat → Nat → Hp → Prop, (∃ m, Z 0 m (upd H1 D (SetXO P w D (fun _ => false) 0))) ∧
    ∀ i m H2, Z i m H2 → (J.stop i H2 ∧ Q (.ref D) H2) ∨ (J.go i H2 ∧ ∃ Y : Hp → Prop, (∀ H3, Y H3 → ∃ m', m' < m ∧ Z (i + 1) m' H3) ∧
      ∀ x H3, J.yld i H2 x H3 → g x (wipe σ vs) H3 fun σ4 H4 => wipe σ4 vs = wipe σ vs ∧ tt σ4 H4 fun b H5 => if b = true then te σ4 H5 (fun y H6 => rSAddX P w (.ref D) [y] H6 fun _ H7 => Y H7) else Y H5)
section
variable {X : Cx}
theorem pe_scX {elt tg iter : Expr} {ifs : List Expr} {scope : Scope} {own : List (PySem.Str × Nat)} {pos : Pos} {wi : TI} {g : TG} {tt : TT} {te : TE} (cm : X.calm = true) (nd : X.N.Nodup) (hi : PI X tg iter wi) (ok : BlkOk X.N X.env.scope scope own)
    (hg : ∀ (s : Shared) (H : Hp) (C : Addr) (cc : List (PySem.Str × Addr)) (fp : List Addr), PG (X.blk s H scope (compEnvC scope cc C X.env) fp) tg g) (ht : ∀ (s : Shared) (H : Hp) (C : Addr) (cl : List (PySem.Str × Addr)) (fp : List Addr), PTs (X.blk s H scope (compEnvC scope cl C X.env) fp) ifs tt)
    (he : ∀ (s : Shared) (H : Hp) (C : Addr) (cc : List (PySem.Str × Addr)) (fp : List Addr), PE (X.blk s H scope (compEnvC scope cc C X.env) fp) elt te) (hs : ∀ x, foldedSetIterable iter X.env x = pure x := by intro _; rfl) :
    PE X (.SetComp elt [⟨tg, iter, ifs, 0⟩] scope pos) (tScX X.prog X.w wi g tt te (own.map (·.2))) := by
  refine ⟨fun pins s σ H Q inv hw => ?_⟩
  rw [PpSet.eval_SetComp]
  have caught : ∀ y ∈ scope.names, y.2 = .free → ∃ c, X.env.cells.lookup y.1 = some c := fun y my ey => (ok.free y my ey).elim (fun z => inv.ok.has _ (.inl z)) fun z => inv.ok.has _ (.inr z)
  refine wpAny_comprehension_free (use := none) rfl hs (closure_ok caught) ok.kind (fun y my ey => (ok.uniq y my).trans (congrArg some ey)) ?_
  refine thn (hi.run pins s σ H _ inv hw) fun xv sa hxv => thn hxv fun itv sb ⟨ia, F, tn, J, Hb, eia, invb, turn, at0, frees, reads⟩ => ?_
  subst eia
  apply PpSet.newSet_ok
  apply newEnv_comp
  generalize eD : sb.heap.objs.size = D
  have freeD : Hb D = none := invb.hok.fresh (Nat.le_of_eq eD)
  obtain ⟨Z, ⟨mz, z0⟩, step⟩ := reads D freeD
  let emp : Obj := { cls := .type "set", dict := none, data := .set #[] 0 (.fresh 0 0 (!X.w.params.followText "set-order")) }
  obtain ⟨sc, esc⟩ : ∃ sc : Shared, sc = { sb with heap := sb.heap.push emp } := ⟨_, rfl⟩
  have hpc : sc.heap = sb.heap.push emp := by rw [esc]
  have isnew : SetX X.prog X.w sc.heap D (fun _ => false) 0 := by
    rw [hpc, ← eD]
    exact ⟨_, #[], 0, _, Heap.get?_push_size _ rfl, ⟨rfl, rfl, rfl⟩, rfl, emptyX⟩
  obtain ⟨Hc, eHc⟩ : ∃ Hc : Hp, Hc = upd Hb D (SetXO X.prog X.w D (fun _ => false) 0) := ⟨_, rfl⟩
  have invc : Inv X pins σ Hc sc := by
    rw [eHc, esc]
    refine invb.laid (t' := sb.toks) (fun b o e => Heap.get?_push_of_some _ e) (Nat.le_of_eq eD) (setX_new ?_)
    rw [← hpc]; exact isnew
  have below : ∀ b ∈ F, b < sb.heap.objs.size := fun b mb => Heap.lt_size (turn.obj _ _ at0 b mb).choose_spec.1
  have freesc : ∀ b ∈ F, FpOk X pins Hc b ∧ b < sc.heap.objs.size := fun b mb => by
    have lb := below b mb
    refine ⟨⟨?_, (frees b mb).2⟩, by rw [hpc, Heap.size_push]; exact Nat.lt_succ_of_lt lb⟩
    rw [eHc, upd_ne (fun e => absurd lb (by rw [e, ← eD]; exact Nat.lt_irrefl _))]; exact (frees b mb).1
  have atc : tn 0 sc.heap := turn.keep _ _ _ at0 fun b _ o e => by rw [hpc]; exact Heap.get?_push_of_some _ e
  have invd := block_start invc ok nd freesc
  rw [eHc] at invd
  rw [← eHc] at invd
  have esb : ({ sb with heap := sb.heap.push emp } : Shared) = sc := esc.symm
  have main : ∀ ce : Env, ce = compEnvC scope (cellsFrom (sc.heap.objs.size + 1) scope.names (cloFrom X.env.cells scope.names [])) sc.heap.objs.size X.env → ∀ sd : Shared, sd = { sc with heap := pushCells (sc.heap.push { cls := .type "dict", data := .dict #[] }) scope.names } →
      codeAny (model X.prog X.w) X.A (.compStart (.SetComp elt [⟨tg, iter, ifs, 0⟩] scope pos) 0 (.ref ia) (.ref D) ce) (compPost (model X.prog X.w) X.A X.xe none (EP X pins σ Q) (.ref D) sc.heap.objs.size) sd := fun ce ece sd esd => by
    have invd : Inv (X.blk sc Hc scope ce F) [] (wipe σ (own.map (·.2))) Hc sd := by rw [ece, esd]; exact invd
    have gB := hg sc Hc sc.heap.objs.size (cellsFrom (sc.heap.objs.size + 1) scope.names (cloFrom X.env.cells scope.names [])) F
    have tB := ht sc Hc sc.heap.objs.size (cellsFrom (sc.heap.objs.size + 1) scope.names (cloFrom X.env.cells scope.names [])) F
    have eB := he sc Hc sc.heap.objs.size (cellsFrom (sc.heap.objs.size + 1) scope.names (cloFrom X.env.cells scope.names [])) F
    rw [← ece] at gB tB eB
    have loc : ce.locals = sc.heap.objs.size := by rw [ece]; rfl
    have atd : tn 0 sd.heap := turn.keep _ _ _ atc fun b _ o e => by rw [esd]; exact pushCells_keeps _ _ _ _ (Heap.get?_push_of_some _ e)
    have noF : ∀ b ∈ F, Hc b = none := fun b mb => (freesc b mb).1.1
    have fpB : ∀ {σ' : L2.St} {H' : Hp} {s' : Shared}, Inv (X.blk sc Hc scope ce F) [] σ' H' s' → (∀ b ∈ F, H' b = none) → ∀ b ∈ F, FpOk (X.blk sc Hc scope ce F) [] H' b := fun {σ' H' s'} inv' no' b mb =>
      ⟨no' b mb, (inv'.ok.exf b mb).1, inv'.ok.exfs b mb, .inl mb, fun x c e => (inv'.ok.exf b mb).2 x c e, fun p mp => absurd (show p ∈ ([] : List (Addr × Obj)) ++ [] from mp) (by simp)⟩
    have loop : codeAny (model X.prog X.w) X.A (.compLoop (.SetComp elt [⟨tg, iter, ifs, 0⟩] scope pos) 0 (.ref ia) (.ref D) ce) (compPost (model X.prog X.w) X.A X.xe none (EP X pins σ Q) (.ref D) sc.heap.objs.size) sd := by
      refine PpSet.compLoopS_any (fun k s' => ∃ i H', Inv (X.blk sc Hc scope ce F) [] (wipe σ (own.map (·.2))) H' s' ∧ tn i s'.heap ∧ (∀ b ∈ F, H' b = none) ∧ Z i k H') ?_ mz ⟨0, Hc, invd, atd, noF, by rw [eHc]; exact z0⟩
      rintro k s5 ⟨i, H5, inv5, at5, no5, zk⟩
      rcases step i k H5 zk with ⟨halt, hq⟩ | ⟨more, Y, down, each⟩
      · refine thnF (turn.done (X.blk sc Hc scope ce F) rfl rfl rfl cm i [] s5 _ H5 (fun _ _ => False) inv5 (fpB inv5 no5) at5 halt) fun r s6 ⟨er, inv6⟩ => ?_
        subst er
        have inv7 : Inv X pins σ H5 s6 := invc.call' (ch := F) inv6.os inv6.base inv6.hok inv6.bare fun b mb => ⟨(freesc b mb).1.2.2.2.1, (freesc b mb).1.2.1, (freesc b mb).1.2.2.2.2.1, (freesc b mb).1.2.2.2.2.2⟩
        have noC : H5 sc.heap.objs.size = none := by
          have := inv6.free
          rw [← loc]; exact this
        obtain ⟨m, hns, _⟩ := inv6.loc
        have hns : s6.heap.Ns ce.locals m := hns
        rw [loc] at hns
        have fpC := invc.fpOk (Nat.le_refl _) noC
        exact ⟨m, hns, fun h'' same => ⟨.ref D, H5, inv7.turned (t' := s6.toks) (fun b o nb e => (same.2 b nb).trans e) fpC.1 fpC.2.1 fpC.2.2.2.1 fpC.2.2.2.2.1 fpC.2.2.2.2.2, rfl, hq⟩⟩
      · refine thnF (turn.item (X.blk sc Hc scope ce F) rfl rfl rfl cm i [] s5 _ H5 (fun _ _ => False) inv5 (fpB inv5 no5) at5 more) fun r s6 ⟨u, er, nxt⟩ => ?_
        subst er
        refine thnF nxt fun _ s7 ⟨x, H7, inv7, rel7, yl7, at7, no7⟩ => ?_
        have inv7p := inv7.pinned (fpB inv7 no7) (turn.obj _ _ at7)
        refine thnF (gB.run _ s7 _ H7 x u _ inv7p rel7 (each x H7 yl7)) fun _ s8 ⟨σ8, H8, inv8, wip8, rd8⟩ => ?_
        refine thnF (tB.run _ s8 σ8 H8 _ inv8 rd8) fun b s9 ⟨H9, inv9, rd9⟩ => ?_
        have turnEnd : ∀ {s' : Shared} {H' : Hp}, Inv (X.blk sc Hc scope ce F) ([] ++ pinsAt F s7.heap) σ8 H' s' → Y H' → ∃ m, m < k ∧ ∃ i H', Inv (X.blk sc Hc scope ce F) [] (wipe σ (own.map (·.2))) H' s' ∧ tn i s'.heap ∧ (∀ b ∈ F, H' b = none) ∧ Z i m H' := fun {s' H'} inv' hy => by
          obtain ⟨m', lt', z'⟩ := down H' hy
          have pinned : ∀ b ∈ F, ∀ o, s7.heap.get? b = some o → s'.heap.get? b = some o ∧ H' b = none := fun b mb o e =>
            have t := inv'.pin (b, o) (List.mem_append_right _ (List.mem_append_right _ (mem_pinsAt mb e)))
            ⟨t.1, t.2.1⟩
          refine ⟨m', lt', i + 1, H', (inv'.unpinned (pins := [])).weak ((congrArg List.length wip8).symm.trans (wipe_length _ _)) (fun j v e => (wipe_some (by rw [wip8]; exact e)).1), turn.keep _ _ _ at7 fun b mb o e => (pinned b mb o e).1, fun b mb => ?_, z'⟩
          obtain ⟨o, e, _⟩ := turn.obj _ _ at7 b mb
          exact (pinned b mb o e).2
        cases b with
        | false =>
          rw [if_neg (by decide)] at rd9 ⊢
          exact turnEnd inv9 rd9
        | true =>
          rw [if_pos rfl] at rd9 ⊢
          refine thnF (eB.run _ s9 σ8 H9 _ inv9 rd9) fun z sA ⟨yv, HA, invA, relA, adds⟩ => ?_
          exact thnF (mt_saddX (X := X.blk sc Hc scope ce F) _ sA σ8 HA (.ref D) [yv] (.ref D) [z] _ invA rfl (.cons relA .nil) adds) fun _ sB ⟨_, HB, invB, _, hy⟩ => turnEnd invB hy
    exact PpSet.codeAny_compStart_set loop (turn.self X.A 0 _ _ _ atd loop)
  have := main _ rfl _ rfl
  rw [← esb] at this
  exact this
/-- sorted(s): of ints, or of texts -/
def rSortX (P : Program) (w : World) : List V → Hp → VK → Prop := fun vs H Q => ∃ (a : Addr) (S : Key → Bool) (n : Nat), vs = [V.ref a] ∧ H a = some (SetXO P w a S n) ∧ n < 64 ∧
  ((∃ ks : List Int, (∀ k, S k = true ↔ ∃ i ∈ ks, k = .inl i) ∧ ∀ (ns : List Int) (p : Addr), ns.Pairwise (· ≤ ·) → ns.Nodup → (∀ i, i ∈ ns ↔ i ∈ ks) → H p = none → Q (.ref p) (upd H p (.lst (ns.map V.int)))) ∨
   ∃ ks : List Str, (∀ k, S k = true ↔ ∃ x ∈ ks, k = .inr x) ∧ ∀ (ys : List Str) (p : Addr), sortedS ys = true → ys.Nodup → (∀ x, x ∈ ys ↔ x ∈ ks) → H p = none → Q (.ref p) (upd H p (.lst (ys.map V.str))))
theorem intsX {vs : List Value} (h : ∀ v ∈ vs, ∃ i t, v = Value.int i t) : ∃ is : List Int, IntsAre vs is ∧ vs.map keyX = is.map Sum.inl := by
  refine ⟨vs.map Builtin.Re.reRawOf, ints_of vs h, ?_⟩
  rw [List.map_map]
  refine List.map_congr_left fun v mv => ?_
  obtain ⟨i, t, rfl⟩ := h v mv
  rfl
theorem strsX : ∀ {vs : List Value}, (∀ v ∈ vs, ∃ x t, v = Value.str x t) → ∃ xs : List Str, StrsAre vs xs ∧ vs.map keyX = xs.map Sum.inr
  | [], _ => ⟨[], .nil, rfl⟩
  | v :: vs, h => by
    obtain ⟨x, t, rfl⟩ := h v List.mem_cons_self
    obtain ⟨xs, h1, h2⟩ := strsX fun u mu => h u (List.mem_cons_of_mem _ mu)
    exact ⟨x :: xs, by constructor; exact h1, by rw [List.map_cons, List.map_cons, h2]; rfl⟩
theorem nodup_inj {α β : Type} {f : α → β} {l : List α} (h : (l.map f).Nodup) : l.Nodup := by
  induction l with
  | nil => exact .nil
  | cons a l ih =>
    rw [List.map_cons, List.nodup_cons] at h
    exact List.nodup_cons.mpr ⟨fun z => h.1 (List.mem_map.mpr ⟨a, z, rfl⟩), ih h.2⟩
theorem cr_sortX (cm : X.calm = true) : CallR X (.builtin "sorted") (rSortX X.prog X.w) := by
  intro pins s σ H args us Q inv rel h
  obtain ⟨a, S, n, ea, ha, small, branch⟩ := h
  subst ea
  obtain ⟨u, eu, ru⟩ := vals1 rel
  subst eu
  cases ru
  obtain ⟨o, es, ep, t, ho, ex, hd, W⟩ := (inv.hok a _ ha).1
  refine Calls.call_function_entry kind_sorted plain_sorted entry_sorted (args_sorted1 _) (?_ : _)
  unfold Builtin.«sorted»
  refine wpAny_bind (m := checkCount "sorted" 1 1 _) (wpAny_pure (wpAny_bind (collect_set (A := X.A.in1) (inv.ok.hd cm) ⟨o, ho, ex.1, hd⟩ W.fits W.small W.ris W.led fun s1 vs kept sz eg eo pm => ?_)))
  have inv1 : Inv X pins σ H s1 := inv.call' (ch := []) eo (Un.kept kept) (inv.hok.kept kept) (by rw [eg]; exact inv.bare) fun _ z => nomatch z
  have len : vs.length = n := by rw [pm.length_eq, List.length_map, Array.length_toList, W.size]
  have fits : vs.length ≤ sizeLine := by rw [len, sizeLine_eq]; omega
  have pk : (vs.map keyX).Perm (keysX es) := by
    have := pm.map keyX
    rwa [List.map_map] at this
  have ndk : (vs.map keyX).Nodup := pk.nodup_iff.mpr W.nd
  have each : ∀ v ∈ vs, ∃ k, keyIs k v = true ∧ S k = true := fun v mv => by
    obtain ⟨e, me, ev⟩ := List.mem_map.mp (pm.mem_iff.mp mv)
    obtain ⟨⟨k, hk, _⟩, _⟩ := W.el e me
    refine ⟨k, by rw [← ev]; exact hk, (W.mem k).mpr (List.mem_map.mpr ⟨e, me, keyX_of hk⟩)⟩
  have memk : ∀ k, k ∈ vs.map keyX ↔ S k = true := fun k => pk.mem_iff.trans (W.mem k).symm
  refine wpAny_bind (wpAny_newList ?_ fits)
  have hL : (s1.heap.push (seqObj "list" vs.toArray 0)).get? s1.heap.objs.size = some (seqObj "list" vs.toArray 0) := Heap.get?_push_size _ rfl
  have old : ∀ (out : Array Value) (b : Addr) (ob : Obj), s1.heap.get? b = some ob → (sortedHeap (s1.heap.push (seqObj "list" vs.toArray 0)) s1.heap.objs.size vs out).get? b = some ob := fun out b ob eb => by
    have lb : b < s1.heap.objs.size := Heap.lt_size eb
    rw [sortedHeap_old (Nat.ne_of_lt lb) (by rw [size_push']; exact Nat.lt_succ_of_lt lb)]
    exact Heap.get?_push_of_some _ eb
  rcases branch with ⟨ks, hS, q⟩ | ⟨ks, hS, q⟩
  · obtain ⟨is, hi, ek⟩ := intsX (vs := vs) fun v mv => by
      obtain ⟨k, h1, h2⟩ := each v mv
      obtain ⟨i, _, rfl⟩ := (hS k).mp h2
      obtain ⟨t, e⟩ := Value.isInt_shape (k := i) (v := v) h1
      exact ⟨i, t, e⟩
    have li : is.length = vs.length := hi.length.symm
    refine wpAny_bind (wpAny_holding (wpAny_call_entry slot_list_sort ⟨_, hL, rfl⟩ entry_list_sort (list_sort_tree hL hi (by rw [len]; exact small) fun out ns h1 h2 h3 => ⟨_, rfl, ?_⟩) (args_list_sort _)))
    obtain ⟨c, hc⟩ := sortedHeap_at (vs := vs) (out := out) hL
    have nd : ns.Nodup := h2.nodup_iff.mpr (nodup_inj (f := Sum.inl) (by rw [← ek]; exact ndk))
    have mm : ∀ i, i ∈ ns ↔ i ∈ ks := fun i => by
      rw [h2.mem_iff]
      have z := memk (.inl i)
      rw [ek, hS] at z
      constructor
      · intro hi2
        obtain ⟨j, mj, e⟩ := z.mp (List.mem_map.mpr ⟨i, hi2, rfl⟩)
        cases e; exact mj
      · intro hi2
        obtain ⟨j, mj, e⟩ := List.mem_map.mp (z.mpr ⟨i, hi2, rfl⟩)
        cases e; exact mj
    have ll : (ns.map V.int).length ≤ sizeLine := by rw [List.length_map, h2.length_eq, li]; exact fits
    exact wpAny_pure ⟨_, rfl, .ref s1.heap.objs.size, upd H s1.heap.objs.size (.lst (ns.map V.int)), inv1.laid (t' := s1.toks) (old out) (Nat.le_refl _) ⟨ll, out.toList, c, vals_of_ints h1, hc⟩, rfl, q ns _ h3 nd mm (inv1.hok.fresh (Nat.le_refl _))⟩
  · obtain ⟨xs, hx, ek⟩ := strsX (vs := vs) fun v mv => by
      obtain ⟨k, h1, h2⟩ := each v mv
      obtain ⟨x, _, rfl⟩ := (hS k).mp h2
      obtain ⟨t, e⟩ := Value.isStrOf_shape (x := x) (v := v) h1
      exact ⟨x, t, e⟩
    have lx : xs.length = vs.length := by
      have := congrArg List.length ek
      rw [List.length_map, List.length_map] at this
      exact this.symm
    refine wpAny_bind (wpAny_holding (wpAny_call_entry slot_list_sort ⟨_, hL, rfl⟩ entry_list_sort (list_sort_treeK strKind_oneLt hL hx.keysOf (fun v₁ v₂ rest e => keyKind_strs (by rw [← e]; exact hx)) (by rw [len]; exact small) fun st' hp hs => ⟨_, rfl, ?_⟩) (args_list_sort _)))
    obtain ⟨ys, g1, g2, g3⟩ := sorted_out_str hx hp hs
    obtain ⟨c, hc⟩ := sortedHeap_at (vs := vs) (out := (arrOf st').map (·.2)) hL
    have nd : ys.Nodup := g2.nodup_iff.mpr (nodup_inj (f := Sum.inr) (by rw [← ek]; exact ndk))
    have mm : ∀ x, x ∈ ys ↔ x ∈ ks := fun x => by
      rw [g2.mem_iff]
      have z := memk (.inr x)
      rw [ek, hS] at z
      constructor
      · intro hi2
        obtain ⟨j, mj, e⟩ := z.mp (List.mem_map.mpr ⟨x, hi2, rfl⟩)
        cases e; exact mj
      · intro hi2
        obtain ⟨j, mj, e⟩ := List.mem_map.mp (z.mpr ⟨x, hi2, rfl⟩)
        cases e; exact mj
    have ll : (ys.map V.str).length ≤ sizeLine := by rw [List.length_map, g2.length_eq, lx]; exact fits
    exact wpAny_pure ⟨_, rfl, .ref s1.heap.objs.size, upd H s1.heap.objs.size (.lst (ys.map V.str)), inv1.laid (t' := s1.toks) (old _) (Nat.le_refl _) ⟨ll, ((arrOf st').map (·.2)).toList, c, vals_of_strs g1, hc⟩, rfl, q ys _ g3 nd mm (inv1.hok.fresh (Nat.le_refl _))⟩
end
end L2
set_option Elab.async false
set_option linter.all false
set_option maxRecDepth 100000
set_option maxHeartbeats 4000000
/-! PL54: sorted({e for .. in .. if ..}), e ints or texts. -/
namespace PL
open PySem PySem.Spec L2
section
variable {α β : Type} [DecidableEq α] [DecidableEq β]
def dedG : List α → List α
  | [] => []
  | a :: l => if a ∈ l then dedG l else a :: dedG l
theorem dedG_mem : ∀ (l : List α) (x : α), x ∈ dedG l ↔ x ∈ l
  | [], x => Iff.rfl
  | a :: l, x => by
    unfold dedG
    have ih := dedG_mem l x
    split
    · rename_i h
      rw [ih, List.mem_cons]
      exact ⟨.inr, fun z => z.elim (fun e => e ▸ h) id⟩
    · rw [List.mem_cons, List.mem_cons, ih]
theorem dedG_nd : ∀ l : List α, (dedG l).Nodup
  | [] => .nil
  | a :: l => by
    unfold dedG
    split
    · exact dedG_nd l
    · rename_i h
      exact List.nodup_cons.mpr ⟨fun z => h ((dedG_mem l a).mp z), dedG_nd l⟩
theorem dedG_map {f : α → β} (inj : ∀ x y, f x = f y → x = y) : ∀ l : List α, dedG (l.map f) = (dedG l).map f
  | [] => rfl
  | a :: l => by
    rw [List.map_cons]
    unfold dedG
    have e : (f a ∈ l.map f) ↔ a ∈ l := ⟨fun z => by
      obtain ⟨y, my, ey⟩ := List.mem_map.mp z
      exact inj _ _ ey ▸ my, fun z => List.mem_map.mpr ⟨a, z, rfl⟩⟩
    by_cases h : a ∈ l
    · rw [if_pos h, if_pos (e.mpr h)]; exact dedG_map inj l
    · rw [if_neg h, if_neg (fun z => h (e.mp z)), List.map_cons, dedG_map inj l]
theorem ndG_len : ∀ {a b : List α}, a.Nodup → (∀ x ∈ a, x ∈ b) → a.length ≤ b.length
  | [], _, _, _ => Nat.zero_le _
  | x :: a, b, h, hs => by
    rw [List.nodup_cons] at h
    have hb : x ∈ b := hs x List.mem_cons_self
    have := ndG_len (b := b.erase x) h.2 fun y hy => (List.mem_erase_of_ne (a := y) (b := x) (fun z => h.1 (z ▸ hy))).mpr (hs y (List.mem_cons_of_mem _ hy))
    rw [List.length_erase_of_mem hb] at this
    have : 0 < b.length := List.length_pos_of_mem hb
    rw [List.length_cons]; omega
theorem dedG_snoc (l : List α) (a : α) : (dedG (l ++ [a])).length = if a ∈ l then (dedG l).length else (dedG l).length + 1 := by
  split
  · rename_i h
    exact ((List.perm_ext_iff_of_nodup (dedG_nd _) (dedG_nd _)).mpr fun x => by
      rw [dedG_mem, dedG_mem, List.mem_append, List.mem_singleton]
      exact ⟨fun z => z.elim id fun e => e ▸ h, .inl⟩).length_eq
  · rename_i h
    have : (dedG (l ++ [a])).Perm (a :: dedG l) := (List.perm_ext_iff_of_nodup (dedG_nd _) (List.nodup_cons.mpr ⟨fun z => h ((dedG_mem l a).mp z), dedG_nd _⟩)).mpr fun x => by
      rw [dedG_mem, List.mem_append, List.mem_singleton, List.mem_cons, dedG_mem]
      exact Or.comm
    exact this.length_eq
theorem dedG_pre (l r : List α) : (dedG l).length ≤ (dedG (l ++ r)).length := ndG_len (dedG_nd _) fun x hx => by
  rw [dedG_mem] at hx ⊢
  exact List.mem_append_left _ hx
end
instance decMemKey (k : Key) (ks : List Key) : Decidable (k ∈ ks) := @List.instDecidableMemOfLawfulBEq Key instBEqOfDecidableEq _ k ks
def keyT : T → Option Key
  | .sh d => kOf d
  | _ => none
def keysT : List T → Option (List Key)
  | [] => some []
  | t :: ts => (keyT t).bind fun k => (keysT ts).map (k :: ·)
theorem keyT_rep {K : PySem.W.Frag} {S H : Hp} {t : T} {v : V} {fp : List Addr} {k : Key} (q : RepT K S H t v fp) (e : keyT t = some k) : v = kV k := by
  unfold keyT at e
  split at e
  · exact kD_rep e (rep_sh q)
  · cases e
/-- the keys that a set comprehension meets -/
def evKeys (ei : En → Rs (List D)) (vs : List Nat) (g : D → En → Option En) (c : En → Rs Bool) (e : En → Rs T) : En → Rs (List Key) := fun ρ =>
  (ei ρ).bind fun ds => rsO ((compL g c e (ρ.clr vs) ds).bind keysT)
theorem sem_keysC {Rp : Rel} {K : PySem.W.Frag} {mg : Str → Option Value} {W : WX} {P : Program} {w : World} {wi : TI} {ei : En → Rs (List D)} {vs as : List Nat} {g : TG} {eg : D → En → Option En} {tt : TT} {ec : En → Rs Bool} {te : TE} {ee : En → Rs T}
    (hi : SemI Rp K mg W wi ei) (hg : SemG Rp K g eg as) (ha : ∀ i ∈ as, i ∈ vs) (ht : SemB K mg W0 tt ec) (he : SemE K mg W0 te ee []) {E : Ent} {S : Hp} {φ : Nat → List Addr} {ρ : En} {σ : St} {H : Hp} {Q : VK} (I : StInv K E S φ ρ σ H)
    (h : RsOK (evKeys ei vs eg ec ee ρ) (fun ks => (dedG ks).length < 64 ∧ ∀ S' H' D, Grow S H S' H' → H' D = some (SetXO P w D (fun k => decide (k ∈ ks)) (dedG ks).length) → Q (.ref D) H') (fun c => ∀ S' H', Grow S H S' H' → XOK mg W c σ H')) : tScX P w wi g tt te vs σ H Q := by
  refine hi E S φ ρ σ H _ I (h.bind.imp (fun ds hds S0 H0 J g0 hJ D hD => ?_) fun _ z => z)
  obtain ⟨ks, eks, small, hQ⟩ := hds.rsO
  obtain ⟨tot, etot, ektot⟩ := obind eks
  have nS0 : S0 D = none := g0.i.free hD
  refine ⟨fun i m H' => m = ds.length - i ∧ i ≤ ds.length ∧ ∃ S' acc rest kr, Grow S0 H0 S' H' ∧ H' D = some (SetXO P w D (fun k => decide (k ∈ acc)) (dedG acc).length) ∧ S' D = none ∧ compL eg ec ee (ρ.clr vs) (ds.drop i) = some rest ∧ keysT rest = some kr ∧ ks = acc ++ kr,
    ⟨ds.length, by simp, Nat.zero_le _, S0, [], tot, ks, .own g0.i hD, ?_, nS0, etot, ektot, rfl⟩, ?_⟩
  · rw [upd_same]
    refine congrArg some (congrArg (fun f => SetXO P w D f 0) ?_)
    funext k
    exact (decide_eq_false (by simp)).symm
  rintro i m H' ⟨rfl, hle, S', acc, rest, kr, gg, hset, nD, er, ek, et⟩
  obtain ⟨h1, h2⟩ := hJ S' H' i gg.s gg.i
  by_cases hlt : i < ds.length
  · obtain ⟨hgo, hy⟩ := h1 ds[i] (by simp [hlt])
    rw [List.drop_eq_getElem_cons hlt] at er
    refine .inr ⟨hgo, fun H3 => ∃ S3 acc rest kr, Grow S0 H0 S3 H3 ∧ H3 D = some (SetXO P w D (fun k => decide (k ∈ acc)) (dedG acc).length) ∧ S3 D = none ∧ compL eg ec ee (ρ.clr vs) (ds.drop (i + 1)) = some rest ∧ keysT rest = some kr ∧ ks = acc ++ kr,
      fun H3 ⟨S3, acc, rest, kr, z⟩ => ⟨ds.length - (i + 1), by omega, rfl, hlt, S3, acc, rest, kr, z⟩, fun x H2 y => ?_⟩
    obtain ⟨S2, g2, r2⟩ := hy x H2 y
    have I2 : StInv K E S2 φ (ρ.clr vs) (L2.wipe σ vs) H2 := ((I.grow g0).grow (gg.trans g2)).wipe vs
    obtain ⟨ρ1, e1, er⟩ := obind er
    refine hg E S2 φ _ _ H2 ds[i] x _ ρ1 I2 r2 e1 fun φ1 σ1 _ k1 l1 I1 => ⟨wipe_eq (by rw [l1, wipe_length]) k1 ha, ?_⟩
    obtain ⟨b, e2, er⟩ := obind er
    refine ht E S2 φ1 ρ1 σ1 H2 _ I1 (RsOK.of_o e2 fun S3 H3 g3 => ?_)
    have g23 := g2.trans g3
    cases b with
    | false =>
      rw [if_neg (by decide)]
      exact ⟨S3, acc, rest, kr, gg.trans g23, g23.h _ _ hset, g23.f D ⟨_, hset⟩ nD, er, ek, et⟩
    | true =>
      rw [if_pos rfl]
      obtain ⟨t, e3, er⟩ := obind (show ((ee ρ1).o.bind fun t => (compL eg ec ee (ρ.clr vs) (ds.drop (i + 1))).map (t :: ·)) = some rest from er)
      obtain ⟨rest', e4, rfl⟩ := omap er
      obtain ⟨k, ekt, ek⟩ := obind (show ((keyT t).bind fun k => (keysT rest').map (k :: ·)) = some kr from ek)
      obtain ⟨kr', e5, rfl⟩ := omap ek
      refine he E S3 φ1 ρ1 σ1 H3 _ (I1.grow g3) (RsOK.of_o e3 fun v S4 H4 f4 g4 q4 n4 fr4 => ?_)
      have g24 := g23.trans g4
      have hset4 := g24.h _ _ hset
      have nS4 : S4 D = none := g24.f D ⟨_, hset⟩ nD
      have hv := keyT_rep q4 ekt
      subst hv
      have le := dedG_pre acc (k :: kr')
      rw [← et] at le
      refine ⟨D, k, _, _, rfl, rfl, hset4, by unfold scanBound; omega, S4, acc ++ [k], rest', kr', ?_, ?_, nS4, e4, e5, by rw [et, List.append_assoc]; rfl⟩
      · have G := gg.trans g24
        refine ⟨fun b o e => ?_, G.s, fun b o e => ?_, G.f⟩
        · rw [upd_ne (ne_of_none e hD)]; exact G.h _ _ e
        · rw [upd_ne (ne_of_none e nS4)]; exact G.i _ _ e
      · rw [upd_same, dedG_snoc]
        have e6 : (fun j => decide (j ∈ acc) || decide (j = k)) = fun j => decide (j ∈ acc ++ [k]) := funext fun j => by
          rw [Bool.eq_iff_iff, Bool.or_eq_true, decide_eq_true_eq, decide_eq_true_eq, decide_eq_true_eq, List.mem_append, List.mem_singleton]
        have e7 : (if decide (k ∈ acc) = true then (dedG acc).length else (dedG acc).length + 1) = if k ∈ acc then (dedG acc).length else (dedG acc).length + 1 := by
          by_cases hk : k ∈ acc
          · rw [if_pos hk, if_pos (decide_eq_true hk)]
          · rw [if_neg hk, if_neg (by rw [decide_eq_false hk]; decide)]
        rw [e6, e7]
  · have e : i = ds.length := by omega
    subst e
    rw [List.drop_length] at er
    cases er
    cases ek
    rw [List.append_nil] at et
    subst et
    exact .inl ⟨h2 (Nat.le_refl _), hQ S' H' D (g0.trans gg) hset⟩
/-! sorted of it -/
def keysI : List Key → Option (List Int)
  | [] => some []
  | .inl i :: ks => (keysI ks).map (i :: ·)
  | .inr _ :: _ => none
def keysS : List Key → Option (List Str)
  | [] => some []
  | .inr x :: ks => (keysS ks).map (x :: ·)
  | .inl _ :: _ => none
theorem keysI_inv : ∀ {ks : List Key} {is : List Int}, keysI ks = some is → ks = is.map Sum.inl
  | [], is, e => by cases e; rfl
  | .inl i :: ks, is, e => by
    obtain ⟨r, e1, rfl⟩ := omap (show (keysI ks).map (i :: ·) = some is from e)
    rw [List.map_cons, keysI_inv e1]
  | .inr _ :: _, _, e => by cases e
theorem keysS_inv : ∀ {ks : List Key} {xs : List Str}, keysS ks = some xs → ks = xs.map Sum.inr
  | [], xs, e => by cases e; rfl
  | .inr i :: ks, xs, e => by
    obtain ⟨r, e1, rfl⟩ := omap (show (keysS ks).map (i :: ·) = some xs from e)
    rw [List.map_cons, keysS_inv e1]
  | .inl _ :: _, _, e => by cases e
theorem keysI_map : ∀ is : List Int, keysI (is.map Sum.inl) = some is
  | [] => rfl
  | i :: is => by rw [List.map_cons]; show (keysI _).map _ = _; rw [keysI_map is]; rfl
theorem keysS_map : ∀ xs : List Str, keysS (xs.map Sum.inr) = some xs
  | [] => rfl
  | i :: is => by rw [List.map_cons]; show (keysS _).map _ = _; rw [keysS_map is]; rfl
def setGI (ns : List Int) : List Int := sortI (dedG ns)
def setGS (xs : List Str) : List Str := sortS (dedG xs)
theorem setGI_eq {ns ms : List Int} (h1 : ms.Pairwise (· ≤ ·)) (nd : ms.Nodup) (h2 : ∀ k, k ∈ ms ↔ k ∈ ns) : ms = setGI ns :=
  sortI_eq ((List.perm_ext_iff_of_nodup nd (dedG_nd ns)).mpr fun k => by rw [h2, dedG_mem]) h1
theorem setGS_eq {ns ms : List Str} (h1 : ms.Pairwise fun a b => leS a b = true) (nd : ms.Nodup) (h2 : ∀ k, k ∈ ms ↔ k ∈ ns) : ms = setGS ns :=
  sortS_eq ((List.perm_ext_iff_of_nodup nd (dedG_nd ns)).mpr fun k => by rw [h2, dedG_mem]) h1
def sortKeys (ks : List Key) : Option T := if (dedG ks).length < 64 then (match keysI ks with
  | some is => some (.ol ((setGI is).map PyData.int))
  | none => (keysS ks).map fun xs => .ol ((setGS xs).map PyData.str)) else none
def evSortSC (ei : En → Rs (List D)) (vs : List Nat) (g : D → En → Option En) (c : En → Rs Bool) (e : En → Rs T) : En → Rs T := fun ρ => (evKeys ei vs g c e ρ).bind fun ks => rsO (sortKeys ks)
section
variable {X : Cx} {W : WX} {elt tg iter : Expr} {ifs : List Expr} {scope : Scope} {own : List (Str × Nat)} {pos cpos p : Pos} {wi : TI} {ei : En → Rs (List D)} {as : List Nat} {g : TG} {eg : D → En → Option En} {tt : TT} {ec : En → Rs Bool} {te : TE} {ee : En → Rs T} {w : World} {P : Program}
theorem de_sortSC {Rp : Rel} (vs : List Nat) (cm : X.calm = true) (nd : X.N.Nodup) (hi : DI Rp X W tg iter wi ei) (ok : BlkOk X.N X.env.scope scope own)
    (hg : ∀ (s : Shared) (H : Hp) (C : Addr) (cl : List (Str × Addr)) (F : List Addr), DG Rp (X.blk s H scope (compEnvC scope cl C X.env) F) tg g eg as)
    (ht : ∀ (s : Shared) (H : Hp) (C : Addr) (cl : List (Str × Addr)) (F : List Addr), DTs (X.blk s H scope (compEnvC scope cl C X.env) F) W0 ifs tt ec)
    (he : ∀ (s : Shared) (H : Hp) (C : Addr) (cl : List (Str × Addr)) (F : List Addr), DE (X.blk s H scope (compEnvC scope cl C X.env) F) W0 elt te ee [])
    (gs : Gl X "sorted") (ms : X.mg "sorted" = none) (hv : own.map (·.2) = vs := by rfl) (ha : ∀ i ∈ as, i ∈ vs := by decide) (hs : ∀ x, foldedSetIterable iter X.env x = pure x := by intro _; rfl)
    (hst : starEach [.SetComp elt [⟨tg, iter, ifs, 0⟩] scope cpos] X.env = [(false, eval (.SetComp elt [⟨tg, iter, ifs, 0⟩] scope cpos) X.env)] := by rfl) (hP : X.prog = P := by rfl) (hw : X.w = w := by rfl) :
    DE X W (.Call (.Name "sorted" p) [.SetComp elt [⟨tg, iter, ifs, 0⟩] scope cpos] [] pos) (tCB (rSortX P w) (tCons (tScX P w wi g tt te (own.map (·.2))) tNil)) (evSortSC ei vs eg ec ee) [] := by
  subst hv hP hw
  refine ⟨pe_callB (cr_sortX cm) gs ms (by decide +kernel) (pa_cons (pe_scX cm nd hi.pi ok (fun s H C cl F => (hg s H C cl F).pg) (fun s H C cl F => (ht s H C cl F).pt) (fun s H C cl F => (he s H C cl F).pe) hs) pa_nil hst) (by decide) (by decide) hst (by rfl), fun E S φ ρ σ H Q I h => ?_⟩
  show tScX X.prog X.w wi g tt te (own.map (·.2)) σ H (fun v H1 => rSortX X.prog X.w [v] H1 Q)
  refine sem_keysC hi.sm (hg X.s_0 (fun _ => none) 0 [] []).sm ha (ht X.s_0 (fun _ => none) 0 [] []).sm (he X.s_0 (fun _ => none) 0 [] []).sm I (h.bind.imp (fun ks hks => ?_) fun _ z => z)
  obtain ⟨t, et, ret⟩ := hks.rsO
  have et := et
  unfold sortKeys at et
  split at et
  · rename_i small
    refine ⟨small, fun S' H' da G hD => ⟨da, _, _, rfl, hD, small, ?_⟩⟩
    have put : ∀ (ds : List D) (vs : List V) (p : Addr), RepDs S' ds vs → H' p = none → t = .ol ds → Q (.ref p) (upd H' p (.lst vs)) := fun ds vs p r hp e => by
      subst e
      refine ret _ S' _ [p] (G.trans (.own G.i hp)) (by simp only [RepT]; exact ⟨p, vs, rfl, rfl, upd_same, r⟩) (by simp) fun b hb => ?_
      have e : b = p := by simpa using hb
      subst e
      exact ⟨G.i.free hp, .inl (G.h.free hp)⟩
    cases hI : keysI ks with
    | some is =>
      rw [hI] at et
      cases et
      refine .inl ⟨is, fun k => ?_, fun ns p h1 h2 h3 hp => put _ _ p (rep_ints _) hp (by rw [setGI_eq h1 h2 h3])⟩
      rw [decide_eq_true_eq, keysI_inv hI, List.mem_map]
      exact ⟨fun ⟨i, hi, e⟩ => ⟨i, hi, e.symm⟩, fun ⟨i, hi, e⟩ => ⟨i, hi, e.symm⟩⟩
    | none =>
      rw [hI] at et
      obtain ⟨xs, ex, rfl⟩ := omap et
      refine .inr ⟨xs, fun k => ?_, fun ys p h1 h2 h3 hp => put _ _ p (rep_strs _) hp (by rw [setGS_eq (sorted_pw h1) h2 h3])⟩
      rw [decide_eq_true_eq, keysS_inv ex, List.mem_map]
      exact ⟨fun ⟨i, hi, e⟩ => ⟨i, hi, e.symm⟩, fun ⟨i, hi, e⟩ => ⟨i, hi, e.symm⟩⟩
  · cases et
end
/-- the keys of a comprehension -/
theorem keys_eq {α : Type} {ei : En → Rs (List D)} {vs : List Nat} {f : α → D} {g : D → En → Option En} {c : En → Rs Bool} {e : En → Rs T} {ρ : En} {k : α → Bool} {h : α → Key} {l : List α} (hi : ei ρ = .ok (l.map f))
    (H : ∀ a ∈ l, ∃ ρ1, g (f a) (ρ.clr vs) = some ρ1 ∧ c ρ1 = .ok (k a) ∧ (k a = true → e ρ1 = .ok (.sh (kD (h a))))) : evKeys ei vs g c e ρ = .ok ((l.filter k).map h) := by
  unfold evKeys
  rw [hi]
  have e1 : ∀ l : List α, (∀ a ∈ l, ∃ ρ1, g (f a) (ρ.clr vs) = some ρ1 ∧ c ρ1 = .ok (k a) ∧ (k a = true → e ρ1 = .ok (.sh (kD (h a))))) → (compL g c e (ρ.clr vs) (l.map f)).bind keysT = some ((l.filter k).map h) := fun l => by
    induction l with
    | nil => intro _; rfl
    | cons a l ih =>
      intro H
      obtain ⟨ρ1, e1, e2, e3⟩ := H a List.mem_cons_self
      have ih := ih fun b hb => H b (List.mem_cons_of_mem _ hb)
      rw [List.map_cons]
      unfold compL
      simp only [e1, Option.bind_some, e2, Rs.o]
      cases hk : k a with
      | false => rw [List.filter_cons_of_neg (by simp [hk])]; exact ih
      | true =>
        rw [List.filter_cons_of_pos hk, List.map_cons, e3 hk]
        obtain ⟨ts, et, ek⟩ := obind ih
        simp only [cond_true, Rs.o, Option.bind_some, et, Option.map_some]
        show (keyT (T.sh (kD (h a)))).bind _ = _
        simp only [keyT, kOf_kD, Option.bind_some, ek, Option.map_some]
  show rsO _ = _
  rw [e1 l H]; rfl
end PL
set_option Elab.async false
set_option linter.all false
set_option maxRecDepth 100000
/-! PL15: the plain side: what a def computes, step by step. -/
namespace PL
open PySem

def Rs.P0 {α : Type} (r : Rs α) (P : α → Prop) : Prop := match r with
  | .ok a => P a
  | _ => False
theorem Rs.P0_ok {α : Type} {a : α} {P : α → Prop} : (Rs.ok a).P0 P ↔ P a := Iff.rfl
theorem Rs.P0.imp {α : Type} {r : Rs α} {P Q : α → Prop} (h : r.P0 P) (hi : ∀ a, P a → Q a) : r.P0 Q := by
  cases r with
  | ok a => exact hi _ h
  | bad => exact h
  | ex c => exact h
theorem Rs.P0.bind {α β : Type} {r : Rs α} {f : α → Rs β} {Q : β → Prop} (h : r.P0 fun a => (f a).P0 Q) : (r.bind f).P0 Q := by
  cases r with
  | ok a => exact h
  | bad => exact h
  | ex c => exact h
theorem Rs.P0.eq {α : Type} {r : Rs α} {a : α} (h : r.P0 fun x => x = a) : r = .ok a := by
  cases r with
  | ok b => exact congrArg Rs.ok h
  | bad => exact False.elim h
  | ex c => exact False.elim h
theorem Rs.P0.ex {α : Type} {r : Rs α} {P : α → Prop} (h : r.P0 P) : ∃ a, r = .ok a ∧ P a := by
  cases r with
  | ok b => exact ⟨b, rfl, h⟩
  | bad => exact False.elim h
  | ex c => exact False.elim h

def Out.P0 (o : Out) (N : En → Prop) (R : T → Prop) (B C : En → Prop) : Prop := match o with
  | .nx ρ => N ρ
  | .rt t => R t
  | .bk ρ => B ρ
  | .ct ρ => C ρ
  | _ => False
section
variable {N N' : En → Prop} {R R' : T → Prop} {B B' C C' : En → Prop} {o : Out} {ρ : En} {a b : En → Out} {ev : En → Rs T}
theorem Out.P0.imp (h : o.P0 N R B C) (h1 : ∀ ρ, N ρ → N' ρ) (h2 : ∀ t, R t → R' t) (h3 : ∀ ρ, B ρ → B' ρ) (h4 : ∀ ρ, C ρ → C' ρ) : o.P0 N' R' B' C' := by
  cases o with
  | nx ρ => exact h1 _ h
  | rt ρ => exact h2 _ h
  | bk ρ => exact h3 _ h
  | ct ρ => exact h4 _ h
  | bad => exact h
  | ex c ρ => exact h
theorem q_nil (h : N ρ) : (sNil ρ).P0 N R B C := h
theorem q_seq (h : (a ρ).P0 (fun ρ' => (b ρ').P0 N R B C) R B C) : (sSeq a b ρ).P0 N R B C := by
  show (seqO (a ρ) b).P0 N R B C
  cases e : a ρ <;> rw [e] at h <;> exact h
theorem q_share {i : Nat} (h : (a (ρ.share i)).P0 N R B C) : (sShare i a ρ).P0 N R B C := h
theorem q_rsK {α : Type} {r : Rs α} {k : α → Out} (h : r.P0 fun x => (k x).P0 N R B C) : (rsK r ρ k).P0 N R B C := by
  cases r with
  | ok a => exact h
  | bad => exact h
  | ex c => exact False.elim h
theorem q_set {i : Nat} {mv : List Nat} (h : (ev ρ).P0 fun t => N ((ρ.clr mv).put i (some t))) : (sSet i mv ev ρ).P0 N R B C := q_rsK h
theorem q_ret (h : (ev ρ).P0 R) : (sRet ev ρ).P0 N R B C := q_rsK h
theorem q_retN (h : R (.sh .none)) : (sRetN ρ).P0 N R B C := h
theorem q_drop (h : (ev ρ).P0 fun _ => N ρ) : (sDrop ev ρ).P0 N R B C := q_rsK h
theorem q_break (h : B ρ) : (sBreak ρ).P0 N R B C := h
theorem q_cont (h : C ρ) : (sCont ρ).P0 N R B C := h
theorem q_if {c : En → Rs Bool} (h : (c ρ).P0 fun k => (bif k then a ρ else b ρ).P0 N R B C) : (sIf c a b ρ).P0 N R B C := q_rsK h
theorem q_ifD {c : En → Rs Bool} {p : Prop} [Decidable p] (hc : c ρ = .ok (decide p)) (h1 : p → (a ρ).P0 N R B C) (h2 : ¬ p → (b ρ).P0 N R B C) : (sIf c a b ρ).P0 N R B C := by
  refine q_if ?_
  rw [hc]
  by_cases hp : p
  · show (bif decide p then a ρ else b ρ).P0 N R B C
    rw [decide_eq_true hp]; exact h1 hp
  · show (bif decide p then a ρ else b ρ).P0 N R B C
    rw [decide_eq_false hp]; exact h2 hp
theorem q_outO {α : Type} {o : Option α} {k : α → Out} {x : α} (e : o = some x) (h : (k x).P0 N R B C) : (outO o k).P0 N R B C := by
  rw [e]; exact h
theorem q_app {i : Nat} {mv : List Nat} {c : T} (e : ρ.get i = some c) (hl : c.isL = true) (h : (ev ρ).P0 fun t => ∃ c', appT c t = some c' ∧ N ((ρ.clr mv).put i (some c'))) : (sApp i mv ev ρ).P0 N R B C := by
  refine q_outO e ?_
  rw [hl]
  exact q_rsK (h.imp fun t ⟨c', e', h'⟩ => q_outO e' h')
theorem q_put {i : Nat} {ek : En → Rs T} {c : T} (e : ρ.get i = some c) (h : (ev ρ).P0 fun t => ∃ d, t.asD = some d ∧ (ek ρ).P0 fun k => ∃ j c', k.asI = some j ∧ setT c j d = some c' ∧ N (ρ.put i (some c'))) : (sPut i ek ev ρ).P0 N R B C := by
  refine q_outO e (q_rsK (h.imp fun t ⟨d, e1, h1⟩ => q_outO e1 (q_rsK (h1.imp fun k ⟨j, c', e2, e3, h2⟩ => q_outO e2 (q_outO e3 h2)))))
theorem q_unp {is mv : List Nat} (h : (ev ρ).P0 fun t => ∃ ts ρ', t.parts = some ts ∧ putAll is ts (ρ.clr mv) = some ρ' ∧ N ρ') : (sUnp is mv ev ρ).P0 N R B C :=
  q_rsK (h.imp fun t ⟨ts, ρ', e1, e2, h'⟩ => q_outO e1 (q_outO e2 h'))
/-- a for loop, by what holds of the items that are left -/
theorem q_forL {g : D → En → Option En} {b : En → Out} (J : List D → En → Prop) : ∀ {ds : List D} {ρ : En}, J ds ρ →
    (∀ d r ρ, J (d :: r) ρ → ∃ ρ1, g d ρ = some ρ1 ∧ (b ρ1).P0 (J r) R N (J r)) → (∀ ρ, J [] ρ → N ρ) → (forL g b ds ρ).P0 N R B C
  | [], ρ, j, _, h2 => h2 ρ j
  | d :: ds, ρ, j, h1, h2 => by
    obtain ⟨ρ1, e, h⟩ := h1 d ds ρ j
    unfold forL
    rw [e]
    show (match b ρ1 with
      | .nx ρ' => forL g b ds ρ'
      | .ct ρ' => forL g b ds ρ'
      | .bk ρ' => .nx ρ'
      | o => o).P0 N R B C
    cases eb : b ρ1 with
    | nx ρ' => rw [eb] at h; exact q_forL J h h1 h2
    | ct ρ' => rw [eb] at h; exact q_forL J h h1 h2
    | bk ρ' => rw [eb] at h; exact h
    | rt t => rw [eb] at h; exact h
    | bad => rw [eb] at h; exact h
    | ex c ρ' => rw [eb] at h; exact h
theorem q_for {ei : En → Rs (List D)} {g : D → En → Option En} {b : En → Out} {ds : List D} (hi : ei ρ = .ok ds) (J : List D → En → Prop) (h0 : J ds ρ)
    (h1 : ∀ d r ρ, J (d :: r) ρ → ∃ ρ1, g d ρ = some ρ1 ∧ (b ρ1).P0 (J r) R N (J r)) (h2 : ∀ ρ, J [] ρ → N ρ) : (sFor ei g b ρ).P0 N R B C := by
  unfold sFor
  refine q_rsK ?_
  rw [hi]
  exact q_forL J h0 h1 h2
/-- a while loop, by a measure -/
theorem q_while {c : En → Rs Bool} {b : En → Out} (J : Nat → En → Prop) {n : Nat} (hn : n < fuel) (h0 : J n ρ)
    (h1 : ∀ m ρ, J m ρ → (c ρ).P0 fun k => if k = true then (b ρ).P0 (fun ρ' => ∃ m', m' < m ∧ J m' ρ') R N (fun ρ' => ∃ m', m' < m ∧ J m' ρ') else N ρ) : (sWhile c b ρ).P0 N R B C := by
  have key : ∀ (f n : Nat) (ρ : En), n < f → J n ρ → (whileN c b f ρ).P0 N R B C := by
    intro f
    induction f with
    | zero => intro n ρ h; exact absurd h (Nat.not_lt_zero _)
    | succ f ih =>
      intro n ρ hn j
      unfold whileN
      refine q_rsK ((h1 n ρ j).imp fun k hk => ?_)
      cases k with
      | false => exact hk
      | true =>
        have hk : (b ρ).P0 (fun ρ' => ∃ m', m' < n ∧ J m' ρ') R N (fun ρ' => ∃ m', m' < n ∧ J m' ρ') := hk
        show (match b ρ with
          | .nx ρ' => whileN c b f ρ'
          | .ct ρ' => whileN c b f ρ'
          | .bk ρ' => .nx ρ'
          | o => o).P0 N R B C
        cases eb : b ρ with
        | nx ρ' => rw [eb] at hk; obtain ⟨m, hm, jm⟩ := hk; exact ih m ρ' (by omega) jm
        | ct ρ' => rw [eb] at hk; obtain ⟨m, hm, jm⟩ := hk; exact ih m ρ' (by omega) jm
        | bk ρ' => rw [eb] at hk; exact hk
        | rt t => rw [eb] at hk; exact hk
        | bad => rw [eb] at hk; exact hk
        | ex c ρ' => rw [eb] at hk; exact hk
  exact key fuel n ρ hn h0
theorem q_fn {n m : Nat} {b : En → Out} {ts : List T} {Q : T → Prop} (hn : ts.length = n) (h : (b (en0 m ts)).P0 (fun _ => Q (.sh .none)) Q (fun _ => False) fun _ => False) : (fnD n m b ts).P0 Q := by
  unfold fnD
  rw [if_pos hn]
  cases eb : b (en0 m ts) <;> rw [eb] at h <;> exact h
theorem q_fn_eq {n m : Nat} {b : En → Out} {ts : List T} {t : T} (hn : ts.length = n) (h : (b (en0 m ts)).P0 (fun _ => T.sh .none = t) (fun x => x = t) (fun _ => False) fun _ => False) : fnD n m b ts = .ok t :=
  (q_fn (Q := fun x => x = t) hn h).eq
end

/-! the same as things that nothing unfolds -/
structure Rs.P {α : Type} (r : Rs α) (p : α → Prop) : Prop where
  h : r.P0 p
structure Out.P (o : Out) (N : En → Prop) (R : T → Prop) (B C : En → Prop) : Prop where
  h : o.P0 N R B C
theorem Rs.P_ok {α : Type} {a : α} {P : α → Prop} : (Rs.ok a).P P ↔ P a := ⟨fun h => h.h, fun h => ⟨h⟩⟩
theorem Rs.P.imp {α : Type} {r : Rs α} {P Q : α → Prop} (h : r.P P) (hi : ∀ a, P a → Q a) : r.P Q := ⟨h.h.imp hi⟩
theorem Rs.P.bind {α β : Type} {r : Rs α} {f : α → Rs β} {Q : β → Prop} (h : r.P fun a => (f a).P Q) : (r.bind f).P Q := ⟨(h.h.imp fun _ z => z.h).bind⟩
theorem Rs.P.eq {α : Type} {r : Rs α} {a : α} (h : r.P fun x => x = a) : r = .ok a := h.h.eq
theorem Rs.P.ex {α : Type} {r : Rs α} {P : α → Prop} (h : r.P P) : ∃ a, r = .ok a ∧ P a := h.h.ex
theorem Rs.P.of {α : Type} {r : Rs α} {P : α → Prop} {a : α} (e : r = .ok a) (h : P a) : r.P P := by rw [e]; exact ⟨h⟩
section
variable {N N' : En → Prop} {R R' : T → Prop} {B B' C C' : En → Prop} {o : Out} {ρ : En} {a b : En → Out} {ev : En → Rs T}
theorem Out.P.imp (h : o.P N R B C) (h1 : ∀ ρ, N ρ → N' ρ) (h2 : ∀ t, R t → R' t) (h3 : ∀ ρ, B ρ → B' ρ) (h4 : ∀ ρ, C ρ → C' ρ) : o.P N' R' B' C' := ⟨h.h.imp h1 h2 h3 h4⟩
theorem p_nil (h : N ρ) : (sNil ρ).P N R B C := ⟨h⟩
theorem p_seq (h : (a ρ).P (fun ρ' => (b ρ').P N R B C) R B C) : (sSeq a b ρ).P N R B C := ⟨q_seq (h.h.imp (fun _ z => z.h) (fun _ z => z) (fun _ z => z) fun _ z => z)⟩
theorem p_share {i : Nat} (h : (a (ρ.share i)).P N R B C) : (sShare i a ρ).P N R B C := ⟨h.h⟩
theorem p_set {i : Nat} {mv : List Nat} (h : (ev ρ).P fun t => N ((ρ.clr mv).put i (some t))) : (sSet i mv ev ρ).P N R B C := ⟨q_set h.h⟩
theorem p_ret (h : (ev ρ).P R) : (sRet ev ρ).P N R B C := ⟨q_ret h.h⟩
theorem p_retN (h : R (.sh .none)) : (sRetN ρ).P N R B C := ⟨h⟩
theorem p_drop (h : (ev ρ).P fun _ => N ρ) : (sDrop ev ρ).P N R B C := ⟨q_drop h.h⟩
theorem p_break (h : B ρ) : (sBreak ρ).P N R B C := ⟨h⟩
theorem p_cont (h : C ρ) : (sCont ρ).P N R B C := ⟨h⟩
theorem p_if {c : En → Rs Bool} (h : (c ρ).P fun k => (bif k then a ρ else b ρ).P N R B C) : (sIf c a b ρ).P N R B C := ⟨q_if (h.h.imp fun _ z => z.h)⟩
theorem p_ifD {c : En → Rs Bool} {p : Prop} [Decidable p] (hc : c ρ = .ok (decide p)) (h1 : p → (a ρ).P N R B C) (h2 : ¬ p → (b ρ).P N R B C) : (sIf c a b ρ).P N R B C := ⟨q_ifD hc (fun z => (h1 z).h) fun z => (h2 z).h⟩
/-- by a truth value -/
theorem p_ifB {c : En → Rs Bool} {k : Bool} (hc : c ρ = .ok k) (h1 : k = true → (a ρ).P N R B C) (h2 : k = false → (b ρ).P N R B C) : (sIf c a b ρ).P N R B C := by
  refine p_if (.of hc ?_)
  cases k with
  | true => exact h1 rfl
  | false => exact h2 rfl
theorem p_app {i : Nat} {mv : List Nat} {c : T} (e : ρ.get i = some c) (hl : c.isL = true) (h : (ev ρ).P fun t => ∃ c', appT c t = some c' ∧ N ((ρ.clr mv).put i (some c'))) : (sApp i mv ev ρ).P N R B C := ⟨q_app e hl h.h⟩
theorem p_put {i : Nat} {ek : En → Rs T} {c : T} (e : ρ.get i = some c) (h : (ev ρ).P fun t => ∃ d, t.asD = some d ∧ (ek ρ).P fun k => ∃ j c', k.asI = some j ∧ setT c j d = some c' ∧ N (ρ.put i (some c'))) : (sPut i ek ev ρ).P N R B C :=
  ⟨q_put e (h.h.imp fun _ ⟨d, e, z⟩ => ⟨d, e, z.h⟩)⟩
theorem p_unp {is mv : List Nat} (h : (ev ρ).P fun t => ∃ ts ρ', t.parts = some ts ∧ putAll is ts (ρ.clr mv) = some ρ' ∧ N ρ') : (sUnp is mv ev ρ).P N R B C := ⟨q_unp h.h⟩
theorem p_for {ei : En → Rs (List D)} {g : D → En → Option En} {b : En → Out} {ds : List D} (hi : ei ρ = .ok ds) (J : List D → En → Prop) (h0 : J ds ρ)
    (h1 : ∀ d r ρ, J (d :: r) ρ → ∃ ρ1, g d ρ = some ρ1 ∧ (b ρ1).P (J r) R N (J r)) (h2 : ∀ ρ, J [] ρ → N ρ) : (sFor ei g b ρ).P N R B C :=
  ⟨q_for hi J h0 (fun d r ρ z => let ⟨ρ1, e, w⟩ := h1 d r ρ z; ⟨ρ1, e, w.h⟩) h2⟩
theorem p_while {c : En → Rs Bool} {b : En → Out} (J : Nat → En → Prop) {n : Nat} (hn : n < fuel) (h0 : J n ρ)
    (h1 : ∀ m ρ, J m ρ → (c ρ).P fun k => if k = true then (b ρ).P (fun ρ' => ∃ m', m' < m ∧ J m' ρ') R N (fun ρ' => ∃ m', m' < m ∧ J m' ρ') else N ρ) : (sWhile c b ρ).P N R B C :=
  ⟨q_while J hn h0 fun m ρ z => (h1 m ρ z).h.imp fun k hk => by
    cases k with
    | true => exact (show (b ρ).P (fun ρ' => ∃ m', m' < m ∧ J m' ρ') R N (fun ρ' => ∃ m', m' < m ∧ J m' ρ') from hk).h
    | false => exact hk⟩
theorem p_fn {n m : Nat} {b : En → Out} {ts : List T} {Q : T → Prop} (hn : ts.length = n) (h : (b (en0 m ts)).P (fun _ => Q (.sh .none)) Q (fun _ => False) fun _ => False) : (fnD n m b ts).P Q := ⟨q_fn hn h.h⟩
theorem fn_eq {n m : Nat} {b : En → Out} {ts : List T} {t : T} (hn : ts.length = n) (h : (b (en0 m ts)).P (fun _ => T.sh .none = t) (fun x => x = t) (fun _ => False) fun _ => False) : fnD n m b ts = .ok t := q_fn_eq hn h.h
end
/-! items -/
theorem atI_ok {α : Type} {xs : List α} {i : Int} (h0 : 0 ≤ i) (h1 : i < xs.length) : ∃ x, L2.atI xs i = some x ∧ xs[i.toNat]? = some x := by
  have hl : i.toNat < xs.length := by omega
  refine ⟨xs[i.toNat], ?_, by simp [hl]⟩
  unfold L2.atI L2.ixN
  rw [if_pos h0, if_pos h1]
  simp [hl]
theorem atI_nat {α : Type} {xs : List α} {i : Nat} (h1 : i < xs.length) : L2.atI xs (i : Int) = some xs[i] := by
  unfold L2.atI L2.ixN
  rw [if_pos (by omega), if_pos (by omega)]
  simp [h1]
theorem atI_get {α : Type} {xs : List α} {i : Int} (h0 : 0 ≤ i) (h1 : i < xs.length) : L2.atI xs i = some (xs[i.toNat]'(by omega)) := by
  have hl : i.toNat < xs.length := by omega
  unfold L2.atI L2.ixN
  rw [if_pos h0, if_pos h1]
  simp [hl]
/-! comprehensions over mapped items -/
theorem compL_map {α : Type} {f : α → D} {g : D → En → Option En} {c : En → Rs Bool} {e : En → Rs T} {ρ : En} {k : α → Bool} {h : α → D} : ∀ (l : List α), (∀ a ∈ l, ∃ ρ1, g (f a) ρ = some ρ1 ∧ c ρ1 = .ok (k a) ∧ (k a = true → e ρ1 = .ok (.sh (h a)))) →
    compL g c e ρ (l.map f) = some ((l.filter k).map fun a => T.sh (h a))
  | [], _ => rfl
  | a :: l, H => by
    obtain ⟨ρ1, e1, e2, e3⟩ := H a List.mem_cons_self
    have ih := compL_map l fun b hb => H b (List.mem_cons_of_mem _ hb)
    unfold compL
    rw [List.map_cons]
    simp only [e1, Option.bind_some, e2, Rs.o]
    cases hk : k a with
    | false => rw [List.filter_cons_of_neg (by simp [hk])]; exact ih
    | true =>
      rw [List.filter_cons_of_pos hk, e3 hk]
      simp only [cond_true, Rs.o, Option.bind_some, ih, Option.map_some, List.map_cons]
theorem shs_map {α : Type} (h : α → D) : ∀ l : List α, T.shs (l.map fun a => T.sh (h a)) = some (l.map h)
  | [] => rfl
  | a :: l => by simp only [List.map_cons, T.shs, shs_map h l, Option.map_some]
theorem comp_eq {α : Type} {ei : En → Rs (List D)} {vs : List Nat} {g : D → En → Option En} {c : En → Rs Bool} {e : En → Rs T} {ρ : En} {l : List α} {f : α → D} {k : α → Bool} {h : α → D} (hi : ei ρ = .ok (l.map f)) (hl : l.length ≤ 2 ^ 24)
    (H : ∀ a ∈ l, ∃ ρ1, g (f a) (ρ.clr vs) = some ρ1 ∧ c ρ1 = .ok (k a) ∧ (k a = true → e ρ1 = .ok (.sh (h a)))) : evComp ei vs g c e ρ = .ok (.ol ((l.filter k).map h)) := by
  unfold evComp
  rw [hi]
  have hs : l.length ≤ sizeLine := by rw [sizeLine_eq]; omega
  simp only [Rs.bind, List.length_map, hs, if_true, compL_map l H, rsO, mkL, shs_map]
section
variable {α : Type} {ei : En → Rs (List D)} {vs : List Nat} {g : D → En → Option En} {c : En → Rs Bool} {e : En → Rs T} {ρ : En} {l : List α} {f : α → D} {k : α → Bool} {h : α → D} {hi : α → Int}
/-- no condition -/
theorem comp_all (hi : ei ρ = .ok (l.map f)) (hl : l.length ≤ 2 ^ 24) (H : ∀ a ∈ l, ∃ ρ1, g (f a) (ρ.clr vs) = some ρ1 ∧ e ρ1 = .ok (.sh (h a))) : evComp ei vs g evYes e ρ = .ok (.ol (l.map h)) := by
  rw [comp_eq (k := fun _ => true) hi hl fun a ha => ?_, List.filter_eq_self.mpr fun _ _ => rfl]
  obtain ⟨ρ1, e1, e2⟩ := H a ha
  exact ⟨ρ1, e1, rfl, fun _ => e2⟩
/-- ints -/
theorem comp_allI (hs : ei ρ = .ok (l.map f)) (hl : l.length ≤ 2 ^ 24) (H : ∀ a ∈ l, ∃ ρ1, g (f a) (ρ.clr vs) = some ρ1 ∧ e ρ1 = .ok (.sh (.int (hi a)))) : evComp ei vs g evYes e ρ = .ok (.ol ((l.map hi).map PyData.int)) := by
  rw [List.map_map]
  exact comp_all (h := fun a => .int (hi a)) hs hl H
theorem comp_eqI (hs : ei ρ = .ok (l.map f)) (hl : l.length ≤ 2 ^ 24) (H : ∀ a ∈ l, ∃ ρ1, g (f a) (ρ.clr vs) = some ρ1 ∧ c ρ1 = .ok (k a) ∧ (k a = true → e ρ1 = .ok (.sh (.int (hi a))))) : evComp ei vs g c e ρ = .ok (.ol (((l.filter k).map hi).map PyData.int)) := by
  rw [List.map_map]
  exact comp_eq (h := fun a => .int (hi a)) hs hl H
end
/-! ranges -/
def rngI (lo hi : Int) : List Int := (List.range (hi - lo).toNat).map fun (k : Nat) => lo + (k : Int)
theorem rngD_I (lo hi : Int) : rngD lo hi = (rngI lo hi).map PyData.int := by unfold rngD rngI; rw [List.map_map]; rfl
theorem rngI_mem {lo hi x : Int} : x ∈ rngI lo hi ↔ lo ≤ x ∧ x < hi := by
  unfold rngI
  simp only [List.mem_map, List.mem_range]
  constructor
  · rintro ⟨k, h, rfl⟩; omega
  · rintro ⟨h1, h2⟩; exact ⟨(x - lo).toNat, by omega, by omega⟩
theorem rngI_len (lo hi : Int) : (rngI lo hi).length = (hi - lo).toNat := by simp [rngI]
theorem rngI_nil {lo hi : Int} (h : hi ≤ lo) : rngI lo hi = [] := by
  unfold rngI
  rw [show (hi - lo).toNat = 0 by omega]; rfl
theorem rngI_cons {lo hi : Int} (h : lo < hi) : rngI lo hi = lo :: rngI (lo + 1) hi := by
  unfold rngI
  rw [show (hi - lo).toNat = (hi - (lo + 1)).toNat + 1 by omega, List.range_succ_eq_map, List.map_cons, List.map_map]
  congr 1
  · simp
  · apply List.map_congr_left
    intro k _
    show lo + ((k + 1 : Nat) : Int) = lo + 1 + (k : Int)
    omega
theorem rngI_snoc {lo hi : Int} (h : lo ≤ hi) : rngI lo (hi + 1) = rngI lo hi ++ [hi] := by
  unfold rngI
  rw [show (hi + 1 - lo).toNat = (hi - lo).toNat + 1 by omega, List.range_succ, List.map_append]
  congr 1
  show [lo + (((hi - lo).toNat : Nat) : Int)] = [hi]
  rw [show lo + (((hi - lo).toNat : Nat) : Int) = hi by omega]
theorem x_rng1 {er : En → Rs (List T)} {ρ : En} {j : Int} (h : er ρ = .ok [.sh (.int j)]) (h1 : -4611686018427387904 ≤ j) (h2 : j < 4611686018427387904) : eiRng1 er ρ = .ok ((rngI 0 j).map PyData.int) := by
  simp only [eiRng1, h, Rs.bind]
  rw [if_pos ⟨h1, h2⟩, rngD_I]
theorem x_rng2 {er : En → Rs (List T)} {ρ : En} {i j : Int} (h : er ρ = .ok [.sh (.int i), .sh (.int j)]) (h1 : -4611686018427387904 ≤ i ∧ i < 4611686018427387904) (h2 : -4611686018427387904 ≤ j ∧ j < 4611686018427387904) : eiRng2 er ρ = .ok ((rngI i j).map PyData.int) := by
  simp only [eiRng2, h, Rs.bind]
  rw [if_pos ⟨h1.1, h1.2, h2.1, h2.2⟩, rngD_I]
/-- a for loop over mapped items, by what is left -/
theorem p_forM {α : Type} {N : En → Prop} {R : T → Prop} {B C : En → Prop} {ρ : En} {ei : En → Rs (List D)} {g : D → En → Option En} {b : En → Out} {l : List α} {f : α → D} (hi : ei ρ = .ok (l.map f)) (J : List α → En → Prop) (h0 : J l ρ)
    (h1 : ∀ d r ρ, J (d :: r) ρ → ∃ ρ1, g (f d) ρ = some ρ1 ∧ (b ρ1).P (J r) R N (J r)) (h2 : ∀ ρ, J [] ρ → N ρ) : (sFor ei g b ρ).P N R B C := by
  refine p_for hi (fun ds ρ => ∃ l, ds = l.map f ∧ J l ρ) ⟨l, rfl, h0⟩ (fun d r ρ ⟨l', e, j⟩ => ?_) fun ρ ⟨l', e, j⟩ => ?_
  · cases l' with
    | nil => cases e
    | cons a l' =>
      cases e
      obtain ⟨ρ1, e1, h⟩ := h1 a l' ρ j
      exact ⟨ρ1, e1, h.imp (fun ρ z => ⟨l', rfl, z⟩) (fun _ z => z) (fun _ z => z) fun ρ z => ⟨l', rfl, z⟩⟩
  · cases l' with
    | nil => exact h2 ρ j
    | cons a l' => cases e
end PL
set_option Elab.async false
set_option linter.all false
set_option maxRecDepth 100000
/-! PL16: what the operators give, form by form. -/
namespace PL
open PySem
section
variable {i j : Int} {ds es : List D} {x y : T} {ns : List Int} {k : Int}
theorem x_add : fAdd (.sh (.int i)) (.sh (.int j)) = some (.sh (.int (i + j))) := rfl
theorem x_iadd : fIAdd (.sh (.int i)) (.sh (.int j)) = some (.sh (.int (i + j))) := rfl
theorem x_sub : fSub (.sh (.int i)) (.sh (.int j)) = some (.sh (.int (i - j))) := rfl
theorem x_mul (h : (-(2 ^ 64) < i ∧ i < 2 ^ 64) ∨ (-(2 ^ 64) < j ∧ j < 2 ^ 64)) : fMul (.sh (.int i)) (.sh (.int j)) = some (.sh (.int (i * j))) := by
  simp only [fMul, f2I, cMul_s h, if_true, Option.map_some, Option.or]
theorem x_mulL (h : (-18446744073709551616 < i ∧ i < 18446744073709551616)) : fMul (.sh (.int i)) (.sh (.int j)) = some (.sh (.int (i * j))) := x_mul (.inl h)
theorem x_mulR (h : (-18446744073709551616 < j ∧ j < 18446744073709551616)) : fMul (.sh (.int i)) (.sh (.int j)) = some (.sh (.int (i * j))) := x_mul (.inr h)
theorem x_div (h : 0 < j) (h2 : j < 18446744073709551616) : fDiv (.sh (.int i)) (.sh (.int j)) = some (.sh (.int (i / j))) := by
  have e : cDiv i j = true := decide_eq_true ⟨h, by
    have : j.natAbs < 2 ^ 64 := by omega
    have := (Nat.log2_lt (by omega : j.natAbs ≠ 0)).mpr this
    omega⟩
  simp only [fDiv, f2I, e, if_true, Option.map_some]
theorem x_mod (h : 0 < j) : fMod (.sh (.int i)) (.sh (.int j)) = some (.sh (.int (i % j))) := by
  simp only [fMod, f2I, decide_eq_true h, if_true, Option.map_some]
theorem x_lt : fLtI (.sh (.int i)) (.sh (.int j)) = some (.sh (.bool (decide (i < j)))) := rfl
theorem x_le : fLeI (.sh (.int i)) (.sh (.int j)) = some (.sh (.bool (decide (i ≤ j)))) := rfl
theorem x_gt : fGtI (.sh (.int i)) (.sh (.int j)) = some (.sh (.bool (decide (j < i)))) := rfl
theorem x_ge : fGeI (.sh (.int i)) (.sh (.int j)) = some (.sh (.bool (decide (j ≤ i)))) := rfl
theorem x_eq : fEq (.sh (.int i)) (.sh (.int j)) = some (.sh (.bool (decide (i = j)))) := rfl
theorem x_ne : fNe (.sh (.int i)) (.sh (.int j)) = some (.sh (.bool (!decide (i = j)))) := rfl
theorem x_eqB {a b : Bool} : fEq (.sh (.bool a)) (.sh (.bool b)) = some (.sh (.bool (decide (a = b)))) := rfl
theorem x_neB {a b : Bool} : fNe (.sh (.bool a)) (.sh (.bool b)) = some (.sh (.bool (!decide (a = b)))) := rfl
theorem x_eqS {a b : Str} : fEq (.sh (.str a)) (.sh (.str b)) = some (.sh (.bool (decide (a = b)))) := rfl
theorem x_neS {a b : Str} : fNe (.sh (.str a)) (.sh (.str b)) = some (.sh (.bool (!decide (a = b)))) := rfl
theorem x_max2 : fMax [.sh (.int i), .sh (.int j)] = some (.sh (.int (max i j))) := by
  have e : (if j > i then j else i) = max i j := by rw [Int.max_def]; split <;> split <;> omega
  show some (T.sh (PyData.int (if j > i then j else i))) = _
  rw [e]
theorem x_min2 : fMin [.sh (.int i), .sh (.int j)] = some (.sh (.int (min i j))) := by
  have e : (if j < i then j else i) = min i j := by rw [Int.min_def]; split <;> split <;> omega
  show some (T.sh (PyData.int (if j < i then j else i))) = _
  rw [e]
theorem x_int1 : fInt1 [.sh (.int i)] = some (.sh (.int i)) := rfl
theorem x_intB {b : Bool} : fInt1 [.sh (.bool b)] = some (.sh (.int (if b then 1 else 0))) := by cases b <;> rfl
theorem x_lenL : fLen [.sh (.list ds)] = some (.sh (.int (ds.length : Nat))) := rfl
theorem x_lenT : fLen [.sh (.tuple ds)] = some (.sh (.int (ds.length : Nat))) := rfl
theorem x_lenO : fLen [.ol ds] = some (.sh (.int (ds.length : Nat))) := rfl
theorem x_lenS : fLen [.scr ns] = some (.sh (.int (ns.length : Nat))) := rfl
theorem x_sumL : fSum [.sh (.list (ns.map PyData.int))] = some (.sh (.int ns.sum)) := by simp only [fSum, f1, T.ints, T.lits, Option.bind_some, intsD_map, Option.map_some]
theorem x_sumO : fSum [.ol (ns.map PyData.int)] = some (.sh (.int ns.sum)) := by simp only [fSum, f1, T.ints, T.lits, Option.bind_some, intsD_map, Option.map_some]
theorem x_sortL : fSortI [.sh (.list (ns.map PyData.int))] = some (.ol ((sortI ns).map PyData.int)) := by simp only [fSortI, f1, T.ints, T.lits, Option.bind_some, intsD_map, Option.map_some]
theorem x_sortO : fSortI [.ol (ns.map PyData.int)] = some (.ol ((sortI ns).map PyData.int)) := by simp only [fSortI, f1, T.ints, T.lits, Option.bind_some, intsD_map, Option.map_some]
theorem x_listL : fList [.sh (.list ds)] = some (.ol ds) := rfl
theorem x_listT : fList [.sh (.tuple ds)] = some (.ol ds) := rfl
theorem x_listO : fList [.ol ds] = some (.ol ds) := rfl
theorem x_isN {d : D} : fIsN (.sh d) (.sh .none) = some (.sh (.bool (T.isN (.sh d)))) := rfl
theorem x_isNn : T.isN (.sh .none) = true := rfl
theorem x_isNi : T.isN (.sh (.int i)) = false := rfl
theorem x_isNs {z : Str} : T.isN (.sh (.str z)) = false := rfl
theorem x_isNl : T.isN (.sh (.list ds)) = false := rfl
theorem x_isNt : T.isN (.sh (.tuple ds)) = false := rfl
theorem x_isNb {b : Bool} : T.isN (.sh (.bool b)) = false := rfl
theorem x_notN {d : D} : fNotN (.sh d) (.sh .none) = some (.sh (.bool (!T.isN (.sh d)))) := rfl
theorem x_ixL : fIx (.sh (.list ds)) (.sh (.int k)) = (L2.atI ds k).map T.sh := rfl
theorem x_ixT : fIx (.sh (.tuple ds)) (.sh (.int k)) = (L2.atI ds k).map T.sh := rfl
theorem x_ixO : fIx (.ol ds) (.sh (.int k)) = (L2.atI ds k).map T.sh := rfl
theorem x_ixS : fIx (.scr ns) (.sh (.int k)) = (L2.atI ns k).map fun n => T.sh (.int n) := rfl
theorem x_ix0 {a : D} : L2.atI (a :: ds) 0 = some a := by simp [L2.atI, L2.ixN]
theorem x_ix1 {a b : D} : L2.atI (a :: b :: ds) 1 = some b := by
  unfold L2.atI L2.ixN
  rw [if_pos (by decide), if_pos (by simp only [List.length_cons]; omega)]
  rfl
theorem x_ix2 {a b c : D} : L2.atI (a :: b :: c :: ds) 2 = some c := by
  unfold L2.atI L2.ixN
  rw [if_pos (by decide), if_pos (by simp only [List.length_cons]; omega)]
  rfl
theorem x_ixm {α : Type} {f : α → D} {l : List α} {k : Int} {a : α} (h : L2.atI l k = some a) : L2.atI (l.map f) k = some (f a) := by rw [atI_map, h]; rfl
theorem x_sl {a b : Option Int} : fSl (.sh (.list ds)) a b = some (.ol (cutD ds a b)) := rfl
theorem x_slO {a b : Option Int} : fSl (.ol ds) a b = some (.ol (cutD ds a b)) := rfl
theorem x_slT {a b : Option Int} : fSl (.sh (.tuple ds)) a b = some (.sh (.tuple (cutD ds a b))) := rfl
/-- x in xs, ints -/
theorem any_int : ∀ {ns : List Int}, ((ns.map PyData.int).any fun z => eqD z (.int i)) = decide (i ∈ ns)
  | [] => rfl
  | n :: ns => by
    rw [List.map_cons, List.any_cons, any_int]
    have e : eqD (.int n) (.int i) = decide (n = i) := by
      show PyData.eqv (.int n) (.int i) = decide (n = i)
      simp only [PyData.eqv]
      by_cases h : n = i
      · simp [h]
      · simp [h]
    rw [e]
    by_cases h : n = i
    · subst h; simp
    · have h2 : ¬ i = n := fun z => h z.symm
      simp [h, h2]
theorem all_flat_int : ∀ ns : List Int, (ns.map PyData.int).all flatD = true
  | [] => rfl
  | n :: ns => by rw [List.map_cons, List.all_cons, all_flat_int ns]; rfl
theorem x_inL : fIn (.sh (.int i)) (.sh (.list (ns.map PyData.int))) = some (.sh (.bool (decide (i ∈ ns)))) := by
  simp only [fIn, fInF, T.seqs, T.lits, Option.or, flatD, all_flat_int, Bool.and_self, if_true, Bool.false_eq_true, if_false, any_int]
theorem x_inO : fIn (.sh (.int i)) (.ol (ns.map PyData.int)) = some (.sh (.bool (decide (i ∈ ns)))) := by
  simp only [fIn, fInF, T.seqs, T.lits, Option.or, flatD, all_flat_int, Bool.and_self, if_true, Bool.false_eq_true, if_false, any_int]
theorem x_ninL : fNin (.sh (.int i)) (.sh (.list (ns.map PyData.int))) = some (.sh (.bool (!decide (i ∈ ns)))) := by
  simp only [fNin, fInF, T.seqs, T.lits, Option.or, flatD, all_flat_int, Bool.and_self, if_true, Bool.false_eq_true, if_false, any_int]
theorem x_ninO : fNin (.sh (.int i)) (.ol (ns.map PyData.int)) = some (.sh (.bool (!decide (i ∈ ns)))) := by
  simp only [fNin, fInF, T.seqs, T.lits, Option.or, flatD, all_flat_int, Bool.and_self, if_true, Bool.false_eq_true, if_false, any_int]
end
theorem x_bind {α β : Type} {a : α} {f : α → Rs β} : (Rs.ok a).bind f = f a := rfl
theorem x_rs {α : Type} {a : α} : rsO (some a) = .ok a := rfl
theorem x_asB {b : Bool} : T.asB (.sh (.bool b)) = some b := rfl
theorem x_asI {i : Int} : T.asI (.sh (.int i)) = some i := rfl
theorem x_bifB {a b : Bool} : (bif a then Rs.ok (T.sh (.bool b)) else Rs.ok (.sh (.bool false))) = .ok (.sh (.bool (a && b))) := by cases a <;> rfl
theorem x_bifO {a b : Bool} : (bif a then Rs.ok (T.sh (.bool true)) else Rs.ok (.sh (.bool b))) = .ok (.sh (.bool (a || b))) := by cases a <;> rfl
theorem x_andB {a b : Bool} : (bif a then Rs.ok b else Rs.ok false) = .ok (a && b) := by cases a <;> rfl
theorem x_orB {a b : Bool} : (bif a then Rs.ok true else Rs.ok b) = .ok (a || b) := by cases a <;> rfl
theorem x_bifI {a : Bool} {i j : Int} : (bif a then Rs.ok (T.sh (.int i)) else Rs.ok (.sh (.int j))) = .ok (.sh (.int (bif a then i else j))) := by cases a <;> rfl
end PL
set_option Elab.async false
set_option linter.all false
set_option maxRecDepth 100000
/-! PL18: defs that many laws share. -/
namespace PL
open PySem
/-! ints of a list -/
def at_ (ns : List Int) (i : Int) : Int := ns.getD i.toNat 0
theorem x_at {ns : List Int} {i : Int} (h0 : 0 ≤ i) (h1 : i < (ns.length : Int)) : L2.atI (ns.map PyData.int) i = some (.int (at_ ns i)) := by
  refine x_ixm ?_
  rw [atI_get h0 h1]
  unfold at_
  rw [List.getD_eq_getElem?_getD, List.getElem?_eq_getElem (by omega)]
  rfl
theorem x_atS {ns : List Int} {i : Int} (h0 : 0 ≤ i) (h1 : i < (ns.length : Int)) : L2.atI ns i = some (at_ ns i) := by
  rw [atI_get h0 h1]
  unfold at_
  rw [List.getD_eq_getElem?_getD, List.getElem?_eq_getElem (by omega)]
  rfl
def Below (m : Int) (ns : List Int) : Prop := ∀ x ∈ ns, 0 ≤ x ∧ x < m
theorem Below.at {m : Int} {ns : List Int} (h : Below m ns) (hm : 0 < m) (i : Int) : 0 ≤ at_ ns i ∧ at_ ns i < m := by
  unfold at_
  rw [List.getD_eq_getElem?_getD]
  cases e : ns[i.toNat]? with
  | none => exact ⟨by show (0 : Int) ≤ 0; omega, hm⟩
  | some x => exact h x (List.mem_of_getElem? e)
theorem at_mem {ns : List Int} {i : Int} (h0 : 0 ≤ i) (h1 : i < (ns.length : Int)) : at_ ns i ∈ ns := by
  unfold at_
  rw [List.getD_eq_getElem?_getD, List.getElem?_eq_getElem (show i.toNat < ns.length by omega)]
  exact List.getElem_mem _
theorem x_app {ds : List D} {d : D} (h : ds.length < 16777216) : appT (.ol ds) (.sh d) = some (.ol (ds ++ [d])) := by
  have e : ds.length < sizeLine := by rw [sizeLine_eq]; exact h
  simp only [appT, e, if_true]
theorem x_pow1018 : fPow (.sh (.int 10)) (.sh (.int 18)) = some (.sh (.int 1000000000000000000)) := rfl
theorem x_pow109 : fPow (.sh (.int 10)) (.sh (.int 9)) = some (.sh (.int 1000000000)) := rfl
theorem x_pow1012 : fPow (.sh (.int 10)) (.sh (.int 12)) = some (.sh (.int 1000000000000)) := rfl
theorem snocI (ns : List Int) (i : Int) : ns.map PyData.int ++ [PyData.int i] = (ns ++ [i]).map PyData.int := by simp
namespace Sh
def s__law_cell : En → Out := (sSeq (sIf (evEB (evBin fLtI (evVar 1) (evSh (evC1 fLen (evCons (evVar 0) evNil))))) (sRet (evC1 fInt1 (evCons (evBin fIx (evVar 0) (evVar 1)) evNil))) sNil) (sRet (evC (.int 0))))
def d__law_cell : List T → Rs T := fnD 2 0 s__law_cell
def s__law_numbers : En → Out := (sSeq (sSet 3 [] (evLst evNil)) (sSeq (sIf (evEB (evBin fGeI (evVar 0) (evSh (evBin fPow (evSh (evC (.int 10))) (evSh (evC (.int 18))))))) (sSeq (sFor (eiRng1 (evCons (evVar 1) evNil)) (egName 4) (sSeq (sApp 3 [] (evBin fMod (evSh (evC1 fInt1 (evCons (evVar 0) evNil))) (evVar 2))) (sSet 0 [] (evSh (evBin fDiv (evSh (evC1 fInt1 (evCons (evVar 0) evNil))) (evVar 2)))))) (sRet (evVar 3))) sNil) (sSeq (sFor (eiRng1 (evCons (evVar 1) evNil)) (egName 4) (sSeq (sSet 5 [] (evSh (evBin fMod (evSh (evC1 fInt1 (evCons (evSh (evBin fAdd (evSh (evBin fAdd (evSh (evBin fMul (evVar 0) (evSh (evC (.int 48271))))) (evSh (evBin fMul (evVar 4) (evSh (evC (.int 69621))))))) (evSh (evC (.int 7))))) evNil))) (evSh (evC (.int 2147483647)))))) (sSeq (sSet 5 [] (evSh (evBin fMod (evSh (evC1 fInt1 (evCons (evSh (evBin fAdd (evSh (evBin fAdd (evSh (evBin fAdd (evSh (evBin fMul (evVar 5) (evVar 5))) (evSh (evBin fMul (evVar 5) (evSh (evC (.int 40692))))))) (evSh (evBin fMul (evVar 4) (evSh (evC (.int 16807))))))) (evSh (evC (.int 11))))) evNil))) (evSh (evC (.int 2147483399)))))) (sApp 3 [] (evBin fMod (evSh (evC1 fInt1 (evCons (evSh (evBin fDiv (evVar 5) (evSh (evC (.int 32))))) evNil))) (evVar 2)))))) (sRet (evVar 3)))))
def d__law_numbers : List T → Rs T := fnD 3 3 s__law_numbers
def s__law_same (rec : List T → Rs T) : En → Out := (sSeq (sIf (evTru (evSh (evIsi "list" (evVar 1)))) (sIf (evOr (evNot (evTru (evSh (evIsi "list" (evVar 0))))) (evEB (evBin fNe (evSh (evC1 fLen (evCons (evVar 0) evNil))) (evSh (evC1 fLen (evCons (evVar 1) evNil)))))) (sRet (evC (.bool false))) sNil) (sIf (evTru (evSh (evIsi "tuple" (evVar 1)))) (sIf (evOr (evNot (evTru (evSh (evIsi "tuple" (evVar 0))))) (evEB (evBin fNe (evSh (evC1 fLen (evCons (evVar 0) evNil))) (evSh (evC1 fLen (evCons (evVar 1) evNil)))))) (sRet (evC (.bool false))) sNil) (sIf (evEB (evBin fIsN (evVar 1) (evSh (evC .none)))) (sRet (evBin fIsN (evVar 0) (evSh (evC .none)))) (sIf (evTru (evSh (evIsi "bool" (evVar 1)))) (sRet (evAndV (evSh (evIsi "bool" (evVar 0))) (evBin fEq (evVar 0) (evVar 1)))) (sIf (evTru (evSh (evIsi "int" (evVar 1)))) (sRet (evAndV (evSh (evIsi "int" (evVar 0))) (evAndV (evSh (evNotV (evSh (evIsi "bool" (evVar 0))))) (evBin fEq (evVar 0) (evVar 1))))) (sRet (evAndV (evSh (evIsi "str" (evVar 0))) (evBin fEq (evVar 0) (evVar 1))))))))) (sSeq (sFor (eiRng1 (evCons (evSh (evC1 fLen (evCons (evVar 1) evNil))) evNil)) (egName 2) (sIf (evNot (evTru (evSh (evCall 2 rec (evCons (evBin fIx (evVar 0) (evVar 2)) (evCons (evBin fIx (evVar 1) (evVar 2)) evNil)))))) (sRet (evC (.bool false))) sNil)) (sRet (evC (.bool true)))))
def d__law_same : Nat → List T → Rs T
  | 0 => fun _ => .bad
  | n + 1 => fnD 2 1 (s__law_same (d__law_same n))

theorem law_cell (ns : List Int) (k : Int) (hk : 0 ≤ k) : ∃ c : Int, d__law_cell [.scr ns, .sh (.int k)] = .ok (.sh (.int c)) := by
  by_cases h : k < (ns.length : Int)
  · refine ⟨at_ ns k, fn_eq rfl ?_⟩
    refine p_seq (p_ifD (p := k < (ns.length : Int)) ?_ (fun hp => ?_) fun hp => absurd h hp)
    · simp only [evVar, En.get, evC, evBin, evSh, evEsc, evB, evEB, evChain, evAnd, evOr, evNot, evAndV, evOrV, evNotV, evIf, evCons, evNil, evLst, evTup, evCall, callF, evSl, eoN, eoS, evUn, evC1, evIsi, evTru, erg1, erg2, evLRg, evTRg, eiSeq, eiEnum, eiZip, x_bind, x_rs, x_asB, x_asI, x_bifB, x_bifO, x_andB, x_orB, x_bifI, List.length_map, en0, List.replicate, List.cons_append, List.nil_append, T.asD, T.items, T.itL, T.itT, T.er, T.ers, T.noScr, T.noScrs, T.shs, mkL, mkT, T.isSh, T.argOk, T.toArg, T.solid, T.isL, T.parts, putAll, T.tru, T.ty, T.isRg, tyD, En.put, En.clr, En.share, egName, egTup, egCons, egNil, Option.map_some, Option.map_none, Option.bind_some, Option.bind, List.all_cons, List.all_nil, List.map_cons, List.map_nil, List.length_cons, List.length_nil, Bool.and_true, Bool.true_and, Bool.and_self, Bool.not_true, Bool.not_false, if_true, cond_true, cond_false, Bool.false_eq_true, if_false, true_and, and_true, Rs.P_ok, Bool.and_false, Bool.false_and, Nat.reduceAdd, Nat.reduceLeDiff, Nat.reduceEqDiff, reduceCtorEq, x_add, x_iadd, x_sub, x_lt, x_le, x_gt, x_ge, x_eq, x_ne, x_eqB, x_neB, x_eqS, x_neS, x_max2, x_min2, x_int1, x_intB, x_lenL, x_lenT, x_lenO, x_lenS, x_sumL, x_sumO, x_sortL, x_sortO, x_listL, x_listT, x_listO, x_isN, x_isNn, x_isNi, x_isNl, x_isNt, x_isNb, x_notN, x_ixL, x_ixT, x_ixO, x_ixS, x_ix0, x_ix1, x_ix2, x_sl, x_slO, x_slT, x_inL, x_inO, x_ninL, x_ninO]
    · refine p_ret ?_
      simp only [evVar, En.get, evC, evBin, evSh, evEsc, evB, evEB, evChain, evAnd, evOr, evNot, evAndV, evOrV, evNotV, evIf, evCons, evNil, evLst, evTup, evCall, callF, evSl, eoN, eoS, evUn, evC1, evIsi, evTru, erg1, erg2, evLRg, evTRg, eiSeq, eiEnum, eiZip, x_bind, x_rs, x_asB, x_asI, x_bifB, x_bifO, x_andB, x_orB, x_bifI, List.length_map, en0, List.replicate, List.cons_append, List.nil_append, T.asD, T.items, T.itL, T.itT, T.er, T.ers, T.noScr, T.noScrs, T.shs, mkL, mkT, T.isSh, T.argOk, T.toArg, T.solid, T.isL, T.parts, putAll, T.tru, T.ty, T.isRg, tyD, En.put, En.clr, En.share, egName, egTup, egCons, egNil, Option.map_some, Option.map_none, Option.bind_some, Option.bind, List.all_cons, List.all_nil, List.map_cons, List.map_nil, List.length_cons, List.length_nil, Bool.and_true, Bool.true_and, Bool.and_self, Bool.not_true, Bool.not_false, if_true, cond_true, cond_false, Bool.false_eq_true, if_false, true_and, and_true, Rs.P_ok, Bool.and_false, Bool.false_and, Nat.reduceAdd, Nat.reduceLeDiff, Nat.reduceEqDiff, reduceCtorEq, x_add, x_iadd, x_sub, x_lt, x_le, x_gt, x_ge, x_eq, x_ne, x_eqB, x_neB, x_eqS, x_neS, x_max2, x_min2, x_int1, x_intB, x_lenL, x_lenT, x_lenO, x_lenS, x_sumL, x_sumO, x_sortL, x_sortO, x_listL, x_listT, x_listO, x_isN, x_isNn, x_isNi, x_isNl, x_isNt, x_isNb, x_notN, x_ixL, x_ixT, x_ixO, x_ixS, x_ix0, x_ix1, x_ix2, x_sl, x_slO, x_slT, x_inL, x_inO, x_ninL, x_ninO, x_atS hk h]
  · refine ⟨0, fn_eq rfl ?_⟩
    refine p_seq (p_ifD (p := k < (ns.length : Int)) ?_ (fun hp => absurd hp h) fun hp => ?_)
    · simp only [evVar, En.get, evC, evBin, evSh, evEsc, evB, evEB, evChain, evAnd, evOr, evNot, evAndV, evOrV, evNotV, evIf, evCons, evNil, evLst, evTup, evCall, callF, evSl, eoN, eoS, evUn, evC1, evIsi, evTru, erg1, erg2, evLRg, evTRg, eiSeq, eiEnum, eiZip, x_bind, x_rs, x_asB, x_asI, x_bifB, x_bifO, x_andB, x_orB, x_bifI, List.length_map, en0, List.replicate, List.cons_append, List.nil_append, T.asD, T.items, T.itL, T.itT, T.er, T.ers, T.noScr, T.noScrs, T.shs, mkL, mkT, T.isSh, T.argOk, T.toArg, T.solid, T.isL, T.parts, putAll, T.tru, T.ty, T.isRg, tyD, En.put, En.clr, En.share, egName, egTup, egCons, egNil, Option.map_some, Option.map_none, Option.bind_some, Option.bind, List.all_cons, List.all_nil, List.map_cons, List.map_nil, List.length_cons, List.length_nil, Bool.and_true, Bool.true_and, Bool.and_self, Bool.not_true, Bool.not_false, if_true, cond_true, cond_false, Bool.false_eq_true, if_false, true_and, and_true, Rs.P_ok, Bool.and_false, Bool.false_and, Nat.reduceAdd, Nat.reduceLeDiff, Nat.reduceEqDiff, reduceCtorEq, x_add, x_iadd, x_sub, x_lt, x_le, x_gt, x_ge, x_eq, x_ne, x_eqB, x_neB, x_eqS, x_neS, x_max2, x_min2, x_int1, x_intB, x_lenL, x_lenT, x_lenO, x_lenS, x_sumL, x_sumO, x_sortL, x_sortO, x_listL, x_listT, x_listO, x_isN, x_isNn, x_isNi, x_isNl, x_isNt, x_isNb, x_notN, x_ixL, x_ixT, x_ixO, x_ixS, x_ix0, x_ix1, x_ix2, x_sl, x_slO, x_slT, x_inL, x_inO, x_ninL, x_ninO]
    · refine p_nil (p_ret ?_)
      simp only [evVar, En.get, evC, evBin, evSh, evEsc, evB, evEB, evChain, evAnd, evOr, evNot, evAndV, evOrV, evNotV, evIf, evCons, evNil, evLst, evTup, evCall, callF, evSl, eoN, eoS, evUn, evC1, evIsi, evTru, erg1, erg2, evLRg, evTRg, eiSeq, eiEnum, eiZip, x_bind, x_rs, x_asB, x_asI, x_bifB, x_bifO, x_andB, x_orB, x_bifI, List.length_map, en0, List.replicate, List.cons_append, List.nil_append, T.asD, T.items, T.itL, T.itT, T.er, T.ers, T.noScr, T.noScrs, T.shs, mkL, mkT, T.isSh, T.argOk, T.toArg, T.solid, T.isL, T.parts, putAll, T.tru, T.ty, T.isRg, tyD, En.put, En.clr, En.share, egName, egTup, egCons, egNil, Option.map_some, Option.map_none, Option.bind_some, Option.bind, List.all_cons, List.all_nil, List.map_cons, List.map_nil, List.length_cons, List.length_nil, Bool.and_true, Bool.true_and, Bool.and_self, Bool.not_true, Bool.not_false, if_true, cond_true, cond_false, Bool.false_eq_true, if_false, true_and, and_true, Rs.P_ok, Bool.and_false, Bool.false_and, Nat.reduceAdd, Nat.reduceLeDiff, Nat.reduceEqDiff, reduceCtorEq, x_add, x_iadd, x_sub, x_lt, x_le, x_gt, x_ge, x_eq, x_ne, x_eqB, x_neB, x_eqS, x_neS, x_max2, x_min2, x_int1, x_intB, x_lenL, x_lenT, x_lenO, x_lenS, x_sumL, x_sumO, x_sortL, x_sortO, x_listL, x_listT, x_listO, x_isN, x_isNn, x_isNi, x_isNl, x_isNt, x_isNb, x_notN, x_ixL, x_ixT, x_ixO, x_ixS, x_ix0, x_ix1, x_ix2, x_sl, x_slO, x_slT, x_inL, x_inO, x_ninL, x_ninO]
theorem law_numbers (cell count limit : Int) (h0 : 0 ≤ count) (h1 : count ≤ 65536) (h2 : 0 < limit) (h3 : limit < 1000000000000000000) :
    ∃ ns : List Int, d__law_numbers [.sh (.int cell), .sh (.int count), .sh (.int limit)] = .ok (.ol (ns.map PyData.int)) ∧ (ns.length : Int) = count ∧ Below limit ns := by
  suffices hs : (d__law_numbers [.sh (.int cell), .sh (.int count), .sh (.int limit)]).P fun t => ∃ ns : List Int, t = .ol (ns.map PyData.int) ∧ (ns.length : Int) = count ∧ Below limit ns by
    obtain ⟨t, e, ns, rfl, q⟩ := hs.ex
    exact ⟨ns, e, q⟩
  have snoc : ∀ {L : List Int} {x : Int}, Below limit L → 0 ≤ x ∧ x < limit → Below limit (L ++ [x]) := fun {L x} hL hx y hy => by
    rcases List.mem_append.mp hy with z | z
    · exact hL y z
    · obtain rfl : y = x := by simpa using z
      exact hx
  refine p_fn rfl ?_
  refine p_seq (p_set ?_)
  simp only [evVar, En.get, evC, evBin, evSh, evEsc, evB, evEB, evChain, evAnd, evOr, evNot, evAndV, evOrV, evNotV, evIf, evCons, evNil, evLst, evTup, evCall, callF, evSl, eoN, eoS, evUn, evC1, evIsi, evTru, erg1, erg2, evLRg, evTRg, eiSeq, eiEnum, eiZip, x_bind, x_rs, x_asB, x_asI, x_bifB, x_bifO, x_andB, x_orB, x_bifI, List.length_map, en0, List.replicate, List.cons_append, List.nil_append, T.asD, T.items, T.itL, T.itT, T.er, T.ers, T.noScr, T.noScrs, T.shs, mkL, mkT, T.isSh, T.argOk, T.toArg, T.solid, T.isL, T.parts, putAll, T.tru, T.ty, T.isRg, tyD, En.put, En.clr, En.share, egName, egTup, egCons, egNil, Option.map_some, Option.map_none, Option.bind_some, Option.bind, List.all_cons, List.all_nil, List.map_cons, List.map_nil, List.length_cons, List.length_nil, Bool.and_true, Bool.true_and, Bool.and_self, Bool.not_true, Bool.not_false, if_true, cond_true, cond_false, Bool.false_eq_true, if_false, true_and, and_true, Rs.P_ok, Bool.and_false, Bool.false_and, Nat.reduceAdd, Nat.reduceLeDiff, Nat.reduceEqDiff, reduceCtorEq, x_add, x_iadd, x_sub, x_lt, x_le, x_gt, x_ge, x_eq, x_ne, x_eqB, x_neB, x_eqS, x_neS, x_max2, x_min2, x_int1, x_intB, x_lenL, x_lenT, x_lenO, x_lenS, x_sumL, x_sumO, x_sortL, x_sortO, x_listL, x_listT, x_listO, x_isN, x_isNn, x_isNi, x_isNl, x_isNt, x_isNb, x_notN, x_ixL, x_ixT, x_ixO, x_ixS, x_ix0, x_ix1, x_ix2, x_sl, x_slO, x_slT, x_inL, x_inO, x_ninL, x_ninO, List.length_nil, Nat.zero_le]
  refine p_seq (p_ifD (p := 1000000000000000000 ≤ cell) ?_ (fun hp => ?_) fun hp => ?_)
  · simp only [evVar, En.get, evC, evBin, evSh, evEsc, evB, evEB, evChain, evAnd, evOr, evNot, evAndV, evOrV, evNotV, evIf, evCons, evNil, evLst, evTup, evCall, callF, evSl, eoN, eoS, evUn, evC1, evIsi, evTru, erg1, erg2, evLRg, evTRg, eiSeq, eiEnum, eiZip, x_bind, x_rs, x_asB, x_asI, x_bifB, x_bifO, x_andB, x_orB, x_bifI, List.length_map, en0, List.replicate, List.cons_append, List.nil_append, T.asD, T.items, T.itL, T.itT, T.er, T.ers, T.noScr, T.noScrs, T.shs, mkL, mkT, T.isSh, T.argOk, T.toArg, T.solid, T.isL, T.parts, putAll, T.tru, T.ty, T.isRg, tyD, En.put, En.clr, En.share, egName, egTup, egCons, egNil, Option.map_some, Option.map_none, Option.bind_some, Option.bind, List.all_cons, List.all_nil, List.map_cons, List.map_nil, List.length_cons, List.length_nil, Bool.and_true, Bool.true_and, Bool.and_self, Bool.not_true, Bool.not_false, if_true, cond_true, cond_false, Bool.false_eq_true, if_false, true_and, and_true, Rs.P_ok, Bool.and_false, Bool.false_and, Nat.reduceAdd, Nat.reduceLeDiff, Nat.reduceEqDiff, reduceCtorEq, x_add, x_iadd, x_sub, x_lt, x_le, x_gt, x_ge, x_eq, x_ne, x_eqB, x_neB, x_eqS, x_neS, x_max2, x_min2, x_int1, x_intB, x_lenL, x_lenT, x_lenO, x_lenS, x_sumL, x_sumO, x_sortL, x_sortO, x_listL, x_listT, x_listO, x_isN, x_isNn, x_isNi, x_isNl, x_isNt, x_isNb, x_notN, x_ixL, x_ixT, x_ixO, x_ixS, x_ix0, x_ix1, x_ix2, x_sl, x_slO, x_slT, x_inL, x_inO, x_ninL, x_ninO, x_pow1018]
  · refine p_seq (p_forM (l := rngI 0 count) (x_rng1 (by simp only [evVar, En.get, evC, evBin, evSh, evEsc, evB, evEB, evChain, evAnd, evOr, evNot, evAndV, evOrV, evNotV, evIf, evCons, evNil, evLst, evTup, evCall, callF, evSl, eoN, eoS, evUn, evC1, evIsi, evTru, erg1, erg2, evLRg, evTRg, eiSeq, eiEnum, eiZip, x_bind, x_rs, x_asB, x_asI, x_bifB, x_bifO, x_andB, x_orB, x_bifI, List.length_map, en0, List.replicate, List.cons_append, List.nil_append, T.asD, T.items, T.itL, T.itT, T.er, T.ers, T.noScr, T.noScrs, T.shs, mkL, mkT, T.isSh, T.argOk, T.toArg, T.solid, T.isL, T.parts, putAll, T.tru, T.ty, T.isRg, tyD, En.put, En.clr, En.share, egName, egTup, egCons, egNil, Option.map_some, Option.map_none, Option.bind_some, Option.bind, List.all_cons, List.all_nil, List.map_cons, List.map_nil, List.length_cons, List.length_nil, Bool.and_true, Bool.true_and, Bool.and_self, Bool.not_true, Bool.not_false, if_true, cond_true, cond_false, Bool.false_eq_true, if_false, true_and, and_true, Rs.P_ok, Bool.and_false, Bool.false_and, Nat.reduceAdd, Nat.reduceLeDiff, Nat.reduceEqDiff, reduceCtorEq, x_add, x_iadd, x_sub, x_lt, x_le, x_gt, x_ge, x_eq, x_ne, x_eqB, x_neB, x_eqS, x_neS, x_max2, x_min2, x_int1, x_intB, x_lenL, x_lenT, x_lenO, x_lenS, x_sumL, x_sumO, x_sortL, x_sortO, x_listL, x_listT, x_listO, x_isN, x_isNn, x_isNi, x_isNl, x_isNt, x_isNb, x_notN, x_ixL, x_ixT, x_ixO, x_ixS, x_ix0, x_ix1, x_ix2, x_sl, x_slO, x_slT, x_inL, x_inO, x_ninL, x_ninO]) (by omega) (by omega)) (fun r ρ => ∃ (L : List Int) (c : Int) (o4 : Option T), ρ = [some (.sh (.int c)), some (.sh (.int count)), some (.sh (.int limit)), some (.ol (L.map PyData.int)), o4, none] ∧ (L.length : Int) + r.length = count ∧ Below limit L) ?_ ?_ ?_)
    · exact ⟨[], cell, none, rfl, by rw [rngI_len]; simp; omega, fun x hx => by cases hx⟩
    · rintro k r ρ ⟨L, c, o4, rfl, hl, hb⟩
      rw [List.length_cons] at hl
      refine ⟨_, rfl, ?_⟩
      refine p_seq (p_app rfl rfl ?_)
      simp only [evVar, En.get, evC, evBin, evSh, evEsc, evB, evEB, evChain, evAnd, evOr, evNot, evAndV, evOrV, evNotV, evIf, evCons, evNil, evLst, evTup, evCall, callF, evSl, eoN, eoS, evUn, evC1, evIsi, evTru, erg1, erg2, evLRg, evTRg, eiSeq, eiEnum, eiZip, x_bind, x_rs, x_asB, x_asI, x_bifB, x_bifO, x_andB, x_orB, x_bifI, List.length_map, en0, List.replicate, List.cons_append, List.nil_append, T.asD, T.items, T.itL, T.itT, T.er, T.ers, T.noScr, T.noScrs, T.shs, mkL, mkT, T.isSh, T.argOk, T.toArg, T.solid, T.isL, T.parts, putAll, T.tru, T.ty, T.isRg, tyD, En.put, En.clr, En.share, egName, egTup, egCons, egNil, Option.map_some, Option.map_none, Option.bind_some, Option.bind, List.all_cons, List.all_nil, List.map_cons, List.map_nil, List.length_cons, List.length_nil, Bool.and_true, Bool.true_and, Bool.and_self, Bool.not_true, Bool.not_false, if_true, cond_true, cond_false, Bool.false_eq_true, if_false, true_and, and_true, Rs.P_ok, Bool.and_false, Bool.false_and, Nat.reduceAdd, Nat.reduceLeDiff, Nat.reduceEqDiff, reduceCtorEq, x_add, x_iadd, x_sub, x_lt, x_le, x_gt, x_ge, x_eq, x_ne, x_eqB, x_neB, x_eqS, x_neS, x_max2, x_min2, x_int1, x_intB, x_lenL, x_lenT, x_lenO, x_lenS, x_sumL, x_sumO, x_sortL, x_sortO, x_listL, x_listT, x_listO, x_isN, x_isNn, x_isNi, x_isNl, x_isNt, x_isNb, x_notN, x_ixL, x_ixT, x_ixO, x_ixS, x_ix0, x_ix1, x_ix2, x_sl, x_slO, x_slT, x_inL, x_inO, x_ninL, x_ninO, x_mod h2]
      refine ⟨_, x_app (by rw [List.length_map]; omega), p_set ?_⟩
      simp only [evVar, En.get, evC, evBin, evSh, evEsc, evB, evEB, evChain, evAnd, evOr, evNot, evAndV, evOrV, evNotV, evIf, evCons, evNil, evLst, evTup, evCall, callF, evSl, eoN, eoS, evUn, evC1, evIsi, evTru, erg1, erg2, evLRg, evTRg, eiSeq, eiEnum, eiZip, x_bind, x_rs, x_asB, x_asI, x_bifB, x_bifO, x_andB, x_orB, x_bifI, List.length_map, en0, List.replicate, List.cons_append, List.nil_append, T.asD, T.items, T.itL, T.itT, T.er, T.ers, T.noScr, T.noScrs, T.shs, mkL, mkT, T.isSh, T.argOk, T.toArg, T.solid, T.isL, T.parts, putAll, T.tru, T.ty, T.isRg, tyD, En.put, En.clr, En.share, egName, egTup, egCons, egNil, Option.map_some, Option.map_none, Option.bind_some, Option.bind, List.all_cons, List.all_nil, List.map_cons, List.map_nil, List.length_cons, List.length_nil, Bool.and_true, Bool.true_and, Bool.and_self, Bool.not_true, Bool.not_false, if_true, cond_true, cond_false, Bool.false_eq_true, if_false, true_and, and_true, Rs.P_ok, Bool.and_false, Bool.false_and, Nat.reduceAdd, Nat.reduceLeDiff, Nat.reduceEqDiff, reduceCtorEq, x_add, x_iadd, x_sub, x_lt, x_le, x_gt, x_ge, x_eq, x_ne, x_eqB, x_neB, x_eqS, x_neS, x_max2, x_min2, x_int1, x_intB, x_lenL, x_lenT, x_lenO, x_lenS, x_sumL, x_sumO, x_sortL, x_sortO, x_listL, x_listT, x_listO, x_isN, x_isNn, x_isNi, x_isNl, x_isNt, x_isNb, x_notN, x_ixL, x_ixT, x_ixO, x_ixS, x_ix0, x_ix1, x_ix2, x_sl, x_slO, x_slT, x_inL, x_inO, x_ninL, x_ninO, x_div h2 (by omega), snocI]
      exact ⟨_, _, _, rfl, by rw [List.length_append]; simp; omega, snoc hb ⟨Int.emod_nonneg _ (by omega), Int.emod_lt_of_pos _ h2⟩⟩
    · rintro ρ ⟨L, c, o4, rfl, hl, hb⟩
      refine p_ret ?_
      simp only [evVar, En.get, evC, evBin, evSh, evEsc, evB, evEB, evChain, evAnd, evOr, evNot, evAndV, evOrV, evNotV, evIf, evCons, evNil, evLst, evTup, evCall, callF, evSl, eoN, eoS, evUn, evC1, evIsi, evTru, erg1, erg2, evLRg, evTRg, eiSeq, eiEnum, eiZip, x_bind, x_rs, x_asB, x_asI, x_bifB, x_bifO, x_andB, x_orB, x_bifI, List.length_map, en0, List.replicate, List.cons_append, List.nil_append, T.asD, T.items, T.itL, T.itT, T.er, T.ers, T.noScr, T.noScrs, T.shs, mkL, mkT, T.isSh, T.argOk, T.toArg, T.solid, T.isL, T.parts, putAll, T.tru, T.ty, T.isRg, tyD, En.put, En.clr, En.share, egName, egTup, egCons, egNil, Option.map_some, Option.map_none, Option.bind_some, Option.bind, List.all_cons, List.all_nil, List.map_cons, List.map_nil, List.length_cons, List.length_nil, Bool.and_true, Bool.true_and, Bool.and_self, Bool.not_true, Bool.not_false, if_true, cond_true, cond_false, Bool.false_eq_true, if_false, true_and, and_true, Rs.P_ok, Bool.and_false, Bool.false_and, Nat.reduceAdd, Nat.reduceLeDiff, Nat.reduceEqDiff, reduceCtorEq, x_add, x_iadd, x_sub, x_lt, x_le, x_gt, x_ge, x_eq, x_ne, x_eqB, x_neB, x_eqS, x_neS, x_max2, x_min2, x_int1, x_intB, x_lenL, x_lenT, x_lenO, x_lenS, x_sumL, x_sumO, x_sortL, x_sortO, x_listL, x_listT, x_listO, x_isN, x_isNn, x_isNi, x_isNl, x_isNt, x_isNb, x_notN, x_ixL, x_ixT, x_ixO, x_ixS, x_ix0, x_ix1, x_ix2, x_sl, x_slO, x_slT, x_inL, x_inO, x_ninL, x_ninO]
      exact ⟨L, rfl, by simpa using hl, hb⟩
  · refine p_nil (p_seq (p_forM (l := rngI 0 count) (x_rng1 (by simp only [evVar, En.get, evC, evBin, evSh, evEsc, evB, evEB, evChain, evAnd, evOr, evNot, evAndV, evOrV, evNotV, evIf, evCons, evNil, evLst, evTup, evCall, callF, evSl, eoN, eoS, evUn, evC1, evIsi, evTru, erg1, erg2, evLRg, evTRg, eiSeq, eiEnum, eiZip, x_bind, x_rs, x_asB, x_asI, x_bifB, x_bifO, x_andB, x_orB, x_bifI, List.length_map, en0, List.replicate, List.cons_append, List.nil_append, T.asD, T.items, T.itL, T.itT, T.er, T.ers, T.noScr, T.noScrs, T.shs, mkL, mkT, T.isSh, T.argOk, T.toArg, T.solid, T.isL, T.parts, putAll, T.tru, T.ty, T.isRg, tyD, En.put, En.clr, En.share, egName, egTup, egCons, egNil, Option.map_some, Option.map_none, Option.bind_some, Option.bind, List.all_cons, List.all_nil, List.map_cons, List.map_nil, List.length_cons, List.length_nil, Bool.and_true, Bool.true_and, Bool.and_self, Bool.not_true, Bool.not_false, if_true, cond_true, cond_false, Bool.false_eq_true, if_false, true_and, and_true, Rs.P_ok, Bool.and_false, Bool.false_and, Nat.reduceAdd, Nat.reduceLeDiff, Nat.reduceEqDiff, reduceCtorEq, x_add, x_iadd, x_sub, x_lt, x_le, x_gt, x_ge, x_eq, x_ne, x_eqB, x_neB, x_eqS, x_neS, x_max2, x_min2, x_int1, x_intB, x_lenL, x_lenT, x_lenO, x_lenS, x_sumL, x_sumO, x_sortL, x_sortO, x_listL, x_listT, x_listO, x_isN, x_isNn, x_isNi, x_isNl, x_isNt, x_isNb, x_notN, x_ixL, x_ixT, x_ixO, x_ixS, x_ix0, x_ix1, x_ix2, x_sl, x_slO, x_slT, x_inL, x_inO, x_ninL, x_ninO]) (by omega) (by omega)) (fun r ρ => ∃ (L : List Int) (o4 o5 : Option T), ρ = [some (.sh (.int cell)), some (.sh (.int count)), some (.sh (.int limit)), some (.ol (L.map PyData.int)), o4, o5] ∧ (L.length : Int) + r.length = count ∧ Below limit L ∧ ∀ x ∈ r, 0 ≤ x ∧ x < count) ?_ ?_ ?_))
    · exact ⟨[], none, none, rfl, by rw [rngI_len]; simp; omega, (fun x hx => by cases hx), fun x hx => rngI_mem.mp hx⟩
    · rintro k r ρ ⟨L, o4, o5, rfl, hl, hb, hk⟩
      rw [List.length_cons] at hl
      have hk0 := hk k List.mem_cons_self
      refine ⟨_, rfl, ?_⟩
      refine p_seq (p_set ?_)
      simp only [evVar, En.get, evC, evBin, evSh, evEsc, evB, evEB, evChain, evAnd, evOr, evNot, evAndV, evOrV, evNotV, evIf, evCons, evNil, evLst, evTup, evCall, callF, evSl, eoN, eoS, evUn, evC1, evIsi, evTru, erg1, erg2, evLRg, evTRg, eiSeq, eiEnum, eiZip, x_bind, x_rs, x_asB, x_asI, x_bifB, x_bifO, x_andB, x_orB, x_bifI, List.length_map, en0, List.replicate, List.cons_append, List.nil_append, T.asD, T.items, T.itL, T.itT, T.er, T.ers, T.noScr, T.noScrs, T.shs, mkL, mkT, T.isSh, T.argOk, T.toArg, T.solid, T.isL, T.parts, putAll, T.tru, T.ty, T.isRg, tyD, En.put, En.clr, En.share, egName, egTup, egCons, egNil, Option.map_some, Option.map_none, Option.bind_some, Option.bind, List.all_cons, List.all_nil, List.map_cons, List.map_nil, List.length_cons, List.length_nil, Bool.and_true, Bool.true_and, Bool.and_self, Bool.not_true, Bool.not_false, if_true, cond_true, cond_false, Bool.false_eq_true, if_false, true_and, and_true, Rs.P_ok, Bool.and_false, Bool.false_and, Nat.reduceAdd, Nat.reduceLeDiff, Nat.reduceEqDiff, reduceCtorEq, x_add, x_iadd, x_sub, x_lt, x_le, x_gt, x_ge, x_eq, x_ne, x_eqB, x_neB, x_eqS, x_neS, x_max2, x_min2, x_int1, x_intB, x_lenL, x_lenT, x_lenO, x_lenS, x_sumL, x_sumO, x_sortL, x_sortO, x_listL, x_listT, x_listO, x_isN, x_isNn, x_isNi, x_isNl, x_isNt, x_isNb, x_notN, x_ixL, x_ixT, x_ixO, x_ixS, x_ix0, x_ix1, x_ix2, x_sl, x_slO, x_slT, x_inL, x_inO, x_ninL, x_ninO, x_mulR (show -18446744073709551616 < (48271 : Int) ∧ (48271 : Int) < 18446744073709551616 by decide), x_mulR (show -18446744073709551616 < (69621 : Int) ∧ (69621 : Int) < 18446744073709551616 by decide), x_mod (show (0 : Int) < 2147483647 by decide)]
      have hm : 0 ≤ (cell * 48271 + k * 69621 + 7) % 2147483647 ∧ (cell * 48271 + k * 69621 + 7) % 2147483647 < 2147483647 := ⟨Int.emod_nonneg _ (by decide), Int.emod_lt_of_pos _ (by decide)⟩
      generalize (cell * 48271 + k * 69621 + 7) % 2147483647 = m at hm
      refine p_seq (p_set ?_)
      simp only [evVar, En.get, evC, evBin, evSh, evEsc, evB, evEB, evChain, evAnd, evOr, evNot, evAndV, evOrV, evNotV, evIf, evCons, evNil, evLst, evTup, evCall, callF, evSl, eoN, eoS, evUn, evC1, evIsi, evTru, erg1, erg2, evLRg, evTRg, eiSeq, eiEnum, eiZip, x_bind, x_rs, x_asB, x_asI, x_bifB, x_bifO, x_andB, x_orB, x_bifI, List.length_map, en0, List.replicate, List.cons_append, List.nil_append, T.asD, T.items, T.itL, T.itT, T.er, T.ers, T.noScr, T.noScrs, T.shs, mkL, mkT, T.isSh, T.argOk, T.toArg, T.solid, T.isL, T.parts, putAll, T.tru, T.ty, T.isRg, tyD, En.put, En.clr, En.share, egName, egTup, egCons, egNil, Option.map_some, Option.map_none, Option.bind_some, Option.bind, List.all_cons, List.all_nil, List.map_cons, List.map_nil, List.length_cons, List.length_nil, Bool.and_true, Bool.true_and, Bool.and_self, Bool.not_true, Bool.not_false, if_true, cond_true, cond_false, Bool.false_eq_true, if_false, true_and, and_true, Rs.P_ok, Bool.and_false, Bool.false_and, Nat.reduceAdd, Nat.reduceLeDiff, Nat.reduceEqDiff, reduceCtorEq, x_add, x_iadd, x_sub, x_lt, x_le, x_gt, x_ge, x_eq, x_ne, x_eqB, x_neB, x_eqS, x_neS, x_max2, x_min2, x_int1, x_intB, x_lenL, x_lenT, x_lenO, x_lenS, x_sumL, x_sumO, x_sortL, x_sortO, x_listL, x_listT, x_listO, x_isN, x_isNn, x_isNi, x_isNl, x_isNt, x_isNb, x_notN, x_ixL, x_ixT, x_ixO, x_ixS, x_ix0, x_ix1, x_ix2, x_sl, x_slO, x_slT, x_inL, x_inO, x_ninL, x_ninO, x_mulR (show -18446744073709551616 < (40692 : Int) ∧ (40692 : Int) < 18446744073709551616 by decide), x_mulR (show -18446744073709551616 < (16807 : Int) ∧ (16807 : Int) < 18446744073709551616 by decide), x_mulR (show -18446744073709551616 < m ∧ m < 18446744073709551616 by omega), x_mod (show (0 : Int) < 2147483399 by decide)]
      refine p_app rfl rfl ?_
      simp only [evVar, En.get, evC, evBin, evSh, evEsc, evB, evEB, evChain, evAnd, evOr, evNot, evAndV, evOrV, evNotV, evIf, evCons, evNil, evLst, evTup, evCall, callF, evSl, eoN, eoS, evUn, evC1, evIsi, evTru, erg1, erg2, evLRg, evTRg, eiSeq, eiEnum, eiZip, x_bind, x_rs, x_asB, x_asI, x_bifB, x_bifO, x_andB, x_orB, x_bifI, List.length_map, en0, List.replicate, List.cons_append, List.nil_append, T.asD, T.items, T.itL, T.itT, T.er, T.ers, T.noScr, T.noScrs, T.shs, mkL, mkT, T.isSh, T.argOk, T.toArg, T.solid, T.isL, T.parts, putAll, T.tru, T.ty, T.isRg, tyD, En.put, En.clr, En.share, egName, egTup, egCons, egNil, Option.map_some, Option.map_none, Option.bind_some, Option.bind, List.all_cons, List.all_nil, List.map_cons, List.map_nil, List.length_cons, List.length_nil, Bool.and_true, Bool.true_and, Bool.and_self, Bool.not_true, Bool.not_false, if_true, cond_true, cond_false, Bool.false_eq_true, if_false, true_and, and_true, Rs.P_ok, Bool.and_false, Bool.false_and, Nat.reduceAdd, Nat.reduceLeDiff, Nat.reduceEqDiff, reduceCtorEq, x_add, x_iadd, x_sub, x_lt, x_le, x_gt, x_ge, x_eq, x_ne, x_eqB, x_neB, x_eqS, x_neS, x_max2, x_min2, x_int1, x_intB, x_lenL, x_lenT, x_lenO, x_lenS, x_sumL, x_sumO, x_sortL, x_sortO, x_listL, x_listT, x_listO, x_isN, x_isNn, x_isNi, x_isNl, x_isNt, x_isNb, x_notN, x_ixL, x_ixT, x_ixO, x_ixS, x_ix0, x_ix1, x_ix2, x_sl, x_slO, x_slT, x_inL, x_inO, x_ninL, x_ninO, x_div (show (0 : Int) < 32 by decide) (show (32 : Int) < 18446744073709551616 by decide), x_mod h2]
      refine ⟨_, x_app (by rw [List.length_map]; omega), ?_⟩
      simp only [evVar, En.get, evC, evBin, evSh, evEsc, evB, evEB, evChain, evAnd, evOr, evNot, evAndV, evOrV, evNotV, evIf, evCons, evNil, evLst, evTup, evCall, callF, evSl, eoN, eoS, evUn, evC1, evIsi, evTru, erg1, erg2, evLRg, evTRg, eiSeq, eiEnum, eiZip, x_bind, x_rs, x_asB, x_asI, x_bifB, x_bifO, x_andB, x_orB, x_bifI, List.length_map, en0, List.replicate, List.cons_append, List.nil_append, T.asD, T.items, T.itL, T.itT, T.er, T.ers, T.noScr, T.noScrs, T.shs, mkL, mkT, T.isSh, T.argOk, T.toArg, T.solid, T.isL, T.parts, putAll, T.tru, T.ty, T.isRg, tyD, En.put, En.clr, En.share, egName, egTup, egCons, egNil, Option.map_some, Option.map_none, Option.bind_some, Option.bind, List.all_cons, List.all_nil, List.map_cons, List.map_nil, List.length_cons, List.length_nil, Bool.and_true, Bool.true_and, Bool.and_self, Bool.not_true, Bool.not_false, if_true, cond_true, cond_false, Bool.false_eq_true, if_false, true_and, and_true, Rs.P_ok, Bool.and_false, Bool.false_and, Nat.reduceAdd, Nat.reduceLeDiff, Nat.reduceEqDiff, reduceCtorEq, x_add, x_iadd, x_sub, x_lt, x_le, x_gt, x_ge, x_eq, x_ne, x_eqB, x_neB, x_eqS, x_neS, x_max2, x_min2, x_int1, x_intB, x_lenL, x_lenT, x_lenO, x_lenS, x_sumL, x_sumO, x_sortL, x_sortO, x_listL, x_listT, x_listO, x_isN, x_isNn, x_isNi, x_isNl, x_isNt, x_isNb, x_notN, x_ixL, x_ixT, x_ixO, x_ixS, x_ix0, x_ix1, x_ix2, x_sl, x_slO, x_slT, x_inL, x_inO, x_ninL, x_ninO, snocI]
      exact ⟨_, _, _, rfl, by rw [List.length_append]; simp; omega, snoc hb ⟨Int.emod_nonneg _ (by omega), Int.emod_lt_of_pos _ h2⟩, fun x hx => hk x (List.mem_cons_of_mem _ hx)⟩
    · rintro ρ ⟨L, o4, o5, rfl, hl, hb, _⟩
      refine p_ret ?_
      simp only [evVar, En.get, evC, evBin, evSh, evEsc, evB, evEB, evChain, evAnd, evOr, evNot, evAndV, evOrV, evNotV, evIf, evCons, evNil, evLst, evTup, evCall, callF, evSl, eoN, eoS, evUn, evC1, evIsi, evTru, erg1, erg2, evLRg, evTRg, eiSeq, eiEnum, eiZip, x_bind, x_rs, x_asB, x_asI, x_bifB, x_bifO, x_andB, x_orB, x_bifI, List.length_map, en0, List.replicate, List.cons_append, List.nil_append, T.asD, T.items, T.itL, T.itT, T.er, T.ers, T.noScr, T.noScrs, T.shs, mkL, mkT, T.isSh, T.argOk, T.toArg, T.solid, T.isL, T.parts, putAll, T.tru, T.ty, T.isRg, tyD, En.put, En.clr, En.share, egName, egTup, egCons, egNil, Option.map_some, Option.map_none, Option.bind_some, Option.bind, List.all_cons, List.all_nil, List.map_cons, List.map_nil, List.length_cons, List.length_nil, Bool.and_true, Bool.true_and, Bool.and_self, Bool.not_true, Bool.not_false, if_true, cond_true, cond_false, Bool.false_eq_true, if_false, true_and, and_true, Rs.P_ok, Bool.and_false, Bool.false_and, Nat.reduceAdd, Nat.reduceLeDiff, Nat.reduceEqDiff, reduceCtorEq, x_add, x_iadd, x_sub, x_lt, x_le, x_gt, x_ge, x_eq, x_ne, x_eqB, x_neB, x_eqS, x_neS, x_max2, x_min2, x_int1, x_intB, x_lenL, x_lenT, x_lenO, x_lenS, x_sumL, x_sumO, x_sortL, x_sortO, x_listL, x_listT, x_listO, x_isN, x_isNn, x_isNi, x_isNl, x_isNt, x_isNb, x_notN, x_ixL, x_ixT, x_ixO, x_ixS, x_ix0, x_ix1, x_ix2, x_sl, x_slO, x_slT, x_inL, x_inO, x_ninL, x_ninO]
      exact ⟨L, rfl, by simpa using hl, hb⟩
/-! a value is the same as itself -/
def sameOk : Nat → D → Bool
  | 0, _ => false
  | n + 1, d => match d with
    | .list ds => decide (ds.length < 4611686018427387904) && ds.all (sameOk n)
    | .tuple ds => decide (ds.length < 4611686018427387904) && ds.all (sameOk n)
    | .dict _ => false
    | _ => true
theorem seq_same {n : Nat} {ds : List D} {a : D} (ha : (a = .list ds ∨ a = .tuple ds)) (hl : ds.length < 4611686018427387904) (ih : ∀ d ∈ ds, d__law_same n [.sh d, .sh d] = .ok (.sh (.bool true))) {N : En → Prop} {R : T → Prop} {B C : En → Prop} (hR : R (.sh (.bool true))) :
    Out.P (sSeq (sFor (eiRng1 (evCons (evSh (evC1 fLen (evCons (evVar 1) evNil))) evNil)) (egName 2) (sIf (evNot (evTru (evSh (evCall 2 (d__law_same n) (evCons (evBin fIx (evVar 0) (evVar 2)) (evCons (evBin fIx (evVar 1) (evVar 2)) evNil)))))) (sRet (evC (.bool false))) sNil)) (sRet (evC (.bool true)))
      [some (.sh a), some (.sh a), none]) N R B C := by
  have hlen : fLen [.sh a] = some (.sh (.int (ds.length : Nat))) := by rcases ha with rfl | rfl <;> rfl
  have hix : ∀ k : Int, fIx (.sh a) (.sh (.int k)) = (L2.atI ds k).map T.sh := fun k => by rcases ha with rfl | rfl <;> rfl
  refine p_seq (p_forM (l := rngI 0 (ds.length : Int)) (x_rng1 (by simp only [evVar, En.get, evC, evBin, evSh, evEsc, evB, evEB, evChain, evAnd, evOr, evNot, evAndV, evOrV, evNotV, evIf, evCons, evNil, evLst, evTup, evCall, callF, evSl, eoN, eoS, evUn, evC1, evIsi, evTru, erg1, erg2, evLRg, evTRg, eiSeq, eiEnum, eiZip, x_bind, x_rs, x_asB, x_asI, x_bifB, x_bifO, x_andB, x_orB, x_bifI, List.length_map, en0, List.replicate, List.cons_append, List.nil_append, T.asD, T.items, T.itL, T.itT, T.er, T.ers, T.noScr, T.noScrs, T.shs, mkL, mkT, T.isSh, T.argOk, T.toArg, T.solid, T.isL, T.parts, putAll, T.tru, T.ty, T.isRg, tyD, En.put, En.clr, En.share, egName, egTup, egCons, egNil, Option.map_some, Option.map_none, Option.bind_some, Option.bind, List.all_cons, List.all_nil, List.map_cons, List.map_nil, List.length_cons, List.length_nil, Bool.and_true, Bool.true_and, Bool.and_self, Bool.not_true, Bool.not_false, if_true, cond_true, cond_false, Bool.false_eq_true, if_false, true_and, and_true, Rs.P_ok, Bool.and_false, Bool.false_and, Nat.reduceAdd, Nat.reduceLeDiff, Nat.reduceEqDiff, reduceCtorEq, x_add, x_iadd, x_sub, x_lt, x_le, x_gt, x_ge, x_eq, x_ne, x_eqB, x_neB, x_eqS, x_neS, x_max2, x_min2, x_int1, x_intB, x_lenL, x_lenT, x_lenO, x_lenS, x_sumL, x_sumO, x_sortL, x_sortO, x_listL, x_listT, x_listO, x_isN, x_isNn, x_isNi, x_isNl, x_isNt, x_isNb, x_notN, x_ixL, x_ixT, x_ixO, x_ixS, x_ix0, x_ix1, x_ix2, x_sl, x_slO, x_slT, x_inL, x_inO, x_ninL, x_ninO, hlen]) (by omega) (by omega)) (fun r ρ => (∃ o : Option T, ρ = [some (.sh a), some (.sh a), o]) ∧ ∀ x ∈ r, 0 ≤ x ∧ x < (ds.length : Int)) ?_ ?_ ?_)
  · exact ⟨⟨none, rfl⟩, fun x hx => rngI_mem.mp hx⟩
  · rintro k r ρ ⟨⟨o, rfl⟩, hk⟩
    have hk0 := hk k List.mem_cons_self
    refine ⟨_, rfl, ?_⟩
    obtain ⟨d, hd, hd2⟩ := atI_ok hk0.1 hk0.2
    refine p_ifB (k := false) ?_ (fun h => by cases h) fun _ => p_nil ⟨⟨_, rfl⟩, fun x hx => hk x (List.mem_cons_of_mem _ hx)⟩
    simp only [evVar, En.get, evC, evBin, evSh, evEsc, evB, evEB, evChain, evAnd, evOr, evNot, evAndV, evOrV, evNotV, evIf, evCons, evNil, evLst, evTup, evCall, callF, evSl, eoN, eoS, evUn, evC1, evIsi, evTru, erg1, erg2, evLRg, evTRg, eiSeq, eiEnum, eiZip, x_bind, x_rs, x_asB, x_asI, x_bifB, x_bifO, x_andB, x_orB, x_bifI, List.length_map, en0, List.replicate, List.cons_append, List.nil_append, T.asD, T.items, T.itL, T.itT, T.er, T.ers, T.noScr, T.noScrs, T.shs, mkL, mkT, T.isSh, T.argOk, T.toArg, T.solid, T.isL, T.parts, putAll, T.tru, T.ty, T.isRg, tyD, En.put, En.clr, En.share, egName, egTup, egCons, egNil, Option.map_some, Option.map_none, Option.bind_some, Option.bind, List.all_cons, List.all_nil, List.map_cons, List.map_nil, List.length_cons, List.length_nil, Bool.and_true, Bool.true_and, Bool.and_self, Bool.not_true, Bool.not_false, if_true, cond_true, cond_false, Bool.false_eq_true, if_false, true_and, and_true, Rs.P_ok, Bool.and_false, Bool.false_and, Nat.reduceAdd, Nat.reduceLeDiff, Nat.reduceEqDiff, reduceCtorEq, x_add, x_iadd, x_sub, x_lt, x_le, x_gt, x_ge, x_eq, x_ne, x_eqB, x_neB, x_eqS, x_neS, x_max2, x_min2, x_int1, x_intB, x_lenL, x_lenT, x_lenO, x_lenS, x_sumL, x_sumO, x_sortL, x_sortO, x_listL, x_listT, x_listO, x_isN, x_isNn, x_isNi, x_isNl, x_isNt, x_isNb, x_notN, x_ixL, x_ixT, x_ixO, x_ixS, x_ix0, x_ix1, x_ix2, x_sl, x_slO, x_slT, x_inL, x_inO, x_ninL, x_ninO, hix, hd]
    rw [ih d (List.mem_of_getElem? hd2)]
    simp only [evVar, En.get, evC, evBin, evSh, evEsc, evB, evEB, evChain, evAnd, evOr, evNot, evAndV, evOrV, evNotV, evIf, evCons, evNil, evLst, evTup, evCall, callF, evSl, eoN, eoS, evUn, evC1, evIsi, evTru, erg1, erg2, evLRg, evTRg, eiSeq, eiEnum, eiZip, x_bind, x_rs, x_asB, x_asI, x_bifB, x_bifO, x_andB, x_orB, x_bifI, List.length_map, en0, List.replicate, List.cons_append, List.nil_append, T.asD, T.items, T.itL, T.itT, T.er, T.ers, T.noScr, T.noScrs, T.shs, mkL, mkT, T.isSh, T.argOk, T.toArg, T.solid, T.isL, T.parts, putAll, T.tru, T.ty, T.isRg, tyD, En.put, En.clr, En.share, egName, egTup, egCons, egNil, Option.map_some, Option.map_none, Option.bind_some, Option.bind, List.all_cons, List.all_nil, List.map_cons, List.map_nil, List.length_cons, List.length_nil, Bool.and_true, Bool.true_and, Bool.and_self, Bool.not_true, Bool.not_false, if_true, cond_true, cond_false, Bool.false_eq_true, if_false, true_and, and_true, Rs.P_ok, Bool.and_false, Bool.false_and, Nat.reduceAdd, Nat.reduceLeDiff, Nat.reduceEqDiff, reduceCtorEq, x_add, x_iadd, x_sub, x_lt, x_le, x_gt, x_ge, x_eq, x_ne, x_eqB, x_neB, x_eqS, x_neS, x_max2, x_min2, x_int1, x_intB, x_lenL, x_lenT, x_lenO, x_lenS, x_sumL, x_sumO, x_sortL, x_sortO, x_listL, x_listT, x_listO, x_isN, x_isNn, x_isNi, x_isNl, x_isNt, x_isNb, x_notN, x_ixL, x_ixT, x_ixO, x_ixS, x_ix0, x_ix1, x_ix2, x_sl, x_slO, x_slT, x_inL, x_inO, x_ninL, x_ninO]
  · rintro ρ ⟨⟨o, rfl⟩, _⟩
    refine p_ret ?_
    simp only [evVar, En.get, evC, evBin, evSh, evEsc, evB, evEB, evChain, evAnd, evOr, evNot, evAndV, evOrV, evNotV, evIf, evCons, evNil, evLst, evTup, evCall, callF, evSl, eoN, eoS, evUn, evC1, evIsi, evTru, erg1, erg2, evLRg, evTRg, eiSeq, eiEnum, eiZip, x_bind, x_rs, x_asB, x_asI, x_bifB, x_bifO, x_andB, x_orB, x_bifI, List.length_map, en0, List.replicate, List.cons_append, List.nil_append, T.asD, T.items, T.itL, T.itT, T.er, T.ers, T.noScr, T.noScrs, T.shs, mkL, mkT, T.isSh, T.argOk, T.toArg, T.solid, T.isL, T.parts, putAll, T.tru, T.ty, T.isRg, tyD, En.put, En.clr, En.share, egName, egTup, egCons, egNil, Option.map_some, Option.map_none, Option.bind_some, Option.bind, List.all_cons, List.all_nil, List.map_cons, List.map_nil, List.length_cons, List.length_nil, Bool.and_true, Bool.true_and, Bool.and_self, Bool.not_true, Bool.not_false, if_true, cond_true, cond_false, Bool.false_eq_true, if_false, true_and, and_true, Rs.P_ok, Bool.and_false, Bool.false_and, Nat.reduceAdd, Nat.reduceLeDiff, Nat.reduceEqDiff, reduceCtorEq, x_add, x_iadd, x_sub, x_lt, x_le, x_gt, x_ge, x_eq, x_ne, x_eqB, x_neB, x_eqS, x_neS, x_max2, x_min2, x_int1, x_intB, x_lenL, x_lenT, x_lenO, x_lenS, x_sumL, x_sumO, x_sortL, x_sortO, x_listL, x_listT, x_listO, x_isN, x_isNn, x_isNi, x_isNl, x_isNt, x_isNb, x_notN, x_ixL, x_ixT, x_ixO, x_ixS, x_ix0, x_ix1, x_ix2, x_sl, x_slO, x_slT, x_inL, x_inO, x_ninL, x_ninO]
    exact hR
theorem law_same : ∀ (n : Nat) (d : D), sameOk n d = true → d__law_same n [.sh d, .sh d] = .ok (.sh (.bool true))
  | 0, d, h => by simp [sameOk] at h
  | n + 1, d, h => by
    refine fn_eq rfl ?_
    refine p_seq ?_
    cases d with
    | none =>
      refine p_ifB (k := false) ?_ (fun h => by cases h) fun _ => p_ifB (k := false) ?_ (fun h => by cases h) fun _ => p_ifB (k := true) ?_ (fun _ => p_ret ?_) fun h => by cases h
      all_goals simp only [evVar, En.get, evC, evBin, evSh, evEsc, evB, evEB, evChain, evAnd, evOr, evNot, evAndV, evOrV, evNotV, evIf, evCons, evNil, evLst, evTup, evCall, callF, evSl, eoN, eoS, evUn, evC1, evIsi, evTru, erg1, erg2, evLRg, evTRg, eiSeq, eiEnum, eiZip, x_bind, x_rs, x_asB, x_asI, x_bifB, x_bifO, x_andB, x_orB, x_bifI, List.length_map, en0, List.replicate, List.cons_append, List.nil_append, T.asD, T.items, T.itL, T.itT, T.er, T.ers, T.noScr, T.noScrs, T.shs, mkL, mkT, T.isSh, T.argOk, T.toArg, T.solid, T.isL, T.parts, putAll, T.tru, T.ty, T.isRg, tyD, En.put, En.clr, En.share, egName, egTup, egCons, egNil, Option.map_some, Option.map_none, Option.bind_some, Option.bind, List.all_cons, List.all_nil, List.map_cons, List.map_nil, List.length_cons, List.length_nil, Bool.and_true, Bool.true_and, Bool.and_self, Bool.not_true, Bool.not_false, if_true, cond_true, cond_false, Bool.false_eq_true, if_false, true_and, and_true, Rs.P_ok, Bool.and_false, Bool.false_and, Nat.reduceAdd, Nat.reduceLeDiff, Nat.reduceEqDiff, reduceCtorEq, x_add, x_iadd, x_sub, x_lt, x_le, x_gt, x_ge, x_eq, x_ne, x_eqB, x_neB, x_eqS, x_neS, x_max2, x_min2, x_int1, x_intB, x_lenL, x_lenT, x_lenO, x_lenS, x_sumL, x_sumO, x_sortL, x_sortO, x_listL, x_listT, x_listO, x_isN, x_isNn, x_isNi, x_isNl, x_isNt, x_isNb, x_notN, x_ixL, x_ixT, x_ixO, x_ixS, x_ix0, x_ix1, x_ix2, x_sl, x_slO, x_slT, x_inL, x_inO, x_ninL, x_ninO, isaB, String.reduceBEq, Bool.or_false, Bool.or_true]
    | bool b =>
      refine p_ifB (k := false) ?_ (fun h => by cases h) fun _ => p_ifB (k := false) ?_ (fun h => by cases h) fun _ => p_ifB (k := false) ?_ (fun h => by cases h) fun _ => p_ifB (k := true) ?_ (fun _ => p_ret ?_) fun h => by cases h
      all_goals simp only [evVar, En.get, evC, evBin, evSh, evEsc, evB, evEB, evChain, evAnd, evOr, evNot, evAndV, evOrV, evNotV, evIf, evCons, evNil, evLst, evTup, evCall, callF, evSl, eoN, eoS, evUn, evC1, evIsi, evTru, erg1, erg2, evLRg, evTRg, eiSeq, eiEnum, eiZip, x_bind, x_rs, x_asB, x_asI, x_bifB, x_bifO, x_andB, x_orB, x_bifI, List.length_map, en0, List.replicate, List.cons_append, List.nil_append, T.asD, T.items, T.itL, T.itT, T.er, T.ers, T.noScr, T.noScrs, T.shs, mkL, mkT, T.isSh, T.argOk, T.toArg, T.solid, T.isL, T.parts, putAll, T.tru, T.ty, T.isRg, tyD, En.put, En.clr, En.share, egName, egTup, egCons, egNil, Option.map_some, Option.map_none, Option.bind_some, Option.bind, List.all_cons, List.all_nil, List.map_cons, List.map_nil, List.length_cons, List.length_nil, Bool.and_true, Bool.true_and, Bool.and_self, Bool.not_true, Bool.not_false, if_true, cond_true, cond_false, Bool.false_eq_true, if_false, true_and, and_true, Rs.P_ok, Bool.and_false, Bool.false_and, Nat.reduceAdd, Nat.reduceLeDiff, Nat.reduceEqDiff, reduceCtorEq, x_add, x_iadd, x_sub, x_lt, x_le, x_gt, x_ge, x_eq, x_ne, x_eqB, x_neB, x_eqS, x_neS, x_max2, x_min2, x_int1, x_intB, x_lenL, x_lenT, x_lenO, x_lenS, x_sumL, x_sumO, x_sortL, x_sortO, x_listL, x_listT, x_listO, x_isN, x_isNn, x_isNi, x_isNl, x_isNt, x_isNb, x_notN, x_ixL, x_ixT, x_ixO, x_ixS, x_ix0, x_ix1, x_ix2, x_sl, x_slO, x_slT, x_inL, x_inO, x_ninL, x_ninO, isaB, String.reduceBEq, Bool.or_false, Bool.or_true, decide_true]
    | int b =>
      refine p_ifB (k := false) ?_ (fun h => by cases h) fun _ => p_ifB (k := false) ?_ (fun h => by cases h) fun _ => p_ifB (k := false) ?_ (fun h => by cases h) fun _ => p_ifB (k := false) ?_ (fun h => by cases h) fun _ => p_ifB (k := true) ?_ (fun _ => p_ret ?_) fun h => by cases h
      all_goals simp only [evVar, En.get, evC, evBin, evSh, evEsc, evB, evEB, evChain, evAnd, evOr, evNot, evAndV, evOrV, evNotV, evIf, evCons, evNil, evLst, evTup, evCall, callF, evSl, eoN, eoS, evUn, evC1, evIsi, evTru, erg1, erg2, evLRg, evTRg, eiSeq, eiEnum, eiZip, x_bind, x_rs, x_asB, x_asI, x_bifB, x_bifO, x_andB, x_orB, x_bifI, List.length_map, en0, List.replicate, List.cons_append, List.nil_append, T.asD, T.items, T.itL, T.itT, T.er, T.ers, T.noScr, T.noScrs, T.shs, mkL, mkT, T.isSh, T.argOk, T.toArg, T.solid, T.isL, T.parts, putAll, T.tru, T.ty, T.isRg, tyD, En.put, En.clr, En.share, egName, egTup, egCons, egNil, Option.map_some, Option.map_none, Option.bind_some, Option.bind, List.all_cons, List.all_nil, List.map_cons, List.map_nil, List.length_cons, List.length_nil, Bool.and_true, Bool.true_and, Bool.and_self, Bool.not_true, Bool.not_false, if_true, cond_true, cond_false, Bool.false_eq_true, if_false, true_and, and_true, Rs.P_ok, Bool.and_false, Bool.false_and, Nat.reduceAdd, Nat.reduceLeDiff, Nat.reduceEqDiff, reduceCtorEq, x_add, x_iadd, x_sub, x_lt, x_le, x_gt, x_ge, x_eq, x_ne, x_eqB, x_neB, x_eqS, x_neS, x_max2, x_min2, x_int1, x_intB, x_lenL, x_lenT, x_lenO, x_lenS, x_sumL, x_sumO, x_sortL, x_sortO, x_listL, x_listT, x_listO, x_isN, x_isNn, x_isNi, x_isNl, x_isNt, x_isNb, x_notN, x_ixL, x_ixT, x_ixO, x_ixS, x_ix0, x_ix1, x_ix2, x_sl, x_slO, x_slT, x_inL, x_inO, x_ninL, x_ninO, isaB, String.reduceBEq, Bool.or_false, Bool.or_true, decide_true]
    | str b =>
      refine p_ifB (k := false) ?_ (fun h => by cases h) fun _ => p_ifB (k := false) ?_ (fun h => by cases h) fun _ => p_ifB (k := false) ?_ (fun h => by cases h) fun _ => p_ifB (k := false) ?_ (fun h => by cases h) fun _ => p_ifB (k := false) ?_ (fun h => by cases h) fun _ => p_ret ?_
      all_goals simp only [evVar, En.get, evC, evBin, evSh, evEsc, evB, evEB, evChain, evAnd, evOr, evNot, evAndV, evOrV, evNotV, evIf, evCons, evNil, evLst, evTup, evCall, callF, evSl, eoN, eoS, evUn, evC1, evIsi, evTru, erg1, erg2, evLRg, evTRg, eiSeq, eiEnum, eiZip, x_bind, x_rs, x_asB, x_asI, x_bifB, x_bifO, x_andB, x_orB, x_bifI, List.length_map, en0, List.replicate, List.cons_append, List.nil_append, T.asD, T.items, T.itL, T.itT, T.er, T.ers, T.noScr, T.noScrs, T.shs, mkL, mkT, T.isSh, T.argOk, T.toArg, T.solid, T.isL, T.parts, putAll, T.tru, T.ty, T.isRg, tyD, En.put, En.clr, En.share, egName, egTup, egCons, egNil, Option.map_some, Option.map_none, Option.bind_some, Option.bind, List.all_cons, List.all_nil, List.map_cons, List.map_nil, List.length_cons, List.length_nil, Bool.and_true, Bool.true_and, Bool.and_self, Bool.not_true, Bool.not_false, if_true, cond_true, cond_false, Bool.false_eq_true, if_false, true_and, and_true, Rs.P_ok, Bool.and_false, Bool.false_and, Nat.reduceAdd, Nat.reduceLeDiff, Nat.reduceEqDiff, reduceCtorEq, x_add, x_iadd, x_sub, x_lt, x_le, x_gt, x_ge, x_eq, x_ne, x_eqB, x_neB, x_eqS, x_neS, x_max2, x_min2, x_int1, x_intB, x_lenL, x_lenT, x_lenO, x_lenS, x_sumL, x_sumO, x_sortL, x_sortO, x_listL, x_listT, x_listO, x_isN, x_isNn, x_isNi, x_isNl, x_isNt, x_isNb, x_notN, x_ixL, x_ixT, x_ixO, x_ixS, x_ix0, x_ix1, x_ix2, x_sl, x_slO, x_slT, x_inL, x_inO, x_ninL, x_ninO, isaB, String.reduceBEq, Bool.or_false, Bool.or_true, decide_true, x_isNs]
    | list ds =>
      simp only [sameOk, Bool.and_eq_true, decide_eq_true_eq, List.all_eq_true] at h
      refine p_ifB (k := true) ?_ (fun _ => p_ifB (k := false) ?_ (fun h => by cases h) fun _ => p_nil (seq_same (.inl rfl) h.1 (fun d hd => law_same n d (h.2 d hd)) rfl)) fun h => by cases h
      all_goals simp only [evVar, En.get, evC, evBin, evSh, evEsc, evB, evEB, evChain, evAnd, evOr, evNot, evAndV, evOrV, evNotV, evIf, evCons, evNil, evLst, evTup, evCall, callF, evSl, eoN, eoS, evUn, evC1, evIsi, evTru, erg1, erg2, evLRg, evTRg, eiSeq, eiEnum, eiZip, x_bind, x_rs, x_asB, x_asI, x_bifB, x_bifO, x_andB, x_orB, x_bifI, List.length_map, en0, List.replicate, List.cons_append, List.nil_append, T.asD, T.items, T.itL, T.itT, T.er, T.ers, T.noScr, T.noScrs, T.shs, mkL, mkT, T.isSh, T.argOk, T.toArg, T.solid, T.isL, T.parts, putAll, T.tru, T.ty, T.isRg, tyD, En.put, En.clr, En.share, egName, egTup, egCons, egNil, Option.map_some, Option.map_none, Option.bind_some, Option.bind, List.all_cons, List.all_nil, List.map_cons, List.map_nil, List.length_cons, List.length_nil, Bool.and_true, Bool.true_and, Bool.and_self, Bool.not_true, Bool.not_false, if_true, cond_true, cond_false, Bool.false_eq_true, if_false, true_and, and_true, Rs.P_ok, Bool.and_false, Bool.false_and, Nat.reduceAdd, Nat.reduceLeDiff, Nat.reduceEqDiff, reduceCtorEq, x_add, x_iadd, x_sub, x_lt, x_le, x_gt, x_ge, x_eq, x_ne, x_eqB, x_neB, x_eqS, x_neS, x_max2, x_min2, x_int1, x_intB, x_lenL, x_lenT, x_lenO, x_lenS, x_sumL, x_sumO, x_sortL, x_sortO, x_listL, x_listT, x_listO, x_isN, x_isNn, x_isNi, x_isNl, x_isNt, x_isNb, x_notN, x_ixL, x_ixT, x_ixO, x_ixS, x_ix0, x_ix1, x_ix2, x_sl, x_slO, x_slT, x_inL, x_inO, x_ninL, x_ninO, isaB, String.reduceBEq, Bool.or_false, Bool.or_true, decide_true]
    | tuple ds =>
      simp only [sameOk, Bool.and_eq_true, decide_eq_true_eq, List.all_eq_true] at h
      refine p_ifB (k := false) ?_ (fun h => by cases h) fun _ => p_ifB (k := true) ?_ (fun _ => p_ifB (k := false) ?_ (fun h => by cases h) fun _ => p_nil (seq_same (.inr rfl) h.1 (fun d hd => law_same n d (h.2 d hd)) rfl)) fun h => by cases h
      all_goals simp only [evVar, En.get, evC, evBin, evSh, evEsc, evB, evEB, evChain, evAnd, evOr, evNot, evAndV, evOrV, evNotV, evIf, evCons, evNil, evLst, evTup, evCall, callF, evSl, eoN, eoS, evUn, evC1, evIsi, evTru, erg1, erg2, evLRg, evTRg, eiSeq, eiEnum, eiZip, x_bind, x_rs, x_asB, x_asI, x_bifB, x_bifO, x_andB, x_orB, x_bifI, List.length_map, en0, List.replicate, List.cons_append, List.nil_append, T.asD, T.items, T.itL, T.itT, T.er, T.ers, T.noScr, T.noScrs, T.shs, mkL, mkT, T.isSh, T.argOk, T.toArg, T.solid, T.isL, T.parts, putAll, T.tru, T.ty, T.isRg, tyD, En.put, En.clr, En.share, egName, egTup, egCons, egNil, Option.map_some, Option.map_none, Option.bind_some, Option.bind, List.all_cons, List.all_nil, List.map_cons, List.map_nil, List.length_cons, List.length_nil, Bool.and_true, Bool.true_and, Bool.and_self, Bool.not_true, Bool.not_false, if_true, cond_true, cond_false, Bool.false_eq_true, if_false, true_and, and_true, Rs.P_ok, Bool.and_false, Bool.false_and, Nat.reduceAdd, Nat.reduceLeDiff, Nat.reduceEqDiff, reduceCtorEq, x_add, x_iadd, x_sub, x_lt, x_le, x_gt, x_ge, x_eq, x_ne, x_eqB, x_neB, x_eqS, x_neS, x_max2, x_min2, x_int1, x_intB, x_lenL, x_lenT, x_lenO, x_lenS, x_sumL, x_sumO, x_sortL, x_sortO, x_listL, x_listT, x_listO, x_isN, x_isNn, x_isNi, x_isNl, x_isNt, x_isNb, x_notN, x_ixL, x_ixT, x_ixO, x_ixS, x_ix0, x_ix1, x_ix2, x_sl, x_slO, x_slT, x_inL, x_inO, x_ninL, x_ninO, isaB, String.reduceBEq, Bool.or_false, Bool.or_true, decide_true]
    | dict ds => simp [sameOk] at h
end Sh
end PL
set_option Elab.async false
set_option linter.all false
set_option maxRecDepth 100000
/-! PL19: how long a repr can be. -/
namespace PL
open PySem
mutual
def szD : D → Nat
  | .none => 4
  | .bool _ => 5
  | .int i => i.natAbs.log2 + 2
  | .str x => (reprText x).length
  | .list ds => szDs ds
  | .tuple ds => szDs ds
  | .dict _ => 0
def szDs : List D → Nat
  | [] => 3
  | d :: ds => szD d + 2 + szDs ds
end
mutual
theorem shown_sz : ∀ d : D, reprOk d = true → d.shown.length ≤ szD d
  | .none, _ => by simp only [PyData.shown, szD]; decide
  | .bool b, _ => by cases b <;> (simp only [PyData.shown, szD]; decide)
  | .int i, _ => by
    simp only [PyData.shown, szD]
    rw [ofString_length]
    exact int_text_length_le (a := i) (k := i.natAbs.log2 + 1) (by omega) (by omega)
  | .str x, _ => by simp only [PyData.shown, szD]; exact Nat.le_refl _
  | .list ds, h => by
    have h := shown_szs ds (by simpa only [reprOk] using h)
    simp only [PyData.shown, szD]
    have := listText_len_le (PyData.shownAll ds)
    omega
  | .tuple ds, h => by
    have h := shown_szs ds (by simpa only [reprOk] using h)
    simp only [PyData.shown, szD]
    have := tupleText_len_le (PyData.shownAll ds)
    omega
  | .dict _, h => by simp [reprOk] at h
theorem shown_szs : ∀ ds : List D, reprOks ds = true → ((PyData.shownAll ds).map (·.length)).sum + 2 * (PyData.shownAll ds).length + 3 ≤ szDs ds
  | [], _ => by simp [PyData.shownAll, szDs]
  | d :: ds, h => by
    simp only [reprOks, Bool.and_eq_true] at h
    have h1 := shown_sz d h.1
    have h2 := shown_szs ds h.2
    simp only [PyData.shownAll, szDs, List.map_cons, List.sum_cons, List.length_cons]
    omega
end
theorem okShow_of {d : D} (h1 : reprOk d = true) (h2 : d.depth ≤ 100) (h3 : szD d ≤ 16777216) : okShow d = true := by
  unfold okShow
  have := shown_sz d h1
  rw [h1, decide_eq_true h2, decide_eq_true (by rw [sizeLine_eq]; omega)]
  rfl
theorem szDs_le {c : Nat} : ∀ {ds : List D}, (∀ d ∈ ds, szD d ≤ c) → szDs ds ≤ (c + 2) * ds.length + 3
  | [], _ => by simp [szDs]
  | d :: ds, h => by
    have h1 := h d List.mem_cons_self
    have h2 := szDs_le fun e he => h e (List.mem_cons_of_mem _ he)
    simp only [szDs, List.length_cons, Nat.mul_succ]
    omega
theorem reprOks_all : ∀ {ds : List D}, (∀ d ∈ ds, reprOk d = true) → reprOks ds = true
  | [], _ => rfl
  | d :: ds, h => by
    simp only [reprOks, h d List.mem_cons_self, reprOks_all fun e he => h e (List.mem_cons_of_mem _ he), Bool.and_self]
theorem depthAll_le {c : Nat} : ∀ {ds : List D}, (∀ d ∈ ds, d.depth ≤ c) → PyData.depthAll ds ≤ c
  | [], _ => Nat.zero_le _
  | d :: ds, h => by
    simp only [PyData.depthAll]
    have h1 := h d List.mem_cons_self
    have h2 := depthAll_le fun e he => h e (List.mem_cons_of_mem _ he)
    omega
theorem sz_int {i : Int} (h : -1000000000000000000 < i ∧ i < 1000000000000000000) : szD (.int i) ≤ 66 ∧ reprOk (.int i) = true := by
  have hl : i.natAbs.log2 < 64 := by
    by_cases h0 : i.natAbs = 0
    · rw [h0]; decide
    · exact (Nat.log2_lt h0).mpr (by omega)
  constructor
  · simp only [szD]; omega
  · simp only [reprOk, decide_eq_true_eq]; omega
/-! lists compared -/
theorem x_catL {a b : List D} (h : a.length + b.length ≤ 16777216) : fAdd (.sh (.list a)) (.sh (.list b)) = some (.ol (a ++ b)) := by
  have e : a.length + b.length ≤ sizeLine := by rw [sizeLine_eq]; exact h
  simp only [fAdd, f2I, fStrAdd, fCat, T.lits, e, if_true, Option.or]
theorem x_eqG {x y : D} (hx : SeqAt.shaped x = true) (hy : SeqAt.shaped y = true) (hf : fEqF (.sh x) (.sh y) = none) : fEq (.sh x) (.sh y) = some (.sh (.bool (eqD x y))) := by
  simp only [fEq, hf, fEqG, T.noScr, T.er, hx, hy, Bool.and_self, if_true, Option.or]
theorem eqD_refl {d : D} (h : d.canLay0 = true) : eqD d d = true := SeqAt.eqv_refl d h
theorem shaped_of {d : D} (h : d.canLay0 = true) (h2 : d.depth ≤ 64) : SeqAt.shaped d = true := by
  unfold SeqAt.shaped
  rw [h, decide_eq_true h2]; rfl
theorem layAll : ∀ {ds : List D}, (∀ d ∈ ds, d.canLay0 = true) → PyData.canLayAll0 ds = true
  | [], _ => rfl
  | d :: ds, h => by
    simp only [PyData.canLayAll0, h d List.mem_cons_self, layAll fun e he => h e (List.mem_cons_of_mem _ he), Bool.and_self]
/-! a table's item by a draw -/
theorem x_at2 {a b i : Int} (h0 : 0 ≤ i) (h1 : i < 2) : L2.atI [PyData.int a, .int b] i = some (.int (at_ [a, b] i)) := x_at (ns := [a, b]) h0 (by simpa using h1)
theorem x_at3 {a b c i : Int} (h0 : 0 ≤ i) (h1 : i < 3) : L2.atI [PyData.int a, .int b, .int c] i = some (.int (at_ [a, b, c] i)) := x_at (ns := [a, b, c]) h0 (by simpa using h1)
theorem x_at4 {a b c d i : Int} (h0 : 0 ≤ i) (h1 : i < 4) : L2.atI [PyData.int a, .int b, .int c, .int d] i = some (.int (at_ [a, b, c, d] i)) := x_at (ns := [a, b, c, d]) h0 (by simpa using h1)
theorem x_at5 {a b c d e i : Int} (h0 : 0 ≤ i) (h1 : i < 5) : L2.atI [PyData.int a, .int b, .int c, .int d, .int e] i = some (.int (at_ [a, b, c, d, e] i)) := x_at (ns := [a, b, c, d, e]) h0 (by simpa using h1)
theorem x_setL {ds : List D} {d : D} {k : Int} (h0 : 0 ≤ k) (h1 : k < (ds.length : Int)) : setT (.ol ds) k d = some (.ol (ds.set k.toNat d)) := by
  have e : L2.ixN ds.length k = some k.toNat := by
    unfold L2.ixN
    rw [if_pos h0, if_pos h1]
  simp only [setT, e, Option.map_some]
end PL
set_option Elab.async false
set_option linter.all false
set_option maxRecDepth 100000
/-! PL24: more of what operators give: < of any kind, min, any, all, comprehensions of bools. -/
namespace PL
open PySem
section
variable {i j a b c d : Int} {bs : List Bool} {ns : List Int}
theorem x_ltF : fLt (.sh (.int i)) (.sh (.int j)) = some (.sh (.bool (decide (i < j)))) := rfl
theorem x_ltS {x y : Str} : fLt (.sh (.str x)) (.sh (.str y)) = some (.sh (.bool (decide (x.cps.toList < y.cps.toList)))) := rfl
theorem x_ltT2 : fLt (.sh (.tuple [.int a, .int b])) (.sh (.tuple [.int c, .int d])) = some (.sh (.bool (if a = c then decide (b < d) else decide (a < c)))) := by
  have e : HT.lexLt [a, b] [c, d] = if a = c then decide (b < d) else decide (a < c) := by
    rw [HT.lexLt_cons, HT.lexLt_cons, HT.lexLt_nil_nil]
    by_cases h : a = c
    · rw [if_pos h, if_pos h]
      by_cases h2 : b = d
      · rw [if_pos h2, decide_eq_false (by omega)]
      · rw [if_neg h2]
    · rw [if_neg h, if_neg h]
  show some (T.sh (PyData.bool (HT.lexLt [a, b] [c, d]))) = _
  rw [e]
theorem x_anyL : fAny [.sh (.list (bs.map PyData.bool))] = some (.sh (.bool (bs.any id))) := by simp only [fAny, f1, T.bools, T.lits, Option.bind_some, boolsD_map, Option.map_some]
theorem x_anyO : fAny [.ol (bs.map PyData.bool)] = some (.sh (.bool (bs.any id))) := by simp only [fAny, f1, T.bools, T.lits, Option.bind_some, boolsD_map, Option.map_some]
theorem x_allL : fAll [.sh (.list (bs.map PyData.bool))] = some (.sh (.bool (bs.all id))) := by simp only [fAll, f1, T.bools, T.lits, Option.bind_some, boolsD_map, Option.map_some]
theorem x_allO : fAll [.ol (bs.map PyData.bool)] = some (.sh (.bool (bs.all id))) := by simp only [fAll, f1, T.bools, T.lits, Option.bind_some, boolsD_map, Option.map_some]
theorem x_minL (h : ns ≠ []) : fMin [.sh (.list (ns.map PyData.int))] = some (.sh (.int (minI ns))) := by
  have e : ns.isEmpty = false := by cases ns with
    | nil => exact absurd rfl h
    | cons a l => rfl
  have e0 : fMin2 [.sh (.list (ns.map PyData.int))] = none := rfl
  simp only [fMin, e0, fMinL, f1, T.ints, T.lits, Option.bind_some, intsD_map, e, Bool.false_eq_true, if_false, Option.or]
theorem x_maxL (h : ns ≠ []) : fMax [.sh (.list (ns.map PyData.int))] = some (.sh (.int (maxI ns))) := by
  have e : ns.isEmpty = false := by cases ns with
    | nil => exact absurd rfl h
    | cons a l => rfl
  have e0 : fMax2 [.sh (.list (ns.map PyData.int))] = none := rfl
  simp only [fMax, e0, fMaxL, f1, T.ints, T.lits, Option.bind_some, intsD_map, e, Bool.false_eq_true, if_false, Option.or]
theorem x_isB {x y : Bool} : fIsB false (.sh (.bool x)) (.sh (.bool y)) = some (.sh (.bool (decide (x = y)))) := rfl
theorem x_notB {x y : Bool} : fIsB true (.sh (.bool x)) (.sh (.bool y)) = some (.sh (.bool (!decide (x = y)))) := rfl
end
section
variable {α : Type} {ei : En → Rs (List D)} {vs : List Nat} {g : D → En → Option En} {c : En → Rs Bool} {e : En → Rs T} {ρ : En} {l : List α} {f : α → D} {hb : α → Bool}
/-- bools -/
theorem comp_allB (hs : ei ρ = .ok (l.map f)) (hl : l.length ≤ 2 ^ 24) (H : ∀ a ∈ l, ∃ ρ1, g (f a) (ρ.clr vs) = some ρ1 ∧ e ρ1 = .ok (.sh (.bool (hb a)))) : evComp ei vs g evYes e ρ = .ok (.ol ((l.map hb).map PyData.bool)) := by
  rw [List.map_map]
  exact comp_all (h := fun a => .bool (hb a)) hs hl H
end
/-- two clauses -/
theorem compL2_map {α β : Type} {f : α → D} {f1 : β → D} {g g1 : D → En → Option En} {c c1 : En → Rs Bool} {ei1 : En → Rs (List D)} {vs1 : List Nat} {e : En → Rs T} {ρ : En} {k : α → Bool} {l1 : α → List β} {k1 : α → β → Bool} {h : α → β → D} : ∀ (l : List α),
    (∀ a ∈ l, ∃ ρ1, g (f a) ρ = some ρ1 ∧ c ρ1 = .ok (k a) ∧ (k a = true → ei1 ρ1 = .ok ((l1 a).map f1) ∧ ∀ b ∈ l1 a, ∃ ρ2, g1 (f1 b) (ρ1.clr vs1) = some ρ2 ∧ c1 ρ2 = .ok (k1 a b) ∧ (k1 a b = true → e ρ2 = .ok (.sh (h a b))))) →
    compL2 g c ei1 vs1 g1 c1 e ρ (l.map f) = some ((l.filter k).flatMap fun a => ((l1 a).filter (k1 a)).map fun b => T.sh (h a b))
  | [], _ => rfl
  | a :: l, H => by
    obtain ⟨ρ1, e1, e2, e3⟩ := H a List.mem_cons_self
    have ih := compL2_map l fun b hb => H b (List.mem_cons_of_mem _ hb)
    rw [List.map_cons]
    unfold compL2
    simp only [e1, Option.bind_some, e2, Rs.o]
    cases hk : k a with
    | false => rw [List.filter_cons_of_neg (by simp [hk])]; exact ih
    | true =>
      obtain ⟨e4, e5⟩ := e3 hk
      have e6 := compL_map (c := c1) (e := e) (l1 a) e5
      rw [List.filter_cons_of_pos hk, e4]
      simp only [cond_true, Rs.o, Option.bind_some, e6, ih, Option.map_some, List.flatMap_cons]
theorem cut_from {ds : List D} {k : Int} (h0 : 0 ≤ k) (h1 : k ≤ (ds.length : Int)) : cutD ds (some k) none = ds.drop k.toNat := by
  unfold cutD HT.sIx
  simp only []
  rw [if_neg (by omega), Nat.min_eq_left (by omega), List.take_of_length_le (by rw [List.length_drop]; omega)]
theorem cut_to {ds : List D} {k : Int} (h0 : 0 ≤ k) (h1 : k ≤ (ds.length : Int)) : cutD ds (some 0) (some k) = ds.take k.toNat := by
  unfold cutD HT.sIx
  simp only []
  rw [if_neg (by omega), if_neg (by omega), Nat.min_eq_left (by omega)]
  simp
theorem p_cut {N N' : En → Prop} {R : T → Prop} {B C : En → Prop} {o : Out} (h : o.P N' R B C) (h1 : ∀ ρ, N' ρ → N ρ) : o.P N R B C := h.imp h1 (fun _ z => z) (fun _ z => z) fun _ z => z
theorem x_repr {d : D} (h1 : isSeqD d = true) (h2 : okShow d = true) : fRepr [.sh d] = some (.sh (.str d.shown)) := by
  simp only [fRepr, f1, h1, h2, Bool.and_self, if_true]
theorem x_neG {x y : D} (hx : SeqAt.shaped x = true) (hy : SeqAt.shaped y = true) (hf : fEqF (.sh x) (.sh y) = none) : fNe (.sh x) (.sh y) = some (.sh (.bool (!eqD x y))) := by
  simp only [fNe, x_eqG hx hy hf, fNot]
end PL
set_option Elab.async false
set_option linter.all false
set_option maxRecDepth 100000
namespace Sh2
open PL PySem
def s__law_cell : En → Out := (sSeq (sIf (evEB (evBin fLt (evVar 1) (evSh (evC1 fLen (evCons (evVar 0) evNil))))) (sRet (evC1 fInt1 (evCons (evBin fIx (evVar 0) (evVar 1)) evNil))) sNil) (sRet (evC (.int 0))))
def d__law_cell : List T → Rs T := fnD 2 0 s__law_cell
theorem law_cell (ns : List Int) (k : Int) (hk : 0 ≤ k) : ∃ c : Int, d__law_cell [.scr ns, .sh (.int k)] = .ok (.sh (.int c)) := by
  by_cases h : k < (ns.length : Int)
  · refine ⟨at_ ns k, fn_eq rfl ?_⟩
    refine p_seq (p_ifD (p := k < (ns.length : Int)) ?_ (fun hp => ?_) fun hp => absurd h hp)
    · simp only [evVar, En.get, evC, evBin, evSh, evEsc, evB, evEB, evChain, evAnd, evOr, evNot, evAndV, evOrV, evNotV, evIf, evCons, evNil, evLst, evTup, evCall, callF, evSl, eoN, eoS, evUn, evC1, evIsi, evTru, erg1, erg2, evLRg, evTRg, eiSeq, eiEnum, eiZip, x_bind, x_rs, x_asB, x_asI, x_bifB, x_bifO, x_andB, x_orB, x_bifI, List.length_map, en0, List.replicate, List.cons_append, List.nil_append, T.asD, T.items, T.itL, T.itT, T.er, T.ers, T.noScr, T.noScrs, T.shs, mkL, mkT, T.isSh, T.argOk, T.toArg, T.solid, flatD, T.isL, T.parts, putAll, T.tru, T.ty, T.isRg, tyD, En.put, En.clr, En.share, egName, egTup, egCons, egNil, Option.map_some, Option.map_none, Option.bind_some, Option.bind, List.all_cons, List.all_nil, List.map_cons, List.map_nil, List.length_cons, List.length_nil, Bool.and_true, Bool.true_and, Bool.and_self, Bool.not_true, Bool.not_false, if_true, cond_true, cond_false, Bool.false_eq_true, if_false, true_and, and_true, Rs.P_ok, Bool.and_false, Bool.false_and, Bool.false_or, Bool.or_false, Bool.true_or, Bool.or_true, Nat.reduceAdd, Nat.reduceLeDiff, Nat.reduceEqDiff, reduceCtorEq, x_ltF, x_ltS, x_ltT2, x_anyL, x_anyO, x_allL, x_allO, x_isB, x_notB, x_add, x_iadd, x_sub, x_lt, x_le, x_gt, x_ge, x_eq, x_ne, x_eqB, x_neB, x_eqS, x_neS, x_max2, x_min2, x_int1, x_intB, x_lenL, x_lenT, x_lenO, x_lenS, x_sumL, x_sumO, x_sortL, x_sortO, x_listL, x_listT, x_listO, x_isN, x_isNn, x_isNi, x_isNl, x_isNt, x_isNb, x_notN, x_ixL, x_ixT, x_ixO, x_ixS, x_ix0, x_ix1, x_ix2, x_sl, x_slO, x_slT, x_inL, x_inO, x_ninL, x_ninO]
    · refine p_ret ?_
      simp only [evVar, En.get, evC, evBin, evSh, evEsc, evB, evEB, evChain, evAnd, evOr, evNot, evAndV, evOrV, evNotV, evIf, evCons, evNil, evLst, evTup, evCall, callF, evSl, eoN, eoS, evUn, evC1, evIsi, evTru, erg1, erg2, evLRg, evTRg, eiSeq, eiEnum, eiZip, x_bind, x_rs, x_asB, x_asI, x_bifB, x_bifO, x_andB, x_orB, x_bifI, List.length_map, en0, List.replicate, List.cons_append, List.nil_append, T.asD, T.items, T.itL, T.itT, T.er, T.ers, T.noScr, T.noScrs, T.shs, mkL, mkT, T.isSh, T.argOk, T.toArg, T.solid, flatD, T.isL, T.parts, putAll, T.tru, T.ty, T.isRg, tyD, En.put, En.clr, En.share, egName, egTup, egCons, egNil, Option.map_some, Option.map_none, Option.bind_some, Option.bind, List.all_cons, List.all_nil, List.map_cons, List.map_nil, List.length_cons, List.length_nil, Bool.and_true, Bool.true_and, Bool.and_self, Bool.not_true, Bool.not_false, if_true, cond_true, cond_false, Bool.false_eq_true, if_false, true_and, and_true, Rs.P_ok, Bool.and_false, Bool.false_and, Bool.false_or, Bool.or_false, Bool.true_or, Bool.or_true, Nat.reduceAdd, Nat.reduceLeDiff, Nat.reduceEqDiff, reduceCtorEq, x_ltF, x_ltS, x_ltT2, x_anyL, x_anyO, x_allL, x_allO, x_isB, x_notB, x_add, x_iadd, x_sub, x_lt, x_le, x_gt, x_ge, x_eq, x_ne, x_eqB, x_neB, x_eqS, x_neS, x_max2, x_min2, x_int1, x_intB, x_lenL, x_lenT, x_lenO, x_lenS, x_sumL, x_sumO, x_sortL, x_sortO, x_listL, x_listT, x_listO, x_isN, x_isNn, x_isNi, x_isNl, x_isNt, x_isNb, x_notN, x_ixL, x_ixT, x_ixO, x_ixS, x_ix0, x_ix1, x_ix2, x_sl, x_slO, x_slT, x_inL, x_inO, x_ninL, x_ninO, x_atS hk h]
  · refine ⟨0, fn_eq rfl ?_⟩
    refine p_seq (p_ifD (p := k < (ns.length : Int)) ?_ (fun hp => absurd hp h) fun hp => ?_)
    · simp only [evVar, En.get, evC, evBin, evSh, evEsc, evB, evEB, evChain, evAnd, evOr, evNot, evAndV, evOrV, evNotV, evIf, evCons, evNil, evLst, evTup, evCall, callF, evSl, eoN, eoS, evUn, evC1, evIsi, evTru, erg1, erg2, evLRg, evTRg, eiSeq, eiEnum, eiZip, x_bind, x_rs, x_asB, x_asI, x_bifB, x_bifO, x_andB, x_orB, x_bifI, List.length_map, en0, List.replicate, List.cons_append, List.nil_append, T.asD, T.items, T.itL, T.itT, T.er, T.ers, T.noScr, T.noScrs, T.shs, mkL, mkT, T.isSh, T.argOk, T.toArg, T.solid, flatD, T.isL, T.parts, putAll, T.tru, T.ty, T.isRg, tyD, En.put, En.clr, En.share, egName, egTup, egCons, egNil, Option.map_some, Option.map_none, Option.bind_some, Option.bind, List.all_cons, List.all_nil, List.map_cons, List.map_nil, List.length_cons, List.length_nil, Bool.and_true, Bool.true_and, Bool.and_self, Bool.not_true, Bool.not_false, if_true, cond_true, cond_false, Bool.false_eq_true, if_false, true_and, and_true, Rs.P_ok, Bool.and_false, Bool.false_and, Bool.false_or, Bool.or_false, Bool.true_or, Bool.or_true, Nat.reduceAdd, Nat.reduceLeDiff, Nat.reduceEqDiff, reduceCtorEq, x_ltF, x_ltS, x_ltT2, x_anyL, x_anyO, x_allL, x_allO, x_isB, x_notB, x_add, x_iadd, x_sub, x_lt, x_le, x_gt, x_ge, x_eq, x_ne, x_eqB, x_neB, x_eqS, x_neS, x_max2, x_min2, x_int1, x_intB, x_lenL, x_lenT, x_lenO, x_lenS, x_sumL, x_sumO, x_sortL, x_sortO, x_listL, x_listT, x_listO, x_isN, x_isNn, x_isNi, x_isNl, x_isNt, x_isNb, x_notN, x_ixL, x_ixT, x_ixO, x_ixS, x_ix0, x_ix1, x_ix2, x_sl, x_slO, x_slT, x_inL, x_inO, x_ninL, x_ninO]
    · refine p_nil (p_ret ?_)
      simp only [evVar, En.get, evC, evBin, evSh, evEsc, evB, evEB, evChain, evAnd, evOr, evNot, evAndV, evOrV, evNotV, evIf, evCons, evNil, evLst, evTup, evCall, callF, evSl, eoN, eoS, evUn, evC1, evIsi, evTru, erg1, erg2, evLRg, evTRg, eiSeq, eiEnum, eiZip, x_bind, x_rs, x_asB, x_asI, x_bifB, x_bifO, x_andB, x_orB, x_bifI, List.length_map, en0, List.replicate, List.cons_append, List.nil_append, T.asD, T.items, T.itL, T.itT, T.er, T.ers, T.noScr, T.noScrs, T.shs, mkL, mkT, T.isSh, T.argOk, T.toArg, T.solid, flatD, T.isL, T.parts, putAll, T.tru, T.ty, T.isRg, tyD, En.put, En.clr, En.share, egName, egTup, egCons, egNil, Option.map_some, Option.map_none, Option.bind_some, Option.bind, List.all_cons, List.all_nil, List.map_cons, List.map_nil, List.length_cons, List.length_nil, Bool.and_true, Bool.true_and, Bool.and_self, Bool.not_true, Bool.not_false, if_true, cond_true, cond_false, Bool.false_eq_true, if_false, true_and, and_true, Rs.P_ok, Bool.and_false, Bool.false_and, Bool.false_or, Bool.or_false, Bool.true_or, Bool.or_true, Nat.reduceAdd, Nat.reduceLeDiff, Nat.reduceEqDiff, reduceCtorEq, x_ltF, x_ltS, x_ltT2, x_anyL, x_anyO, x_allL, x_allO, x_isB, x_notB, x_add, x_iadd, x_sub, x_lt, x_le, x_gt, x_ge, x_eq, x_ne, x_eqB, x_neB, x_eqS, x_neS, x_max2, x_min2, x_int1, x_intB, x_lenL, x_lenT, x_lenO, x_lenS, x_sumL, x_sumO, x_sortL, x_sortO, x_listL, x_listT, x_listO, x_isN, x_isNn, x_isNi, x_isNl, x_isNt, x_isNb, x_notN, x_ixL, x_ixT, x_ixO, x_ixS, x_ix0, x_ix1, x_ix2, x_sl, x_slO, x_slT, x_inL, x_inO, x_ninL, x_ninO]
end Sh2
set_option Elab.async false
set_option linter.all false
set_option maxRecDepth 100000
namespace PL
open PySem
/-! own items -/
theorem compL_mapT {α : Type} {f : α → D} {g : D → En → Option En} {c : En → Rs Bool} {e : En → Rs T} {ρ : En} {k : α → Bool} {t : α → T} : ∀ (l : List α), (∀ a ∈ l, ∃ ρ1, g (f a) ρ = some ρ1 ∧ c ρ1 = .ok (k a) ∧ (k a = true → e ρ1 = .ok (t a))) →
    compL g c e ρ (l.map f) = some ((l.filter k).map t)
  | [], _ => rfl
  | a :: l, H => by
    obtain ⟨ρ1, e1, e2, e3⟩ := H a List.mem_cons_self
    have ih := compL_mapT l fun b hb => H b (List.mem_cons_of_mem _ hb)
    unfold compL
    rw [List.map_cons]
    simp only [e1, Option.bind_some, e2, Rs.o]
    cases hk : k a with
    | false => rw [List.filter_cons_of_neg (by simp [hk])]; exact ih
    | true =>
      rw [List.filter_cons_of_pos hk, e3 hk]
      simp only [cond_true, Rs.o, Option.bind_some, ih, Option.map_some, List.map_cons]
theorem shs_ers : ∀ {ts : List T} {ds : List D}, T.shs ts = some ds → T.ers ts = ds
  | [], ds, h => by simp only [T.shs, Option.some.injEq] at h; subst h; simp only [T.ers]
  | t :: ts, ds, h => by
    cases t with
    | sh d =>
      simp only [T.shs] at h
      cases hs : T.shs ts with
      | none => rw [hs] at h; cases h
      | some ds' =>
        rw [hs] at h
        simp only [Option.map_some, Option.some.injEq] at h
        subst h
        simp only [T.ers, T.er, shs_ers hs]
    | _ => simp only [T.shs, reduceCtorEq] at h
theorem mkL_er {ts : List T} (h : T.noScrs ts = true) : (mkL ts).noScr = true ∧ (mkL ts).er = .list (T.ers ts) ∧ (mkL ts).isL = true := by
  unfold mkL
  cases hs : T.shs ts with
  | none => exact ⟨by simp only [T.noScr]; exact h, by simp only [T.er], rfl⟩
  | some ds => exact ⟨by simp only [T.noScr], by simp only [T.er, shs_ers hs], rfl⟩
theorem ers_app : ∀ {ts us : List T}, T.ers (ts ++ us) = T.ers ts ++ T.ers us
  | [], us => by simp only [T.ers, List.nil_append]
  | t :: ts, us => by simp only [T.ers, List.cons_append, ers_app]
theorem noScrs_app : ∀ {ts us : List T}, T.noScrs (ts ++ us) = (T.noScrs ts && T.noScrs us)
  | [], us => by simp only [T.noScrs, List.nil_append, Bool.true_and]
  | t :: ts, us => by simp only [T.noScrs, List.cons_append, noScrs_app, Bool.and_assoc]
theorem ers_len : ∀ {ts : List T}, (T.ers ts).length = ts.length
  | [] => by simp only [T.ers, List.length_nil]
  | t :: ts => by simp only [T.ers, List.length_cons, ers_len]
theorem ers_map {α : Type} {t : α → T} {h : α → D} : ∀ {l : List α}, (∀ a ∈ l, (t a).noScr = true ∧ (t a).er = h a) → T.ers (l.map t) = l.map h ∧ T.noScrs (l.map t) = true
  | [], _ => by simp only [List.map_nil, T.ers, T.noScrs, true_and]
  | a :: l, H => by
    obtain ⟨e1, e2⟩ := H a List.mem_cons_self
    obtain ⟨i1, i2⟩ := ers_map fun b hb => H b (List.mem_cons_of_mem _ hb)
    simp only [List.map_cons, T.ers, T.noScrs, e1, e2, i1, i2, Bool.and_self, true_and]
section
variable {α : Type} {ei : En → Rs (List D)} {vs : List Nat} {g : D → En → Option En} {c : En → Rs Bool} {e : En → Rs T} {ρ : En} {l : List α} {f : α → D} {k : α → Bool} {h : α → D} {t : α → T}
theorem comp_own (hi : ei ρ = .ok (l.map f)) (hl : l.length ≤ 2 ^ 24) (H : ∀ a ∈ l, ∃ ρ1, g (f a) (ρ.clr vs) = some ρ1 ∧ e ρ1 = .ok (t a)) (hh : ∀ a ∈ l, (t a).noScr = true ∧ (t a).er = h a) : ∃ u, evComp ei vs g evYes e ρ = .ok u ∧ u.noScr = true ∧ u.er = .list (l.map h) ∧ u.isL = true := by
  have hs : l.length ≤ sizeLine := by rw [sizeLine_eq]; omega
  have e0 : compL g evYes e (ρ.clr vs) (l.map f) = some (l.map t) := by
    rw [compL_mapT (k := fun _ => true) (t := t) l fun a ha => ?_, List.filter_eq_self.mpr fun _ _ => rfl]
    obtain ⟨ρ1, e1, e2⟩ := H a ha
    exact ⟨ρ1, e1, rfl, fun _ => e2⟩
  obtain ⟨i1, i2⟩ := ers_map hh
  obtain ⟨m1, m2, m3⟩ := mkL_er i2
  refine ⟨mkL (l.map t), ?_, m1, by rw [m2, i1], m3⟩
  unfold evComp
  rw [hi]
  simp only [Rs.bind, List.length_map, hs, if_true, e0, rsO]
theorem evSh_of {ev : En → Rs T} {ρ : En} {u : T} (h : ev ρ = .ok u) (hn : u.noScr = true) : evSh ev ρ = .ok (.sh u.er) := by
  simp only [evSh, h, x_bind, hn, if_true]
theorem comp_sh (hi : ei ρ = .ok (l.map f)) (hl : l.length ≤ 2 ^ 24) (H : ∀ a ∈ l, ∃ ρ1, g (f a) (ρ.clr vs) = some ρ1 ∧ e ρ1 = .ok (t a)) (hh : ∀ a ∈ l, (t a).noScr = true ∧ (t a).er = h a) : evSh (evComp ei vs g evYes e) ρ = .ok (.sh (.list (l.map h))) := by
  obtain ⟨u, e1, e2, e3, _⟩ := comp_own hi hl H hh
  rw [evSh_of e1 e2, e3]
end
theorem app_ot {ts : List T} {ds : List D} (h : ts.length < 2 ^ 24) : appT (.ot ts) (.ol ds) = some (.ot (ts ++ [.ol ds])) := by
  have hs : ts.length < sizeLine := by rw [sizeLine_eq]; omega
  simp only [appT, hs, if_true]
theorem evEBin {op : T → T → Option T} {a b : En → Rs T} {ρ : En} {x y : T} {k : Bool} (ha : a ρ = .ok x) (hb : b ρ = .ok y) (ho : op x y = some (.sh (.bool k))) : evEB (evBin op a b) ρ = .ok k := by
  simp only [evEB, evB, evBin, ha, hb, ho, x_bind, x_rs, x_asB]
theorem evSh_ol {ev : En → Rs T} {ρ : En} {ds : List D} (h : ev ρ = .ok (.ol ds)) : evSh ev ρ = .ok (.sh (.list ds)) := by
  simp only [evSh, h, x_bind, T.noScr, T.er, if_true]
end PL
set_option Elab.async false
set_option linter.all false
set_option maxRecDepth 100000
namespace PL
open PySem
theorem x_srtL {ns : List Int} : fSrt [.sh (.list (ns.map PyData.int))] = some (.ol ((sortI ns).map PyData.int)) := by unfold fSrt; rw [x_sortL]; rfl
theorem x_srtO {ns : List Int} : fSrt [.ol (ns.map PyData.int)] = some (.ol ((sortI ns).map PyData.int)) := by unfold fSrt; rw [x_sortO]; rfl
theorem x_srtPL {ps : List (Int × Int)} : fSrt [.sh (.list (ps.map pD))] = some (.ol ((sortP ps).map pD)) := by
  cases ps with
  | nil =>
    have : sortP [] = [] := List.Perm.eq_nil (sortP_perm [])
    have hi : sortI [] = [] := List.Perm.eq_nil (sortI_perm [])
    have h2 := x_srtL (ns := [])
    rw [hi] at h2
    rw [this]; exact h2
  | cons p ps =>
    have h1 : fSortI [.sh (.list ((p :: ps).map pD))] = none := rfl
    have h2 : T.pairs (.sh (.list ((p :: ps).map pD))) = some (p :: ps) := pairsD_map (p :: ps)
    simp only [fSrt, h1, Option.or, fSortP, f1, h2, Option.map_some]
theorem x_srtPO {ps : List (Int × Int)} : fSrt [.ol (ps.map pD)] = some (.ol ((sortP ps).map pD)) := by
  cases ps with
  | nil =>
    have : sortP [] = [] := List.Perm.eq_nil (sortP_perm [])
    have hi : sortI [] = [] := List.Perm.eq_nil (sortI_perm [])
    have h2 := x_srtO (ns := [])
    rw [hi] at h2
    rw [this]; exact h2
  | cons p ps =>
    have h1 : fSortI [.ol ((p :: ps).map pD)] = none := rfl
    have h2 : T.pairs (.ol ((p :: ps).map pD)) = some (p :: ps) := pairsD_map (p :: ps)
    simp only [fSrt, h1, Option.or, fSortP, f1, h2, Option.map_some]
end PL
set_option Elab.async false
set_option linter.all false
set_option maxRecDepth 100000
/-! PL35: readings of whole expressions by those of their parts (where simp goes too deep). -/
namespace PL
open PySem PySem.Spec L2
section
variable {ρ : En} {ea eb ec ed : En → Rs T} {a b c d : D} {x y t u : T}
theorem evBin_ok {f : T → T → Option T} (ha : ea ρ = .ok x) (hb : eb ρ = .ok y) (ho : f x y = some t) : evBin f ea eb ρ = .ok t := by simp only [evBin, ha, hb, x_bind, ho, x_rs]
theorem evC1_ok {f : List T → Option T} {er : En → Rs (List T)} {ts : List T} (h : er ρ = .ok ts) (ho : f ts = some t) : evC1 f er ρ = .ok t := by simp only [evC1, h, x_bind, ho, x_rs]
theorem evC1_1 {f : List T → Option T} (h : ea ρ = .ok x) (ho : f [x] = some t) : evC1 f (evCons ea evNil) ρ = .ok t := evC1_ok (by simp only [evCons, evNil, h, x_bind]) ho
theorem evC1_2 {f : List T → Option T} (h : ea ρ = .ok x) (h2 : eb ρ = .ok y) (ho : f [x, y] = some t) : evC1 f (evCons ea (evCons eb evNil)) ρ = .ok t := evC1_ok (by simp only [evCons, evNil, h, h2, x_bind]) ho
theorem evCall_1 {F : List T → Rs T} (ha : ea ρ = .ok (.sh a)) (h : F [.sh a] = .ok t) : evCall 1 F (evCons ea evNil) ρ = .ok t := by
  simp only [evCall, evCons, evNil, ha, x_bind]; exact h
theorem evCall_2 {F : List T → Rs T} (ha : ea ρ = .ok (.sh a)) (hb : eb ρ = .ok (.sh b)) (h : F [.sh a, .sh b] = .ok t) : evCall 2 F (evCons ea (evCons eb evNil)) ρ = .ok t := by
  simp only [evCall, evCons, evNil, ha, hb, x_bind]; exact h
theorem evCall_3 {F : List T → Rs T} (ha : ea ρ = .ok (.sh a)) (hb : eb ρ = .ok (.sh b)) (hc : ec ρ = .ok (.sh c)) (h : F [.sh a, .sh b, .sh c] = .ok t) : evCall 3 F (evCons ea (evCons eb (evCons ec evNil))) ρ = .ok t := by
  simp only [evCall, evCons, evNil, ha, hb, hc, x_bind]; exact h
theorem evCall_4 {F : List T → Rs T} (ha : ea ρ = .ok (.sh a)) (hb : eb ρ = .ok (.sh b)) (hc : ec ρ = .ok (.sh c)) (hd : ed ρ = .ok (.sh d)) (h : F [.sh a, .sh b, .sh c, .sh d] = .ok t) : evCall 4 F (evCons ea (evCons eb (evCons ec (evCons ed evNil)))) ρ = .ok t := by
  simp only [evCall, evCons, evNil, ha, hb, hc, hd, x_bind]; exact h
/-- calls with own arguments that are only looked at -/
def argT (t : T) : D := t.er
theorem toArg_er {t : T} (h : t.noScr = true) : t.toArg = .sh t.er := by
  cases t with
  | scr _ => cases h
  | _ => rfl
theorem argOk_er {t : T} (h : t.noScr = true) : t.argOk = true := by
  cases t with
  | scr _ => rfl
  | _ => exact h
theorem sh_er {t : T} (h : t.isSh = true) (h2 : t.noScr = true) : t = .sh t.er := by
  cases t with
  | sh d => rfl
  | scr _ => cases h2
  | _ => cases h
theorem callF_own {n : Nat} {F : List T → Rs T} {ts : List T} (hn : ts.length = n) (ho : ∀ u ∈ ts, u.noScr = true) (h : F (ts.map fun u => .sh u.er) = .ok t) (hs : t.solid = true) : callF n F ts = .ok t := by
  unfold callF
  rw [if_pos hn]
  have e1 : ts.all T.isSh = true → ts = ts.map fun u => .sh u.er := fun z => by
    rw [List.all_eq_true] at z
    conv => lhs; rw [← List.map_id ts]
    exact List.map_congr_left fun u hu => sh_er (z u hu) (ho u hu)
  by_cases hsh : ts.all T.isSh = true
  · rw [if_pos hsh, e1 hsh]; exact h
  · rw [if_neg hsh, if_pos (List.all_eq_true.mpr fun u hu => argOk_er (ho u hu))]
    have e2 : ts.map T.toArg = ts.map fun u => .sh u.er := List.map_congr_left fun u hu => toArg_er (ho u hu)
    rw [e2, h]
    simp only [x_bind, hs, if_true]
theorem evTru_b {k : Bool} (h : ea ρ = .ok (.sh (.bool k))) : evTru ea ρ = .ok k := by
  simp only [evTru, h, x_bind]; cases k <;> rfl
theorem evNot_ok {ea : En → Rs Bool} {k : Bool} (h : ea ρ = .ok k) : evNot ea ρ = .ok (!k) := by simp only [evNot, h, x_bind]
theorem evAnd_ok {ea eb : En → Rs Bool} {k l : Bool} (h : ea ρ = .ok k) (h2 : k = true → eb ρ = .ok l) : evAnd ea eb ρ = .ok (k && l) := by
  simp only [evAnd, h, x_bind]
  cases k with
  | false => rfl
  | true => simp only [h2 rfl, cond_true, Bool.true_and]
theorem evOr_ok {ea eb : En → Rs Bool} {k l : Bool} (h : ea ρ = .ok k) (h2 : k = false → eb ρ = .ok l) : evOr ea eb ρ = .ok (k || l) := by
  simp only [evOr, h, x_bind]
  cases k with
  | true => rfl
  | false => simp only [h2 rfl, cond_false, Bool.false_or]
theorem evCons_ok {er : En → Rs (List T)} {ts : List T} (h : ea ρ = .ok t) (h2 : er ρ = .ok ts) : evCons ea er ρ = .ok (t :: ts) := by simp only [evCons, h, h2, x_bind]
theorem mkT_own {d : D} (hl : u.isL = true) : mkT [.sh d, u] = .tu [.sh d, u] := by
  cases u <;> first | rfl | cases hl
theorem evTup_2 (ha : ea ρ = .ok (.sh d)) (hb : eb ρ = .ok u) (hl : u.isL = true) : evTup (evCons ea (evCons eb evNil)) ρ = .ok (.tu [.sh d, u]) := by
  simp only [evTup, evCons, evNil, ha, hb, x_bind, List.length_cons, List.length_nil, Nat.reduceAdd, Nat.reduceLeDiff, if_true, mkT_own hl]
end
theorem len_er {u : T} {ds : List PyData} (hn : u.noScr = true) (he : u.er = .list ds) : fLen [u] = some (.sh (.int (ds.length : Nat))) := by
  cases u with
  | sh d => simp only [T.er] at he; subst he; rfl
  | scr _ => cases hn
  | ol es => simp only [T.er, PyData.list.injEq] at he; subst he; rfl
  | od _ => cases he
  | ot ts => simp only [T.er, PyData.list.injEq] at he; subst he; rw [ers_len]; rfl
  | tu _ => cases he
  | rg _ _ => cases hn
theorem app_er {u t : T} {ds : List PyData} (hl : u.isL = true) (hn : u.noScr = true) (he : u.er = .list ds) (tn : t.noScr = true) (hb : ds.length < 16777216) : ∃ u', appT u t = some u' ∧ u'.isL = true ∧ u'.noScr = true ∧ u'.er = .list (ds ++ [t.er]) := by
  cases u with
  | ol es =>
    simp only [T.er, PyData.list.injEq] at he
    subst he
    have e : es.length < sizeLine := by rw [sizeLine_eq]; omega
    have hm : ∀ t : T, t.noScr = true → (∀ d, t ≠ .sh d) → T.noScr (.ot (es.map .sh ++ [t])) = true ∧ T.er (.ot (es.map .sh ++ [t])) = .list (es ++ [t.er]) := fun t tn _ => by
      obtain ⟨h1, h2⟩ := ers_map (t := T.sh) (h := fun d => d) (l := es) fun a _ => ⟨rfl, rfl⟩
      simp only [T.noScr, T.er, noScrs_app, ers_app, h1, h2, T.noScrs, T.ers, tn, Bool.and_self, List.map_id', true_and]
    cases t with
    | scr _ => cases tn
    | sh d => exact ⟨_, by simp only [appT, e, if_true]; rfl, rfl, rfl, rfl⟩
    | rg _ _ => cases tn
    | ol x => exact ⟨_, by simp only [appT, e, if_true], rfl, hm _ tn (fun d z => nomatch z)⟩
    | od x => exact ⟨_, by simp only [appT, e, if_true], rfl, hm _ tn (fun d z => nomatch z)⟩
    | ot x => exact ⟨_, by simp only [appT, e, if_true], rfl, hm _ tn (fun d z => nomatch z)⟩
    | tu x => exact ⟨_, by simp only [appT, e, if_true], rfl, hm _ tn (fun d z => nomatch z)⟩
  | ot ts =>
    simp only [T.er, PyData.list.injEq] at he
    subst he
    rw [ers_len] at hb
    have e : ts.length < sizeLine := by rw [sizeLine_eq]; omega
    simp only [T.noScr] at hn
    have : ∃ u', appT (.ot ts) t = some u' ∧ u' = .ot (ts ++ [t]) := by
      cases t with
      | scr _ => cases tn
      | _ => exact ⟨_, by simp only [appT, e, if_true], rfl⟩
    obtain ⟨u', e1, rfl⟩ := this
    refine ⟨_, e1, rfl, ?_, ?_⟩
    · simp only [T.noScr, noScrs_app, T.noScrs, hn, tn, Bool.and_self]
    · simp only [T.er, ers_app, T.ers]
  | _ => cases hl
theorem share_er {u : T} {d : PyData} (hn : u.noScr = true) (he : u.er = d) : (match some u with
      | some (.scr ns) => some (T.scr ns)
      | some t => some (if t.noScr then T.sh t.er else t)
      | none => none) = some (.sh d) := by
  cases u with
  | scr _ => cases hn
  | _ => simp only [hn, he, if_true]
theorem x_rgV {ev : En → Rs T} {ρ : En} {n : Int} (h : ev ρ = .ok (.rg 0 n)) (h1 : -4611686018427387904 ≤ n ∧ n < 4611686018427387904) : eiRgV ev ρ = .ok ((rngI 0 n).map PyData.int) := by
  unfold eiRgV
  rw [h]
  have e : -(2 ^ 62) ≤ (0 : Int) ∧ (0 : Int) < 2 ^ 62 ∧ -(2 ^ 62) ≤ n ∧ n < 2 ^ 62 := by omega
  simp only [Rs.bind, e, if_true, and_self, rngD_I]
theorem evSh_cat {ea eb : En → Rs T} {ρ : En} {a b : List PyData} (ha : ea ρ = .ok (.sh (.list a))) (hb : eb ρ = .ok (.sh (.list b))) (h : a.length + b.length ≤ 16777216) : evSh (evBin fAdd ea eb) ρ = .ok (.sh (.list (a ++ b))) := by
  simp only [evSh, evBin, ha, hb, x_bind, x_catL h, x_rs, T.noScr, T.er, if_true]
end PL
set_option Elab.async false
set_option linter.all false
set_option maxRecDepth 100000
/-! PL42: readings of sorted. -/
namespace PL
open PySem
theorem x_saL {ns : List Int} : fSrtA [.sh (.list (ns.map PyData.int))] = some (.ol ((sortI ns).map PyData.int)) := x_srtA x_srtL
theorem x_saO {ns : List Int} : fSrtA [.ol (ns.map PyData.int)] = some (.ol ((sortI ns).map PyData.int)) := x_srtA x_srtO
theorem x_saPL {ps : List (Int × Int)} : fSrtA [.sh (.list (ps.map pD))] = some (.ol ((sortP ps).map pD)) := x_srtA x_srtPL
theorem x_saPO {ps : List (Int × Int)} : fSrtA [.ol (ps.map pD)] = some (.ol ((sortP ps).map pD)) := x_srtA x_srtPO
end PL
set_option Elab.async false
set_option linter.all false
set_option maxRecDepth 100000
/-! PSh: shifts as lists of ints, their cycles and signs; plain mathematics. -/
namespace PSh
open PL
abbrev Le := List Int
theorem sub_len {α : Type} [DecidableEq α] : ∀ {l m : List α}, l.Nodup → (∀ x ∈ l, x ∈ m) → l.length ≤ m.length ∧ (m.length ≤ l.length → ∀ x ∈ m, x ∈ l)
  | [], m, _, _ => ⟨Nat.zero_le _, fun h x hx => by have := List.eq_nil_of_length_eq_zero (Nat.le_zero.mp h); subst this; cases hx⟩
  | a :: l, m, hn, hs => by
    obtain ⟨h1, h2⟩ := List.nodup_cons.mp hn
    have ha := hs a List.mem_cons_self
    have hl : (m.erase a).length + 1 = m.length := by
      have := List.length_erase_of_mem ha
      have : 0 < m.length := List.length_pos_of_mem ha
      omega
    obtain ⟨i1, i2⟩ := sub_len (m := m.erase a) h2 fun x hx => (List.mem_erase_of_ne (fun (e : x = a) => h1 (e ▸ hx))).mpr (hs x (List.mem_cons_of_mem _ hx))
    refine ⟨by rw [List.length_cons]; omega, fun h x hx => ?_⟩
    rw [List.length_cons] at h
    by_cases e : x = a
    · rw [e]; exact List.mem_cons_self
    · exact List.mem_cons_of_mem _ (i2 (by omega) x ((List.mem_erase_of_ne e).mpr hx))
theorem perm_of_sub {α : Type} [DecidableEq α] {l m : List α} (hn : l.Nodup) (hm : m.Nodup) (hs : ∀ x ∈ l, x ∈ m) (hl : m.length ≤ l.length) : l.Perm m :=
  (List.perm_ext_iff_of_nodup hn hm).mpr fun x => ⟨hs x, (sub_len hn hs).2 hl x⟩
theorem nodup_of_cover {α : Type} [DecidableEq α] {l m : List α} (hm : m.Nodup) (hs : ∀ x ∈ m, x ∈ l) (hl : l.length ≤ m.length) : l.Perm m := by
  have h2 := (sub_len hm hs).2 hl
  -- l has as many items as m, and all of m
  have : ∀ (l m : List α), m.Nodup → (∀ x ∈ m, x ∈ l) → l.length ≤ m.length → l.Perm m := by
    intro l m
    induction m generalizing l with
    | nil => intro _ _ h; rw [List.eq_nil_of_length_eq_zero (Nat.le_zero.mp h)]
    | cons a m ih =>
      intro hm hs hl
      obtain ⟨h1, h2⟩ := List.nodup_cons.mp hm
      have ha := hs a List.mem_cons_self
      have p := List.perm_cons_erase ha
      refine p.trans (List.Perm.cons a (ih _ h2 (fun x hx => (List.mem_erase_of_ne (fun (e : x = a) => h1 (e ▸ hx))).mpr (hs x (List.mem_cons_of_mem _ hx))) ?_))
      have := List.length_erase_of_mem ha
      rw [List.length_cons] at hl
      omega
  exact this l m hm hs hl
theorem nodup_map {α β : Type} {f : α → β} {l : List α} (h : l.Nodup) (hi : ∀ x ∈ l, ∀ y ∈ l, f x = f y → x = y) : (l.map f).Nodup := by
  unfold List.Nodup
  rw [List.pairwise_map]
  exact List.Pairwise.imp_of_mem (fun {a b} ha hb (hn : a ≠ b) e => hn (hi a ha b hb e)) h
theorem rngI_lt (lo hi : Int) : (rngI lo hi).Pairwise (· < ·) := by
  unfold rngI
  rw [List.pairwise_map]
  exact List.pairwise_lt_range.imp fun {a b} h => by omega
theorem rngI_nodup (lo hi : Int) : (rngI lo hi).Nodup := (rngI_lt lo hi).imp fun h => Int.ne_of_lt h
/-- a shift -/
def Sh (s : Le) : Prop := s.Perm (rngI 0 s.length)
theorem Sh.mem {s : Le} (h : Sh s) {x : Int} : x ∈ s ↔ 0 ≤ x ∧ x < s.length := by rw [h.mem_iff, rngI_mem]
theorem Sh.nodup {s : Le} (h : Sh s) : s.Nodup := h.nodup_iff.mpr (rngI_nodup _ _)
theorem Sh.below {s : Le} (h : Sh s) : Below (s.length : Int) s := fun x hx => h.mem.mp hx
theorem Sh.of {s : Le} (h1 : s.Nodup) (h2 : ∀ x ∈ s, 0 ≤ x ∧ x < (s.length : Int)) : Sh s :=
  perm_of_sub h1 (rngI_nodup _ _) (fun x hx => rngI_mem.mpr (h2 x hx)) (by rw [rngI_len]; omega)
theorem sh_rng {n : Int} (h : 0 ≤ n) : Sh (rngI 0 n) := by
  unfold Sh
  rw [rngI_len, show (((n - 0).toNat : Nat) : Int) = n by omega]
/-! items -/
theorem at_get {s : Le} {k : Nat} (h : k < s.length) : at_ s (k : Int) = s[k] := by
  unfold at_
  rw [List.getD_eq_getElem?_getD, show ((k : Int)).toNat = k by omega, List.getElem?_eq_getElem h]; rfl
theorem at_getI {s : Le} {x : Int} (h0 : 0 ≤ x) (h1 : x < s.length) : at_ s x = s[x.toNat]'(by omega) := by
  have := at_get (s := s) (k := x.toNat) (by omega)
  rw [show ((x.toNat : Nat) : Int) = x by omega] at this
  exact this
theorem map_at (s : Le) : (rngI 0 s.length).map (at_ s) = s := by
  apply List.ext_getElem
  · rw [List.length_map, rngI_len]; omega
  · intro i h1 h2
    rw [List.getElem_map]
    have : (rngI 0 (s.length : Int))[i]'(by rw [List.length_map] at h1; exact h1) = (i : Int) := by
      unfold rngI
      rw [List.getElem_map, List.getElem_range]; omega
    rw [this, at_get h2]
theorem at_rng {n x : Int} (h0 : 0 ≤ x) (h1 : x < n) : at_ (rngI 0 n) x = x := by
  rw [at_getI h0 (by rw [rngI_len]; omega)]
  unfold rngI
  rw [List.getElem_map, List.getElem_range]; omega
theorem at_map {s : Le} {f : Int → Int} {x : Int} (h0 : 0 ≤ x) (h1 : x < s.length) : at_ (s.map f) x = f (at_ s x) := by
  rw [at_getI h0 (by rw [List.length_map]; exact h1), List.getElem_map, at_getI h0 h1]
theorem ext_at {s t : Le} (hl : s.length = t.length) (h : ∀ x : Int, 0 ≤ x → x < s.length → at_ s x = at_ t x) : s = t := by
  rw [← map_at s, ← map_at t, ← hl]
  exact List.map_congr_left fun x hx => h x (rngI_mem.mp hx).1 (rngI_mem.mp hx).2
theorem Sh.at_in {s : Le} (h : Sh s) {x : Int} (h0 : 0 ≤ x) (h1 : x < s.length) : 0 ≤ at_ s x ∧ at_ s x < s.length := h.below _ (at_mem h0 h1)
theorem nodup_at {s : Le} (h : s.Nodup) {x y : Int} (hx : 0 ≤ x ∧ x < s.length) (hy : 0 ≤ y ∧ y < s.length) (e : at_ s x = at_ s y) : x = y := by
  rw [at_getI hx.1 hx.2, at_getI hy.1 hy.2] at e
  have := (List.getElem_inj h).mp e
  omega
theorem Sh.inj {s : Le} (h : Sh s) {x y : Int} (hx : 0 ≤ x ∧ x < s.length) (hy : 0 ≤ y ∧ y < s.length) (e : at_ s x = at_ s y) : x = y := nodup_at h.nodup hx hy e
/-! products -/
def thenC (a b : Le) : Le := a.map (at_ b)
theorem then_len (a b : Le) : (thenC a b).length = a.length := List.length_map ..
theorem then_at {a b : Le} {x : Int} (h0 : 0 ≤ x) (h1 : x < a.length) : at_ (thenC a b) x = at_ b (at_ a x) := at_map h0 h1
theorem then_sh {a b : Le} (ha : Sh a) (hb : Sh b) (hl : a.length = b.length) : Sh (thenC a b) := by
  unfold Sh
  rw [then_len]
  refine (ha.map (at_ b)).trans ?_
  rw [hl, map_at b]
  exact hb
theorem then_unit {a : Le} (ha : Sh a) : thenC a (rngI 0 a.length) = a := by
  unfold thenC
  conv => rhs; rw [← List.map_id a]
  exact List.map_congr_left fun x hx => at_rng (ha.below x hx).1 (ha.below x hx).2
theorem unit_then {b : Le} : thenC (rngI 0 b.length) b = b := map_at b
theorem then_assoc {a b c : Le} (ha : Sh a) (hl : a.length = b.length) : thenC (thenC a b) c = thenC a (thenC b c) := by
  unfold thenC
  rw [List.map_map]
  exact List.map_congr_left fun x hx => (at_map (ha.below x hx).1 (by rw [← hl]; exact (ha.below x hx).2)).symm
/-! inverse -/
def idx (s : Le) (x : Int) : Int := (s.findIdx (fun y => decide (y = x)) : Nat)
theorem idx_spec {s : Le} {x : Int} (h : x ∈ s) : 0 ≤ idx s x ∧ idx s x < s.length ∧ at_ s (idx s x) = x := by
  have hlt : s.findIdx (fun y => decide (y = x)) < s.length := List.findIdx_lt_length_of_exists ⟨x, h, by simp⟩
  have := List.findIdx_getElem (w := hlt)
  refine ⟨by unfold idx; omega, by unfold idx; omega, ?_⟩
  unfold idx
  rw [at_get hlt]
  exact of_decide_eq_true this
def invC (s : Le) : Le := (rngI 0 s.length).map (idx s)
theorem inv_len (s : Le) : (invC s).length = s.length := by unfold invC; rw [List.length_map, rngI_len]; omega
theorem inv_at {s : Le} {x : Int} (h0 : 0 ≤ x) (h1 : x < s.length) : at_ (invC s) x = idx s x := by
  unfold invC
  rw [at_map h0 (by rw [rngI_len]; omega), at_rng h0 h1]
theorem idx_at {s : Le} (h : s.Nodup) {x : Int} (h0 : 0 ≤ x) (h1 : x < s.length) : idx s (at_ s x) = x := by
  obtain ⟨i1, i2, i3⟩ := idx_spec (at_mem h0 h1)
  exact nodup_at h ⟨i1, i2⟩ ⟨h0, h1⟩ i3
theorem inv_sh {s : Le} (h : Sh s) : Sh (invC s) := by
  have hin : ∀ x ∈ rngI 0 (s.length : Int), x ∈ s := fun x hx => h.mem.mpr (rngI_mem.mp hx)
  refine Sh.of (nodup_map (rngI_nodup _ _) fun x hx y hy e => ?_) fun x hx => ?_
  · rw [← (idx_spec (hin x hx)).2.2, ← (idx_spec (hin y hy)).2.2, e]
  · rw [inv_len]
    obtain ⟨y, hy, rfl⟩ := List.mem_map.mp hx
    exact ⟨(idx_spec (hin y hy)).1, (idx_spec (hin y hy)).2.1⟩
theorem then_inv {s : Le} (h : Sh s) : thenC s (invC s) = rngI 0 s.length := by
  refine ext_at (by rw [then_len, rngI_len]; omega) fun x h0 h1 => ?_
  rw [then_len] at h1
  obtain ⟨b0, b1⟩ := h.at_in h0 h1
  rw [then_at h0 h1, inv_at b0 b1, idx_at h.nodup h0 h1, at_rng h0 h1]
theorem inv_then {s : Le} (h : Sh s) : thenC (invC s) s = rngI 0 s.length := by
  refine ext_at (by rw [then_len, inv_len, rngI_len]; omega) fun x h0 h1 => ?_
  rw [then_len, inv_len] at h1
  rw [then_at h0 (by rw [inv_len]; exact h1), inv_at h0 h1, (idx_spec (h.mem.mpr ⟨h0, h1⟩)).2.2, at_rng h0 h1]
/-- what places the spots is the inverse -/
theorem inv_unique {s f : Le} (h : Sh s) (hl : f.length = s.length) (hf : ∀ x : Int, 0 ≤ x → x < s.length → at_ f (at_ s x) = x) : f = invC s := by
  refine ext_at (by rw [hl, inv_len]) fun y h0 h1 => ?_
  rw [hl] at h1
  obtain ⟨i1, i2, i3⟩ := idx_spec (h.mem.mpr ⟨h0, h1⟩)
  rw [inv_at h0 h1]
  have := hf _ i1 i2
  rw [i3] at this
  exact this
theorem inv_inv {s : Le} (h : Sh s) : invC (invC s) = s := by
  refine (inv_unique (inv_sh h) (inv_len s).symm fun x h0 h1 => ?_).symm
  rw [inv_len] at h1
  rw [inv_at h0 h1, (idx_spec (h.mem.mpr ⟨h0, h1⟩)).2.2]
/-! powers -/
def powN (s : Le) : Nat → Le
  | 0 => rngI 0 s.length
  | k + 1 => thenC (powN s k) s
theorem pow_len (s : Le) : ∀ k, (powN s k).length = s.length
  | 0 => by show (rngI 0 s.length).length = _; rw [rngI_len]; omega
  | k + 1 => by show (thenC _ _).length = _; rw [then_len, pow_len s k]
theorem pow_sh {s : Le} (h : Sh s) : ∀ k, Sh (powN s k)
  | 0 => sh_rng (by omega)
  | k + 1 => then_sh (pow_sh h k) h (pow_len s k)
def powC (s : Le) (t : Int) : Le := powN (if 0 ≤ t then s else invC s) t.natAbs
theorem powC_sh {s : Le} (h : Sh s) (t : Int) : Sh (powC s t) := by
  unfold powC
  split
  · exact pow_sh h _
  · exact pow_sh (inv_sh h) _
theorem powC_len (s : Le) (t : Int) : (powC s t).length = s.length := by
  unfold powC
  split
  · exact pow_len _ _
  · rw [pow_len, inv_len]
/-! the way of a spot -/
def itr (s : Le) : Nat → Int → Int
  | 0, x => x
  | k + 1, x => at_ s (itr s k x)
theorem itr_in {s : Le} (h : Sh s) {x : Int} (hx : 0 ≤ x ∧ x < s.length) : ∀ k, 0 ≤ itr s k x ∧ itr s k x < s.length
  | 0 => hx
  | k + 1 => h.at_in (itr_in h hx k).1 (itr_in h hx k).2
theorem itr_add (s : Le) (x : Int) (i : Nat) : ∀ j, itr s (i + j) x = itr s j (itr s i x)
  | 0 => rfl
  | j + 1 => by show at_ s (itr s (i + j) x) = at_ s _; rw [itr_add s x i j]
theorem itr_inj {s : Le} (h : Sh s) {x y : Int} (hx : 0 ≤ x ∧ x < s.length) (hy : 0 ≤ y ∧ y < s.length) : ∀ k, itr s k x = itr s k y → x = y
  | 0, e => e
  | k + 1, e => itr_inj h hx hy k (h.inj (itr_in h hx k) (itr_in h hy k) e)
/-- some step leads back -/
theorem back {s : Le} (h : Sh s) {x : Int} (hx : 0 ≤ x ∧ x < s.length) : ∃ p, 0 < p ∧ p ≤ s.length ∧ itr s p x = x := by
  -- two of the first n + 1 are equal
  have hex : ∃ i j, i < j ∧ j ≤ s.length ∧ itr s i x = itr s j x := by
    by_cases hd : ((List.range (s.length + 1)).map fun k => itr s k x).Nodup
    · have := (sub_len hd (m := rngI 0 s.length) fun y hy => by
        obtain ⟨k, _, rfl⟩ := List.mem_map.mp hy
        exact rngI_mem.mpr (itr_in h hx k)).1
      rw [List.length_map, List.length_range, rngI_len] at this
      omega
    · refine Classical.byContradiction fun hn => hd (nodup_map List.nodup_range fun i hi j hj e => ?_)
      rw [List.mem_range] at hi hj
      rcases Nat.lt_trichotomy i j with z | z | z
      · exact absurd ⟨i, j, z, by omega, e⟩ hn
      · exact z
      · exact absurd ⟨j, i, z, by omega, e.symm⟩ hn
  obtain ⟨i, j, hij, hj, e⟩ := hex
  refine ⟨j - i, by omega, by omega, ?_⟩
  rw [show j = (j - i) + i by omega, itr_add] at e
  have e2 : itr s i x = itr s i (itr s (j - i) x) := e
  exact (itr_inj h hx (itr_in h hx _) i e2).symm
def per (s : Le) (x : Int) : Nat := ((List.range s.length).find? fun k => decide (itr s (k + 1) x = x)).getD 0 + 1
theorem per_spec {s : Le} (h : Sh s) {x : Int} (hx : 0 ≤ x ∧ x < s.length) : 0 < per s x ∧ per s x ≤ s.length ∧ itr s (per s x) x = x ∧ ∀ j, 0 < j → j < per s x → itr s j x ≠ x := by
  obtain ⟨p, p0, p1, p2⟩ := back h hx
  unfold per
  cases e : (List.range s.length).find? fun k => decide (itr s (k + 1) x = x) with
  | none =>
    rw [List.find?_eq_none] at e
    exact absurd (by rw [decide_eq_true_eq, show p - 1 + 1 = p by omega]; exact p2) (e (p - 1) (List.mem_range.mpr (by omega)))
  | some k =>
    rw [List.find?_eq_some_iff_getElem] at e
    obtain ⟨e1, i, hi, e2, e3⟩ := e
    rw [List.getElem_range] at e2
    subst e2
    rw [List.length_range] at hi
    refine ⟨Nat.succ_pos _, hi, of_decide_eq_true e1, fun j j0 j1 z => ?_⟩
    have := e3 (j - 1) (by simp only [Option.getD_some] at j1; omega)
    rw [List.getElem_range, show j - 1 + 1 = j by omega] at this
    simp [z] at this
def cycC (s : Le) (x : Int) : Le := (List.range (per s x)).map fun k => itr s k x
section
variable {s : Le} {x y : Int}
theorem itr_mod (h : Sh s) (hx : 0 ≤ x ∧ x < s.length) (k : Nat) : itr s k x = itr s (k % per s x) x := by
  obtain ⟨p0, _, p2, _⟩ := per_spec h hx
  have hm : ∀ m, itr s (per s x * m) x = x := by
    intro m
    induction m with
    | zero => rfl
    | succ m ih => rw [Nat.mul_succ, itr_add, ih, p2]
  conv => lhs; rw [← Nat.div_add_mod k (per s x), itr_add, hm]
theorem mem_cyc (h : Sh s) (hx : 0 ≤ x ∧ x < s.length) : y ∈ cycC s x ↔ ∃ k, itr s k x = y := by
  obtain ⟨p0, _, _, _⟩ := per_spec h hx
  constructor
  · intro hy
    obtain ⟨k, _, e⟩ := List.mem_map.mp hy
    exact ⟨k, e⟩
  · rintro ⟨k, rfl⟩
    exact List.mem_map.mpr ⟨k % per s x, List.mem_range.mpr (Nat.mod_lt _ p0), (itr_mod h hx k).symm⟩
theorem cyc_nodup (h : Sh s) (hx : 0 ≤ x ∧ x < s.length) : (cycC s x).Nodup := by
  obtain ⟨p0, p1, p2, p3⟩ := per_spec h hx
  have key : ∀ i j, i < j → j < per s x → itr s i x ≠ itr s j x := fun i j hij hj e => by
    rw [show j = (j - i) + i by omega, itr_add] at e
    exact p3 (j - i) (by omega) (by omega) (itr_inj h hx (itr_in h hx _) i (show itr s i x = itr s i (itr s (j - i) x) from e)).symm
  refine nodup_map List.nodup_range fun i hi j hj e => ?_
  rw [List.mem_range] at hi hj
  rcases Nat.lt_trichotomy i j with z | z | z
  · exact absurd e (key i j z hj)
  · exact z
  · exact absurd e.symm (key j i z hi)
theorem cyc_sym (h : Sh s) (hx : 0 ≤ x ∧ x < s.length) (hy : y ∈ cycC s x) : x ∈ cycC s y := by
  obtain ⟨k, rfl⟩ := (mem_cyc h hx).mp hy
  obtain ⟨p0, _, p2, _⟩ := per_spec h hx
  refine (mem_cyc h (itr_in h hx k)).mpr ⟨per s x * k + per s x - k, ?_⟩
  have hle : k ≤ per s x * k := Nat.le_mul_of_pos_left _ p0
  rw [← itr_add, itr_mod h hx]
  rw [show k + (per s x * k + per s x - k) = per s x * (k + 1) by rw [Nat.mul_succ]; omega, Nat.mul_mod_right]; rfl
theorem cyc_trans (h : Sh s) (hx : 0 ≤ x ∧ x < s.length) {z : Int} (hy : y ∈ cycC s x) (hz : z ∈ cycC s y) : z ∈ cycC s x := by
  obtain ⟨k, rfl⟩ := (mem_cyc h hx).mp hy
  obtain ⟨j, rfl⟩ := (mem_cyc h (itr_in h hx k)).mp hz
  exact (mem_cyc h hx).mpr ⟨k + j, itr_add ..⟩
theorem cyc_self (h : Sh s) (hx : 0 ≤ x ∧ x < s.length) : x ∈ cycC s x := (mem_cyc h hx).mpr ⟨0, rfl⟩
theorem cyc_in (h : Sh s) (hx : 0 ≤ x ∧ x < s.length) (hy : y ∈ cycC s x) : 0 ≤ y ∧ y < s.length := by
  obtain ⟨k, rfl⟩ := (mem_cyc h hx).mp hy
  exact itr_in h hx k
/-- the first of its ring -/
def lead (s : Le) (x : Int) : Bool := (cycC s x).all fun y => decide (x ≤ y)
theorem lead_iff (h : Sh s) (hx : 0 ≤ x ∧ x < s.length) : lead s x = true ↔ ∀ k, x ≤ itr s k x := by
  unfold lead
  rw [List.all_eq_true]
  constructor
  · exact fun z k => of_decide_eq_true (z _ ((mem_cyc h hx).mpr ⟨k, rfl⟩))
  · intro z y hy
    obtain ⟨k, rfl⟩ := (mem_cyc h hx).mp hy
    exact decide_eq_true (z k)
def leads (s : Le) : Le := (rngI 0 s.length).filter (lead s)
def cycsC (s : Le) : List Le := (leads s).map (cycC s)
/-- whoever does not lead stands in the ring of a smaller one that does -/
theorem led (h : Sh s) (hx : 0 ≤ x ∧ x < s.length) (hn : lead s x = false) : ∃ l, l < x ∧ 0 ≤ l ∧ lead s l = true ∧ x ∈ cycC s l := by
  have key : ∀ (n : Nat) (y : Int), y.toNat = n → y ∈ cycC s x → 0 ≤ y ∧ (lead s y = true ∨ ∃ z, z < y ∧ z ∈ cycC s x) := by
    intro n y _ hy
    have hyi := cyc_in h hx hy
    refine ⟨hyi.1, ?_⟩
    cases hl : lead s y with
    | true => exact .inl rfl
    | false =>
      right
      unfold lead at hl
      rw [List.all_eq_false] at hl
      obtain ⟨z, hz, hlt⟩ := hl
      rw [decide_eq_true_eq] at hlt
      exact ⟨z, by omega, cyc_trans h hx hy hz⟩
  have go : ∀ (n : Nat) (y : Int), y.toNat ≤ n → y ∈ cycC s x → y < x → ∃ l, l < x ∧ 0 ≤ l ∧ lead s l = true ∧ l ∈ cycC s x := by
    intro n
    induction n with
    | zero =>
      intro y hn hy hlt
      obtain ⟨k0, k1 | ⟨z, hz, hzm⟩⟩ := key _ y rfl hy
      · exact ⟨y, hlt, k0, k1, hy⟩
      · have := (cyc_in h hx hzm).1; omega
    | succ n ih =>
      intro y hn hy hlt
      obtain ⟨k0, k1 | ⟨z, hz, hzm⟩⟩ := key _ y rfl hy
      · exact ⟨y, hlt, k0, k1, hy⟩
      · have := (cyc_in h hx hzm).1
        exact ih z (by omega) hzm (by omega)
  obtain ⟨_, k1 | ⟨z, hz, hzm⟩⟩ := key _ x rfl (cyc_self h hx)
  · rw [hn] at k1; cases k1
  · obtain ⟨l, l1, l2, l3, l4⟩ := go z.toNat z (Nat.le_refl _) hzm hz
    exact ⟨l, l1, l2, l3, cyc_sym h hx l4⟩
end
end PSh
set_option Elab.async false
set_option linter.all false
set_option maxRecDepth 100000
/-! PSg: signs: spots less cycles, and pairs out of order. -/
namespace PSh
open PL
def gt (l : Le) (z : Int) : Nat := l.countP fun a => decide (z < a)
def lt (l : Le) (z : Int) : Nat := l.countP fun a => decide (a < z)
def inv : Le → Nat
  | [] => 0
  | a :: l => lt l a + inv l
def cross (A : Le) : Le → Nat
  | [] => 0
  | b :: B => gt A b + cross A B
theorem gt_app (A B : Le) (z : Int) : gt (A ++ B) z = gt A z + gt B z := List.countP_append ..
theorem lt_app (A B : Le) (z : Int) : lt (A ++ B) z = lt A z + lt B z := List.countP_append ..
theorem cross_nil : ∀ B, cross [] B = 0
  | [] => rfl
  | b :: B => by show gt [] b + cross [] B = 0; rw [cross_nil B]; rfl
theorem cross_cons (a : Int) (A : Le) : ∀ B, cross (a :: A) B = lt B a + cross A B
  | [] => rfl
  | b :: B => by
    show gt (a :: A) b + cross (a :: A) B = lt (b :: B) a + (gt A b + cross A B)
    rw [cross_cons a A B]
    unfold gt lt
    rw [List.countP_cons, List.countP_cons]
    omega
theorem inv_app : ∀ A B, inv (A ++ B) = inv A + inv B + cross A B
  | [], B => by rw [cross_nil, List.nil_append]; show inv B = 0 + inv B + 0; omega
  | a :: A, B => by
    show lt (A ++ B) a + inv (A ++ B) = lt A a + inv A + inv B + cross (a :: A) B
    rw [inv_app A B, lt_app, cross_cons]; omega
theorem cross_app (A : Le) : ∀ B C, cross A (B ++ C) = cross A B + cross A C
  | [], C => by show cross A C = 0 + cross A C; omega
  | b :: B, C => by show gt A b + cross A (B ++ C) = gt A b + cross A B + cross A C; rw [cross_app A B C]; omega
theorem gt_lt {B : Le} {z : Int} (h : z ∉ B) : gt B z + lt B z = B.length := by
  induction B with
  | nil => rfl
  | cons b B ih =>
    simp only [List.mem_cons, not_or] at h
    have := ih h.2
    unfold gt lt at this ⊢
    rw [List.countP_cons, List.countP_cons, List.length_cons]
    by_cases hb : z < b
    · have : ¬ b < z := by omega
      simp only [hb, this, decide_true, decide_false, if_true, Bool.false_eq_true, if_false]; omega
    · have : b < z := by omega
      simp only [hb, this, decide_true, decide_false, if_true, Bool.false_eq_true, if_false]; omega
theorem lt_all {B : Le} {m : Int} (h : ∀ b ∈ B, b < m) : lt B m = B.length := List.countP_eq_length.mpr fun b hb => decide_eq_true (h b hb)
theorem gt_none {B : Le} {m : Int} (h : ∀ b ∈ B, b < m) : gt B m = 0 := List.countP_eq_zero.mpr fun b hb => by have := h b hb; simp only [decide_eq_true_eq]; omega
/-- the greatest spot is taken out of its ring -/
theorem inv_cut {A B : Le} {m z : Int} (hA : ∀ b ∈ A, b < m) (hB : ∀ b ∈ B, b < m) (hz : z < m) (hn : z ∉ B) : inv (A ++ (m :: (B ++ [z]))) = inv (A ++ (z :: B)) + 2 * gt B z + 1 := by
  have e1 : inv (m :: (B ++ [z])) = B.length + 1 + (inv B + gt B z) := by
    show lt (B ++ [z]) m + inv (B ++ [z]) = _
    rw [lt_all (by intro b hb; rcases List.mem_append.mp hb with h | h; exact hB b h; rw [List.mem_singleton.mp h]; exact hz), inv_app, List.length_append]
    show B.length + 1 + (inv B + 0 + (gt B z + 0)) = _
    omega
  have e2 : cross A (m :: (B ++ [z])) = cross A B + gt A z := by
    show gt A m + cross A (B ++ [z]) = _
    rw [gt_none hA, cross_app]
    show 0 + (cross A B + (gt A z + 0)) = _
    omega
  have e3 : inv (z :: B) = lt B z + inv B := rfl
  have e4 : cross A (z :: B) = gt A z + cross A B := rfl
  rw [inv_app, inv_app, e1, e2, e3, e4]
  have := gt_lt hn
  omega
/-! the rings when the greatest spot goes -/
def cN (s : Le) : Nat := (leads s).length
theorem at_app1 {A C : Le} {x : Int} (h0 : 0 ≤ x) (h1 : x < A.length) : at_ (A ++ C) x = at_ A x := by
  rw [at_getI h0 (by rw [List.length_append]; omega), at_getI h0 h1, List.getElem_append_left]
theorem at_app2 {A C : Le} {x : Int} (h0 : (A.length : Int) ≤ x) (h1 : x < A.length + C.length) : at_ (A ++ C) x = at_ C (x - A.length) := by
  rw [at_getI (by omega) (by rw [List.length_append]; omega), at_getI (by omega) (by omega), List.getElem_append_right (by omega)]
  congr 1
  omega
theorem at_cons0 {a : Int} {l : Le} : at_ (a :: l) 0 = a := rfl
theorem leads_snoc (s : Le) (f : Int → Bool) (n : Int) (hn : 0 ≤ n) : ((rngI 0 (n + 1)).filter f).length = ((rngI 0 n).filter f).length + if f n then 1 else 0 := by
  rw [rngI_snoc hn, List.filter_append, List.length_append]
  cases hf : f n with
  | true => rw [List.filter_cons_of_pos hf]; rfl
  | false => rw [List.filter_cons_of_neg (by simp [hf])]; rfl
/-- the last spot stays where it is -/
theorem c_fix {A : Le} (h : Sh (A ++ [(A.length : Int)])) : Sh A ∧ cN (A ++ [(A.length : Int)]) = cN A + 1 := by
  have hl : (A ++ [(A.length : Int)]).length = A.length + 1 := by simp
  have hA : Sh A := by
    refine Sh.of (List.nodup_append.mp h.nodup).1 fun x hx => ?_
    have h1 := h.mem.mp (List.mem_append_left _ hx)
    rw [hl] at h1
    have : x ≠ (A.length : Int) := fun e => (List.nodup_append.mp h.nodup).2.2 x hx _ (by simp) e
    omega
  have hitr : ∀ (x : Int), 0 ≤ x ∧ x < A.length → ∀ k, itr (A ++ [(A.length : Int)]) k x = itr A k x := by
    intro x hx k
    induction k with
    | zero => rfl
    | succ k ih =>
      show at_ _ (itr _ k x) = at_ _ _
      rw [ih, at_app1 (itr_in hA hx k).1 (itr_in hA hx k).2]
  refine ⟨hA, ?_⟩
  unfold cN leads
  rw [hl, show ((A.length + 1 : Nat) : Int) = (A.length : Int) + 1 by omega, leads_snoc A _ _ (by omega)]
  have e1 : (rngI 0 (A.length : Int)).filter (lead (A ++ [(A.length : Int)])) = (rngI 0 (A.length : Int)).filter (lead A) := by
    refine List.filter_congr fun x hx => ?_
    have hx := rngI_mem.mp hx
    have h1 := lead_iff h (x := x) (by rw [hl]; omega)
    have h2 := lead_iff hA hx
    rw [Bool.eq_iff_iff, h1, h2]
    constructor
    · intro z k; rw [← hitr x hx k]; exact z k
    · intro z k; rw [hitr x hx k]; exact z k
  have e2 : lead (A ++ [(A.length : Int)]) (A.length : Int) = true := by
    refine (lead_iff h (by rw [hl]; omega)).mpr fun k => ?_
    have : itr (A ++ [(A.length : Int)]) k (A.length : Int) = (A.length : Int) := by
      induction k with
      | zero => rfl
      | succ k ih =>
        show at_ _ (itr _ k _) = _
        rw [ih, at_app2 (by omega) (by simp; omega), Int.sub_self]; rfl
    omega
  rw [e1, e2]; rfl
/-- the last spot does not stay -/
theorem c_cut {A B : Le} {m z : Int} (hm : m = (A.length : Int) + B.length + 1) (h : Sh (A ++ (m :: (B ++ [z])))) : Sh (A ++ (z :: B)) ∧ cN (A ++ (m :: (B ++ [z]))) = cN (A ++ (z :: B)) ∧ (∀ b ∈ A, b < m) ∧ (∀ b ∈ B, b < m) ∧ z < m ∧ z ∉ B := by
  have hl : (A ++ (m :: (B ++ [z]))).length = A.length + B.length + 2 := by simp; omega
  have hl' : (A ++ (z :: B)).length = A.length + B.length + 1 := by simp; omega
  have hp : (A ++ (m :: (B ++ [z]))).Perm (m :: (A ++ (z :: B))) := by
    refine List.perm_middle.trans (List.Perm.cons m (List.Perm.append_left A ?_))
    exact List.perm_append_comm
  have hnd := hp.nodup_iff.mp h.nodup
  obtain ⟨n1, n2⟩ := List.nodup_cons.mp hnd
  have hlt : ∀ x ∈ A ++ (z :: B), 0 ≤ x ∧ x < m := fun x hx => by
    have h1 := h.mem.mp (hp.mem_iff.mpr (List.mem_cons_of_mem _ hx))
    rw [hl] at h1
    have : x ≠ m := fun e => n1 (e ▸ hx)
    omega
  have hS : Sh (A ++ (z :: B)) := Sh.of n2 fun x hx => by have := hlt x hx; rw [hl']; omega
  have hzB : z ∉ B := fun hz => by
    have := (List.nodup_append.mp n2).2.1
    exact (List.nodup_cons.mp this).1 hz
  -- the ways
  generalize hs : A ++ (m :: (B ++ [z])) = s at h hl
  generalize hs' : A ++ (z :: B) = s' at hS hl' hlt
  have atm : at_ s m = z := by
    rw [← hs, at_app2 (by omega) (by simp; omega)]
    have : at_ (m :: (B ++ [z])) (m - A.length) = at_ ((m :: B) ++ [z]) (m - A.length) := rfl
    rw [this, at_app2 (by simp; omega) (by simp; omega), show m - (A.length : Int) - ((m :: B).length : Int) = 0 by simp; omega]; rfl
  have step : ∀ y : Int, 0 ≤ y → y < m → at_ s' y = if at_ s y = m then z else at_ s y := by
    intro y h0 h1
    by_cases ha : y < A.length
    · have e1 : at_ s y = at_ A y := by rw [← hs, at_app1 h0 ha]
      have e2 : at_ s' y = at_ A y := by rw [← hs', at_app1 h0 ha]
      have : at_ A y ≠ m := fun e => by
        have := hlt (at_ A y) (by rw [← hs']; exact List.mem_append_left _ (at_mem h0 ha))
        omega
      rw [e1, e2, if_neg this]
    · by_cases he : y = A.length
      · have e1 : at_ s y = m := by rw [← hs, at_app2 (by omega) (by simp; omega), he, Int.sub_self]; rfl
        have e2 : at_ s' y = z := by rw [← hs', at_app2 (by omega) (by simp; omega), he, Int.sub_self]; rfl
        rw [e1, e2, if_pos rfl]
      · have e1 : at_ s y = at_ B (y - A.length - 1) := by
          rw [← hs, at_app2 (by omega) (by simp; omega)]
          have : at_ (m :: (B ++ [z])) (y - A.length) = at_ ([m] ++ (B ++ [z])) (y - A.length) := rfl
          rw [this, at_app2 (by simp; omega) (by simp; omega), at_app1 (by simp; omega) (by simp; omega)]; simp
        have e2 : at_ s' y = at_ B (y - A.length - 1) := by
          rw [← hs', at_app2 (by omega) (by simp; omega)]
          have : at_ (z :: B) (y - A.length) = at_ ([z] ++ B) (y - A.length) := rfl
          rw [this, at_app2 (by simp; omega) (by simp; omega)]; simp
        have : at_ B (y - A.length - 1) ≠ m := fun e => by
          have := hlt (at_ B (y - A.length - 1)) (by rw [← hs']; exact List.mem_append_right _ (List.mem_cons_of_mem _ (at_mem (by omega) (by omega))))
          omega
        rw [e1, e2, if_neg this]
  have zlt : z < m := (hlt z (by rw [← hs']; simp)).2
  have fwd : ∀ (x : Int), 0 ≤ x → x < m → ∀ j, ∃ i, itr s' j x = itr s i x := by
    intro x h0 h1 j
    induction j with
    | zero => exact ⟨0, rfl⟩
    | succ j ih =>
      obtain ⟨i, e⟩ := ih
      have hin := itr_in hS (x := x) (by rw [hl']; omega) j
      rw [hl'] at hin
      have e2 : itr s' (j + 1) x = at_ s' (itr s' j x) := rfl
      rw [e2, step _ hin.1 (by omega), e]
      by_cases hb : at_ s (itr s i x) = m
      · refine ⟨i + 2, ?_⟩
        rw [if_pos hb]
        show z = at_ s (at_ s (itr s i x))
        rw [hb, atm]
      · exact ⟨i + 1, by rw [if_neg hb]; rfl⟩
  have bwd : ∀ (x : Int), 0 ≤ x → x < m → ∀ i, (itr s i x ≠ m ∧ ∃ j, itr s' j x = itr s i x) ∨ (itr s i x = m ∧ ∃ j, at_ s (itr s' j x) = m) := by
    intro x h0 h1 i
    induction i with
    | zero => exact .inl ⟨by show x ≠ m; omega, 0, rfl⟩
    | succ i ih =>
      rcases ih with ⟨hn, j, e⟩ | ⟨he, j, e⟩
      · have hin := itr_in hS (x := x) (by rw [hl']; omega) j
        rw [hl'] at hin
        by_cases hb : itr s (i + 1) x = m
        · exact .inr ⟨hb, j, by rw [e]; exact hb⟩
        · refine .inl ⟨hb, j + 1, ?_⟩
          show at_ s' (itr s' j x) = _
          have hb2 : at_ s (itr s i x) ≠ m := hb
          rw [step _ hin.1 (by omega), e, if_neg hb2]; rfl
      · have hin := itr_in hS (x := x) (by rw [hl']; omega) j
        rw [hl'] at hin
        have e2 : itr s (i + 1) x = z := by show at_ s (itr s i x) = z; rw [he, atm]
        refine .inl ⟨by rw [e2]; omega, j + 1, ?_⟩
        show at_ s' (itr s' j x) = _
        rw [step _ hin.1 (by omega), if_pos e, e2]
  refine ⟨hS, ?_, fun b hb => (hlt b (by rw [← hs']; exact List.mem_append_left _ hb)).2, fun b hb => (hlt b (by rw [← hs']; exact List.mem_append_right _ (List.mem_cons_of_mem _ hb))).2, zlt, hzB⟩
  unfold cN leads
  rw [hl, hl', show ((A.length + B.length + 2 : Nat) : Int) = m + 1 by omega, show ((A.length + B.length + 1 : Nat) : Int) = m by omega, leads_snoc s _ _ (by omega)]
  have e1 : (rngI 0 m).filter (lead s) = (rngI 0 m).filter (lead s') := by
    refine List.filter_congr fun x hx => ?_
    have hx := rngI_mem.mp hx
    have h1 := lead_iff h (x := x) (by rw [hl]; omega)
    have h2 := lead_iff hS (x := x) (by rw [hl']; omega)
    rw [Bool.eq_iff_iff, h1, h2]
    constructor
    · intro zz j
      obtain ⟨i, e⟩ := fwd x hx.1 hx.2 j
      rw [e]; exact zz i
    · intro zz i
      rcases bwd x hx.1 hx.2 i with ⟨_, j, e⟩ | ⟨e, _⟩
      · rw [← e]; exact zz j
      · omega
  have e2 : lead s m = false := by
    rw [Bool.eq_false_iff]
    intro hlead
    have := (lead_iff h (x := m) (by rw [hl]; omega)).mp hlead 1
    have e3 : itr s 1 m = z := atm
    omega
  rw [e1, e2]; rfl
/-- spots less rings, and pairs out of order: both even or both odd -/
theorem sign_eq : ∀ (n : Nat) (s : Le), s.length = n → Sh s → (s.length - cN s) % 2 = inv s % 2 ∧ cN s ≤ s.length
  | 0, s, hl, _ => by
    have := List.eq_nil_of_length_eq_zero hl
    subst this
    exact ⟨rfl, Nat.le_refl _⟩
  | n + 1, s, hl, h => by
    have hm : ((n : Nat) : Int) ∈ s := h.mem.mpr (by omega)
    obtain ⟨A, C, rfl⟩ := List.append_of_mem hm
    rcases List.eq_nil_or_concat C with rfl | ⟨B, z, rfl⟩
    · have hA : A.length = n := by simpa using hl
      rw [← hA] at h ⊢
      obtain ⟨h1, h2⟩ := c_fix h
      obtain ⟨i1, i2⟩ := sign_eq n A hA h1
      rw [h2]
      have e : inv (A ++ [(A.length : Int)]) = inv A := by
        rw [inv_app]
        show inv A + 0 + (gt A (A.length : Int) + 0) = inv A
        rw [gt_none fun b hb => (h1.mem.mp hb).2]; omega
      rw [e]
      have hl2 : (A ++ [(A.length : Int)]).length = A.length + 1 := by simp
      rw [hl2]
      exact ⟨by rw [show A.length + 1 - (cN A + 1) = A.length - cN A by omega]; exact i1, by omega⟩
    · have hlen : A.length + B.length + 1 = n := by simp at hl; omega
      have hC : B.concat z = B ++ [z] := List.concat_eq_append
      rw [hC] at h ⊢
      obtain ⟨h1, h2, h3, h4, h5, h6⟩ := c_cut (m := (n : Int)) (by omega) h
      obtain ⟨i1, i2⟩ := sign_eq n (A ++ (z :: B)) (by simp; omega) h1
      rw [h2, inv_cut h3 h4 h5 h6]
      have hl2 : (A ++ ((n : Int) :: (B ++ [z]))).length = n + 1 := by simp; omega
      have hl3 : (A ++ (z :: B)).length = n := by simp; omega
      rw [hl3] at i1 i2
      rw [hl2]
      omega
/-! the sign of a product -/
def S2 {α : Type} (f : α → α → Nat) (l : List α) : Nat := (l.map fun x => (l.map fun y => f x y).sum).sum
def Tr {α : Type} (f : α → α → Nat) : List α → Nat
  | [] => 0
  | a :: l => (l.map fun y => f a y).sum + Tr f l
theorem sum_add {α : Type} (f g : α → Nat) : ∀ l : List α, (l.map fun x => f x + g x).sum = (l.map f).sum + (l.map g).sum
  | [] => rfl
  | a :: l => by simp only [List.map_cons, List.sum_cons, sum_add f g l]; omega
theorem S2_sym {α : Type} {f : α → α → Nat} (hs : ∀ x y, f x y = f y x) (hd : ∀ x, f x x = 0) : ∀ l, S2 f l = 2 * Tr f l
  | [] => rfl
  | a :: l => by
    have ih := S2_sym hs hd l
    unfold S2 at ih ⊢
    simp only [List.map_cons, List.sum_cons, Tr, hd]
    rw [sum_add (fun x => f x a) (fun x => (l.map fun y => f x y).sum) l, ih, List.map_congr_left (g := fun x => f a x) fun x _ => hs x a]
    omega
theorem sum_perm {l m : List Nat} (h : l.Perm m) : l.sum = m.sum := by
  induction h with
  | nil => rfl
  | cons x _ ih => simp only [List.sum_cons, ih]
  | swap x y l => simp only [List.sum_cons]; omega
  | trans _ _ i1 i2 => exact i1.trans i2
theorem S2_perm {α : Type} {f : α → α → Nat} {l m : List α} (h : l.Perm m) : S2 f l = S2 f m := by
  unfold S2
  rw [sum_perm (h.map fun x => (l.map fun y => f x y).sum)]
  congr 1
  exact List.map_congr_left fun x _ => sum_perm (h.map fun y => f x y)
theorem S2_map {α β : Type} {f : β → β → Nat} (g : α → β) (l : List α) : S2 f (l.map g) = S2 (fun x y => f (g x) (g y)) l := by
  unfold S2
  rw [List.map_map]
  congr 1
  refine List.map_congr_left fun x _ => ?_
  show (List.map (fun y => f (g x) y) (l.map g)).sum = _
  rw [List.map_map]; rfl
theorem S2_add {α : Type} {f g : α → α → Nat} (l : List α) : S2 (fun x y => f x y + g x y) l = S2 f l + S2 g l := by
  unfold S2
  rw [← sum_add]
  congr 1
  exact List.map_congr_left fun x _ => sum_add _ _ l
/-- 1 where the shift turns the order of two spots -/
def tu (s : Le) (x y : Int) : Nat := if decide (x < y) = decide (at_ s x < at_ s y) ∨ x = y ∨ at_ s x = at_ s y then 0 else 1
theorem tu_sym (s : Le) (x y : Int) : tu s x y = tu s y x := by
  unfold tu
  by_cases h1 : x = y
  · simp [h1]
  · by_cases h2 : at_ s x = at_ s y
    · simp [h2]
    · have e1 : decide (x < y) = !decide (y < x) := by
        by_cases h : x < y
        · simp [h, show ¬ y < x by omega]
        · simp [h, show y < x by omega]
      have e2 : decide (at_ s x < at_ s y) = !decide (at_ s y < at_ s x) := by
        by_cases h : at_ s x < at_ s y
        · simp [h, show ¬ at_ s y < at_ s x by omega]
        · simp [h, show at_ s y < at_ s x by omega]
      rw [e1, e2]
      have h3 : ¬ y = x := fun z => h1 z.symm
      have h4 : ¬ at_ s y = at_ s x := fun z => h2 z.symm
      simp [h1, h2, h3, h4]
theorem tu_self (s : Le) (x : Int) : tu s x x = 0 := by unfold tu; simp
theorem tr_inv {s : Le} (hn : s.Nodup) : ∀ l : Le, l.Pairwise (· < ·) → (∀ x ∈ l, 0 ≤ x ∧ x < s.length) → Tr (tu s) l = inv (l.map (at_ s))
  | [], _, _ => rfl
  | a :: l, hp, hb => by
    obtain ⟨h1, h2⟩ := List.pairwise_cons.mp hp
    have ih := tr_inv hn l h2 fun x hx => hb x (List.mem_cons_of_mem _ hx)
    show (l.map fun y => tu s a y).sum + Tr (tu s) l = lt (l.map (at_ s)) (at_ s a) + inv (l.map (at_ s))
    rw [ih]
    congr 1
    have key : ∀ m : Le, (∀ y ∈ m, y ∈ l) → (m.map fun y => tu s a y).sum = lt (m.map (at_ s)) (at_ s a) := by
      intro m
      induction m with
      | nil => intro _; rfl
      | cons y m ihm =>
        intro hm
        have hy := hm y List.mem_cons_self
        have hlt := h1 y hy
        have hne : at_ s a ≠ at_ s y := fun e => by
          have := nodup_at hn (hb a List.mem_cons_self) (hb y (List.mem_cons_of_mem _ hy)) e
          omega
        have hne2 : a ≠ y := by omega
        simp only [List.map_cons, List.sum_cons, ihm fun z hz => hm z (List.mem_cons_of_mem _ hz)]
        unfold lt
        rw [List.countP_cons, Nat.add_comm]
        congr 1
        unfold tu
        by_cases hc : at_ s a < at_ s y
        · have : ¬ at_ s y < at_ s a := by omega
          simp [hlt, hc, this]
        · have : at_ s y < at_ s a := by omega
          simp [hlt, hc, this, hne, hne2]
    exact key l fun y hy => hy
theorem tr_rng {s : Le} (h : Sh s) : Tr (tu s) (rngI 0 s.length) = inv s := by
  rw [tr_inv h.nodup _ (rngI_lt _ _) fun x hx => rngI_mem.mp hx, map_at]
theorem inv_then_mod {a b : Le} (ha : Sh a) (hb : Sh b) (hl : a.length = b.length) : inv (thenC a b) % 2 = (inv a + inv b) % 2 := by
  have hab := then_sh ha hb hl
  have hr : ∀ x ∈ rngI 0 (a.length : Int), 0 ≤ x ∧ x < a.length := fun x hx => rngI_mem.mp hx
  -- three double sums
  have k1 : S2 (tu (thenC a b)) (rngI 0 a.length) = 2 * inv (thenC a b) := by
    rw [S2_sym (tu_sym _) (tu_self _)]
    have := tr_rng hab
    rw [then_len] at this
    rw [this]
  have k2 : S2 (tu a) (rngI 0 a.length) = 2 * inv a := by rw [S2_sym (tu_sym _) (tu_self _), tr_rng ha]
  have k3 : S2 (fun x y => tu b (at_ a x) (at_ a y)) (rngI 0 a.length) = 2 * inv b := by
    rw [← S2_map (at_ a), map_at, S2_perm ha, hl, S2_sym (tu_sym _) (tu_self _), tr_rng hb]
  let g : Int → Int → Nat := fun x y => tu a x y * tu b (at_ a x) (at_ a y)
  have k4 : S2 g (rngI 0 a.length) = 2 * Tr g (rngI 0 a.length) :=
    S2_sym (fun x y => by show tu a x y * tu b _ _ = tu a y x * tu b _ _; rw [tu_sym a, tu_sym b]) (fun x => by show tu a x x * _ = 0; rw [tu_self, Nat.zero_mul]) _
  have k5 : S2 (fun x y => tu (thenC a b) x y + (g x y + g x y)) (rngI 0 a.length) = S2 (fun x y => tu a x y + tu b (at_ a x) (at_ a y)) (rngI 0 a.length) := by
    unfold S2
    congr 1
    refine List.map_congr_left fun x hx => ?_
    congr 1
    refine List.map_congr_left fun y hy => ?_
    have hx := hr x hx
    have hy := hr y hy
    show tu (thenC a b) x y + (tu a x y * tu b (at_ a x) (at_ a y) + tu a x y * tu b (at_ a x) (at_ a y)) = tu a x y + tu b (at_ a x) (at_ a y)
    by_cases hxy : x = y
    · subst hxy; rw [tu_self, tu_self, tu_self]
    · have ne1 : at_ a x ≠ at_ a y := fun e => hxy (ha.inj hx hy e)
      have px := ha.at_in hx.1 hx.2
      have py := ha.at_in hy.1 hy.2
      have ne2 : at_ b (at_ a x) ≠ at_ b (at_ a y) := fun e => ne1 (hb.inj (by omega) (by omega) e)
      unfold tu
      rw [then_at hx.1 hx.2, then_at hy.1 hy.2]
      simp only [hxy, ne1, ne2, or_false, false_or]
      cases decide (x < y) <;> cases decide (at_ a x < at_ a y) <;> cases decide (at_ b (at_ a x) < at_ b (at_ a y)) <;> rfl
  rw [S2_add, S2_add, S2_add, k1, k2, k3, k4] at k5
  omega
end PSh
set_option Elab.async false
set_option linter.all false
set_option maxRecDepth 100000
/-! PL44: plain data compared; tuples of ints; dicts as sets of ints; exceptions on the plain side. -/
namespace PL
open PySem
mutual
/-- data without bools and dicts: equal in Python exactly if equal -/
def plainD : D → Bool
  | .none => true
  | .bool _ => false
  | .int _ => true
  | .str _ => true
  | .list ds => plainDs ds
  | .tuple ds => plainDs ds
  | .dict _ => false
def plainDs : List D → Bool
  | [] => true
  | d :: ds => plainD d && plainDs ds
end
mutual
theorem eqv_iff : ∀ a b : D, plainD a = true → plainD b = true → (PyData.eqv a b = true ↔ a = b)
  | .none, b, _, _ => by cases b <;> simp [PyData.eqv]
  | .bool _, _, h, _ => by simp [plainD] at h
  | .dict _, _, h, _ => by simp [plainD] at h
  | .int i, b, _, hb => by cases b <;> simp_all [PyData.eqv, plainD]
  | .str i, b, _, hb => by cases b <;> simp_all [PyData.eqv, plainD]
  | .list ds, b, h, hb => by
    cases b with
    | list es =>
      simp only [PyData.eqv, PyData.list.injEq]
      exact eqvs_iff ds es (by simpa only [plainD] using h) (by simpa only [plainD] using hb)
    | _ => simp [PyData.eqv]
  | .tuple ds, b, h, hb => by
    cases b with
    | tuple es =>
      simp only [PyData.eqv, PyData.tuple.injEq]
      exact eqvs_iff ds es (by simpa only [plainD] using h) (by simpa only [plainD] using hb)
    | _ => simp [PyData.eqv]
theorem eqvs_iff : ∀ a b : List D, plainDs a = true → plainDs b = true → (PyData.eqvAll a b = true ↔ a = b)
  | [], b, _, _ => by cases b <;> simp [PyData.eqvAll]
  | d :: ds, b, h, hb => by
    cases b with
    | nil => simp [PyData.eqvAll]
    | cons e es =>
      simp only [plainDs, Bool.and_eq_true] at h hb
      simp only [PyData.eqvAll, Bool.and_eq_true, List.cons.injEq, eqv_iff d e h.1 hb.1, eqvs_iff ds es h.2 hb.2]
end
theorem eqD_eq {a b : D} [Decidable (a = b)] (ha : plainD a = true) (hb : plainD b = true) : eqD a b = decide (a = b) := by
  rw [Bool.eq_iff_iff, decide_eq_true_eq]; exact eqv_iff a b ha hb
theorem plainDs_map {α : Type} {f : α → D} : ∀ {l : List α}, (∀ a ∈ l, plainD (f a) = true) → plainDs (l.map f) = true
  | [], _ => rfl
  | a :: l, h => by rw [List.map_cons, plainDs, h a List.mem_cons_self, plainDs_map fun b hb => h b (List.mem_cons_of_mem _ hb)]; rfl
theorem int_map_inj : ∀ {a b : List Int}, a.map PyData.int = b.map PyData.int ↔ a = b
  | [], [] => by simp
  | [], _ :: _ => by simp
  | _ :: _, [] => by simp
  | x :: a, y :: b => by simp [int_map_inj (a := a) (b := b)]
theorem plain_ints (ns : List Int) : plainDs (ns.map PyData.int) = true := plainDs_map fun _ _ => rfl
theorem lay_all {l : List Int} : PyData.canLayAll0 (l.map PyData.int) = true := layAll fun d hd => by
  obtain ⟨p, _, rfl⟩ := List.mem_map.mp hd
  rfl
theorem depth_ints (l : List Int) : PyData.depthAll (l.map PyData.int) ≤ 1 := depthAll_le fun d hd => by
  obtain ⟨p, _, rfl⟩ := List.mem_map.mp hd
  simp [PyData.depth]
theorem shaped_L (l : List Int) : SeqAt.shaped (.list (l.map PyData.int)) = true := shaped_of (by simp only [PyData.canLay0]; exact lay_all) (by have := depth_ints l; simp only [PyData.depth]; omega)
theorem shaped_T (l : List Int) : SeqAt.shaped (.tuple (l.map PyData.int)) = true := shaped_of (by simp only [PyData.canLay0]; exact lay_all) (by have := depth_ints l; simp only [PyData.depth]; omega)
theorem eqL {a b : List Int} : eqD (.list (a.map PyData.int)) (.list (b.map PyData.int)) = decide (a = b) := by
  rw [Bool.eq_iff_iff, decide_eq_true_eq]
  rw [show eqD = PyData.eqv from rfl, eqv_iff _ _ (by simp only [plainD]; exact plain_ints a) (by simp only [plainD]; exact plain_ints b), PyData.list.injEq, int_map_inj]
theorem eqT {a b : List Int} : eqD (.tuple (a.map PyData.int)) (.tuple (b.map PyData.int)) = decide (a = b) := by
  rw [Bool.eq_iff_iff, decide_eq_true_eq]
  rw [show eqD = PyData.eqv from rfl, eqv_iff _ _ (by simp only [plainD]; exact plain_ints a) (by simp only [plainD]; exact plain_ints b), PyData.tuple.injEq, int_map_inj]
section
variable {a b ns : List Int} {i : Int} {ds : List D}
theorem x_eqL : fEq (.sh (.list (a.map PyData.int))) (.sh (.list (b.map PyData.int))) = some (.sh (.bool (decide (a = b)))) := by
  rw [x_eqG (shaped_L a) (shaped_L b) rfl, eqL]
theorem x_eqT : fEq (.sh (.tuple (a.map PyData.int))) (.sh (.tuple (b.map PyData.int))) = some (.sh (.bool (decide (a = b)))) := by
  rw [x_eqG (shaped_T a) (shaped_T b) rfl, eqT]
theorem x_neL : fNe (.sh (.list (a.map PyData.int))) (.sh (.list (b.map PyData.int))) = some (.sh (.bool (!decide (a = b)))) := by
  rw [x_neG (shaped_L a) (shaped_L b) rfl, eqL]
theorem x_neT : fNe (.sh (.tuple (a.map PyData.int))) (.sh (.tuple (b.map PyData.int))) = some (.sh (.bool (!decide (a = b)))) := by
  rw [x_neG (shaped_T a) (shaped_T b) rfl, eqT]
theorem x_inT : fIn (.sh (.int i)) (.sh (.tuple (ns.map PyData.int))) = some (.sh (.bool (decide (i ∈ ns)))) := by
  simp only [fIn, fInF, T.seqs, T.lits, T.tups, Option.or, flatD, all_flat_int, Bool.and_self, if_true, Bool.false_eq_true, if_false, any_int]
theorem x_ninT : fNin (.sh (.int i)) (.sh (.tuple (ns.map PyData.int))) = some (.sh (.bool (!decide (i ∈ ns)))) := by
  simp only [fNin, fInF, T.seqs, T.lits, T.tups, Option.or, flatD, all_flat_int, Bool.and_self, if_true, Bool.false_eq_true, if_false, any_int]
theorem x_tupL : fTuple [.sh (.list ds)] = some (.sh (.tuple ds)) := rfl
theorem x_tupO : fTuple [.ol ds] = some (.sh (.tuple ds)) := rfl
theorem x_tupT : fTuple [.sh (.tuple ds)] = some (.sh (.tuple ds)) := rfl
theorem x_abs : fAbs [.sh (.int i)] = some (.sh (.int (i.natAbs : Nat))) := by
  show some (T.sh (PyData.int (if i < 0 then -i else i))) = _
  congr 3
  split <;> omega
theorem x_neg : fNeg (.sh (.int i)) = some (.sh (.int (-i))) := rfl
theorem rep_one (d : D) : ∀ k : Nat, (List.replicate k [d]).flatten = List.replicate k d
  | 0 => rfl
  | k + 1 => by rw [List.replicate_succ, List.flatten_cons, rep_one d k, List.replicate_succ]; rfl
theorem x_rep1 {d : D} (h0 : 0 ≤ i) (h1 : i ≤ 16777216) : fMul (.sh (.list [d])) (.sh (.int i)) = some (.ol (List.replicate i.toNat d)) := by
  have hs : -(2 ^ 63) ≤ i ∧ i < 2 ^ 63 ∧ [d].length * i.toNat ≤ sizeLine := by
    rw [sizeLine_eq]
    refine ⟨by omega, by omega, ?_⟩
    show 1 * i.toNat ≤ _
    omega
  have e : f2I (fun i j => if cMul i j then some (.int (i * j)) else none) (.sh (.list [d])) (.sh (.int i)) = none := rfl
  simp only [fMul, e, Option.or, fRep, T.lits, hs, and_self, if_true, rep_one]
theorem x_index (h : i ∈ ns) : fIdx (.sh (.tuple (ns.map PyData.int))) (.sh (.int i)) = some (.sh (.int (PSh.idx ns i))) := by
  have e : firstAt (ns.map PyData.int) (.int i) = some (ns.findIdx fun y => decide (y = i)) := by
    unfold firstAt
    rw [List.findIdx?_map]
    have : ((fun z => eqD z (.int i)) ∘ PyData.int) = fun y => decide (y = i) := by
      funext y
      show PyData.eqv (.int y) (.int i) = decide (y = i)
      simp only [PyData.eqv]; rfl
    rw [this, List.findIdx?_eq_some_of_exists ⟨i, h, by simp⟩]
  simp only [fIdx, T.seqs, T.lits, T.tups, Option.or, Option.bind_some, flatD, all_flat_int, Bool.and_self, if_true, e, Option.map_some]
  rfl
theorem okRgN {j : Int} (h0 : 0 ≤ j) (h1 : j ≤ 60000) : okRg (0, j) = true := by
  unfold okRg
  refine decide_eq_true ⟨?_, ?_, ?_, ?_, ?_⟩
  · show -(2 ^ 62) ≤ (0 : Int); decide
  · show (0 : Int) < 2 ^ 62; decide
  · show -(2 ^ 62) ≤ j; omega
  · show j < 2 ^ 62; omega
  · show (j - 0).toNat ≤ 2 ^ 24; omega
theorem x_trg {er : En → Rs (Int × Int)} {ρ : En} {j : Int} (h : er ρ = .ok (0, j)) (h0 : 0 ≤ j) (h1 : j ≤ 60000) : evTRg er ρ = .ok (.sh (.tuple ((rngI 0 j).map PyData.int))) := by
  simp only [evTRg, h, x_bind, okRgN h0 h1, if_true, rngD_I]
theorem x_lrg {er : En → Rs (Int × Int)} {ρ : En} {j : Int} (h : er ρ = .ok (0, j)) (h0 : 0 ≤ j) (h1 : j ≤ 60000) : evLRg er ρ = .ok (.ol ((rngI 0 j).map PyData.int)) := by
  simp only [evLRg, h, x_bind, okRgN h0 h1, if_true, rngD_I]
end
/-! a dict of ints that are all True: a set -/
def tt (k : Int) : D × D := (.int k, .bool true)
theorem keys_tt : ∀ ks : List Int, keysK (ks.map tt) = true
  | [] => rfl
  | k :: ks => by
    show ((kOf (PyData.int k)).isSome && keysK (ks.map tt)) = true
    rw [keys_tt ks]; rfl
theorem kOf_int {k j : Int} : (kOf (.int k) = some (.inl j)) ↔ k = j := by simp [kOf]
theorem val_tt (k : Int) : ∀ ks : List Int, valD (ks.map tt) (.inl k) = if k ∈ ks then some (.bool true) else none
  | [] => rfl
  | j :: ks => by
    show (if kOf (PyData.int j) = some (.inl k) then some (PyData.bool true) else valD (ks.map tt) (.inl k)) = _
    rw [val_tt k ks]
    by_cases h : j = k
    · subst h; simp [kOf]
    · have h2 : ¬ k = j := fun e => h e.symm
      simp [kOf, h, h2]
theorem x_din {k : Int} {ks : List Int} : fDIn false (.sh (.int k)) (.od (ks.map tt)) = some (.sh (.bool (decide (k ∈ ks)))) := by
  simp only [fDIn, T.dk, Option.bind_some, kOf, keys_tt, if_true, val_tt]
  by_cases h : k ∈ ks <;> simp [h]
theorem x_dnin {k : Int} {ks : List Int} : fDIn true (.sh (.int k)) (.od (ks.map tt)) = some (.sh (.bool (!decide (k ∈ ks)))) := by
  simp only [fDIn, T.dk, Option.bind_some, kOf, keys_tt, if_true, val_tt]
  by_cases h : k ∈ ks <;> simp [h]
def addI (ks : List Int) (k : Int) : List Int := if k ∈ ks then ks else ks ++ [k]
theorem addI_mem {ks : List Int} {k x : Int} : x ∈ addI ks k ↔ x ∈ ks ∨ x = k := by
  unfold addI
  by_cases h : k ∈ ks
  · rw [if_pos h]
    constructor
    · exact fun z => .inl z
    · rintro (z | rfl)
      · exact z
      · exact h
  · rw [if_neg h]; simp
theorem addI_len {ks : List Int} {k : Int} : (addI ks k).length ≤ ks.length + 1 := by
  unfold addI
  split
  · omega
  · simp
theorem put_tt {k : Int} {ks : List Int} (h : ks.length < 16777216) : putDT (.od (ks.map tt)) (.inl k) (.bool true) = some (.od ((addI ks k).map tt)) := by
  have hs : keysK (ks.map tt) = true ∧ (ks.map tt).length < sizeLine := ⟨keys_tt ks, by rw [List.length_map, sizeLine_eq]; exact h⟩
  have e : putD (ks.map tt) (.inl k) (.bool true) = (addI ks k).map tt := by
    unfold putD addI
    have e1 : ((ks.map tt).any fun p => decide (kOf p.1 = some (.inl k))) = decide (k ∈ ks) := by
      rw [Bool.eq_iff_iff, List.any_eq_true, decide_eq_true_eq]
      constructor
      · rintro ⟨p, hp, hk⟩
        obtain ⟨j, hj, rfl⟩ := List.mem_map.mp hp
        have := kOf_int.mp (of_decide_eq_true hk)
        exact this ▸ hj
      · intro hk
        exact ⟨tt k, List.mem_map.mpr ⟨k, hk, rfl⟩, by simp [tt, kOf]⟩
    rw [e1]
    by_cases hk : k ∈ ks
    · rw [if_pos (decide_eq_true hk), if_pos hk, List.map_map]
      refine List.map_congr_left fun j _ => ?_
      show (if kOf (tt j).1 = some (.inl k) then ((tt j).1, PyData.bool true) else tt j) = tt j
      split <;> rfl
    · rw [if_neg (by simp [hk]), if_neg hk, List.map_append]; rfl
  simp only [putDT, hs, and_self, if_true, e]
section
variable {N N' : En → Prop} {R R' : T → Prop} {B B' C C' : En → Prop} {o : Out} {ρ : En} {a b : En → Out} {ev : En → Rs T}
theorem p_outO {α : Type} {o : Option α} {k : α → Out} {x : α} (e : o = some x) (h : (k x).P N R B C) : (outO o k).P N R B C := ⟨q_outO e h.h⟩
theorem p_rsK {α : Type} {r : Rs α} {k : α → Out} (h : r.P fun x => (k x).P N R B C) : (rsK r ρ k).P N R B C := ⟨q_rsK (h.h.imp fun _ z => z.h)⟩
theorem p_dput {i : Nat} {ek : En → Rs T} {c : T} (e : ρ.get i = some c) (h : (ev ρ).P fun t => ∃ d, t.asD = some d ∧ (ek ρ).P fun k => ∃ j c', k.asK = some j ∧ putDT c j d = some c' ∧ N (ρ.put i (some c'))) : (sDPutS i ek ev ρ).P N R B C :=
  p_outO e (p_rsK (h.imp fun t ⟨d, e1, h1⟩ => p_outO e1 (p_rsK (h1.imp fun k ⟨j, c', e2, e3, h2⟩ => p_outO e2 (p_outO e3 ⟨h2⟩)))))
theorem p_appPop {i j : Nat} {c d : T} (e : ρ.get i = some c) (hc : c.isL = true) (e2 : ρ.get j = some d) (hd : d.isL = true)
    (h : (ev ρ).P fun t => ∃ k p c', t.asI = some k ∧ popT d k = some p ∧ appT c (.sh p.1) = some c' ∧ N ((ρ.put j (some p.2)).put i (some c'))) : (sAppPop i j ev ρ).P N R B C := by
  refine p_outO e ?_
  rw [hc]
  refine p_outO e2 ?_
  rw [hd]
  exact p_rsK (h.imp fun t ⟨k, p, c', h1, h2, h3, h4⟩ => p_outO h1 (p_outO h2 (p_outO h3 ⟨h4⟩)))
theorem p_appAt {i : Nat} {ks : List Int} {d : D} {c c' : T} (e : ρ.get i = some c) (h : c.appAt ks d = some c') (hn : N (ρ.put i (some c'))) : (sAppAt i ks d ρ).P N R B C := p_outO e (p_outO h ⟨hn⟩)
theorem p_appAtV {i : Nat} {ks : List Int} {c c' : T} {d : D} (e : ρ.get i = some c) (hv : evSh ev ρ = .ok (.sh d)) (h : c.appAt ks d = some c') (hn : N (ρ.put i (some c'))) : (sAppAtV i ks ev ρ).P N R B C :=
  p_outO e (p_outO (x := c') (by rw [hv]; exact h) ⟨hn⟩)
theorem p_appFor {i j : Nat} {eg : D → En → Option En} {c c' : T} {ds : List D} (e : ρ.get i = some c) (e2 : ρ.get j = some (.ol ds)) (e3 : appT c (.ol ds) = some c') (J : List D → En → Prop) (h0 : J ds ((ρ.clr [j]).put i none))
    (h1 : ∀ d r ρ, J (d :: r) ρ → ∃ ρ1, eg d ρ = some ρ1 ∧ (b ρ1).P (J r) (fun _ => False) (fun _ => False) (J r)) (h2 : ∀ ρ, J [] ρ → N (ρ.put i (some c'))) : (sAppFor i j eg b ρ).P N R B C := by
  refine p_outO e (p_outO (x := ds) (by rw [e2]; rfl) (p_outO e3 ?_))
  have key : (forL eg b ds ((ρ.clr [j]).put i none)).P0 (fun ρ => N (ρ.put i (some c'))) (fun _ => False) (fun _ => False) (fun _ => False) := by
    refine q_forL (N := fun ρ => N (ρ.put i (some c'))) J h0 (fun d r ρ hj => ?_) h2
    obtain ⟨ρ1, k1, k2⟩ := h1 d r ρ hj
    exact ⟨ρ1, k1, k2.h.imp (fun _ z => z) (fun _ z => z) (fun _ z => False.elim z) fun _ z => z⟩
  cases hf : forL eg b ds ((ρ.clr [j]).put i none) with
  | nx ρ' => rw [hf] at key; exact ⟨key⟩
  | bad => rw [hf] at key; exact False.elim key
  | bk _ => rw [hf] at key; exact False.elim key
  | ct _ => rw [hf] at key; exact False.elim key
  | rt _ => rw [hf] at key; exact False.elim key
  | ex _ _ => rw [hf] at key; exact False.elim key
/-! exceptions -/
structure Out.E (o : Out) (c : Str) (X : En → Prop) : Prop where
  h : ∃ ρ, o = .ex c ρ ∧ X ρ
variable {X : En → Prop}
theorem e_raise {c : Str} (hx : X ρ) : (sRaise c ρ).E c X := ⟨ρ, rfl, hx⟩
theorem e_share {i : Nat} {c : Str} (h : (a (ρ.share i)).E c X) : (sShare i a ρ).E c X := h
theorem e_seqL {c : Str} (h : (a ρ).E c X) : (sSeq a b ρ).E c X := by
  obtain ⟨ρ', e, hx⟩ := h.h
  refine ⟨ρ', ?_, hx⟩
  show seqO (a ρ) b = _
  rw [e]; rfl
theorem e_seqR {c : Str} (h : (a ρ).P (fun ρ' => (b ρ').E c X) (fun _ => False) (fun _ => False) fun _ => False) : (sSeq a b ρ).E c X := by
  have h := h.h
  show (seqO (a ρ) b).E c X
  cases e : a ρ with
  | nx ρ' => rw [e] at h; exact h
  | bad => rw [e] at h; exact False.elim h
  | bk _ => rw [e] at h; exact False.elim h
  | ct _ => rw [e] at h; exact False.elim h
  | rt _ => rw [e] at h; exact False.elim h
  | ex _ _ => rw [e] at h; exact False.elim h
theorem e_ifT {c : En → Rs Bool} {x : Str} (hc : c ρ = .ok true) (h : (a ρ).E x X) : (sIf c a b ρ).E x X := by
  show (rsK (c ρ) ρ _).E x X
  rw [hc]; exact h
theorem e_ifF {c : En → Rs Bool} {x : Str} (hc : c ρ = .ok false) (h : (b ρ).E x X) : (sIf c a b ρ).E x X := by
  show (rsK (c ρ) ρ _).E x X
  rw [hc]; exact h
theorem e_rsK {α : Type} {r : Rs α} {k : α → Out} {c : Str} (h : r = .ex c) (hx : X ρ) : (rsK r ρ k).E c X := ⟨ρ, by rw [h]; rfl, hx⟩
theorem e_if {c : En → Rs Bool} {x : Str} (hc : c ρ = .ex x) (hx : X ρ) : (sIf c a b ρ).E x X := e_rsK hc hx
theorem e_ret {c : Str} (h : ev ρ = .ex c) (hx : X ρ) : (sRet ev ρ).E c X := e_rsK h hx
theorem e_drop {c : Str} (h : ev ρ = .ex c) (hx : X ρ) : (sDrop ev ρ).E c X := e_rsK h hx
theorem e_set {c : Str} {i : Nat} {mv : List Nat} (h : ev ρ = .ex c) (hx : X ρ) : (sSet i mv ev ρ).E c X := e_rsK h hx
theorem fn_ex {n m : Nat} {b : En → Out} {ts : List T} {c : Str} (hn : ts.length = n) (h : (b (en0 m ts)).E c fun _ => True) : fnD n m b ts = .ex c := by
  obtain ⟨ρ', e, _⟩ := h.h
  unfold fnD
  rw [if_pos hn, e]; rfl
theorem p_tryN {ks : List Cl} (h : (b ρ).P N R B C) : (sTry b ks ρ).P N R B C := by
  have h := h.h
  refine ⟨?_⟩
  show (match b ρ with
    | .ex c ρ' => hdl ks c ρ'
    | o => o).P0 N R B C
  cases e : b ρ with
  | ex _ _ => rw [e] at h; exact False.elim h
  | bad => rw [e] at h; exact False.elim h
  | nx _ => rw [e] at h; exact h
  | bk _ => rw [e] at h; exact h
  | ct _ => rw [e] at h; exact h
  | rt _ => rw [e] at h; exact h
theorem p_tryX {ks : List Cl} {c : Str} (h : (b ρ).E c X) (hk : ∀ ρ', X ρ' → (hdl ks c ρ').P N R B C) : (sTry b ks ρ).P N R B C := by
  obtain ⟨ρ', e, hx⟩ := h.h
  refine ⟨?_⟩
  show (match b ρ with
    | .ex c ρ' => hdl ks c ρ'
    | o => o).P0 N R B C
  rw [e]
  exact (hk ρ' hx).h
end
section
variable {ρ : En} {ea eb : En → Rs T} {k l : Bool} {d : D} {ds : List D}
theorem evAndV_ok (ha : ea ρ = .ok (.sh (.bool k))) (hb : k = true → eb ρ = .ok (.sh (.bool l))) : evAndV ea eb ρ = .ok (.sh (.bool (k && l))) := by
  simp only [evAndV, ha, x_bind, x_asB, x_rs]
  cases k with
  | true => simp only [hb rfl, cond_true, Bool.true_and]
  | false => rfl
theorem evOrV_ok (ha : ea ρ = .ok (.sh (.bool k))) (hb : k = false → eb ρ = .ok (.sh (.bool l))) : evOrV ea eb ρ = .ok (.sh (.bool (k || l))) := by
  simp only [evOrV, ha, x_bind, x_asB, x_rs]
  cases k with
  | true => rfl
  | false => simp only [hb rfl, cond_false, Bool.false_or]
theorem evSh_sh (ha : ea ρ = .ok (.sh d)) : evSh ea ρ = .ok (.sh d) := by
  simp only [evSh, ha, x_bind, T.noScr, T.er, if_true]
theorem evSh_ol' (ha : ea ρ = .ok (.ol ds)) : evSh ea ρ = .ok (.sh (.list ds)) := by
  simp only [evSh, ha, x_bind, T.noScr, T.er, if_true]
theorem rg1_ok {j : Int} (ha : ea ρ = .ok (.sh (.int j))) : erg1 ea ρ = .ok (0, j) := by simp only [erg1, ha, x_bind, x_asI, x_rs]
end
theorem x_olapp {ts : List D} {ds : List D} (h : ts.length < 16777216) : appT (.ol ts) (.ol ds) = some (.ot (ts.map T.sh ++ [.ol ds])) := by
  have e : ts.length < sizeLine := by rw [sizeLine_eq]; exact h
  simp only [appT, e, if_true]
end PL
set_option Elab.async false
set_option linter.all false
set_option maxRecDepth 100000
set_option maxHeartbeats 0
/-! PL47: readings of dicts whose keys are texts; a loop that ends by an exception. -/
namespace PL
open PySem
def kv (p : Str × D) : D × D := (.str p.1, p.2)
theorem keys_kv : ∀ l : List (Str × D), keysK (l.map kv) = true
  | [] => rfl
  | k :: ks => by
    show ((kOf (PyData.str k.1)).isSome && keysK (ks.map kv)) = true
    rw [keys_kv ks]; rfl
theorem val_kv (k : Str) : ∀ l : List (Str × D), valD (l.map kv) (.inr k) = (l.find? fun p => decide (p.1 = k)).map (·.2)
  | [] => rfl
  | p :: ks => by
    show (if kOf (PyData.str p.1) = some (.inr k) then some p.2 else valD (ks.map kv) (.inr k)) = _
    rw [val_kv k ks, List.find?_cons]
    by_cases h : p.1 = k
    · simp [kOf, h]
    · simp [kOf, h]
theorem find_isSome {k : Str} {l : List (Str × D)} : ((l.find? fun p => decide (p.1 = k)).map (·.2)).isSome = decide (k ∈ l.map (·.1)) := by
  rw [Option.isSome_map, Bool.eq_iff_iff, List.find?_isSome]
  simp only [decide_eq_true_eq, List.mem_map]
theorem x_dinK {k : Str} {l : List (Str × D)} : fDIn false (.sh (.str k)) (.od (l.map kv)) = some (.sh (.bool (decide (k ∈ l.map (·.1))))) := by
  have h := find_isSome (k := k) (l := l)
  simp only [fDIn, T.dk, Option.bind_some, kOf, keys_kv, if_true, val_kv, h, Bool.false_eq_true, if_false]
theorem x_dinKS {k : Str} {l : List (Str × D)} : fDIn false (.sh (.str k)) (.sh (.dict (l.map kv))) = some (.sh (.bool (decide (k ∈ l.map (·.1))))) := by
  have h := find_isSome (k := k) (l := l)
  simp only [fDIn, T.dk, Option.bind_some, kOf, keys_kv, if_true, val_kv, h, Bool.false_eq_true, if_false]
theorem x_dninKS {k : Str} {l : List (Str × D)} : fDIn true (.sh (.str k)) (.sh (.dict (l.map kv))) = some (.sh (.bool (!decide (k ∈ l.map (·.1))))) := by
  have h := find_isSome (k := k) (l := l)
  simp only [fDIn, T.dk, Option.bind_some, kOf, keys_kv, if_true, val_kv, h]
theorem x_dgetKS {k : Str} {l : List (Str × D)} {p : Str × D} (h : (l.find? fun p => decide (p.1 = k)) = some p) : fDGet (.sh (.dict (l.map kv))) (.sh (.str k)) = some (.sh p.2) := by
  simp only [fDGet, T.dk, Option.bind_some, kOf, keys_kv, if_true, val_kv, h, Option.map_some]
theorem putD_kv {k : Str} {d : D} {l : List (Str × D)} (h : k ∉ l.map (·.1)) : putD (l.map kv) (.inr k) d = (l ++ [(k, d)]).map kv := by
  have e : ((l.map kv).any fun p => decide (kOf p.1 = some (.inr k))) = false := by
    rw [List.any_map, List.any_eq_false]
    intro p hp
    have hne : p.1 ≠ k := fun z => h (List.mem_map.mpr ⟨p, hp, z⟩)
    simp [kv, kOf, hne]
  unfold putD
  rw [e, if_neg (by decide), List.map_append]; rfl
theorem put_kv {k : Str} {d : D} {l : List (Str × D)} (h : k ∉ l.map (·.1)) (hl : l.length < 16777216) : putDT (.od (l.map kv)) (.inr k) d = some (.od ((l ++ [(k, d)]).map kv)) := by
  have hs : (l.map kv).length < sizeLine := by rw [List.length_map, sizeLine_eq]; exact hl
  simp only [putDT, keys_kv, hs, and_self, if_true, putD_kv h]
/-! texts in lists of texts -/
theorem strs_flat (ks : List Str) : (ks.map PyData.str).all flatD = true := by
  rw [List.all_map]; exact List.all_eq_true.mpr fun _ _ => rfl
theorem strs_any (k : Str) (ks : List Str) : ((ks.map PyData.str).any fun z => eqD z (.str k)) = decide (k ∈ ks) := by
  have e : ∀ x : Str, eqD (.str x) (.str k) = decide (x = k) := fun x => by
    haveI : Decidable (PyData.str x = PyData.str k) := decidable_of_iff (x = k) (by simp)
    rw [eqD_eq (a := .str x) (b := .str k) rfl rfl]
    exact decide_eq_decide.mpr (by simp)
  rw [List.any_map, Bool.eq_iff_iff, List.any_eq_true, decide_eq_true_eq]
  constructor
  · rintro ⟨x, hx, h⟩
    have h : eqD (.str x) (.str k) = true := h
    rw [e, decide_eq_true_eq] at h
    exact h ▸ hx
  · intro h
    exact ⟨k, h, by show eqD _ _ = true; rw [e]; exact decide_eq_true rfl⟩
theorem x_inStrL {k : Str} {ks : List Str} : fIn (.sh (.str k)) (.sh (.list (ks.map PyData.str))) = some (.sh (.bool (decide (k ∈ ks)))) := by
  simp only [fIn, fInF, T.seqs, T.lits, T.tups, Option.or, flatD, strs_flat, strs_any, Bool.and_self, Bool.and_true, if_true, Bool.false_eq_true, if_false]
theorem x_inStrO {k : Str} {ks : List Str} : fIn (.sh (.str k)) (.ol (ks.map PyData.str)) = some (.sh (.bool (decide (k ∈ ks)))) := by
  simp only [fIn, fInF, T.seqs, T.lits, T.tups, Option.or, flatD, strs_flat, strs_any, Bool.and_self, Bool.and_true, if_true, Bool.false_eq_true, if_false]
theorem x_ninStrL {k : Str} {ks : List Str} : fNin (.sh (.str k)) (.sh (.list (ks.map PyData.str))) = some (.sh (.bool (!decide (k ∈ ks)))) := by
  simp only [fNin, fInF, T.seqs, T.lits, T.tups, Option.or, flatD, strs_flat, strs_any, Bool.and_self, Bool.and_true, if_true]
theorem snocS (ns : List Str) (i : Str) : ns.map PyData.str ++ [PyData.str i] = (ns ++ [i]).map PyData.str := by simp
/-! loops that end by an exception -/
section
variable {α : Type} {X : En → Prop} {ρ : En} {ei : En → Rs (List D)} {g : D → En → Option En} {b : En → Out} {l : List α} {f : α → D} {c : Str}
theorem e_forL (J : List α → En → Prop) (h1 : ∀ a r ρ, J (a :: r) ρ → ∃ ρ1, g (f a) ρ = some ρ1 ∧ ((b ρ1).P (J r) (fun _ => False) (fun _ => False) (J r) ∨ (b ρ1).E c X)) (h2 : ∀ ρ, ¬ J [] ρ) :
    ∀ (l : List α) (ρ : En), J l ρ → (forL g b (l.map f) ρ).E c X
  | [], ρ, h => absurd h (h2 ρ)
  | a :: r, ρ, h => by
    obtain ⟨ρ1, e1, hb⟩ := h1 a r ρ h
    have eq : forL g b ((a :: r).map f) ρ = match b ρ1 with
      | .nx ρ' => forL g b (r.map f) ρ'
      | .ct ρ' => forL g b (r.map f) ρ'
      | .bk ρ' => .nx ρ'
      | o => o := by
      rw [List.map_cons]
      show (match g (f a) ρ with
        | none => Out.bad
        | some ρ1 => _) = _
      rw [e1] <;> rfl
    rw [eq]
    rcases hb with hb | hb
    · have hb := hb.h
      cases e : b ρ1 with
      | nx ρ' => rw [e] at hb; exact e_forL J h1 h2 r ρ' hb
      | ct ρ' => rw [e] at hb; exact e_forL J h1 h2 r ρ' hb
      | bad => rw [e] at hb; exact False.elim hb
      | bk _ => rw [e] at hb; exact False.elim hb
      | rt _ => rw [e] at hb; exact False.elim hb
      | ex _ _ => rw [e] at hb; exact False.elim hb
    · obtain ⟨ρ', e, hx⟩ := hb.h
      rw [e]; exact ⟨ρ', rfl, hx⟩
theorem e_forM (hi : ei ρ = .ok (l.map f)) (J : List α → En → Prop) (h0 : J l ρ) (h1 : ∀ a r ρ, J (a :: r) ρ → ∃ ρ1, g (f a) ρ = some ρ1 ∧ ((b ρ1).P (J r) (fun _ => False) (fun _ => False) (J r) ∨ (b ρ1).E c X)) (h2 : ∀ ρ, ¬ J [] ρ) : (sFor ei g b ρ).E c X := by
  show (rsK (ei ρ) ρ _).E c X
  rw [hi]
  exact e_forL J h1 h2 l ρ h0
end
end PL
set_option Elab.async false
set_option linter.all false
set_option maxRecDepth 100000
set_option maxHeartbeats 0
/-! PL48: readings of literals, texts, dict comprehensions, range with a step; values of which only a property is known. -/
namespace PL
open PySem
theorem evLst_ok {er : En → Rs (List T)} {ρ : En} {ts : List T} (h : er ρ = .ok ts) (hl : ts.length ≤ 4096) : evLst er ρ = .ok (mkL ts) := by simp only [evLst, h, x_bind, hl, if_true]
theorem evLst_sh {er : En → Rs (List T)} {ρ : En} {ts : List T} (h : er ρ = .ok ts) (hl : ts.length ≤ 4096) (hn : T.noScrs ts = true) : evSh (evLst er) ρ = .ok (.sh (.list (T.ers ts))) := by
  obtain ⟨h1, h2, _⟩ := mkL_er hn
  have e : evLst er ρ = .ok (mkL ts) := by simp only [evLst, h, x_bind, hl, if_true]
  rw [evSh_of e h1, h2]
theorem x_catT {a b : List D} (h : a.length + b.length ≤ 16777216) : fAdd (.sh (.tuple a)) (.sh (.tuple b)) = some (.sh (.tuple (a ++ b))) := by
  have e : a.length + b.length ≤ sizeLine := by rw [sizeLine_eq]; exact h
  simp only [fAdd, f2I, fStrAdd, fCat, fCatT, T.lits, T.tups, e, if_true, Option.or]
theorem cutD_le (ds : List D) (lo hi : Option Int) : (cutD ds lo hi).length ≤ ds.length := by
  unfold cutD
  rw [List.length_take, List.length_drop]; omega
/-- a tuple of at most n items -/
def TE0 (ev : En → Rs T) (ρ : En) (n : Nat) : Prop := ∃ ds, ev ρ = .ok (.sh (.tuple ds)) ∧ ds.length ≤ n
section
variable {ea eb : En → Rs T} {el eh : En → Rs (Option Int)} {ρ : En} {n m : Nat}
theorem te_of {ds : List D} (h : ea ρ = .ok (.sh (.tuple ds))) (hl : ds.length ≤ n) : TE0 ea ρ n := ⟨ds, h, hl⟩
theorem te_sh (h : TE0 ea ρ n) : TE0 (evSh ea) ρ n := by
  obtain ⟨ds, e, hl⟩ := h
  exact ⟨ds, evSh_sh e, hl⟩
theorem te_sl {l u : Option Int} (h : TE0 ea ρ n) (hl : el ρ = .ok l) (hu : eh ρ = .ok u) : TE0 (evSl fSl ea el eh) ρ n := by
  obtain ⟨ds, e, hd⟩ := h
  refine ⟨cutD ds l u, ?_, Nat.le_trans (cutD_le _ _ _) hd⟩
  simp only [evSl, e, hl, hu, x_bind, x_slT, x_rs]
theorem te_add (ha : TE0 ea ρ n) (hb : TE0 eb ρ m) (h : n + m ≤ 16777216) : TE0 (evBin fAdd ea eb) ρ (n + m) := by
  obtain ⟨a, e1, h1⟩ := ha
  obtain ⟨b, e2, h2⟩ := hb
  exact ⟨a ++ b, evBin_ok e1 e2 (x_catT (by omega)), by rw [List.length_append]; omega⟩
end
theorem evVar_ok {i : Nat} {ρ : En} {t : T} (h : ρ.get i = some t) : evVar i ρ = .ok t := by simp only [evVar, h, x_rs]
theorem evEsc_sh {ev : En → Rs T} {ρ : En} {d : D} (h : ev ρ = .ok (.sh d)) : evEsc ev ρ = .ok (.sh d) := by simp only [evEsc, h, x_bind]
theorem evEsc_var {i : Nat} {ρ : En} {d : D} (h : ρ.get i = some (.sh d)) : evEsc (evVar i) ρ = .ok (.sh d) := evEsc_sh (evVar_ok h)
theorem evSh_var {i : Nat} {ρ : En} {d : D} (h : ρ.get i = some (.sh d)) : evSh (evVar i) ρ = .ok (.sh d) := evSh_sh (evVar_ok h)
/-- list literals whose items are all shared -/
theorem evLst3 {ea eb ec : En → Rs T} {ρ : En} {a b c : D} (ha : ea ρ = .ok (.sh a)) (hb : eb ρ = .ok (.sh b)) (hc : ec ρ = .ok (.sh c)) : evSh (evLst (evCons ea (evCons eb (evCons ec evNil)))) ρ = .ok (.sh (.list [a, b, c])) :=
  evLst_sh (evCons_ok ha (evCons_ok hb (evCons_ok hc (show evNil ρ = .ok [] from rfl)))) (by simp) rfl
theorem not_if {e : En → Rs T} {ρ : En} (h : e ρ = .ok (.sh (.bool true))) : evNot (evTru (evSh e)) ρ = .ok false := evNot_ok (evTru_b (evSh_sh h))
def inS (a b : Str) : Bool := !(Builtin.Str.occurrences b a 0 b.length 1).isEmpty
theorem x_inS {a b : Str} : fIn (.sh (.str a)) (.sh (.str b)) = some (.sh (.bool (inS a b))) := rfl
theorem x_ninS {a b : Str} : fNin (.sh (.str a)) (.sh (.str b)) = some (.sh (.bool (!inS a b))) := rfl
theorem x_lenStr {s : Str} (h : s.length ≤ 60000) : fLen [.sh (.str s)] = some (.sh (.int (s.length : Nat))) := by
  have z : s.length ≤ sizeLine := by rw [sizeLine_eq]; omega
  simp only [fLen, f1, T.len, z, if_true, Option.map_some]
theorem evCall_1x {F : List T → Rs T} {ea : En → Rs T} {ρ : En} {a : D} {c : Str} (ha : ea ρ = .ok (.sh a)) (h : F [.sh a] = .ex c) : evCall 1 F (evCons ea evNil) ρ = .ex c := by
  simp only [evCall, evCons, evNil, ha, x_bind]; exact h
theorem evCall_2x {F : List T → Rs T} {ea eb : En → Rs T} {ρ : En} {a b : D} {c : Str} (ha : ea ρ = .ok (.sh a)) (hb : eb ρ = .ok (.sh b)) (h : F [.sh a, .sh b] = .ex c) : evCall 2 F (evCons ea (evCons eb evNil)) ρ = .ex c := by
  simp only [evCall, evCons, evNil, ha, hb, x_bind]; exact h
theorem small3 {j : Int} (h0 : 0 ≤ j) (h1 : j ≤ 60000) : Builtin.Range.small 0 j 2 = true := by
  unfold Builtin.Range.small Builtin.Range.rangeSize
  simp only [Builtin.Range.rangeFitsLong, Bool.and_eq_true, Bool.or_eq_true, decide_eq_true_eq, beq_iff_eq, show ((2 : Int) > 0) by decide, if_true]
  split <;> omega
theorem x_rng3 {er : En → Rs (List T)} {ρ : En} {j : Int} (h : er ρ = .ok [.sh (.int 0), .sh (.int j), .sh (.int 2)]) (h0 : 0 < j) (h1 : j ≤ 60000) : eiRng3 er ρ = .ok (((List.range ((j + 1) / 2).toNat).map fun (k : Nat) => (k : Int) * 2).map PyData.int) := by
  have e : Builtin.Range.rangeSize 0 j 2 = (j + 1) / 2 := by
    unfold Builtin.Range.rangeSize
    rw [if_pos (by decide), if_pos h0]; omega
  simp only [eiRng3, h, x_bind]
  rw [if_pos ⟨by decide, by decide, small3 (by omega) h1⟩]
  unfold rng3D
  rw [e, List.map_map]
  refine congrArg Rs.ok (List.map_congr_left fun k _ => ?_)
  show PyData.int (0 + (k : Int) * 2) = PyData.int ((k : Int) * 2)
  rw [Int.zero_add]
theorem evTup_sh2 {ea eb : En → Rs T} {ρ : En} {a b : D} (ha : ea ρ = .ok (.sh a)) (hb : eb ρ = .ok (.sh b)) : evTup (evCons ea (evCons eb evNil)) ρ = .ok (.sh (.tuple [a, b])) := by
  simp only [evVar, En.get, evC, evBin, evSh, evEsc, evB, evEB, evChain, evAnd, evOr, evNot, evAndV, evOrV, evNotV, evIf, evCons, evNil, evLst, evTup, evCall, callF, evSl, eoN, eoS, evUn, evC1, evIsi, evTru, erg1, erg2, evLRg, evTRg, eiSeq, eiEnum, eiZip, x_bind, x_rs, x_asB, x_asI, x_bifB, x_bifO, x_andB, x_orB, x_bifI, List.length_map, en0, List.replicate, List.cons_append, List.nil_append, T.asD, T.items, T.itL, T.itT, T.er, T.ers, T.noScr, T.noScrs, T.shs, mkL, mkT, T.isSh, T.argOk, T.toArg, T.solid, flatD, T.isL, T.parts, putAll, T.tru, T.ty, T.isRg, tyD, En.put, En.clr, En.share, egName, egTup, egCons, egNil, Option.map_some, Option.map_none, Option.bind_some, Option.bind, List.all_cons, List.all_nil, List.map_cons, List.map_nil, List.length_cons, List.length_nil, Bool.and_true, Bool.true_and, Bool.and_self, Bool.not_true, Bool.not_false, if_true, cond_true, cond_false, Bool.false_eq_true, if_false, true_and, and_true, Rs.P_ok, Bool.and_false, Bool.false_and, Bool.false_or, Bool.or_false, Bool.true_or, Bool.or_true, Nat.reduceAdd, Nat.reduceLeDiff, Nat.reduceEqDiff, reduceCtorEq, x_ltF, x_ltS, x_ltT2, x_anyL, x_anyO, x_allL, x_allO, x_isB, x_notB, x_add, x_iadd, x_sub, x_lt, x_le, x_gt, x_ge, x_eq, x_ne, x_eqB, x_neB, x_eqS, x_neS, x_max2, x_min2, x_int1, x_intB, x_lenL, x_lenT, x_lenO, x_lenS, x_sumL, x_sumO, x_sortL, x_sortO, x_listL, x_listT, x_listO, x_isN, x_isNn, x_isNi, x_isNl, x_isNt, x_isNb, x_notN, x_ixL, x_ixT, x_ixO, x_ixS, x_ix0, x_ix1, x_ix2, x_sl, x_slO, x_slT, x_inL, x_inO, x_ninL, x_ninO, ha, hb]
theorem dcompL_kv {α : Type} {f : α → D} {g : D → En → Option En} {ek ev : En → Rs T} {ρ : En} {k : α → Str} {v : α → D} : ∀ (l : List α) (acc : List (Str × D)), (∀ a ∈ l, ∃ ρ1, g (f a) ρ = some ρ1 ∧ ek ρ1 = .ok (.sh (.str (k a))) ∧ ev ρ1 = .ok (.sh (v a))) → (acc.map (·.1) ++ l.map k).Nodup → acc.length + l.length ≤ 60000 →
    dcompL g evYes ek ev ρ (acc.map kv) (l.map f) = some ((acc ++ l.map fun a => (k a, v a)).map kv)
  | [], acc, _, _, _ => by rw [List.map_nil, List.map_nil, List.append_nil]; rfl
  | a :: l, acc, H, hn, hl => by
    obtain ⟨ρ1, e1, e2, e3⟩ := H a List.mem_cons_self
    rw [List.length_cons] at hl
    have hs : (acc.map kv).length < sizeLine := by rw [List.length_map, sizeLine_eq]; omega
    have hnk : k a ∉ acc.map (·.1) := fun z => by
      rw [List.map_cons] at hn
      exact (List.nodup_append.mp hn).2.2 _ z _ List.mem_cons_self rfl
    have ih := dcompL_kv (f := f) (g := g) (ek := ek) (ev := ev) (ρ := ρ) (k := k) (v := v) l (acc ++ [(k a, v a)]) (fun b hb => H b (List.mem_cons_of_mem _ hb)) (by
      rw [List.map_append, List.append_assoc]; exact hn) (by rw [List.length_append, List.length_cons, List.length_nil]; omega)
    rw [List.append_assoc] at ih
    rw [List.map_cons, List.map_cons]
    unfold dcompL
    rw [e1, Option.bind_some]
    have hy : evYes ρ1 = .ok true := rfl
    simp only [hy, e2, e3, Rs.o, Option.bind_some, cond_true, T.asK, kOf, T.asD, hs, if_true, putD_kv hnk]
    exact ih
theorem dcomp_kv {α : Type} {ei : En → Rs (List D)} {vs : List Nat} {f : α → D} {g : D → En → Option En} {ek ev : En → Rs T} {ρ : En} {k : α → Str} {v : α → D} {l : List α} (hi : ei ρ = .ok (l.map f)) (H : ∀ a ∈ l, ∃ ρ1, g (f a) (ρ.clr vs) = some ρ1 ∧ ek ρ1 = .ok (.sh (.str (k a))) ∧ ev ρ1 = .ok (.sh (v a))) (hn : (l.map k).Nodup) (hl : l.length ≤ 60000) :
    evDComp ei vs g evYes ek ev ρ = .ok (.od ((l.map fun a => (k a, v a)).map kv)) := by
  have := dcompL_kv (f := f) (g := g) (ek := ek) (ev := ev) (ρ := ρ.clr vs) (k := k) (v := v) l [] H hn (by rw [List.length_nil]; omega)
  rw [List.map_nil, List.nil_append] at this
  simp only [evDComp, hi, x_bind, this, rsO]

/-! ### values of which a property is known -/
/-- a value without the script, of which p holds -/
def TV (p : D → Prop) (ev : En → Rs T) (ρ : En) : Prop := ∃ t, ev ρ = .ok t ∧ t.noScr = true ∧ p t.er
/-- a shared value of which p holds -/
def SV (p : D → Prop) (ev : En → Rs T) (ρ : En) : Prop := ∃ d, ev ρ = .ok (.sh d) ∧ p d
def TVs (p : D → Prop) (er : En → Rs (List T)) (ρ : En) (n : Nat) : Prop := ∃ ts, er ρ = .ok ts ∧ ts.length = n ∧ T.noScrs ts = true ∧ ∀ d ∈ T.ers ts, p d
/-- a list of at most n things of which p holds -/
def LsP (p : D → Prop) (n : Nat) (d : D) : Prop := ∃ ds, d = .list ds ∧ ds.length ≤ n ∧ ∀ x ∈ ds, p x
section
variable {p q : D → Prop} {ea eb ev : En → Rs T} {er : En → Rs (List T)} {ρ : En} {n m : Nat}
theorem SV.tv (h : SV p ev ρ) : TV p ev ρ := by
  obtain ⟨d, e, h⟩ := h
  exact ⟨_, e, rfl, h⟩
theorem TV.sv (h : TV p ev ρ) : SV p (evSh ev) ρ := by
  obtain ⟨t, e, h1, h2⟩ := h
  exact ⟨_, evSh_of e h1, h2⟩
theorem SV.sh (h : SV p ev ρ) : SV p (evSh ev) ρ := h.tv.sv
theorem sv_of {d : D} (e : ev ρ = .ok (.sh d)) (h : p d) : SV p ev ρ := ⟨d, e, h⟩
theorem tv_of {d : D} (e : ev ρ = .ok (.sh d)) (h : p d) : TV p ev ρ := ⟨_, e, rfl, h⟩
theorem tv_ol {ds : List D} (e : ev ρ = .ok (.ol ds)) (h : p (.list ds)) : TV p ev ρ := ⟨_, e, rfl, h⟩
theorem TV.imp (h : TV p ev ρ) (hi : ∀ d, p d → q d) : TV q ev ρ := by
  obtain ⟨t, e, h1, h2⟩ := h
  exact ⟨t, e, h1, hi _ h2⟩
theorem SV.imp (h : SV p ev ρ) (hi : ∀ d, p d → q d) : SV q ev ρ := by
  obtain ⟨t, e, h2⟩ := h
  exact ⟨t, e, hi _ h2⟩
theorem sv_var {i : Nat} {d : D} (h : ρ.get i = some (.sh d)) (hp : p d) : SV p (evVar i) ρ := ⟨d, evVar_ok h, hp⟩
theorem sv_esc {i : Nat} {d : D} (h : ρ.get i = some (.sh d)) (hp : p d) : SV p (evEsc (evVar i)) ρ := ⟨d, evEsc_var h, hp⟩
theorem tvs_nil : TVs p evNil ρ 0 := ⟨[], rfl, rfl, rfl, fun d hd => by cases hd⟩
theorem tvs_cons (h : TV p ev ρ) (hr : TVs p er ρ n) : TVs p (evCons ev er) ρ (n + 1) := by
  obtain ⟨t, e1, e2, e3⟩ := h
  obtain ⟨ts, f1, f2, f3, f4⟩ := hr
  refine ⟨t :: ts, evCons_ok e1 f1, by rw [List.length_cons, f2], by simp only [T.noScrs, e2, f3, Bool.and_self], fun d hd => ?_⟩
  simp only [T.ers, List.mem_cons] at hd
  rcases hd with rfl | hd
  · exact e3
  · exact f4 d hd
theorem tv_list (h : TVs p er ρ n) (hn : n ≤ 4096) : TV (LsP p n) (evLst er) ρ := by
  obtain ⟨ts, f1, f2, f3, f4⟩ := h
  obtain ⟨h1, h2, _⟩ := mkL_er f3
  exact ⟨_, evLst_ok f1 (by omega), h1, by rw [h2]; exact ⟨_, rfl, by rw [ers_len, f2]; exact Nat.le_refl _, f4⟩⟩
theorem mkT_er : ∀ {ts : List T}, T.noScrs ts = true → (mkT ts).noScr = true ∧ (mkT ts).er = .tuple (T.ers ts) := fun {ts} h => by
  unfold mkT
  cases e : T.shs ts with
  | some ds => exact ⟨rfl, by rw [shs_ers e]; rfl⟩
  | none => exact ⟨h, rfl⟩
theorem tv_tup2 (ha : TV p ea ρ) (hb : TV q eb ρ) : TV (fun d => ∃ a b, d = .tuple [a, b] ∧ p a ∧ q b) (evTup (evCons ea (evCons eb evNil))) ρ := by
  obtain ⟨t, e1, e2, e3⟩ := ha
  obtain ⟨u, f1, f2, f3⟩ := hb
  have hn : T.noScrs [t, u] = true := by simp only [T.noScrs, e2, f2, Bool.and_self]
  obtain ⟨h1, h2⟩ := mkT_er hn
  exact ⟨_, by simp only [evTup, evCons, evNil, e1, f1, x_bind]; rfl, h1, by rw [h2]; exact ⟨_, _, rfl, e3, f3⟩⟩
theorem tv_tup1 (ha : TV p ea ρ) : TV (fun d => ∃ a, d = .tuple [a] ∧ p a) (evTup (evCons ea evNil)) ρ := by
  obtain ⟨t, e1, e2, e3⟩ := ha
  have hn : T.noScrs [t] = true := by simp only [T.noScrs, e2, Bool.and_self]
  obtain ⟨h1, h2⟩ := mkT_er hn
  exact ⟨_, by simp only [evTup, evCons, evNil, e1, x_bind]; rfl, h1, by rw [h2]; exact ⟨_, rfl, e3⟩⟩
theorem tv_add (ha : SV (LsP p n) ea ρ) (hb : SV (LsP p m) eb ρ) (h : n + m ≤ 60000) : TV (LsP p (n + m)) (evBin fAdd ea eb) ρ := by
  obtain ⟨_, e1, a, rfl, h1, h2⟩ := ha
  obtain ⟨_, f1, b, rfl, k1, k2⟩ := hb
  refine ⟨.ol (a ++ b), ?_, rfl, a ++ b, rfl, by rw [List.length_append]; omega, fun x hx => ?_⟩
  · have := evSh_cat e1 f1 (by omega)
    refine evBin_ok e1 f1 ?_
    have hs : a.length + b.length ≤ sizeLine := by rw [sizeLine_eq]; omega
    simp only [fAdd, f2I, fStrAdd, fCat, T.lits, hs, if_true, Option.or]
  · rcases List.mem_append.mp hx with z | z
    · exact h2 x z
    · exact k2 x z
theorem cutD_mem {ds : List D} {lo hi : Option Int} {x : D} (h : x ∈ cutD ds lo hi) : x ∈ ds := by
  unfold cutD at h
  exact List.mem_of_mem_drop (List.mem_of_mem_take h)
theorem tv_slice {el eh : En → Rs (Option Int)} {l u : Option Int} (h : SV (LsP p n) ea ρ) (hl : el ρ = .ok l) (hu : eh ρ = .ok u) : TV (LsP p n) (evSl fSl ea el eh) ρ := by
  obtain ⟨_, e, ds, rfl, h1, h2⟩ := h
  refine ⟨.ol (cutD ds l u), by simp only [evSl, e, hl, hu, x_bind, x_sl, x_rs], rfl, _, rfl, Nat.le_trans (cutD_le _ _ _) h1, fun x hx => h2 x (cutD_mem hx)⟩
theorem LsP.mono {d : D} (h : LsP p n d) (hn : n ≤ m) : LsP p m d := by
  obtain ⟨ds, e, h1, h2⟩ := h
  exact ⟨ds, e, Nat.le_trans h1 hn, h2⟩
end
end PL
set_option Elab.async false
set_option linter.all false
set_option maxRecDepth 100000
set_option maxHeartbeats 0
/-! PSr: rows of turns, in plain mathematics. -/
namespace PSh
open PL PySem
theorem inv_of_then {s f : Le} (h : Sh s) (hl : f.length = s.length) (e : thenC s f = rngI 0 s.length) : f = invC s :=
  inv_unique h hl fun x h0 h1 => by
    have := congrArg (fun l => at_ l x) e
    simp only [then_at h0 h1, at_rng h0 h1] at this
    exact this
theorem inv_mul {a b : Le} (ha : Sh a) (hb : Sh b) (hl : a.length = b.length) : invC (thenC a b) = thenC (invC b) (invC a) := by
  refine (inv_of_then (then_sh ha hb hl) (by rw [then_len, inv_len, then_len, hl]) ?_).symm
  rw [then_assoc ha hl, ← then_assoc hb (inv_len b).symm, then_inv hb, then_len]
  have e : thenC (rngI 0 (b.length : Int)) (invC a) = invC a := by
    have := unit_then (b := invC a)
    rw [inv_len, hl] at this
    exact this
  rw [e, then_inv ha]
theorem inv_unit (n : Nat) : invC (rngI 0 (n : Int)) = rngI 0 n := by
  have hl : (rngI 0 (n : Int)).length = n := by rw [rngI_len]; omega
  have hs : Sh (rngI 0 (n : Int)) := sh_rng (by omega)
  refine (inv_of_then hs rfl ?_).symm
  have := unit_then (b := rngI 0 (n : Int))
  rw [hl] at this ⊢
  exact this
theorem pow_comm {s : Le} (h : Sh s) : ∀ k, thenC s (powN s k) = thenC (powN s k) s
  | 0 => by
    show thenC s (rngI 0 s.length) = thenC (rngI 0 s.length) s
    rw [then_unit h, unit_then]
  | k + 1 => by
    show thenC s (thenC (powN s k) s) = thenC (thenC (powN s k) s) s
    rw [← then_assoc h (pow_len s k).symm, pow_comm h k]
theorem pow_inv {s : Le} (h : Sh s) : ∀ k, powN (invC s) k = invC (powN s k)
  | 0 => by
    show rngI 0 (invC s).length = invC (rngI 0 s.length)
    rw [inv_len, inv_unit]
  | k + 1 => by
    show thenC (powN (invC s) k) (invC s) = invC (thenC (powN s k) s)
    rw [pow_inv h k, ← inv_mul h (pow_sh h k) (pow_len s k).symm, pow_comm h k]
theorem powC_neg {s : Le} (h : Sh s) (t : Int) : powC s (0 - t) = invC (powC s t) := by
  unfold powC
  have e : (0 - t).natAbs = t.natAbs := by omega
  rw [e]
  by_cases h0 : t = 0
  · subst h0
    rw [if_pos (by decide), if_pos (by decide)]
    show rngI 0 s.length = invC (rngI 0 s.length)
    rw [inv_unit]
  · by_cases h1 : 0 ≤ t
    · rw [if_neg (by omega), if_pos h1, pow_inv h]
    · rw [if_pos (by omega), if_neg h1, pow_inv h, inv_inv (pow_sh h _)]
/-- one more step behind a shift -/
theorem pow_step {f s : Le} (hf : Sh f) (hs : Sh s) (hl : f.length = s.length) (k : Nat) : thenC (thenC f (powN s k)) s = thenC f (powN s (k + 1)) := by
  show _ = thenC f (thenC (powN s k) s)
  rw [then_assoc hf (by rw [pow_len]; exact hl)]
def effC (n : Int) (sh : Str → Le) (row : List (Str × Int)) : Le := row.foldl (fun f it => thenC f (powC (sh it.1) it.2)) (rngI 0 n)
section
variable {n : Int} {sh : Str → Le}
def RowS (n : Int) (sh : Str → Le) (row : List (Str × Int)) : Prop := ∀ it ∈ row, Sh (sh it.1) ∧ ((sh it.1).length : Int) = n
theorem len_n {l : Le} {n : Int} (h : (l.length : Int) = n) : rngI 0 n = rngI 0 (l.length : Int) := by rw [h]
theorem then_shn {a b : Le} (ha : Sh a ∧ (a.length : Int) = n) (hb : Sh b ∧ (b.length : Int) = n) : Sh (thenC a b) ∧ ((thenC a b).length : Int) = n :=
  ⟨then_sh ha.1 hb.1 (by omega), by rw [then_len]; exact ha.2⟩
theorem pow_shn {s : Le} (h : Sh s ∧ (s.length : Int) = n) (t : Int) : Sh (powC s t) ∧ ((powC s t).length : Int) = n := ⟨powC_sh h.1 t, by rw [powC_len]; exact h.2⟩
theorem fold_shn : ∀ (row : List (Str × Int)) (f : Le), RowS n sh row → (Sh f ∧ (f.length : Int) = n) → Sh (row.foldl (fun f it => thenC f (powC (sh it.1) it.2)) f) ∧ ((row.foldl (fun f it => thenC f (powC (sh it.1) it.2)) f).length : Int) = n
  | [], _, _, hf => hf
  | it :: row, f, hr, hf => fold_shn row _ (fun j hj => hr j (List.mem_cons_of_mem _ hj)) (then_shn hf (pow_shn (hr it List.mem_cons_self) _))
theorem unit_shn (h0 : 0 ≤ n) : Sh (rngI 0 n) ∧ ((rngI 0 n).length : Int) = n := ⟨sh_rng h0, by rw [rngI_len]; omega⟩
theorem eff_shn (h0 : 0 ≤ n) {row : List (Str × Int)} (hr : RowS n sh row) : Sh (effC n sh row) ∧ ((effC n sh row).length : Int) = n := fold_shn row _ hr (unit_shn h0)
theorem then_n {f : Le} (hf : Sh f ∧ (f.length : Int) = n) : thenC f (rngI 0 n) = f := by rw [len_n hf.2, then_unit hf.1]
theorem n_then {f : Le} (hf : (f.length : Int) = n) : thenC (rngI 0 n) f = f := by rw [len_n hf, unit_then]
theorem eff_from (h0 : 0 ≤ n) : ∀ (row : List (Str × Int)) (f : Le), RowS n sh row → (Sh f ∧ (f.length : Int) = n) → row.foldl (fun f it => thenC f (powC (sh it.1) it.2)) f = thenC f (effC n sh row)
  | [], f, _, hf => (then_n hf).symm
  | it :: row, f, hr, hf => by
    have hp := pow_shn (hr it List.mem_cons_self) it.2
    have hr2 : RowS n sh row := fun j hj => hr j (List.mem_cons_of_mem _ hj)
    have he := eff_shn h0 hr2
    show row.foldl _ (thenC f (powC (sh it.1) it.2)) = thenC f (row.foldl _ (thenC (rngI 0 n) (powC (sh it.1) it.2)))
    rw [n_then hp.2, eff_from h0 row _ hr2 (then_shn hf hp), eff_from h0 row _ hr2 hp, then_assoc hf.1 (by omega)]
theorem eff_cons (h0 : 0 ≤ n) {it : Str × Int} {row : List (Str × Int)} (hr : RowS n sh (it :: row)) : effC n sh (it :: row) = thenC (powC (sh it.1) it.2) (effC n sh row) := by
  have hp := pow_shn (hr it List.mem_cons_self) it.2
  show row.foldl _ (thenC (rngI 0 n) (powC (sh it.1) it.2)) = _
  rw [n_then hp.2, eff_from h0 row _ (fun j hj => hr j (List.mem_cons_of_mem _ hj)) hp]
theorem eff_app (h0 : 0 ≤ n) {row other : List (Str × Int)} (hr : RowS n sh row) (ho : RowS n sh other) : effC n sh (row ++ other) = thenC (effC n sh row) (effC n sh other) := by
  unfold effC
  rw [List.foldl_append]
  exact eff_from h0 other _ ho (eff_shn h0 hr)
theorem eff_snoc {row : List (Str × Int)} {it : Str × Int} : effC n sh (row ++ [it]) = thenC (effC n sh row) (powC (sh it.1) it.2) := by
  unfold effC
  rw [List.foldl_append]; rfl
theorem eff_back (h0 : 0 ≤ n) : ∀ {row : List (Str × Int)}, RowS n sh row → effC n sh (row.reverse.map fun it => (it.1, 0 - it.2)) = invC (effC n sh row)
  | [], _ => by
    show rngI 0 n = invC (rngI 0 n)
    obtain ⟨k, rfl⟩ := Int.eq_ofNat_of_zero_le h0
    exact (inv_unit k).symm
  | it :: row, hr => by
    have hp := pow_shn (hr it List.mem_cons_self) it.2
    have hr2 : RowS n sh row := fun j hj => hr j (List.mem_cons_of_mem _ hj)
    have he := eff_shn h0 hr2
    rw [List.reverse_cons, List.map_append, List.map_cons, List.map_nil, eff_snoc, eff_back h0 hr2, eff_cons h0 hr, inv_mul hp.1 he.1 (by omega)]
    rw [powC_neg (hr it List.mem_cons_self).1]
end
end PSh
set_option Elab.async false
set_option linter.all false
/-! PSb: plain mathematics of things that use things: an order or a ring. -/
namespace PSb
variable {α : Type} [DecidableEq α] [Inhabited α]
abbrev Us (α : Type) := List (α × List α)
def get (U : Us α) (n : α) : List α := ((U.find? fun p => decide (p.1 = n)).map (·.2)).getD []
def names (U : Us α) : List α := U.map (·.1)
def free (T : List α) (p : α × List α) : Bool := !decide (p.1 ∈ T) && p.2.all fun o => decide (o ∈ T)
def next (U : Us α) (T : List α) : Option α := (U.find? (free T)).map (·.1)
def step (U : Us α) (T : List α) : List α := match next U T with
  | some n => T ++ [n]
  | none => T
def takes (U : Us α) : Nat → List α → List α
  | 0, T => T
  | k + 1, T => takes U k (step U T)
def takenC (U : Us α) : List α := takes U U.length []
structure Ok (U : Us α) : Prop where
  nd : (names U).Nodup
  us : ∀ p ∈ U, ∀ o ∈ p.2, o ∈ names U
def nth (ns : List α) (k : Nat) : α := ns.getD k default
def nth_eq {ns : List α} {k : Nat} (h : k < ns.length) : nth ns k = ns[k] := by
  unfold nth; rw [List.getD_eq_getElem?_getD, List.getElem?_eq_getElem h]; rfl
structure Good (U : Us α) (T : List α) : Prop where
  nd : T.Nodup
  sub : ∀ n ∈ T, n ∈ names U
  us : ∀ k, k < T.length → ∀ o ∈ get U (nth T k), o ∈ T.take k
variable {U : Us α} {T : List α}
theorem find_mem (h : Ok U) {p : α × List α} (hp : p ∈ U) : (U.find? fun q => decide (q.1 = p.1)) = some p := by
  have h1 : ∃ q, (U.find? fun q => decide (q.1 = p.1)) = some q := by
    rw [← Option.isSome_iff_exists, List.find?_isSome]; exact ⟨p, hp, by simp⟩
  obtain ⟨q, hq⟩ := h1
  have hqm := List.mem_of_find?_eq_some hq
  have hqe : q.1 = p.1 := by simpa using List.find?_some hq
  have : q = p := by
    have := h.nd
    clear hq
    unfold names at this
    clear h
    induction U with
    | nil => cases hp
    | cons a U ih =>
      rw [List.map_cons, List.nodup_cons] at this
      rcases List.mem_cons.mp hp with e | hp
      · rcases List.mem_cons.mp hqm with e2 | hq
        · rw [e, e2]
        · exact absurd (List.mem_map.mpr ⟨q, hq, by rw [hqe, e]⟩) this.1
      · rcases List.mem_cons.mp hqm with e2 | hq
        · exact absurd (List.mem_map.mpr ⟨p, hp, by rw [← hqe, e2]⟩) this.1
        · exact ih hp hq this.2
  rw [hq, this]
theorem get_mem (h : Ok U) {p : α × List α} (hp : p ∈ U) : get U p.1 = p.2 := by
  unfold get
  rw [find_mem h hp]; rfl
theorem get_sub (h : Ok U) {n : α} (hn : n ∈ names U) : ∀ o ∈ get U n, o ∈ names U := by
  obtain ⟨p, hp, rfl⟩ := List.mem_map.mp hn
  rw [get_mem h hp]
  exact h.us p hp
theorem next_some (h : Ok U) {n : α} (e : next U T = some n) : n ∈ names U ∧ n ∉ T ∧ ∀ o ∈ get U n, o ∈ T := by
  unfold next at e
  cases hf : U.find? (free T) with
  | none => rw [hf] at e; cases e
  | some p =>
    rw [hf] at e
    cases e
    have hm := List.mem_of_find?_eq_some hf
    have hfr := List.find?_some hf
    simp only [free, Bool.and_eq_true, Bool.not_eq_true', decide_eq_false_iff_not, List.all_eq_true, decide_eq_true_eq] at hfr
    refine ⟨List.mem_map.mpr ⟨p, hm, rfl⟩, hfr.1, ?_⟩
    rw [get_mem h hm]
    exact hfr.2
theorem next_none (h : Ok U) (e : next U T = none) {n : α} (hn : n ∈ names U) (hT : n ∉ T) : ∃ o ∈ get U n, o ∉ T := by
  obtain ⟨p, hp, rfl⟩ := List.mem_map.mp hn
  rw [get_mem h hp]
  have h2 : free T p = false := by
    unfold next at e
    have := List.find?_eq_none.mp (Option.map_eq_none_iff.mp e) p hp
    simpa using this
  simp only [free, hT, decide_false, Bool.not_false, Bool.true_and] at h2
  have := List.all_eq_false.mp h2
  obtain ⟨o, ho, hx⟩ := this
  exact ⟨o, ho, by simpa using hx⟩
theorem nd_len : ∀ {a b : List α}, a.Nodup → (∀ x ∈ a, x ∈ b) → a.length ≤ b.length
  | [], _, _, _ => Nat.zero_le _
  | x :: a, b, h, hs => by
    rw [List.nodup_cons] at h
    have hb : x ∈ b := hs x List.mem_cons_self
    have := nd_len (b := b.erase x) h.2 fun y hy => (List.mem_erase_of_ne (a := y) (b := x) (fun z => h.1 (z ▸ hy))).mpr (hs y (List.mem_cons_of_mem _ hy))
    rw [List.length_erase_of_mem hb] at this
    have : 0 < b.length := List.length_pos_of_mem hb
    rw [List.length_cons]; omega
theorem len_le {T : List α} (h1 : T.Nodup) (h2 : ∀ n ∈ T, n ∈ names U) : T.length ≤ U.length := by
  have := nd_len h1 h2
  rwa [names, List.length_map] at this
theorem full_mem (h : Ok U) (h1 : T.Nodup) (h2 : ∀ n ∈ T, n ∈ names U) (hl : T.length = U.length) : ∀ n ∈ names U, n ∈ T := by
  intro n hn
  by_cases hT : n ∈ T
  · exact hT
  · have := nd_len (b := (names U).erase n) h1 fun x hx => (List.mem_erase_of_ne (a := x) (b := n) (fun z => hT (z ▸ hx))).mpr (h2 x hx)
    rw [List.length_erase_of_mem hn] at this
    have h0 : 0 < (names U).length := List.length_pos_of_mem hn
    rw [names, List.length_map] at this h0
    omega
theorem good_nil : Good U [] := ⟨List.nodup_nil, fun n hn => (by cases hn), fun k hk => (by cases hk)⟩
theorem nth_snoc_lt {ns : List α} {a : α} {k : Nat} (h : k < ns.length) : nth (ns ++ [a]) k = nth ns k := by
  rw [nth_eq (by rw [List.length_append]; omega), nth_eq h, List.getElem_append_left h]
theorem nth_snoc {ns : List α} {a : α} : nth (ns ++ [a]) ns.length = a := by
  rw [nth_eq (by rw [List.length_append, List.length_singleton]; omega), List.getElem_append_right (Nat.le_refl _)]
  simp
theorem good_snoc (h : Ok U) (g : Good U T) {n : α} (e : next U T = some n) : Good U (T ++ [n]) := by
  obtain ⟨h1, h2, h3⟩ := next_some h e
  refine ⟨List.nodup_append.mpr ⟨g.nd, by simp, fun a ha b hb => ?_⟩, fun m hm => ?_, fun k hk o ho => ?_⟩
  · rw [List.mem_singleton] at hb; subst hb; exact fun z => h2 (z ▸ ha)
  · rcases List.mem_append.mp hm with z | z
    · exact g.sub m z
    · rw [List.mem_singleton] at z; subst z; exact h1
  · rw [List.length_append, List.length_singleton] at hk
    by_cases hk2 : k < T.length
    · rw [nth_snoc_lt hk2] at ho
      rw [List.take_append_of_le_length (by omega)]
      exact g.us k hk2 o ho
    · have : k = T.length := by omega
      subst this
      rw [nth_snoc] at ho
      rw [List.take_append_of_le_length (Nat.le_refl _), List.take_length]
      exact h3 o ho
theorem good_step (h : Ok U) (g : Good U T) : Good U (step U T) := by
  unfold step
  cases e : next U T with
  | none => exact g
  | some n => exact good_snoc h g e
theorem good_takes (h : Ok U) : ∀ (k : Nat) {T : List α}, Good U T → Good U (takes U k T)
  | 0, _, g => g
  | k + 1, _, g => good_takes h k (good_step h g)
theorem takes_none {T : List α} (e : next U T = none) : ∀ k, takes U k T = T
  | 0 => rfl
  | k + 1 => by
    show takes U k (step U T) = T
    have : step U T = T := by unfold step; rw [e]
    rw [this]; exact takes_none e k
theorem takes_end (h : Ok U) : ∀ (k : Nat) {T : List α}, Good U T → T.length + k ≥ U.length → next U (takes U k T) = none
  | 0, T, g, hk => by
    show next U T = none
    cases e : next U T with
    | none => rfl
    | some n =>
      obtain ⟨h1, h2, _⟩ := next_some h e
      exact absurd (full_mem h g.nd g.sub (by have := len_le g.nd g.sub; omega) n h1) h2
  | k + 1, T, g, hk => by
    show next U (takes U k (step U T)) = none
    cases e : next U T with
    | none =>
      have : step U T = T := by unfold step; rw [e]
      rw [this, takes_none e]; exact e
    | some n =>
      refine takes_end h k (good_step h g) ?_
      have : step U T = T ++ [n] := by unfold step; rw [e]
      rw [this, List.length_append, List.length_singleton]; omega
theorem takenC_good (h : Ok U) : Good U (takenC U) := good_takes h _ good_nil
theorem takenC_none (h : Ok U) : next U (takenC U) = none := takes_end h _ good_nil (by simp)
theorem some_lt (h : Ok U) (g : Good U T) {n : α} (e : next U T = some n) : T.length < U.length := by
  have := len_le (good_snoc h g e).nd (good_snoc h g e).sub
  rw [List.length_append, List.length_singleton] at this; omega
/-! the papers -/
def ordOk (U : Us α) (ns : List α) : Bool := decide (ns.Nodup) && (ns.all fun n => decide (n ∈ names U)) && decide (ns.length = U.length) && (List.range ns.length).all fun k => (get U (nth ns k)).all fun o => decide (o ∈ ns.take k)
def ringOk (U : Us α) (ns : List α) : Bool := !ns.isEmpty && (ns.all fun n => decide (n ∈ names U)) && (List.range ns.length).all fun k => decide (nth ns ((k + 1) % ns.length) ∈ get U (nth ns k))
theorem ord_iff {ns : List α} : ordOk U ns = true ↔ ns.Nodup ∧ (∀ n ∈ ns, n ∈ names U) ∧ ns.length = U.length ∧ ∀ k, k < ns.length → ∀ o ∈ get U (nth ns k), o ∈ ns.take k := by
  simp only [ordOk, Bool.and_eq_true, decide_eq_true_eq, List.all_eq_true, List.mem_range, and_assoc]
theorem ring_iff {ns : List α} : ringOk U ns = true ↔ ns ≠ [] ∧ (∀ n ∈ ns, n ∈ names U) ∧ ∀ k, k < ns.length → nth ns ((k + 1) % ns.length) ∈ get U (nth ns k) := by
  simp only [ringOk, Bool.and_eq_true, decide_eq_true_eq, List.all_eq_true, List.mem_range, and_assoc, Bool.not_eq_true', List.isEmpty_eq_false_iff]
theorem ver_order (h : Ok U) (hl : (takenC U).length = U.length) : ordOk U (takenC U) = true := by
  have g := takenC_good h
  exact ord_iff.mpr ⟨g.nd, g.sub, hl, g.us⟩
theorem mem_take_lt {ns : List α} {o : α} {k : Nat} (h : o ∈ ns.take k) : ∃ j, j < k ∧ j < ns.length ∧ nth ns j = o := by
  obtain ⟨j, hj, e⟩ := List.getElem_of_mem h
  rw [List.length_take] at hj
  refine ⟨j, by omega, by omega, ?_⟩
  rw [nth_eq (by omega), ← e, List.getElem_take]
theorem ord_full (h : Ok U) {ns : List α} (ho : ordOk U ns = true) : (takenC U).length = U.length := by
  obtain ⟨h1, h2, h3, h4⟩ := ord_iff.mp ho
  have g := takenC_good h
  have hall : ∀ k, k < ns.length → nth ns k ∈ takenC U := by
    intro k
    induction k using Nat.strongRecOn with
    | ind k ih =>
      intro hk
      by_cases hm : nth ns k ∈ takenC U
      · exact hm
      · obtain ⟨o, ho1, ho2⟩ := next_none h (takenC_none h) (h2 _ (by rw [nth_eq hk]; exact List.getElem_mem hk)) hm
        obtain ⟨j, hj, hjl, e⟩ := mem_take_lt (h4 k hk o ho1)
        exact absurd (e ▸ ih j hj hjl) ho2
  have hsub : ∀ n ∈ ns, n ∈ takenC U := fun n hn => by
    obtain ⟨k, hk, e⟩ := List.getElem_of_mem hn
    rw [← e, ← nth_eq hk]; exact hall k hk
  have := nd_len h1 hsub
  have := len_le g.nd g.sub
  omega
theorem ring_not (h : Ok U) {ns : List α} (hr : ringOk U ns = true) : (takenC U).length ≠ U.length := by
  obtain ⟨h1, h2, h3⟩ := ring_iff.mp hr
  have g := takenC_good h
  have hno : ∀ k, k < (takenC U).length → nth (takenC U) k ∉ ns := by
    intro k
    induction k using Nat.strongRecOn with
    | ind k ih =>
      intro hk hm
      obtain ⟨i, hi, e⟩ := List.getElem_of_mem hm
      have h4 := h3 i hi
      rw [nth_eq hi, e] at h4
      obtain ⟨j, hj, hjl, e2⟩ := mem_take_lt (g.us k hk _ h4)
      refine ih j hj hjl ?_
      rw [e2]
      have hp : (i + 1) % ns.length < ns.length := Nat.mod_lt _ (by omega)
      rw [nth_eq hp]; exact List.getElem_mem hp
  intro hl
  obtain ⟨n, hn⟩ := List.exists_mem_of_ne_nil ns h1
  have := full_mem h g.nd g.sub hl n (h2 n hn)
  obtain ⟨k, hk, e⟩ := List.getElem_of_mem this
  exact hno k hk (by rw [nth_eq hk, e]; exact hn)
/-! the ring -/
def aft (U : Us α) (T : List α) (n : α) : List α := (get U n).filter fun o => !decide (o ∈ T)
def idx (s : List α) (x : α) : Nat := s.findIdx fun y => decide (y = x)
def ringC (U : Us α) (T : List α) : Nat → List α → α → List α
  | 0, _, _ => []
  | f + 1, q, n => if nth (aft U T n) 0 ∈ q ++ [n] then (q ++ [n]).drop (idx (q ++ [n]) (nth (aft U T n) 0)) else ringC U T f (q ++ [n]) (nth (aft U T n) 0)
def first (U : Us α) (T : List α) : List α := (names U).filter fun n => !decide (n ∈ T)
def ringV (U : Us α) : List α := ringC U (takenC U) U.length [] (nth (first U (takenC U)) 0)
structure Path (U : Us α) (T : List α) (p : List α) : Prop where
  nd : p.Nodup
  sub : ∀ n ∈ p, n ∈ names U ∧ n ∉ T
  us : ∀ k, k + 1 < p.length → nth p (k + 1) ∈ get U (nth p k)
theorem aft_ok (h : Ok U) (e : next U T = none) {n : α} (hn : n ∈ names U) (hT : n ∉ T) : aft U T n ≠ [] ∧ nth (aft U T n) 0 ∈ get U n ∧ nth (aft U T n) 0 ∉ T ∧ nth (aft U T n) 0 ∈ names U := by
  obtain ⟨o, h1, h2⟩ := next_none h e hn hT
  have hne : aft U T n ≠ [] := List.ne_nil_of_mem (List.mem_filter.mpr ⟨h1, by simpa using h2⟩)
  have hl : 0 < (aft U T n).length := by
    cases ha : aft U T n with
    | nil => exact absurd ha hne
    | cons => simp
  have hm : nth (aft U T n) 0 ∈ aft U T n := by rw [nth_eq hl]; exact List.getElem_mem hl
  have := List.mem_filter.mp hm
  exact ⟨hne, this.1, by simpa using this.2, get_sub h hn _ this.1⟩
theorem first_ok (h : Ok U) (hT : (takenC U).length ≠ U.length) : first U (takenC U) ≠ [] ∧ Path U (takenC U) [nth (first U (takenC U)) 0] := by
  have g := takenC_good h
  have hne : first U (takenC U) ≠ [] := by
    intro z
    have hall : ∀ n ∈ names U, n ∈ takenC U := fun n hn => by
      have := List.filter_eq_nil_iff.mp z n hn
      simpa using this
    have := nd_len h.nd hall
    rw [names, List.length_map] at this
    have := len_le g.nd g.sub
    omega
  have hl : 0 < (first U (takenC U)).length := by
    cases ha : first U (takenC U) with
    | nil => exact absurd ha hne
    | cons => simp
  have hm : nth (first U (takenC U)) 0 ∈ first U (takenC U) := by rw [nth_eq hl]; exact List.getElem_mem hl
  have := List.mem_filter.mp hm
  exact ⟨hne, by simp, fun n hn => by rw [List.mem_singleton] at hn; subst hn; exact ⟨this.1, by simpa using this.2⟩, fun k hk => by simp at hk⟩
theorem path_snoc {q : List α} {n a : α} (hp : Path U T (q ++ [n])) (h1 : a ∉ q ++ [n]) (h2 : a ∈ names U ∧ a ∉ T) (h3 : a ∈ get U n) : Path U T (q ++ [n] ++ [a]) := by
  refine ⟨List.nodup_append.mpr ⟨hp.nd, by simp, fun x hx b hb => ?_⟩, fun m hm => ?_, fun k hk => ?_⟩
  · rw [List.mem_singleton] at hb; subst hb; exact fun z => h1 (z ▸ hx)
  · rcases List.mem_append.mp hm with z | z
    · exact hp.sub m z
    · rw [List.mem_singleton] at z; subst z; exact h2
  · have hl : (q ++ [n]).length = q.length + 1 := by rw [List.length_append, List.length_singleton]
    rw [List.length_append, List.length_singleton, hl] at hk
    by_cases hk2 : k + 1 < (q ++ [n]).length
    · rw [nth_snoc_lt hk2, nth_snoc_lt (by omega)]
      exact hp.us k hk2
    · have e : k + 1 = (q ++ [n]).length := by omega
      rw [e, nth_snoc, nth_snoc_lt (by omega)]
      have e2 : k = q.length := by omega
      rw [e2, nth_snoc]; exact h3
theorem idx_lt {s : List α} {x : α} (h : x ∈ s) : idx s x < s.length := List.findIdx_lt_length.mpr ⟨x, h, by simp⟩
theorem idx_nth {s : List α} {x : α} (h : x ∈ s) : nth s (idx s x) = x := by
  rw [nth_eq (idx_lt h)]
  have := List.findIdx_getElem (w := idx_lt h)
  exact of_decide_eq_true this
theorem nth_drop {s : List α} {i k : Nat} : nth (s.drop i) k = nth s (i + k) := by
  unfold nth; rw [List.getD_eq_getElem?_getD, List.getD_eq_getElem?_getD, List.getElem?_drop]
theorem ring_end {q : List α} {n a : α} (hp : Path U T (q ++ [n])) (h1 : a ∈ q ++ [n]) (h3 : a ∈ get U n) : ringOk U ((q ++ [n]).drop (idx (q ++ [n]) a)) = true := by
  have hi := idx_lt h1
  have hN := idx_nth h1
  generalize hidx : idx (q ++ [n]) a = i at hi hN ⊢
  have hl : (q ++ [n]).length = q.length + 1 := by rw [List.length_append, List.length_singleton]
  refine ring_iff.mpr ⟨fun z => ?_, fun m hm => (hp.sub m (List.mem_of_mem_drop hm)).1, fun k hk => ?_⟩
  · have := congrArg List.length z
    rw [List.length_drop] at this
    simp at this; omega
  · rw [List.length_drop] at hk ⊢
    rw [nth_drop, nth_drop]
    by_cases hk2 : k + 1 < (q ++ [n]).length - i
    · rw [Nat.mod_eq_of_lt hk2, show i + (k + 1) = (i + k) + 1 by omega]
      exact hp.us (i + k) (by omega)
    · rw [show k + 1 = (q ++ [n]).length - i by omega, Nat.mod_self, Nat.add_zero, hN, show i + k = q.length by omega, nth_snoc]
      exact h3
theorem ringC_ok (h : Ok U) (e : next U T = none) : ∀ (f : Nat) (q : List α) (n : α), Path U T (q ++ [n]) → q.length + f = U.length → ringOk U (ringC U T f q n) = true
  | 0, q, n, hp, hf => by
    have := len_le hp.nd fun m hm => (hp.sub m hm).1
    rw [List.length_append, List.length_singleton] at this; omega
  | f + 1, q, n, hp, hf => by
    obtain ⟨h1, h2⟩ := hp.sub n (by simp)
    obtain ⟨_, a1, a2, a3⟩ := aft_ok h e h1 h2
    unfold ringC
    split
    · rename_i hm
      exact ring_end hp hm a1
    · rename_i hm
      exact ringC_ok h e f _ _ (path_snoc hp hm ⟨a3, a2⟩ a1) (by rw [List.length_append, List.length_singleton]; omega)
theorem ver_ring (h : Ok U) (hT : (takenC U).length ≠ U.length) : ringOk U (ringV U) = true :=
  ringC_ok h (takenC_none h) _ [] _ (first_ok h hT).2 (by simp)
theorem nodup_take {ns : List α} : ns.Nodup ↔ ∀ k, k < ns.length → nth ns k ∉ ns.take k := by
  rw [List.Nodup, List.pairwise_iff_getElem]
  constructor
  · intro h k hk hm
    obtain ⟨j, hj, hjl, e⟩ := mem_take_lt hm
    rw [nth_eq hjl, nth_eq hk] at e
    exact h j k hjl hk hj e
  · intro h i j hi hj hij e
    refine h j hj ?_
    rw [nth_eq hj, ← e]
    have : (ns.take j)[i]'(by rw [List.length_take]; omega) = ns[i] := List.getElem_take
    rw [← this]; exact List.getElem_mem _
theorem ord_perm (h : Ok U) {ns : List α} : ordOk U ns = true ↔ ns.Perm (names U) ∧ ∀ k, k < ns.length → ∀ o ∈ get U (nth ns k), o ∈ ns.take k := by
  rw [ord_iff]
  constructor
  · rintro ⟨h1, h2, h3, h4⟩
    exact ⟨(List.perm_ext_iff_of_nodup h1 h.nd).mpr fun x => ⟨h2 x, full_mem h h1 h2 h3 x⟩, h4⟩
  · rintro ⟨hp, h4⟩
    exact ⟨hp.nodup_iff.mpr h.nd, fun n hn => hp.mem_iff.mp hn, by rw [hp.length_eq, names, List.length_map], h4⟩
theorem ringC_len (h : Ok U) (e : next U T = none) : ∀ (f : Nat) (q : List α) (n : α), Path U T (q ++ [n]) → q.length + f = U.length → (ringC U T f q n).length ≤ U.length
  | 0, q, n, hp, hf => Nat.zero_le _
  | f + 1, q, n, hp, hf => by
    obtain ⟨h1, h2⟩ := hp.sub n (by simp)
    obtain ⟨_, a1, a2, a3⟩ := aft_ok h e h1 h2
    unfold ringC
    split
    · have := len_le hp.nd fun m hm => (hp.sub m hm).1
      rw [List.length_drop]; omega
    · rename_i hm
      exact ringC_len h e f _ _ (path_snoc hp hm ⟨a3, a2⟩ a1) (by rw [List.length_append, List.length_singleton]; omega)
theorem ringV_len (h : Ok U) (hT : (takenC U).length ≠ U.length) : (ringV U).length ≤ U.length :=
  ringC_len h (takenC_none h) _ [] _ (first_ok h hT).2 (by simp)
end PSb
set_option Elab.async false
set_option linter.all false
set_option maxRecDepth 100000
/-! PSc: plain mathematics of store books and of open days. -/
namespace PSc
open PySem PL
abbrev Rw := Int × Str × Int
def lvl (b : List Rw) (k : Str) (d : Int) : Int := ((b.filter fun r => decide (r.2.1 = k) && decide (r.1 ≤ d)).map (·.2.2)).sum
def dys (b : List Rw) (k : Str) : List Int := (b.filter fun r => decide (r.2.1 = k)).map (·.1)
def days (b : List Rw) (k : Str) : List Int := setGI (dys b k)
theorem setGI_mem {l : List Int} {x : Int} : x ∈ setGI l ↔ x ∈ l := by
  unfold setGI
  rw [(sortI_perm _).mem_iff, dedG_mem]
theorem setGI_sorted (l : List Int) : (setGI l).Pairwise (· ≤ ·) := sortI_sorted _
theorem setGI_nd (l : List Int) : (setGI l).Nodup := (sortI_perm _).nodup_iff.mpr (dedG_nd l)
theorem setGI_len (l : List Int) : (setGI l).length = (dedG l).length := (sortI_perm _).length_eq
theorem setGI_same {l m : List Int} (h : ∀ x, x ∈ l ↔ x ∈ m) : setGI l = setGI m := setGI_eq (setGI_sorted l) (setGI_nd l) fun k => setGI_mem.trans (h k)
theorem setGS_same {l m : List Str} (h : ∀ x, x ∈ l ↔ x ∈ m) : setGS l = setGS m := by
  refine setGS_eq (sortS_sorted _) ((sortS_perm _).nodup_iff.mpr (dedG_nd l)) fun k => ?_
  unfold setGS
  rw [(sortS_perm _).mem_iff, dedG_mem, h]
theorem setGS_mem {l : List Str} {x : Str} : x ∈ setGS l ↔ x ∈ l := by
  unfold setGS
  rw [(sortS_perm _).mem_iff, dedG_mem]
/-- the first that has it, of two ascending lists with the same members -/
theorem head_same : ∀ {l m : List Int} {p : Int → Bool}, l.Pairwise (· ≤ ·) → m.Pairwise (· ≤ ·) → (∀ x, x ∈ l ↔ x ∈ m) → l.find? p = m.find? p := fun {l m p} h1 h2 h => by
  have key : ∀ {l m : List Int}, l.Pairwise (· ≤ ·) → (∀ x, x ∈ m → x ∈ l) → ∀ y, m.find? p = some y → ∃ x, l.find? p = some x ∧ x ≤ y := fun {l m} h1 h y hy => by
    have my := h y (List.mem_of_find?_eq_some hy)
    have py := List.find?_some hy
    clear h hy
    induction l with
    | nil => cases my
    | cons a l ih =>
      rw [List.pairwise_cons] at h1
      rw [List.find?_cons]
      cases pa : p a with
      | true =>
        refine ⟨a, rfl, ?_⟩
        rcases List.mem_cons.mp my with e | my
        · omega
        · exact h1.1 y my
      | false =>
        rcases List.mem_cons.mp my with e | my
        · rw [← e, py] at pa; cases pa
        · exact ih h1.2 my
  cases hl : l.find? p with
  | some x =>
    obtain ⟨y, hy, le⟩ := key h2 (fun z hz => (h z).mp hz) x hl
    obtain ⟨x', hx', le'⟩ := key h1 (fun z hz => (h z).mpr hz) y hy
    rw [hl] at hx'
    cases hx'
    rw [hy, show y = x by omega]
  | none =>
    cases hm : m.find? p with
    | none => rfl
    | some y =>
      obtain ⟨x, hx, _⟩ := key h1 (fun z hz => (h z).mpr hz) y hm
      rw [hl] at hx; cases hx
/-- the greatest of 0 and some numbers -/
def top (l : List Int) : Int := l.foldl max 0
theorem fold_ge : ∀ (l : List Int) (a : Int), a ≤ l.foldl max a ∧ (∀ x ∈ l, x ≤ l.foldl max a) ∧ (l.foldl max a = a ∨ l.foldl max a ∈ l)
  | [], a => ⟨Int.le_refl _, fun x hx => (by cases hx), .inl rfl⟩
  | b :: l, a => by
    obtain ⟨h1, h2, h3⟩ := fold_ge l (max a b)
    rw [List.foldl_cons]
    refine ⟨by omega, fun x hx => ?_, ?_⟩
    · rcases List.mem_cons.mp hx with e | hx
      · rw [e]; omega
      · exact h2 x hx
    · rcases h3 with h3 | h3
      · rw [h3]
        by_cases h : a ≤ b
        · exact .inr (by rw [show max a b = b by omega]; exact List.mem_cons_self)
        · exact .inl (by omega)
      · exact .inr (List.mem_cons_of_mem _ h3)
theorem top_same {l m : List Int} (h : ∀ x, x ∈ l ↔ x ∈ m) : top l = top m := by
  unfold top
  obtain ⟨a1, a2, a3⟩ := fold_ge l 0
  obtain ⟨b1, b2, b3⟩ := fold_ge m 0
  have le1 : l.foldl max 0 ≤ m.foldl max 0 := a3.elim (fun e => by rw [e]; exact b1) fun e => b2 _ ((h _).mp e)
  have le2 : m.foldl max 0 ≤ l.foldl max 0 := b3.elim (fun e => by rw [e]; exact a1) fun e => a2 _ ((h _).mpr e)
  omega
theorem top_ge {l : List Int} {x : Int} (h : x ∈ l) : x ≤ top l := (fold_ge l 0).2.1 x h
theorem top_0 (l : List Int) : 0 ≤ top l := (fold_ge l 0).1
def need (b : List Rw) (k : Str) : Int := top ((days b k).map fun d => 0 - lvl b k d)
def fst (b : List Rw) (k : Str) (p : Int → Bool) : Option Int := (days b k).find? fun d => p (lvl b k d)
def nday (b : List Rw) (k : Str) : Option Int := fst b k fun v => decide (0 < need b k) && decide (v + need b k = 0)
theorem need_ge {b : List Rw} {k : Str} {d : Int} (h : d ∈ days b k) : 0 ≤ lvl b k d + need b k := by
  have : 0 - lvl b k d ≤ need b k := top_ge (List.mem_map.mpr ⟨d, h, rfl⟩)
  omega
theorem fst_none {b : List Rw} {k : Str} {p : Int → Bool} (h : ∀ d ∈ days b k, p (lvl b k d) = false) : fst b k p = none := by
  unfold fst
  rw [List.find?_eq_none]
  exact fun d hd => by rw [h d hd]; decide
theorem find_congr {l : List Int} {p q : Int → Bool} (h : ∀ x ∈ l, p x = q x) : l.find? p = l.find? q := by
  induction l with
  | nil => rfl
  | cons a l ih =>
    rw [List.find?_cons, List.find?_cons, h a List.mem_cons_self, ih fun x hx => h x (List.mem_cons_of_mem _ hx)]
theorem lasts_need (b : List Rw) (k : Str) : fst b k (fun v => decide (v + need b k < 0)) = none := fst_none fun d hd => decide_eq_false (by have := need_ge hd; omega)
theorem lasts_less {b : List Rw} {k : Str} (h : 0 < need b k) : fst b k (fun v => decide (v + (need b k - 1) < 0)) = nday b k := by
  unfold nday fst
  refine find_congr fun d hd => ?_
  have := need_ge hd
  show decide (lvl b k d + (need b k - 1) < 0) = (decide (0 < need b k) && decide (lvl b k d + need b k = 0))
  rw [decide_eq_true h, Bool.true_and, decide_eq_decide]; omega
theorem sum_rev (l : List Int) : l.reverse.sum = l.sum := by
  induction l with
  | nil => rfl
  | cons a l ih => rw [List.reverse_cons, List.sum_append, ih, List.sum_cons, List.sum_cons, List.sum_nil]; omega
theorem lvl_rev (b : List Rw) (k : Str) (d : Int) : lvl b.reverse k d = lvl b k d := by
  unfold lvl
  rw [List.filter_reverse, List.map_reverse, sum_rev]
theorem days_rev (b : List Rw) (k : Str) : days b.reverse k = days b k := setGI_same fun x => by
  unfold dys
  rw [List.filter_reverse, List.map_reverse, List.mem_reverse]
theorem need_rev (b : List Rw) (k : Str) : need b.reverse k = need b k := by
  unfold need
  rw [days_rev]
  congr 1
  exact List.map_congr_left fun d _ => by rw [lvl_rev]
theorem nday_rev (b : List Rw) (k : Str) : nday b.reverse k = nday b k := by
  unfold nday fst
  rw [days_rev, need_rev]
  exact find_congr fun d _ => by rw [lvl_rev]
def kinds (b : List Rw) : List Str := setGS (b.map (·.2.1))
theorem kinds_rev (b : List Rw) : kinds b.reverse = kinds b := setGS_same fun x => by rw [List.map_reverse, List.mem_reverse]
/-- names of an ascending list, each once -/
def once (l : List Str) : List Str := l.foldl (fun f x => if x ∈ f then f else f ++ [x]) []
theorem once_go : ∀ (l f : List Str), (f ++ l).Pairwise (fun a b => leS a b = true) → f.Nodup → (l.foldl (fun f x => if x ∈ f then f else f ++ [x]) f).Pairwise (fun a b => leS a b = true) ∧ (l.foldl (fun f x => if x ∈ f then f else f ++ [x]) f).Nodup ∧ ∀ x, x ∈ l.foldl (fun f x => if x ∈ f then f else f ++ [x]) f ↔ x ∈ f ∨ x ∈ l
  | [], f, h1, h2 => ⟨by simpa using h1, h2, fun x => by simp⟩
  | a :: l, f, h1, h2 => by
    rw [List.foldl_cons]
    by_cases h : a ∈ f
    · rw [if_pos h]
      obtain ⟨q1, q2, q3⟩ := once_go l f (h1.sublist ((List.sublist_cons_self a l).append_left f)) h2
      refine ⟨q1, q2, fun x => ?_⟩
      rw [q3, List.mem_cons]
      constructor
      · rintro (z | z)
        · exact .inl z
        · exact .inr (.inr z)
      · rintro (z | z | z)
        · exact .inl z
        · exact .inl (z ▸ h)
        · exact .inr z
    · rw [if_neg h]
      obtain ⟨q1, q2, q3⟩ := once_go l (f ++ [a]) (by rw [List.append_assoc]; exact h1) (List.nodup_append.mpr ⟨h2, by simp, fun x hx y hy => by
        rw [List.mem_singleton] at hy; subst hy; exact fun z => h (z ▸ hx)⟩)
      refine ⟨q1, q2, fun x => ?_⟩
      rw [q3, List.mem_append, List.mem_singleton, List.mem_cons]
      constructor
      · rintro ((z | z) | z)
        · exact .inl z
        · exact .inr (.inl z)
        · exact .inr (.inr z)
      · rintro (z | z | z)
        · exact .inl (.inl z)
        · exact .inl (.inr z)
        · exact .inr z
theorem once_eq (l : List Str) : once (sortS l) = setGS l := by
  obtain ⟨q1, q2, q3⟩ := once_go (sortS l) [] (by simpa using sortS_sorted l) .nil
  refine setGS_eq q1 q2 fun k => ?_
  show k ∈ once (sortS l) ↔ _
  unfold once
  rw [q3, (sortS_perm l).mem_iff]
  simp
/-! open days -/
def shut (cl : List Int) (a b : Int) : List Int := cl.filter fun c => decide (a ≤ c) && decide (c < b)
def opn (cl : List Int) (a b : Int) : Int := if b ≤ a then 0 else b - a - ((shut cl a b).length : Int)
theorem shut_step {cl : List Int} (nd : cl.Nodup) {a b : Int} (h : a < b) : ((shut cl a b).length : Int) = ((shut cl (a + 1) b).length : Int) + if a ∈ cl then 1 else 0 := by
  induction cl with
  | nil => rfl
  | cons c cl ih =>
    rw [List.nodup_cons] at nd
    have ih := ih nd.2
    unfold shut at ih ⊢
    rw [List.filter_cons, List.filter_cons]
    by_cases e : c = a
    · subst e
      rw [if_pos (by simp; omega), if_neg (by simp; omega), List.length_cons, if_pos List.mem_cons_self]
      rw [if_neg nd.1] at ih
      omega
    · have em : (a ∈ c :: cl) ↔ a ∈ cl := ⟨fun z => (List.mem_cons.mp z).resolve_left fun z => e z.symm, List.mem_cons_of_mem _⟩
      have ep : (decide (a ≤ c) && decide (c < b)) = (decide (a + 1 ≤ c) && decide (c < b)) := by
        rw [decide_eq_decide.mpr (show a ≤ c ↔ a + 1 ≤ c by omega)]
      rw [ep]
      simp only [em]
      split
      · rw [List.length_cons, List.length_cons]; omega
      · exact ih
theorem opn_step {cl : List Int} (nd : cl.Nodup) {a b : Int} (h : a < b) : opn cl a b = opn cl (a + 1) b + if a ∈ cl then 0 else 1 := by
  have e := shut_step nd h
  unfold opn
  rw [if_neg (by omega)]
  by_cases h2 : b ≤ a + 1
  · rw [if_pos h2]
    have : shut cl (a + 1) b = [] := by
      unfold shut
      rw [List.filter_eq_nil_iff]
      intro x _
      simp; omega
    have e0 : (([] : List Int).length : Int) = 0 := rfl
    rw [this, e0] at e
    split at e
    · rename_i hm; rw [if_pos hm]; omega
    · rename_i hm; rw [if_neg hm]; omega
  · rw [if_neg h2]
    split at e
    · rename_i hm; rw [if_pos hm]; omega
    · rename_i hm; rw [if_neg hm]; omega
end PSc
set_option Elab.async false
set_option linter.all false
set_option maxRecDepth 100000
set_option maxHeartbeats 4000000
namespace G
open PySem PySem.Spec L2 PL
def topS (i : Nat) : Stmt := PySem.Challenge.pw_piecesturned_k76_open_days_leads_and_sto.main.body.getD i (.Pass ⟨0, 0, 0, 0⟩)
abbrev FnP (K : PySem.W.Frag) (x : Str) (st : Stmt) (f : Addr) (fd : FuncData) : Prop := FunD K x x (defArgs st) (defBody st) (defScope st) [] [] f fd

/-! levels_of -/
abbrev st_levels_of : Stmt := topS 1
theorem sc_levels_of : FnScope ["book", "kind", "days", "some", "day", "other", "change", "_"] ["book", "kind"] (defScope st_levels_of) := ⟨rfl, rfl, rfl, by decide +kernel, rfl, by decide +kernel, by decide +kernel⟩
def s_levels_of : En → Out := (sSeq (sSet 2 [] (evSh (evSortSC (eiSeq (evVar 0)) [4, 5, 7] (egTup 3 (egCons (egName 4) (egCons (egName 5) (egCons (egName 7) egNil)))) (evEB (evBin fEq (evVar 5) (evVar 1))) (evEsc (evVar 4))))) (sSeq (sShare 0 (sSet 3 [] (evSh (evComp (eiSeq (evVar 0)) [4, 5, 6] (egTup 3 (egCons (egName 4) (egCons (egName 5) (egCons (egName 6) egNil)))) (evEB (evBin fEq (evVar 5) (evVar 1))) (evTup (evCons (evEsc (evVar 4)) (evCons (evEsc (evVar 6)) evNil))))))) (sShare 3 (sShare 2 (sRet (evComp (eiSeq (evVar 2)) [4] (egName 4) evYes (evTup (evCons (evEsc (evVar 4)) (evCons (evC1 fSum (evCons (evSh (evComp (eiSeq (evVar 3)) [5, 6] (egTup 2 (egCons (egName 5) (egCons (egName 6) egNil))) (evEB (evBin fLeI (evVar 5) (evVar 4))) (evEsc (evVar 6)))) evNil)) evNil)))))))))
def d_levels_of : List T → Rs T := fnD 2 6 s_levels_of
theorem ok_levels_of {P : Program} {w : World} {K : PySem.W.Frag} {mg : Str → Option Value} {base : Heap} {f : Addr} {fd : FuncData} (F : FnP K "levels_of" st_levels_of f fd) (m_sorted : mg "sorted" = none) (m_sum : mg "sum" = none) :
    FnOk P w K mg base (L2.CX P w) 1 f fd ["book", "kind"] (spD K mg 2 d_levels_of) := by
  have nd := (sc_levels_of).nd
  exact fn_ok (k := 0) (m := 6) F sc_levels_of rfl rfl fun cdv A outer s H Q E hr => ⟨_, _, (dss_cons (ds_set 2 nd (de_sh (de_sortSC (own := [("day", 4), ("other", 5), ("_", 7)]) (P := P) (w := w) [4, 5, 7] (by rfl) nd (di_seqK (K := K) (dv_var 0)) (blkOk_by (by kernel_rfl)) (fun _ _ _ _ _ => (dg_tupK (K := K) (by rfl) (dgs_cons (dg_name 4 nd) (dgs_cons (dg_name 5 nd) (dgs_cons (dg_name 7 nd) dgs_nil))))) (fun _ _ _ _ _ => (dts_one (dt_cmp (op_eqsK (K := K) (by exact hr.units)) sem_eq (dv_var 5) (dv_var 1) (nomark _)))) (fun _ _ _ _ _ => (de_esc (dv_var 4))) (by rfl) m_sorted))) (dss_cons (ds_share 0 (ds_set 3 nd (de_sh (de_lc (own := [("day", 4), ("other", 5), ("change", 6)]) [4, 5, 6] (by rfl) nd (di_seqK (K := K) (dv_var 0)) (blkOk_by (by kernel_rfl)) (fun _ _ _ _ _ => (dg_tupK (K := K) (by rfl) (dgs_cons (dg_name 4 nd) (dgs_cons (dg_name 5 nd) (dgs_cons (dg_name 6 nd) dgs_nil))))) (fun _ _ _ _ _ => (dts_one (dt_cmp (op_eqsK (K := K) (by exact hr.units)) sem_eq (dv_var 5) (dv_var 1) (nomark _)))) (fun _ _ _ _ _ => (de_tuple (dae_cons (de_esc (dv_var 4)) (dae_cons (de_esc (dv_var 6)) dae_nil)))))))) (dss_one (ds_share 3 (ds_share 2 (ds_ret (de_lc (own := [("day", 4)]) [4] (by rfl) nd (di_seqK (K := K) (dv_var 2)) (blkOk_by (by kernel_rfl)) (fun _ _ _ _ _ => (dg_name 4 nd)) (fun _ _ _ _ _ => dts_nil) (fun _ _ _ _ _ => (de_tuple (dae_cons (de_esc (dv_var 4)) (dae_cons (de_callB (cr_sumK (K := K) (by rfl)) sem_sum (by rfl) m_sum (by decide +kernel) (das_cons (dv_of (de_lc (own := [("other", 5), ("change", 6)]) [5, 6] (by rfl) nd (di_seqK (K := K) (dv_var 3)) (blkOk_by (by kernel_rfl)) (fun _ _ _ _ _ => (dg_tupK (K := K) (by rfl) (dgs_cons (dg_name 5 nd) (dgs_cons (dg_name 6 nd) dgs_nil)))) (fun _ _ _ _ _ => (dts_one (dt_cmp op_le sem_B0 (dv_var 5) (dv_var 4) (nomark _)))) (fun _ _ _ _ _ => (de_esc (dv_var 6))))) das_nil)) dae_nil)))))))))))⟩

/-! need_of -/
abbrev st_need_of : Stmt := topS 2
theorem sc_need_of : FnScope ["book", "kind", "levels", "number", "days", "day", "level", "_"] ["book", "kind"] (defScope st_need_of) := ⟨rfl, rfl, rfl, by decide +kernel, rfl, by decide +kernel, by decide +kernel⟩
def s_need_of : En → Out := (sSeq (sShare 1 (sShare 0 (sSet 2 [] (evSh (evCall 2 d_levels_of (evCons (evVar 0) (evCons (evVar 1) evNil))))))) (sSeq (sShare 2 (sSet 3 [] (evC1 fMax (evCons (evSh (evBin fAdd (evSh (evLst (evCons (evC (.int 0)) evNil))) (evSh (evComp (eiSeq (evVar 2)) [7, 6] (egTup 2 (egCons (egName 7) (egCons (egName 6) egNil))) evYes (evBin fSub (evSh (evC (.int 0))) (evVar 6)))))) evNil)))) (sSeq (sShare 2 (sSet 4 [] (evSh (evComp (eiSeq (evVar 2)) [5, 6] (egTup 2 (egCons (egName 5) (egCons (egName 6) egNil))) (evAnd (evEB (evBin fGtI (evVar 3) (evSh (evC (.int 0))))) (evEB (evBin fEq (evSh (evBin fAdd (evVar 6) (evVar 3))) (evSh (evC (.int 0)))))) (evEsc (evVar 5)))))) (sSeq (sIf (evNot (evTru (evVar 4))) (sRet (evTup (evCons (evVar 1) (evCons (evVar 3) (evCons (evC .none) evNil))))) sNil) (sRet (evTup (evCons (evVar 1) (evCons (evVar 3) (evCons (evEsc (evBin fIx (evVar 4) (evSh (evC (.int 0))))) evNil)))))))))
def d_need_of : List T → Rs T := fnD 2 6 s_need_of
theorem ok_need_of {P : Program} {w : World} {K : PySem.W.Frag} {mg : Str → Option Value} {base : Heap} {f : Addr} {fd : FuncData} (F : FnP K "need_of" st_need_of f fd) {f_levels_of : Addr} {fd_levels_of : FuncData} (G_levels_of : FnOk P w K mg base (L2.CX P w) 1 f_levels_of fd_levels_of ["book", "kind"] (spD K mg 2 d_levels_of)) (g_levels_of : mg "levels_of" = some (.ref f_levels_of)) (k_levels_of : PySem.W.keepIn K (.ref f_levels_of) = true) (b_levels_of : Binds K fd_levels_of ["book", "kind"] []) (m_max : mg "max" = none) :
    FnOk P w K mg base (L2.CX P w) 2 f fd ["book", "kind"] (spD K mg 2 d_need_of) := by
  have nd := (sc_need_of).nd
  exact fn_ok (k := 1) (m := 6) F sc_need_of rfl rfl fun cdv A outer s H Q E hr => ⟨_, _, (dss_cons (ds_share 1 (ds_share 0 (ds_set 2 nd (de_sh (de_callK (K := K) (mg := mg) G_levels_of (hr.mono (by omega)) (takes_of (by rfl) (by rfl) (by rfl) (by rfl)) (by rfl) g_levels_of k_levels_of b_levels_of (das_cons (dv_var 0) (das_cons (dv_var 1) das_nil))))))) (dss_cons (ds_share 2 (ds_set 3 nd (de_callB (cr_maxK (K := K) (by rfl)) sem_max (by rfl) m_max (by decide +kernel) (das_cons (dv_of (de_op (op_plusK (K := K)) sem_add (dv_of (de_list (dae_cons de_int dae_nil))) (dv_of (de_lc (own := [("_", 7), ("level", 6)]) [7, 6] (by rfl) nd (di_seqK (K := K) (dv_var 2)) (blkOk_by (by kernel_rfl)) (fun _ _ _ _ _ => (dg_tupK (K := K) (by rfl) (dgs_cons (dg_name 7 nd) (dgs_cons (dg_name 6 nd) dgs_nil)))) (fun _ _ _ _ _ => dts_nil) (fun _ _ _ _ _ => (de_op op_sub sem_I0 (dv_of de_int) (dv_var 6))))))) das_nil)))) (dss_cons (ds_share 2 (ds_setLcSh (own := [("day", 5), ("level", 6)]) 4 [5, 6] (by rfl) nd (di_seqK (K := K) (dv_var 2)) (blkOk_by (by kernel_rfl)) (fun _ _ _ _ _ => (dg_tupK (K := K) (by rfl) (dgs_cons (dg_name 5 nd) (dgs_cons (dg_name 6 nd) dgs_nil)))) (fun _ _ _ _ _ => (dts_one (dt_bool (dw_and (dt_cmp op_gt sem_B0 (dv_var 3) (dv_of de_int) (nomark _)) (dw_and1 (dt_cmp (op_eqsK (K := K) (by exact hr.units)) sem_eq (dv_of (de_op (op_plusK (K := K)) sem_add (dv_var 6) (dv_var 3))) (dv_of de_int) (nomark _))))))) (fun _ _ _ _ _ => (de_esc (dv_var 5))))) (dss_cons (ds_if (dt_not (dt_truK (K := K) (dv_var 4))) (dss_one (ds_ret (de_tuple (dae_cons (de_mov 1) (dae_cons (de_mov 3) (dae_cons de_non dae_nil)))))) dss_nil) (dss_one (ds_ret (de_tuple (dae_cons (de_mov 1) (dae_cons (de_mov 3) (dae_cons (de_esc (dv_ixK (K := K) (dv_var 4) (dv_of de_int))) dae_nil))))))))))⟩

/-! needs_of -/
abbrev st_needs_of : Stmt := topS 3
theorem sc_needs_of : FnScope ["book", "kind", "row"] ["book"] (defScope st_needs_of) := ⟨rfl, rfl, rfl, by decide +kernel, rfl, by decide +kernel, by decide +kernel⟩
def s_needs_of : En → Out := (sShare 0 (sRet (evComp (eiSeq (evSh (evSortSC (eiSeq (evVar 0)) [2] (egName 2) evYes (evEsc (evBin fIx (evVar 2) (evSh (evC (.int 1)))))))) [1] (egName 1) evYes (evCall 2 d_need_of (evCons (evVar 0) (evCons (evVar 1) evNil))))))
def d_needs_of : List T → Rs T := fnD 1 2 s_needs_of
theorem ok_needs_of {P : Program} {w : World} {K : PySem.W.Frag} {mg : Str → Option Value} {base : Heap} {f : Addr} {fd : FuncData} (F : FnP K "needs_of" st_needs_of f fd) {f_need_of : Addr} {fd_need_of : FuncData} (G_need_of : FnOk P w K mg base (L2.CX P w) 2 f_need_of fd_need_of ["book", "kind"] (spD K mg 2 d_need_of)) (g_need_of : mg "need_of" = some (.ref f_need_of)) (k_need_of : PySem.W.keepIn K (.ref f_need_of) = true) (b_need_of : Binds K fd_need_of ["book", "kind"] []) (m_sorted : mg "sorted" = none) :
    FnOk P w K mg base (L2.CX P w) 3 f fd ["book"] (spD K mg 1 d_needs_of) := by
  have nd := (sc_needs_of).nd
  exact fn_ok (k := 2) (m := 2) F sc_needs_of rfl rfl fun cdv A outer s H Q E hr => ⟨_, _, (dss_one (ds_share 0 (ds_ret (de_lc (own := [("kind", 1)]) [1] (by rfl) nd (di_seqK (K := K) (dv_of (de_sortSC (own := [("row", 2)]) (P := P) (w := w) [2] (by rfl) nd (di_seqK (K := K) (dv_var 0)) (blkOk_by (by kernel_rfl)) (fun _ _ _ _ _ => (dg_name 2 nd)) (fun _ _ _ _ _ => dts_nil) (fun _ _ _ _ _ => (de_esc (dv_ixK (K := K) (dv_var 2) (dv_of de_int)))) (by rfl) m_sorted))) (blkOk_by (by kernel_rfl)) (fun _ _ _ _ _ => (dg_name 1 nd)) (fun _ _ _ _ _ => dts_nil) (fun _ _ _ _ _ => (de_callK (K := K) (mg := mg) G_need_of (hr.mono (by omega)) takes0 (by rfl) g_need_of k_need_of b_need_of (das_cons (dv_var 0) (das_cons (dv_var 1) das_nil))))))))⟩

/-! lasts_until -/
abbrev st_lasts_until : Stmt := topS 4
theorem sc_lasts_until : FnScope ["book", "kind", "number", "days", "day", "level"] ["book", "kind", "number"] (defScope st_lasts_until) := ⟨rfl, rfl, rfl, by decide +kernel, rfl, by decide +kernel, by decide +kernel⟩
def s_lasts_until : En → Out := (sSeq (sShare 1 (sShare 0 (sSet 3 [] (evSh (evComp (eiSeq (evSh (evCall 2 d_levels_of (evCons (evVar 0) (evCons (evVar 1) evNil))))) [4, 5] (egTup 2 (egCons (egName 4) (egCons (egName 5) egNil))) (evEB (evBin fLt (evSh (evBin fAdd (evVar 5) (evVar 2))) (evSh (evC (.int 0))))) (evEsc (evVar 4))))))) (sSeq (sIf (evNot (evTru (evVar 3))) (sRet (evC .none)) sNil) (sRet (evEsc (evBin fIx (evVar 3) (evSh (evC (.int 0))))))))
def d_lasts_until : List T → Rs T := fnD 3 3 s_lasts_until
theorem ok_lasts_until {P : Program} {w : World} {K : PySem.W.Frag} {mg : Str → Option Value} {base : Heap} {f : Addr} {fd : FuncData} (F : FnP K "lasts_until" st_lasts_until f fd) {f_levels_of : Addr} {fd_levels_of : FuncData} (G_levels_of : FnOk P w K mg base (L2.CX P w) 1 f_levels_of fd_levels_of ["book", "kind"] (spD K mg 2 d_levels_of)) (g_levels_of : mg "levels_of" = some (.ref f_levels_of)) (k_levels_of : PySem.W.keepIn K (.ref f_levels_of) = true) (b_levels_of : Binds K fd_levels_of ["book", "kind"] []) :
    FnOk P w K mg base (L2.CX P w) 2 f fd ["book", "kind", "number"] (spD K mg 3 d_lasts_until) := by
  have nd := (sc_lasts_until).nd
  exact fn_ok (k := 1) (m := 3) F sc_lasts_until rfl rfl fun cdv A outer s H Q E hr => ⟨_, _, (dss_cons (ds_share 1 (ds_share 0 (ds_setLcSh (own := [("day", 4), ("level", 5)]) 3 [4, 5] (by rfl) nd (di_seqK (K := K) (dv_of (de_callK (K := K) (mg := mg) G_levels_of (hr.mono (by omega)) (takes_of (by rfl) (by rfl) (by rfl) (by rfl)) (by rfl) g_levels_of k_levels_of b_levels_of (das_cons (dv_var 0) (das_cons (dv_var 1) das_nil))))) (blkOk_by (by kernel_rfl)) (fun _ _ _ _ _ => (dg_tupK (K := K) (by rfl) (dgs_cons (dg_name 4 nd) (dgs_cons (dg_name 5 nd) dgs_nil)))) (fun _ _ _ _ _ => (dts_one (dt_cmp (op_lts (K := K) (by exact hr.units)) sem_lts (dv_of (de_op (op_plusK (K := K)) sem_add (dv_var 5) (dv_var 2))) (dv_of de_int) (nomark _)))) (fun _ _ _ _ _ => (de_esc (dv_var 4)))))) (dss_cons (ds_if (dt_not (dt_truK (K := K) (dv_var 3))) (dss_one (ds_ret de_non)) dss_nil) (dss_one (ds_ret (de_esc (dv_ixK (K := K) (dv_var 3) (dv_of de_int)))))))⟩

/-! is_open -/
abbrev st_is_open : Stmt := topS 6
theorem sc_is_open : FnScope ["closed", "day"] ["closed", "day"] (defScope st_is_open) := ⟨rfl, rfl, rfl, by decide +kernel, rfl, by decide +kernel, by decide +kernel⟩
def s_is_open : En → Out := (sRet (evBin fNin (evVar 1) (evVar 0)))
def d_is_open : List T → Rs T := fnD 2 0 s_is_open
theorem ok_is_open {P : Program} {w : World} {K : PySem.W.Frag} {mg : Str → Option Value} {base : Heap} {f : Addr} {fd : FuncData} (F : FnP K "is_open" st_is_open f fd) :
    FnOk P w K mg base (L2.CX P w) 1 f fd ["closed", "day"] (spD K mg 2 d_is_open) := by
  have nd := (sc_is_open).nd
  exact fn_ok (k := 0) (m := 0) F sc_is_open rfl rfl fun cdv A outer s H Q E hr => ⟨_, _, (dss_one (ds_ret (de_cmp (op_ninsK (K := K) (by exact hr)) sem_nin (dv_var 1) (dv_var 0) (by rfl))))⟩

/-! open_days -/
abbrev st_open_days : Stmt := topS 7
theorem sc_open_days : FnScope ["closed", "start", "stop", "day"] ["closed", "start", "stop"] (defScope st_open_days) := ⟨rfl, rfl, rfl, by decide +kernel, rfl, by decide +kernel, by decide +kernel⟩
def s_open_days : En → Out := (sSeq (sIf (evEB (evBin fLeI (evVar 2) (evVar 1))) (sRet (evC (.int 0))) sNil) (sShare 0 (sRet (evBin fSub (evSh (evBin fSub (evVar 2) (evVar 1))) (evSh (evC1 fLen (evCons (evSh (evComp (eiSeq (evVar 0)) [3] (egName 3) (evEB (evChain fLeI fLt (evVar 1) (evVar 3) (evVar 2))) (evEsc (evVar 3)))) evNil)))))))
def d_open_days : List T → Rs T := fnD 3 1 s_open_days
theorem ok_open_days {P : Program} {w : World} {K : PySem.W.Frag} {mg : Str → Option Value} {base : Heap} {f : Addr} {fd : FuncData} (F : FnP K "open_days" st_open_days f fd) (m_len : mg "len" = none) :
    FnOk P w K mg base (L2.CX P w) 1 f fd ["closed", "start", "stop"] (spD K mg 3 d_open_days) := by
  have nd := (sc_open_days).nd
  exact fn_ok (k := 0) (m := 1) F sc_open_days rfl rfl fun cdv A outer s H Q E hr => ⟨_, _, (dss_cons (ds_if (dt_cmp op_le sem_B0 (dv_var 2) (dv_var 1) (nomark _)) (dss_one (ds_ret de_int)) dss_nil) (dss_one (ds_share 0 (ds_ret (de_op op_sub sem_I0 (dv_of (de_op op_sub sem_I0 (dv_var 2) (dv_var 1))) (dv_of (de_callB (cr_lenK (K := K)) sem_len (by rfl) m_len (by decide +kernel) (das_cons (dv_of (de_lc (own := [("day", 3)]) [3] (by rfl) nd (di_seqK (K := K) (dv_var 0)) (blkOk_by (by kernel_rfl)) (fun _ _ _ _ _ => (dg_name 3 nd)) (fun _ _ _ _ _ => (dts_one (dt_chain op_le sem_B0 (op_lts (K := K) (by exact hr.units)) sem_lts (dv_var 1) (dv_var 3) (dv_var 2)))) (fun _ _ _ _ _ => (de_esc (dv_var 3))))) das_nil))))))))⟩

/-! order_by -/
abbrev st_order_by : Stmt := topS 8
theorem sc_order_by : FnScope ["closed", "lead", "day", "found"] ["closed", "lead", "day"] (defScope st_order_by) := ⟨rfl, rfl, rfl, by decide +kernel, rfl, by decide +kernel, by decide +kernel⟩
def s_order_by : En → Out := (sSeq (sSet 3 [] (evC (.int 0))) (sSeq (sWhile (evAnd (evEB (evBin fLt (evVar 3) (evVar 1))) (evEB (evBin fGtI (evVar 2) (evSh (evC (.int 0)))))) (sSeq (sSet 2 [] (evBin fSub (evVar 2) (evSh (evC (.int 1))))) (sShare 0 (sSet 3 [] (evBin fIAdd (evVar 3) (evSh (evC1 fInt1 (evCons (evSh (evCall 2 d_is_open (evCons (evVar 0) (evCons (evVar 2) evNil)))) evNil)))))))) (sSeq (sIf (evEB (evBin fLt (evVar 3) (evVar 1))) (sRet (evC .none)) sNil) (sRet (evVar 2)))))
def d_order_by : List T → Rs T := fnD 3 1 s_order_by
theorem ok_order_by {P : Program} {w : World} {K : PySem.W.Frag} {mg : Str → Option Value} {base : Heap} {f : Addr} {fd : FuncData} (F : FnP K "order_by" st_order_by f fd) {f_is_open : Addr} {fd_is_open : FuncData} (G_is_open : FnOk P w K mg base (L2.CX P w) 1 f_is_open fd_is_open ["closed", "day"] (spD K mg 2 d_is_open)) (g_is_open : mg "is_open" = some (.ref f_is_open)) (k_is_open : PySem.W.keepIn K (.ref f_is_open) = true) (b_is_open : Binds K fd_is_open ["closed", "day"] []) (m_int : mg "int" = none) :
    FnOk P w K mg base (L2.CX P w) 2 f fd ["closed", "lead", "day"] (spD K mg 3 d_order_by) := by
  have nd := (sc_order_by).nd
  exact fn_ok (k := 1) (m := 1) F sc_order_by rfl rfl fun cdv A outer s H Q E hr => ⟨_, _, (dss_cons (ds_set 3 nd de_int) (dss_cons (ds_while (passes_of (by rfl)) (dt_bool (dw_and (dt_cmp (op_lts (K := K) (by exact hr.units)) sem_lts (dv_var 3) (dv_var 1) (nomark _)) (dw_and1 (dt_cmp op_gt sem_B0 (dv_var 2) (dv_of de_int) (nomark _))))) (dss_cons (ds_aug 2 nd iop_sub sem_I0 (dv_of de_int)) (dss_one (ds_share 0 (ds_aug 3 nd iop_plus sem_iadd (dv_of (de_callTy call_int1 sem_int1 (by rfl) m_int (by decide +kernel) (das_cons (dv_of (de_callK (K := K) (mg := mg) G_is_open (hr.mono (by omega)) (takes_of (by rfl) (by rfl) (by rfl) (by rfl)) (by rfl) g_is_open k_is_open b_is_open (das_cons (dv_var 0) (das_cons (dv_var 2) das_nil)))) das_nil)))))))) (dss_cons (ds_if (dt_cmp (op_lts (K := K) (by exact hr.units)) sem_lts (dv_var 3) (dv_var 1) (nomark _)) (dss_one (ds_ret de_non)) dss_nil) (dss_one (ds_ret (de_mov 2))))))⟩

/-! _law_cell -/
abbrev st__law_cell : Stmt := topS 10
theorem sc__law_cell : FnScope ["script", "k"] ["script", "k"] (defScope st__law_cell) := ⟨rfl, rfl, rfl, by decide +kernel, rfl, by decide +kernel, by decide +kernel⟩
def s__law_cell : En → Out := (sSeq (sIf (evEB (evBin fLt (evVar 1) (evSh (evC1 fLen (evCons (evVar 0) evNil))))) (sRet (evC1 fInt1 (evCons (evBin fIx (evVar 0) (evVar 1)) evNil))) sNil) (sRet (evC (.int 0))))
def d__law_cell : List T → Rs T := fnD 2 0 s__law_cell
theorem ok__law_cell {P : Program} {w : World} {K : PySem.W.Frag} {mg : Str → Option Value} {base : Heap} {f : Addr} {fd : FuncData} (F : FnP K "_law_cell" st__law_cell f fd) (m_int : mg "int" = none) (m_len : mg "len" = none) :
    FnOk P w K mg base (L2.CX P w) 1 f fd ["script", "k"] (spD K mg 2 d__law_cell) := by
  have nd := (sc__law_cell).nd
  exact fn_ok (k := 0) (m := 0) F sc__law_cell rfl rfl fun cdv A outer s H Q E hr => ⟨_, _, (dss_cons (ds_if (dt_cmp (op_lts (K := K) (by exact hr.units)) sem_lts (dv_var 1) (dv_of (de_callB (cr_lenK (K := K)) sem_len (by rfl) m_len (by decide +kernel) (das_cons (dv_var 0) das_nil))) (nomark _)) (dss_one (ds_ret (de_callTy call_int1 sem_int1 (by rfl) m_int (by decide +kernel) (das_cons (dv_ixK (K := K) (dv_var 0) (dv_var 1)) das_nil)))) dss_nil) (dss_one (ds_ret de_int)))⟩

/-! _law_numbers -/
abbrev st__law_numbers : Stmt := topS 11
theorem sc__law_numbers : FnScope ["cell", "count", "limit", "found", "k", "mixed"] ["cell", "count", "limit"] (defScope st__law_numbers) := ⟨rfl, rfl, rfl, by decide +kernel, rfl, by decide +kernel, by decide +kernel⟩
def s__law_numbers : En → Out := (sSeq (sSet 3 [] (evLst evNil)) (sSeq (sIf (evEB (evBin fGeI (evVar 0) (evSh (evBin fPow (evSh (evC (.int 10))) (evSh (evC (.int 18))))))) (sSeq (sFor (eiRng1 (evCons (evVar 1) evNil)) (egName 4) (sSeq (sApp 3 [] (evBin fMod (evSh (evC1 fInt1 (evCons (evVar 0) evNil))) (evVar 2))) (sSet 0 [] (evSh (evBin fDiv (evSh (evC1 fInt1 (evCons (evVar 0) evNil))) (evVar 2)))))) (sRet (evVar 3))) sNil) (sSeq (sFor (eiRng1 (evCons (evVar 1) evNil)) (egName 4) (sSeq (sSet 5 [] (evSh (evBin fMod (evSh (evC1 fInt1 (evCons (evSh (evBin fAdd (evSh (evBin fAdd (evSh (evBin fMul (evVar 0) (evSh (evC (.int 48271))))) (evSh (evBin fMul (evVar 4) (evSh (evC (.int 69621))))))) (evSh (evC (.int 7))))) evNil))) (evSh (evC (.int 2147483647)))))) (sSeq (sSet 5 [] (evSh (evBin fMod (evSh (evC1 fInt1 (evCons (evSh (evBin fAdd (evSh (evBin fAdd (evSh (evBin fAdd (evSh (evBin fMul (evVar 5) (evVar 5))) (evSh (evBin fMul (evVar 5) (evSh (evC (.int 40692))))))) (evSh (evBin fMul (evVar 4) (evSh (evC (.int 16807))))))) (evSh (evC (.int 11))))) evNil))) (evSh (evC (.int 2147483399)))))) (sApp 3 [] (evBin fMod (evSh (evC1 fInt1 (evCons (evSh (evBin fDiv (evVar 5) (evSh (evC (.int 32))))) evNil))) (evVar 2)))))) (sRet (evVar 3)))))
def d__law_numbers : List T → Rs T := fnD 3 3 s__law_numbers
theorem ok__law_numbers {P : Program} {w : World} {K : PySem.W.Frag} {mg : Str → Option Value} {base : Heap} {f : Addr} {fd : FuncData} (F : FnP K "_law_numbers" st__law_numbers f fd) (m_int : mg "int" = none) (m_range : mg "range" = none) :
    FnOk P w K mg base (L2.CX P w) 1 f fd ["cell", "count", "limit"] (spD K mg 3 d__law_numbers) := by
  have nd := (sc__law_numbers).nd
  exact fn_ok (k := 0) (m := 3) F sc__law_numbers rfl rfl fun cdv A outer s H Q E hr => ⟨_, _, (dss_cons (ds_set 3 nd (de_list dae_nil)) (dss_cons (ds_if (dt_cmp op_ge sem_B0 (dv_var 0) (dv_of (de_op op_pow sem_pow (dv_of de_int) (dv_of de_int))) (nomark _)) (dss_cons (ds_for (passes_of (by rfl)) (by rfl) (di_range1 (by rfl) m_range (das_cons (dv_var 1) das_nil)) (dg_name 4 nd) (dss_cons (ds_app 3 (de_op op_mod sem_mod (dv_of (de_callTy call_int1 sem_int1 (by rfl) m_int (by decide +kernel) (das_cons (dv_var 0) das_nil))) (dv_var 2))) (dss_one (ds_set 0 nd (de_sh (de_op op_fdivW sem_div (dv_of (de_callTy call_int1 sem_int1 (by rfl) m_int (by decide +kernel) (das_cons (dv_var 0) das_nil))) (dv_var 2))))))) (dss_one (ds_ret (de_mov 3)))) dss_nil) (dss_cons (ds_for (passes_of (by rfl)) (by rfl) (di_range1 (by rfl) m_range (das_cons (dv_var 1) das_nil)) (dg_name 4 nd) (dss_cons (ds_set 5 nd (de_sh (de_op op_mod sem_mod (dv_of (de_callTy call_int1 sem_int1 (by rfl) m_int (by decide +kernel) (das_cons (dv_of (de_op (op_plusK (K := K)) sem_add (dv_of (de_op (op_plusK (K := K)) sem_add (dv_of (de_op op_times sem_mul (dv_var 0) (dv_of de_int))) (dv_of (de_op op_times sem_mul (dv_var 4) (dv_of de_int))))) (dv_of de_int))) das_nil))) (dv_of de_int)))) (dss_cons (ds_set 5 nd (de_sh (de_op op_mod sem_mod (dv_of (de_callTy call_int1 sem_int1 (by rfl) m_int (by decide +kernel) (das_cons (dv_of (de_op (op_plusK (K := K)) sem_add (dv_of (de_op (op_plusK (K := K)) sem_add (dv_of (de_op (op_plusK (K := K)) sem_add (dv_of (de_op op_times sem_mul (dv_var 5) (dv_var 5))) (dv_of (de_op op_times sem_mul (dv_var 5) (dv_of de_int))))) (dv_of (de_op op_times sem_mul (dv_var 4) (dv_of de_int))))) (dv_of de_int))) das_nil))) (dv_of de_int)))) (dss_one (ds_app 3 (de_op op_mod sem_mod (dv_of (de_callTy call_int1 sem_int1 (by rfl) m_int (by decide +kernel) (das_cons (dv_of (de_op op_fdivW sem_div (dv_var 5) (dv_of de_int))) das_nil))) (dv_var 2))))))) (dss_one (ds_ret (de_mov 3))))))⟩

/-! _law_same -/
abbrev st__law_same : Stmt := topS 12
theorem sc__law_same : FnScope ["told", "due", "k"] ["told", "due"] (defScope st__law_same) := ⟨rfl, rfl, rfl, by decide +kernel, rfl, by decide +kernel, by decide +kernel⟩
def s__law_same (rec : List T → Rs T) : En → Out := (sSeq (sIf (evTru (evSh (evIsi "list" (evVar 1)))) (sIf (evOr (evNot (evTru (evSh (evIsi "list" (evVar 0))))) (evEB (evBin fNe (evSh (evC1 fLen (evCons (evVar 0) evNil))) (evSh (evC1 fLen (evCons (evVar 1) evNil)))))) (sRet (evC (.bool false))) sNil) (sIf (evTru (evSh (evIsi "tuple" (evVar 1)))) (sIf (evOr (evNot (evTru (evSh (evIsi "tuple" (evVar 0))))) (evEB (evBin fNe (evSh (evC1 fLen (evCons (evVar 0) evNil))) (evSh (evC1 fLen (evCons (evVar 1) evNil)))))) (sRet (evC (.bool false))) sNil) (sIf (evEB (evBin fIsN (evVar 1) (evSh (evC .none)))) (sRet (evBin fIsN (evVar 0) (evSh (evC .none)))) (sIf (evTru (evSh (evIsi "bool" (evVar 1)))) (sRet (evAndV (evSh (evIsi "bool" (evVar 0))) (evBin fEq (evVar 0) (evVar 1)))) (sIf (evTru (evSh (evIsi "int" (evVar 1)))) (sRet (evAndV (evSh (evIsi "int" (evVar 0))) (evAndV (evSh (evNotV (evSh (evIsi "bool" (evVar 0))))) (evBin fEq (evVar 0) (evVar 1))))) (sRet (evAndV (evSh (evIsi "str" (evVar 0))) (evBin fEq (evVar 0) (evVar 1))))))))) (sSeq (sFor (eiRng1 (evCons (evSh (evC1 fLen (evCons (evVar 1) evNil))) evNil)) (egName 2) (sIf (evNot (evTru (evSh (evCall 2 rec (evCons (evBin fIx (evVar 0) (evVar 2)) (evCons (evBin fIx (evVar 1) (evVar 2)) evNil)))))) (sRet (evC (.bool false))) sNil)) (sRet (evC (.bool true)))))
def d__law_same : Nat → List T → Rs T
  | 0 => fun _ => .bad
  | n + 1 => fnD 2 1 (s__law_same (d__law_same n))
theorem ok__law_same {P : Program} {w : World} {K : PySem.W.Frag} {mg : Str → Option Value} {base : Heap} {f : Addr} {fd : FuncData} (F : FnP K "_law_same" st__law_same f fd) (g__law_same : mg "_law_same" = some (.ref f)) (k__law_same : PySem.W.keepIn K (.ref f) = true) (b__law_same : Binds K fd ["told", "due"] []) (m_bool : mg "bool" = none) (m_int : mg "int" = none) (m_isinstance : mg "isinstance" = none) (m_len : mg "len" = none) (m_list : mg "list" = none) (m_range : mg "range" = none) (m_str : mg "str" = none) (m_tuple : mg "tuple" = none) : ∀ n, FnOk P w K mg base (L2.CX P w) (1 + n) f fd ["told", "due"] (spD K mg 2 (d__law_same n))
  | 0 => fn_bad rfl
  | n + 1 => by
    have ih := ok__law_same (P := P) (w := w) (base := base) F g__law_same k__law_same b__law_same m_bool m_int m_isinstance m_len m_list m_range m_str m_tuple n
    have nd := (sc__law_same).nd
    exact fn_ok (k := 1 + n) (m := 1) F sc__law_same rfl rfl fun cdv A outer s H Q E hr => ⟨_, _, (dss_cons (ds_if (dt_truK (K := K) (dv_of (de_isiK (K := K) (by rfl) m_isinstance (b := "list") (dv_var 1) (by rfl) m_list (by decide +kernel) (by decide)))) (dss_one (ds_if (dt_bool (dw_or (dt_not (dt_truK (K := K) (dv_of (de_isiK (K := K) (by rfl) m_isinstance (b := "list") (dv_var 0) (by rfl) m_list (by decide +kernel) (by decide))))) (dw_or1 (dt_cmp (op_nesK (K := K) (by exact hr.units)) sem_ne (dv_of (de_callB (cr_lenK (K := K)) sem_len (by rfl) m_len (by decide +kernel) (das_cons (dv_var 0) das_nil))) (dv_of (de_callB (cr_lenK (K := K)) sem_len (by rfl) m_len (by decide +kernel) (das_cons (dv_var 1) das_nil))) (nomark _))))) (dss_one (ds_ret de_bl)) dss_nil)) (dss_one (ds_if (dt_truK (K := K) (dv_of (de_isiK (K := K) (by rfl) m_isinstance (b := "tuple") (dv_var 1) (by rfl) m_tuple (by decide +kernel) (by decide)))) (dss_one (ds_if (dt_bool (dw_or (dt_not (dt_truK (K := K) (dv_of (de_isiK (K := K) (by rfl) m_isinstance (b := "tuple") (dv_var 0) (by rfl) m_tuple (by decide +kernel) (by decide))))) (dw_or1 (dt_cmp (op_nesK (K := K) (by exact hr.units)) sem_ne (dv_of (de_callB (cr_lenK (K := K)) sem_len (by rfl) m_len (by decide +kernel) (das_cons (dv_var 0) das_nil))) (dv_of (de_callB (cr_lenK (K := K)) sem_len (by rfl) m_len (by decide +kernel) (das_cons (dv_var 1) das_nil))) (nomark _))))) (dss_one (ds_ret de_bl)) dss_nil)) (dss_one (ds_if (dt_cmp op_isN sem_isN (dv_var 1) (dv_of de_non) (nomark _)) (dss_one (ds_ret (de_cmp op_isN sem_isN (dv_var 0) (dv_of de_non) (nomark _)))) (dss_one (ds_if (dt_truK (K := K) (dv_of (de_isiK (K := K) (by rfl) m_isinstance (b := "bool") (dv_var 1) (by rfl) m_bool (by decide +kernel) (by decide)))) (dss_one (ds_ret (de_and (dv_of (de_isiK (K := K) (by rfl) m_isinstance (b := "bool") (dv_var 0) (by rfl) m_bool (by decide +kernel) (by decide))) (de_one (de_cmp (op_eqsK (K := K) (by exact hr.units)) sem_eq (dv_var 0) (dv_var 1) (nomark _)))))) (dss_one (ds_if (dt_truK (K := K) (dv_of (de_isiK (K := K) (by rfl) m_isinstance (b := "int") (dv_var 1) (by rfl) m_int (by decide +kernel) (by decide)))) (dss_one (ds_ret (de_and (dv_of (de_isiK (K := K) (by rfl) m_isinstance (b := "int") (dv_var 0) (by rfl) m_int (by decide +kernel) (by decide))) (de_and (dv_of (de_not (dv_of (de_isiK (K := K) (by rfl) m_isinstance (b := "bool") (dv_var 0) (by rfl) m_bool (by decide +kernel) (by decide))))) (de_one (de_cmp (op_eqsK (K := K) (by exact hr.units)) sem_eq (dv_var 0) (dv_var 1) (nomark _))))))) (dss_one (ds_ret (de_and (dv_of (de_isiK (K := K) (by rfl) m_isinstance (b := "str") (dv_var 0) (by rfl) m_str (by decide +kernel) (by decide))) (de_one (de_cmp (op_eqsK (K := K) (by exact hr.units)) sem_eq (dv_var 0) (dv_var 1) (nomark _))))))))))))))) (dss_cons (ds_for (passes_of (by rfl)) (by rfl) (di_range1 (by rfl) m_range (das_cons (dv_of (de_callB (cr_lenK (K := K)) sem_len (by rfl) m_len (by decide +kernel) (das_cons (dv_var 1) das_nil))) das_nil)) (dg_name 2 nd) (dss_one (ds_if (dt_not (dt_truK (K := K) (dv_of (de_callK (K := K) (mg := mg) ih (hr.mono (by omega)) (takes_of (by rfl) (by rfl) (by rfl) (by rfl)) (by rfl) g__law_same k__law_same b__law_same (das_cons (dv_ixK (K := K) (dv_var 0) (dv_var 2)) (das_cons (dv_ixK (K := K) (dv_var 1) (dv_var 2)) das_nil)))))) (dss_one (ds_ret de_bl)) dss_nil))) (dss_one (ds_ret de_bl))))⟩

/-! _law_closed -/
abbrev st__law_closed : Stmt := topS 13
theorem sc__law_closed : FnScope ["draws", "at", "most", "found", "k", "day"] ["draws", "at", "most"] (defScope st__law_closed) := ⟨rfl, rfl, rfl, by decide +kernel, rfl, by decide +kernel, by decide +kernel⟩
def s__law_closed : En → Out := (sSeq (sSet 3 [] (evLst evNil)) (sSeq (sFor (eiRng1 (evCons (evSh (evBin fMod (evBin fIx (evVar 0) (evVar 1)) (evSh (evC (.int 9))))) evNil)) (egName 4) (sSeq (sSet 5 [] (evSh (evBin fMod (evBin fIx (evVar 0) (evSh (evBin fAdd (evSh (evBin fAdd (evVar 1) (evSh (evC (.int 1))))) (evVar 4)))) (evVar 2)))) (sIf (evEB (evBin fNin (evVar 5) (evVar 3))) (sShare 5 (sApp 3 [] (evEsc (evVar 5)))) sNil))) (sRet (evC1 fSrtB (evCons (evVar 3) evNil)))))
def d__law_closed : List T → Rs T := fnD 3 3 s__law_closed
theorem ok__law_closed {P : Program} {w : World} {K : PySem.W.Frag} {mg : Str → Option Value} {base : Heap} {f : Addr} {fd : FuncData} (F : FnP K "_law_closed" st__law_closed f fd) (m_range : mg "range" = none) (m_sorted : mg "sorted" = none) :
    FnOk P w K mg base (L2.CX P w) 1 f fd ["draws", "at", "most"] (spD K mg 3 d__law_closed) := by
  have nd := (sc__law_closed).nd
  exact fn_ok (k := 0) (m := 3) F sc__law_closed rfl rfl fun cdv A outer s H Q E hr => ⟨_, _, (dss_cons (ds_set 3 nd (de_list dae_nil)) (dss_cons (ds_for (passes_of (by rfl)) (by rfl) (di_range1 (by rfl) m_range (das_cons (dv_of (de_op op_mod sem_mod (dv_ixK (K := K) (dv_var 0) (dv_var 1)) (dv_of de_int))) das_nil)) (dg_name 4 nd) (dss_cons (ds_set 5 nd (de_sh (de_op op_mod sem_mod (dv_ixK (K := K) (dv_var 0) (dv_of (de_op (op_plusK (K := K)) sem_add (dv_of (de_op (op_plusK (K := K)) sem_add (dv_var 1) (dv_of de_int))) (dv_var 4)))) (dv_var 2)))) (dss_one (ds_if (dt_cmp (op_ninsK (K := K) (by exact hr)) sem_nin (dv_var 5) (dv_var 3) (by rfl)) (dss_one (ds_share 5 (ds_app 3 (de_esc (dv_var 5))))) dss_nil)))) (dss_one (ds_ret (de_callB (cr_srtB (K := K) (by rfl)) sem_srtB (by rfl) m_sorted (by decide +kernel) (das_cons (dv_var 3) das_nil))))))⟩

/-! _law_open -/
abbrev st__law_open : Stmt := topS 14
theorem sc__law_open : FnScope ["closed", "start", "stop", "day"] ["closed", "start", "stop"] (defScope st__law_open) := ⟨rfl, rfl, rfl, by decide +kernel, rfl, by decide +kernel, by decide +kernel⟩
def s__law_open : En → Out := (sSeq (sIf (evEB (evBin fLeI (evVar 2) (evVar 1))) (sRet (evC (.int 0))) sNil) (sShare 0 (sRet (evBin fSub (evSh (evBin fSub (evVar 2) (evVar 1))) (evSh (evC1 fLen (evCons (evSh (evComp (eiSeq (evVar 0)) [3] (egName 3) (evAnd (evEB (evBin fGeI (evVar 3) (evVar 1))) (evEB (evBin fLt (evVar 3) (evVar 2)))) (evEsc (evVar 3)))) evNil)))))))
def d__law_open : List T → Rs T := fnD 3 1 s__law_open
theorem ok__law_open {P : Program} {w : World} {K : PySem.W.Frag} {mg : Str → Option Value} {base : Heap} {f : Addr} {fd : FuncData} (F : FnP K "_law_open" st__law_open f fd) (m_len : mg "len" = none) :
    FnOk P w K mg base (L2.CX P w) 1 f fd ["closed", "start", "stop"] (spD K mg 3 d__law_open) := by
  have nd := (sc__law_open).nd
  exact fn_ok (k := 0) (m := 1) F sc__law_open rfl rfl fun cdv A outer s H Q E hr => ⟨_, _, (dss_cons (ds_if (dt_cmp op_le sem_B0 (dv_var 2) (dv_var 1) (nomark _)) (dss_one (ds_ret de_int)) dss_nil) (dss_one (ds_share 0 (ds_ret (de_op op_sub sem_I0 (dv_of (de_op op_sub sem_I0 (dv_var 2) (dv_var 1))) (dv_of (de_callB (cr_lenK (K := K)) sem_len (by rfl) m_len (by decide +kernel) (das_cons (dv_of (de_lc (own := [("day", 3)]) [3] (by rfl) nd (di_seqK (K := K) (dv_var 0)) (blkOk_by (by kernel_rfl)) (fun _ _ _ _ _ => (dg_name 3 nd)) (fun _ _ _ _ _ => (dts_one (dt_bool (dw_and (dt_cmp op_ge sem_B0 (dv_var 3) (dv_var 1) (nomark _)) (dw_and1 (dt_cmp (op_lts (K := K) (by exact hr.units)) sem_lts (dv_var 3) (dv_var 2) (nomark _))))))) (fun _ _ _ _ _ => (de_esc (dv_var 3))))) das_nil))))))))⟩

/-! _law_is_latest -/
abbrev st__law_is_latest : Stmt := topS 15
theorem sc__law_is_latest : FnScope ["closed", "lead", "day", "told"] ["closed", "lead", "day", "told"] (defScope st__law_is_latest) := ⟨rfl, rfl, rfl, by decide +kernel, rfl, by decide +kernel, by decide +kernel⟩
def s__law_is_latest : En → Out := (sSeq (sIf (evEB (evBin fIsN (evVar 3) (evSh (evC .none)))) (sShare 2 (sShare 0 (sRet (evBin fLt (evSh (evCall 3 d__law_open (evCons (evVar 0) (evCons (evSh (evC (.int 0))) (evCons (evVar 2) evNil))))) (evVar 1))))) sNil) (sSeq (sShare 2 (sShare 3 (sShare 0 (sIf (evOr (evNot (evTru (evSh (evIsi "int" (evVar 3))))) (evOr (evTru (evSh (evIsi "bool" (evVar 3)))) (evOr (evEB (evBin fLt (evVar 3) (evSh (evC (.int 0))))) (evOr (evEB (evBin fGtI (evVar 3) (evVar 2))) (evEB (evBin fLt (evSh (evCall 3 d__law_open (evCons (evVar 0) (evCons (evVar 3) (evCons (evVar 2) evNil))))) (evVar 1))))))) (sRet (evC (.bool false))) sNil)))) (sShare 2 (sShare 0 (sRet (evOrV (evSh (evBin fEq (evVar 3) (evVar 2))) (evBin fLt (evSh (evCall 3 d__law_open (evCons (evVar 0) (evCons (evSh (evBin fAdd (evVar 3) (evSh (evC (.int 1))))) (evCons (evVar 2) evNil))))) (evVar 1))))))))
def d__law_is_latest : List T → Rs T := fnD 4 0 s__law_is_latest
theorem ok__law_is_latest {P : Program} {w : World} {K : PySem.W.Frag} {mg : Str → Option Value} {base : Heap} {f : Addr} {fd : FuncData} (F : FnP K "_law_is_latest" st__law_is_latest f fd) {f__law_open : Addr} {fd__law_open : FuncData} (G__law_open : FnOk P w K mg base (L2.CX P w) 1 f__law_open fd__law_open ["closed", "start", "stop"] (spD K mg 3 d__law_open)) (g__law_open : mg "_law_open" = some (.ref f__law_open)) (k__law_open : PySem.W.keepIn K (.ref f__law_open) = true) (b__law_open : Binds K fd__law_open ["closed", "start", "stop"] []) (m_bool : mg "bool" = none) (m_int : mg "int" = none) (m_isinstance : mg "isinstance" = none) :
    FnOk P w K mg base (L2.CX P w) 2 f fd ["closed", "lead", "day", "told"] (spD K mg 4 d__law_is_latest) := by
  have nd := (sc__law_is_latest).nd
  exact fn_ok (k := 1) (m := 0) F sc__law_is_latest rfl rfl fun cdv A outer s H Q E hr => ⟨_, _, (dss_cons (ds_if (dt_cmp op_isN sem_isN (dv_var 3) (dv_of de_non) (nomark _)) (dss_one (ds_share 2 (ds_share 0 (ds_ret (de_cmp (op_lts (K := K) (by exact hr.units)) sem_lts (dv_of (de_callK (K := K) (mg := mg) G__law_open (hr.mono (by omega)) (takes_of (by rfl) (by rfl) (by rfl) (by rfl)) (by rfl) g__law_open k__law_open b__law_open (das_cons (dv_var 0) (das_cons (dv_of de_int) (das_cons (dv_var 2) das_nil))))) (dv_var 1) (nomark _)))))) dss_nil) (dss_cons (ds_share 2 (ds_share 3 (ds_share 0 (ds_if (dt_bool (dw_or (dt_not (dt_truK (K := K) (dv_of (de_isiK (K := K) (by rfl) m_isinstance (b := "int") (dv_var 3) (by rfl) m_int (by decide +kernel) (by decide))))) (dw_or (dt_truK (K := K) (dv_of (de_isiK (K := K) (by rfl) m_isinstance (b := "bool") (dv_var 3) (by rfl) m_bool (by decide +kernel) (by decide)))) (dw_or (dt_cmp (op_lts (K := K) (by exact hr.units)) sem_lts (dv_var 3) (dv_of de_int) (nomark _)) (dw_or (dt_cmp op_gt sem_B0 (dv_var 3) (dv_var 2) (nomark _)) (dw_or1 (dt_cmp (op_lts (K := K) (by exact hr.units)) sem_lts (dv_of (de_callK (K := K) (mg := mg) G__law_open (hr.mono (by omega)) (takes_of (by rfl) (by rfl) (by rfl) (by rfl)) (by rfl) g__law_open k__law_open b__law_open (das_cons (dv_var 0) (das_cons (dv_var 3) (das_cons (dv_var 2) das_nil))))) (dv_var 1) (nomark _)))))))) (dss_one (ds_ret de_bl)) dss_nil)))) (dss_one (ds_share 2 (ds_share 0 (ds_ret (de_or (dv_of (de_cmp (op_eqsK (K := K) (by exact hr.units)) sem_eq (dv_var 3) (dv_var 2) (nomark _))) (de_one (de_cmp (op_lts (K := K) (by exact hr.units)) sem_lts (dv_of (de_callK (K := K) (mg := mg) G__law_open (hr.mono (by omega)) (takes_of (by rfl) (by rfl) (by rfl) (by rfl)) (by rfl) g__law_open k__law_open b__law_open (das_cons (dv_var 0) (das_cons (dv_of (de_op (op_plusK (K := K)) sem_add (dv_var 3) (dv_of de_int))) (das_cons (dv_var 2) das_nil))))) (dv_var 1) (nomark _))))))))))⟩

/-! _law_level -/
abbrev st__law_level : Stmt := topS 16
theorem sc__law_level : FnScope ["book", "kind", "day", "row"] ["book", "kind", "day"] (defScope st__law_level) := ⟨rfl, rfl, rfl, by decide +kernel, rfl, by decide +kernel, by decide +kernel⟩
def s__law_level : En → Out := (sShare 0 (sRet (evC1 fSum (evCons (evSh (evComp (eiSeq (evVar 0)) [3] (egName 3) (evAnd (evEB (evBin fEq (evBin fIx (evVar 3) (evSh (evC (.int 1)))) (evVar 1))) (evEB (evBin fLeI (evBin fIx (evVar 3) (evSh (evC (.int 0)))) (evVar 2)))) (evEsc (evBin fIx (evVar 3) (evSh (evC (.int 2))))))) evNil))))
def d__law_level : List T → Rs T := fnD 3 1 s__law_level
theorem ok__law_level {P : Program} {w : World} {K : PySem.W.Frag} {mg : Str → Option Value} {base : Heap} {f : Addr} {fd : FuncData} (F : FnP K "_law_level" st__law_level f fd) (m_sum : mg "sum" = none) :
    FnOk P w K mg base (L2.CX P w) 1 f fd ["book", "kind", "day"] (spD K mg 3 d__law_level) := by
  have nd := (sc__law_level).nd
  exact fn_ok (k := 0) (m := 1) F sc__law_level rfl rfl fun cdv A outer s H Q E hr => ⟨_, _, (dss_one (ds_share 0 (ds_ret (de_callB (cr_sumK (K := K) (by rfl)) sem_sum (by rfl) m_sum (by decide +kernel) (das_cons (dv_of (de_lc (own := [("row", 3)]) [3] (by rfl) nd (di_seqK (K := K) (dv_var 0)) (blkOk_by (by kernel_rfl)) (fun _ _ _ _ _ => (dg_name 3 nd)) (fun _ _ _ _ _ => (dts_one (dt_bool (dw_and (dt_cmp (op_eqsK (K := K) (by exact hr.units)) sem_eq (dv_ixK (K := K) (dv_var 3) (dv_of de_int)) (dv_var 1) (nomark _)) (dw_and1 (dt_cmp op_le sem_B0 (dv_ixK (K := K) (dv_var 3) (dv_of de_int)) (dv_var 2) (nomark _))))))) (fun _ _ _ _ _ => (de_esc (dv_ixK (K := K) (dv_var 3) (dv_of de_int)))))) das_nil)))))⟩

/-! _law_days -/
abbrev st__law_days : Stmt := topS 17
theorem sc__law_days : FnScope ["book", "kind", "row"] ["book", "kind"] (defScope st__law_days) := ⟨rfl, rfl, rfl, by decide +kernel, rfl, by decide +kernel, by decide +kernel⟩
def s__law_days : En → Out := (sShare 0 (sRet (evC1 fSrtB (evCons (evSh (evComp (eiSeq (evVar 0)) [2] (egName 2) (evEB (evBin fEq (evBin fIx (evVar 2) (evSh (evC (.int 1)))) (evVar 1))) (evEsc (evBin fIx (evVar 2) (evSh (evC (.int 0))))))) evNil))))
def d__law_days : List T → Rs T := fnD 2 1 s__law_days
theorem ok__law_days {P : Program} {w : World} {K : PySem.W.Frag} {mg : Str → Option Value} {base : Heap} {f : Addr} {fd : FuncData} (F : FnP K "_law_days" st__law_days f fd) (m_sorted : mg "sorted" = none) :
    FnOk P w K mg base (L2.CX P w) 1 f fd ["book", "kind"] (spD K mg 2 d__law_days) := by
  have nd := (sc__law_days).nd
  exact fn_ok (k := 0) (m := 1) F sc__law_days rfl rfl fun cdv A outer s H Q E hr => ⟨_, _, (dss_one (ds_share 0 (ds_ret (de_callB (cr_srtB (K := K) (by rfl)) sem_srtB (by rfl) m_sorted (by decide +kernel) (das_cons (dv_of (de_lc (own := [("row", 2)]) [2] (by rfl) nd (di_seqK (K := K) (dv_var 0)) (blkOk_by (by kernel_rfl)) (fun _ _ _ _ _ => (dg_name 2 nd)) (fun _ _ _ _ _ => (dts_one (dt_cmp (op_eqsK (K := K) (by exact hr.units)) sem_eq (dv_ixK (K := K) (dv_var 2) (dv_of de_int)) (dv_var 1) (nomark _)))) (fun _ _ _ _ _ => (de_esc (dv_ixK (K := K) (dv_var 2) (dv_of de_int)))))) das_nil)))))⟩

/-! _law_need -/
abbrev st__law_need : Stmt := topS 18
theorem sc__law_need : FnScope ["book", "kind", "number", "day"] ["book", "kind"] (defScope st__law_need) := ⟨rfl, rfl, rfl, by decide +kernel, rfl, by decide +kernel, by decide +kernel⟩
def s__law_need : En → Out := (sSeq (sSet 2 [] (evC (.int 0))) (sSeq (sShare 1 (sShare 0 (sFor (eiSeq (evSh (evCall 2 d__law_days (evCons (evVar 0) (evCons (evVar 1) evNil))))) (egName 3) (sShare 3 (sShare 1 (sShare 0 (sSet 2 [] (evC1 fMax (evCons (evVar 2) (evCons (evSh (evBin fSub (evSh (evC (.int 0))) (evSh (evCall 3 d__law_level (evCons (evVar 0) (evCons (evVar 1) (evCons (evVar 3) evNil))))))) evNil)))))))))) (sSeq (sShare 1 (sShare 0 (sFor (eiSeq (evSh (evCall 2 d__law_days (evCons (evVar 0) (evCons (evVar 1) evNil))))) (egName 3) (sShare 3 (sShare 1 (sShare 0 (sIf (evAnd (evEB (evBin fGtI (evVar 2) (evSh (evC (.int 0))))) (evEB (evBin fEq (evSh (evBin fAdd (evVar 2) (evSh (evCall 3 d__law_level (evCons (evVar 0) (evCons (evVar 1) (evCons (evVar 3) evNil))))))) (evSh (evC (.int 0)))))) (sRet (evTup (evCons (evVar 1) (evCons (evVar 2) (evCons (evVar 3) evNil))))) sNil))))))) (sRet (evTup (evCons (evVar 1) (evCons (evVar 2) (evCons (evC .none) evNil))))))))
def d__law_need : List T → Rs T := fnD 2 2 s__law_need
theorem ok__law_need {P : Program} {w : World} {K : PySem.W.Frag} {mg : Str → Option Value} {base : Heap} {f : Addr} {fd : FuncData} (F : FnP K "_law_need" st__law_need f fd) {f__law_days : Addr} {fd__law_days : FuncData} (G__law_days : FnOk P w K mg base (L2.CX P w) 1 f__law_days fd__law_days ["book", "kind"] (spD K mg 2 d__law_days)) (g__law_days : mg "_law_days" = some (.ref f__law_days)) (k__law_days : PySem.W.keepIn K (.ref f__law_days) = true) (b__law_days : Binds K fd__law_days ["book", "kind"] []) {f__law_level : Addr} {fd__law_level : FuncData} (G__law_level : FnOk P w K mg base (L2.CX P w) 1 f__law_level fd__law_level ["book", "kind", "day"] (spD K mg 3 d__law_level)) (g__law_level : mg "_law_level" = some (.ref f__law_level)) (k__law_level : PySem.W.keepIn K (.ref f__law_level) = true) (b__law_level : Binds K fd__law_level ["book", "kind", "day"] []) (m_max : mg "max" = none) :
    FnOk P w K mg base (L2.CX P w) 2 f fd ["book", "kind"] (spD K mg 2 d__law_need) := by
  have nd := (sc__law_need).nd
  exact fn_ok (k := 1) (m := 2) F sc__law_need rfl rfl fun cdv A outer s H Q E hr => ⟨_, _, (dss_cons (ds_set 2 nd de_int) (dss_cons (ds_share 1 (ds_share 0 (ds_for (passes_of (by rfl)) (by rfl) (di_seqK (K := K) (dv_of (de_callK (K := K) (mg := mg) G__law_days (hr.mono (by omega)) (takes_of (by rfl) (by rfl) (by rfl) (by rfl)) (by rfl) g__law_days k__law_days b__law_days (das_cons (dv_var 0) (das_cons (dv_var 1) das_nil))))) (dg_name 3 nd) (dss_one (ds_share 3 (ds_share 1 (ds_share 0 (ds_set 2 nd (de_callB (cr_maxK (K := K) (by rfl)) sem_max (by rfl) m_max (by decide +kernel) (das_cons (dv_var 2) (das_cons (dv_of (de_op op_sub sem_I0 (dv_of de_int) (dv_of (de_callK (K := K) (mg := mg) G__law_level (hr.mono (by omega)) (takes_of (by rfl) (by rfl) (by rfl) (by rfl)) (by rfl) g__law_level k__law_level b__law_level (das_cons (dv_var 0) (das_cons (dv_var 1) (das_cons (dv_var 3) das_nil))))))) das_nil))))))))))) (dss_cons (ds_share 1 (ds_share 0 (ds_for (passes_of (by rfl)) (by rfl) (di_seqK (K := K) (dv_of (de_callK (K := K) (mg := mg) G__law_days (hr.mono (by omega)) (takes_of (by rfl) (by rfl) (by rfl) (by rfl)) (by rfl) g__law_days k__law_days b__law_days (das_cons (dv_var 0) (das_cons (dv_var 1) das_nil))))) (dg_name 3 nd) (dss_one (ds_share 3 (ds_share 1 (ds_share 0 (ds_if (dt_bool (dw_and (dt_cmp op_gt sem_B0 (dv_var 2) (dv_of de_int) (nomark _)) (dw_and1 (dt_cmp (op_eqsK (K := K) (by exact hr.units)) sem_eq (dv_of (de_op (op_plusK (K := K)) sem_add (dv_var 2) (dv_of (de_callK (K := K) (mg := mg) G__law_level (hr.mono (by omega)) (takes_of (by rfl) (by rfl) (by rfl) (by rfl)) (by rfl) g__law_level k__law_level b__law_level (das_cons (dv_var 0) (das_cons (dv_var 1) (das_cons (dv_var 3) das_nil))))))) (dv_of de_int) (nomark _))))) (dss_one (ds_ret (de_tuple (dae_cons (de_mov 1) (dae_cons (de_mov 2) (dae_cons (de_mov 3) dae_nil)))))) dss_nil)))))))) (dss_one (ds_ret (de_tuple (dae_cons (de_mov 1) (dae_cons (de_mov 2) (dae_cons de_non dae_nil)))))))))⟩

/-! _law_lasts -/
abbrev st__law_lasts : Stmt := topS 19
theorem sc__law_lasts : FnScope ["book", "kind", "number", "day"] ["book", "kind", "number"] (defScope st__law_lasts) := ⟨rfl, rfl, rfl, by decide +kernel, rfl, by decide +kernel, by decide +kernel⟩
def s__law_lasts : En → Out := (sSeq (sShare 1 (sShare 0 (sFor (eiSeq (evSh (evCall 2 d__law_days (evCons (evVar 0) (evCons (evVar 1) evNil))))) (egName 3) (sShare 3 (sShare 1 (sShare 0 (sIf (evEB (evBin fLt (evSh (evBin fAdd (evVar 2) (evSh (evCall 3 d__law_level (evCons (evVar 0) (evCons (evVar 1) (evCons (evVar 3) evNil))))))) (evSh (evC (.int 0))))) (sRet (evVar 3)) sNil))))))) (sRet (evC .none)))
def d__law_lasts : List T → Rs T := fnD 3 1 s__law_lasts
theorem ok__law_lasts {P : Program} {w : World} {K : PySem.W.Frag} {mg : Str → Option Value} {base : Heap} {f : Addr} {fd : FuncData} (F : FnP K "_law_lasts" st__law_lasts f fd) {f__law_days : Addr} {fd__law_days : FuncData} (G__law_days : FnOk P w K mg base (L2.CX P w) 1 f__law_days fd__law_days ["book", "kind"] (spD K mg 2 d__law_days)) (g__law_days : mg "_law_days" = some (.ref f__law_days)) (k__law_days : PySem.W.keepIn K (.ref f__law_days) = true) (b__law_days : Binds K fd__law_days ["book", "kind"] []) {f__law_level : Addr} {fd__law_level : FuncData} (G__law_level : FnOk P w K mg base (L2.CX P w) 1 f__law_level fd__law_level ["book", "kind", "day"] (spD K mg 3 d__law_level)) (g__law_level : mg "_law_level" = some (.ref f__law_level)) (k__law_level : PySem.W.keepIn K (.ref f__law_level) = true) (b__law_level : Binds K fd__law_level ["book", "kind", "day"] []) :
    FnOk P w K mg base (L2.CX P w) 2 f fd ["book", "kind", "number"] (spD K mg 3 d__law_lasts) := by
  have nd := (sc__law_lasts).nd
  exact fn_ok (k := 1) (m := 1) F sc__law_lasts rfl rfl fun cdv A outer s H Q E hr => ⟨_, _, (dss_cons (ds_share 1 (ds_share 0 (ds_for (passes_of (by rfl)) (by rfl) (di_seqK (K := K) (dv_of (de_callK (K := K) (mg := mg) G__law_days (hr.mono (by omega)) (takes_of (by rfl) (by rfl) (by rfl) (by rfl)) (by rfl) g__law_days k__law_days b__law_days (das_cons (dv_var 0) (das_cons (dv_var 1) das_nil))))) (dg_name 3 nd) (dss_one (ds_share 3 (ds_share 1 (ds_share 0 (ds_if (dt_cmp (op_lts (K := K) (by exact hr.units)) sem_lts (dv_of (de_op (op_plusK (K := K)) sem_add (dv_var 2) (dv_of (de_callK (K := K) (mg := mg) G__law_level (hr.mono (by omega)) (takes_of (by rfl) (by rfl) (by rfl) (by rfl)) (by rfl) g__law_level k__law_level b__law_level (das_cons (dv_var 0) (das_cons (dv_var 1) (das_cons (dv_var 3) das_nil))))))) (dv_of de_int) (nomark _)) (dss_one (ds_ret (de_mov 3))) dss_nil)))))))) (dss_one (ds_ret de_non)))⟩

/-! _law_book -/
abbrev st__law_book : Stmt := topS 20
theorem sc__law_book : FnScope ["draws", "count", "names", "found", "k", "change"] ["draws", "count"] (defScope st__law_book) := ⟨rfl, rfl, rfl, by decide +kernel, rfl, by decide +kernel, by decide +kernel⟩
def s__law_book : En → Out := (sSeq (sSet 2 [] (evSh (evLst (evCons (evC (.str "a")) (evCons (evC (.str "zz")) (evCons (evC (.str "bolt")) (evCons (evC (.str "abcdefgh")) evNil))))))) (sSeq (sSet 3 [] (evLst evNil)) (sSeq (sFor (eiRng1 (evCons (evVar 1) evNil)) (egName 4) (sSeq (sSet 5 [] (evSh (evBin fSub (evSh (evBin fMod (evBin fIx (evVar 0) (evSh (evBin fMod (evSh (evC1 fInt1 (evCons (evSh (evBin fAdd (evSh (evBin fMul (evSh (evC (.int 3))) (evVar 4))) (evSh (evC (.int 1))))) evNil))) (evSh (evC1 fLen (evCons (evVar 0) evNil)))))) (evSh (evC (.int 1999))))) (evSh (evC (.int 999)))))) (sSeq (sIf (evEB (evBin fEq (evSh (evBin fMod (evBin fIx (evVar 0) (evSh (evC (.int 59)))) (evSh (evC (.int 2))))) (evSh (evC (.int 0))))) (sSet 5 [] (evSh (evBin fSub (evSh (evBin fMod (evVar 5) (evSh (evC (.int 7))))) (evSh (evC (.int 3)))))) sNil) (sShare 5 (sApp 3 [] (evTup (evCons (evBin fMod (evBin fIx (evVar 0) (evSh (evBin fMod (evSh (evBin fMul (evSh (evC (.int 3))) (evVar 4))) (evSh (evC1 fLen (evCons (evVar 0) evNil)))))) (evBin fIx (evSh (evLst (evCons (evC (.int 6)) (evCons (evC (.int 40)) (evCons (evC (.int 10000)) evNil))))) (evSh (evBin fMod (evBin fIx (evVar 0) (evSh (evC (.int 58)))) (evSh (evC (.int 3))))))) (evCons (evEsc (evBin fIx (evVar 2) (evSh (evBin fMod (evBin fIx (evVar 0) (evSh (evBin fMod (evSh (evC1 fInt1 (evCons (evSh (evBin fAdd (evSh (evBin fAdd (evSh (evBin fMul (evSh (evC (.int 3))) (evVar 4))) (evSh (evC (.int 2))))) (evSh (evBin fDiv (evVar 4) (evSh (evC (.int 20))))))) evNil))) (evSh (evC1 fLen (evCons (evVar 0) evNil)))))) (evSh (evBin fAdd (evSh (evC (.int 1))) (evSh (evBin fMod (evBin fIx (evVar 0) (evSh (evC (.int 57)))) (evSh (evC (.int 4))))))))))) (evCons (evEsc (evVar 5)) evNil))))))))) (sRet (evVar 3)))))
def d__law_book : List T → Rs T := fnD 2 4 s__law_book
theorem ok__law_book {P : Program} {w : World} {K : PySem.W.Frag} {mg : Str → Option Value} {base : Heap} {f : Addr} {fd : FuncData} (F : FnP K "_law_book" st__law_book f fd) (m_int : mg "int" = none) (m_len : mg "len" = none) (m_range : mg "range" = none) :
    FnOk P w K mg base (L2.CX P w) 1 f fd ["draws", "count"] (spD K mg 2 d__law_book) := by
  have nd := (sc__law_book).nd
  exact fn_ok (k := 0) (m := 4) F sc__law_book rfl rfl fun cdv A outer s H Q E hr => ⟨_, _, (dss_cons (ds_set 2 nd (de_sh (de_list (dae_cons de_str (dae_cons de_str (dae_cons de_str (dae_cons de_str dae_nil))))))) (dss_cons (ds_set 3 nd (de_list dae_nil)) (dss_cons (ds_for (passes_of (by rfl)) (by rfl) (di_range1 (by rfl) m_range (das_cons (dv_var 1) das_nil)) (dg_name 4 nd) (dss_cons (ds_set 5 nd (de_sh (de_op op_sub sem_I0 (dv_of (de_op op_mod sem_mod (dv_ixK (K := K) (dv_var 0) (dv_of (de_op op_mod sem_mod (dv_of (de_callTy call_int1 sem_int1 (by rfl) m_int (by decide +kernel) (das_cons (dv_of (de_op (op_plusK (K := K)) sem_add (dv_of (de_op op_times sem_mul (dv_of de_int) (dv_var 4))) (dv_of de_int))) das_nil))) (dv_of (de_callB (cr_lenK (K := K)) sem_len (by rfl) m_len (by decide +kernel) (das_cons (dv_var 0) das_nil)))))) (dv_of de_int))) (dv_of de_int)))) (dss_cons (ds_if (dt_cmp (op_eqsK (K := K) (by exact hr.units)) sem_eq (dv_of (de_op op_mod sem_mod (dv_ixK (K := K) (dv_var 0) (dv_of de_int)) (dv_of de_int))) (dv_of de_int) (nomark _)) (dss_one (ds_set 5 nd (de_sh (de_op op_sub sem_I0 (dv_of (de_op op_mod sem_mod (dv_var 5) (dv_of de_int))) (dv_of de_int))))) dss_nil) (dss_one (ds_share 5 (ds_app 3 (de_tuple (dae_cons (de_op op_mod sem_mod (dv_ixK (K := K) (dv_var 0) (dv_of (de_op op_mod sem_mod (dv_of (de_op op_times sem_mul (dv_of de_int) (dv_var 4))) (dv_of (de_callB (cr_lenK (K := K)) sem_len (by rfl) m_len (by decide +kernel) (das_cons (dv_var 0) das_nil)))))) (dv_ixK (K := K) (dv_of (de_list (dae_cons de_int (dae_cons de_int (dae_cons de_int dae_nil))))) (dv_of (de_op op_mod sem_mod (dv_ixK (K := K) (dv_var 0) (dv_of de_int)) (dv_of de_int))))) (dae_cons (de_esc (dv_ixK (K := K) (dv_var 2) (dv_of (de_op op_mod sem_mod (dv_ixK (K := K) (dv_var 0) (dv_of (de_op op_mod sem_mod (dv_of (de_callTy call_int1 sem_int1 (by rfl) m_int (by decide +kernel) (das_cons (dv_of (de_op (op_plusK (K := K)) sem_add (dv_of (de_op (op_plusK (K := K)) sem_add (dv_of (de_op op_times sem_mul (dv_of de_int) (dv_var 4))) (dv_of de_int))) (dv_of (de_op op_fdivW sem_div (dv_var 4) (dv_of de_int))))) das_nil))) (dv_of (de_callB (cr_lenK (K := K)) sem_len (by rfl) m_len (by decide +kernel) (das_cons (dv_var 0) das_nil)))))) (dv_of (de_op (op_plusK (K := K)) sem_add (dv_of de_int) (dv_of (de_op op_mod sem_mod (dv_ixK (K := K) (dv_var 0) (dv_of de_int)) (dv_of de_int))))))))) (dae_cons (de_esc (dv_var 5)) dae_nil)))))))))) (dss_one (ds_ret (de_mov 3))))))⟩

/-! law -/
abbrev st_law : Stmt := topS 21
theorem sc_law : FnScope ["script", "draws", "far", "closed", "kept", "pairs", "start", "stop", "day", "lead", "books", "book", "names", "row", "due", "turn", "name", "number", "told", "some"] ["script"] (defScope st_law) := ⟨rfl, rfl, rfl, by decide +kernel, rfl, by decide +kernel, by decide +kernel⟩
def s_law : En → Out := (sSeq (sShare 0 (sSet 1 [] (evSh (evCall 3 d__law_numbers (evCons (evSh (evCall 2 d__law_cell (evCons (evVar 0) (evCons (evSh (evC (.int 0))) evNil)))) (evCons (evSh (evC (.int 60))) (evCons (evSh (evC (.int 50400))) evNil))))))) (sSeq (sShare 0 (sSet 2 [] (evSh (evCall 3 d__law_numbers (evCons (evSh (evCall 2 d__law_cell (evCons (evVar 0) (evCons (evSh (evC (.int 1))) evNil)))) (evCons (evSh (evC (.int 20))) (evCons (evSh (evC (.int 10000))) evNil))))))) (sSeq (sShare 2 (sShare 1 (sFor (eiSeq (evSh (evLst (evCons (evCall 3 d__law_closed (evCons (evVar 1) (evCons (evSh (evC (.int 0))) (evCons (evSh (evC (.int 25))) evNil)))) (evCons (evCall 3 d__law_closed (evCons (evVar 2) (evCons (evSh (evC (.int 0))) (evCons (evSh (evC (.int 10000))) evNil)))) (evCons (evLst (evCons (evC (.int 0)) (evCons (evC (.int 1)) (evCons (evC (.int 2)) (evCons (evC (.int 3)) evNil))))) (evCons (evLst (evCons (evC (.int 9997)) (evCons (evC (.int 9999)) evNil))) (evCons (evLst evNil) evNil)))))))) (egName 3) (sSeq (sSet 4 [] (evSh (evC1 fList (evCons (evVar 3) evNil)))) (sSeq (sSet 5 [] (evSh (evLst (evCons (evTup (evCons (evC (.int 0)) (evCons (evC (.int 0)) evNil))) (evCons (evTup (evCons (evBin fMod (evBin fIx (evVar 1) (evSh (evC (.int 10)))) (evSh (evC (.int 30)))) (evCons (evBin fMod (evBin fIx (evVar 1) (evSh (evC (.int 11)))) (evSh (evC (.int 30)))) evNil))) (evCons (evTup (evCons (evEsc (evBin fIx (evVar 2) (evSh (evC (.int 10))))) (evCons (evEsc (evBin fIx (evVar 2) (evSh (evC (.int 11))))) evNil))) (evCons (evTup (evCons (evC (.int 0)) (evCons (evC (.int 10000)) evNil))) (evCons (evTup (evCons (evC (.int 9999)) (evCons (evC (.int 10000)) evNil))) (evCons (evTup (evCons (evEsc (evBin fIx (evVar 2) (evSh (evC (.int 12))))) (evCons (evC (.int 10000)) evNil))) evNil))))))))) (sSeq (sShare 5 (sFor (eiSeq (evVar 5)) (egTup 2 (egCons (egName 6) (egCons (egName 7) egNil))) (sShare 7 (sShare 6 (sShare 3 (sIf (evNot (evTru (evSh (evCall 2 (d__law_same 12) (evCons (evSh (evCall 3 d_open_days (evCons (evVar 3) (evCons (evVar 6) (evCons (evVar 7) evNil))))) (evCons (evSh (evCall 3 d__law_open (evCons (evVar 3) (evCons (evVar 6) (evCons (evVar 7) evNil))))) evNil)))))) (sRet (evC (.bool false))) sNil)))))) (sSeq (sFor (eiSeq (evSh (evLst (evCons (evBin fMod (evBin fIx (evVar 1) (evSh (evC (.int 12)))) (evSh (evC (.int 30)))) (evCons (evEsc (evBin fIx (evVar 2) (evSh (evC (.int 13))))) (evCons (evC (.int 9999)) (evCons (evC (.int 0)) (evCons (evC (.int 5)) evNil)))))))) (egName 8) (sFor (eiSeq (evSh (evLst (evCons (evC (.int 0)) (evCons (evC (.int 1)) (evCons (evBin fMod (evBin fIx (evVar 1) (evSh (evC (.int 13)))) (evSh (evC (.int 12)))) (evCons (evBin fMod (evBin fIx (evVar 1) (evSh (evC (.int 14)))) (evSh (evC (.int 401)))) (evCons (evC (.int 400)) evNil)))))))) (egName 9) (sShare 8 (sShare 9 (sShare 3 (sIf (evNot (evTru (evSh (evCall 4 d__law_is_latest (evCons (evVar 3) (evCons (evVar 9) (evCons (evVar 8) (evCons (evSh (evCall 3 d_order_by (evCons (evVar 3) (evCons (evVar 9) (evCons (evVar 8) evNil))))) evNil)))))))) (sRet (evC (.bool false))) sNil)))))) (sIf (evEB (evBin fNe (evVar 3) (evVar 4))) (sRet (evC (.bool false))) sNil)))))))) (sSeq (sShare 1 (sSet 10 [] (evLst (evCons (evCall 2 d__law_book (evCons (evVar 1) (evCons (evSh (evBin fMod (evBin fIx (evVar 1) (evSh (evC (.int 15)))) (evSh (evC (.int 15))))) evNil))) (evCons (evLst evNil) (evCons (evCall 2 d__law_book (evCons (evVar 1) (evCons (evSh (evC (.int 1))) evNil))) evNil)))))) (sSeq (sIf (evEB (evBin fEq (evSh (evBin fMod (evBin fIx (evVar 1) (evSh (evC (.int 16)))) (evSh (evC (.int 10))))) (evSh (evC (.int 0))))) (sShare 1 (sApp 10 [] (evCall 2 d__law_book (evCons (evVar 1) (evCons (evSh (evC (.int 100))) evNil))))) sNil) (sSeq (sShare 10 (sFor (eiSeq (evVar 10)) (egName 11) (sSeq (sSet 4 [] (evSh (evC1 fList (evCons (evVar 11) evNil)))) (sSeq (sSet 12 [] (evLst evNil)) (sSeq (sShare 11 (sFor (eiSeq (evSh (evC1 fSrtB (evCons (evSh (evComp (eiSeq (evVar 11)) [13] (egName 13) evYes (evEsc (evBin fIx (evVar 13) (evSh (evC (.int 1))))))) evNil)))) (egName 13) (sIf (evEB (evBin fNin (evVar 13) (evVar 12))) (sShare 13 (sApp 12 [] (evEsc (evVar 13)))) sNil))) (sSeq (sShare 11 (sShare 12 (sSet 14 [] (evSh (evComp (eiSeq (evVar 12)) [16] (egName 16) evYes (evCall 2 d__law_need (evCons (evVar 11) (evCons (evVar 16) evNil)))))))) (sSeq (sFor (eiRng1 (evCons (evSh (evC (.int 2))) evNil)) (egName 15) (sSeq (sShare 11 (sSet 18 [] (evCall 1 d_needs_of (evCons (evVar 11) evNil)))) (sSeq (sShare 14 (sIf (evOr (evNot (evTru (evSh (evCall 2 (d__law_same 12) (evCons (evVar 18) (evCons (evVar 14) evNil)))))) (evOr (evEB (evBin fNe (evVar 11) (evVar 4))) (evNot (evTru (evSh (evCall 2 (d__law_same 12) (evCons (evSh (evCall 1 d_needs_of (evCons (evSh (evUn fRevA (evVar 11))) evNil))) (evCons (evVar 14) evNil)))))))) (sRet (evC (.bool false))) sNil)) (sApp 18 [] (evC (.int 0)))))) (sShare 14 (sFor (eiSeq (evVar 14)) (egTup 3 (egCons (egName 16) (egCons (egName 17) (egCons (egName 8) egNil)))) (sSeq (sShare 8 (sShare 17 (sShare 16 (sShare 11 (sIf (evOr (evEB (evBin fNotN (evSh (evCall 3 d_lasts_until (evCons (evVar 11) (evCons (evVar 16) (evCons (evVar 17) evNil))))) (evSh (evC .none)))) (evAnd (evEB (evBin fGtI (evVar 17) (evSh (evC (.int 0))))) (evNot (evTru (evSh (evCall 2 (d__law_same 12) (evCons (evSh (evCall 3 d_lasts_until (evCons (evVar 11) (evCons (evVar 16) (evCons (evSh (evBin fSub (evVar 17) (evSh (evC (.int 1))))) evNil))))) (evCons (evVar 8) evNil)))))))) (sRet (evC (.bool false))) sNil))))) (sFor (eiSeq (evSh (evLst (evCons (evC (.int 0)) (evCons (evBin fMod (evBin fIx (evVar 1) (evSh (evC (.int 17)))) (evSh (evC (.int 50)))) (evCons (evBin fDiv (evVar 17) (evSh (evC (.int 2)))) (evCons (evBin fAdd (evVar 17) (evSh (evC (.int 1)))) evNil))))))) (egName 19) (sShare 19 (sShare 16 (sShare 11 (sIf (evNot (evTru (evSh (evCall 2 (d__law_same 12) (evCons (evSh (evCall 3 d_lasts_until (evCons (evVar 11) (evCons (evVar 16) (evCons (evVar 19) evNil))))) (evCons (evSh (evCall 3 d__law_lasts (evCons (evVar 11) (evCons (evVar 16) (evCons (evVar 19) evNil))))) evNil)))))) (sRet (evC (.bool false))) sNil))))))))))))))) (sRet (evC (.bool true)))))))))
def d_law : List T → Rs T := fnD 1 19 s_law
theorem ok_law {P : Program} {w : World} {K : PySem.W.Frag} {mg : Str → Option Value} {base : Heap} {f : Addr} {fd : FuncData} (F : FnP K "law" st_law f fd) {f__law_book : Addr} {fd__law_book : FuncData} (G__law_book : FnOk P w K mg base (L2.CX P w) 1 f__law_book fd__law_book ["draws", "count"] (spD K mg 2 d__law_book)) (g__law_book : mg "_law_book" = some (.ref f__law_book)) (k__law_book : PySem.W.keepIn K (.ref f__law_book) = true) (b__law_book : Binds K fd__law_book ["draws", "count"] []) {f__law_cell : Addr} {fd__law_cell : FuncData} (G__law_cell : FnOk P w K mg base (L2.CX P w) 1 f__law_cell fd__law_cell ["script", "k"] (spD K mg 2 d__law_cell)) (g__law_cell : mg "_law_cell" = some (.ref f__law_cell)) (k__law_cell : PySem.W.keepIn K (.ref f__law_cell) = true) (b__law_cell : Binds K fd__law_cell ["script", "k"] []) {f__law_closed : Addr} {fd__law_closed : FuncData} (G__law_closed : FnOk P w K mg base (L2.CX P w) 1 f__law_closed fd__law_closed ["draws", "at", "most"] (spD K mg 3 d__law_closed)) (g__law_closed : mg "_law_closed" = some (.ref f__law_closed)) (k__law_closed : PySem.W.keepIn K (.ref f__law_closed) = true) (b__law_closed : Binds K fd__law_closed ["draws", "at", "most"] []) {f__law_is_latest : Addr} {fd__law_is_latest : FuncData} (G__law_is_latest : FnOk P w K mg base (L2.CX P w) 2 f__law_is_latest fd__law_is_latest ["closed", "lead", "day", "told"] (spD K mg 4 d__law_is_latest)) (g__law_is_latest : mg "_law_is_latest" = some (.ref f__law_is_latest)) (k__law_is_latest : PySem.W.keepIn K (.ref f__law_is_latest) = true) (b__law_is_latest : Binds K fd__law_is_latest ["closed", "lead", "day", "told"] []) {f__law_lasts : Addr} {fd__law_lasts : FuncData} (G__law_lasts : FnOk P w K mg base (L2.CX P w) 2 f__law_lasts fd__law_lasts ["book", "kind", "number"] (spD K mg 3 d__law_lasts)) (g__law_lasts : mg "_law_lasts" = some (.ref f__law_lasts)) (k__law_lasts : PySem.W.keepIn K (.ref f__law_lasts) = true) (b__law_lasts : Binds K fd__law_lasts ["book", "kind", "number"] []) {f__law_need : Addr} {fd__law_need : FuncData} (G__law_need : FnOk P w K mg base (L2.CX P w) 2 f__law_need fd__law_need ["book", "kind"] (spD K mg 2 d__law_need)) (g__law_need : mg "_law_need" = some (.ref f__law_need)) (k__law_need : PySem.W.keepIn K (.ref f__law_need) = true) (b__law_need : Binds K fd__law_need ["book", "kind"] []) {f__law_numbers : Addr} {fd__law_numbers : FuncData} (G__law_numbers : FnOk P w K mg base (L2.CX P w) 1 f__law_numbers fd__law_numbers ["cell", "count", "limit"] (spD K mg 3 d__law_numbers)) (g__law_numbers : mg "_law_numbers" = some (.ref f__law_numbers)) (k__law_numbers : PySem.W.keepIn K (.ref f__law_numbers) = true) (b__law_numbers : Binds K fd__law_numbers ["cell", "count", "limit"] []) {f__law_open : Addr} {fd__law_open : FuncData} (G__law_open : FnOk P w K mg base (L2.CX P w) 1 f__law_open fd__law_open ["closed", "start", "stop"] (spD K mg 3 d__law_open)) (g__law_open : mg "_law_open" = some (.ref f__law_open)) (k__law_open : PySem.W.keepIn K (.ref f__law_open) = true) (b__law_open : Binds K fd__law_open ["closed", "start", "stop"] []) {f__law_same : Addr} {fd__law_same : FuncData} (G__law_same : FnOk P w K mg base (L2.CX P w) 13 f__law_same fd__law_same ["told", "due"] (spD K mg 2 (d__law_same 12))) (g__law_same : mg "_law_same" = some (.ref f__law_same)) (k__law_same : PySem.W.keepIn K (.ref f__law_same) = true) (b__law_same : Binds K fd__law_same ["told", "due"] []) {f_lasts_until : Addr} {fd_lasts_until : FuncData} (G_lasts_until : FnOk P w K mg base (L2.CX P w) 2 f_lasts_until fd_lasts_until ["book", "kind", "number"] (spD K mg 3 d_lasts_until)) (g_lasts_until : mg "lasts_until" = some (.ref f_lasts_until)) (k_lasts_until : PySem.W.keepIn K (.ref f_lasts_until) = true) (b_lasts_until : Binds K fd_lasts_until ["book", "kind", "number"] []) {f_needs_of : Addr} {fd_needs_of : FuncData} (G_needs_of : FnOk P w K mg base (L2.CX P w) 3 f_needs_of fd_needs_of ["book"] (spD K mg 1 d_needs_of)) (g_needs_of : mg "needs_of" = some (.ref f_needs_of)) (k_needs_of : PySem.W.keepIn K (.ref f_needs_of) = true) (b_needs_of : Binds K fd_needs_of ["book"] []) {f_open_days : Addr} {fd_open_days : FuncData} (G_open_days : FnOk P w K mg base (L2.CX P w) 1 f_open_days fd_open_days ["closed", "start", "stop"] (spD K mg 3 d_open_days)) (g_open_days : mg "open_days" = some (.ref f_open_days)) (k_open_days : PySem.W.keepIn K (.ref f_open_days) = true) (b_open_days : Binds K fd_open_days ["closed", "start", "stop"] []) {f_order_by : Addr} {fd_order_by : FuncData} (G_order_by : FnOk P w K mg base (L2.CX P w) 2 f_order_by fd_order_by ["closed", "lead", "day"] (spD K mg 3 d_order_by)) (g_order_by : mg "order_by" = some (.ref f_order_by)) (k_order_by : PySem.W.keepIn K (.ref f_order_by) = true) (b_order_by : Binds K fd_order_by ["closed", "lead", "day"] []) (m_list : mg "list" = none) (m_range : mg "range" = none) (m_sorted : mg "sorted" = none) : RunC P w K mg base (L2.CX P w) f fd ["script"] (spD K mg 1 d_law) := by
  have nd := (sc_law).nd
  exact fn_runC (k := 13) (m := 19) F sc_law rfl rfl ⟨rfl, by decide +kernel, by decide +kernel⟩ fun cdv s H Q E hr => ⟨_, _, (dss_cons (ds_share 0 (ds_set 1 nd (de_sh (de_callK (K := K) (mg := mg) G__law_numbers (hr.mono (by omega)) (takes_of (by rfl) (by rfl) (by rfl) (by rfl)) (by rfl) g__law_numbers k__law_numbers b__law_numbers (das_cons (dv_of (de_callK (K := K) (mg := mg) G__law_cell (hr.mono (by omega)) (takes_of (by rfl) (by rfl) (by rfl) (by rfl)) (by rfl) g__law_cell k__law_cell b__law_cell (das_cons (dv_var 0) (das_cons (dv_of de_int) das_nil)))) (das_cons (dv_of de_int) (das_cons (dv_of de_int) das_nil))))))) (dss_cons (ds_share 0 (ds_set 2 nd (de_sh (de_callK (K := K) (mg := mg) G__law_numbers (hr.mono (by omega)) (takes_of (by rfl) (by rfl) (by rfl) (by rfl)) (by rfl) g__law_numbers k__law_numbers b__law_numbers (das_cons (dv_of (de_callK (K := K) (mg := mg) G__law_cell (hr.mono (by omega)) (takes_of (by rfl) (by rfl) (by rfl) (by rfl)) (by rfl) g__law_cell k__law_cell b__law_cell (das_cons (dv_var 0) (das_cons (dv_of de_int) das_nil)))) (das_cons (dv_of de_int) (das_cons (dv_of de_int) das_nil))))))) (dss_cons (ds_share 2 (ds_share 1 (ds_for (passes_of (by rfl)) (by rfl) (di_seqK (K := K) (dv_of (de_list (dae_cons (de_callK (K := K) (mg := mg) G__law_closed (hr.mono (by omega)) (takes_of (by rfl) (by rfl) (by rfl) (by rfl)) (by rfl) g__law_closed k__law_closed b__law_closed (das_cons (dv_var 1) (das_cons (dv_of de_int) (das_cons (dv_of de_int) das_nil)))) (dae_cons (de_callK (K := K) (mg := mg) G__law_closed (hr.mono (by omega)) (takes_of (by rfl) (by rfl) (by rfl) (by rfl)) (by rfl) g__law_closed k__law_closed b__law_closed (das_cons (dv_var 2) (das_cons (dv_of de_int) (das_cons (dv_of de_int) das_nil)))) (dae_cons (de_list (dae_cons de_int (dae_cons de_int (dae_cons de_int (dae_cons de_int dae_nil))))) (dae_cons (de_list (dae_cons de_int (dae_cons de_int dae_nil))) (dae_cons (de_list dae_nil) dae_nil)))))))) (dg_name 3 nd) (dss_cons (ds_set 4 nd (de_sh (de_callTy (cr_listK (K := K)) sem_list (by rfl) m_list (by decide +kernel) (das_cons (dv_var 3) das_nil)))) (dss_cons (ds_set 5 nd (de_sh (de_list (dae_cons (de_tuple (dae_cons de_int (dae_cons de_int dae_nil))) (dae_cons (de_tuple (dae_cons (de_op op_mod sem_mod (dv_ixK (K := K) (dv_var 1) (dv_of de_int)) (dv_of de_int)) (dae_cons (de_op op_mod sem_mod (dv_ixK (K := K) (dv_var 1) (dv_of de_int)) (dv_of de_int)) dae_nil))) (dae_cons (de_tuple (dae_cons (de_esc (dv_ixK (K := K) (dv_var 2) (dv_of de_int))) (dae_cons (de_esc (dv_ixK (K := K) (dv_var 2) (dv_of de_int))) dae_nil))) (dae_cons (de_tuple (dae_cons de_int (dae_cons de_int dae_nil))) (dae_cons (de_tuple (dae_cons de_int (dae_cons de_int dae_nil))) (dae_cons (de_tuple (dae_cons (de_esc (dv_ixK (K := K) (dv_var 2) (dv_of de_int))) (dae_cons de_int dae_nil))) dae_nil))))))))) (dss_cons (ds_share 5 (ds_for (passes_of (by rfl)) (by rfl) (di_seqK (K := K) (dv_var 5)) (dg_tupK (K := K) (by rfl) (dgs_cons (dg_name 6 nd) (dgs_cons (dg_name 7 nd) dgs_nil))) (dss_one (ds_share 7 (ds_share 6 (ds_share 3 (ds_if (dt_not (dt_truK (K := K) (dv_of (de_callK (K := K) (mg := mg) G__law_same (hr.mono (by omega)) (takes_of (by rfl) (by rfl) (by rfl) (by rfl)) (by rfl) g__law_same k__law_same b__law_same (das_cons (dv_of (de_callK (K := K) (mg := mg) G_open_days (hr.mono (by omega)) (takes_of (by rfl) (by rfl) (by rfl) (by rfl)) (by rfl) g_open_days k_open_days b_open_days (das_cons (dv_var 3) (das_cons (dv_var 6) (das_cons (dv_var 7) das_nil))))) (das_cons (dv_of (de_callK (K := K) (mg := mg) G__law_open (hr.mono (by omega)) (takes_of (by rfl) (by rfl) (by rfl) (by rfl)) (by rfl) g__law_open k__law_open b__law_open (das_cons (dv_var 3) (das_cons (dv_var 6) (das_cons (dv_var 7) das_nil))))) das_nil)))))) (dss_one (ds_ret de_bl)) dss_nil))))))) (dss_cons (ds_for (passes_of (by rfl)) (by rfl) (di_seqK (K := K) (dv_of (de_list (dae_cons (de_op op_mod sem_mod (dv_ixK (K := K) (dv_var 1) (dv_of de_int)) (dv_of de_int)) (dae_cons (de_esc (dv_ixK (K := K) (dv_var 2) (dv_of de_int))) (dae_cons de_int (dae_cons de_int (dae_cons de_int dae_nil)))))))) (dg_name 8 nd) (dss_one (ds_for (passes_of (by rfl)) (by rfl) (di_seqK (K := K) (dv_of (de_list (dae_cons de_int (dae_cons de_int (dae_cons (de_op op_mod sem_mod (dv_ixK (K := K) (dv_var 1) (dv_of de_int)) (dv_of de_int)) (dae_cons (de_op op_mod sem_mod (dv_ixK (K := K) (dv_var 1) (dv_of de_int)) (dv_of de_int)) (dae_cons de_int dae_nil)))))))) (dg_name 9 nd) (dss_one (ds_share 8 (ds_share 9 (ds_share 3 (ds_if (dt_not (dt_truK (K := K) (dv_of (de_callK (K := K) (mg := mg) G__law_is_latest (hr.mono (by omega)) (takes_of (by rfl) (by rfl) (by rfl) (by rfl)) (by rfl) g__law_is_latest k__law_is_latest b__law_is_latest (das_cons (dv_var 3) (das_cons (dv_var 9) (das_cons (dv_var 8) (das_cons (dv_of (de_callK (K := K) (mg := mg) G_order_by (hr.mono (by omega)) (takes_of (by rfl) (by rfl) (by rfl) (by rfl)) (by rfl) g_order_by k_order_by b_order_by (das_cons (dv_var 3) (das_cons (dv_var 9) (das_cons (dv_var 8) das_nil))))) das_nil)))))))) (dss_one (ds_ret de_bl)) dss_nil)))))))) (dss_one (ds_if (dt_cmp (op_nesK (K := K) (by exact hr.units)) sem_ne (dv_var 3) (dv_var 4) (nomark _)) (dss_one (ds_ret de_bl)) dss_nil))))))))) (dss_cons (ds_share 1 (ds_set 10 nd (de_list (dae_cons (de_callK (K := K) (mg := mg) G__law_book (hr.mono (by omega)) (takes_of (by rfl) (by rfl) (by rfl) (by rfl)) (by rfl) g__law_book k__law_book b__law_book (das_cons (dv_var 1) (das_cons (dv_of (de_op op_mod sem_mod (dv_ixK (K := K) (dv_var 1) (dv_of de_int)) (dv_of de_int))) das_nil))) (dae_cons (de_list dae_nil) (dae_cons (de_callK (K := K) (mg := mg) G__law_book (hr.mono (by omega)) (takes_of (by rfl) (by rfl) (by rfl) (by rfl)) (by rfl) g__law_book k__law_book b__law_book (das_cons (dv_var 1) (das_cons (dv_of de_int) das_nil))) dae_nil)))))) (dss_cons (ds_if (dt_cmp (op_eqsK (K := K) (by exact hr.units)) sem_eq (dv_of (de_op op_mod sem_mod (dv_ixK (K := K) (dv_var 1) (dv_of de_int)) (dv_of de_int))) (dv_of de_int) (nomark _)) (dss_one (ds_share 1 (ds_app 10 (de_callK (K := K) (mg := mg) G__law_book (hr.mono (by omega)) (takes_of (by rfl) (by rfl) (by rfl) (by rfl)) (by rfl) g__law_book k__law_book b__law_book (das_cons (dv_var 1) (das_cons (dv_of de_int) das_nil)))))) dss_nil) (dss_cons (ds_share 10 (ds_for (passes_of (by rfl)) (by rfl) (di_seqK (K := K) (dv_var 10)) (dg_name 11 nd) (dss_cons (ds_set 4 nd (de_sh (de_callTy (cr_listK (K := K)) sem_list (by rfl) m_list (by decide +kernel) (das_cons (dv_var 11) das_nil)))) (dss_cons (ds_set 12 nd (de_list dae_nil)) (dss_cons (ds_share 11 (ds_for (passes_of (by rfl)) (by rfl) (di_seqK (K := K) (dv_of (de_callB (cr_srtB (K := K) (by rfl)) sem_srtB (by rfl) m_sorted (by decide +kernel) (das_cons (dv_of (de_lc (own := [("row", 13)]) [13] (by rfl) nd (di_seqK (K := K) (dv_var 11)) (blkOk_by (by kernel_rfl)) (fun _ _ _ _ _ => (dg_name 13 nd)) (fun _ _ _ _ _ => dts_nil) (fun _ _ _ _ _ => (de_esc (dv_ixK (K := K) (dv_var 13) (dv_of de_int)))))) das_nil)))) (dg_name 13 nd) (dss_one (ds_if (dt_cmp (op_ninsK (K := K) (by exact hr)) sem_nin (dv_var 13) (dv_var 12) (by rfl)) (dss_one (ds_share 13 (ds_app 12 (de_esc (dv_var 13))))) dss_nil)))) (dss_cons (ds_share 11 (ds_share 12 (ds_setLcSh (own := [("name", 16)]) 14 [16] (by rfl) nd (di_seqK (K := K) (dv_var 12)) (blkOk_by (by kernel_rfl)) (fun _ _ _ _ _ => (dg_name 16 nd)) (fun _ _ _ _ _ => dts_nil) (fun _ _ _ _ _ => (de_callK (K := K) (mg := mg) G__law_need (hr.mono (by omega)) takes0 (by rfl) g__law_need k__law_need b__law_need (das_cons (dv_var 11) (das_cons (dv_var 16) das_nil))))))) (dss_cons (ds_for (passes_of (by rfl)) (by rfl) (di_range1 (by rfl) m_range (das_cons (dv_of de_int) das_nil)) (dg_name 15 nd) (dss_cons (ds_share 11 (ds_set 18 nd (de_callK (K := K) (mg := mg) G_needs_of (hr.mono (by omega)) (takes_of (by rfl) (by rfl) (by rfl) (by rfl)) (by rfl) g_needs_of k_needs_of b_needs_of (das_cons (dv_var 11) das_nil)))) (dss_cons (ds_share 14 (ds_if (dt_bool (dw_or (dt_not (dt_truK (K := K) (dv_of (de_callK (K := K) (mg := mg) G__law_same (hr.mono (by omega)) (takes_of (by rfl) (by rfl) (by rfl) (by rfl)) (by rfl) g__law_same k__law_same b__law_same (das_cons (dv_var 18) (das_cons (dv_var 14) das_nil)))))) (dw_or (dt_cmp (op_nesK (K := K) (by exact hr.units)) sem_ne (dv_var 11) (dv_var 4) (nomark _)) (dw_or1 (dt_not (dt_truK (K := K) (dv_of (de_callK (K := K) (mg := mg) G__law_same (hr.mono (by omega)) (takes_of (by rfl) (by rfl) (by rfl) (by rfl)) (by rfl) g__law_same k__law_same b__law_same (das_cons (dv_of (de_callK (K := K) (mg := mg) G_needs_of (hr.mono (by omega)) (takes_of (by rfl) (by rfl) (by rfl) (by rfl)) (by rfl) g_needs_of k_needs_of b_needs_of (das_cons (dv_of (de_revA (K := K) (dv_var 11))) das_nil))) (das_cons (dv_var 14) das_nil)))))))))) (dss_one (ds_ret de_bl)) dss_nil)) (dss_one (ds_app 18 de_int))))) (dss_one (ds_share 14 (ds_for (passes_of (by rfl)) (by rfl) (di_seqK (K := K) (dv_var 14)) (dg_tupK (K := K) (by rfl) (dgs_cons (dg_name 16 nd) (dgs_cons (dg_name 17 nd) (dgs_cons (dg_name 8 nd) dgs_nil)))) (dss_cons (ds_share 8 (ds_share 17 (ds_share 16 (ds_share 11 (ds_if (dt_bool (dw_or (dt_cmp op_notN sem_notN (dv_of (de_callK (K := K) (mg := mg) G_lasts_until (hr.mono (by omega)) (takes_of (by rfl) (by rfl) (by rfl) (by rfl)) (by rfl) g_lasts_until k_lasts_until b_lasts_until (das_cons (dv_var 11) (das_cons (dv_var 16) (das_cons (dv_var 17) das_nil))))) (dv_of de_non) (nomark _)) (dw_or1 (dt_bool (dw_and (dt_cmp op_gt sem_B0 (dv_var 17) (dv_of de_int) (nomark _)) (dw_and1 (dt_not (dt_truK (K := K) (dv_of (de_callK (K := K) (mg := mg) G__law_same (hr.mono (by omega)) (takes_of (by rfl) (by rfl) (by rfl) (by rfl)) (by rfl) g__law_same k__law_same b__law_same (das_cons (dv_of (de_callK (K := K) (mg := mg) G_lasts_until (hr.mono (by omega)) (takes_of (by rfl) (by rfl) (by rfl) (by rfl)) (by rfl) g_lasts_until k_lasts_until b_lasts_until (das_cons (dv_var 11) (das_cons (dv_var 16) (das_cons (dv_of (de_op op_sub sem_I0 (dv_var 17) (dv_of de_int))) das_nil))))) (das_cons (dv_var 8) das_nil)))))))))))) (dss_one (ds_ret de_bl)) dss_nil))))) (dss_one (ds_for (passes_of (by rfl)) (by rfl) (di_seqK (K := K) (dv_of (de_list (dae_cons de_int (dae_cons (de_op op_mod sem_mod (dv_ixK (K := K) (dv_var 1) (dv_of de_int)) (dv_of de_int)) (dae_cons (de_op op_fdivW sem_div (dv_var 17) (dv_of de_int)) (dae_cons (de_op (op_plusK (K := K)) sem_add (dv_var 17) (dv_of de_int)) dae_nil))))))) (dg_name 19 nd) (dss_one (ds_share 19 (ds_share 16 (ds_share 11 (ds_if (dt_not (dt_truK (K := K) (dv_of (de_callK (K := K) (mg := mg) G__law_same (hr.mono (by omega)) (takes_of (by rfl) (by rfl) (by rfl) (by rfl)) (by rfl) g__law_same k__law_same b__law_same (das_cons (dv_of (de_callK (K := K) (mg := mg) G_lasts_until (hr.mono (by omega)) (takes_of (by rfl) (by rfl) (by rfl) (by rfl)) (by rfl) g_lasts_until k_lasts_until b_lasts_until (das_cons (dv_var 11) (das_cons (dv_var 16) (das_cons (dv_var 19) das_nil))))) (das_cons (dv_of (de_callK (K := K) (mg := mg) G__law_lasts (hr.mono (by omega)) (takes_of (by rfl) (by rfl) (by rfl) (by rfl)) (by rfl) g__law_lasts k__law_lasts b__law_lasts (das_cons (dv_var 11) (das_cons (dv_var 16) (das_cons (dv_var 19) das_nil))))) das_nil)))))) (dss_one (ds_ret de_bl)) dss_nil)))))))))))))))))) (dss_one (ds_ret de_bl))))))))⟩
end G
set_option Elab.async false
set_option linter.all false
set_option maxRecDepth 100000
set_option maxHeartbeats 0
namespace G
open PL PySem PSh PSc
abbrev I (n : Int) : PyData := .int n
abbrev L (ns : List Int) : PyData := .list (ns.map PyData.int)
theorem cell_eq : d__law_cell = Sh2.d__law_cell := rfl
theorem numbers_eq : d__law_numbers = Sh.d__law_numbers := rfl
theorem same_eq : ∀ n, d__law_same n = Sh.d__law_same n
  | 0 => rfl
  | n + 1 => by
    show fnD 2 1 (s__law_same (d__law_same n)) = fnD 2 1 (Sh.s__law_same (Sh.d__law_same n))
    rw [same_eq n]; rfl
theorem w_same (d : D) (h : Sh.sameOk 12 d = true) : d__law_same 12 [.sh d, .sh d] = .ok (.sh (.bool true)) := by
  rw [same_eq]; exact Sh.law_same 12 d h
theorem w_cell (ns : List Int) (k : Int) (h0 : 0 ≤ k) : ∃ c : Int, d__law_cell [.scr ns, .sh (I k)] = .ok (.sh (I c)) := by
  obtain ⟨c, ec⟩ := Sh2.law_cell ns k h0
  exact ⟨c, by rw [cell_eq]; exact ec⟩
theorem w_numbers (c count limit : Int) (hc0 : 0 ≤ count) (hc : count ≤ 200) (hl : 0 < limit) (hl2 : limit < 4294967296) : ∃ dr : List Int, d__law_numbers [.sh (I c), .sh (I count), .sh (I limit)] = .ok (.ol (dr.map PyData.int)) ∧ (dr.length : Int) = count ∧ Below limit dr := by
  obtain ⟨dr, eg, dl, db⟩ := Sh.law_numbers c count limit hc0 (by omega) hl (by omega)
  exact ⟨dr, by rw [numbers_eq]; exact eg, by omega, db⟩
/-- xs[i] of a list of ints -/
theorem ixI {xs : List Int} {ρ : En} {j : Nat} {ek : En → Rs T} {k : Int} (h : ρ.get j = some (.sh (L xs))) (hk : ek ρ = .ok (.sh (I k))) (h0 : 0 ≤ k) (h1 : k < (xs.length : Int)) : evBin fIx (evVar j) ek ρ = .ok (.sh (I (at_ xs k))) := by
  refine evBin_ok (evVar_ok h) hk ?_
  rw [x_ixL, x_at h0 h1]; rfl
theorem joinN {o : Out} {N N' : En → Prop} {R : T → Prop} {B C : En → Prop} (h : o.P N (fun _ => False) (fun _ => False) (fun _ => False)) (h1 : ∀ ρ, N ρ → N' ρ) : o.P N' R B C := h.imp h1 (fun _ z => z.elim) (fun _ z => z.elim) fun _ z => z.elim
theorem eiSeq_list {ev : En → Rs T} {ρ : En} {ds : List D} (h : ev ρ = .ok (.sh (.list ds))) : eiSeq ev ρ = .ok ds := by
  simp only [eiSeq, h, x_bind, T.items, x_rs]
def oD : Option Int → D
  | none => .none
  | some i => I i
def rD (r : Rw) : D := .tuple [I r.1, .str r.2.1, I r.2.2]
abbrev BD (b : List Rw) : D := .list (b.map rD)
theorem w_is_open (cl : List Int) (d : Int) : d_is_open [.sh (L cl), .sh (I d)] = .ok (.sh (.bool (!decide (d ∈ cl)))) := by
  refine fn_eq rfl (p_ret ?_)
  simp only [en0, List.map_cons, List.map_nil, List.cons_append, List.nil_append, List.replicate]
  exact .of (evBin_ok (ea := evVar 1) (eb := evVar 0) rfl rfl x_ninL) rfl
theorem w_open_days (cl : List Int) (a b : Int) (hl : cl.length ≤ 60000) : d_open_days [.sh (L cl), .sh (I a), .sh (I b)] = .ok (.sh (I (opn cl a b))) := by
  refine fn_eq rfl ?_
  unfold s_open_days
  simp only [en0, List.map_cons, List.map_nil, List.cons_append, List.nil_append, List.replicate]
  refine p_seq (p_ifB (k := decide (b ≤ a)) (evEBin (a := evVar 2) (b := evVar 1) rfl rfl x_le) (fun hk => p_ret (.of rfl ?_)) fun hk => p_nil (p_share ?_))
  · rw [decide_eq_true_eq] at hk
    unfold opn
    rw [if_pos hk]
  · rw [decide_eq_false_iff_not] at hk
    simp only [En.share, T.noScr, T.er, if_true]
    have hc := comp_eqI (ei := eiSeq (evVar 0)) (vs := [3]) (g := egName 3) (c := evEB (evChain fLeI fLt (evVar 1) (evVar 3) (evVar 2))) (e := evEsc (evVar 3)) (ρ := [some (.sh (L cl)), some (.sh (I a)), some (.sh (I b)), none]) (l := cl) (f := PyData.int) (k := fun c => decide (a ≤ c) && decide (c < b)) (hi := fun c => c) rfl (by omega) fun c _ => ⟨_, rfl, by simp only [evVar, En.get, evC, evBin, evSh, evEsc, evB, evEB, evChain, evAnd, evOr, evNot, evAndV, evOrV, evNotV, evIf, evCons, evNil, evLst, evTup, evCall, callF, evSl, eoN, eoS, evUn, evC1, evIsi, evTru, erg1, erg2, evLRg, evTRg, eiSeq, eiEnum, eiZip, x_bind, x_rs, x_asB, x_asI, x_bifB, x_bifO, x_andB, x_orB, x_bifI, List.length_map, en0, List.replicate, List.cons_append, List.nil_append, T.asD, T.items, T.itL, T.itT, T.er, T.ers, T.noScr, T.noScrs, T.shs, mkL, mkT, T.isSh, T.argOk, T.toArg, T.solid, flatD, T.isL, T.parts, putAll, T.tru, T.ty, T.isRg, tyD, En.put, En.clr, En.share, egName, egTup, egCons, egNil, Option.map_some, Option.map_none, Option.bind_some, Option.bind, List.all_cons, List.all_nil, List.map_cons, List.map_nil, List.length_cons, List.length_nil, Bool.and_true, Bool.true_and, Bool.and_self, Bool.not_true, Bool.not_false, if_true, cond_true, cond_false, Bool.false_eq_true, if_false, true_and, and_true, Rs.P_ok, Bool.and_false, Bool.false_and, Bool.false_or, Bool.or_false, Bool.true_or, Bool.or_true, Nat.reduceAdd, Nat.reduceLeDiff, Nat.reduceEqDiff, reduceCtorEq, x_ltF, x_ltS, x_ltT2, x_anyL, x_anyO, x_allL, x_allO, x_isB, x_notB, x_add, x_iadd, x_sub, x_lt, x_le, x_gt, x_ge, x_eq, x_ne, x_eqB, x_neB, x_eqS, x_neS, x_max2, x_min2, x_int1, x_intB, x_lenL, x_lenT, x_lenO, x_lenS, x_sumL, x_sumO, x_sortL, x_sortO, x_listL, x_listT, x_listO, x_isN, x_isNn, x_isNi, x_isNl, x_isNt, x_isNb, x_notN, x_ixL, x_ixT, x_ixO, x_ixS, x_ix0, x_ix1, x_ix2, x_sl, x_slO, x_slT, x_inL, x_inO, x_ninL, x_ninO], fun _ => rfl⟩
    refine p_ret (.of (evBin_ok (evSh_sh (evBin_ok (ea := evVar 2) (eb := evVar 1) rfl rfl x_sub)) (evSh_sh (evC1_1 (evSh_ol' hc) x_lenL)) x_sub) ?_)
    unfold opn shut
    rw [if_neg hk, List.length_map, List.map_id']
theorem w_order_by (cl : List Int) (lead d0 : Int) (nd : cl.Nodup) (hl : 0 ≤ lead) (h0 : 0 ≤ d0) (h1 : d0 ≤ 60000) : ∃ o : Option Int, d_order_by [.sh (L cl), .sh (I lead), .sh (I d0)] = .ok (.sh (oD o)) ∧
    (match o with
      | none => opn cl 0 d0 < lead
      | some t => 0 ≤ t ∧ t ≤ d0 ∧ lead ≤ opn cl t d0 ∧ (t = d0 ∨ opn cl (t + 1) d0 < lead)) := by
  have hO := w_is_open cl
  suffices hq : (d_order_by [.sh (L cl), .sh (I lead), .sh (I d0)]).P fun t => ∃ o : Option Int, t = .sh (oD o) ∧ (match o with
      | none => opn cl 0 d0 < lead
      | some t => 0 ≤ t ∧ t ≤ d0 ∧ lead ≤ opn cl t d0 ∧ (t = d0 ∨ opn cl (t + 1) d0 < lead)) by
    obtain ⟨t, e, o, rfl, h⟩ := hq.ex
    exact ⟨o, e, h⟩
  refine p_fn rfl ?_
  unfold s_order_by
  generalize d_is_open = DO at *
  as_aux_lemma =>
  simp only [en0, List.map_cons, List.map_nil, List.cons_append, List.nil_append, List.replicate]
  refine p_seq (p_set (.of (a := .sh (I 0)) rfl ?_))
  simp only [En.clr, En.put]
  have z0 : opn cl d0 d0 = 0 := by unfold opn; rw [if_pos (Int.le_refl _)]
  refine p_seq (p_while (n := d0.toNat) (fun m ρ => ∃ d f : Int, ρ = [some (.sh (L cl)), some (.sh (I lead)), some (.sh (I d)), some (.sh (I f))] ∧ f = opn cl d d0 ∧ 0 ≤ d ∧ d ≤ d0 ∧ m = d.toNat ∧ (d = d0 ∨ opn cl (d + 1) d0 < lead)) (by unfold fuel; omega) ⟨d0, 0, rfl, z0.symm, h0, Int.le_refl _, rfl, .inl rfl⟩ ?_)
  rintro m ρ ⟨d, f, rfl, hf, g0, g1, hm, hor⟩
  refine .of (a := decide (f < lead) && decide (0 < d)) (evAnd_ok (evEBin (a := evVar 3) (b := evVar 1) rfl rfl x_ltF) fun _ => evEBin (a := evVar 2) rfl rfl x_gt) ?_
  by_cases hc : f < lead ∧ 0 < d
  · rw [decide_eq_true hc.1, decide_eq_true hc.2, Bool.and_self, if_pos rfl]
    refine p_seq (p_set (.of (a := .sh (I (d - 1))) (evBin_ok (ea := evVar 2) rfl rfl x_sub) ?_))
    refine p_share ?_
    simp only [En.share, En.clr, En.put, T.noScr, T.er, if_true]
    have st := opn_step nd (a := d - 1) (b := d0) (by omega)
    rw [Int.sub_add_cancel] at st
    refine p_set (.of (a := .sh (I (f + if decide (d - 1 ∈ cl) = true then 0 else 1))) ?_ ?_)
    · refine evBin_ok (ea := evVar 3) rfl (evSh_sh (evC1_1 (evSh_sh (evCall_2 (ea := evVar 0) (eb := evVar 2) rfl rfl (hO (d - 1)))) x_intB)) (x_iadd.trans ?_)
      refine congrArg (fun i => some (T.sh (PyData.int (f + i)))) ?_
      cases decide (d - 1 ∈ cl) <;> rfl
    · refine ⟨(d - 1).toNat, by omega, d - 1, _, rfl, ?_, by omega, by omega, rfl, .inr ?_⟩
      · rw [st, hf]
        by_cases hm2 : d - 1 ∈ cl
        · rw [if_pos hm2, if_pos (decide_eq_true hm2)]
        · rw [if_neg hm2, if_neg (by rw [decide_eq_false hm2]; decide)]
      · rw [Int.sub_add_cancel, ← hf]; exact hc.1
  · have e : (decide (f < lead) && decide (0 < d)) = false := by
      rw [Bool.eq_false_iff]
      intro z
      rw [Bool.and_eq_true, decide_eq_true_eq, decide_eq_true_eq] at z
      exact hc z
    rw [e, if_neg (by decide)]
    refine p_seq (p_ifB (k := decide (f < lead)) (evEBin (a := evVar 3) (b := evVar 1) rfl rfl x_ltF) (fun hk => p_ret (.of rfl ⟨none, rfl, ?_⟩)) fun hk => p_nil (p_ret (.of rfl ⟨some d, rfl, g0, g1, ?_, hor⟩)))
    · rw [decide_eq_true_eq] at hk
      have : d = 0 := by omega
      subst this
      rw [← hf]; exact hk
    · rw [decide_eq_false_iff_not] at hk
      omega
/-- what is asked of a book -/
structure GBk (b : List Rw) : Prop where
  len : b.length ≤ 100
  dy : ∀ k, (dedG (dys b k)).length < 64
  kd : (dedG (b.map (·.2.1))).length < 64
theorem srt_days {b : List Rw} (h : GBk b) (k : Str) : sortKeys ((dys b k).map Sum.inl) = some (.ol ((days b k).map PyData.int)) := by
  unfold sortKeys
  rw [dedG_map (fun x y e => Sum.inl.inj e), List.length_map, if_pos (h.dy k), keysI_map]; rfl
theorem srt_kinds {b : List Rw} (h : GBk b) : ∃ t, sortKeys ((b.map (·.2.1)).map Sum.inr) = some t ∧ t.er = .list ((kinds b).map PyData.str) ∧ t.noScr = true := by
  unfold sortKeys
  rw [dedG_map (fun x y e => Sum.inr.inj e), List.length_map, if_pos h.kd]
  cases hb : b.map (·.2.1) with
  | nil =>
    refine ⟨_, rfl, ?_, rfl⟩
    unfold kinds
    rw [hb]
    have e1 : setGI [] = [] := (sortI_perm _).eq_nil
    have e2 : setGS [] = [] := (sortS_perm _).eq_nil
    rw [e1, e2]; rfl
  | cons x r =>
    have e1 : keysI ((x :: r).map Sum.inr) = none := rfl
    rw [e1, keysS_map]
    refine ⟨_, rfl, ?_, rfl⟩
    unfold kinds
    rw [hb]; rfl
def lvD (b : List Rw) (k : Str) (d : Int) : D := .tuple [I d, I (lvl b k d)]
theorem days_len {b : List Rw} (h : GBk b) (k : Str) : (days b k).length < 64 := by
  unfold days
  rw [setGI_len]; exact h.dy k
theorem w_levels_of {b : List Rw} (h : GBk b) (k : Str) : d_levels_of [.sh (BD b), .sh (.str k)] = .ok (.ol ((days b k).map (lvD b k))) := by
  refine fn_eq rfl ?_
  unfold s_levels_of
  simp only [en0, List.map_cons, List.map_nil, List.cons_append, List.nil_append, List.replicate]
  have hk := keys_eq (ei := eiSeq (evVar 0)) (vs := [4, 5, 7]) (g := egTup 3 (egCons (egName 4) (egCons (egName 5) (egCons (egName 7) egNil)))) (c := evEB (evBin fEq (evVar 5) (evVar 1))) (e := evEsc (evVar 4)) (ρ := [some (.sh (BD b)), some (.sh (.str k)), none, none, none, none, none, none]) (l := b) (f := rD) (k := fun r => decide (r.2.1 = k)) (h := fun r => .inl r.1) rfl fun r _ => ⟨_, rfl, evEBin rfl rfl x_eqS, fun _ => rfl⟩
  have hk2 : (b.filter fun r => decide (r.2.1 = k)).map (fun r => (Sum.inl r.1 : L2.Key)) = (dys b k).map Sum.inl := by unfold dys; rw [List.map_map]; rfl
  rw [hk2] at hk
  refine p_seq (p_set (.of (a := .sh (L (days b k))) ?_ ?_))
  · refine evSh_ol' ?_
    unfold evSortSC
    rw [hk]
    show rsO _ = _
    rw [srt_days h k]; rfl
  simp only [En.clr, En.put]
  refine p_seq (p_share ?_)
  simp only [En.share, T.noScr, T.er, if_true]
  have hs := comp_eq (ei := eiSeq (evVar 0)) (vs := [4, 5, 6]) (g := egTup 3 (egCons (egName 4) (egCons (egName 5) (egCons (egName 6) egNil)))) (c := evEB (evBin fEq (evVar 5) (evVar 1))) (e := evTup (evCons (evEsc (evVar 4)) (evCons (evEsc (evVar 6)) evNil))) (ρ := [some (.sh (BD b)), some (.sh (.str k)), some (.sh (L (days b k))), none, none, none, none, none]) (l := b) (f := rD) (k := fun r => decide (r.2.1 = k)) (h := fun r => .tuple [I r.1, I r.2.2]) rfl (by have := h.len; omega) fun r _ => ⟨_, rfl, evEBin rfl rfl x_eqS, fun _ => evTup_sh2 rfl rfl⟩
  refine p_set (.of (evSh_ol' hs) ?_)
  simp only [En.clr, En.put]
  refine p_share (p_share ?_)
  simp only [En.share, T.noScr, T.er, if_true]
  refine p_ret (.of (comp_all (l := days b k) (f := PyData.int) (h := lvD b k) rfl (by have := days_len h k; omega) fun d _ => ⟨_, rfl, ?_⟩) rfl)
  have hf : (b.filter fun r => decide (r.2.1 = k)).length ≤ 100 := Nat.le_trans (List.length_filter_le _ _) h.len
  have hc := comp_eqI (ei := eiSeq (evVar 3)) (vs := [5, 6]) (g := egTup 2 (egCons (egName 5) (egCons (egName 6) egNil))) (c := evEB (evBin fLeI (evVar 5) (evVar 4))) (e := evEsc (evVar 6)) (ρ := [some (.sh (BD b)), some (.sh (.str k)), some (.sh (L (days b k))), some (.sh (.list ((b.filter fun r => decide (r.2.1 = k)).map fun r => .tuple [I r.1, I r.2.2]))), some (.sh (I d)), none, none, none]) (l := b.filter fun r => decide (r.2.1 = k)) (f := fun r => .tuple [I r.1, I r.2.2]) (k := fun r => decide (r.1 ≤ d)) (hi := fun r => r.2.2) rfl (by omega) fun r _ => ⟨_, rfl, evEBin rfl rfl x_le, fun _ => rfl⟩
  refine evTup_sh2 rfl ((evC1_1 (evSh_ol' hc) x_sumL).trans ?_)
  refine congrArg (fun i => Rs.ok (T.sh (PyData.int i))) ?_
  unfold lvl
  rw [List.filter_filter]
  refine congrArg (fun l : List Rw => (l.map (·.2.2)).sum) (List.filter_congr fun r _ => ?_)
  rw [Bool.and_comm]
end G
set_option Elab.async false
set_option linter.all false
set_option maxRecDepth 100000
set_option maxHeartbeats 0
namespace G
open PL PySem PSh PSc
theorem maxI_top (l : List Int) : maxI (0 :: l) = top l := by
  obtain ⟨h1, h2⟩ := maxI_mem (ns := 0 :: l) (by simp)
  obtain ⟨a1, a2, a3⟩ := fold_ge l 0
  have le1 : maxI (0 :: l) ≤ top l := by
    rcases List.mem_cons.mp h1 with e | h
    · rw [e]; exact a1
    · exact a2 _ h
  have le2 : top l ≤ maxI (0 :: l) := a3.elim (fun e => by show l.foldl max 0 ≤ _; rw [e]; exact h2 0 List.mem_cons_self) fun e => h2 _ (List.mem_cons_of_mem _ e)
  omega
def needD (b : List Rw) (k : Str) : D := .tuple [.str k, I (need b k), oD (nday b k)]
/-- xs[0] if xs else None -/
theorem first_ret {N : En → Prop} {R : T → Prop} {B C : En → Prop} {ρ : En} {j : Nat} {l : List Int} {a b : En → Rs T} (h : ρ.get j = some (.sh (L l))) (h0 : l.head? = none → (a ρ).P R) (h1 : ∀ x, l.head? = some x → evEsc (evBin fIx (evVar j) (evSh (evC (.int 0)))) ρ = .ok (.sh (I x)) → (b ρ).P R) :
    (sSeq (sIf (evNot (evTru (evVar j))) (sRet a) sNil) (sRet b) ρ).P N R B C := by
  have ht : evTru (evVar j) ρ = .ok (!l.isEmpty) := by
    unfold evTru
    rw [evVar_ok h, x_bind]
    show Rs.ok (!(l.map PyData.int).isEmpty) = _
    rw [List.isEmpty_map]
  cases l with
  | nil => exact p_seq (p_ifB (k := true) (by rw [evNot_ok ht]; rfl) (fun _ => p_ret (h0 rfl)) fun z => by cases z)
  | cons x r =>
    refine p_seq (p_ifB (k := false) (by rw [evNot_ok ht]; rfl) (fun z => by cases z) fun _ => p_nil (p_ret (h1 x rfl ?_)))
    refine evEsc_sh (evBin_ok (y := .sh (.int 0)) (evVar_ok h) rfl ?_)
    rw [x_ixL, List.map_cons, x_ix0]; rfl
theorem w_need_of {b : List Rw} (h : GBk b) (k : Str) : d_need_of [.sh (BD b), .sh (.str k)] = .ok (.sh (needD b k)) := by
  have hL := w_levels_of h k
  have hd := days_len h k
  refine fn_eq rfl ?_
  unfold s_need_of
  generalize d_levels_of = DL at *
  as_aux_lemma =>
  simp only [en0, List.map_cons, List.map_nil, List.cons_append, List.nil_append, List.replicate]
  refine p_seq (p_share (p_share ?_))
  simp only [En.share, T.noScr, T.er, if_true]
  refine p_set (.of (evSh_ol' (evCall_2 rfl rfl hL)) ?_)
  simp only [En.clr, En.put]
  refine p_seq (p_share ?_)
  simp only [En.share, T.noScr, T.er, if_true]
  have h1 := comp_allI (ei := eiSeq (evVar 2)) (vs := [7, 6]) (g := egTup 2 (egCons (egName 7) (egCons (egName 6) egNil))) (e := evBin fSub (evSh (evC (.int 0))) (evVar 6)) (ρ := [some (.sh (BD b)), some (.sh (.str k)), some (.sh (.list ((days b k).map (lvD b k)))), none, none, none, none, none]) (l := days b k) (f := lvD b k) (hi := fun d => 0 - lvl b k d) rfl (by omega) fun d _ => ⟨_, rfl, evBin_ok rfl rfl x_sub⟩
  refine p_set (.of (a := .sh (I (need b k))) ?_ ?_)
  · have e1 : evSh (evLst (evCons (evC (.int 0)) evNil)) [some (.sh (BD b)), some (.sh (.str k)), some (.sh (.list ((days b k).map (lvD b k)))), none, none, none, none, none] = .ok (.sh (.list [.int 0])) := rfl
    have e2 := evSh_ol' (evBin_ok e1 (evSh_ol' h1) (x_catL (by rw [List.length_map, List.length_map]; simp; omega)))
    refine (evC1_1 (t := .sh (I (maxI (0 :: (days b k).map fun d => 0 - lvl b k d)))) e2 ?_).trans ?_
    · exact x_maxL (ns := 0 :: (days b k).map fun d => 0 - lvl b k d) (by simp)
    · rw [maxI_top]; rfl
  simp only [En.clr, En.put]
  refine p_seq (p_share ?_)
  simp only [En.share, T.noScr, T.er, if_true]
  have h2 := comp_eqI (ei := eiSeq (evVar 2)) (vs := [5, 6]) (g := egTup 2 (egCons (egName 5) (egCons (egName 6) egNil))) (c := evAnd (evEB (evBin fGtI (evVar 3) (evSh (evC (.int 0))))) (evEB (evBin fEq (evSh (evBin fAdd (evVar 6) (evVar 3))) (evSh (evC (.int 0)))))) (e := evEsc (evVar 5)) (ρ := [some (.sh (BD b)), some (.sh (.str k)), some (.sh (.list ((days b k).map (lvD b k)))), some (.sh (I (need b k))), none, none, none, none]) (l := days b k) (f := lvD b k) (k := fun d => decide (0 < need b k) && decide (lvl b k d + need b k = 0)) (hi := fun d => d) rfl (by omega) fun d _ => ⟨_, rfl, evAnd_ok (evEBin rfl rfl x_gt) fun _ => evEBin (evSh_sh (evBin_ok rfl rfl x_add)) rfl x_eq, fun _ => rfl⟩
  rw [List.map_id'] at h2
  refine p_set (.of (evSh_ol' h2) ?_)
  simp only [En.clr, En.put]
  have hh : ((days b k).filter fun d => decide (0 < need b k) && decide (lvl b k d + need b k = 0)).head? = nday b k := by
    rw [List.head?_filter]; rfl
  refine first_ret (j := 4) rfl (fun hn => ?_) fun x hx he => ?_
  · have e : nday b k = none := by rw [← hh]; exact hn
    unfold needD
    rw [e]
    exact .of rfl rfl
  · have e : nday b k = some x := by rw [← hh]; exact hx
    unfold needD
    rw [e]
    generalize L ((days b k).filter fun d => decide (0 < need b k) && decide (lvl b k d + need b k = 0)) = ld at he ⊢
    refine .of (a := .sh (.tuple [.str k, I (need b k), I x])) ?_ rfl
    simp only [evTup, evCons, evNil, evVar, En.get, he, x_bind, x_rs]
    rfl
theorem w_lasts_until {b : List Rw} (h : GBk b) (k : Str) (n : Int) : d_lasts_until [.sh (BD b), .sh (.str k), .sh (I n)] = .ok (.sh (oD (fst b k fun v => decide (v + n < 0)))) := by
  have hL := w_levels_of h k
  have hd := days_len h k
  refine fn_eq rfl ?_
  unfold s_lasts_until
  generalize d_levels_of = DL at *
  as_aux_lemma =>
  simp only [en0, List.map_cons, List.map_nil, List.cons_append, List.nil_append, List.replicate]
  refine p_seq (p_share (p_share ?_))
  simp only [En.share, T.noScr, T.er, if_true]
  have h2 := comp_eqI (ei := eiSeq (evSh (evCall 2 DL (evCons (evVar 0) (evCons (evVar 1) evNil))))) (vs := [4, 5]) (g := egTup 2 (egCons (egName 4) (egCons (egName 5) egNil))) (c := evEB (evBin fLt (evSh (evBin fAdd (evVar 5) (evVar 2))) (evSh (evC (.int 0))))) (e := evEsc (evVar 4)) (ρ := [some (.sh (BD b)), some (.sh (.str k)), some (.sh (I n)), none, none, none]) (l := days b k) (f := lvD b k) (k := fun d => decide (lvl b k d + n < 0)) (hi := fun d => d) (eiSeq_list (evSh_ol' (evCall_2 rfl rfl hL))) (by omega) fun d _ => ⟨_, rfl, evEBin (evSh_sh (evBin_ok rfl rfl x_add)) rfl x_ltF, fun _ => rfl⟩
  rw [List.map_id'] at h2
  refine p_set (.of (evSh_ol' h2) ?_)
  simp only [En.clr, En.put]
  have hh : ((days b k).filter fun d => decide (lvl b k d + n < 0)).head? = fst b k fun v => decide (v + n < 0) := by
    rw [List.head?_filter]; rfl
  refine first_ret (j := 3) rfl (fun hn => ?_) fun x hx he => ?_
  · rw [← hh, hn]
    exact .of rfl rfl
  · rw [← hh, hx]
    exact .of he rfl
theorem w_needs_of {b : List Rw} (h : GBk b) : d_needs_of [.sh (BD b)] = .ok (.ol ((kinds b).map (needD b))) := by
  have hN := w_need_of h
  refine fn_eq rfl ?_
  unfold s_needs_of
  generalize d_need_of = DN at *
  as_aux_lemma =>
  simp only [en0, List.map_cons, List.map_nil, List.cons_append, List.nil_append, List.replicate]
  refine p_share ?_
  simp only [En.share, T.noScr, T.er, if_true]
  have hk := keys_eq (ei := eiSeq (evVar 0)) (vs := [2]) (g := egName 2) (c := evYes) (e := evEsc (evBin fIx (evVar 2) (evSh (evC (.int 1))))) (ρ := [some (.sh (BD b)), none, none]) (l := b) (f := rD) (k := fun _ => true) (h := fun r => .inr r.2.1) rfl fun r _ => ⟨_, rfl, rfl, fun _ => rfl⟩
  have hk2 : (b.filter fun _ => true).map (fun r => (Sum.inr r.2.1 : L2.Key)) = (b.map (·.2.1)).map Sum.inr := by
    rw [List.filter_eq_self.mpr (fun _ _ => rfl), List.map_map]; rfl
  rw [hk2] at hk
  obtain ⟨t, et, er, en⟩ := srt_kinds h
  have hkl : (kinds b).length ≤ 64 := by
    unfold kinds setGS
    rw [(sortS_perm _).length_eq]
    have := h.kd
    omega
  refine p_ret (.of (comp_all (l := kinds b) (f := PyData.str) (h := needD b) (eiSeq_list ?_) (by omega) fun k _ => ⟨_, rfl, evCall_2 rfl rfl (hN k)⟩) rfl)
  rw [← er]
  refine evSh_of ?_ en
  unfold evSortSC
  rw [hk]
  show rsO _ = _
  rw [et]; rfl
end G
set_option Elab.async false
set_option linter.all false
set_option maxRecDepth 100000
set_option maxHeartbeats 0
namespace G
open PL PySem PSh PSc
theorem w_law_closed {dr : List Int} {most : Int} (hl : 20 ≤ dr.length) (hm : 0 < most) : ∃ cl : List Int, d__law_closed [.sh (L dr), .sh (I 0), .sh (I most)] = .ok (.ol (cl.map PyData.int)) ∧ cl.Nodup ∧ cl.length ≤ 8 := by
  suffices hq : (d__law_closed [.sh (L dr), .sh (I 0), .sh (I most)]).P fun t => ∃ cl : List Int, t = .ol (cl.map PyData.int) ∧ cl.Nodup ∧ cl.length ≤ 8 by
    obtain ⟨t, e, cl, rfl, h⟩ := hq.ex
    exact ⟨cl, e, h⟩
  refine p_fn rfl ?_
  unfold s__law_closed
  simp only [en0, List.map_cons, List.map_nil, List.cons_append, List.nil_append, List.replicate]
  refine p_seq (p_set (.of (a := .ol []) rfl ?_))
  simp only [En.clr, En.put]
  refine p_seq (p_forM (l := rngI 0 (at_ dr 0 % 9)) (f := PyData.int) (x_rng1 (j := at_ dr 0 % 9) (evCons_ok (evSh_sh (evBin_ok (ixI rfl rfl (by omega) (by omega)) rfl (x_mod (by decide)))) rfl) (by omega) (by omega)) (fun r ρ => ∃ (s4 s5 : Option T) (f : List Int), ρ = [some (.sh (L dr)), some (.sh (I 0)), some (.sh (I most)), some (.ol (f.map PyData.int)), s4, s5] ∧ f.Nodup ∧ f.length + r.length ≤ 8 ∧ ∀ k ∈ r, 0 ≤ k ∧ k < 9) ⟨none, none, [], rfl, .nil, by rw [rngI_len]; simp; omega, fun k hk => by rw [rngI_mem] at hk; omega⟩ ?_ ?_)
  · rintro k r ρ ⟨s4, s5, f, rfl, nd, hl2, hk⟩
    have hk0 := hk k List.mem_cons_self
    rw [List.length_cons] at hl2
    refine ⟨_, rfl, p_seq (p_set (.of (a := .sh (I (at_ dr (0 + 1 + k) % most))) (evSh_sh (evBin_ok (ixI rfl (evSh_sh (evBin_ok (evSh_sh (evBin_ok (ea := evVar 1) rfl rfl x_add)) (eb := evVar 4) rfl x_add)) (by omega) (by omega)) rfl (x_mod hm))) ?_))⟩
    simp only [En.clr, En.put]
    generalize at_ dr (0 + 1 + k) % most = x
    refine p_ifB (k := !decide (x ∈ f)) (evEBin (a := evVar 5) (b := evVar 3) rfl rfl x_ninO) (fun hk1 => p_share ?_) fun hk1 => p_nil ⟨_, _, f, rfl, nd, by omega, fun k hk2 => hk k (List.mem_cons_of_mem _ hk2)⟩
    simp only [En.share, T.noScr, T.er, if_true]
    rw [Bool.not_eq_true', decide_eq_false_iff_not] at hk1
    refine p_app rfl rfl (.of (a := .sh (I x)) rfl ⟨_, x_app (by rw [List.length_map]; omega), _, _, f ++ [x], by rw [snocI]; rfl, ?_, by rw [List.length_append]; simp; omega, fun k hk2 => hk k (List.mem_cons_of_mem _ hk2)⟩)
    exact List.nodup_append.mpr ⟨nd, by simp, fun a ha b hb => by
      rw [List.mem_singleton] at hb; subst hb; exact fun z => hk1 (z ▸ ha)⟩
  · rintro ρ ⟨s4, s5, f, rfl, nd, hl2, hk⟩
    exact p_ret (.of (evC1_1 rfl (x_srtB x_saO)) ⟨_, rfl, (sortI_perm f).nodup_iff.mpr nd, by rw [(sortI_perm f).length_eq]; simp at hl2; omega⟩)
theorem w_law_open (cl : List Int) (a b : Int) (hl : cl.length ≤ 60000) : d__law_open [.sh (L cl), .sh (I a), .sh (I b)] = .ok (.sh (I (opn cl a b))) := by
  refine fn_eq rfl ?_
  unfold s__law_open
  simp only [en0, List.map_cons, List.map_nil, List.cons_append, List.nil_append, List.replicate]
  refine p_seq (p_ifB (k := decide (b ≤ a)) (evEBin (a := evVar 2) (b := evVar 1) rfl rfl x_le) (fun hk => p_ret (.of rfl ?_)) fun hk => p_nil (p_share ?_))
  · rw [decide_eq_true_eq] at hk
    unfold opn
    rw [if_pos hk]
  · rw [decide_eq_false_iff_not] at hk
    simp only [En.share, T.noScr, T.er, if_true]
    have hc := comp_eqI (ei := eiSeq (evVar 0)) (vs := [3]) (g := egName 3) (c := evAnd (evEB (evBin fGeI (evVar 3) (evVar 1))) (evEB (evBin fLt (evVar 3) (evVar 2)))) (e := evEsc (evVar 3)) (ρ := [some (.sh (L cl)), some (.sh (I a)), some (.sh (I b)), none]) (l := cl) (f := PyData.int) (k := fun c => decide (a ≤ c) && decide (c < b)) (hi := fun c => c) rfl (by omega) fun c _ => ⟨_, rfl, evAnd_ok (evEBin rfl rfl x_ge) (fun _ => evEBin rfl rfl x_ltF), fun _ => rfl⟩
    refine p_ret (.of (evBin_ok (evSh_sh (evBin_ok (ea := evVar 2) (eb := evVar 1) rfl rfl x_sub)) (evSh_sh (evC1_1 (evSh_ol' hc) x_lenL)) x_sub) ?_)
    unfold opn shut
    rw [if_neg hk, List.length_map, List.map_id']
theorem w_law_is_latest (cl : List Int) (lead d0 : Int) (hl : cl.length ≤ 60000) (o : Option Int) (h : match o with
      | none => opn cl 0 d0 < lead
      | some t => 0 ≤ t ∧ t ≤ d0 ∧ lead ≤ opn cl t d0 ∧ (t = d0 ∨ opn cl (t + 1) d0 < lead)) : d__law_is_latest [.sh (L cl), .sh (I lead), .sh (I d0), .sh (oD o)] = .ok (.sh (.bool true)) := by
  have hO := fun a b => w_law_open cl a b hl
  refine fn_eq rfl ?_
  unfold s__law_is_latest
  generalize d__law_open = DO at *
  as_aux_lemma =>
  simp only [en0, List.map_cons, List.map_nil, List.cons_append, List.nil_append, List.replicate]
  cases o with
  | none =>
    refine p_seq (p_ifB (k := true) (evEBin (a := evVar 3) rfl rfl x_isN) (fun _ => p_share (p_share ?_)) fun z => by cases z)
    simp only [En.share, T.noScr, T.er, if_true]
    exact p_ret (.of (evBin_ok (evSh_sh (evCall_3 rfl rfl rfl (hO 0 d0))) rfl x_ltF) (by rw [decide_eq_true h]))
  | some t =>
    obtain ⟨h1, h2, h3, h4⟩ := h
    refine p_seq (p_ifB (k := false) (evEBin (a := evVar 3) rfl rfl x_isN) (fun z => by cases z) fun _ => p_nil ?_)
    refine p_seq (p_share (p_share (p_share ?_)))
    simp only [En.share, T.noScr, T.er, if_true]
    refine p_ifB (k := false || (false || (decide (t < 0) || (decide (d0 < t) || decide (opn cl t d0 < lead))))) (evOr_ok (k := false) rfl fun _ => evOr_ok (k := false) rfl fun _ => evOr_ok (evEBin (a := evVar 3) rfl rfl x_ltF) fun _ => evOr_ok (evEBin (a := evVar 3) (b := evVar 2) rfl rfl x_gt) fun _ => evEBin (b := evVar 1) (evSh_sh (evCall_3 rfl rfl rfl (hO t d0))) rfl x_ltF) (fun z => ?_) fun _ => p_nil (p_share (p_share ?_))
    · simp only [Bool.false_or, Bool.or_eq_true, decide_eq_true_eq] at z
      omega
    · simp only [En.share, T.noScr, T.er, if_true]
      refine p_ret (.of (evOrV_ok (k := decide (t = d0)) (l := decide (opn cl (t + 1) d0 < lead)) (evSh_sh (evBin_ok (ea := evVar 3) (eb := evVar 2) rfl rfl x_eq)) fun _ => evBin_ok (evSh_sh (evCall_3 rfl (evSh_sh (evBin_ok rfl rfl x_add)) rfl (hO (t + 1) d0))) rfl x_ltF) ?_)
      refine congrArg (fun b => T.sh (PyData.bool b)) ?_
      rw [Bool.or_eq_true, decide_eq_true_eq, decide_eq_true_eq]
      exact h4
theorem w_law_level {b : List Rw} (h : GBk b) (k : Str) (d : Int) : d__law_level [.sh (BD b), .sh (.str k), .sh (I d)] = .ok (.sh (I (lvl b k d))) := by
  refine fn_eq rfl ?_
  unfold s__law_level
  simp only [en0, List.map_cons, List.map_nil, List.cons_append, List.nil_append, List.replicate]
  refine p_share ?_
  simp only [En.share, T.noScr, T.er, if_true]
  have hc := comp_eqI (ei := eiSeq (evVar 0)) (vs := [3]) (g := egName 3) (c := evAnd (evEB (evBin fEq (evBin fIx (evVar 3) (evSh (evC (.int 1)))) (evVar 1))) (evEB (evBin fLeI (evBin fIx (evVar 3) (evSh (evC (.int 0)))) (evVar 2)))) (e := evEsc (evBin fIx (evVar 3) (evSh (evC (.int 2))))) (ρ := [some (.sh (BD b)), some (.sh (.str k)), some (.sh (I d)), none]) (l := b) (f := rD) (k := fun r => decide (r.2.1 = k) && decide (r.1 ≤ d)) (hi := fun r => r.2.2) rfl (by have := h.len; omega) fun r _ => ⟨_, rfl, evAnd_ok (evEBin rfl rfl x_eqS) (fun _ => evEBin rfl rfl x_le), fun _ => rfl⟩
  exact p_ret (.of (evC1_1 (evSh_ol' hc) x_sumL) rfl)
theorem w_law_days {b : List Rw} (h : GBk b) (k : Str) : d__law_days [.sh (BD b), .sh (.str k)] = .ok (.ol ((sortI (dys b k)).map PyData.int)) := by
  refine fn_eq rfl ?_
  unfold s__law_days
  simp only [en0, List.map_cons, List.map_nil, List.cons_append, List.nil_append, List.replicate]
  refine p_share ?_
  simp only [En.share, T.noScr, T.er, if_true]
  have hc := comp_eqI (ei := eiSeq (evVar 0)) (vs := [2]) (g := egName 2) (c := evEB (evBin fEq (evBin fIx (evVar 2) (evSh (evC (.int 1)))) (evVar 1))) (e := evEsc (evBin fIx (evVar 2) (evSh (evC (.int 0))))) (ρ := [some (.sh (BD b)), some (.sh (.str k)), none]) (l := b) (f := rD) (k := fun r => decide (r.2.1 = k)) (hi := fun r => r.1) rfl (by have := h.len; omega) fun r _ => ⟨_, rfl, evEBin rfl rfl x_eqS, fun _ => rfl⟩
  exact p_ret (.of (evC1_1 (evSh_ol' hc) (x_srtB x_saL)) rfl)
theorem need_law (b : List Rw) (k : Str) : top ((sortI (dys b k)).map fun d => 0 - lvl b k d) = need b k := by
  refine top_same fun x => ?_
  unfold days
  simp only [List.mem_map, setGI_mem, (sortI_perm (dys b k)).mem_iff]
theorem fst_law (b : List Rw) (k : Str) (p : Int → Bool) : (sortI (dys b k)).find? (fun d => p (lvl b k d)) = fst b k p :=
  head_same (sortI_sorted _) (setGI_sorted _) fun x => by show _ ↔ x ∈ setGI _; rw [setGI_mem, (sortI_perm (dys b k)).mem_iff]
theorem w_law_lasts {b : List Rw} (h : GBk b) (k : Str) (n : Int) : d__law_lasts [.sh (BD b), .sh (.str k), .sh (I n)] = .ok (.sh (oD (fst b k fun v => decide (v + n < 0)))) := by
  have hV := w_law_level h k
  have hD := w_law_days h k
  rw [show (fun v => decide (v + n < 0)) = fun v => decide (n + v < 0) from funext fun v => by rw [Int.add_comm], ← fst_law]
  refine fn_eq rfl ?_
  unfold s__law_lasts
  generalize d__law_level = DV at *
  generalize d__law_days = DD at *
  as_aux_lemma =>
  simp only [en0, List.map_cons, List.map_nil, List.cons_append, List.nil_append, List.replicate]
  refine p_seq (p_share (p_share ?_))
  simp only [En.share, T.noScr, T.er, if_true]
  refine p_forM (l := sortI (dys b k)) (f := PyData.int) (eiSeq_list (evSh_ol' (evCall_2 rfl rfl hD))) (fun r ρ => ∃ s : Option T, ρ = [some (.sh (BD b)), some (.sh (.str k)), some (.sh (I n)), s] ∧ (sortI (dys b k)).find? (fun d => decide (n + lvl b k d < 0)) = r.find? fun d => decide (n + lvl b k d < 0)) ⟨none, rfl, rfl⟩ ?_ ?_
  · rintro d r ρ ⟨s, rfl, e⟩
    refine ⟨_, rfl, p_share (p_share (p_share ?_))⟩
    simp only [En.share, En.put, T.noScr, T.er, if_true]
    refine p_ifB (k := decide (n + lvl b k d < 0)) (evEBin (evSh_sh (evBin_ok (ea := evVar 2) rfl (evSh_sh (evCall_3 rfl rfl rfl (hV d))) x_add)) rfl x_ltF) (fun hk => p_ret (.of rfl ?_)) fun hk => p_nil ⟨_, rfl, ?_⟩
    · rw [e, List.find?_cons, hk]; rfl
    · rw [e, List.find?_cons, hk]
  · rintro ρ ⟨s, rfl, e⟩
    rw [e]
    exact p_ret (.of rfl rfl)
theorem w_law_need {b : List Rw} (h : GBk b) (k : Str) : d__law_need [.sh (BD b), .sh (.str k)] = .ok (.sh (needD b k)) := by
  have hV := w_law_level h k
  have hD := w_law_days h k
  have hN := need_law b k
  have hF := fst_law b k fun v => decide (0 < need b k) && decide (v + need b k = 0)
  have hN2 : nday b k = fst b k fun v => decide (0 < need b k) && decide (v + need b k = 0) := rfl
  refine fn_eq rfl ?_
  unfold s__law_need needD
  rw [hN2, ← hF]
  generalize d__law_level = DV at *
  generalize d__law_days = DD at *
  as_aux_lemma =>
  simp only [en0, List.map_cons, List.map_nil, List.cons_append, List.nil_append, List.replicate]
  refine p_seq (p_set (.of (a := .sh (I 0)) rfl ?_))
  simp only [En.clr, En.put]
  refine p_seq (p_share (p_share ?_))
  simp only [En.share, T.noScr, T.er, if_true]
  refine p_forM (l := sortI (dys b k)) (f := PyData.int) (eiSeq_list (evSh_ol' (evCall_2 rfl rfl hD))) (fun r ρ => ∃ (n : Int) (s : Option T), ρ = [some (.sh (BD b)), some (.sh (.str k)), some (.sh (I n)), s] ∧ need b k = (r.map fun d => 0 - lvl b k d).foldl max n) ⟨0, none, rfl, hN.symm⟩ ?_ ?_
  · rintro d r ρ ⟨n, s, rfl, e⟩
    refine ⟨_, rfl, p_share (p_share (p_share ?_))⟩
    simp only [En.share, En.put, T.noScr, T.er, if_true]
    refine p_set (.of (evC1_2 (ea := evVar 2) rfl (evSh_sh (evBin_ok rfl (evSh_sh (evCall_3 rfl rfl rfl (hV d))) x_sub)) x_max2) ⟨_, _, rfl, ?_⟩)
    rw [e, List.map_cons, List.foldl_cons]
  rintro ρ ⟨n, s, rfl, e⟩
  have e : need b k = n := e
  rw [e]
  refine p_seq (p_share (p_share ?_))
  simp only [En.share, T.noScr, T.er, if_true]
  refine p_forM (l := sortI (dys b k)) (f := PyData.int) (eiSeq_list (evSh_ol' (evCall_2 rfl rfl hD))) (fun r ρ => ∃ s : Option T, ρ = [some (.sh (BD b)), some (.sh (.str k)), some (.sh (I n)), s] ∧ (sortI (dys b k)).find? (fun d => decide (0 < n) && decide (lvl b k d + n = 0)) = r.find? fun d => decide (0 < n) && decide (lvl b k d + n = 0)) ⟨s, rfl, rfl⟩ ?_ ?_
  · rintro d r ρ ⟨s, rfl, e⟩
    refine ⟨_, rfl, p_share (p_share (p_share ?_))⟩
    simp only [En.share, En.put, T.noScr, T.er, if_true]
    refine p_ifB (k := decide (0 < n) && decide (lvl b k d + n = 0)) (evAnd_ok (evEBin (a := evVar 2) rfl rfl x_gt) fun _ => (evEBin (evSh_sh (evBin_ok (ea := evVar 2) rfl (evSh_sh (evCall_3 rfl rfl rfl (hV d))) x_add)) rfl x_eq).trans ?_) (fun hk => p_ret (.of rfl ?_)) fun hk => p_nil ⟨_, rfl, ?_⟩
    · rw [Int.add_comm]
    · rw [e, List.find?_cons, hk]; rfl
    · rw [e, List.find?_cons, hk]
  · rintro ρ ⟨s, rfl, e⟩
    rw [e]
    exact p_ret (.of rfl rfl)
end G
set_option Elab.async false
set_option linter.all false
set_option maxRecDepth 100000
set_option maxHeartbeats 0
namespace G
open PL PySem PSh PSc
theorem ixE {xs : List Int} {ρ : En} {ea ek : En → Rs T} {k : Int} (h : ea ρ = .ok (.sh (L xs))) (hk : ek ρ = .ok (.sh (I k))) (h0 : 0 ≤ k) (h1 : k < (xs.length : Int)) : evBin fIx ea ek ρ = .ok (.sh (I (at_ xs k))) := by
  refine evBin_ok h hk ?_
  rw [x_ixL, x_at h0 h1]; rfl
theorem tup3 {ea eb ec : En → Rs T} {ρ : En} {a b c : D} (ha : ea ρ = .ok (.sh a)) (hb : eb ρ = .ok (.sh b)) (hc : ec ρ = .ok (.sh c)) : evTup (evCons ea (evCons eb (evCons ec evNil))) ρ = .ok (.sh (.tuple [a, b, c])) := by
  have e : evCons ea (evCons eb (evCons ec evNil)) ρ = .ok [.sh a, .sh b, .sh c] := evCons_ok ha (evCons_ok hb (evCons_ok hc rfl))
  unfold evTup
  rw [e]; rfl
def nms : List Str := ["a", "zz", "bolt", "abcdefgh"]
def nmAt (k : Int) : Str := nms.getD k.toNat "a"
theorem nmAt_mem {k : Int} (h0 : 0 ≤ k) (h1 : k < 4) : nmAt k ∈ nms ∧ L2.atI (nms.map PyData.str) k = some (.str (nmAt k)) := by
  have : k = 0 ∨ k = 1 ∨ k = 2 ∨ k = 3 := by omega
  rcases this with rfl | rfl | rfl | rfl
  · exact ⟨by decide, rfl⟩
  · exact ⟨by decide, rfl⟩
  · exact ⟨by decide, rfl⟩
  · exact ⟨by decide, rfl⟩
def dayL (dr : List Int) (m : Int) : List Int := (rngI 0 20).map fun i => at_ dr (3 * i) % m
theorem gb_of {b : List Rw} {dr : List Int} {m : Int} (hl : b.length ≤ 100) (hd : ∀ r ∈ b, r.1 ∈ dayL dr m ∧ r.2.1 ∈ nms) : GBk b := by
  refine ⟨hl, fun k => ?_, ?_⟩
  · have := ndG_len (dedG_nd (dys b k)) (b := dayL dr m) fun x hx => by
      rw [dedG_mem] at hx
      obtain ⟨r, hr, rfl⟩ := List.mem_map.mp hx
      exact (hd r (List.mem_filter.mp hr).1).1
    have e : (dayL dr m).length = 20 := by unfold dayL; rw [List.length_map, rngI_len]; rfl
    omega
  · have := ndG_len (dedG_nd (b.map (·.2.1))) (b := nms) fun x hx => by
      rw [dedG_mem] at hx
      obtain ⟨r, hr, rfl⟩ := List.mem_map.mp hx
      exact (hd r hr).2
    have e : nms.length = 4 := rfl
    omega
theorem w_law_book {dr : List Int} {n : Int} (hl : dr.length = 60) (h0 : 0 ≤ n) (hn : n ≤ 100) : ∃ b : List Rw, d__law_book [.sh (L dr), .sh (I n)] = .ok (.ol (b.map rD)) ∧ GBk b ∧ ∀ r ∈ b, r.2.1 ∈ nms := by
  obtain ⟨m, hm, em⟩ : ∃ m : Int, 0 < m ∧ at_ [6, 40, 10000] (at_ dr 58 % 3) = m := by
    refine ⟨_, ?_, rfl⟩
    have : at_ dr 58 % 3 = 0 ∨ at_ dr 58 % 3 = 1 ∨ at_ dr 58 % 3 = 2 := by omega
    rcases this with e | e | e <;> rw [e] <;> decide
  suffices hq : (d__law_book [.sh (L dr), .sh (I n)]).P fun t => ∃ b : List Rw, t = .ol (b.map rD) ∧ (b.length : Int) ≤ n ∧ ∀ r ∈ b, r.1 ∈ dayL dr m ∧ r.2.1 ∈ nms by
    obtain ⟨t, e, b, rfl, h, h2⟩ := hq.ex
    exact ⟨b, e, gb_of (by omega) h2, fun r hr => (h2 r hr).2⟩
  refine p_fn rfl ?_
  unfold s__law_book
  simp only [en0, List.map_cons, List.map_nil, List.cons_append, List.nil_append, List.replicate]
  refine p_seq (p_set (.of (a := .sh (.list (nms.map PyData.str))) rfl ?_))
  simp only [En.clr, En.put]
  refine p_seq (p_set (.of (a := .ol []) rfl ?_))
  simp only [En.clr, En.put]
  have hL : ∀ a2 a3 a4 a5 : Option T, evSh (evC1 fLen (evCons (evVar 0) evNil)) [some (.sh (L dr)), some (.sh (I n)), a2, a3, a4, a5] = .ok (.sh (I 60)) := fun _ _ _ _ => evSh_sh (evC1_1 (x := .sh (L dr)) rfl (x_lenL.trans (by rw [List.length_map, hl]; rfl)))
  refine p_seq (p_forM (l := rngI 0 n) (f := PyData.int) (x_rng1 (j := n) rfl (by omega) (by omega)) (fun r ρ => ∃ (s4 s5 : Option T) (b : List Rw), ρ = [some (.sh (L dr)), some (.sh (I n)), some (.sh (.list (nms.map PyData.str))), some (.ol (b.map rD)), s4, s5] ∧ (b.length : Int) + r.length ≤ n ∧ (∀ k ∈ r, 0 ≤ k ∧ k < n) ∧ ∀ r ∈ b, r.1 ∈ dayL dr m ∧ r.2.1 ∈ nms) ⟨none, none, [], rfl, by rw [rngI_len]; simp; omega, fun k hk => by rw [rngI_mem] at hk; exact hk, fun r hr => by cases hr⟩ ?_ ?_)
  · rintro k r ρ ⟨s4, s5, b, rfl, hl2, hk, hb⟩
    have hk0 := hk k List.mem_cons_self
    rw [List.length_cons] at hl2
    refine ⟨_, rfl, p_seq ?_⟩
    simp only [En.put]
    have m3 : ∀ a2 a3 a5 : Option T, evSh (evBin fMul (evSh (evC (.int 3))) (evVar 4)) [some (.sh (L dr)), some (.sh (I n)), a2, a3, some (.sh (I k)), a5] = .ok (.sh (I (3 * k))) := fun _ _ _ => evSh_sh (evBin_ok rfl rfl (x_mulL (by omega)))
    refine p_set (.of (a := .sh (I (at_ dr ((3 * k + 1) % 60) % 1999 - 999))) (evSh_sh (evBin_ok (evSh_sh (evBin_ok (ixI rfl (evSh_sh (evBin_ok (evSh_sh (evC1_1 (evSh_sh (evBin_ok (m3 _ _ _) rfl x_add)) x_int1)) (hL _ _ _ _) (x_mod (by decide)))) (by omega) (by omega)) rfl (x_mod (by decide)))) rfl x_sub)) ?_)
    simp only [En.clr, En.put]
    generalize at_ dr ((3 * k + 1) % 60) % 1999 - 999 = c0
    refine p_seq (joinN (N := fun ρ => ∃ c : Int, ρ = [some (.sh (L dr)), some (.sh (I n)), some (.sh (.list (nms.map PyData.str))), some (.ol (b.map rD)), some (.sh (I k)), some (.sh (I c))]) ?_ ?_)
    · refine p_ifB (k := decide (at_ dr 59 % 2 = 0)) (evEBin (evSh_sh (evBin_ok (ixI rfl rfl (by omega) (by omega)) rfl (x_mod (by decide)))) rfl x_eq) (fun _ => p_set (.of (a := .sh (I (c0 % 7 - 3))) (evSh_sh (evBin_ok (evSh_sh (evBin_ok (ea := evVar 5) rfl rfl (x_mod (by decide)))) rfl x_sub)) ⟨_, rfl⟩)) fun _ => p_nil ⟨c0, rfl⟩
    rintro ρ ⟨c, rfl⟩
    refine p_share ?_
    simp only [En.share, T.noScr, T.er, if_true]
    obtain ⟨q, hq⟩ : ∃ q, q = at_ dr ((3 * k + 2 + k / 20) % 60) % (1 + at_ dr 57 % 4) := ⟨_, rfl⟩
    have q0 : 0 ≤ q := by rw [hq]; exact Int.emod_nonneg _ (by omega)
    have q1 : q < 4 := by have := Int.emod_lt_of_pos (at_ dr ((3 * k + 2 + k / 20) % 60)) (show 0 < 1 + at_ dr 57 % 4 by omega); omega
    have en := nmAt_mem q0 q1
    refine p_app rfl rfl (.of (a := .sh (rD (at_ dr (3 * k % 60) % m, nmAt q, c))) (tup3 ?_ ?_ rfl) ⟨_, x_app (by rw [List.length_map]; omega), _, _, b ++ [(at_ dr (3 * k % 60) % m, nmAt q, c)], by rw [List.map_append]; rfl, by rw [List.length_append]; simp; omega, fun k hk2 => hk k (List.mem_cons_of_mem _ hk2), ?_⟩)
    · rw [← em]
      refine evBin_ok (ixI rfl (evSh_sh (evBin_ok (m3 _ _ _) (hL _ _ _ _) (x_mod (by decide)))) (by omega) (by omega)) (ixE (xs := [6, 40, 10000]) rfl (evSh_sh (evBin_ok (ixI rfl rfl (by omega) (by omega)) rfl (x_mod (by decide)))) (by omega) (by simp; omega)) (x_mod (by rw [em]; exact hm))
    · refine evEsc_sh (evBin_ok (x := .sh (.list (nms.map PyData.str))) (y := .sh (I q)) rfl ?_ (by rw [x_ixL, en.2]; rfl))
      rw [hq]
      refine evSh_sh (evBin_ok (ixI rfl (evSh_sh (evBin_ok (evSh_sh (evC1_1 (evSh_sh (evBin_ok (evSh_sh (evBin_ok (m3 _ _ _) rfl x_add)) (evSh_sh (evBin_ok (ea := evVar 4) rfl rfl (x_div (by decide) (by decide)))) x_add)) x_int1)) (hL _ _ _ _) (x_mod (by decide)))) (by omega) (by omega)) (evSh_sh (evBin_ok rfl (evSh_sh (evBin_ok (ixI rfl rfl (by omega) (by omega)) rfl (x_mod (by decide)))) x_add)) (x_mod (by omega)))
    · intro r hr
      rcases List.mem_append.mp hr with hr | hr
      · exact hb r hr
      · rw [List.mem_singleton] at hr
        subst hr
        refine ⟨List.mem_map.mpr ⟨k % 20, by rw [rngI_mem]; omega, ?_⟩, en.1⟩
        rw [show 3 * (k % 20) = 3 * k % 60 by omega]
  · rintro ρ ⟨s4, s5, b, rfl, hl2, hk, hb⟩
    refine p_ret (.of rfl ⟨b, rfl, ?_, hb⟩)
    simp at hl2; exact hl2
end G
set_option Elab.async false
set_option linter.all false
set_option maxRecDepth 100000
set_option maxHeartbeats 0
namespace G
open PL PySem PSh PSc
def pD (p : Int × Int) : D := .tuple [I p.1, I p.2]
abbrev Same (DS : List T → Rs T) : Prop := ∀ d, Sh.sameOk 12 d = true → DS [.sh d, .sh d] = .ok (.sh (.bool true))
theorem evLst5 {e1 e2 e3 e4 e5 : En → Rs T} {ρ : En} {a1 a2 a3 a4 a5 : Int} (h1 : e1 ρ = .ok (.sh (I a1))) (h2 : e2 ρ = .ok (.sh (I a2))) (h3 : e3 ρ = .ok (.sh (I a3))) (h4 : e4 ρ = .ok (.sh (I a4))) (h5 : e5 ρ = .ok (.sh (I a5))) :
    evSh (evLst (evCons e1 (evCons e2 (evCons e3 (evCons e4 (evCons e5 evNil)))))) ρ = .ok (.sh (L [a1, a2, a3, a4, a5])) := by
  have e : evCons e1 (evCons e2 (evCons e3 (evCons e4 (evCons e5 evNil)))) ρ = .ok [.sh (I a1), .sh (I a2), .sh (I a3), .sh (I a4), .sh (I a5)] := evCons_ok h1 (evCons_ok h2 (evCons_ok h3 (evCons_ok h4 (evCons_ok h5 rfl))))
  exact evLst_sh e (Nat.le_of_ble_eq_true rfl) rfl
theorem lp_pairs {DS DO DL : List T → Rs T} {cl : List Int} {ps : List (Int × Int)} (hS : Same DS) (hO : ∀ a b, DO [.sh (L cl), .sh (I a), .sh (I b)] = .ok (.sh (I (opn cl a b)))) (hL : ∀ a b, DL [.sh (L cl), .sh (I a), .sh (I b)] = .ok (.sh (I (opn cl a b))))
    {a0 a1 a2 a4 a6 a7 a8 a9 : Option T} {rest : En} {N : En → Prop} {R : T → Prop} {B C : En → Prop} (h : ∀ a6 a7, N (a0 :: a1 :: a2 :: some (.sh (L cl)) :: a4 :: some (.sh (.list (ps.map pD))) :: a6 :: a7 :: a8 :: a9 :: rest)) :
    (sFor (eiSeq (evVar 5)) (egTup 2 (egCons (egName 6) (egCons (egName 7) egNil))) (sShare 7 (sShare 6 (sShare 3 (sIf (evNot (evTru (evSh (evCall 2 DS (evCons (evSh (evCall 3 DO (evCons (evVar 3) (evCons (evVar 6) (evCons (evVar 7) evNil))))) (evCons (evSh (evCall 3 DL (evCons (evVar 3) (evCons (evVar 6) (evCons (evVar 7) evNil))))) evNil)))))) (sRet (evC (.bool false))) sNil)))) (a0 :: a1 :: a2 :: some (.sh (L cl)) :: a4 :: some (.sh (.list (ps.map pD))) :: a6 :: a7 :: a8 :: a9 :: rest)).P N R B C := by
  refine p_forM (l := ps) (f := pD) rfl (fun _ ρ => ∃ a6 a7, ρ = (a0 :: a1 :: a2 :: some (.sh (L cl)) :: a4 :: some (.sh (.list (ps.map pD))) :: a6 :: a7 :: a8 :: a9 :: rest)) ⟨_, _, rfl⟩ ?_ ?_
  · rintro p r ρ ⟨a6, a7, rfl⟩
    refine ⟨_, rfl, p_share (p_share (p_share ?_))⟩
    simp only [En.share, En.put, T.noScr, T.er, if_true]
    refine p_ifB (k := false) (not_if (evCall_2 (evSh_sh (evCall_3 rfl rfl rfl (hO _ _))) (evSh_sh (evCall_3 rfl rfl rfl (hL _ _))) (hS _ rfl))) (fun z => by cases z) fun _ => p_nil ⟨_, _, rfl⟩
  · rintro ρ ⟨a6, a7, rfl⟩
    exact h _ _
theorem lp_leads {DI DB : List T → Rs T} {cl : List Int} {dr : List Int} (hl : dr.length = 60) {d0 : Int} (g0 : 0 ≤ d0) (g1 : d0 ≤ 60000) (hB : ∀ lead, 0 ≤ lead → ∃ o : Option Int, DB [.sh (L cl), .sh (I lead), .sh (I d0)] = .ok (.sh (oD o)) ∧ DI [.sh (L cl), .sh (I lead), .sh (I d0), .sh (oD o)] = .ok (.sh (.bool true)))
    {a0 a2 a4 a5 a6 a7 a9 : Option T} {rest : En} {N : En → Prop} {R : T → Prop} {B C : En → Prop} (h : ∀ a9, N (a0 :: some (.sh (L dr)) :: a2 :: some (.sh (L cl)) :: a4 :: a5 :: a6 :: a7 :: some (.sh (I d0)) :: a9 :: rest)) :
    (sFor (eiSeq (evSh (evLst (evCons (evC (.int 0)) (evCons (evC (.int 1)) (evCons (evBin fMod (evBin fIx (evVar 1) (evSh (evC (.int 13)))) (evSh (evC (.int 12)))) (evCons (evBin fMod (evBin fIx (evVar 1) (evSh (evC (.int 14)))) (evSh (evC (.int 401)))) (evCons (evC (.int 400)) evNil)))))))) (egName 9) (sShare 8 (sShare 9 (sShare 3 (sIf (evNot (evTru (evSh (evCall 4 DI (evCons (evVar 3) (evCons (evVar 9) (evCons (evVar 8) (evCons (evSh (evCall 3 DB (evCons (evVar 3) (evCons (evVar 9) (evCons (evVar 8) evNil))))) evNil)))))))) (sRet (evC (.bool false))) sNil)))) (a0 :: some (.sh (L dr)) :: a2 :: some (.sh (L cl)) :: a4 :: a5 :: a6 :: a7 :: some (.sh (I d0)) :: a9 :: rest)).P N R B C := by
  have e1 : evBin fMod (evBin fIx (evVar 1) (evSh (evC (.int 13)))) (evSh (evC (.int 12))) (a0 :: some (.sh (L dr)) :: a2 :: some (.sh (L cl)) :: a4 :: a5 :: a6 :: a7 :: some (.sh (I d0)) :: a9 :: rest) = .ok (.sh (I (at_ dr 13 % 12))) := evBin_ok (ixI rfl rfl (by omega) (by omega)) rfl (x_mod (by decide))
  have e2 : evBin fMod (evBin fIx (evVar 1) (evSh (evC (.int 14)))) (evSh (evC (.int 401))) (a0 :: some (.sh (L dr)) :: a2 :: some (.sh (L cl)) :: a4 :: a5 :: a6 :: a7 :: some (.sh (I d0)) :: a9 :: rest) = .ok (.sh (I (at_ dr 14 % 401))) := evBin_ok (ixI rfl rfl (by omega) (by omega)) rfl (x_mod (by decide))
  have e := evLst5 (a1 := 0) (a2 := 1) (a5 := 400) (e1 := evC (.int 0)) (e2 := evC (.int 1)) (e5 := evC (.int 400)) rfl rfl e1 e2 rfl
  refine p_forM (l := [0, 1, at_ dr 13 % 12, at_ dr 14 % 401, 400]) (f := PyData.int) (eiSeq_list e) (fun r ρ => (∃ a9, ρ = (a0 :: some (.sh (L dr)) :: a2 :: some (.sh (L cl)) :: a4 :: a5 :: a6 :: a7 :: some (.sh (I d0)) :: a9 :: rest)) ∧ ∀ x ∈ r, 0 ≤ x) ⟨⟨_, rfl⟩, ?_⟩ ?_ ?_
  · intro x hx
    simp only [List.mem_cons, List.not_mem_nil, or_false] at hx
    omega
  · rintro d r ρ ⟨⟨a9, rfl⟩, hx⟩
    obtain ⟨o, h1, h2⟩ := hB d (hx d List.mem_cons_self)
    refine ⟨_, rfl, p_share (p_share (p_share ?_))⟩
    simp only [En.share, En.put, T.noScr, T.er, if_true]
    refine p_ifB (k := false) (not_if (evCall_4 rfl rfl rfl (evSh_sh (evCall_3 rfl rfl rfl h1)) h2)) (fun z => by cases z) fun _ => p_nil ⟨⟨_, rfl⟩, fun x hx2 => hx x (List.mem_cons_of_mem _ hx2)⟩
  · rintro ρ ⟨⟨a9, rfl⟩, _⟩
    exact h _
theorem lp_days {DI DB : List T → Rs T} {cl : List Int} {dr fa : List Int} (hl : dr.length = 60) (hf : fa.length = 20) (bf : Below 10000 fa) (hB : ∀ d0 lead : Int, 0 ≤ d0 → d0 ≤ 60000 → 0 ≤ lead → ∃ o : Option Int, DB [.sh (L cl), .sh (I lead), .sh (I d0)] = .ok (.sh (oD o)) ∧ DI [.sh (L cl), .sh (I lead), .sh (I d0), .sh (oD o)] = .ok (.sh (.bool true)))
    {a0 a4 a5 a6 a7 a8 a9 : Option T} {rest : En} {N : En → Prop} {R : T → Prop} {B C : En → Prop} (h : ∀ a8 a9, N (a0 :: some (.sh (L dr)) :: some (.sh (L fa)) :: some (.sh (L cl)) :: a4 :: a5 :: a6 :: a7 :: a8 :: a9 :: rest)) :
    (sFor (eiSeq (evSh (evLst (evCons (evBin fMod (evBin fIx (evVar 1) (evSh (evC (.int 12)))) (evSh (evC (.int 30)))) (evCons (evEsc (evBin fIx (evVar 2) (evSh (evC (.int 13))))) (evCons (evC (.int 9999)) (evCons (evC (.int 0)) (evCons (evC (.int 5)) evNil)))))))) (egName 8) (sFor (eiSeq (evSh (evLst (evCons (evC (.int 0)) (evCons (evC (.int 1)) (evCons (evBin fMod (evBin fIx (evVar 1) (evSh (evC (.int 13)))) (evSh (evC (.int 12)))) (evCons (evBin fMod (evBin fIx (evVar 1) (evSh (evC (.int 14)))) (evSh (evC (.int 401)))) (evCons (evC (.int 400)) evNil)))))))) (egName 9) (sShare 8 (sShare 9 (sShare 3 (sIf (evNot (evTru (evSh (evCall 4 DI (evCons (evVar 3) (evCons (evVar 9) (evCons (evVar 8) (evCons (evSh (evCall 3 DB (evCons (evVar 3) (evCons (evVar 9) (evCons (evVar 8) evNil))))) evNil)))))))) (sRet (evC (.bool false))) sNil))))) (a0 :: some (.sh (L dr)) :: some (.sh (L fa)) :: some (.sh (L cl)) :: a4 :: a5 :: a6 :: a7 :: a8 :: a9 :: rest)).P N R B C := by
  have e1 : evBin fMod (evBin fIx (evVar 1) (evSh (evC (.int 12)))) (evSh (evC (.int 30))) (a0 :: some (.sh (L dr)) :: some (.sh (L fa)) :: some (.sh (L cl)) :: a4 :: a5 :: a6 :: a7 :: a8 :: a9 :: rest) = .ok (.sh (I (at_ dr 12 % 30))) := evBin_ok (ixI rfl rfl (by omega) (by omega)) rfl (x_mod (by decide))
  have e2 : evEsc (evBin fIx (evVar 2) (evSh (evC (.int 13)))) (a0 :: some (.sh (L dr)) :: some (.sh (L fa)) :: some (.sh (L cl)) :: a4 :: a5 :: a6 :: a7 :: a8 :: a9 :: rest) = .ok (.sh (I (at_ fa 13))) := evEsc_sh (ixI rfl rfl (by omega) (by omega))
  have e := evLst5 (a3 := 9999) (a4 := 0) (a5 := 5) (e3 := evC (.int 9999)) (e4 := evC (.int 0)) (e5 := evC (.int 5)) e1 e2 rfl rfl rfl
  have b13 := bf.at (by decide) 13
  refine p_forM (l := [at_ dr 12 % 30, at_ fa 13, 9999, 0, 5]) (f := PyData.int) (eiSeq_list e) (fun r ρ => (∃ a8 a9, ρ = (a0 :: some (.sh (L dr)) :: some (.sh (L fa)) :: some (.sh (L cl)) :: a4 :: a5 :: a6 :: a7 :: a8 :: a9 :: rest)) ∧ ∀ x ∈ r, 0 ≤ x ∧ x ≤ 60000) ⟨⟨_, _, rfl⟩, ?_⟩ ?_ ?_
  · intro x hx
    simp only [List.mem_cons, List.not_mem_nil, or_false] at hx
    omega
  · rintro d r ρ ⟨⟨a8, a9, rfl⟩, hx⟩
    have h0 := hx d List.mem_cons_self
    exact ⟨_, rfl, lp_leads hl h0.1 h0.2 (fun lead hlead => hB d lead h0.1 h0.2 hlead) fun a9 => ⟨⟨_, _, rfl⟩, fun x hx2 => hx x (List.mem_cons_of_mem _ hx2)⟩⟩
  · rintro ρ ⟨⟨a8, a9, rfl⟩, _⟩
    exact h _ _
end G
set_option Elab.async false
set_option linter.all false
set_option maxRecDepth 100000
set_option maxHeartbeats 0
namespace G
open PL PySem PSh PSc
theorem x_ninStrO {k : Str} {ks : List Str} : fNin (.sh (.str k)) (.ol (ks.map PyData.str)) = some (.sh (.bool (!decide (k ∈ ks)))) := by
  simp only [fNin, fInF, T.seqs, T.lits, T.tups, Option.or, flatD, strs_flat, strs_any, Bool.and_self, Bool.and_true, if_true]
theorem srt_strs {xs : List Str} : fSrtB [.sh (.list (xs.map PyData.str))] = some (.ol ((sortS xs).map PyData.str)) := by
  cases xs with
  | nil =>
    have e : sortS [] = [] := (sortS_perm _).eq_nil
    have e2 : sortI [] = [] := (sortI_perm _).eq_nil
    have h := x_saL (ns := [])
    rw [e2] at h
    rw [e]
    exact x_srtB h
  | cons x xs =>
    have e1 : fSrtA [.sh (.list ((x :: xs).map PyData.str))] = none := rfl
    simp only [fSrtB, e1, Option.or, fSortSt, f1, T.lits, Option.bind_some, strsD_map]
theorem lp_names {b : List Rw} (hb : b.length ≤ 60000) {a0 a1 a2 a3 a4 a5 a6 a7 a8 a9 a10 a13 : Option T} {rest : En} {N : En → Prop} {R : T → Prop} {B C : En → Prop} (h : ∀ a13, N (a0 :: a1 :: a2 :: a3 :: a4 :: a5 :: a6 :: a7 :: a8 :: a9 :: a10 :: some (.sh (BD b)) :: some (.ol ((kinds b).map PyData.str)) :: a13 :: rest)) :
    (sFor (eiSeq (evSh (evC1 fSrtB (evCons (evSh (evComp (eiSeq (evVar 11)) [13] (egName 13) evYes (evEsc (evBin fIx (evVar 13) (evSh (evC (.int 1))))))) evNil)))) (egName 13) (sIf (evEB (evBin fNin (evVar 13) (evVar 12))) (sShare 13 (sApp 12 [] (evEsc (evVar 13)))) sNil) (a0 :: a1 :: a2 :: a3 :: a4 :: a5 :: a6 :: a7 :: a8 :: a9 :: a10 :: some (.sh (BD b)) :: some (.ol []) :: a13 :: rest)).P N R B C := by
  have hc := comp_all (ei := eiSeq (evVar 11)) (vs := [13]) (g := egName 13) (e := evEsc (evBin fIx (evVar 13) (evSh (evC (.int 1))))) (ρ := a0 :: a1 :: a2 :: a3 :: a4 :: a5 :: a6 :: a7 :: a8 :: a9 :: a10 :: some (.sh (BD b)) :: some (.ol []) :: a13 :: rest) (l := b) (f := rD) (h := fun r => .str r.2.1) rfl (by omega) fun r _ => ⟨_, rfl, rfl⟩
  have hk2 : b.map (fun r => PyData.str r.2.1) = (b.map (·.2.1)).map PyData.str := by rw [List.map_map]; rfl
  rw [hk2] at hc
  have ek : kinds b = once (sortS (b.map (·.2.1))) := by rw [once_eq]; rfl
  have len : (sortS (b.map (·.2.1))).length ≤ 60000 := by rw [(sortS_perm _).length_eq, List.length_map]; exact hb
  refine p_forM (l := sortS (b.map fun r : Rw => r.2.1)) (f := PyData.str) (eiSeq_list (evSh_ol' (evC1_1 (evSh_ol' hc) srt_strs))) (fun r ρ => ∃ (f : List Str) (a13 : Option T), ρ = (a0 :: a1 :: a2 :: a3 :: a4 :: a5 :: a6 :: a7 :: a8 :: a9 :: a10 :: some (.sh (BD b)) :: some (.ol (f.map PyData.str)) :: a13 :: rest) ∧ kinds b = r.foldl (fun f x => if x ∈ f then f else f ++ [x]) f ∧ f.length + r.length ≤ 60000) ⟨[], _, rfl, ek.trans (by unfold once; rfl), by simpa using len⟩ ?_ ?_
  · rintro x r ρ ⟨f, a13, rfl, e, hl⟩
    rw [List.length_cons] at hl
    rw [List.foldl_cons] at e
    refine ⟨_, rfl, p_ifB (k := !decide (x ∈ f)) (evEBin (a := evVar 13) (b := evVar 12) rfl rfl x_ninStrO) (fun hk => p_share ?_) fun hk => p_nil ⟨f, _, rfl, ?_, by omega⟩⟩
    · rw [Bool.not_eq_true', decide_eq_false_iff_not] at hk
      simp only [En.share, En.put, T.noScr, T.er, if_true]
      refine p_app rfl rfl (.of (a := .sh (.str x)) rfl ⟨_, x_app (by rw [List.length_map]; omega), f ++ [x], _, by rw [snocS]; rfl, ?_, by rw [List.length_append]; simp; omega⟩)
      rw [e, if_neg hk]
    · rw [Bool.not_eq_false', decide_eq_true_eq] at hk
      rw [e, if_pos hk]
  · rintro ρ ⟨f, a13, rfl, e, hl⟩
    have e : kinds b = f := e
    rw [← e]
    exact h _
theorem evCall_1t {F : List T → Rs T} {ea : En → Rs T} {ρ : En} {a : D} {t : T} (ha : ea ρ = .ok (.sh a)) (h : F [.sh a] = .ok t) : evCall 1 F (evCons ea evNil) ρ = .ok t := evCall_1 ha h
theorem evCallO {F : List T → Rs T} {ea eb : En → Rs T} {ρ : En} {u : T} {b : D} {t : T} (ha : ea ρ = .ok u) (hu : u.noScr = true) (hb : eb ρ = .ok (.sh b)) (h : F [.sh u.er, .sh b] = .ok t) (hs : t.solid = true) : evCall 2 F (evCons ea (evCons eb evNil)) ρ = .ok t := by
  show (evCons ea (evCons eb evNil) ρ).bind _ = _
  have e : evCons ea (evCons eb evNil) ρ = .ok [u, .sh b] := evCons_ok ha (evCons_ok hb rfl)
  rw [e]
  refine callF_own (ts := [u, .sh b]) rfl (fun x hx => ?_) h hs
  rcases List.mem_cons.mp hx with z | z
  · rw [z]; exact hu
  · rw [List.mem_singleton] at z; rw [z]; rfl
theorem shaped_BD {b : List Rw} (h : ∀ r ∈ b, r.2.1 ∈ nms) : SeqAt.shaped (BD b) = true := by
  have hn : ∀ s ∈ nms, PyData.canLay0 (.str s) = true := by
    intro s hs
    simp only [nms, List.mem_cons, List.not_mem_nil, or_false] at hs
    rcases hs with rfl | rfl | rfl | rfl <;> decide +kernel
  have r1 : PyData.canLayAll0 (b.map rD) = true := layAll fun d hd => by
    obtain ⟨r, hr, rfl⟩ := List.mem_map.mp hd
    show (PyData.canLay0 (.int r.1) && (PyData.canLay0 (.str r.2.1) && (PyData.canLay0 (.int r.2.2) && true))) = true
    rw [hn _ (h r hr)]; rfl
  have d1 : PyData.depthAll (b.map rD) ≤ 3 := depthAll_le fun d hd => by
    obtain ⟨r, _, rfl⟩ := List.mem_map.mp hd
    simp only [rD, PyData.depth, PyData.depthAll]; omega
  exact shaped_of (by unfold BD; simp only [PyData.canLay0]; exact r1) (by unfold BD; simp only [PyData.depth]; omega)
theorem x_neBD {b : List Rw} (h : ∀ r ∈ b, r.2.1 ∈ nms) : fNe (.sh (BD b)) (.sh (BD b)) = some (.sh (.bool false)) := by
  have hs := shaped_BD h
  have : (BD b).canLay0 = true := (Bool.and_eq_true_iff.mp hs).1
  rw [x_neG hs hs rfl, eqD_refl this]; rfl
def dueD (b : List Rw) : D := .list ((kinds b).map (needD b))
theorem due_ok (b : List Rw) (hl : (kinds b).length ≤ 60000) : Sh.sameOk 12 (dueD b) = true := by
  show (decide (((kinds b).map (needD b)).length < 4611686018427387904) && ((kinds b).map (needD b)).all (Sh.sameOk 11)) = true
  rw [Bool.and_eq_true, decide_eq_true_eq, List.length_map, List.all_eq_true]
  refine ⟨by omega, fun d hd => ?_⟩
  obtain ⟨k, _, rfl⟩ := List.mem_map.mp hd
  unfold needD
  cases nday b k <;> rfl
theorem lp_turns {DS DN : List T → Rs T} {b : List Rw} (hS : Same DS) (hN : DN [.sh (BD b)] = .ok (.ol ((kinds b).map (needD b)))) (hR : DN [.sh (BD b.reverse)] = .ok (.ol ((kinds b).map (needD b)))) (hne : ∀ r ∈ b, r.2.1 ∈ nms) (hl : (kinds b).length ≤ 60000)
    {a0 a1 a2 a3 a5 a6 a7 a8 a9 a10 a12 a13 a15 a16 a17 a18 a19 : Option T} {N : En → Prop} {R : T → Prop} {B C : En → Prop} (h : ∀ a15 a18, N [a0, a1, a2, a3, some (.sh (BD b)), a5, a6, a7, a8, a9, a10, some (.sh (BD b)), a12, a13, some (.sh (dueD b)), a15, a16, a17, a18, a19]) :
    (sFor (eiRng1 (evCons (evSh (evC (.int 2))) evNil)) (egName 15) (sSeq (sShare 11 (sSet 18 [] (evCall 1 DN (evCons (evVar 11) evNil)))) (sSeq (sShare 14 (sIf (evOr (evNot (evTru (evSh (evCall 2 DS (evCons (evVar 18) (evCons (evVar 14) evNil)))))) (evOr (evEB (evBin fNe (evVar 11) (evVar 4))) (evNot (evTru (evSh (evCall 2 DS (evCons (evSh (evCall 1 DN (evCons (evSh (evUn fRevA (evVar 11))) evNil))) (evCons (evVar 14) evNil)))))))) (sRet (evC (.bool false))) sNil)) (sApp 18 [] (evC (.int 0))))) [a0, a1, a2, a3, some (.sh (BD b)), a5, a6, a7, a8, a9, a10, some (.sh (BD b)), a12, a13, some (.sh (dueD b)), a15, a16, a17, a18, a19]).P N R B C := by
  have hD := hS _ (due_ok b hl)
  refine p_forM (l := rngI 0 2) (f := PyData.int) (x_rng1 (j := 2) rfl (by omega) (by omega)) (fun r ρ => ∃ a15 a18, ρ = [a0, a1, a2, a3, some (.sh (BD b)), a5, a6, a7, a8, a9, a10, some (.sh (BD b)), a12, a13, some (.sh (dueD b)), a15, a16, a17, a18, a19]) ⟨_, _, rfl⟩ ?_ ?_
  · rintro k r ρ ⟨a15, a18, rfl⟩
    refine ⟨_, rfl, p_seq (p_share ?_)⟩
    simp only [En.share, En.put, T.noScr, T.er, if_true]
    refine p_set (.of (evCall_1 rfl hN) ?_)
    simp only [En.clr, En.put]
    refine p_seq (p_share ?_)
    simp only [En.share, En.put, T.noScr, T.er, if_true]
    refine p_ifB (k := false) (evOr_ok (k := false) (l := false) (not_if (evCallO (u := .ol ((kinds b).map (needD b))) rfl rfl rfl hD rfl)) fun _ => evOr_ok (k := false) (l := false) (evEBin (a := evVar 11) (b := evVar 4) rfl rfl (x_neBD hne)) fun _ => not_if (evCall_2 (evSh_ol' (evCall_1 (evSh_ol' (ds := b.reverse.map rD) ?_) hR)) rfl hD)) (fun z => by cases z) fun _ => p_nil ?_
    · have e : evUn fRevA (evVar 11) [a0, a1, a2, a3, some (.sh (BD b)), a5, a6, a7, a8, a9, a10, some (.sh (BD b)), a12, a13, some (.sh (dueD b)), some (.sh (.int k)), a16, a17, some (.ol ((kinds b).map (needD b))), a19] = .ok (.ol (b.map rD).reverse) := rfl
      rw [List.map_reverse]; exact e
    · exact p_app rfl rfl (.of (a := .sh (I 0)) rfl ⟨_, x_app (by rw [List.length_map]; omega), _, _, rfl⟩)
  · rintro ρ ⟨a15, a18, rfl⟩
    exact h _ _
theorem lp_some {DS DA DL : List T → Rs T} {b : List Rw} {k : Str} {dr : List Int} {n : Int} (hdl : dr.length = 60) (hS : Same DS) (hA : ∀ m, DA [.sh (BD b), .sh (.str k), .sh (I m)] = .ok (.sh (oD (fst b k fun v => decide (v + m < 0))))) (hL : ∀ m, DL [.sh (BD b), .sh (.str k), .sh (I m)] = .ok (.sh (oD (fst b k fun v => decide (v + m < 0)))))
    {a0 a2 a3 a4 a5 a6 a7 a8 a9 a10 a12 a13 a14 a15 a18 a19 : Option T} {N : En → Prop} {R : T → Prop} {B C : En → Prop} (h : ∀ a19, N [a0, some (.sh (L dr)), a2, a3, a4, a5, a6, a7, a8, a9, a10, some (.sh (BD b)), a12, a13, a14, a15, some (.sh (.str k)), some (.sh (I n)), a18, a19]) :
    (sFor (eiSeq (evSh (evLst (evCons (evC (.int 0)) (evCons (evBin fMod (evBin fIx (evVar 1) (evSh (evC (.int 17)))) (evSh (evC (.int 50)))) (evCons (evBin fDiv (evVar 17) (evSh (evC (.int 2)))) (evCons (evBin fAdd (evVar 17) (evSh (evC (.int 1)))) evNil))))))) (egName 19) (sShare 19 (sShare 16 (sShare 11 (sIf (evNot (evTru (evSh (evCall 2 DS (evCons (evSh (evCall 3 DA (evCons (evVar 11) (evCons (evVar 16) (evCons (evVar 19) evNil))))) (evCons (evSh (evCall 3 DL (evCons (evVar 11) (evCons (evVar 16) (evCons (evVar 19) evNil))))) evNil)))))) (sRet (evC (.bool false))) sNil)))) [a0, some (.sh (L dr)), a2, a3, a4, a5, a6, a7, a8, a9, a10, some (.sh (BD b)), a12, a13, a14, a15, some (.sh (.str k)), some (.sh (I n)), a18, a19]).P N R B C := by
  have e1 : evBin fMod (evBin fIx (evVar 1) (evSh (evC (.int 17)))) (evSh (evC (.int 50))) [a0, some (.sh (L dr)), a2, a3, a4, a5, a6, a7, a8, a9, a10, some (.sh (BD b)), a12, a13, a14, a15, some (.sh (.str k)), some (.sh (I n)), a18, a19] = .ok (.sh (I (at_ dr 17 % 50))) := evBin_ok (ixI rfl rfl (by omega) (by omega)) rfl (x_mod (by decide))
  have e2 : evBin fDiv (evVar 17) (evSh (evC (.int 2))) [a0, some (.sh (L dr)), a2, a3, a4, a5, a6, a7, a8, a9, a10, some (.sh (BD b)), a12, a13, a14, a15, some (.sh (.str k)), some (.sh (I n)), a18, a19] = .ok (.sh (I (n / 2))) := evBin_ok rfl rfl (x_div (by decide) (by decide))
  have e3 : evBin fAdd (evVar 17) (evSh (evC (.int 1))) [a0, some (.sh (L dr)), a2, a3, a4, a5, a6, a7, a8, a9, a10, some (.sh (BD b)), a12, a13, a14, a15, some (.sh (.str k)), some (.sh (I n)), a18, a19] = .ok (.sh (I (n + 1))) := evBin_ok rfl rfl x_add
  have e4 := evCons_ok (ea := evC (.int 0)) rfl (evCons_ok e1 (evCons_ok e2 (evCons_ok e3 (er := evNil) (ts := []) rfl)))
  have e := evLst_sh e4 (Nat.le_of_ble_eq_true rfl) rfl
  refine p_forM (l := [0, at_ dr 17 % 50, n / 2, n + 1]) (f := PyData.int) (eiSeq_list e) (fun r ρ => ∃ a19, ρ = [a0, some (.sh (L dr)), a2, a3, a4, a5, a6, a7, a8, a9, a10, some (.sh (BD b)), a12, a13, a14, a15, some (.sh (.str k)), some (.sh (I n)), a18, a19]) ⟨_, rfl⟩ ?_ ?_
  · rintro m r ρ ⟨a19, rfl⟩
    refine ⟨_, rfl, p_share (p_share (p_share ?_))⟩
    simp only [En.share, En.put, T.noScr, T.er, if_true]
    exact p_ifB (k := false) (not_if (evCall_2 (evSh_sh (evCall_3 rfl rfl rfl (hA m))) (evSh_sh (evCall_3 rfl rfl rfl (hL m))) (hS _ (by cases fst b k fun v => decide (v + m < 0) <;> rfl)))) (fun z => by cases z) fun _ => p_nil ⟨_, rfl⟩
  · rintro ρ ⟨a19, rfl⟩
    exact h _
theorem lp_due {DS DA DL : List T → Rs T} {b : List Rw} {dr : List Int} (hdl : dr.length = 60) (hS : Same DS) (hA : ∀ k m, DA [.sh (BD b), .sh (.str k), .sh (I m)] = .ok (.sh (oD (fst b k fun v => decide (v + m < 0))))) (hL : ∀ k m, DL [.sh (BD b), .sh (.str k), .sh (I m)] = .ok (.sh (oD (fst b k fun v => decide (v + m < 0)))))
    {a0 a2 a3 a4 a5 a6 a7 a8 a9 a10 a12 a13 a15 a16 a17 a18 a19 : Option T} {N : En → Prop} {R : T → Prop} {B C : En → Prop} (h : ∀ a8 a16 a17 a19, N [a0, some (.sh (L dr)), a2, a3, a4, a5, a6, a7, a8, a9, a10, some (.sh (BD b)), a12, a13, some (.sh (dueD b)), a15, a16, a17, a18, a19]) :
    (sFor (eiSeq (evVar 14)) (egTup 3 (egCons (egName 16) (egCons (egName 17) (egCons (egName 8) egNil)))) (sSeq (sShare 8 (sShare 17 (sShare 16 (sShare 11 (sIf (evOr (evEB (evBin fNotN (evSh (evCall 3 DA (evCons (evVar 11) (evCons (evVar 16) (evCons (evVar 17) evNil))))) (evSh (evC .none)))) (evAnd (evEB (evBin fGtI (evVar 17) (evSh (evC (.int 0))))) (evNot (evTru (evSh (evCall 2 DS (evCons (evSh (evCall 3 DA (evCons (evVar 11) (evCons (evVar 16) (evCons (evSh (evBin fSub (evVar 17) (evSh (evC (.int 1))))) evNil))))) (evCons (evVar 8) evNil)))))))) (sRet (evC (.bool false))) sNil))))) (sFor (eiSeq (evSh (evLst (evCons (evC (.int 0)) (evCons (evBin fMod (evBin fIx (evVar 1) (evSh (evC (.int 17)))) (evSh (evC (.int 50)))) (evCons (evBin fDiv (evVar 17) (evSh (evC (.int 2)))) (evCons (evBin fAdd (evVar 17) (evSh (evC (.int 1)))) evNil))))))) (egName 19) (sShare 19 (sShare 16 (sShare 11 (sIf (evNot (evTru (evSh (evCall 2 DS (evCons (evSh (evCall 3 DA (evCons (evVar 11) (evCons (evVar 16) (evCons (evVar 19) evNil))))) (evCons (evSh (evCall 3 DL (evCons (evVar 11) (evCons (evVar 16) (evCons (evVar 19) evNil))))) evNil)))))) (sRet (evC (.bool false))) sNil)))))) [a0, some (.sh (L dr)), a2, a3, a4, a5, a6, a7, a8, a9, a10, some (.sh (BD b)), a12, a13, some (.sh (dueD b)), a15, a16, a17, a18, a19]).P N R B C := by
  refine p_forM (l := kinds b) (f := needD b) rfl (fun r ρ => ∃ a8 a16 a17 a19, ρ = [a0, some (.sh (L dr)), a2, a3, a4, a5, a6, a7, a8, a9, a10, some (.sh (BD b)), a12, a13, some (.sh (dueD b)), a15, a16, a17, a18, a19]) ⟨_, _, _, _, rfl⟩ ?_ ?_
  · rintro k r ρ ⟨a8, a16, a17, a19, rfl⟩
    refine ⟨_, rfl, p_seq (p_share (p_share (p_share (p_share ?_))))⟩
    simp only [En.share, En.put, T.noScr, T.er, if_true]
    have h1 := hA k (need b k)
    rw [lasts_need] at h1
    have h2 : decide (0 < need b k) = true → DA [.sh (BD b), .sh (.str k), .sh (I (need b k - 1))] = .ok (.sh (oD (nday b k))) := fun z => by
      rw [hA k (need b k - 1), lasts_less (of_decide_eq_true z)]
    refine p_ifB (k := false || (decide (0 < need b k) && false)) (evOr_ok (k := false) (evEBin (evSh_sh (evCall_3 rfl rfl rfl h1)) rfl x_notN) fun _ => evAnd_ok (evEBin (a := evVar 17) rfl rfl x_gt) fun hk => not_if (evCall_2 (evSh_sh (evCall_3 rfl rfl (evSh_sh (evBin_ok (ea := evVar 17) rfl rfl x_sub)) (h2 hk))) rfl (hS _ (by cases nday b k <;> rfl)))) (fun z => by rw [Bool.and_false] at z; cases z) fun _ => p_nil ?_
    exact lp_some hdl hS (hA k) (hL k) fun a19 => ⟨_, _, _, _, rfl⟩
  · rintro ρ ⟨a8, a16, a17, a19, rfl⟩
    exact h _ _ _ _
end G
set_option Elab.async false
set_option linter.all false
set_option maxRecDepth 100000
set_option maxHeartbeats 0
namespace G
open PL PySem PSh PSc
theorem kinds_len {b : List Rw} (h : GBk b) : (kinds b).length ≤ 60000 := by
  unfold kinds setGS
  rw [(sortS_perm _).length_eq]
  have := h.kd
  omega
theorem GBk.rev {b : List Rw} (h : GBk b) : GBk b.reverse := by
  refine ⟨by rw [List.length_reverse]; exact h.len, fun k => ?_, ?_⟩
  · have := ndG_len (dedG_nd (dys b.reverse k)) (b := dedG (dys b k)) fun x hx => by
      rw [dedG_mem] at hx ⊢
      unfold dys at hx ⊢
      rw [List.filter_reverse, List.map_reverse, List.mem_reverse] at hx
      exact hx
    have := h.dy k
    omega
  · have := ndG_len (dedG_nd (b.reverse.map (·.2.1))) (b := dedG (b.map (·.2.1))) fun x hx => by
      rw [dedG_mem] at hx ⊢
      rw [List.map_reverse, List.mem_reverse] at hx
      exact hx
    have := h.kd
    omega
theorem needs_rev {b : List Rw} (h : GBk b) : d_needs_of [.sh (BD b.reverse)] = .ok (.ol ((kinds b).map (needD b))) := by
  rw [w_needs_of h.rev, kinds_rev, show needD b.reverse = needD b from funext fun k => by
    unfold needD
    rw [need_rev, nday_rev]]
theorem GBk.nil : GBk [] := ⟨by decide, fun k => by unfold dys; show (dedG ([] : List Int)).length < 64; decide, by show (dedG ([] : List Str)).length < 64; decide⟩
structure GK (b : List Rw) : Prop where
  g : GBk b
  n : ∀ r ∈ b, r.2.1 ∈ nms
theorem law_true (ns : List Int) (h : ns.length ≤ 63) : d_law [.scr ns] = .ok (.sh (.bool true)) := by
  obtain ⟨c0, ec0⟩ := w_cell ns 0 (by decide)
  obtain ⟨c1, ec1⟩ := w_cell ns 1 (by decide)
  obtain ⟨dr, gn1, dl, db⟩ := w_numbers c0 60 50400 (by decide) (by decide) (by decide) (by decide)
  obtain ⟨fa, gn2, fl, fb⟩ := w_numbers c1 20 10000 (by decide) (by decide) (by decide) (by decide)
  have dl : dr.length = 60 := by omega
  have fl : fa.length = 20 := by omega
  obtain ⟨cl1, gc1, nd1, ll1⟩ := w_law_closed (dr := dr) (most := 25) (by omega) (by decide)
  obtain ⟨cl2, gc2, nd2, ll2⟩ := w_law_closed (dr := fa) (most := 10000) (by omega) (by decide)
  obtain ⟨b1, gb1, g1, n1⟩ := w_law_book (dr := dr) (n := at_ dr 15 % 15) dl (by omega) (by omega)
  obtain ⟨b2, gb2, g2, n2⟩ := w_law_book (dr := dr) (n := 1) dl (by omega) (by omega)
  obtain ⟨b3, gb3, g3, n3⟩ := w_law_book (dr := dr) (n := 100) dl (by omega) (by omega)
  have hS : Same (d__law_same 12) := w_same
  have hO : ∀ cl : List Int, cl.length ≤ 8 → ∀ a b, d_open_days [.sh (L cl), .sh (I a), .sh (I b)] = .ok (.sh (I (opn cl a b))) := fun cl hl a b => w_open_days cl a b (by omega)
  have hLO : ∀ cl : List Int, cl.length ≤ 8 → ∀ a b, d__law_open [.sh (L cl), .sh (I a), .sh (I b)] = .ok (.sh (I (opn cl a b))) := fun cl hl a b => w_law_open cl a b (by omega)
  have hOB : ∀ cl : List Int, cl.Nodup → cl.length ≤ 8 → ∀ d0 lead : Int, 0 ≤ d0 → d0 ≤ 60000 → 0 ≤ lead → ∃ o : Option Int, d_order_by [.sh (L cl), .sh (I lead), .sh (I d0)] = .ok (.sh (oD o)) ∧ d__law_is_latest [.sh (L cl), .sh (I lead), .sh (I d0), .sh (oD o)] = .ok (.sh (.bool true)) := fun cl nd hl d0 lead q0 q1 q2 => by
    obtain ⟨o, e, ho⟩ := w_order_by cl lead d0 nd q2 q0 q1
    exact ⟨o, e, w_law_is_latest cl lead d0 (by omega) o ho⟩
  have hN : ∀ b, GK b → d_needs_of [.sh (BD b)] = .ok (.ol ((kinds b).map (needD b))) := fun b hb => w_needs_of hb.g
  have hR : ∀ b, GK b → d_needs_of [.sh (BD b.reverse)] = .ok (.ol ((kinds b).map (needD b))) := fun b hb => needs_rev hb.g
  have hLN : ∀ b, GK b → ∀ k, d__law_need [.sh (BD b), .sh (.str k)] = .ok (.sh (needD b k)) := fun b hb k => w_law_need hb.g k
  have hA : ∀ b, GK b → ∀ k m, d_lasts_until [.sh (BD b), .sh (.str k), .sh (I m)] = .ok (.sh (oD (fst b k fun v => decide (v + m < 0)))) := fun b hb k m => w_lasts_until hb.g k m
  have hLA : ∀ b, GK b → ∀ k m, d__law_lasts [.sh (BD b), .sh (.str k), .sh (I m)] = .ok (.sh (oD (fst b k fun v => decide (v + m < 0)))) := fun b hb k m => w_law_lasts hb.g k m
  refine fn_eq rfl ?_
  unfold s_law
  refine p_seq (p_share ?_)
  simp only [En.share, en0, List.map_cons, List.map_nil, List.cons_append, List.nil_append, List.replicate]
  generalize d__law_cell = A1 at *
  generalize d__law_numbers = A2 at *
  generalize d__law_closed = A3 at *
  generalize d__law_book = A4 at *
  generalize d_open_days = A5 at *
  generalize d__law_open = A6 at *
  generalize d_order_by = A7 at *
  generalize d__law_is_latest = A8 at *
  generalize d_needs_of = A9 at *
  generalize d__law_need = A10 at *
  generalize d_lasts_until = A11 at *
  generalize d__law_lasts = A12 at *
  generalize d__law_same 12 = A13 at *
  as_aux_lemma =>
  refine p_set (.of (a := .sh (L dr)) (by simp only [evVar, En.get, evC, evBin, evSh, evEsc, evB, evEB, evChain, evAnd, evOr, evNot, evAndV, evOrV, evNotV, evIf, evCons, evNil, evLst, evTup, evCall, callF, evSl, eoN, eoS, evUn, evC1, evIsi, evTru, erg1, erg2, evLRg, evTRg, eiSeq, eiEnum, eiZip, x_bind, x_rs, x_asB, x_asI, x_bifB, x_bifO, x_andB, x_orB, x_bifI, List.length_map, en0, List.replicate, List.cons_append, List.nil_append, T.asD, T.items, T.itL, T.itT, T.er, T.ers, T.noScr, T.noScrs, T.shs, mkL, mkT, T.isSh, T.argOk, T.toArg, T.solid, flatD, T.isL, T.parts, putAll, T.tru, T.ty, T.isRg, tyD, En.put, En.clr, En.share, egName, egTup, egCons, egNil, Option.map_some, Option.map_none, Option.bind_some, Option.bind, List.all_cons, List.all_nil, List.map_cons, List.map_nil, List.length_cons, List.length_nil, Bool.and_true, Bool.true_and, Bool.and_self, Bool.not_true, Bool.not_false, if_true, cond_true, cond_false, Bool.false_eq_true, if_false, true_and, and_true, Rs.P_ok, Bool.and_false, Bool.false_and, Bool.false_or, Bool.or_false, Bool.true_or, Bool.or_true, Nat.reduceAdd, Nat.reduceLeDiff, Nat.reduceEqDiff, reduceCtorEq, x_ltF, x_ltS, x_ltT2, x_anyL, x_anyO, x_allL, x_allO, x_isB, x_notB, x_add, x_iadd, x_sub, x_lt, x_le, x_gt, x_ge, x_eq, x_ne, x_eqB, x_neB, x_eqS, x_neS, x_max2, x_min2, x_int1, x_intB, x_lenL, x_lenT, x_lenO, x_lenS, x_sumL, x_sumO, x_sortL, x_sortO, x_listL, x_listT, x_listO, x_isN, x_isNn, x_isNi, x_isNl, x_isNt, x_isNb, x_notN, x_ixL, x_ixT, x_ixO, x_ixS, x_ix0, x_ix1, x_ix2, x_sl, x_slO, x_slT, x_inL, x_inO, x_ninL, x_ninO, ec0, gn1]) ?_)
  simp only [En.clr, En.put]
  refine p_seq (p_share ?_)
  simp only [En.share, T.noScr, T.er, if_true]
  refine p_set (.of (a := .sh (L fa)) (by simp only [evVar, En.get, evC, evBin, evSh, evEsc, evB, evEB, evChain, evAnd, evOr, evNot, evAndV, evOrV, evNotV, evIf, evCons, evNil, evLst, evTup, evCall, callF, evSl, eoN, eoS, evUn, evC1, evIsi, evTru, erg1, erg2, evLRg, evTRg, eiSeq, eiEnum, eiZip, x_bind, x_rs, x_asB, x_asI, x_bifB, x_bifO, x_andB, x_orB, x_bifI, List.length_map, en0, List.replicate, List.cons_append, List.nil_append, T.asD, T.items, T.itL, T.itT, T.er, T.ers, T.noScr, T.noScrs, T.shs, mkL, mkT, T.isSh, T.argOk, T.toArg, T.solid, flatD, T.isL, T.parts, putAll, T.tru, T.ty, T.isRg, tyD, En.put, En.clr, En.share, egName, egTup, egCons, egNil, Option.map_some, Option.map_none, Option.bind_some, Option.bind, List.all_cons, List.all_nil, List.map_cons, List.map_nil, List.length_cons, List.length_nil, Bool.and_true, Bool.true_and, Bool.and_self, Bool.not_true, Bool.not_false, if_true, cond_true, cond_false, Bool.false_eq_true, if_false, true_and, and_true, Rs.P_ok, Bool.and_false, Bool.false_and, Bool.false_or, Bool.or_false, Bool.true_or, Bool.or_true, Nat.reduceAdd, Nat.reduceLeDiff, Nat.reduceEqDiff, reduceCtorEq, x_ltF, x_ltS, x_ltT2, x_anyL, x_anyO, x_allL, x_allO, x_isB, x_notB, x_add, x_iadd, x_sub, x_lt, x_le, x_gt, x_ge, x_eq, x_ne, x_eqB, x_neB, x_eqS, x_neS, x_max2, x_min2, x_int1, x_intB, x_lenL, x_lenT, x_lenO, x_lenS, x_sumL, x_sumO, x_sortL, x_sortO, x_listL, x_listT, x_listO, x_isN, x_isNn, x_isNi, x_isNl, x_isNt, x_isNb, x_notN, x_ixL, x_ixT, x_ixO, x_ixS, x_ix0, x_ix1, x_ix2, x_sl, x_slO, x_slT, x_inL, x_inO, x_ninL, x_ninO, ec1, gn2]) ?_)
  simp only [En.clr, En.put]
  refine p_seq (p_share (p_share ?_))
  simp only [En.share, T.noScr, T.er, if_true]
  have hcls : evSh (evLst (evCons (evCall 3 A3 (evCons (evVar 1) (evCons (evSh (evC (.int 0))) (evCons (evSh (evC (.int 25))) evNil)))) (evCons (evCall 3 A3 (evCons (evVar 2) (evCons (evSh (evC (.int 0))) (evCons (evSh (evC (.int 10000))) evNil)))) (evCons (evLst (evCons (evC (.int 0)) (evCons (evC (.int 1)) (evCons (evC (.int 2)) (evCons (evC (.int 3)) evNil))))) (evCons (evLst (evCons (evC (.int 9997)) (evCons (evC (.int 9999)) evNil))) (evCons (evLst evNil) evNil)))))) [some (.scr ns), some (.sh (L dr)), some (.sh (L fa)), none, none, none, none, none, none, none, none, none, none, none, none, none, none, none, none, none] = .ok (.sh (.list ([cl1, cl2, [0, 1, 2, 3], [9997, 9999], []].map L))) := by
    have e := evCons_ok (evCall_3 (ea := evVar 1) (eb := evSh (evC (.int 0))) (ec := evSh (evC (.int 25))) (ρ := [some (.scr ns), some (.sh (L dr)), some (.sh (L fa)), none, none, none, none, none, none, none, none, none, none, none, none, none, none, none, none, none]) rfl rfl rfl gc1) (evCons_ok (evCall_3 (ea := evVar 2) (eb := evSh (evC (.int 0))) (ec := evSh (evC (.int 10000))) rfl rfl rfl gc2) (evCons_ok (ea := evLst (evCons (evC (.int 0)) (evCons (evC (.int 1)) (evCons (evC (.int 2)) (evCons (evC (.int 3)) evNil))))) (t := .ol [.int 0, .int 1, .int 2, .int 3]) rfl (evCons_ok (ea := evLst (evCons (evC (.int 9997)) (evCons (evC (.int 9999)) evNil))) (t := .ol [.int 9997, .int 9999]) rfl (evCons_ok (ea := evLst evNil) (t := .ol []) rfl (er := evNil) (ts := []) rfl))))
    exact evLst_sh e (Nat.le_of_ble_eq_true rfl) rfl
  refine p_forM (l := [cl1, cl2, [0, 1, 2, 3], [9997, 9999], []]) (f := L) (eiSeq_list hcls) (fun r ρ => (∃ a3 a4 a5 a6 a7 a8 a9, ρ = [some (.scr ns), some (.sh (L dr)), some (.sh (L fa)), a3, a4, a5, a6, a7, a8, a9, none, none, none, none, none, none, none, none, none, none]) ∧ ∀ cl ∈ r, cl.Nodup ∧ cl.length ≤ 8) ⟨⟨_, _, _, _, _, _, _, rfl⟩, ?_⟩ ?_ ?_
  · intro cl hcl
    simp only [List.mem_cons, List.not_mem_nil, or_false] at hcl
    rcases hcl with rfl | rfl | rfl | rfl | rfl
    · exact ⟨nd1, ll1⟩
    · exact ⟨nd2, ll2⟩
    · decide
    · decide
    · decide
  · rintro cl r ρ ⟨⟨a3, a4, a5, a6, a7, a8, a9, rfl⟩, hr⟩
    obtain ⟨nd, ll⟩ := hr cl List.mem_cons_self
    refine ⟨_, rfl, p_seq ?_⟩
    simp only [En.put]
    refine p_set (.of (a := .sh (L cl)) rfl ?_)
    simp only [En.clr, En.put]
    have hps : evSh (evLst (evCons (evTup (evCons (evC (.int 0)) (evCons (evC (.int 0)) evNil))) (evCons (evTup (evCons (evBin fMod (evBin fIx (evVar 1) (evSh (evC (.int 10)))) (evSh (evC (.int 30)))) (evCons (evBin fMod (evBin fIx (evVar 1) (evSh (evC (.int 11)))) (evSh (evC (.int 30)))) evNil))) (evCons (evTup (evCons (evEsc (evBin fIx (evVar 2) (evSh (evC (.int 10))))) (evCons (evEsc (evBin fIx (evVar 2) (evSh (evC (.int 11))))) evNil))) (evCons (evTup (evCons (evC (.int 0)) (evCons (evC (.int 10000)) evNil))) (evCons (evTup (evCons (evC (.int 9999)) (evCons (evC (.int 10000)) evNil))) (evCons (evTup (evCons (evEsc (evBin fIx (evVar 2) (evSh (evC (.int 12))))) (evCons (evC (.int 10000)) evNil))) evNil))))))) [some (.scr ns), some (.sh (L dr)), some (.sh (L fa)), some (.sh (L cl)), some (.sh (L cl)), a5, a6, a7, a8, a9, none, none, none, none, none, none, none, none, none, none] = .ok (.sh (.list ([(0, 0), (at_ dr 10 % 30, at_ dr 11 % 30), (at_ fa 10, at_ fa 11), (0, 10000), (9999, 10000), (at_ fa 12, 10000)].map pD))) := by
      have e := evCons_ok (evTup_sh2 (ea := evC (.int 0)) (eb := evC (.int 0)) (ρ := [some (.scr ns), some (.sh (L dr)), some (.sh (L fa)), some (.sh (L cl)), some (.sh (L cl)), a5, a6, a7, a8, a9, none, none, none, none, none, none, none, none, none, none]) (a := I 0) (b := I 0) rfl rfl)
        (evCons_ok (evTup_sh2 (evBin_ok (ixI (j := 1) (k := 10) (ek := evSh (evC (.int 10))) (xs := dr) rfl rfl (by omega) (by omega)) (eb := evSh (evC (.int 30))) rfl (x_mod (by decide))) (evBin_ok (ixI (j := 1) (k := 11) (ek := evSh (evC (.int 11))) (xs := dr) rfl rfl (by omega) (by omega)) (eb := evSh (evC (.int 30))) rfl (x_mod (by decide))))
        (evCons_ok (evTup_sh2 (evEsc_sh (ixI (j := 2) (k := 10) (ek := evSh (evC (.int 10))) (xs := fa) rfl rfl (by omega) (by omega))) (evEsc_sh (ixI (j := 2) (k := 11) (ek := evSh (evC (.int 11))) (xs := fa) rfl rfl (by omega) (by omega))))
        (evCons_ok (evTup_sh2 (ea := evC (.int 0)) (eb := evC (.int 10000)) (a := I 0) (b := I 10000) rfl rfl)
        (evCons_ok (evTup_sh2 (ea := evC (.int 9999)) (eb := evC (.int 10000)) (a := I 9999) (b := I 10000) rfl rfl)
        (evCons_ok (evTup_sh2 (evEsc_sh (ixI (j := 2) (k := 12) (ek := evSh (evC (.int 12))) (xs := fa) rfl rfl (by omega) (by omega))) (eb := evC (.int 10000)) (b := I 10000) rfl) (er := evNil) (ts := []) rfl)))))
      exact evLst_sh e (Nat.le_of_ble_eq_true rfl) rfl
    refine p_seq (p_set (.of hps ?_))
    clear hps
    simp only [En.clr, En.put]
    refine p_seq (p_share ?_)
    simp only [En.share, T.noScr, T.er, if_true]
    refine lp_pairs hS (hO cl ll) (hLO cl ll) fun a6 a7 => ?_
    refine p_seq (lp_days dl fl fb (hOB cl nd ll) fun a8 a9 => ?_)
    exact p_ifB (k := !decide (cl = cl)) (evEBin (a := evVar 3) (b := evVar 4) rfl rfl x_neL) (fun z => by rw [decide_eq_true rfl] at z; cases z) fun _ => p_nil ⟨⟨_, _, _, _, _, _, _, rfl⟩, fun c hc => hr c (List.mem_cons_of_mem _ hc)⟩
  rintro ρ ⟨⟨a3, a4, a5, a6, a7, a8, a9, rfl⟩, _⟩
  refine p_seq (p_share ?_)
  simp only [En.share, T.noScr, T.er, if_true]
  have hb0 : evLst (evCons (evCall 2 A4 (evCons (evVar 1) (evCons (evSh (evBin fMod (evBin fIx (evVar 1) (evSh (evC (.int 15)))) (evSh (evC (.int 15))))) evNil))) (evCons (evLst evNil) (evCons (evCall 2 A4 (evCons (evVar 1) (evCons (evSh (evC (.int 1))) evNil))) evNil))) [some (.scr ns), some (.sh (L dr)), some (.sh (L fa)), a3, a4, a5, a6, a7, a8, a9, none, none, none, none, none, none, none, none, none, none] = .ok (.ot ([b1, [], b2].map fun b => .ol (b.map rD))) := by
    have e := evCons_ok (evCall_2 (ea := evVar 1) (eb := evSh (evBin fMod (evBin fIx (evVar 1) (evSh (evC (.int 15)))) (evSh (evC (.int 15))))) (ρ := [some (.scr ns), some (.sh (L dr)), some (.sh (L fa)), a3, a4, a5, a6, a7, a8, a9, none, none, none, none, none, none, none, none, none, none]) rfl (evSh_sh (evBin_ok (ixI (xs := dr) rfl rfl (by omega) (by omega)) rfl (x_mod (by decide)))) gb1) (evCons_ok (ea := evLst evNil) (t := .ol []) rfl (evCons_ok (evCall_2 (ea := evVar 1) (eb := evSh (evC (.int 1))) rfl rfl gb2) (er := evNil) (ts := []) rfl))
    exact evLst_ok e (Nat.le_of_ble_eq_true rfl)
  refine p_set (.of hb0 ?_)
  clear hb0
  simp only [En.clr, En.put]
  refine p_seq (joinN (N := fun ρ => ∃ bs : List (List Rw), ρ = [some (.scr ns), some (.sh (L dr)), some (.sh (L fa)), a3, a4, a5, a6, a7, a8, a9, some (.ot (bs.map fun b => .ol (b.map rD))), none, none, none, none, none, none, none, none, none] ∧ ∀ b ∈ bs, GK b) ?_ ?_)
  · have q3 : ∀ b ∈ [b1, [], b2], GK b := by
      intro b hb
      simp only [List.mem_cons, List.not_mem_nil, or_false] at hb
      rcases hb with rfl | rfl | rfl
      · exact ⟨g1, n1⟩
      · exact ⟨.nil, fun r hr => by cases hr⟩
      · exact ⟨g2, n2⟩
    refine p_ifB (k := decide (at_ dr 16 % 10 = 0)) (evEBin (evSh_sh (evBin_ok (ixI (xs := dr) rfl rfl (by omega) (by omega)) rfl (x_mod (by decide)))) rfl x_eq) (fun _ => p_share ?_) fun _ => p_nil ⟨_, rfl, q3⟩
    simp only [En.share, T.noScr, T.er, if_true]
    refine p_app rfl rfl (.of (evCall_2 (ea := evVar 1) (eb := evSh (evC (.int 100))) rfl rfl gb3) ⟨_, app_ot (by rw [List.length_map]; exact Nat.lt_of_lt_of_le (show 3 < 4 by decide) (by decide)), [b1, [], b2, b3], rfl, ?_⟩)
    intro b hb
    rcases List.mem_append.mp (show b ∈ [b1, [], b2] ++ [b3] from hb) with hb | hb
    · exact q3 b hb
    · rw [List.mem_singleton] at hb
      subst hb
      exact ⟨g3, n3⟩
  rintro ρ ⟨bs, rfl, hbs⟩
  have her : ∀ l : List (List Rw), T.ers (l.map fun b => T.ol (b.map rD)) = l.map BD := by
    intro l
    induction l with
    | nil => rfl
    | cons a l ih => rw [List.map_cons, List.map_cons, T.ers, ih]; rfl
  have hns : ∀ l : List (List Rw), T.noScrs (l.map fun b => T.ol (b.map rD)) = true := by
    intro l
    induction l with
    | nil => rfl
    | cons a l ih => rw [List.map_cons, T.noScrs, ih]; rfl
  refine p_seq (p_share ?_)
  simp only [En.share, T.noScr, T.er, if_true, her, hns]
  refine p_forM (l := bs) (f := BD) rfl (fun r ρ => (∃ a3 a4 a5 a6 a7 a8 a9 a11 a12 a13 a14 a15 a16 a17 a18 a19, ρ = [some (.scr ns), some (.sh (L dr)), some (.sh (L fa)), a3, a4, a5, a6, a7, a8, a9, some (.sh (.list (bs.map BD))), a11, a12, a13, a14, a15, a16, a17, a18, a19]) ∧ ∀ b ∈ r, GK b) ⟨⟨_, _, _, _, _, _, _, _, _, _, _, _, _, _, _, _, rfl⟩, hbs⟩ ?_ ?_
  · rintro b r ρ ⟨⟨a3, a4, a5, a6, a7, a8, a9, a11, a12, a13, a14, a15, a16, a17, a18, a19, rfl⟩, hr⟩
    have hb := hr b List.mem_cons_self
    have hbl := hb.g.len
    have hkl := kinds_len hb.g
    refine ⟨_, rfl, p_seq ?_⟩
    simp only [En.put]
    refine p_set (.of (a := .sh (BD b)) rfl ?_)
    simp only [En.clr, En.put]
    refine p_seq (p_set (.of (a := .ol []) rfl ?_))
    simp only [En.clr, En.put]
    refine p_seq (p_share ?_)
    simp only [En.share, T.noScr, T.er, if_true]
    refine lp_names (b := b) (by omega) fun a13 => ?_
    refine p_seq (p_share (p_share ?_))
    simp only [En.share, T.noScr, T.er, if_true]
    have hdue := comp_all (ei := eiSeq (evVar 12)) (vs := [16]) (g := egName 16) (e := evCall 2 A10 (evCons (evVar 11) (evCons (evVar 16) evNil))) (ρ := [some (.scr ns), some (.sh (L dr)), some (.sh (L fa)), a3, some (.sh (BD b)), a5, a6, a7, a8, a9, some (.sh (.list (bs.map BD))), some (.sh (BD b)), some (.sh (.list ((kinds b).map PyData.str))), a13, a14, a15, a16, a17, a18, a19]) (l := kinds b) (f := PyData.str) (h := needD b) rfl (by omega) fun k _ => ⟨_, rfl, evCall_2 rfl rfl (hLN b hb k)⟩
    refine p_set (.of (evSh_ol' hdue) ?_)
    clear hdue
    simp only [En.clr, En.put]
    refine p_seq (lp_turns (b := b) hS (hN b hb) (hR b hb) hb.n hkl fun a15 a18 => ?_)
    refine p_share ?_
    simp only [En.share, dueD, T.noScr, T.er, if_true]
    exact lp_due (b := b) dl hS (hA b hb) (hLA b hb) fun a8 a16 a17 a19 => ⟨⟨_, _, _, _, _, _, _, _, _, _, _, _, _, _, _, _, rfl⟩, fun c hc => hr c (List.mem_cons_of_mem _ hc)⟩
  · rintro ρ ⟨⟨a3, a4, a5, a6, a7, a8, a9, a11, a12, a13, a14, a15, a16, a17, a18, a19, rfl⟩, _⟩
    exact p_ret (.of rfl rfl)
end G
set_option Elab.async false
set_option linter.all false
set_option maxRecDepth 100000
set_option maxHeartbeats 0
namespace G
open PySem PySem.Spec L2 PL PyProof.Rows
def e__law_book : He.DefD := ⟨("_law_book", none), "_law_book", "_law_book", defArgs st__law_book, defBody st__law_book, defScope st__law_book, [], []⟩
def e__law_cell : He.DefD := ⟨("_law_cell", none), "_law_cell", "_law_cell", defArgs st__law_cell, defBody st__law_cell, defScope st__law_cell, [], []⟩
def e__law_closed : He.DefD := ⟨("_law_closed", none), "_law_closed", "_law_closed", defArgs st__law_closed, defBody st__law_closed, defScope st__law_closed, [], []⟩
def e__law_open : He.DefD := ⟨("_law_open", none), "_law_open", "_law_open", defArgs st__law_open, defBody st__law_open, defScope st__law_open, [], []⟩
def e__law_is_latest : He.DefD := ⟨("_law_is_latest", none), "_law_is_latest", "_law_is_latest", defArgs st__law_is_latest, defBody st__law_is_latest, defScope st__law_is_latest, [], []⟩
def e__law_days : He.DefD := ⟨("_law_days", none), "_law_days", "_law_days", defArgs st__law_days, defBody st__law_days, defScope st__law_days, [], []⟩
def e__law_level : He.DefD := ⟨("_law_level", none), "_law_level", "_law_level", defArgs st__law_level, defBody st__law_level, defScope st__law_level, [], []⟩
def e__law_lasts : He.DefD := ⟨("_law_lasts", none), "_law_lasts", "_law_lasts", defArgs st__law_lasts, defBody st__law_lasts, defScope st__law_lasts, [], []⟩
def e__law_need : He.DefD := ⟨("_law_need", none), "_law_need", "_law_need", defArgs st__law_need, defBody st__law_need, defScope st__law_need, [], []⟩
def e__law_numbers : He.DefD := ⟨("_law_numbers", none), "_law_numbers", "_law_numbers", defArgs st__law_numbers, defBody st__law_numbers, defScope st__law_numbers, [], []⟩
def e__law_same : He.DefD := ⟨("_law_same", none), "_law_same", "_law_same", defArgs st__law_same, defBody st__law_same, defScope st__law_same, [], []⟩
def e_levels_of : He.DefD := ⟨("levels_of", none), "levels_of", "levels_of", defArgs st_levels_of, defBody st_levels_of, defScope st_levels_of, [], []⟩
def e_lasts_until : He.DefD := ⟨("lasts_until", none), "lasts_until", "lasts_until", defArgs st_lasts_until, defBody st_lasts_until, defScope st_lasts_until, [], []⟩
def e_need_of : He.DefD := ⟨("need_of", none), "need_of", "need_of", defArgs st_need_of, defBody st_need_of, defScope st_need_of, [], []⟩
def e_needs_of : He.DefD := ⟨("needs_of", none), "needs_of", "needs_of", defArgs st_needs_of, defBody st_needs_of, defScope st_needs_of, [], []⟩
def e_open_days : He.DefD := ⟨("open_days", none), "open_days", "open_days", defArgs st_open_days, defBody st_open_days, defScope st_open_days, [], []⟩
def e_is_open : He.DefD := ⟨("is_open", none), "is_open", "is_open", defArgs st_is_open, defBody st_is_open, defScope st_is_open, [], []⟩
def e_order_by : He.DefD := ⟨("order_by", none), "order_by", "order_by", defArgs st_order_by, defBody st_order_by, defScope st_order_by, [], []⟩
def e_law : He.DefD := ⟨("law", none), "law", "law", defArgs st_law, defBody st_law, defScope st_law, [], []⟩
def fns : List He.DefD := [e__law_book, e__law_cell, e__law_closed, e__law_open, e__law_is_latest, e__law_days, e__law_level, e__law_lasts, e__law_need, e__law_numbers, e__law_same, e_levels_of, e_lasts_until, e_need_of, e_needs_of, e_open_days, e_is_open, e_order_by, e_law]
def facts : List He.Fa := [.glo "_law_book", .glo "_law_cell", .glo "_law_closed", .glo "_law_open", .glo "_law_is_latest", .glo "_law_days", .glo "_law_level", .glo "_law_lasts", .glo "_law_need", .glo "_law_numbers", .glo "_law_same", .glo "levels_of", .glo "lasts_until", .glo "need_of", .glo "needs_of", .glo "open_days", .glo "is_open", .glo "order_by", .glo "law", .free "bool", .free "int", .free "isinstance", .free "len", .free "list", .free "max", .free "range", .free "sorted", .free "str", .free "sum", .free "tuple"]
abbrev R0 : PySem.W.OpenRow := PySem.W.OpenLaw.row PySem.Challenge.rw_piecesturned_k76_open_days_leads_and_sto
def exs : List (PySem.W.Frag → Bool) := []
def tbs : List He.Tab := []
abbrev hook0 : PySem.W.Hook := He.hookP 4 facts fns tbs exs
def ob (s : PySem.W.SharedT) : He.AlP := He.obsPG 4 facts fns tbs exs (HandSHeadRun.getT s)
theorem ob_eq (s : PySem.W.SharedT) : ob s = hook0.obs s.abs := He.obsPG_eq (HandSHeadRun.getT_eq s)
def loose0 : List Str := ("levels_of" : Str) :: ("need_of" : Str) :: ("needs_of" : Str) :: ("lasts_until" : Str) :: ("is_open" : Str) :: ("open_days" : Str) :: ("order_by" : Str) :: ("_law_cell" : Str) :: ("_law_numbers" : Str) :: ("_law_same" : Str) :: ("_law_closed" : Str) :: ("_law_open" : Str) :: ("_law_is_latest" : Str) :: ("_law_level" : Str) :: ("_law_days" : Str) :: ("_law_need" : Str) :: ("_law_lasts" : Str) :: ("_law_book" : Str) :: []
theorem run0 (w : World) : HandSHeadRun.RunEq R0 (PySem.W.view R0.prog [21]) hook0 ob 6000 loose0 w := by
  intro os
  kernel_rfl
theorem says {P : Program} {w : World} {K : PySem.W.Frag} {h : Heap} {mg : Str → Option Value} {f : Addr} (X : K.In h) (G : h.Ns mainGlobals mg) (hfa : mg ("law" : Str) = some (.ref f)) (cp : He.SaysP facts fns tbs exs w K) :
    ∃ fd : FuncData, (∀ (s : Shared) (v : Value), BindsTo s fd ⟨[v], []⟩ [("script", v)]) ∧ ∀ base : Heap, K.In base → base.Ns mainGlobals mg → RunC P w K mg base (L2.CX P w) f fd ["script"] (spD K mg 1 d_law) := by
  have c := cp.d
  obtain ⟨fd__law_book, F__law_book⟩ := c.def_ 0 (d := e__law_book) rfl
  have g__law_book := He.glo_ok X G (c.fact 0 (f := .glo "_law_book") rfl)
  have b__law_book : Binds K fd__law_book ["draws", "count"] [] := F__law_book.bindsN fun _ _ _ _ _ _ us hl => match us, hl with | [_, _], _ => rfl
  obtain ⟨fd__law_cell, F__law_cell⟩ := c.def_ 1 (d := e__law_cell) rfl
  have g__law_cell := He.glo_ok X G (c.fact 1 (f := .glo "_law_cell") rfl)
  have b__law_cell : Binds K fd__law_cell ["script", "k"] [] := F__law_cell.bindsN fun _ _ _ _ _ _ us hl => match us, hl with | [_, _], _ => rfl
  obtain ⟨fd__law_closed, F__law_closed⟩ := c.def_ 2 (d := e__law_closed) rfl
  have g__law_closed := He.glo_ok X G (c.fact 2 (f := .glo "_law_closed") rfl)
  have b__law_closed : Binds K fd__law_closed ["draws", "at", "most"] [] := F__law_closed.bindsN fun _ _ _ _ _ _ us hl => match us, hl with | [_, _, _], _ => rfl
  obtain ⟨fd__law_open, F__law_open⟩ := c.def_ 3 (d := e__law_open) rfl
  have g__law_open := He.glo_ok X G (c.fact 3 (f := .glo "_law_open") rfl)
  have b__law_open : Binds K fd__law_open ["closed", "start", "stop"] [] := F__law_open.bindsN fun _ _ _ _ _ _ us hl => match us, hl with | [_, _, _], _ => rfl
  obtain ⟨fd__law_is_latest, F__law_is_latest⟩ := c.def_ 4 (d := e__law_is_latest) rfl
  have g__law_is_latest := He.glo_ok X G (c.fact 4 (f := .glo "_law_is_latest") rfl)
  have b__law_is_latest : Binds K fd__law_is_latest ["closed", "lead", "day", "told"] [] := F__law_is_latest.bindsN fun _ _ _ _ _ _ us hl => match us, hl with | [_, _, _, _], _ => rfl
  obtain ⟨fd__law_days, F__law_days⟩ := c.def_ 5 (d := e__law_days) rfl
  have g__law_days := He.glo_ok X G (c.fact 5 (f := .glo "_law_days") rfl)
  have b__law_days : Binds K fd__law_days ["book", "kind"] [] := F__law_days.bindsN fun _ _ _ _ _ _ us hl => match us, hl with | [_, _], _ => rfl
  obtain ⟨fd__law_level, F__law_level⟩ := c.def_ 6 (d := e__law_level) rfl
  have g__law_level := He.glo_ok X G (c.fact 6 (f := .glo "_law_level") rfl)
  have b__law_level : Binds K fd__law_level ["book", "kind", "day"] [] := F__law_level.bindsN fun _ _ _ _ _ _ us hl => match us, hl with | [_, _, _], _ => rfl
  obtain ⟨fd__law_lasts, F__law_lasts⟩ := c.def_ 7 (d := e__law_lasts) rfl
  have g__law_lasts := He.glo_ok X G (c.fact 7 (f := .glo "_law_lasts") rfl)
  have b__law_lasts : Binds K fd__law_lasts ["book", "kind", "number"] [] := F__law_lasts.bindsN fun _ _ _ _ _ _ us hl => match us, hl with | [_, _, _], _ => rfl
  obtain ⟨fd__law_need, F__law_need⟩ := c.def_ 8 (d := e__law_need) rfl
  have g__law_need := He.glo_ok X G (c.fact 8 (f := .glo "_law_need") rfl)
  have b__law_need : Binds K fd__law_need ["book", "kind"] [] := F__law_need.bindsN fun _ _ _ _ _ _ us hl => match us, hl with | [_, _], _ => rfl
  obtain ⟨fd__law_numbers, F__law_numbers⟩ := c.def_ 9 (d := e__law_numbers) rfl
  have g__law_numbers := He.glo_ok X G (c.fact 9 (f := .glo "_law_numbers") rfl)
  have b__law_numbers : Binds K fd__law_numbers ["cell", "count", "limit"] [] := F__law_numbers.bindsN fun _ _ _ _ _ _ us hl => match us, hl with | [_, _, _], _ => rfl
  obtain ⟨fd__law_same, F__law_same⟩ := c.def_ 10 (d := e__law_same) rfl
  have g__law_same := He.glo_ok X G (c.fact 10 (f := .glo "_law_same") rfl)
  have b__law_same : Binds K fd__law_same ["told", "due"] [] := F__law_same.bindsN fun _ _ _ _ _ _ us hl => match us, hl with | [_, _], _ => rfl
  obtain ⟨fd_levels_of, F_levels_of⟩ := c.def_ 11 (d := e_levels_of) rfl
  have g_levels_of := He.glo_ok X G (c.fact 11 (f := .glo "levels_of") rfl)
  have b_levels_of : Binds K fd_levels_of ["book", "kind"] [] := F_levels_of.bindsN fun _ _ _ _ _ _ us hl => match us, hl with | [_, _], _ => rfl
  obtain ⟨fd_lasts_until, F_lasts_until⟩ := c.def_ 12 (d := e_lasts_until) rfl
  have g_lasts_until := He.glo_ok X G (c.fact 12 (f := .glo "lasts_until") rfl)
  have b_lasts_until : Binds K fd_lasts_until ["book", "kind", "number"] [] := F_lasts_until.bindsN fun _ _ _ _ _ _ us hl => match us, hl with | [_, _, _], _ => rfl
  obtain ⟨fd_need_of, F_need_of⟩ := c.def_ 13 (d := e_need_of) rfl
  have g_need_of := He.glo_ok X G (c.fact 13 (f := .glo "need_of") rfl)
  have b_need_of : Binds K fd_need_of ["book", "kind"] [] := F_need_of.bindsN fun _ _ _ _ _ _ us hl => match us, hl with | [_, _], _ => rfl
  obtain ⟨fd_needs_of, F_needs_of⟩ := c.def_ 14 (d := e_needs_of) rfl
  have g_needs_of := He.glo_ok X G (c.fact 14 (f := .glo "needs_of") rfl)
  have b_needs_of : Binds K fd_needs_of ["book"] [] := F_needs_of.bindsN fun _ _ _ _ _ _ us hl => match us, hl with | [_], _ => rfl
  obtain ⟨fd_open_days, F_open_days⟩ := c.def_ 15 (d := e_open_days) rfl
  have g_open_days := He.glo_ok X G (c.fact 15 (f := .glo "open_days") rfl)
  have b_open_days : Binds K fd_open_days ["closed", "start", "stop"] [] := F_open_days.bindsN fun _ _ _ _ _ _ us hl => match us, hl with | [_, _, _], _ => rfl
  obtain ⟨fd_is_open, F_is_open⟩ := c.def_ 16 (d := e_is_open) rfl
  have g_is_open := He.glo_ok X G (c.fact 16 (f := .glo "is_open") rfl)
  have b_is_open : Binds K fd_is_open ["closed", "day"] [] := F_is_open.bindsN fun _ _ _ _ _ _ us hl => match us, hl with | [_, _], _ => rfl
  obtain ⟨fd_order_by, F_order_by⟩ := c.def_ 17 (d := e_order_by) rfl
  have g_order_by := He.glo_ok X G (c.fact 17 (f := .glo "order_by") rfl)
  have b_order_by : Binds K fd_order_by ["closed", "lead", "day"] [] := F_order_by.bindsN fun _ _ _ _ _ _ us hl => match us, hl with | [_, _, _], _ => rfl
  obtain ⟨fd_law, F_law⟩ := c.def_ 18 (d := e_law) rfl
  have g_law := He.glo_ok X G (c.fact 18 (f := .glo "law") rfl)
  have m_bool := He.free_ok X G (c.fact 19 (f := .free "bool") rfl)
  have m_int := He.free_ok X G (c.fact 20 (f := .free "int") rfl)
  have m_isinstance := He.free_ok X G (c.fact 21 (f := .free "isinstance") rfl)
  have m_len := He.free_ok X G (c.fact 22 (f := .free "len") rfl)
  have m_list := He.free_ok X G (c.fact 23 (f := .free "list") rfl)
  have m_max := He.free_ok X G (c.fact 24 (f := .free "max") rfl)
  have m_range := He.free_ok X G (c.fact 25 (f := .free "range") rfl)
  have m_sorted := He.free_ok X G (c.fact 26 (f := .free "sorted") rfl)
  have m_str := He.free_ok X G (c.fact 27 (f := .free "str") rfl)
  have m_sum := He.free_ok X G (c.fact 28 (f := .free "sum") rfl)
  have m_tuple := He.free_ok X G (c.fact 29 (f := .free "tuple") rfl)
  have e := hfa.symm.trans g_law
  cases e
  have b := FunD.bindsA (ps := ["script"]) F_law fun _ _ _ _ _ _ us hl => match us, hl with | [_], _ => rfl
  refine ⟨fd_law, fun s v => b s [v] rfl, fun base _ _ => ?_⟩
  have G__law_book := ok__law_book (P := P) (w := w) (mg := mg) (base := base) F__law_book m_int m_len m_range
  have G__law_cell := ok__law_cell (P := P) (w := w) (mg := mg) (base := base) F__law_cell m_int m_len
  have G__law_closed := ok__law_closed (P := P) (w := w) (mg := mg) (base := base) F__law_closed m_range m_sorted
  have G__law_open := ok__law_open (P := P) (w := w) (mg := mg) (base := base) F__law_open m_len
  have G__law_is_latest := ok__law_is_latest (P := P) (w := w) (mg := mg) (base := base) F__law_is_latest G__law_open g__law_open F__law_open.kp b__law_open m_bool m_int m_isinstance
  have G__law_days := ok__law_days (P := P) (w := w) (mg := mg) (base := base) F__law_days m_sorted
  have G__law_level := ok__law_level (P := P) (w := w) (mg := mg) (base := base) F__law_level m_sum
  have G__law_lasts := ok__law_lasts (P := P) (w := w) (mg := mg) (base := base) F__law_lasts G__law_days g__law_days F__law_days.kp b__law_days G__law_level g__law_level F__law_level.kp b__law_level
  have G__law_need := ok__law_need (P := P) (w := w) (mg := mg) (base := base) F__law_need G__law_days g__law_days F__law_days.kp b__law_days G__law_level g__law_level F__law_level.kp b__law_level m_max
  have G__law_numbers := ok__law_numbers (P := P) (w := w) (mg := mg) (base := base) F__law_numbers m_int m_range
  have G__law_same := ok__law_same (P := P) (w := w) (mg := mg) (base := base) F__law_same g__law_same F__law_same.kp b__law_same m_bool m_int m_isinstance m_len m_list m_range m_str m_tuple 12
  have G_levels_of := ok_levels_of (P := P) (w := w) (mg := mg) (base := base) F_levels_of m_sorted m_sum
  have G_lasts_until := ok_lasts_until (P := P) (w := w) (mg := mg) (base := base) F_lasts_until G_levels_of g_levels_of F_levels_of.kp b_levels_of
  have G_need_of := ok_need_of (P := P) (w := w) (mg := mg) (base := base) F_need_of G_levels_of g_levels_of F_levels_of.kp b_levels_of m_max
  have G_needs_of := ok_needs_of (P := P) (w := w) (mg := mg) (base := base) F_needs_of G_need_of g_need_of F_need_of.kp b_need_of m_sorted
  have G_open_days := ok_open_days (P := P) (w := w) (mg := mg) (base := base) F_open_days m_len
  have G_is_open := ok_is_open (P := P) (w := w) (mg := mg) (base := base) F_is_open 
  have G_order_by := ok_order_by (P := P) (w := w) (mg := mg) (base := base) F_order_by G_is_open g_is_open F_is_open.kp b_is_open m_int
  exact ok_law F_law G__law_book g__law_book F__law_book.kp b__law_book G__law_cell g__law_cell F__law_cell.kp b__law_cell G__law_closed g__law_closed F__law_closed.kp b__law_closed G__law_is_latest g__law_is_latest F__law_is_latest.kp b__law_is_latest G__law_lasts g__law_lasts F__law_lasts.kp b__law_lasts G__law_need g__law_need F__law_need.kp b__law_need G__law_numbers g__law_numbers F__law_numbers.kp b__law_numbers G__law_open g__law_open F__law_open.kp b__law_open G__law_same g__law_same F__law_same.kp b__law_same G_lasts_until g_lasts_until F_lasts_until.kp b_lasts_until G_needs_of g_needs_of F_needs_of.kp b_needs_of G_open_days g_open_days F_open_days.kp b_open_days G_order_by g_order_by F_order_by.kp b_order_by m_list m_range m_sorted
end G
open PySem PySem.W PySem.Calls PyProof.Rows
theorem PySem.Challenge.cw_piecesturned_k76_open_days_leads_and_sto_holds : PySem.Challenge.rw_piecesturned_k76_open_days_leads_and_sto.Holds := by
  w_on; o_law
  refine HandSHeadRun.head_any (r := OpenLaw.row PySem.Challenge.rw_piecesturned_k76_open_days_leads_and_sto) (q := view (OpenLaw.row PySem.Challenge.rw_piecesturned_k76_open_days_leads_and_sto).prog [21]) (H := G.hook0) (ob := G.ob) (M := 6000) (loose := G.loose0) (d := HandSHeadRun.topDef (OpenLaw.row PySem.Challenge.rw_piecesturned_k76_open_days_leads_and_sto).prog 21) (kwd := []) G.ob_eq
    (by kernel_rfl) (fun s => by kernel_rfl) G.run0 (by kernel_rfl) (by kernel_rfl) (by kernel_rfl) (by rfl) (by first | assumption | decide +kernel) (by decide +kernel) ⟨rfl, rfl, rfl, rfl, rfl, by decide +kernel⟩ ?hw ?hc
  case hw => w_witness2
  case hc =>
    refine PL.walk_run (l := PySem.Challenge.rw_piecesturned_k76_open_days_leads_and_sto) (n := 63) (x := "script") (CX := L2.CX) rfl (by decide) (by kernel_rfl) ?F (fun w H s e s' z => ?G)
    case G => exact PL.cx_none z
    case F =>
      intro w mg fa h Y G0 hmg0
      obtain ⟨K, KX, c⟩ := Y
      have hmg : mg ("law" : PySem.Str) = some (.ref fa) := by
        have e : (HandSHeadRun.topDef (OpenLaw.row PySem.Challenge.rw_piecesturned_k76_open_days_leads_and_sto).prog 21).name = ("law" : PySem.Str) := by kernel_rfl
        rw [← e]
        exact hmg0
      obtain ⟨fd, hb, hF⟩ := G.says (P := (PySem.Challenge.rw_piecesturned_k76_open_days_leads_and_sto).prog) (w := w) KX G0 hmg c
      exact ⟨K, fd, PL.spD K mg 1 G.d_law, KX, hb, fun H a ns hl _ hS => PL.law_sp (G.law_true ns hl) hS, hF⟩
