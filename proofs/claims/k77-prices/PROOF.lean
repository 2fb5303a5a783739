import PyProof.Rows.All
import Wide.All
import OpenK.AllK
import Wide.FinOn
import HandS.ForMost
import HandS.WordsExc
import HandS.Defaults
import HandS.TupAny
import HandS.Wide
import HandS.Deep
import HandS.IsInst
import HandS.SortInts
import HandS.Style
import HandS.Flow
import HandS.Strs
import HandS.Conv
import HandS.Zip
import HandS.Ends
import HandS.HeadEnd
import PyProof.ReprRoads
import PyProof.ReprLen
import PyProof.FitsInt
import KE.KStateDown
import HandS.Head0
import HandS.Head1
import HandS.Head2
import HandS.HeadHook1
import HandS.HeadHook2
import PySem.Challenge.RW_piecesturned_k77_prices_by_tariffs_and_g
set_option Elab.async false
set_option linter.all false
set_option maxRecDepth 100000
/-! PL1: data, own and shared; what stands for it in the heap. -/
namespace PL
open PySem PySem.Spec L2

abbrev D := PyData

/-- a value as the pure layer sees it: shared data; the script; an own list, an own dict of shared items; own lists and tuples of own things -/
inductive T where
  | sh (d : D)
  | scr (ns : List Int)
  | ol (ds : List D)
  | od (kvs : List (D × D))
  | ot (ts : List T)
  | tu (ts : List T)

mutual
def T.er : T → D
  | .sh d => d
  | .scr ns => .list (ns.map PyData.int)
  | .ol ds => .list ds
  | .od kvs => .dict kvs
  | .ot ts => .list (T.ers ts)
  | .tu ts => .tuple (T.ers ts)
def T.ers : List T → List D
  | [] => []
  | t :: ts => t.er :: T.ers ts
end

def kD : Key → D
  | .inl i => .int i
  | .inr x => .str x

def DcAt (o : Option HO) (ks : List D) (vs : List V) : Prop :=
  (∃ kk : List (Key × V), o = some (.dK kk) ∧ ks = kk.map (fun p => kD p.1) ∧ vs = kk.map (·.2)) ∨
    ∃ kk : List (List Key × V), o = some (.dT kk) ∧ ks = kk.map (fun p => PyData.tuple (p.1.map kD)) ∧ vs = kk.map (·.2)

/-- a tuple, known to its object: it has no dict -/
def IsTp (o : Option HO) (vs : List V) : Prop := ∃ ob, o = some (.frz ob (.tup vs)) ∧ ob.dict = none
theorem IsTp.same {o o' : Option HO} {vs : List V} (h : IsTp o vs) (e : ∀ x, o = some x → o' = some x) : IsTp o' vs := by
  obtain ⟨ob, e1, e2⟩ := h
  exact ⟨ob, e _ e1, e2⟩
theorem IsTp.some {o : Option HO} {vs : List V} (h : IsTp o vs) : ∃ x, o = some x := let ⟨_, e, _⟩ := h; ⟨_, e⟩
theorem IsTp.sq {K : PySem.W.Frag} {H : Hp} {a : Addr} {vs : List V} (h : IsTp (H a) vs) : SqT K H a vs := let ⟨ob, e, _⟩ := h; .inl (.inr ⟨ob, e⟩)

mutual
def RepD (S : Hp) : D → V → Prop
  | .none, v => v = .non
  | .bool b, v => v = .bl b
  | .int i, v => v = .int i
  | .str x, v => v = .str x
  | .list ds, v => ∃ a vs, v = .ref a ∧ S a = some (.lst vs) ∧ RepDs S ds vs
  | .tuple ds, v => ∃ a vs, v = .ref a ∧ IsTp (S a) vs ∧ RepDs S ds vs
  | .dict kvs, v => ∃ a vs, v = .ref a ∧ DcAt (S a) (kvs.map (·.1)) vs ∧ RepPs S kvs vs
def RepDs (S : Hp) : List D → List V → Prop
  | [], vs => vs = []
  | d :: ds, vs => ∃ v r, vs = v :: r ∧ RepD S d v ∧ RepDs S ds r
def RepPs (S : Hp) : List (D × D) → List V → Prop
  | [], vs => vs = []
  | p :: ps, vs => ∃ v r, vs = v :: r ∧ RepP S p v ∧ RepPs S ps r
def RepP (S : Hp) : D × D → V → Prop
  | (_, d), v => RepD S d v
end

section
variable {S S' : Hp}
mutual
theorem RepD.mono (h : Same S S') : ∀ (d : D) (v : V), RepD S d v → RepD S' d v
  | .none, _, q => by simp only [RepD] at q ⊢; exact q
  | .bool b, _, q => by simp only [RepD] at q ⊢; exact q
  | .int i, _, q => by simp only [RepD] at q ⊢; exact q
  | .str x, _, q => by simp only [RepD] at q ⊢; exact q
  | .list ds, _, q => by
    simp only [RepD] at q ⊢
    obtain ⟨a, vs, e, ha, r⟩ := q
    exact ⟨a, vs, e, h _ _ ha, RepDs.mono h ds vs r⟩
  | .tuple ds, _, q => by
    simp only [RepD] at q ⊢
    obtain ⟨a, vs, e, ha, r⟩ := q
    exact ⟨a, vs, e, ha.same (h _), RepDs.mono h ds vs r⟩
  | .dict kvs, _, q => by
    simp only [RepD] at q ⊢
    obtain ⟨a, vs, e, ha, r⟩ := q
    refine ⟨a, vs, e, ?_, RepPs.mono h kvs vs r⟩
    rcases ha with ⟨kk, e1, e2⟩ | ⟨kk, e1, e2⟩
    · exact .inl ⟨kk, h _ _ e1, e2⟩
    · exact .inr ⟨kk, h _ _ e1, e2⟩
theorem RepDs.mono (h : Same S S') : ∀ (ds : List D) (vs : List V), RepDs S ds vs → RepDs S' ds vs
  | [], _, q => by simp only [RepDs] at q ⊢; exact q
  | d :: ds, _, q => by
    simp only [RepDs] at q ⊢
    obtain ⟨v, r, e, q1, q2⟩ := q
    exact ⟨v, r, e, RepD.mono h d v q1, RepDs.mono h ds r q2⟩
theorem RepPs.mono (h : Same S S') : ∀ (ds : List (D × D)) (vs : List V), RepPs S ds vs → RepPs S' ds vs
  | [], _, q => by simp only [RepPs] at q ⊢; exact q
  | d :: ds, _, q => by
    simp only [RepPs] at q ⊢
    obtain ⟨v, r, e, q1, q2⟩ := q
    exact ⟨v, r, e, RepP.mono h d v q1, RepPs.mono h ds r q2⟩
theorem RepP.mono (h : Same S S') : ∀ (d : D × D) (v : V), RepP S d v → RepP S' d v
  | (_, d), v, q => by
    simp only [RepP] at q ⊢
    exact RepD.mono h d v q
end
end

theorem RepDs.length {S : Hp} : ∀ {ds : List D} {vs : List V}, RepDs S ds vs → vs.length = ds.length
  | [], _, q => by simp only [RepDs] at q; rw [q]; rfl
  | d :: ds, _, q => by
    simp only [RepDs] at q
    obtain ⟨v, r, rfl, _, q2⟩ := q
    simp only [List.length_cons, RepDs.length q2]
theorem RepDs.app {S : Hp} : ∀ {ds es : List D} {vs ws : List V}, RepDs S ds vs → RepDs S es ws → RepDs S (ds ++ es) (vs ++ ws)
  | [], _, _, _, q, q' => by simp only [RepDs] at q; subst q; exact q'
  | d :: ds, es, _, ws, q, q' => by
    simp only [RepDs] at q
    obtain ⟨v, r, rfl, q1, q2⟩ := q
    show RepDs S (d :: (ds ++ es)) (v :: (r ++ ws))
    simp only [RepDs]
    exact ⟨v, _, rfl, q1, RepDs.app q2 q'⟩
theorem RepDs.one {S : Hp} {d : D} {v : V} (q : RepD S d v) : RepDs S [d] [v] := by
  simp only [RepDs]; exact ⟨v, [], rfl, q, rfl⟩
theorem RepDs.nil {S : Hp} : RepDs S [] [] := by simp only [RepDs]
theorem RepDs.cons {S : Hp} {d : D} {v : V} {ds : List D} {vs : List V} (q : RepD S d v) (r : RepDs S ds vs) : RepDs S (d :: ds) (v :: vs) := by
  simp only [RepDs]; exact ⟨v, vs, rfl, q, r⟩
theorem RepDs.get {S : Hp} : ∀ {ds : List D} {vs : List V} {i : Nat} {d : D}, RepDs S ds vs → ds[i]? = some d → ∃ v, vs[i]? = some v ∧ RepD S d v
  | [], _, i, d, q, e => by simp at e
  | c :: ds, _, i, d, q, e => by
    simp only [RepDs] at q
    obtain ⟨v, r, rfl, q1, q2⟩ := q
    cases i with
    | zero => simp at e; subst e; exact ⟨v, rfl, q1⟩
    | succ i => exact RepDs.get (ds := ds) (vs := r) (i := i) q2 (by simpa using e)
theorem RepDs.get' {S : Hp} : ∀ {ds : List D} {vs : List V} {i : Nat} {v : V}, RepDs S ds vs → vs[i]? = some v → ∃ d, ds[i]? = some d ∧ RepD S d v
  | [], _, i, d, q, e => by simp only [RepDs] at q; subst q; simp at e
  | c :: ds, _, i, d, q, e => by
    simp only [RepDs] at q
    obtain ⟨v, r, rfl, q1, q2⟩ := q
    cases i with
    | zero => simp at e; subst e; exact ⟨c, rfl, q1⟩
    | succ i => exact RepDs.get' (ds := ds) (vs := r) (i := i) q2 (by simpa using e)
theorem RepDs.take {S : Hp} : ∀ {ds : List D} {vs : List V} (n : Nat), RepDs S ds vs → RepDs S (ds.take n) (vs.take n)
  | _, _, 0, _ => by simp only [List.take_zero, RepDs]
  | [], _, n + 1, q => by simp only [RepDs] at q; subst q; simp only [List.take_nil, RepDs]
  | d :: ds, _, n + 1, q => by
    simp only [RepDs] at q
    obtain ⟨v, r, rfl, q1, q2⟩ := q
    exact .cons q1 (RepDs.take n q2)
theorem RepDs.drop {S : Hp} : ∀ {ds : List D} {vs : List V} (n : Nat), RepDs S ds vs → RepDs S (ds.drop n) (vs.drop n)
  | _, _, 0, q => q
  | [], _, n + 1, q => by simp only [RepDs] at q; subst q; simp only [List.drop_nil, RepDs]
  | d :: ds, _, n + 1, q => by
    simp only [RepDs] at q
    obtain ⟨v, r, rfl, q1, q2⟩ := q
    exact RepDs.drop n q2
theorem RepDs.set {S : Hp} : ∀ {ds : List D} {vs : List V} (n : Nat) {d : D} {v : V}, RepDs S ds vs → RepD S d v → RepDs S (ds.set n d) (vs.set n v)
  | [], _, _, _, _, q, _ => by simp only [RepDs] at q; subst q; exact .nil
  | c :: ds, _, n, d, v, q, qd => by
    simp only [RepDs] at q
    obtain ⟨w, r, rfl, q1, q2⟩ := q
    cases n with
    | zero => exact .cons qd q2
    | succ n => exact .cons q1 (RepDs.set n q2 qd)
theorem RepDs.rev {S : Hp} : ∀ {ds : List D} {vs : List V}, RepDs S ds vs → RepDs S ds.reverse vs.reverse
  | [], _, q => by simp only [RepDs] at q; subst q; exact .nil
  | d :: ds, _, q => by
    simp only [RepDs] at q
    obtain ⟨v, r, rfl, q1, q2⟩ := q
    rw [List.reverse_cons, List.reverse_cons]
    exact (RepDs.rev q2).app (.one q1)

/-! ### own things -/
mutual
def RepT (K : PySem.W.Frag) (S H : Hp) : T → V → List Addr → Prop
  | .sh d, v, fp => fp = [] ∧ RepD S d v
  | .scr ns, v, fp => fp = [] ∧ ∃ a, v = .ref a ∧ SqL K S a (ns.map V.int)
  | .ol ds, v, fp => ∃ a vs, v = .ref a ∧ fp = [a] ∧ H a = some (.lst vs) ∧ RepDs S ds vs
  | .od kvs, v, fp => ∃ a vs, v = .ref a ∧ fp = [a] ∧ DcAt (H a) (kvs.map (·.1)) vs ∧ RepPs S kvs vs
  | .ot ts, v, fp => ∃ a vs f, v = .ref a ∧ fp = a :: f ∧ H a = some (.lst vs) ∧ RepTs K S H ts vs f
  | .tu ts, v, fp => ∃ a vs f, v = .ref a ∧ fp = a :: f ∧ IsTp (H a) vs ∧ RepTs K S H ts vs f
def RepTs (K : PySem.W.Frag) (S H : Hp) : List T → List V → List Addr → Prop
  | [], vs, fp => vs = [] ∧ fp = []
  | t :: ts, vs, fp => ∃ v r f g, vs = v :: r ∧ fp = f ++ g ∧ RepT K S H t v f ∧ RepTs K S H ts r g
end

theorem DcAt.same {o o' : Option HO} {ks : List D} {vs : List V} (h : DcAt o ks vs) (e : ∀ x, o = some x → o' = some x) : DcAt o' ks vs := by
  rcases h with ⟨kk, e1, e2⟩ | ⟨kk, e1, e2⟩
  · exact .inl ⟨kk, e _ e1, e2⟩
  · exact .inr ⟨kk, e _ e1, e2⟩
theorem DcAt.some {o : Option HO} {ks : List D} {vs : List V} (h : DcAt o ks vs) : ∃ x, o = some x := by
  rcases h with ⟨kk, e1, e2⟩ | ⟨kk, e1, e2⟩ <;> exact ⟨_, e1⟩

section
variable {K : PySem.W.Frag} {S S' H H' : Hp}
mutual
theorem RepT.frame (h : Same S S') : ∀ (t : T) (v : V) (fp : List Addr), (∀ a ∈ fp, H' a = H a) → RepT K S H t v fp → RepT K S' H' t v fp
  | .sh d, v, fp, _, q => by
    simp only [RepT] at q ⊢
    exact ⟨q.1, RepD.mono h d v q.2⟩
  | .scr ns, v, fp, _, q => by
    simp only [RepT] at q ⊢
    obtain ⟨e, a, e2, r⟩ := q
    exact ⟨e, a, e2, h.seq r⟩
  | .ol ds, v, fp, k, q => by
    simp only [RepT] at q ⊢
    obtain ⟨a, vs, e1, e2, ha, r⟩ := q
    subst e2
    exact ⟨a, vs, e1, rfl, by rw [k a (by simp)]; exact ha, RepDs.mono h ds vs r⟩
  | .od kvs, v, fp, k, q => by
    simp only [RepT] at q ⊢
    obtain ⟨a, vs, e1, e2, ha, r⟩ := q
    subst e2
    exact ⟨a, vs, e1, rfl, by rw [k a (by simp)]; exact ha, RepPs.mono h kvs vs r⟩
  | .ot ts, v, fp, k, q => by
    simp only [RepT] at q ⊢
    obtain ⟨a, vs, f, e1, e2, ha, r⟩ := q
    subst e2
    exact ⟨a, vs, f, e1, rfl, by rw [k a (by simp)]; exact ha, RepTs.frame h ts vs f (fun b hb => k b (by simp [hb])) r⟩
  | .tu ts, v, fp, k, q => by
    simp only [RepT] at q ⊢
    obtain ⟨a, vs, f, e1, e2, ha, r⟩ := q
    subst e2
    exact ⟨a, vs, f, e1, rfl, by rw [k a (by simp)]; exact ha, RepTs.frame h ts vs f (fun b hb => k b (by simp [hb])) r⟩
theorem RepTs.frame (h : Same S S') : ∀ (ts : List T) (vs : List V) (fp : List Addr), (∀ a ∈ fp, H' a = H a) → RepTs K S H ts vs fp → RepTs K S' H' ts vs fp
  | [], vs, fp, _, q => by simp only [RepTs] at q ⊢; exact q
  | t :: ts, vs, fp, k, q => by
    simp only [RepTs] at q ⊢
    obtain ⟨v, r, f, g, e1, e2, q1, q2⟩ := q
    subst e2
    exact ⟨v, r, f, g, e1, rfl, RepT.frame h t v f (fun b hb => k b (by simp [hb])) q1, RepTs.frame h ts r g (fun b hb => k b (by simp [hb])) q2⟩
end
mutual
theorem RepT.there : ∀ (t : T) (v : V) (fp : List Addr), RepT K S H t v fp → ∀ a ∈ fp, ∃ o, H a = some o
  | .sh d, v, fp, q => by simp only [RepT] at q; rw [q.1]; simp
  | .scr ns, v, fp, q => by simp only [RepT] at q; rw [q.1]; simp
  | .ol ds, v, fp, q => by
    simp only [RepT] at q
    obtain ⟨a, vs, e1, e2, ha, r⟩ := q
    subst e2
    intro b hb
    simp at hb; subst hb
    exact ⟨_, ha⟩
  | .od ds, v, fp, q => by
    simp only [RepT] at q
    obtain ⟨a, vs, e1, e2, ha, r⟩ := q
    subst e2
    intro b hb
    simp at hb; subst hb
    exact ha.some
  | .ot ts, v, fp, q => by
    simp only [RepT] at q
    obtain ⟨a, vs, f, e1, e2, ha, r⟩ := q
    subst e2
    intro b hb
    rcases List.mem_cons.mp hb with rfl | hb
    · exact ⟨_, ha⟩
    · exact RepTs.there ts vs f r b hb
  | .tu ts, v, fp, q => by
    simp only [RepT] at q
    obtain ⟨a, vs, f, e1, e2, ha, r⟩ := q
    subst e2
    intro b hb
    rcases List.mem_cons.mp hb with rfl | hb
    · exact ha.some
    · exact RepTs.there ts vs f r b hb
theorem RepTs.there : ∀ (ts : List T) (vs : List V) (fp : List Addr), RepTs K S H ts vs fp → ∀ a ∈ fp, ∃ o, H a = some o
  | [], vs, fp, q => by simp only [RepTs] at q; rw [q.2]; simp
  | t :: ts, vs, fp, q => by
    simp only [RepTs] at q
    obtain ⟨v, r, f, g, e1, e2, q1, q2⟩ := q
    subst e2
    intro b hb
    rcases List.mem_append.mp hb with hb | hb
    · exact RepT.there t v f q1 b hb
    · exact RepTs.there ts r g q2 b hb
end
/-- where the heap only grows -/
theorem RepT.grow (h : Same S S') (h2 : Same H H') {t : T} {v : V} {fp : List Addr} (q : RepT K S H t v fp) : RepT K S' H' t v fp :=
  RepT.frame h t v fp (fun a ha => by obtain ⟨o, e⟩ := RepT.there t v fp q a ha; rw [e, h2 _ _ e]) q
theorem RepTs.grow (h : Same S S') (h2 : Same H H') {t : List T} {v : List V} {fp : List Addr} (q : RepTs K S H t v fp) : RepTs K S' H' t v fp :=
  RepTs.frame h t v fp (fun a ha => by obtain ⟨o, e⟩ := RepTs.there t v fp q a ha; rw [e, h2 _ _ e]) q

mutual
def T.noScr : T → Bool
  | .scr _ => false
  | .ot ts => T.noScrs ts
  | .tu ts => T.noScrs ts
  | _ => true
def T.noScrs : List T → Bool
  | [] => true
  | t :: ts => t.noScr && T.noScrs ts
end
mutual
/-- what is own is shared -/
theorem RepT.share (h : Same S S') : ∀ (t : T) (v : V) (fp : List Addr), t.noScr = true → (∀ a ∈ fp, ∀ o, H a = some o → S' a = some o) → RepT K S H t v fp → RepD S' t.er v
  | .sh d, v, fp, _, _, q => by
    simp only [RepT] at q
    simp only [T.er]
    exact RepD.mono h d v q.2
  | .scr ns, v, fp, n, _, q => by simp [T.noScr] at n
  | .ol ds, v, fp, _, k, q => by
    simp only [RepT] at q
    obtain ⟨a, vs, e1, e2, ha, r⟩ := q
    subst e2
    simp only [T.er, RepD]
    exact ⟨a, vs, e1, k a (by simp) _ ha, RepDs.mono h ds vs r⟩
  | .od kvs, v, fp, _, k, q => by
    simp only [RepT] at q
    obtain ⟨a, vs, e1, e2, ha, r⟩ := q
    subst e2
    simp only [T.er, RepD]
    exact ⟨a, vs, e1, ha.same (k a (by simp)), RepPs.mono h kvs vs r⟩
  | .ot ts, v, fp, n, k, q => by
    simp only [RepT] at q
    obtain ⟨a, vs, f, e1, e2, ha, r⟩ := q
    subst e2
    simp only [T.er, RepD]
    exact ⟨a, vs, e1, k a (by simp) _ ha, RepTs.share h ts vs f (by simpa [T.noScr] using n) (fun b hb => k b (by simp [hb])) r⟩
  | .tu ts, v, fp, n, k, q => by
    simp only [RepT] at q
    obtain ⟨a, vs, f, e1, e2, ha, r⟩ := q
    subst e2
    simp only [T.er, RepD]
    exact ⟨a, vs, e1, ha.same (k a (by simp)), RepTs.share h ts vs f (by simpa [T.noScr] using n) (fun b hb => k b (by simp [hb])) r⟩
theorem RepTs.share (h : Same S S') : ∀ (ts : List T) (vs : List V) (fp : List Addr), T.noScrs ts = true → (∀ a ∈ fp, ∀ o, H a = some o → S' a = some o) → RepTs K S H ts vs fp → RepDs S' (T.ers ts) vs
  | [], vs, fp, _, _, q => by simp only [RepTs] at q; simp only [T.ers, RepDs]; exact q.1
  | t :: ts, vs, fp, n, k, q => by
    simp only [RepTs] at q
    obtain ⟨v, r, f, g, e1, e2, q1, q2⟩ := q
    subst e2
    simp only [T.noScrs, Bool.and_eq_true] at n
    simp only [T.ers, RepDs]
    exact ⟨v, r, e1, RepT.share h t v f n.1 (fun b hb => k b (by simp [hb])) q1, RepTs.share h ts r g n.2 (fun b hb => k b (by simp [hb])) q2⟩
end
end

/-! ### tuples that are made -/
abbrev tupO (its : List Value) : Obj := { cls := .type "tuple", data := .seq its.toArray }
section
variable {X : Cx} {pins : List (Addr × Obj)} {σ : L2.St} {H : Hp} {s : Shared} {ys : List V} {its : List Value}
theorem tnew (I : Inv X pins σ H s) (hv : Vals ys its) (hz : ys.length ≤ sizeLine) (t' : Nat := s.toks) : Inv X pins σ (upd H s.heap.objs.size (.frz (tupO its) (.tup ys))) { s with heap := s.heap.push (tupO its), toks := t' } :=
  I.laid (t' := t') (fun _ _ e => Heap.get?_push_of_some _ e) (Nat.le_refl _) ⟨Heap.get?_push_size _ rfl, hz, its, hv, ⟨_, Heap.get?_push_size _ rfl, rfl, _, rfl⟩⟩
end
/-- a new tuple, wished for -/
def NewT (H : Hp) (xs : List V) (Q : VK) : Prop := ∀ p o, H p = none → o.dict = none → Q (.ref p) (upd H p (.frz o (.tup xs)))
theorem NewT.at {H : Hp} {xs : List V} {Q : VK} (h : NewT H xs Q) {p : Addr} (n : H p = none) (its : List Value) : Q (.ref p) (upd H p (.frz (tupO its) (.tup xs))) := h p _ n rfl
def tTupF (t : TA) : TE := fun σ H Q => t σ H fun xs H1 => xs.length ≤ sizeLine ∧ NewT H1 xs Q
section
open PyProof.Rows
variable {X : Cx} {es : List Expr} {t : TA} {pos : Pos}
theorem pe_tupF {k : Nat} (h : PA X es t) : PE X (.Tuple es k pos) (tTupF t) := by
  refine ⟨fun pins s σ H Q I hq => ?_⟩
  refine wpAny_Tuple_spliced (thn (h.run pos pins s σ H _ I hq) fun us s1 ⟨xs, H1, I1, r, z, q⟩ => ⟨by rw [← r.length]; exact z, ?_⟩)
  exact ⟨.ref _, _, tnew I1 r z, rfl, q.at I1.fresh us⟩
/-- tuple(xs), tuple(t) -/
def rTupOf (K : PySem.W.Frag) : List V → Hp → VK → Prop := fun xs H Q => ∃ p ys, xs = [.ref p] ∧ ((SqL K H p ys ∧ NewT H ys Q) ∨ (SqT K H p ys ∧ Q (.ref p) H))
theorem call_tupOf : CallR X (.type "tuple") (rTupOf X.K) := by
  intro pins s σ H xs us Q I r h
  obtain ⟨p, ys, rfl, h⟩ := h
  obtain ⟨u, rfl, rx⟩ := vals1 r
  cases rx
  rcases h with ⟨hq, q⟩ | ⟨hq, q⟩
  · obtain ⟨its, r1, pl, hz⟩ := I.list hq
    refine call_tuple_list pl.isList (fun h1 kp => ?_) (by rw [List.size_toArray, ← r1.length]; exact hz)
    have J : Inv X pins σ H { s with heap := h1 } := I.kept (t' := s.toks) kp
    exact ⟨.ref _, _, tnew J r1 hz, rfl, q.at J.fresh its⟩
  · obtain ⟨its, r1, pl, hz⟩ := I.tuple hq
    exact call_tuple_same pl ⟨.ref p, H, I, rfl, q⟩
/-- t + u -/
def rCatF (K : PySem.W.Frag) : R2 := fun x y H Q => ∃ a b xs ys, x = .ref a ∧ y = .ref b ∧ SqT K H a xs ∧ SqT K H b ys ∧ xs.length + ys.length ≤ sizeLine ∧
  (xs = [] → Q (.ref b) H) ∧ (xs ≠ [] → ys = [] → Q (.ref a) H) ∧ (xs ≠ [] → ys ≠ [] → NewT H (xs ++ ys) Q)
theorem op_catF : OpR X (binaryOp .Add) (rCatF X.K) := by
  intro pins s σ H x y v u Q I rx ry h
  obtain ⟨a, b, xs, ys, rfl, rfl, ha, hb, hz, q0, q1, q2⟩ := h
  cases rx
  cases ry
  obtain ⟨its, r1, p1, _⟩ := I.tuple ha
  obtain ⟨jts, r2, p2, _⟩ := I.tuple hb
  by_cases hx : xs = []
  · subst hx
    cases r1
    exact cat_tup0 p1 p2 ⟨.ref b, H, I, rfl, q0 rfl⟩
  · have ix : its ≠ [] := fun z => hx (r1.nil_iff.mp z)
    refine HT.cat_tup p1 p2 ix (fun z => ⟨.ref a, H, I, rfl, q1 hx (r2.nil_iff.mp z)⟩) (fun z => ?_) (by rw [← r1.length, ← r2.length]; exact hz)
    exact ⟨.ref _, _, tnew I (r1.append r2) (by rw [List.length_append]; exact hz), rfl, (q2 hx fun w => z (r2.nil_iff.mpr w)).at I.fresh _⟩
/-- t[lo:hi] -/
def rSlF (K : PySem.W.Frag) : V → Option Int → Option Int → Hp → VK → Prop := fun x lo hi H Q => ∃ a xs, x = .ref a ∧ SqT K H a xs ∧
  (cutV xs lo hi = xs → Q (.ref a) H) ∧ NewT H (cutV xs lo hi) Q
theorem sl_tupF : SlR X (rSlF X.K) := by
  intro pins s σ H x v vl vu lo hi sl Q I rx hs pl pu h
  obtain ⟨a, xs, rfl, hx, q1, q2⟩ := h
  cases rx
  obtain ⟨its, r, ht, hz⟩ := I.tuple hx
  have hlen : its.toArray.size = xs.length := by rw [List.size_toArray]; exact r.length.symm
  refine ⟨"tuple", _, PyProof.Rows.slot_tuple_getitem.lookup, ht.typeIs, ?_⟩
  by_cases hw : HT.sIx xs.length 0 lo = 0 ∧ HT.sIx xs.length xs.length hi = xs.length
  · refine getItem_tuple_whole ht hs pl pu (by rw [hlen]; exact hw) ⟨.ref a, H, I, rfl, q1 ?_⟩
    unfold cutV
    rw [hw.1, hw.2, List.drop_zero, Nat.sub_zero, List.take_length]
  · refine HT.getItem_tuple_cut ht hs pl pu (by rw [hlen]; exact hw) ?_ (by rw [hlen]; exact hz)
    rw [hlen]
    exact ⟨.ref _, _, tnew I ((r.drop (HT.sIx xs.length 0 lo)).take (HT.sIx xs.length xs.length hi - HT.sIx xs.length 0 lo)) (Nat.le_trans (cutV_length xs lo hi) hz), rfl, q2.at I.fresh _⟩
end
end PL
set_option Elab.async false
set_option linter.all false
set_option maxRecDepth 100000
/-! PL2: states, results, judgements. -/
namespace PL
open PySem PySem.Spec L2

/-! ### results -/
inductive Rs (α : Type) where
  | bad
  | ok (a : α)
  | ex (c : Str)
def Rs.bind {α β : Type} (r : Rs α) (f : α → Rs β) : Rs β := match r with
  | .bad => .bad
  | .ok a => f a
  | .ex c => .ex c
theorem Rs.ok_bind {α β : Type} (a : α) (f : α → Rs β) : (Rs.ok a).bind f = f a := rfl
theorem Rs.ex_bind {α β : Type} (c : Str) (f : α → Rs β) : (Rs.ex c : Rs α).bind f = .ex c := rfl
theorem Rs.bad_bind {α β : Type} (f : α → Rs β) : (Rs.bad : Rs α).bind f = .bad := rfl
def RsOK {α : Type} (r : Rs α) (P : α → Prop) (X : Str → Prop) : Prop := match r with
  | .bad => False
  | .ok a => P a
  | .ex c => X c
theorem RsOK.bind {α β : Type} {r : Rs α} {f : α → Rs β} {P : β → Prop} {X : Str → Prop} (h : RsOK (r.bind f) P X) : RsOK r (fun a => RsOK (f a) P X) X := by
  cases r with
  | bad => exact h
  | ok a => exact h
  | ex c => exact h
theorem RsOK.imp {α : Type} {r : Rs α} {P P' : α → Prop} {X X' : Str → Prop} (h : RsOK r P X) (hp : ∀ a, P a → P' a) (hx : ∀ c, X c → X' c) : RsOK r P' X' := by
  cases r with
  | bad => exact h
  | ok a => exact hp _ h
  | ex c => exact hx _ h

abbrev En := List (Option T)
def En.get (ρ : En) (i : Nat) : Option T := match ρ with
  | [] => none
  | x :: r => match i with
    | 0 => x
    | i + 1 => En.get r i
theorem En.get_eq : ∀ (ρ : En) (i : Nat) (t : T), ρ.get i = some t ↔ ρ[i]? = some (some t)
  | [], i, t => by simp [En.get]
  | x :: r, 0, t => by simp [En.get]
  | x :: r, i + 1, t => by
    have := En.get_eq r i t
    simp [En.get, this]
def rsO {α : Type} : Option α → Rs α
  | none => .bad
  | some a => .ok a

/-! ### growth -/
structure Grow (S H S' H' : Hp) : Prop where
  h : Same H H'
  s : Same S S'
  i : Same S' H'
  f : ∀ a, (∃ o, H a = some o) → S a = none → S' a = none
theorem Grow.refl {S H : Hp} (i : Same S H) : Grow S H S H := ⟨.refl _, .refl _, i, fun _ _ e => e⟩
theorem Grow.trans {S H S1 H1 S2 H2 : Hp} (a : Grow S H S1 H1) (b : Grow S1 H1 S2 H2) : Grow S H S2 H2 :=
  ⟨a.h.trans b.h, a.s.trans b.s, b.i, fun c ⟨o, e⟩ n => b.f c ⟨o, a.h _ _ e⟩ (a.f c ⟨o, e⟩ n)⟩
theorem same_upd {H : Hp} {p : Addr} {o : HO} (h : H p = none) : Same H (upd H p o) := fun b x e => by
  rw [upd_ne (ne_of_none e h)]
  exact e
/-- a new own thing -/
theorem Grow.own {S H : Hp} {p : Addr} {o : HO} (i : Same S H) (n : H p = none) : Grow S H S (upd H p o) :=
  ⟨same_upd n, .refl _, i.trans (same_upd n), fun _ _ e => e⟩
/-- a new shared thing -/
theorem Grow.shared {S H : Hp} {p : Addr} {o : HO} (i : Same S H) (n : H p = none) : Grow S H (upd S p o) (upd H p o) := by
  have nS : S p = none := i.free n
  refine ⟨same_upd n, same_upd nS, fun b x e => ?_, fun a ⟨x, e⟩ z => ?_⟩
  · by_cases hb : b = p
    · subst hb; rw [upd_same] at e ⊢; exact e
    · rw [upd_ne hb] at e ⊢; exact i _ _ e
  · rw [upd_ne (ne_of_none e n)]; exact z
/-- own things are shared -/
def shr (S H : Hp) (fp : List Addr) : Hp := fun a => if a ∈ fp then H a else S a
theorem shr_in {S H : Hp} {fp : List Addr} {a : Addr} (h : a ∈ fp) : shr S H fp a = H a := if_pos h
theorem shr_out {S H : Hp} {fp : List Addr} {a : Addr} (h : a ∉ fp) : shr S H fp a = S a := if_neg h
theorem shr_same {S H : Hp} {fp : List Addr} (i : Same S H) : Same S (shr S H fp) := fun a o e => by
  by_cases h : a ∈ fp
  · rw [shr_in h]; exact i _ _ e
  · rw [shr_out h]; exact e
theorem shr_sub {S H : Hp} {fp : List Addr} (i : Same S H) : Same (shr S H fp) H := fun a o e => by
  by_cases h : a ∈ fp
  · rw [shr_in h] at e; exact e
  · rw [shr_out h] at e; exact i _ _ e
theorem Grow.shr {S H S' H' : Hp} {fp : List Addr} (g : Grow S H S' H') (f : ∀ a ∈ fp, H a = none) : Grow S H (shr S' H' fp) H' :=
  ⟨g.h, g.s.trans (shr_same g.i), shr_sub g.i, fun a ⟨o, e⟩ n => by
    have : a ∉ fp := fun z => by rw [f a z] at e; cases e
    rw [shr_out this]; exact g.f a ⟨o, e⟩ n⟩

/-! ### states -/
structure Ent where
  S : Hp
  H : Hp
structure StInv (K : PySem.W.Frag) (E : Ent) (S : Hp) (φ : Nat → List Addr) (ρ : En) (σ : St) (H : Hp) : Prop where
  gr : Grow E.S E.H S H
  len : ρ.length = σ.length
  slot : ∀ (i : Nat) t, ρ[i]? = some (some t) → ∃ v, σ[i]? = some (some v) ∧ RepT K S H t v (φ i)
  nd : ∀ i, (φ i).Nodup
  dj : ∀ i j a, a ∈ φ i → a ∈ φ j → i = j
  fr : ∀ i a, a ∈ φ i → S a = none ∧ E.H a = none ∧ ∃ o, H a = some o
theorem StInv.grow {K : PySem.W.Frag} {E : Ent} {S S' : Hp} {φ : Nat → List Addr} {ρ : En} {σ : St} {H H' : Hp} (I : StInv K E S φ ρ σ H) (g : Grow S H S' H') : StInv K E S' φ ρ σ H' :=
  ⟨I.gr.trans g, I.len, fun i t e => by
    obtain ⟨v, e1, r⟩ := I.slot i t e
    exact ⟨v, e1, r.grow g.s g.h⟩, I.nd, I.dj, fun i a ha => by
    obtain ⟨h1, h2, o, h3⟩ := I.fr i a ha
    exact ⟨g.f a ⟨o, h3⟩ h1, h2, o, g.h _ _ h3⟩⟩

/-- an exception's wish -/
def XOK (mg : Str → Option Value) (W : WX) (c : Str) (σ : St) (H : Hp) : Prop := ∀ C, mg c = some (.ref C) → W (.ref C) none σ H
/-- an own or shared result, new -/
def Ret (K : PySem.W.Frag) (S H : Hp) (t : T) (Q : VK) : Prop :=
  ∀ v S' H' fp, Grow S H S' H' → RepT K S' H' t v fp → fp.Nodup → (∀ a ∈ fp, S' a = none ∧ H a = none) → Q v H'
theorem Ret.later {K : PySem.W.Frag} {S H S1 H1 : Hp} {t : T} {Q : VK} (r : Ret K S H t Q) (g : Grow S H S1 H1) : Ret K S1 H1 t Q :=
  fun v S' H' fp g' q n f => r v S' H' fp (g.trans g') q n fun a ha => ⟨(f a ha).1, g.h.free (f a ha).2⟩
/-- a result that may hold moved slots' things -/
def RetM (K : PySem.W.Frag) (S H : Hp) (φ : Nat → List Addr) (mv : List Nat) (t : T) (Q : VK) : Prop :=
  ∀ v S' H' fp, Grow S H S' H' → RepT K S' H' t v fp → fp.Nodup → (∀ a ∈ fp, S' a = none ∧ (H a = none ∨ ∃ i ∈ mv, a ∈ φ i)) → Q v H'
theorem RetM.ret {K : PySem.W.Frag} {S H : Hp} {φ : Nat → List Addr} {mv : List Nat} {t : T} {Q : VK} (r : RetM K S H φ mv t Q) : Ret K S H t Q :=
  fun v S' H' fp g' q n f => r v S' H' fp g' q n fun a ha => ⟨(f a ha).1, .inl (f a ha).2⟩
/-- a view -/
def RetV (K : PySem.W.Frag) (S H : Hp) (t : T) (Q : VK) : Prop :=
  ∀ v S' H' fp, Grow S H S' H' → RepT K S' H' t v fp → Q v H'

def SemE (K : PySem.W.Frag) (mg : Str → Option Value) (W : WX) (te : TE) (ev : En → Rs T) (mv : List Nat) : Prop :=
  ∀ E S φ ρ σ H Q, StInv K E S φ ρ σ H → RsOK (ev ρ) (fun t => RetM K S H φ mv t Q) (fun c => ∀ S' H', Grow S H S' H' → XOK mg W c σ H') → te σ H Q
def SemV (K : PySem.W.Frag) (mg : Str → Option Value) (W : WX) (te : TE) (ev : En → Rs T) : Prop :=
  ∀ E S φ ρ σ H Q, StInv K E S φ ρ σ H → RsOK (ev ρ) (fun t => RetV K S H t Q) (fun c => ∀ S' H', Grow S H S' H' → XOK mg W c σ H') → te σ H Q
/-- an expression's value, owned -/
structure DE (X : Cx) (W : WX) (e : Expr) (te : TE) (ev : En → Rs T) (mv : List Nat) : Prop where
  pe : PE X e te
  sm : SemE X.K X.mg W te ev mv
/-- an expression's value, looked at -/
structure DV (X : Cx) (W : WX) (e : Expr) (te : TE) (ev : En → Rs T) : Prop where
  pe : PE X e te
  sm : SemV X.K X.mg W te ev
def SemB (K : PySem.W.Frag) (mg : Str → Option Value) (W : WX) (tt : TT) (ev : En → Rs Bool) : Prop :=
  ∀ E S φ ρ σ H Q, StInv K E S φ ρ σ H → RsOK (ev ρ) (fun b => ∀ S' H', Grow S H S' H' → Q b H') (fun c => ∀ S' H', Grow S H S' H' → XOK mg W c σ H') → tt σ H Q
/-- a test -/
structure DT (X : Cx) (W : WX) (e : Expr) (tt : TT) (ev : En → Rs Bool) : Prop where
  pe : PT X e tt
  sm : SemB X.K X.mg W tt ev
structure DW (X : Cx) (W : WX) (e : Expr) (tt : TT) (ev : En → Rs Bool) : Prop where
  pe : PW X e tt
  sm : SemB X.K X.mg W tt ev

/-! ### from one to the other -/
def evSh (ev : En → Rs T) : En → Rs T := fun ρ => (ev ρ).bind fun t => if t.noScr then .ok (.sh t.er) else .bad
def evEsc (ev : En → Rs T) : En → Rs T := fun ρ => (ev ρ).bind fun t => match t with
  | .sh d => .ok (.sh d)
  | .scr ns => .ok (.scr ns)
  | _ => .bad
section
variable {X : Cx} {W : WX} {e : Expr} {te : TE} {ev : En → Rs T}
theorem dv_of (h : DE X W e te ev []) : DV X W e te (evSh ev) := by
  refine ⟨h.pe, fun E S φ ρ σ H Q I r => h.sm E S φ ρ σ H Q I (r.bind.imp (fun t ht v S' H' fp g q n f => ?_) fun _ x => x)⟩
  by_cases hn : t.noScr = true
  · rw [if_pos hn] at ht
    refine ht v (shr S' H' fp) H' [] (g.shr fun a ha => ?_) ?_
    · rcases (f a ha).2 with z | ⟨i, hi, _⟩
      · exact z
      · cases hi
    · simp only [RepT, true_and]
      exact RepT.share (shr_same g.i) t v fp hn (fun a ha o e => by rw [shr_in ha]; exact e) q
  · rw [if_neg hn] at ht
    exact False.elim ht
theorem de_esc (h : DV X W e te ev) : DE X W e te (evEsc ev) [] := by
  refine ⟨h.pe, fun E S φ ρ σ H Q I r => h.sm E S φ ρ σ H Q I (r.bind.imp (fun t ht v S' H' fp g q => ?_) fun _ x => x)⟩
  cases t with
  | sh d =>
    have q' := q
    simp only [RepT] at q'
    obtain ⟨e, q'⟩ := q'
    subst e
    exact ht v S' H' [] g q .nil fun a ha => by cases ha
  | scr ns =>
    have q' := q
    simp only [RepT] at q'
    obtain ⟨e, q'⟩ := q'
    subst e
    exact ht v S' H' [] g q .nil fun a ha => by cases ha
  | ol _ => exact False.elim ht
  | od _ => exact False.elim ht
  | ot _ => exact False.elim ht
  | tu _ => exact False.elim ht
end

/-! ### names, constants -/
def evVar (i : Nat) : En → Rs T := fun ρ => rsO (ρ.get i)
def evC (d : D) : En → Rs T := fun _ => .ok (.sh d)
section
variable {X : Cx} {W : WX}
theorem dv_var (i : Nat) {x : Str} {pos : Pos} (hN : X.N[i]? = some x := by rfl) (hv : Vis X.env.scope x := by first | exact Or.inl rfl | exact Or.inr (Or.inl rfl) | exact Or.inr (Or.inr rfl)) (hd : (x == ("__debug__" : Str)) = false := by decide)
    (hcd : (x == ("__classdict__" : Str)) = false := by decide) : DV X W (.Name x pos) (tVar i) (evVar i) := by
  refine ⟨pe_var hN hv hd hcd, fun E S φ ρ σ H Q I r => ?_⟩
  unfold evVar rsO at r
  cases e : ρ.get i with
  | none => rw [e] at r; exact False.elim r
  | some t =>
    rw [e] at r
    obtain ⟨v, e1, q⟩ := I.slot i t ((En.get_eq _ _ _).mp e)
    exact ⟨v, e1, r v S H _ (.refl I.gr.i) q⟩
theorem de_mov (i : Nat) {x : Str} {pos : Pos} (hN : X.N[i]? = some x := by rfl) (hv : Vis X.env.scope x := by first | exact Or.inl rfl | exact Or.inr (Or.inl rfl) | exact Or.inr (Or.inr rfl)) (hd : (x == ("__debug__" : Str)) = false := by decide)
    (hcd : (x == ("__classdict__" : Str)) = false := by decide) : DE X W (.Name x pos) (tVar i) (evVar i) [i] := by
  refine ⟨pe_var hN hv hd hcd, fun E S φ ρ σ H Q I r => ?_⟩
  unfold evVar rsO at r
  cases e : ρ.get i with
  | none => rw [e] at r; exact False.elim r
  | some t =>
    rw [e] at r
    obtain ⟨v, e1, q⟩ := I.slot i t ((En.get_eq _ _ _).mp e)
    exact ⟨v, e1, r v S H _ (.refl I.gr.i) q (I.nd i) fun a ha => ⟨(I.fr i a ha).1, .inr ⟨i, by simp, ha⟩⟩⟩
theorem sem_c {te : TE} {d : D} {v : V} (h : ∀ S, RepD S d v) (ht : ∀ σ H Q, Q v H → te σ H Q) : SemE X.K X.mg W te (evC d) [] := fun E S φ ρ σ H Q I r =>
  ht _ _ _ (r v S H [] (.refl I.gr.i) (by simp only [RepT, true_and]; exact h S) .nil fun a ha => by cases ha)
theorem de_int {i j pos} : DE X W (.Constant (.int i) j pos) (tC (.int i)) (evC (.int i)) [] := ⟨pe_int, sem_c (fun _ => by simp only [RepD]) fun _ _ _ h => h⟩
theorem de_bl {i j pos} : DE X W (.Constant (.bool i) j pos) (tC (.bl i)) (evC (.bool i)) [] := ⟨pe_bl, sem_c (fun _ => by simp only [RepD]) fun _ _ _ h => h⟩
theorem de_non {j pos} : DE X W (.Constant .none j pos) (tC .non) (evC .none) [] := ⟨pe_non, sem_c (fun _ => by simp only [RepD]) fun _ _ _ h => h⟩
theorem de_str {i j pos} : DE X W (.Constant (.str i) j pos) (tC (.str i)) (evC (.str i)) [] := ⟨pe_str, sem_c (fun _ => by simp only [RepD]) fun _ _ _ h => h⟩
end

/-! ### operators by values -/
theorem RsOK.rsO {α : Type} {o : Option α} {P : α → Prop} {X : Str → Prop} (h : RsOK (rsO o) P X) : ∃ a, o = some a ∧ P a := by
  cases o with
  | none => exact False.elim h
  | some a => exact ⟨a, rfl, h⟩
def SemOp (K : PySem.W.Frag) (r : R2) (f : T → T → Option T) : Prop :=
  ∀ S H x y vx vy fx fy Q t, Same S H → RepT K S H x vx fx → RepT K S H y vy fy → f x y = some t → Ret K S H t Q → r vx vy H Q
def evBin (f : T → T → Option T) (ea eb : En → Rs T) : En → Rs T := fun ρ => (ea ρ).bind fun x => (eb ρ).bind fun y => rsO (f x y)
section
variable {X : Cx} {W : WX} {a b : Expr} {ta tb : TE} {ea eb : En → Rs T} {pos : Pos} {r : R2} {f : T → T → Option T}
theorem sem_bin {K : PySem.W.Frag} {mg : Str → Option Value} (hs : SemOp K r f) (ha : SemV K mg W ta ea) (hb : SemV K mg W tb eb) : SemE K mg W (tOp r ta tb) (evBin f ea eb) [] := by
  intro E S φ ρ σ H Q I h
  refine ha E S φ ρ σ H _ I (h.bind.imp (fun x hx vx S1 H1 fx g1 qx => ?_) fun _ z => z)
  refine hb E S1 φ ρ σ H1 _ (I.grow g1) (hx.bind.imp (fun y hy vy S2 H2 fy g2 qy => ?_) fun _ z S' H' g => z S' H' (g1.trans g))
  have g := g1.trans g2
  obtain ⟨t, e, ht⟩ := hy.rsO
  exact hs S2 H2 x y vx vy fx fy Q t g2.i (qx.grow g2.s g2.h) qy e (ht.ret.later g)
theorem de_op {op : Operator} (ho : OpR X (binaryOp op) r) (hs : SemOp X.K r f) (ha : DV X W a ta ea) (hb : DV X W b tb eb) : DE X W (.BinOp a op b pos) (tOp r ta tb) (evBin f ea eb) [] :=
  ⟨pe_op ho ha.pe hb.pe, sem_bin hs ha.sm hb.sm⟩
theorem de_cmp {op : CmpOp} (ho : OpR X (compareOp op) r) (hs : SemOp X.K r f) (ha : DV X W a ta ea) (hb : DV X W b tb eb) (hm : behindInMarks op b = false) : DE X W (.Compare a [op] [b] pos) (tOp r ta tb) (evBin f ea eb) [] :=
  ⟨pe_cmpR ho ha.pe hb.pe hm, sem_bin hs ha.sm hb.sm⟩
end
end PL
set_option Elab.async false
set_option linter.all false
set_option maxRecDepth 100000
/-! PL3: tests, displays, calls. -/
namespace PL
open PySem PySem.Spec L2

/-! ### tests -/
def T.asB : T → Option Bool
  | .sh (.bool b) => some b
  | _ => none
def evB (ev : En → Rs T) : En → Rs Bool := fun ρ => (ev ρ).bind fun t => rsO t.asB
theorem asB_rep {K : PySem.W.Frag} {S H : Hp} {t : T} {v : V} {fp : List Addr} {b : Bool} (q : RepT K S H t v fp) (e : t.asB = some b) : v = .bl b := by
  unfold T.asB at e
  split at e
  · cases e
    simp only [RepT, RepD] at q
    exact q.2
  · cases e
section
variable {X : Cx} {W : WX} {a b e : Expr} {te ta tb : TE} {ev ea eb : En → Rs T} {pos : Pos} {r r' : R2} {f f' : T → T → Option T} {tA tB' : TT} {eA eB : En → Rs Bool}
theorem sem_b {K : PySem.W.Frag} {mg : Str → Option Value} (h : SemV K mg W te ev) : SemB K mg W (fun σ H Q => te σ H fun x H1 => ∃ c, x = .bl c ∧ Q c H1) (evB ev) := by
  intro E S φ ρ σ H Q I q
  refine h E S φ ρ σ H _ I (q.bind.imp (fun t ht v S' H' fp g q => ?_) fun _ x => x)
  obtain ⟨b, e, ht⟩ := ht.rsO
  exact ⟨b, asB_rep q e, ht S' H' g⟩
theorem dt_val (h : DV X W e te ev) (he : ∀ whole, isTrue e X.env whole = (do let v ← whole; standAt e.pos; holding [v] (truthy v)) := by intro _; rfl) : DT X W e (tB te) (evB ev) :=
  ⟨pt_val h.pe he, sem_b h.sm⟩
theorem sem_v {K : PySem.W.Frag} {mg : Str → Option Value} {te : TE} {ev : En → Rs T} (h : SemE K mg W te ev []) : SemV K mg W te (evSh ev) := by
  intro E S φ ρ σ H Q I r
  refine h E S φ ρ σ H Q I (r.bind.imp (fun t ht v S' H' fp g q n f => ?_) fun _ x => x)
  by_cases hn : t.noScr = true
  · rw [if_pos hn] at ht
    refine ht v (shr S' H' fp) H' [] (g.shr fun a ha => ?_) ?_
    · rcases (f a ha).2 with z | ⟨i, hi, _⟩
      · exact z
      · cases hi
    · simp only [RepT, true_and]
      exact RepT.share (shr_same g.i) t v fp hn (fun a ha o e => by rw [shr_in ha]; exact e) q
  · rw [if_neg hn] at ht
    exact False.elim ht
/-- an owned value that is a bool, as a test -/
def evEB (ev : En → Rs T) : En → Rs Bool := fun ρ => (ev ρ).bind fun t => rsO t.asB
theorem sem_eb {K : PySem.W.Frag} {mg : Str → Option Value} (h : SemE K mg W te ev []) : SemB K mg W (fun σ H Q => te σ H fun x H1 => ∃ c, x = .bl c ∧ Q c H1) (evEB ev) := by
  intro E S φ ρ σ H Q I q
  refine h E S φ ρ σ H _ I (q.bind.imp (fun t ht v S' H' fp g q _ _ => ?_) fun _ x => x)
  obtain ⟨b, e, ht⟩ := ht.rsO
  exact ⟨b, asB_rep q e, ht S' H' g⟩
theorem dt_eval (h : DE X W e te ev []) (he : ∀ whole, isTrue e X.env whole = (do let v ← whole; standAt e.pos; holding [v] (truthy v)) := by intro _; rfl) : DT X W e (tB te) (evEB ev) :=
  ⟨pt_val h.pe he, sem_eb h.sm⟩
theorem dt_cmp {op : CmpOp} (ho : OpR X (compareOp op) r) (hs : SemOp X.K r f) (ha : DV X W a ta ea) (hb : DV X W b tb eb) (hm : behindInMarks op b = false) : DT X W (.Compare a [op] [b] pos) (tTest (tOp r ta tb)) (evEB (evBin f ea eb)) :=
  ⟨pt_cmpR ho ha.pe hb.pe hm, sem_eb (sem_bin hs ha.sm hb.sm)⟩
/-- a op1 b op2 c -/
def evChain (f f' : T → T → Option T) (ea eb ec : En → Rs T) : En → Rs T := fun ρ => (ea ρ).bind fun x => (eb ρ).bind fun y => (rsO ((f x y).bind T.asB)).bind fun k =>
  bif k then (ec ρ).bind fun z => rsO (f' y z) else .ok (.sh (.bool false))
theorem sem_chain {K : PySem.W.Frag} {mg : Str → Option Value} {c : Expr} {tc : TE} {ec : En → Rs T} (hs : SemOp K r f) (hs' : SemOp K r' f') (ha : SemV K mg W ta ea) (hb : SemV K mg W tb eb) (hc : SemV K mg W tc ec) : SemE K mg W (tChain r r' ta tb tc) (evChain f f' ea eb ec) [] := by
  intro E S φ ρ σ H Q I h
  refine ha E S φ ρ σ H _ I (h.bind.imp (fun x hx vx S1 H1 fx g1 qx => ?_) fun _ z => z)
  refine hb E S1 φ ρ σ H1 _ (I.grow g1) (hx.bind.imp (fun y hy vy S2 H2 fy g2 qy => ?_) fun _ z S' H' g => z S' H' (g1.trans g))
  have g := g1.trans g2
  obtain ⟨k, e, ht⟩ := hy.bind.rsO
  cases ef : f x y with
  | none => rw [ef] at e; cases e
  | some t =>
    rw [ef] at e
    have e : t.asB = some k := e
    refine hs S2 H2 x y vx vy fx fy _ t g2.i (qx.grow g2.s g2.h) qy ef (fun v S3 H3 fp g3 q3 n3 f3 => ⟨k, asB_rep q3 e, ?_⟩)
    cases k with
    | false =>
      rw [if_neg (by decide)]
      exact ht (.bl false) S3 H3 [] (g.trans g3) (by simp only [RepT, RepD, true_and]) .nil fun a ha => by cases ha
    | true =>
      rw [if_pos rfl]
      refine hc E S3 φ ρ σ H3 _ (I.grow (g.trans g3)) (RsOK.imp (RsOK.bind ht) (fun z hz vz S4 H4 fz g4 qz => ?_) fun _ z S' H' g' => z S' H' ((g.trans g3).trans g'))
      obtain ⟨t', e', ht'⟩ := hz.rsO
      have g24 := g3.trans g4
      exact hs' S4 H4 y z vy vz fy fz Q t' g4.i (qy.grow g24.s g24.h) qz e' (ht'.ret.later (g.trans g24))
theorem de_chain {c : Expr} {tc : TE} {ec : En → Rs T} {op op' : CmpOp} (ho : OpR X (compareOp op) r) (hs : SemOp X.K r f) (ho' : OpR X (compareOp op') r') (hs' : SemOp X.K r' f') (ha : DV X W a ta ea) (hb : DV X W b tb eb) (hc : DV X W c tc ec)
    (hm : lastMarks [op, op'] [b, c] = false := by with_unfolding_all rfl) : DE X W (.Compare a [op, op'] [b, c] pos) (tChain r r' ta tb tc) (evChain f f' ea eb ec) [] :=
  ⟨pe_chain ho ho' ha.pe hb.pe hc.pe hm, sem_chain (c := c) hs hs' ha.sm hb.sm hc.sm⟩
theorem dt_chain {c : Expr} {tc : TE} {ec : En → Rs T} {op op' : CmpOp} (ho : OpR X (compareOp op) r) (hs : SemOp X.K r f) (ho' : OpR X (compareOp op') r') (hs' : SemOp X.K r' f') (ha : DV X W a ta ea) (hb : DV X W b tb eb) (hc : DV X W c tc ec)
    (hm : lastMarks [op, op'] [b, c] = false := by with_unfolding_all rfl) : DT X W (.Compare a [op, op'] [b, c] pos) (tTest (tChain r r' ta tb tc)) (evEB (evChain f f' ea eb ec)) :=
  ⟨pt_chain ho ho' ha.pe hb.pe hc.pe hm, sem_eb (sem_chain (c := c) hs hs' ha.sm hb.sm hc.sm)⟩

/-! and, or, not -/
def evAnd (ea eb : En → Rs Bool) : En → Rs Bool := fun ρ => (ea ρ).bind fun x => bif x then eb ρ else .ok false
def evOr (ea eb : En → Rs Bool) : En → Rs Bool := fun ρ => (ea ρ).bind fun x => bif x then .ok true else eb ρ
def evNot (ea : En → Rs Bool) : En → Rs Bool := fun ρ => (ea ρ).bind fun x => .ok (!x)
theorem sem_and {K : PySem.W.Frag} {mg : Str → Option Value} (ha : SemB K mg W tA eA) (hb : SemB K mg W tB' eB) : SemB K mg W (tAnd tA tB') (evAnd eA eB) := by
  intro E S φ ρ σ H Q I h
  refine ha E S φ ρ σ H _ I (h.bind.imp (fun x hx S1 H1 g1 => ?_) fun _ z => z)
  cases x with
  | false => rw [if_neg (by decide)]; exact hx S1 H1 g1
  | true =>
    rw [if_pos rfl]
    exact hb E S1 φ ρ σ H1 _ (I.grow g1) (RsOK.imp hx (fun b hb S2 H2 g2 => hb S2 H2 (g1.trans g2)) fun _ z S' H' g => z S' H' (g1.trans g))
theorem sem_or {K : PySem.W.Frag} {mg : Str → Option Value} (ha : SemB K mg W tA eA) (hb : SemB K mg W tB' eB) : SemB K mg W (tOr tA tB') (evOr eA eB) := by
  intro E S φ ρ σ H Q I h
  refine ha E S φ ρ σ H _ I (h.bind.imp (fun x hx S1 H1 g1 => ?_) fun _ z => z)
  cases x with
  | true => rw [if_pos rfl]; exact hx S1 H1 g1
  | false =>
    rw [if_neg (by decide)]
    exact hb E S1 φ ρ σ H1 _ (I.grow g1) (RsOK.imp hx (fun b hb S2 H2 g2 => hb S2 H2 (g1.trans g2)) fun _ z S' H' g => z S' H' (g1.trans g))
theorem sem_not {K : PySem.W.Frag} {mg : Str → Option Value} (ha : SemB K mg W tA eA) : SemB K mg W (tNot tA) (evNot eA) := by
  intro E S φ ρ σ H Q I h
  exact ha E S φ ρ σ H _ I (h.bind.imp (fun x hx S1 H1 g1 => hx S1 H1 g1) fun _ z => z)
variable {rest : List Expr}
theorem dw_and1 (ha : DT X W a tA eA) : DW X W (.BoolOp .And [a] pos) tA eA := ⟨pw_and1 ha.pe, ha.sm⟩
theorem dw_or1 (ha : DT X W a tA eA) : DW X W (.BoolOp .Or [a] pos) tA eA := ⟨pw_or1 ha.pe, ha.sm⟩
theorem dw_and (ha : DT X W a tA eA) (hb : DW X W (.BoolOp .And (b :: rest) pos) tB' eB) : DW X W (.BoolOp .And (a :: b :: rest) pos) (tAnd tA tB') (evAnd eA eB) := ⟨pw_and ha.pe hb.pe, sem_and ha.sm hb.sm⟩
theorem dw_or (ha : DT X W a tA eA) (hb : DW X W (.BoolOp .Or (b :: rest) pos) tB' eB) : DW X W (.BoolOp .Or (a :: b :: rest) pos) (tOr tA tB') (evOr eA eB) := ⟨pw_or ha.pe hb.pe, sem_or ha.sm hb.sm⟩
theorem dt_bool (h : DW X W e tA eA) : DT X W e tA eA := ⟨h.pe.pt, h.sm⟩
theorem dt_not (ha : DT X W a tA eA) : DT X W (.UnaryOp .Not a pos) (tNot tA) (evNot eA) := ⟨pt_not ha.pe, sem_not ha.sm⟩
/-- as values: bools -/
def evAndV (ea eb : En → Rs T) : En → Rs T := fun ρ => (ea ρ).bind fun x => (rsO x.asB).bind fun k => bif k then eb ρ else .ok (.sh (.bool false))
def evOrV (ea eb : En → Rs T) : En → Rs T := fun ρ => (ea ρ).bind fun x => (rsO x.asB).bind fun k => bif k then .ok (.sh (.bool true)) else eb ρ
def evNotV (ea : En → Rs T) : En → Rs T := fun ρ => (ea ρ).bind fun x => (rsO x.asB).bind fun k => .ok (.sh (.bool (!k)))
theorem sem_orV {K : PySem.W.Frag} {mg : Str → Option Value} (ha : SemV K mg W ta ea) (hb : SemE K mg W tb eb []) : SemE K mg W (tOrV ta tb) (evOrV ea eb) [] := by
  intro E S φ ρ σ H Q I h
  refine ha E S φ ρ σ H _ I (h.bind.imp (fun x hx v S1 H1 fx g1 qx => ?_) fun _ z => z)
  obtain ⟨k, e, ht⟩ := hx.bind.rsO
  refine ⟨k, asB_rep qx e, ?_⟩
  cases k with
  | true => rw [if_pos rfl]; exact ht (.bl true) S1 H1 [] g1 (by simp only [RepT, RepD, true_and]) .nil fun a ha => by cases ha
  | false =>
    rw [if_neg (by decide)]
    refine hb E S1 φ ρ σ H1 _ (I.grow g1) (RsOK.imp ht (fun t q v S2 H2 fp g2 q2 n2 f2 => ?_) fun _ z S' H' g => z S' H' (g1.trans g))
    refine q v S2 H2 fp (g1.trans g2) q2 n2 fun a ha => ⟨(f2 a ha).1, ?_⟩
    rcases (f2 a ha).2 with z | ⟨i, hi, _⟩
    · exact .inl (g1.h.free z)
    · cases hi
theorem sem_andV {K : PySem.W.Frag} {mg : Str → Option Value} (ha : SemV K mg W ta ea) (hb : SemE K mg W tb eb []) : SemE K mg W (tAndV ta tb) (evAndV ea eb) [] := by
  intro E S φ ρ σ H Q I h
  refine ha E S φ ρ σ H _ I (h.bind.imp (fun x hx v S1 H1 fx g1 qx => ?_) fun _ z => z)
  obtain ⟨k, e, ht⟩ := hx.bind.rsO
  refine ⟨k, asB_rep qx e, ?_⟩
  cases k with
  | false => rw [if_neg (by decide)]; exact ht (.bl false) S1 H1 [] g1 (by simp only [RepT, RepD, true_and]) .nil fun a ha => by cases ha
  | true =>
    rw [if_pos rfl]
    refine hb E S1 φ ρ σ H1 _ (I.grow g1) (RsOK.imp ht (fun t q v S2 H2 fp g2 q2 n2 f2 => ?_) fun _ z S' H' g => z S' H' (g1.trans g))
    refine q v S2 H2 fp (g1.trans g2) q2 n2 fun a ha => ⟨(f2 a ha).1, ?_⟩
    rcases (f2 a ha).2 with z | ⟨i, hi, _⟩
    · exact .inl (g1.h.free z)
    · cases hi
theorem sem_notV {K : PySem.W.Frag} {mg : Str → Option Value} (ha : SemV K mg W ta ea) : SemE K mg W (tNotV ta) (evNotV ea) [] := by
  intro E S φ ρ σ H Q I h
  refine ha E S φ ρ σ H _ I (h.bind.imp (fun x hx v S1 H1 fx g1 qx => ?_) fun _ z => z)
  obtain ⟨k, e, ht⟩ := hx.bind.rsO
  exact ⟨k, asB_rep qx e, ht (.bl (!k)) S1 H1 [] g1 (by simp only [RepT, RepD, true_and]) .nil fun a ha => by cases ha⟩
theorem de_one {op} (h : DE X W a ta ea []) : DE X W (.BoolOp op [a] pos) ta ea [] := ⟨pe_one h.pe, h.sm⟩
theorem de_and (ha : DV X W a ta ea) (hb : DE X W (.BoolOp .And (b :: rest) pos) tb eb []) : DE X W (.BoolOp .And (a :: b :: rest) pos) (tAndV ta tb) (evAndV ea eb) [] := ⟨pe_and ha.pe hb.pe, sem_andV ha.sm hb.sm⟩
theorem de_or (ha : DV X W a ta ea) (hb : DE X W (.BoolOp .Or (b :: rest) pos) tb eb []) : DE X W (.BoolOp .Or (a :: b :: rest) pos) (tOrV ta tb) (evOrV ea eb) [] := ⟨pe_or ha.pe hb.pe, sem_orV ha.sm hb.sm⟩
theorem de_not (ha : DV X W a ta ea) : DE X W (.UnaryOp .Not a pos) (tNotV ta) (evNotV ea) [] := ⟨pe_not ha.pe, sem_notV ha.sm⟩
/-- a if c else b -/
def evIf (ec : En → Rs Bool) (ea eb : En → Rs T) : En → Rs T := fun ρ => (ec ρ).bind fun k => bif k then ea ρ else eb ρ
theorem RetM.later0 {K : PySem.W.Frag} {S H S1 H1 : Hp} {φ : Nat → List Addr} {mv : List Nat} {t : T} {Q : VK} (r : RetM K S H φ mv t Q) (g : Grow S H S1 H1) : RetM K S1 H1 φ mv t Q :=
  fun v S' H' fp g' q n f => r v S' H' fp (g.trans g') q n fun a ha => ⟨(f a ha).1, (f a ha).2.imp (fun z => g.h.free z) id⟩
theorem RetM.wider {K : PySem.W.Frag} {S H : Hp} {φ : Nat → List Addr} {mv mv' : List Nat} {t : T} {Q : VK} (r : RetM K S H φ mv' t Q) (h : ∀ i ∈ mv, i ∈ mv') : RetM K S H φ mv t Q :=
  fun v S' H' fp g' q n f => r v S' H' fp g' q n fun a ha => ⟨(f a ha).1, (f a ha).2.imp id fun ⟨i, hi, hm⟩ => ⟨i, h i hi, hm⟩⟩
theorem de_if {c : Expr} {tc : TT} {ec : En → Rs Bool} {m1 m2 : List Nat} (hc : DT X W c tc ec) (ha : DE X W a ta ea m1) (hb : DE X W b tb eb m2) : DE X W (.IfExp c a b pos) (tIf tc ta tb) (evIf ec ea eb) (m1 ++ m2) := by
  refine ⟨pe_ifExp hc.pe ha.pe hb.pe, fun E S φ ρ σ H Q I h => ?_⟩
  refine hc.sm E S φ ρ σ H _ I (h.bind.imp (fun x hx S1 H1 g1 => ?_) fun _ z => z)
  cases x with
  | true =>
    rw [if_pos rfl]
    exact ha.sm E S1 φ ρ σ H1 _ (I.grow g1) (RsOK.imp hx (fun t q => (RetM.wider q (by intro i hi; exact List.mem_append_left _ hi)).later0 g1) fun _ z S' H' g => z S' H' (g1.trans g))
  | false =>
    rw [if_neg (by decide)]
    exact hb.sm E S1 φ ρ σ H1 _ (I.grow g1) (RsOK.imp hx (fun t q => (RetM.wider q (by intro i hi; exact List.mem_append_right _ hi)).later0 g1) fun _ z S' H' g => z S' H' (g1.trans g))
end

/-! ### arguments -/
def Views (K : PySem.W.Frag) (S H : Hp) : List T → List V → Prop
  | [], vs => vs = []
  | t :: ts, vs => ∃ v r fp, vs = v :: r ∧ RepT K S H t v fp ∧ Views K S H ts r
theorem Views.grow {K : PySem.W.Frag} {S S' H H' : Hp} (h : Same S S') (h2 : Same H H') : ∀ {ts : List T} {vs : List V}, Views K S H ts vs → Views K S' H' ts vs
  | [], _, q => q
  | t :: ts, _, ⟨v, r, fp, e, q, qs⟩ => ⟨v, r, fp, e, q.grow h h2, Views.grow h h2 qs⟩
def SemAs (K : PySem.W.Frag) (mg : Str → Option Value) (W : WX) (ta : TA) (ev : En → Rs (List T)) : Prop :=
  ∀ E S φ ρ σ H Q, StInv K E S φ ρ σ H → RsOK (ev ρ) (fun ts => ∀ vs S' H', Grow S H S' H' → Views K S' H' ts vs → Q vs H') (fun c => ∀ S' H', Grow S H S' H' → XOK mg W c σ H') → ta σ H Q
structure DAs (X : Cx) (W : WX) (es : List Expr) (ta : TA) (ev : En → Rs (List T)) : Prop where
  pe : PA X es ta
  sm : SemAs X.K X.mg W ta ev
def evNil : En → Rs (List T) := fun _ => .ok []
def evCons (ea : En → Rs T) (er : En → Rs (List T)) : En → Rs (List T) := fun ρ => (ea ρ).bind fun t => (er ρ).bind fun ts => .ok (t :: ts)
/-- owned items -/
def SemAe (K : PySem.W.Frag) (mg : Str → Option Value) (W : WX) (ta : TA) (ev : En → Rs (List T)) (mv : List Nat) : Prop :=
  ∀ E S φ ρ σ H Q, StInv K E S φ ρ σ H → RsOK (ev ρ) (fun ts => ∀ vs S' H' fp, Grow S H S' H' → RepTs K S' H' ts vs fp → fp.Nodup → (∀ a ∈ fp, S' a = none ∧ (H a = none ∨ ∃ i ∈ mv, a ∈ φ i)) → Q vs H')
    (fun c => ∀ S' H', Grow S H S' H' → XOK mg W c σ H') → ta σ H Q
structure DAe (X : Cx) (W : WX) (es : List Expr) (ta : TA) (ev : En → Rs (List T)) (mv : List Nat) : Prop where
  pe : PA X es ta
  sm : SemAe X.K X.mg W ta ev mv
section
variable {X : Cx} {W : WX} {a b e : Expr} {es : List Expr} {te ta : TE} {tr : TA} {ev ea : En → Rs T} {er : En → Rs (List T)} {pos : Pos}
theorem das_nil : DAs X W [] tNil evNil := ⟨pa_nil, fun E S φ ρ σ H Q I r => r [] S H (.refl I.gr.i) rfl⟩
theorem das_cons (ha : DV X W a ta ea) (hr : DAs X W es tr er) (hs : starEach (a :: es) X.env = (false, eval a X.env) :: starEach es X.env := by rfl) : DAs X W (a :: es) (tCons ta tr) (evCons ea er) := by
  refine ⟨pa_cons ha.pe hr.pe hs, fun E S φ ρ σ H Q I h => ?_⟩
  refine ha.sm E S φ ρ σ H _ I (h.bind.imp (fun x hx vx S1 H1 fx g1 qx => ?_) fun _ z => z)
  refine hr.sm E S1 φ ρ σ H1 _ (I.grow g1) (hx.bind.imp (fun ts hts vs S2 H2 g2 q2 => ?_) fun _ z S' H' g => z S' H' (g1.trans g))
  exact hts (vx :: vs) S2 H2 (g1.trans g2) ⟨vx, vs, fx, rfl, qx.grow g2.s g2.h, q2⟩
theorem dae_nil : DAe X W [] tNil evNil [] := ⟨pa_nil, fun E S φ ρ σ H Q I r => r [] S H [] (.refl I.gr.i) (by simp only [RepTs, and_self]) .nil fun a ha => by cases ha⟩
theorem dae_cons {m1 m2 : List Nat} (ha : DE X W a ta ea m1) (hr : DAe X W es tr er m2) (hd : ∀ i ∈ m1, i ∉ m2 := by decide) (hs : starEach (a :: es) X.env = (false, eval a X.env) :: starEach es X.env := by rfl) : DAe X W (a :: es) (tCons ta tr) (evCons ea er) (m1 ++ m2) := by
  refine ⟨pa_cons ha.pe hr.pe hs, fun E S φ ρ σ H Q I h => ?_⟩
  refine ha.sm E S φ ρ σ H _ I (h.bind.imp (fun x hx vx S1 H1 fx g1 qx nx fx1 => ?_) fun _ z => z)
  refine hr.sm E S1 φ ρ σ H1 _ (I.grow g1) (hx.bind.imp (fun ts hts vs S2 H2 fp g2 q2 n2 f2 => ?_) fun _ z S' H' g => z S' H' (g1.trans g))
  refine hts (vx :: vs) S2 H2 (fx ++ fp) (g1.trans g2) (by simp only [RepTs]; exact ⟨vx, vs, fx, fp, rfl, rfl, qx.grow g2.s g2.h, q2⟩) ?_ fun c hc => ?_
  · refine List.nodup_append.mpr ⟨nx, n2, fun c hc d hd' => ?_⟩
    rintro rfl
    obtain ⟨o, ho⟩ := RepT.there _ _ _ qx c hc
    rcases (f2 c hd').2 with z | ⟨j, hj, hm⟩
    · rw [z] at ho; cases ho
    · obtain ⟨o2, ho2⟩ := (I.fr j c hm).2.2
      rcases (fx1 c hc).2 with z | ⟨i, hi, hm'⟩
      · rw [z] at ho2; cases ho2
      · exact hd i hi (I.dj i j c hm' hm ▸ hj)
  · rcases List.mem_append.mp hc with hc | hc
    · obtain ⟨z1, z2⟩ := fx1 c hc
      refine ⟨g2.f c (RepT.there _ _ _ qx c hc) z1, z2.imp id fun ⟨i, hi, hm⟩ => ⟨i, List.mem_append_left _ hi, hm⟩⟩
    · obtain ⟨z1, z2⟩ := f2 c hc
      exact ⟨z1, z2.imp (fun z => g1.h.free z) fun ⟨i, hi, hm⟩ => ⟨i, List.mem_append_right _ hi, hm⟩⟩

/-! ### displays -/
def T.shs : List T → Option (List D)
  | [] => some []
  | .sh d :: ts => (T.shs ts).map (d :: ·)
  | _ :: _ => none
def mkL (ts : List T) : T := match T.shs ts with
  | some ds => .ol ds
  | none => .ot ts
def mkT (ts : List T) : T := match T.shs ts with
  | some ds => .sh (.tuple ds)
  | none => .tu ts
theorem shs_rep {K : PySem.W.Frag} {S H : Hp} : ∀ {ts : List T} {ds : List D} {vs : List V} {fp : List Addr}, T.shs ts = some ds → RepTs K S H ts vs fp → fp = [] ∧ RepDs S ds vs
  | [], ds, vs, fp, e, q => by
    simp only [T.shs, Option.some.injEq] at e
    subst e
    simp only [RepTs] at q
    exact ⟨q.2, by rw [q.1]; exact .nil⟩
  | t :: ts, ds, vs, fp, e, q => by
    cases t with
    | sh d =>
      cases e2 : T.shs ts with
      | none => simp [T.shs, e2] at e
      | some r =>
        simp [T.shs, e2] at e
        subst e
        simp only [RepTs] at q
        obtain ⟨v, w, f, g, rfl, rfl, q1, q2⟩ := q
        simp only [RepT] at q1
        obtain ⟨h1, h2⟩ := shs_rep e2 q2
        exact ⟨by rw [q1.1, h1]; rfl, .cons q1.2 h2⟩
    | _ => simp [T.shs] at e
def evLst (er : En → Rs (List T)) : En → Rs T := fun ρ => (er ρ).bind fun ts => if ts.length ≤ 4096 then .ok (mkL ts) else .bad
def evTup (er : En → Rs (List T)) : En → Rs T := fun ρ => (er ρ).bind fun ts => if ts.length ≤ 4096 then .ok (mkT ts) else .bad
theorem RepTs.length {K : PySem.W.Frag} {S H : Hp} : ∀ {ts : List T} {vs : List V} {fp : List Addr}, RepTs K S H ts vs fp → vs.length = ts.length
  | [], vs, fp, q => by simp only [RepTs] at q; rw [q.1]; rfl
  | t :: ts, vs, fp, q => by
    simp only [RepTs] at q
    obtain ⟨v, r, f, g, rfl, _, _, q2⟩ := q
    simp only [List.length_cons, RepTs.length q2]
theorem size4096 {n : Nat} (h : n ≤ 4096) : n ≤ sizeLine := Nat.le_trans h (by decide)
theorem de_list {mv : List Nat} (h : DAe X W es tr er mv) : DE X W (.List es pos) (tLst tr) (evLst er) mv := by
  refine ⟨pe_lst h.pe, fun E S φ ρ σ H Q I r => ?_⟩
  refine h.sm E S φ ρ σ H _ I (r.bind.imp (fun ts hts vs S1 H1 fp g1 q1 n1 f1 => ?_) fun _ z => z)
  by_cases hl : ts.length ≤ 4096
  · rw [if_pos hl] at hts
    refine ⟨by rw [q1.length]; exact size4096 hl, fun p hp => ?_⟩
    have np : p ∉ fp := fun z => by
      obtain ⟨o, e⟩ := RepTs.there _ _ _ q1 p z
      rw [hp] at e; cases e
    have nS : S1 p = none := g1.i.free hp
    unfold mkL at hts
    cases es : T.shs ts with
    | some ds =>
      rw [es] at hts
      obtain ⟨e1, q2⟩ := shs_rep es q1
      refine hts _ S1 _ [p] (g1.trans (.own g1.i hp)) ?_ (by simp) fun a ha => ?_
      · simp only [RepT]
        exact ⟨p, vs, rfl, rfl, upd_same, q2⟩
      · have e : a = p := by simpa using ha
        subst e
        exact ⟨nS, .inl (g1.h.free hp)⟩
    | none =>
      rw [es] at hts
      refine hts _ S1 _ (p :: fp) (g1.trans (.own g1.i hp)) ?_ (List.nodup_cons.mpr ⟨np, n1⟩) fun a ha => ?_
      · simp only [RepT]
        exact ⟨p, vs, fp, rfl, rfl, upd_same, q1.grow (.refl _) (same_upd hp)⟩
      · rcases List.mem_cons.mp ha with e | ha
        · subst e
          exact ⟨nS, .inl (g1.h.free hp)⟩
        · exact f1 a ha
  · rw [if_neg hl] at hts
    exact False.elim hts
theorem de_tuple {mv : List Nat} {k : Nat} (h : DAe X W es tr er mv) : DE X W (.Tuple es k pos) (tTupF tr) (evTup er) mv := by
  refine ⟨pe_tupF h.pe, fun E S φ ρ σ H Q I r => ?_⟩
  refine h.sm E S φ ρ σ H _ I (r.bind.imp (fun ts hts vs S1 H1 fp g1 q1 n1 f1 => ?_) fun _ z => z)
  by_cases hl : ts.length ≤ 4096
  · rw [if_pos hl] at hts
    refine ⟨by rw [q1.length]; exact size4096 hl, fun p ob hp hdn => ?_⟩
    have np : p ∉ fp := fun z => by
      obtain ⟨o, e⟩ := RepTs.there _ _ _ q1 p z
      rw [hp] at e; cases e
    have nS : S1 p = none := g1.i.free hp
    unfold mkT at hts
    cases es : T.shs ts with
    | some ds =>
      rw [es] at hts
      obtain ⟨e1, q2⟩ := shs_rep es q1
      refine hts _ (upd S1 p (.frz ob (.tup vs))) _ [] (g1.trans (.shared g1.i hp)) ?_ .nil fun a ha => by cases ha
      simp only [RepT, RepD, true_and]
      exact ⟨p, vs, rfl, ⟨ob, upd_same, hdn⟩, RepDs.mono (same_upd nS) _ _ q2⟩
    | none =>
      rw [es] at hts
      refine hts _ S1 _ (p :: fp) (g1.trans (.own g1.i hp)) ?_ (List.nodup_cons.mpr ⟨np, n1⟩) fun a ha => ?_
      · simp only [RepT]
        exact ⟨p, vs, fp, rfl, rfl, ⟨ob, upd_same, hdn⟩, q1.grow (.refl _) (same_upd hp)⟩
      · rcases List.mem_cons.mp ha with e | ha
        · subst e
          exact ⟨nS, .inl (g1.h.free hp)⟩
        · exact f1 a ha
  · rw [if_neg hl] at hts
    exact False.elim hts
end

/-! ### promises and calls -/
def RepArg (K : PySem.W.Frag) (S : Hp) : T → V → Prop
  | .sh d, v => RepD S d v
  | .scr ns, v => ∃ a, v = .ref a ∧ SqL K S a (ns.map V.int)
  | _, _ => False
def RepArgs (K : PySem.W.Frag) (S : Hp) : List T → List V → Prop
  | [], vs => vs = []
  | t :: ts, vs => ∃ v r, vs = v :: r ∧ RepArg K S t v ∧ RepArgs K S ts r
/-- what a def of n parameters promises: the value of Fn -/
def spD (K : PySem.W.Frag) (mg : Str → Option Value) (n : Nat) (Fn : List T → Rs T) : Sp := fun vs H Q E =>
  ∃ (S : Hp) (ts : List T), Same S H ∧ ts.length = n ∧ RepArgs K S ts vs ∧ RsOK (Fn ts) (fun t => Ret K S H t Q) (fun c => ∀ S' H', Grow S H S' H' → ∀ C, mg c = some (.ref C) → E (.ref C) none H')
theorem RepArgs.length {K : PySem.W.Frag} {S : Hp} : ∀ {ts : List T} {vs : List V}, RepArgs K S ts vs → vs.length = ts.length
  | [], vs, q => by have q : vs = [] := q; rw [q]; rfl
  | t :: ts, vs, ⟨v, r, e, _, q⟩ => by rw [e, List.length_cons, List.length_cons, RepArgs.length q]
theorem spD.len {K : PySem.W.Frag} {mg : Str → Option Value} {n : Nat} {Fn : List T → Rs T} {vs : List V} {H : Hp} {Q : VK} {E : XK} (h : spD K mg n Fn vs H Q E) : vs.length = n := by
  obtain ⟨S, ts, _, e, q, _⟩ := h
  rw [q.length, e]
def flatD : D → Bool
  | .none => true
  | .bool _ => true
  | .int _ => true
  | .str _ => true
  | _ => false
mutual
def T.solid : T → Bool
  | .sh d => flatD d
  | .scr _ => false
  | .ol ds => ds.all flatD
  | .od kvs => kvs.all fun p => flatD p.2
  | .ot ts => T.solids ts
  | .tu ts => T.solids ts
def T.solids : List T → Bool
  | [] => true
  | t :: ts => t.solid && T.solids ts
end
theorem flat_rep {S S' : Hp} {d : D} {v : V} (f : flatD d = true) (q : RepD S d v) : RepD S' d v := by
  cases d <;> simp only [flatD, Bool.false_eq_true] at f <;> (simp only [RepD] at q ⊢; exact q)
theorem flats_rep {S S' : Hp} : ∀ {ds : List D} {vs : List V}, ds.all flatD = true → RepDs S ds vs → RepDs S' ds vs
  | [], _, _, q => by simp only [RepDs] at q ⊢; exact q
  | d :: ds, _, f, q => by
    rw [List.all_cons, Bool.and_eq_true] at f
    simp only [RepDs] at q
    obtain ⟨v, r, rfl, q1, q2⟩ := q
    exact .cons (flat_rep f.1 q1) (flats_rep f.2 q2)
theorem flatp_rep {S S' : Hp} : ∀ {ds : List (D × D)} {vs : List V}, (ds.all fun p => flatD p.2) = true → RepPs S ds vs → RepPs S' ds vs
  | [], _, _, q => by simp only [RepPs] at q ⊢; exact q
  | (k, d) :: ds, _, f, q => by
    rw [List.all_cons, Bool.and_eq_true] at f
    simp only [RepPs, RepP] at q ⊢
    obtain ⟨v, r, rfl, q1, q2⟩ := q
    exact ⟨v, r, rfl, flat_rep f.1 q1, flatp_rep f.2 q2⟩
mutual
theorem solid_rep {K : PySem.W.Frag} {S S' H : Hp} : ∀ (t : T) (v : V) (fp : List Addr), t.solid = true → RepT K S H t v fp → RepT K S' H t v fp
  | .sh d, v, fp, f, q => by
    simp only [T.solid] at f
    simp only [RepT] at q ⊢
    exact ⟨q.1, flat_rep f q.2⟩
  | .scr ns, v, fp, f, q => by simp [T.solid] at f
  | .ol ds, v, fp, f, q => by
    simp only [T.solid] at f
    simp only [RepT] at q ⊢
    obtain ⟨a, vs, e1, e2, ha, r⟩ := q
    exact ⟨a, vs, e1, e2, ha, flats_rep f r⟩
  | .od ds, v, fp, f, q => by
    simp only [T.solid] at f
    simp only [RepT] at q ⊢
    obtain ⟨a, vs, e1, e2, ha, r⟩ := q
    exact ⟨a, vs, e1, e2, ha, flatp_rep f r⟩
  | .ot ts, v, fp, f, q => by
    simp only [T.solid] at f
    simp only [RepT] at q ⊢
    obtain ⟨a, vs, fp', e1, e2, ha, r⟩ := q
    exact ⟨a, vs, fp', e1, e2, ha, solids_rep ts vs fp' f r⟩
  | .tu ts, v, fp, f, q => by
    simp only [T.solid] at f
    simp only [RepT] at q ⊢
    obtain ⟨a, vs, fp', e1, e2, ha, r⟩ := q
    exact ⟨a, vs, fp', e1, e2, ha, solids_rep ts vs fp' f r⟩
theorem solids_rep {K : PySem.W.Frag} {S S' H : Hp} : ∀ (ts : List T) (vs : List V) (fp : List Addr), T.solids ts = true → RepTs K S H ts vs fp → RepTs K S' H ts vs fp
  | [], vs, fp, f, q => by simp only [RepTs] at q ⊢; exact q
  | t :: ts, vs, fp, f, q => by
    simp only [T.solids, Bool.and_eq_true] at f
    simp only [RepTs] at q ⊢
    obtain ⟨v, r, f1, f2, e1, e2, q1, q2⟩ := q
    exact ⟨v, r, f1, f2, e1, e2, solid_rep t v f1 f.1 q1, solids_rep ts r f2 f.2 q2⟩
end
def T.isSh : T → Bool
  | .sh _ => true
  | .scr _ => true
  | _ => false
def T.toArg : T → T
  | .scr ns => .scr ns
  | t => .sh t.er
def T.argOk : T → Bool
  | .scr _ => true
  | t => t.noScr
/-- a call: shared arguments, any answer; own ones that are looked at, an answer that holds nothing of them -/
def callF (n : Nat) (Fn : List T → Rs T) (ts : List T) : Rs T :=
  if ts.length = n then
    (if ts.all T.isSh = true then Fn ts else if ts.all T.argOk = true then (Fn (ts.map T.toArg)).bind fun t => if t.solid then .ok t else .bad else .bad)
  else .bad
theorem views_sh {K : PySem.W.Frag} {S H : Hp} : ∀ {ts : List T} {vs : List V}, ts.all T.isSh = true → Views K S H ts vs → RepArgs K S ts vs
  | [], _, _, q => q
  | t :: ts, _, f, ⟨v, r, fp, e, q, qs⟩ => by
    rw [List.all_cons, Bool.and_eq_true] at f
    refine ⟨v, r, e, ?_, views_sh f.2 qs⟩
    cases t with
    | sh d => simp only [RepT] at q; exact q.2
    | scr ns => simp only [RepT] at q; exact q.2
    | _ => simp [T.isSh] at f
theorem views_arg {K : PySem.W.Frag} {S H : Hp} (i : Same S H) : ∀ {ts : List T} {vs : List V}, ts.all T.argOk = true → Views K S H ts vs → RepArgs K H (ts.map T.toArg) vs
  | [], _, _, q => q
  | t :: ts, _, f, ⟨v, r, fp, e, q, qs⟩ => by
    rw [List.all_cons, Bool.and_eq_true] at f
    refine ⟨v, r, e, ?_, views_arg i f.2 qs⟩
    have gen : t.noScr = true → RepD H t.er v := fun n => RepT.share i t v fp n (fun _ _ _ e => e) q
    cases t with
    | scr ns =>
      simp only [RepT] at q
      obtain ⟨_, a, e, z⟩ := q
      exact ⟨a, e, i.seq z⟩
    | sh d => exact gen f.1
    | ol d => exact gen f.1
    | od d => exact gen f.1
    | ot d => exact gen f.1
    | tu d => exact gen f.1
theorem call_sem {K : PySem.W.Frag} {mg : Str → Option Value} {S H : Hp} {n : Nat} {Fn : List T → Rs T} {ts : List T} {vs : List V} {Q : VK} {E : XK} (i : Same S H) (q : Views K S H ts vs)
    (h : RsOK (callF n Fn ts) (fun t => Ret K S H t Q) (fun c => ∀ S' H', Grow S H S' H' → ∀ C, mg c = some (.ref C) → E (.ref C) none H')) : spD K mg n Fn vs H Q E := by
  unfold callF at h
  by_cases hn : ts.length = n
  · rw [if_pos hn] at h
    by_cases hs : ts.all T.isSh = true
    · rw [if_pos hs] at h
      exact ⟨S, ts, i, hn, views_sh hs q, h⟩
    · rw [if_neg hs] at h
      by_cases ha : ts.all T.argOk = true
      · rw [if_pos ha] at h
        refine ⟨H, ts.map T.toArg, .refl _, by rw [List.length_map]; exact hn, views_arg i ha q, h.bind.imp (fun t ht => ?_) fun c hc S' H' g C e => ?_⟩
        · by_cases hso : t.solid = true
          · rw [if_pos hso] at ht
            intro v S' H' fp g r n f
            refine ht v S H' fp ⟨g.h, .refl _, i.trans g.h, fun _ _ z => z⟩ (solid_rep t v fp hso r) n fun a ha => ⟨i.free (f a ha).2, (f a ha).2⟩
          · rw [if_neg hso] at ht
            exact False.elim ht
        · exact hc S H' ⟨g.h, .refl _, i.trans g.h, fun _ _ z => z⟩ C e
      · rw [if_neg ha] at h
        exact False.elim h
  · rw [if_neg hn] at h
    exact False.elim h
def evCall (n : Nat) (Fn : List T → Rs T) (er : En → Rs (List T)) : En → Rs T := fun ρ => (er ρ).bind fun ts => callF n Fn ts
section
variable {X : Cx} {W : WX} {e : Expr} {es : List Expr} {tr : TA} {er : En → Rs (List T)} {pos p : Pos} {k n : Nat} {f : Addr} {fd : FuncData} {ps : List Str} {Fn : List T → Rs T} {x : Str}
theorem de_call (F : FnOk X.prog X.w X.K X.mg X.base (L2.CX X.prog X.w) k f fd ps (spD X.K X.mg n Fn)) (hr : Room k X.A) (tk : Takes X W) (hg : Gl X x) (hm : X.mg x = some (.ref f)) (hk : PySem.W.keepIn X.K (.ref f) = true) (hb : Binds X.K fd ps [])
    (ha : DAs X W (e :: es) tr er) (hdb : (x == ("__debug__" : Str)) = false := by decide) (he : starEach (e :: es) X.env = (false, eval e X.env) :: starEach es X.env := by rfl) (hpl : (backTo pos (starEach es X.env)).any (·.1) = false := by rfl) :
    DE X W (.Call (.Name x p) (e :: es) [] pos) (tCallS (spD X.K X.mg n Fn) (WE W) tr) (evCall n Fn er) [] := by
  refine ⟨pe_callS F hr hg hm hk hb (passAt tk) ha.pe hdb he hpl, fun E S φ ρ σ H Q I h => ?_⟩
  refine ha.sm E S φ ρ σ H _ I (h.bind.imp (fun ts hts vs S1 H1 g1 q1 => ?_) fun _ z => z)
  exact call_sem g1.i q1 (RsOK.imp hts (fun t ht => ht.ret.later g1) fun c hc S' H' g C e => hc S' H' (g1.trans g) C e)
end
end PL
set_option Elab.async false
set_option linter.all false
set_option maxRecDepth 100000
/-! PL4: statements. -/
namespace PL
open PySem PySem.Spec L2

inductive Out where
  | bad
  | nx (ρ : En)
  | bk (ρ : En)
  | ct (ρ : En)
  | rt (t : T)
  | ex (c : Str) (ρ : En)

structure Step (S : Hp) (σ : St) (as : List Nat) (S' : Hp) (σ' : St) : Prop where
  s : Same S S'
  k : ∀ i, i ∉ as → σ'[i]? = σ[i]?
theorem Step.refl {S : Hp} {σ : St} {as : List Nat} : Step S σ as S σ := ⟨.refl _, fun _ _ => rfl⟩
theorem Step.trans {S S1 S2 : Hp} {σ σ1 σ2 : St} {as bs cs : List Nat} (a : Step S σ as S1 σ1) (b : Step S1 σ1 bs S2 σ2) (h1 : ∀ i ∈ as, i ∈ cs) (h2 : ∀ i ∈ bs, i ∈ cs) : Step S σ cs S2 σ2 :=
  ⟨a.s.trans b.s, fun i hi => (b.k i fun z => hi (h2 i z)).trans (a.k i fun z => hi (h1 i z))⟩
theorem Step.wide {S S1 : Hp} {σ σ1 : St} {as cs : List Nat} (a : Step S σ as S1 σ1) (h : ∀ i ∈ as, i ∈ cs) : Step S σ cs S1 σ1 := ⟨a.s, fun i hi => a.k i fun z => hi (h i z)⟩

def OutOK (K : PySem.W.Frag) (mg : Str → Option Value) (W : WX) (E : Ent) (S : Hp) (σ : St) (as : List Nat) (o : Out) (D : Ends) : Prop :=
  match o with
  | .bad => False
  | .nx ρ' => ∀ S' φ' σ' H', Step S σ as S' σ' → StInv K E S' φ' ρ' σ' H' → D.nx σ' H'
  | .bk ρ' => ∀ S' φ' σ' H', Step S σ as S' σ' → StInv K E S' φ' ρ' σ' H' → D.bk σ' H'
  | .ct ρ' => ∀ S' φ' σ' H', Step S σ as S' σ' → StInv K E S' φ' ρ' σ' H' → D.ct σ' H'
  | .rt t => Ret K E.S E.H t D.rt
  | .ex c ρ' => ∀ S' φ' σ' H', Step S σ as S' σ' → StInv K E S' φ' ρ' σ' H' → XOK mg W c σ' H'
def SemS (K : PySem.W.Frag) (mg : Str → Option Value) (W : WX) (ts : TS) (se : En → Out) (as : List Nat) : Prop :=
  ∀ E S φ ρ σ H D, StInv K E S φ ρ σ H → OutOK K mg W E S σ as (se ρ) D → ts D σ H
structure DS (X : Cx) (W : WX) (st : Stmt) (ts : TS) (se : En → Out) (as : List Nat) : Prop where
  ps : PS X st ts
  sm : SemS X.K X.mg W ts se as
structure DSs (X : Cx) (W : WX) (st : List Stmt) (ts : TS) (se : En → Out) (as : List Nat) : Prop where
  ps : PSs X st ts
  sm : SemS X.K X.mg W ts se as

def rsK {α : Type} (r : Rs α) (ρ : En) (k : α → Out) : Out := match r with
  | .bad => .bad
  | .ok a => k a
  | .ex c => .ex c ρ
section
variable {K : PySem.W.Frag} {mg : Str → Option Value} {W : WX} {E : Ent} {S : Hp} {φ : Nat → List Addr} {ρ : En} {σ : St} {H : Hp} {as : List Nat} {D : Ends}
theorem OutOK.rsK {α : Type} {r : Rs α} {k : α → Out} (I : StInv K E S φ ρ σ H) (h : OutOK K mg W E S σ as (rsK r ρ k) D) : RsOK r (fun a => OutOK K mg W E S σ as (k a) D) (fun c => ∀ S' H', Grow S H S' H' → XOK mg W c σ H') := by
  cases r with
  | bad => exact h
  | ok a => exact h
  | ex c => exact fun S' H' g => h S' φ σ H' ⟨g.s, fun _ _ => rfl⟩ (I.grow g)
/-- from a later state -/
theorem OutOK.later {o : Out} {S' : Hp} {σ' : St} {as bs : List Nat} (h : OutOK K mg W E S σ bs o D) (s : Step S σ as S' σ') (cs : List Nat) (h1 : ∀ i ∈ as, i ∈ bs) (h2 : ∀ i ∈ cs, i ∈ bs) : OutOK K mg W E S' σ' cs o D := by
  cases o with
  | bad => exact h
  | nx ρ => exact fun S2 φ2 σ2 H2 s2 I => h S2 φ2 σ2 H2 (s.trans s2 h1 h2) I
  | bk ρ => exact fun S2 φ2 σ2 H2 s2 I => h S2 φ2 σ2 H2 (s.trans s2 h1 h2) I
  | ct ρ => exact fun S2 φ2 σ2 H2 s2 I => h S2 φ2 σ2 H2 (s.trans s2 h1 h2) I
  | rt t => exact h
  | ex c ρ => exact fun S2 φ2 σ2 H2 s2 I => h S2 φ2 σ2 H2 (s.trans s2 h1 h2) I
end

/-! ### blocks -/
def seqO (o : Out) (k : En → Out) : Out := match o with
  | .nx ρ => k ρ
  | o => o
def sNil : En → Out := .nx
def sSeq (a b : En → Out) : En → Out := fun ρ => seqO (a ρ) b
section
variable {X : Cx} {W : WX} {st : Stmt} {rest : List Stmt} {t u : TS} {a b : En → Out} {as bs : List Nat} {pos : Pos}
theorem dss_nil : DSs X W [] tNext sNil [] := ⟨pss_nil, fun E S φ ρ σ H D I h => h S φ σ H .refl I⟩
theorem dss_one (h : DS X W st t a as) : DSs X W [st] t a as := ⟨pss_one h.ps, h.sm⟩
theorem dss_cons (h1 : DS X W st t a as) (h2 : DSs X W rest u b bs) : DSs X W (st :: rest) (tSeq t u) (sSeq a b) (as ++ bs) := by
  refine ⟨pss_cons h1.ps h2.ps, fun E S φ ρ σ H D I h => ?_⟩
  refine h1.sm E S φ ρ σ H _ I ?_
  have h : OutOK X.K X.mg W E S σ (as ++ bs) (seqO (a ρ) b) D := h
  cases e : a ρ with
  | bad => rw [e] at h; exact h
  | nx ρ' =>
    rw [e] at h
    exact fun S' φ' σ' H' s I' => h2.sm E S' φ' ρ' σ' H' D I' (OutOK.later h s bs (fun i hi => List.mem_append_left _ hi) fun i hi => List.mem_append_right _ hi)
  | bk ρ' => rw [e] at h; exact fun S' φ' σ' H' s I' => h S' φ' σ' H' (s.wide fun i hi => List.mem_append_left _ hi) I'
  | ct ρ' => rw [e] at h; exact fun S' φ' σ' H' s I' => h S' φ' σ' H' (s.wide fun i hi => List.mem_append_left _ hi) I'
  | rt t => rw [e] at h; exact h
  | ex c ρ' => rw [e] at h; exact fun S' φ' σ' H' s I' => h S' φ' σ' H' (s.wide fun i hi => List.mem_append_left _ hi) I'
/-- an own slot is shared ahead of a statement -/
def En.share (ρ : En) (i : Nat) : En := match ρ with
  | [] => []
  | x :: r => match i with
    | 0 => (match x with
      | some (.scr ns) => some (.scr ns)
      | some t => some (if t.noScr then .sh t.er else t)
      | none => none) :: r
    | i + 1 => x :: En.share r i
def sShare (i : Nat) (a : En → Out) : En → Out := fun ρ => a (ρ.share i)
def shT : T → T
  | .scr ns => .scr ns
  | t => if t.noScr then .sh t.er else t
theorem share_len : ∀ (ρ : En) (i : Nat), (ρ.share i).length = ρ.length
  | [], i => rfl
  | x :: r, 0 => rfl
  | x :: r, i + 1 => by simp [En.share, share_len r i]
theorem share_at : ∀ (ρ : En) (i j : Nat), (ρ.share i)[j]? = if j = i then (ρ[j]?).map (fun x => x.map shT) else ρ[j]?
  | [], i, j => by simp [En.share]
  | x :: r, 0, 0 => by
    cases x with
    | none => rfl
    | some t => cases t <;> rfl
  | x :: r, 0, j + 1 => by simp [En.share]
  | x :: r, i + 1, 0 => by simp [En.share]
  | x :: r, i + 1, j + 1 => by
    have := share_at r i j
    simp [En.share, this]
theorem StInv.share {K : PySem.W.Frag} {E : Ent} {S : Hp} {φ : Nat → List Addr} {ρ : En} {σ : St} {H : Hp} (I : StInv K E S φ ρ σ H) (i : Nat) : ∃ S' φ', Same S S' ∧ StInv K E S' φ' (ρ.share i) σ H := by
  -- is there something own that may be shared
  by_cases hx : ∃ t, ρ[i]? = some (some t) ∧ t.noScr = true
  · obtain ⟨t, ht, hn⟩ := hx
    obtain ⟨v, hv, q⟩ := I.slot i t ht
    have hs : shT t = .sh t.er := by
      cases t with
      | scr ns => simp [T.noScr] at hn
      | _ => simp [shT, hn]
    refine ⟨shr S H (φ i), fun j => if j = i then [] else φ j, shr_same I.gr.i, ?_⟩
    refine ⟨⟨I.gr.h, I.gr.s.trans (shr_same I.gr.i), shr_sub I.gr.i, fun a ⟨o, e⟩ n => ?_⟩, by rw [share_len]; exact I.len, fun j t' hj => ?_, fun j => ?_, fun j k a h1 h2 => ?_, fun j a ha => ?_⟩
    · have : a ∉ φ i := fun z => by rw [(I.fr i a z).2.1] at e; cases e
      rw [shr_out this]; exact I.gr.f a ⟨o, e⟩ n
    · rw [share_at] at hj
      by_cases e : j = i
      · subst e
        rw [if_pos rfl, ht] at hj
        simp only [Option.map_some, Option.some.injEq] at hj
        subst hj
        rw [hs]
        refine ⟨v, hv, ?_⟩
        simp only [RepT, if_true, true_and]
        exact RepT.share (shr_same I.gr.i) t v (φ j) hn (fun a ha o e => by rw [shr_in ha]; exact e) q
      · rw [if_neg e] at hj
        obtain ⟨v', h1, q'⟩ := I.slot j t' hj
        refine ⟨v', h1, ?_⟩
        rw [if_neg e]
        exact RepT.frame (shr_same I.gr.i) t' v' (φ j) (fun _ _ => rfl) q'
    · show (if j = i then [] else φ j).Nodup
      by_cases e : j = i
      · rw [if_pos e]; exact .nil
      · rw [if_neg e]; exact I.nd j
    · by_cases e : j = i
      · rw [if_pos e] at h1; cases h1
      · rw [if_neg e] at h1
        by_cases e' : k = i
        · rw [if_pos e'] at h2; cases h2
        · rw [if_neg e'] at h2; exact I.dj j k a h1 h2
    · by_cases e : j = i
      · rw [if_pos e] at ha; cases ha
      · rw [if_neg e] at ha
        obtain ⟨h1, h2, h3⟩ := I.fr j a ha
        have : a ∉ φ i := fun z => e (I.dj j i a ha z)
        exact ⟨by rw [shr_out this]; exact h1, h2, h3⟩
  · refine ⟨S, φ, .refl _, ?_⟩
    have e : ρ.share i = ρ := by
      apply List.ext_getElem?
      intro j
      rw [share_at]
      by_cases e : j = i
      · subst e
        rw [if_pos rfl]
        cases h : ρ[j]? with
        | none => rfl
        | some x =>
          cases x with
          | none => rfl
          | some t =>
            have hn : ¬ t.noScr = true := fun z => hx ⟨t, h, z⟩
            cases t with
            | scr ns => rfl
            | _ => simp [shT, hn]
      · rw [if_neg e]
    rw [e]; exact I
theorem ds_share (i : Nat) (h : DS X W st t a as) : DS X W st t (sShare i a) as := by
  refine ⟨h.ps, fun E S φ ρ σ H D I q => ?_⟩
  obtain ⟨S', φ', hs, I'⟩ := I.share i
  exact h.sm E S' φ' _ σ H D I' (OutOK.later (as := as) q ⟨hs, fun _ _ => rfl⟩ as (fun _ z => z) fun _ z => z)
theorem ds_pass : DS X W (.Pass pos) tNext sNil [] := ⟨ps_pass, fun E S φ ρ σ H D I h => h S φ σ H .refl I⟩
theorem ds_doc {x j pos pos'} : DS X W (.Expr (.Constant (.str x) j pos) pos') tNext sNil [] := ⟨ps_doc, fun E S φ ρ σ H D I h => h S φ σ H .refl I⟩
def sBreak : En → Out := .bk
def sCont : En → Out := .ct
theorem ds_break : DS X W (.Break pos) tBreak sBreak [] := ⟨ps_break, fun E S φ ρ σ H D I h => h S φ σ H .refl I⟩
theorem ds_cont : DS X W (.Continue pos) tCont sCont [] := ⟨ps_continue, fun E S φ ρ σ H D I h => h S φ σ H .refl I⟩
end

/-! ### stores -/
def En.put (ρ : En) (i : Nat) (t : Option T) : En := match ρ with
  | [] => []
  | x :: r => match i with
    | 0 => t :: r
    | i + 1 => x :: En.put r i t
theorem put_eq : ∀ (ρ : En) (i : Nat) (t : Option T), ρ.put i t = List.set ρ i t
  | [], i, t => rfl
  | x :: r, 0, t => rfl
  | x :: r, i + 1, t => by simp [En.put, put_eq r i t]
def En.clr (ρ : En) : List Nat → En
  | [] => ρ
  | i :: r => En.clr (ρ.put i none) r
theorem clr_len : ∀ (mv : List Nat) (ρ : En), (ρ.clr mv).length = ρ.length
  | [], ρ => rfl
  | i :: r, ρ => by rw [En.clr, clr_len r, put_eq, List.length_set]
theorem clr_at : ∀ (mv : List Nat) (ρ : En) (j : Nat) (t : T), (ρ.clr mv)[j]? = some (some t) → ρ[j]? = some (some t) ∧ j ∉ mv
  | [], ρ, j, t, h => ⟨h, by simp⟩
  | i :: r, ρ, j, t, h => by
    obtain ⟨h1, h2⟩ := clr_at r _ j t h
    rw [put_eq] at h1
    by_cases e : i = j
    · subst e
      by_cases hl : i < ρ.length
      · rw [List.getElem?_set_self hl] at h1; cases h1
      · rw [List.getElem?_eq_none (by simpa using hl)] at h1; cases h1
    · rw [List.getElem?_set_ne e] at h1
      exact ⟨h1, by simp only [List.mem_cons, not_or]; exact ⟨fun z => e z.symm, h2⟩⟩
/-- a value is stored in slot i -/
theorem StInv.store {K : PySem.W.Frag} {E : Ent} {S S' : Hp} {φ : Nat → List Addr} {ρ : En} {σ : St} {H H' : Hp} {mv : List Nat} {t : T} {v : V} {fp : List Addr} (i : Nat) (I : StInv K E S φ ρ σ H) (g : Grow S H S' H') (q : RepT K S' H' t v fp) (n : fp.Nodup)
    (f : ∀ a ∈ fp, S' a = none ∧ (H a = none ∨ ∃ i ∈ mv, a ∈ φ i)) :
    StInv K E S' (fun j => if j = i then fp else if j ∈ mv then [] else φ j) ((ρ.clr mv).put i (some t)) (σ.set i (some v)) H' := by
  have I' := I.grow g
  refine ⟨I'.gr, by rw [put_eq, List.length_set, clr_len, List.length_set]; exact I.len, fun j t' hj => ?_, fun j => ?_, fun j k a h1 h2 => ?_, fun j a ha => ?_⟩
  · rw [put_eq] at hj
    by_cases e : i = j
    · subst e
      have hl : i < (ρ.clr mv).length := by
        by_cases hl : i < (ρ.clr mv).length
        · exact hl
        · rw [List.getElem?_eq_none (by simpa using hl)] at hj; cases hj
      rw [List.getElem?_set_self hl] at hj
      simp only [Option.some.injEq] at hj
      subst hj
      refine ⟨v, List.getElem?_set_self (by rw [← I.len, ← clr_len mv ρ]; exact hl), ?_⟩
      rw [if_pos rfl]; exact q
    · rw [List.getElem?_set_ne e] at hj
      obtain ⟨h1, h2⟩ := clr_at mv ρ j t' hj
      obtain ⟨w, h3, r⟩ := I'.slot j t' h1
      refine ⟨w, by rw [List.getElem?_set_ne e]; exact h3, ?_⟩
      rw [if_neg (fun z => e z.symm), if_neg h2]; exact r
  · show (if j = i then fp else if j ∈ mv then [] else φ j).Nodup
    split
    · exact n
    · split
      · exact .nil
      · exact I.nd j
  · have key : ∀ {j k : Nat}, a ∈ fp → (if k ∈ mv then [] else φ k) = φ k → k ∉ mv → a ∈ φ k → False := fun {j k} h1 _ hk h2 => by
      obtain ⟨o, ho⟩ := (I.fr k a h2).2.2
      rcases (f a h1).2 with z | ⟨l, hl, hm⟩
      · rw [z] at ho; cases ho
      · exact hk (I.dj l k a hm h2 ▸ hl)
    by_cases ej : j = i
    · by_cases ek : k = i
      · rw [ej, ek]
      · rw [if_pos ej] at h1
        rw [if_neg ek] at h2
        by_cases hk : k ∈ mv
        · rw [if_pos hk] at h2; cases h2
        · rw [if_neg hk] at h2
          exact (key (j := 0) h1 (if_neg hk) hk h2).elim
    · rw [if_neg ej] at h1
      by_cases hj : j ∈ mv
      · rw [if_pos hj] at h1; cases h1
      · rw [if_neg hj] at h1
        by_cases ek : k = i
        · rw [if_pos ek] at h2
          exact (key (j := 0) h2 (if_neg hj) hj h1).elim
        · rw [if_neg ek] at h2
          by_cases hk : k ∈ mv
          · rw [if_pos hk] at h2; cases h2
          · rw [if_neg hk] at h2
            exact I.dj j k a h1 h2
  · by_cases ej : j = i
    · rw [if_pos ej] at ha
      obtain ⟨h1, h2⟩ := f a ha
      refine ⟨h1, ?_, RepT.there _ _ _ q a ha⟩
      rcases h2 with z | ⟨l, _, hm⟩
      · exact I.gr.h.free z
      · exact (I.fr l a hm).2.1
    · rw [if_neg ej] at ha
      by_cases hj : j ∈ mv
      · rw [if_pos hj] at ha; cases ha
      · rw [if_neg hj] at ha
        exact I'.fr j a ha
theorem Step.set {S S' : Hp} {σ : St} {i : Nat} {v : Option V} (h : Same S S') : Step S σ [i] S' (σ.set i v) :=
  ⟨h, fun j hj => List.getElem?_set_ne (fun e => hj (by simp [e]))⟩
def sSet (i : Nat) (mv : List Nat) (ev : En → Rs T) : En → Out := fun ρ => rsK (ev ρ) ρ fun t => .nx ((ρ.clr mv).put i (some t))
section
variable {X : Cx} {W : WX} {e : Expr} {te : TE} {ev : En → Rs T} {pos pos' : Pos} {x : Str}
theorem sem_set {K : PySem.W.Frag} {mg : Str → Option Value} {mv : List Nat} (i : Nat) (h : SemE K mg W te ev mv) : SemS K mg W (tAsg te (gName i)) (sSet i mv ev) [i] := by
  intro E S φ ρ σ H D I q
  refine h E S φ ρ σ H _ I ((OutOK.rsK I q).imp (fun t ht v S' H' fp g r n f => ?_) fun _ z => z)
  exact ht S' _ _ H' (.set g.s) (I.store i g r n f)
theorem ds_set (i : Nat) {mv : List Nat} (hN : X.N.Nodup) (he : DE X W e te ev mv) (hi : X.N[i]? = some x := by rfl) (hx : Loc X.env.scope x := by first | exact Or.inl rfl | exact Or.inr rfl) (hs : swapsWith e (some (.Name x pos')) pos.line X.env = pure false := by rfl) (hf : X.fn x = true ∨ X.env.scope.names.lookup x = some .local := by first | exact .inl rfl | exact .inr rfl | assumption) :
    DS X W (.Assign [.Name x pos'] e pos) (tAsg te (gName i)) (sSet i mv ev) [i] :=
  ⟨ps_set hN hi hx he.pe hs hf, sem_set i he.sm⟩

/-! ### return, if, while -/
def sRet (ev : En → Rs T) : En → Out := fun ρ => rsK (ev ρ) ρ .rt
theorem ds_ret {mv : List Nat} (he : DE X W e te ev mv) : DS X W (.Return (some e) pos) (tRet te) (sRet ev) [] := by
  refine ⟨ps_ret he.pe, fun E S φ ρ σ H D I q => ?_⟩
  refine he.sm E S φ ρ σ H _ I ((OutOK.rsK I q).imp (fun t ht v S' H' fp g r n f => ?_) fun _ z => z)
  refine ht v S' H' fp (I.gr.trans g) r n fun a ha => ⟨(f a ha).1, ?_⟩
  rcases (f a ha).2 with z | ⟨l, _, hm⟩
  · exact I.gr.h.free z
  · exact (I.fr l a hm).2.1
def sRetN : En → Out := fun _ => .rt (.sh .none)
theorem ds_retN : DS X W (.Return none pos) tRetN sRetN [] :=
  ⟨ps_retN, fun E S φ ρ σ H D I q => q .non S H [] I.gr (by simp only [RepT, RepD, true_and]) .nil fun a ha => by cases ha⟩
def sIf (c : En → Rs Bool) (a b : En → Out) : En → Out := fun ρ => rsK (c ρ) ρ fun k => bif k then a ρ else b ρ
theorem ds_if {c : Expr} {tc : TT} {ec : En → Rs Bool} {sa sb : List Stmt} {ta tb : TS} {a b : En → Out} {as bs : List Nat} (hc : DT X W c tc ec) (ha : DSs X W sa ta a as) (hb : DSs X W sb tb b bs) :
    DS X W (.If c sa sb pos) (tIfS tc ta tb) (sIf ec a b) (as ++ bs) := by
  refine ⟨ps_if hc.pe ha.ps hb.ps, fun E S φ ρ σ H D I q => ?_⟩
  refine hc.sm E S φ ρ σ H _ I ((OutOK.rsK I q).imp (fun k hk S' H' g => ?_) fun _ z => z)
  cases k with
  | true =>
    rw [if_pos rfl]
    exact ha.sm E S' φ ρ σ H' D (I.grow g) (OutOK.later (as := []) hk ⟨g.s, fun _ _ => rfl⟩ as (fun i hi => by cases hi) fun i hi => List.mem_append_left _ hi)
  | false =>
    rw [if_neg (by decide)]
    exact hb.sm E S' φ ρ σ H' D (I.grow g) (OutOK.later (as := []) hk ⟨g.s, fun _ _ => rfl⟩ bs (fun i hi => by cases hi) fun i hi => List.mem_append_right _ hi)
def whileN (c : En → Rs Bool) (b : En → Out) : Nat → En → Out
  | 0, _ => .bad
  | n + 1, ρ => rsK (c ρ) ρ fun k => bif k then (match b ρ with
    | .nx ρ' => whileN c b n ρ'
    | .ct ρ' => whileN c b n ρ'
    | .bk ρ' => .nx ρ'
    | o => o) else .nx ρ
def fuel : Nat := 2 ^ 64
def sWhile (c : En → Rs Bool) (b : En → Out) : En → Out := whileN c b fuel
theorem ds_while {c : Expr} {tc : TT} {ec : En → Rs Bool} {sb : List Stmt} {tb : TS} {b : En → Out} {bs : List Nat} (hp : PassesOwn (model X.prog X.w) X.A X.env X.xe) (hc : DT X W c tc ec) (hb : DSs X W sb tb b bs) :
    DS X W (.While c sb [] pos) (tWhile tc tb) (sWhile ec b) bs := by
  refine ⟨ps_while hp hc.pe hb.ps, fun E S φ ρ σ H D I q => ?_⟩
  refine ⟨fun m σ' H' => ∃ S' φ' ρ', StInv X.K E S' φ' ρ' σ' H' ∧ OutOK X.K X.mg W E S' σ' bs (whileN ec b m ρ') D, ⟨fuel, S, φ, ρ, I, q⟩, ?_⟩
  rintro m σ' H' ⟨S', φ', ρ', I', q'⟩
  cases m with
  | zero => exact False.elim q'
  | succ m =>
    refine hc.sm E S' φ' ρ' σ' H' _ I' ((OutOK.rsK I' q').imp (fun k hk S2 H2 g => ?_) fun _ z => z)
    cases k with
    | false =>
      rw [if_neg (by decide)]
      exact hk S2 φ' σ' H2 ⟨g.s, fun _ _ => rfl⟩ (I'.grow g)
    | true =>
      rw [if_pos rfl]
      refine ⟨fun σ3 H3 => ∃ S3 φ3 ρ3, StInv X.K E S3 φ3 ρ3 σ3 H3 ∧ OutOK X.K X.mg W E S3 σ3 bs (whileN ec b m ρ3) D, fun σ3 H3 h3 => ⟨m, Nat.lt_succ_self m, h3⟩, ?_⟩
      refine hb.sm E S2 φ' ρ' σ' H2 _ (I'.grow g) ?_
      have hk : OutOK X.K X.mg W E S' σ' bs (match b ρ' with
        | .nx ρ' => whileN ec b m ρ'
        | .ct ρ' => whileN ec b m ρ'
        | .bk ρ' => .nx ρ'
        | o => o) D := hk
      have st : ∀ {S3 σ3}, Step S2 σ' bs S3 σ3 → Step S' σ' bs S3 σ3 := fun s => ⟨g.s.trans s.s, s.k⟩
      cases eb : b ρ' with
      | bad => rw [eb] at hk; exact hk
      | nx ρ3 => rw [eb] at hk; exact fun S3 φ3 σ3 H3 s3 I3 => ⟨S3, φ3, ρ3, I3, OutOK.later hk (st s3) bs (fun _ z => z) fun _ z => z⟩
      | ct ρ3 => rw [eb] at hk; exact fun S3 φ3 σ3 H3 s3 I3 => ⟨S3, φ3, ρ3, I3, OutOK.later hk (st s3) bs (fun _ z => z) fun _ z => z⟩
      | bk ρ3 => rw [eb] at hk; exact fun S3 φ3 σ3 H3 s3 I3 => hk S3 φ3 σ3 H3 (st s3) I3
      | rt t => rw [eb] at hk; exact hk
      | ex c ρ3 => rw [eb] at hk; exact fun S3 φ3 σ3 H3 s3 I3 => hk S3 φ3 σ3 H3 (st s3) I3
end

/-! ### what a loop walks: shared items -/
/-- what an item that a walk hands on is known to be -/
abbrev Rel := Hp → Hp → D → V → Prop
def RD : Rel := fun S _ d v => RepD S d v
/-- a tuple that the walk has made: it is taken apart at once -/
def RP (K : PySem.W.Frag) : Rel := fun S H d v => ∃ ds a vs, d = .tuple ds ∧ v = .ref a ∧ SqT K H a vs ∧ RepDs S ds vs
def ItOK (Rp : Rel) (S : Hp) (J : It) (ds : List D) : Prop :=
  ∀ S1 H1 i, Same S S1 → Same S1 H1 → (∀ d, ds[i]? = some d → J.go i H1 ∧ ∀ x H2, J.yld i H1 x H2 → ∃ S2, Grow S1 H1 S2 H2 ∧ Rp S2 H2 d x) ∧ (ds.length ≤ i → J.stop i H1)
def SemI (Rp : Rel) (K : PySem.W.Frag) (mg : Str → Option Value) (W : WX) (wi : TI) (ei : En → Rs (List D)) : Prop :=
  ∀ E S φ ρ σ H R, StInv K E S φ ρ σ H → RsOK (ei ρ) (fun ds => ∀ S' H' J, Grow S H S' H' → ItOK Rp S' J ds → R J H') (fun c => ∀ S' H', Grow S H S' H' → XOK mg W c σ H') → wi σ H R
structure DI (Rp : Rel) (X : Cx) (W : WX) (tg iter : Expr) (wi : TI) (ei : En → Rs (List D)) : Prop where
  pi : PI X tg iter wi
  sm : SemI Rp X.K X.mg W wi ei
/-- targets -/
def SemG (Rp : Rel) (K : PySem.W.Frag) (g : TG) (eg : D → En → Option En) (as : List Nat) : Prop :=
  ∀ E S φ ρ σ H d v Q ρ', StInv K E S φ ρ σ H → Rp S H d v → eg d ρ = some ρ' → (∀ φ' σ', (∀ i, i ∉ as → σ'[i]? = σ[i]?) → σ'.length = σ.length → StInv K E S φ' ρ' σ' H → Q σ' H) → g v σ H Q
structure DG (Rp : Rel) (X : Cx) (tg : Expr) (g : TG) (eg : D → En → Option En) (as : List Nat) : Prop where
  pg : PG X tg g
  sm : SemG Rp X.K g eg as
def egName (i : Nat) : D → En → Option En := fun d ρ => some (ρ.put i (some (.sh d)))
theorem StInv.putS {K : PySem.W.Frag} {E : Ent} {S : Hp} {φ : Nat → List Addr} {ρ : En} {σ : St} {H : Hp} {d : D} {v : V} (i : Nat) (I : StInv K E S φ ρ σ H) (q : RepD S d v) : ∃ φ', StInv K E S φ' (ρ.put i (some (.sh d))) (σ.set i (some v)) H :=
  ⟨_, I.store (mv := []) (fp := []) i (.refl I.gr.i) (by simp only [RepT, true_and]; exact q) .nil fun a ha => by cases ha⟩
section
variable {X : Cx} {W : WX} {pos : Pos} {x : Str} {tg : Expr}
theorem dg_name (i : Nat) (hN : X.N.Nodup) (hi : X.N[i]? = some x := by rfl) (hx : Loc X.env.scope x := by first | exact Or.inl rfl | exact Or.inr rfl) (hf : X.fn x = true ∨ X.env.scope.names.lookup x = some .local := by first | exact .inl rfl | exact .inr rfl | assumption) : DG RD X (.Name x pos) (gName i) (egName i) [i] := by
  refine ⟨pg_name hN hi hx hf, fun E S φ ρ σ H d v Q ρ' I r e h => ?_⟩
  cases e
  obtain ⟨φ', I'⟩ := I.putS i r
  exact h φ' _ (fun j hj => List.getElem?_set_ne (fun e => hj (by simp [e]))) (List.length_set ..) I'
/-- tuples -/
def SemGs (K : PySem.W.Frag) (g : TGs) (eg : List D → En → Option En) (as : List Nat) : Prop :=
  ∀ E S φ ρ σ H ds vs Q ρ', StInv K E S φ ρ σ H → RepDs S ds vs → eg ds ρ = some ρ' → (∀ φ' σ', (∀ i, i ∉ as → σ'[i]? = σ[i]?) → σ'.length = σ.length → StInv K E S φ' ρ' σ' H → Q σ' H) → g vs σ H Q
structure DGs (X : Cx) (ts : List Expr) (g : TGs) (eg : List D → En → Option En) (as : List Nat) : Prop where
  pg : PGs X ts g
  sm : SemGs X.K g eg as
def egNil : List D → En → Option En := fun ds ρ => match ds with
  | [] => some ρ
  | _ => none
def egCons (a : D → En → Option En) (b : List D → En → Option En) : List D → En → Option En := fun ds ρ => match ds with
  | [] => none
  | d :: ds => (a d ρ).bind (b ds)
def egTup (n : Nat) (a : List D → En → Option En) : D → En → Option En := fun d ρ => match d with
  | .tuple ds => if ds.length = n then a ds ρ else none
  | _ => none
theorem dgs_nil : DGs X [] gNil egNil [] := by
  refine ⟨pgs_nil, fun E S φ ρ σ H ds vs Q ρ' I r e h => ?_⟩
  cases ds with
  | nil =>
    cases e
    simp only [RepDs] at r
    exact ⟨r, h φ σ (fun _ _ => rfl) rfl I⟩
  | cons _ _ => cases e
theorem dgs_cons {e : Expr} {es : List Expr} {g : TG} {gs : TGs} {a : D → En → Option En} {b : List D → En → Option En} {as bs : List Nat} (h1 : DG RD X e g a as) (h2 : DGs X es gs b bs)
    (hs : (assignEach (e :: es) X.env).map (·.2) = assign e X.env :: (assignEach es X.env).map (·.2) := by rfl) : DGs X (e :: es) (gCons g gs) (egCons a b) (as ++ bs) := by
  refine ⟨pgs_cons h1.pg h2.pg hs, fun E S φ ρ σ H ds vs Q ρ' I r e h => ?_⟩
  cases ds with
  | nil => cases e
  | cons d ds =>
    simp only [RepDs] at r
    obtain ⟨v, w, rfl, r1, r2⟩ := r
    have e : (a d ρ).bind (b ds) = some ρ' := e
    cases ea : a d ρ with
    | none => rw [ea] at e; cases e
    | some ρ1 =>
      rw [ea] at e
      refine ⟨v, w, rfl, h1.sm E S φ ρ σ H d v _ ρ1 I r1 ea fun φ1 σ1 k1 l1 I1 => ?_⟩
      exact h2.sm E S φ1 ρ1 σ1 H ds w Q ρ' I1 r2 e fun φ2 σ2 k2 l2 I2 => h φ2 σ2 (fun i hi => (k2 i fun z => hi (List.mem_append_right _ z)).trans (k1 i fun z => hi (List.mem_append_left _ z))) (l2.trans l1) I2
theorem dg_tup {es : List Expr} {k n : Nat} {gs : TGs} {a : List D → En → Option En} {as : List Nat} (hc : X.calm = true) (h : DGs X es gs a as) (hn : (assignEach es X.env).length = n := by rfl) (hst : (assignEach es X.env).findIdx? (·.1) = none := by rfl) :
    DG RD X (.Tuple es k pos) (gTup X.K n gs) (egTup n a) as := by
  refine ⟨pg_tup hc h.pg hn hst, fun E S φ ρ σ H d v Q ρ' I r e hq => ?_⟩
  cases d with
  | tuple ds =>
    have e : (if ds.length = n then a ds ρ else none) = some ρ' := e
    by_cases hl : ds.length = n
    · rw [if_pos hl] at e
      have r : RepD S (.tuple ds) v := r
      simp only [RepD] at r
      obtain ⟨p, vs, rfl, hp, r⟩ := r
      exact ⟨p, vs, rfl, (hp.same (I.gr.i _)).sq, by rw [r.length]; exact hl, h.sm E S φ ρ σ H ds vs Q ρ' I r e hq⟩
    · rw [if_neg hl] at e; cases e
  | _ => cases e
end

theorem RD.rp {K : PySem.W.Frag} {S H : Hp} {ds : List D} {v : V} (i : Same S H) (r : RD S H (.tuple ds) v) : RP K S H (.tuple ds) v := by
  have r : RepD S (.tuple ds) v := r
  simp only [RepD] at r
  obtain ⟨a, vs, rfl, ha, q⟩ := r
  exact ⟨ds, a, vs, rfl, rfl, (ha.same (i _)).sq, q⟩
section
variable {X : Cx} {pos : Pos}
theorem dg_tupP {K : PySem.W.Frag} {es : List Expr} {k n : Nat} {gs : TGs} {a : List D → En → Option En} {as : List Nat} (hc : X.calm = true) (h : DGs X es gs a as) (hK : X.K = K := by rfl) (hn : (assignEach es X.env).length = n := by rfl) (hst : (assignEach es X.env).findIdx? (·.1) = none := by rfl) :
    DG (RP K) X (.Tuple es k pos) (gTup K n gs) (egTup n a) as := by
  subst hK
  refine ⟨pg_tup hc h.pg hn hst, fun E S φ ρ σ H d v Q ρ' I r e hq => ?_⟩
  obtain ⟨ds, p, vs, rfl, rfl, hp, r⟩ := r
  have e : (if ds.length = n then a ds ρ else none) = some ρ' := e
  by_cases hl : ds.length = n
  · rw [if_pos hl] at e
    exact ⟨p, vs, rfl, hp, by rw [r.length]; exact hl, h.sm E S φ ρ σ H ds vs Q ρ' I r e hq⟩
  · rw [if_neg hl] at e; cases e
end

/-! ### for -/
def forL (g : D → En → Option En) (b : En → Out) : List D → En → Out
  | [], ρ => .nx ρ
  | d :: ds, ρ => match g d ρ with
    | none => .bad
    | some ρ1 => match b ρ1 with
      | .nx ρ' => forL g b ds ρ'
      | .ct ρ' => forL g b ds ρ'
      | .bk ρ' => .nx ρ'
      | o => o
def sFor (ei : En → Rs (List D)) (g : D → En → Option En) (b : En → Out) : En → Out := fun ρ => rsK (ei ρ) ρ fun ds => forL g b ds ρ
section
variable {X : Cx} {W : WX} {pos : Pos} {tg iter : Expr}
theorem ds_for {Rp : Rel} {body : List Stmt} {wi : TI} {ei : En → Rs (List D)} {g : TG} {eg : D → En → Option En} {tb : TS} {b : En → Out} {as bs : List Nat} (hp : PassesOwn (model X.prog X.w) X.A X.env X.xe) (hc : X.calm = true) (hi : DI Rp X W tg iter wi ei) (hg : DG Rp X tg g eg as) (hb : DSs X W body tb b bs)
    (hs : ∀ x, foldedSetIterable iter X.env x = pure x := by intro _; rfl) : DS X W (.For tg iter body [] pos) (tFor wi g tb) (sFor ei eg b) (as ++ bs) := by
  refine ⟨ps_for hp hc hi.pi hg.pg hb.ps hs, fun E S φ ρ σ H D I q => ?_⟩
  refine hi.sm E S φ ρ σ H _ I ((OutOK.rsK I q).imp (fun ds hds S0 H0 J g0 hJ => ?_) fun _ z => z)
  refine ⟨fun i m σ' H' => m = ds.length - i ∧ i ≤ ds.length ∧ ∃ S' φ' ρ', Same S0 S' ∧ StInv X.K E S' φ' ρ' σ' H' ∧ OutOK X.K X.mg W E S' σ' (as ++ bs) (forL eg b (ds.drop i) ρ') D,
    ⟨ds.length, by simp, Nat.zero_le _, S0, φ, ρ, .refl _, I.grow g0, OutOK.later (as := []) hds ⟨g0.s, fun _ _ => rfl⟩ (as ++ bs) (fun i hi => by cases hi) fun _ z => z⟩, ?_⟩
  rintro i m σ' H' ⟨rfl, hle, S', φ', ρ', hS, I', q'⟩
  obtain ⟨h1, h2⟩ := hJ S' H' i hS I'.gr.i
  by_cases hlt : i < ds.length
  · obtain ⟨hgo, hy⟩ := h1 ds[i] (by simp [hlt])
    have q0 := q'
    rw [List.drop_eq_getElem_cons hlt] at q0
    refine .inr ⟨hgo, fun σ3 H3 => ∃ S3 φ3 ρ3, Same S0 S3 ∧ StInv X.K E S3 φ3 ρ3 σ3 H3 ∧ OutOK X.K X.mg W E S3 σ3 (as ++ bs) (forL eg b (ds.drop (i + 1)) ρ3) D, fun σ3 H3 ⟨S3, φ3, ρ3, z⟩ => ⟨ds.length - (i + 1), by omega, rfl, hlt, S3, φ3, ρ3, z⟩, fun x H2 y => ?_⟩
    obtain ⟨S2, g2, r2⟩ := hy x H2 y
    have q0 : OutOK X.K X.mg W E S' σ' (as ++ bs) (match eg ds[i] ρ' with
      | none => .bad
      | some ρ1 => match b ρ1 with
        | .nx ρ' => forL eg b (ds.drop (i + 1)) ρ'
        | .ct ρ' => forL eg b (ds.drop (i + 1)) ρ'
        | .bk ρ' => .nx ρ'
        | o => o) D := q0
    cases eg1 : eg ds[i] ρ' with
    | none => rw [eg1] at q0; exact False.elim q0
    | some ρ1 =>
      rw [eg1] at q0
      refine hg.sm E S2 φ' ρ' σ' H2 _ x _ ρ1 (I'.grow g2) r2 eg1 fun φ1 σ1 k1 _ I1 => ?_
      refine hb.sm E S2 φ1 ρ1 σ1 H2 _ I1 ?_
      have st : ∀ {S3 σ3}, Step S2 σ1 bs S3 σ3 → Step S' σ' (as ++ bs) S3 σ3 := fun s =>
        ⟨g2.s.trans s.s, fun i hi => (s.k i fun z => hi (List.mem_append_right _ z)).trans (k1 i fun z => hi (List.mem_append_left _ z))⟩
      have q0 : OutOK X.K X.mg W E S' σ' (as ++ bs) (match b ρ1 with
        | .nx ρ' => forL eg b (ds.drop (i + 1)) ρ'
        | .ct ρ' => forL eg b (ds.drop (i + 1)) ρ'
        | .bk ρ' => .nx ρ'
        | o => o) D := q0
      have hS2 : Same S0 S2 := hS.trans g2.s
      cases eb : b ρ1 with
      | bad => rw [eb] at q0; exact q0
      | nx ρ3 => rw [eb] at q0; exact fun S3 φ3 σ3 H3 s3 I3 => ⟨S3, φ3, ρ3, hS2.trans s3.s, I3, OutOK.later q0 (st s3) _ (fun _ z => z) fun _ z => z⟩
      | ct ρ3 => rw [eb] at q0; exact fun S3 φ3 σ3 H3 s3 I3 => ⟨S3, φ3, ρ3, hS2.trans s3.s, I3, OutOK.later q0 (st s3) _ (fun _ z => z) fun _ z => z⟩
      | bk ρ3 => rw [eb] at q0; exact fun S3 φ3 σ3 H3 s3 I3 => q0 S3 φ3 σ3 H3 (st s3) I3
      | rt t => rw [eb] at q0; exact q0
      | ex c ρ3 => rw [eb] at q0; exact fun S3 φ3 σ3 H3 s3 I3 => q0 S3 φ3 σ3 H3 (st s3) I3
  · have e : i = ds.length := by omega
    subst e
    rw [List.drop_length] at q'
    exact .inl ⟨h2 (Nat.le_refl _), q' S' φ' σ' H' ⟨.refl _, fun _ _ => rfl⟩ I'⟩
end

/-! ### the items of a list, a tuple, a range -/
def T.items : T → Option (List D)
  | .sh (.list ds) => some ds
  | .sh (.tuple ds) => some ds
  | .scr ns => some (ns.map PyData.int)
  | _ => none
def eiSeq (ev : En → Rs T) : En → Rs (List D) := fun ρ => (ev ρ).bind fun t => rsO t.items
section
variable {X : Cx} {W : WX} {tg l : Expr} {tl : TE} {ev : En → Rs T}
theorem rep_ints {S : Hp} : ∀ ns : List Int, RepDs S (ns.map PyData.int) (ns.map V.int)
  | [] => .nil
  | n :: ns => .cons (by simp only [RepD]) (rep_ints ns)
theorem it_list {K : PySem.W.Frag} {S : Hp} {a : Addr} {vs : List V} {ds : List D} (h : SqL K S a vs) (r : RepDs S ds vs) (uniq : ∀ S1 ws, Same S S1 → SqL K S1 a ws → ws = vs) : ItOK RD S (Itl K a) ds := by
  intro S1 H1 i hs hi
  have sq : SqL K H1 a vs := (hs.trans hi).seq h
  refine ⟨fun d hd => ?_, fun hl => ⟨vs, sq, by rw [r.length]; exact hl⟩⟩
  obtain ⟨v, hv, q⟩ := r.get hd
  refine ⟨⟨vs, v, sq, hv⟩, fun x H2 y => ?_⟩
  obtain ⟨rfl, y⟩ := y
  have := y vs sq
  rw [hv] at this; cases this
  exact ⟨S1, .refl hi, RepD.mono hs _ _ q⟩
/-- [K] iList or iTup: which one it is, is seen where the value stands -/
def iSeq (K : PySem.W.Frag) (tl : TE) : TI := fun σ H R => tl σ H fun x H1 => ∃ a, x = .ref a ∧ (((∃ xs, SqL K H1 a xs) ∧ R (Itl K a) H1) ∨ ((∃ xs, SqT K H1 a xs) ∧ R (Itt K a) H1))
theorem pi_seq (hl : PE X l tl) : PI X tg l (iSeq X.K tl) := by
  refine ⟨fun pins s σ H R I h => ?_⟩
  refine thn (hl.run pins s σ H _ I h) fun v s1 ⟨x, H1, I1, r1, q1⟩ => ?_
  obtain ⟨a, e, q⟩ := q1
  subst e
  cases r1
  rcases q with ⟨⟨xs, hq⟩, q⟩ | ⟨⟨xs, hq⟩, q⟩
  · obtain ⟨its, rv, p, hz⟩ := I1.list hq
    refine wpAny_pyIter_list p.isList ?_
    refine ⟨s1.heap.objs.size, [s1.heap.objs.size], _, _, H1, rfl, I1.kept (t' := s1.toks) fun b o e => Heap.get?_push_of_some _ e, turn_list a _, ⟨_, Heap.get?_push_size _ rfl, rfl, rfl⟩, fun b hb => ?_, q⟩
    have e : b = s1.heap.objs.size := by simpa using hb
    subst e
    exact I1.fpOk (Nat.le_refl _) (I1.hok.fresh (Nat.le_refl _))
  · obtain ⟨its, rv, p, hz⟩ := I1.tuple hq
    refine wpAny_pyIter_tuple (show s1.heap.IsTuple a its.toArray from p) ?_
    refine ⟨s1.heap.objs.size, [s1.heap.objs.size], _, _, H1, rfl, I1.kept (t' := s1.toks) fun b o e => Heap.get?_push_of_some _ e, turn_tuple a _, ⟨_, Heap.get?_push_size _ rfl, rfl, rfl⟩, fun b hb => ?_, q⟩
    have e : b = s1.heap.objs.size := by simpa using hb
    subst e
    exact I1.fpOk (Nat.le_refl _) (I1.hok.fresh (Nat.le_refl _))
theorem di_seq (h : DV X W l tl ev) : DI RD X W tg l (iSeq X.K tl) (eiSeq ev) := by
  refine ⟨pi_seq h.pe, fun E S φ ρ σ H R I q => ?_⟩
  refine h.sm E S φ ρ σ H _ I (q.bind.imp (fun t ht v S' H' fp g r => ?_) fun _ z => z)
  obtain ⟨ds, e, ht⟩ := ht.rsO
  have key : ∀ {a : Addr} {vs : List V}, S' a = some (.lst vs) → RepDs S' ds vs → ∃ b, V.ref a = V.ref b ∧ (((∃ xs, SqL X.K H' b xs) ∧ R (Itl X.K b) H') ∨ ((∃ xs, SqT X.K H' b xs) ∧ R (Itt X.K b) H')) := fun {a vs} ha rr => by
    have sq : SqL X.K H' a vs := .of (g.i _ _ ha)
    refine ⟨a, rfl, .inl ⟨⟨vs, sq⟩, ht S' H' _ g fun S1 H1 i hs hi => ?_⟩⟩
    have sq1 : SqL X.K H1 a vs := .of (hi _ _ (hs _ _ ha))
    refine ⟨fun d hd => ?_, fun hl => ⟨vs, sq1, by rw [rr.length]; exact hl⟩⟩
    obtain ⟨w, hw, q⟩ := rr.get hd
    refine ⟨⟨vs, w, sq1, hw⟩, fun x H2 y => ?_⟩
    obtain ⟨rfl, y⟩ := y
    have := y vs sq1
    rw [hw] at this; cases this
    exact ⟨S1, .refl hi, RepD.mono hs _ _ q⟩
  unfold T.items at e
  split at e
  · cases e
    simp only [RepT, RepD] at r
    obtain ⟨_, a, vs, rfl, ha, rr⟩ := r
    exact key ha rr
  · cases e
    simp only [RepT, RepD] at r
    obtain ⟨_, a, vs, rfl, ha, rr⟩ := r
    have sq : SqT X.K H' a vs := (ha.same (g.i _)).sq
    refine ⟨a, rfl, .inr ⟨⟨vs, sq⟩, ht S' H' _ g fun S1 H1 i hs hi => ?_⟩⟩
    have sq1 : SqT X.K H1 a vs := (ha.same fun x e => hi _ _ (hs _ _ e)).sq
    refine ⟨fun d hd => ?_, fun hl => ⟨vs, sq1, by rw [rr.length]; exact hl⟩⟩
    obtain ⟨w, hw, q⟩ := rr.get hd
    refine ⟨⟨vs, w, sq1, hw⟩, fun x H2 y => ?_⟩
    obtain ⟨rfl, y⟩ := y
    have := y vs sq1
    rw [hw] at this; cases this
    exact ⟨S1, .refl hi, RepD.mono hs _ _ q⟩
  · rename_i ns
    cases e
    simp only [RepT] at r
    obtain ⟨_, a, rfl, sq⟩ := r
    have sq0 : SqL X.K H' a (ns.map V.int) := g.i.seq sq
    refine ⟨a, rfl, .inl ⟨⟨_, sq0⟩, ht S' H' _ g fun S1 H1 i hs hi => ?_⟩⟩
    have sq1 : SqL X.K H1 a (ns.map V.int) := (hs.trans hi).seq sq
    have rr : RepDs S1 (ns.map PyData.int) (ns.map V.int) := rep_ints ns
    refine ⟨fun d hd => ?_, fun hl => ⟨_, sq1, by rw [rr.length]; exact hl⟩⟩
    obtain ⟨w, hw, q⟩ := rr.get hd
    refine ⟨⟨_, w, sq1, hw⟩, fun x H2 y => ?_⟩
    obtain ⟨rfl, y⟩ := y
    have := y _ sq1
    rw [hw] at this; cases this
    exact ⟨S1, .refl hi, q⟩
  · cases e
def rngD (lo hi : Int) : List D := (List.range (hi - lo).toNat).map fun (k : Nat) => PyData.int (lo + (k : Int))
def eiRng1 (er : En → Rs (List T)) : En → Rs (List D) := fun ρ => (er ρ).bind fun ts => match ts with
  | [.sh (.int j)] => if -(2 ^ 62) ≤ j ∧ j < 2 ^ 62 then .ok (rngD 0 j) else .bad
  | _ => .bad
def eiRng2 (er : En → Rs (List T)) : En → Rs (List D) := fun ρ => (er ρ).bind fun ts => match ts with
  | [.sh (.int i), .sh (.int j)] => if -(2 ^ 62) ≤ i ∧ i < 2 ^ 62 ∧ -(2 ^ 62) ≤ j ∧ j < 2 ^ 62 then .ok (rngD i j) else .bad
  | _ => .bad
theorem it_rng {S : Hp} (lo hi : Int) : ItOK RD S (Itr lo (hi - lo).toNat) (rngD lo hi) := by
  intro S1 H1 i hs hi'
  refine ⟨fun d hd => ?_, fun hl => ?_⟩
  · unfold rngD at hd
    rw [List.getElem?_map] at hd
    by_cases h : i < (hi - lo).toNat
    · rw [List.getElem?_range h] at hd
      simp only [Option.map_some, Option.some.injEq] at hd
      subst hd
      refine ⟨h, fun x H2 y => ?_⟩
      obtain ⟨rfl, rfl⟩ := y
      exact ⟨S1, .refl hi', by show RepD _ _ _; simp only [RepD]⟩
    · rw [List.getElem?_eq_none (by simpa using h)] at hd; cases hd
  · unfold rngD at hl
    rw [List.length_map, List.length_range] at hl
    exact hl
theorem di_range1 {a : Expr} {ta : TA} {er : En → Rs (List T)} {p pos : Pos} (hg : Gl X "range") (hm : X.mg "range" = none) (ha : DAs X W [a] ta er) (hs : starEach [a] X.env = [(false, eval a X.env)] := by rfl) : DI RD X W tg (.Call (.Name "range" p) [a] [] pos) (iRng1 ta) (eiRng1 er) := by
  refine ⟨pi_range1 hg hm ha.pe hs, fun E S φ ρ σ H R I q => ?_⟩
  refine ha.sm E S φ ρ σ H _ I (q.bind.imp (fun ts ht vs S' H' g r => ?_) fun _ z => z)
  split at ht
  · rename_i j
    split at ht
    · rename_i hb
      obtain ⟨v, w, fp, rfl, r1, rfl⟩ := r
      simp only [RepT, RepD] at r1
      obtain ⟨_, rfl⟩ := r1
      refine ⟨j, rfl, hb.1, hb.2, ht S' H' _ g ?_⟩
      have := it_rng (S := S') 0 j
      rwa [show (j - 0).toNat = j.toNat by rw [Int.sub_zero]] at this
    · exact False.elim ht
  · exact False.elim ht
theorem di_range2 {a b : Expr} {ta : TA} {er : En → Rs (List T)} {p pos : Pos} (hg : Gl X "range") (hm : X.mg "range" = none) (ha : DAs X W [a, b] ta er) (hs : starEach [a, b] X.env = [(false, eval a X.env), (false, eval b X.env)] := by rfl) (hs2 : starEach [b] X.env = [(false, eval b X.env)] := by rfl) :
    DI RD X W tg (.Call (.Name "range" p) [a, b] [] pos) (iRng2 ta) (eiRng2 er) := by
  refine ⟨pi_range2 hg hm ha.pe hs hs2, fun E S φ ρ σ H R I q => ?_⟩
  refine ha.sm E S φ ρ σ H _ I (q.bind.imp (fun ts ht vs S' H' g r => ?_) fun _ z => z)
  split at ht
  · rename_i i j
    split at ht
    · rename_i hb
      obtain ⟨v, w, fp, rfl, r1, v2, w2, fp2, rfl, r2, rfl⟩ := r
      simp only [RepT, RepD] at r1 r2
      obtain ⟨_, rfl⟩ := r1
      obtain ⟨_, rfl⟩ := r2
      exact ⟨i, j, rfl, hb, ht S' H' _ g (it_rng i j)⟩
    · exact False.elim ht
  · exact False.elim ht
end

/-! ### a def -/
def outR : Out → Rs T
  | .nx _ => .ok (.sh .none)
  | .rt t => .ok t
  | .ex c _ => .ex c
  | _ => .bad
/-- the arguments, then the names not yet assigned -/
def en0 (n : Nat) (ts : List T) : En := ts.map some ++ List.replicate n none
/-- a def with n parameters and m further names -/
def fnD (n m : Nat) (b : En → Out) (ts : List T) : Rs T := if ts.length = n then outR (b (en0 m ts)) else .bad
section
variable {P : Program} {w : World} {K : PySem.W.Frag} {mg : Str → Option Value} {base : Heap} {x qual : Str} {params : Arguments} {body : List Stmt} {scope : Scope} {f : Addr} {fd : FuncData} {N ps : List Str} {k n m : Nat} {b : En → Out}
theorem args_slot {S H : Hp} : ∀ {ts : List T} {vs : List V} {i : Nat} {t : T}, RepArgs K S ts vs → ts[i]? = some t → ∃ v, vs[i]? = some v ∧ RepT K S H t v []
  | [], _, i, t, q, e => by simp at e
  | c :: ts, _, i, t, ⟨v, r, e0, q, qs⟩, e => by
    subst e0
    cases i with
    | zero =>
      simp at e
      subst e
      refine ⟨v, rfl, ?_⟩
      cases c with
      | sh d => simp only [RepT, true_and]; exact q
      | scr ns => simp only [RepT, true_and]; exact q
      | _ => exact False.elim q
    | succ i => exact args_slot (i := i) qs (by simpa using e)
theorem body_sem {W : WX} {t : TS} {as : List Nat} {vs : List V} {H : Hp} {Q : VK} {E : XK} (d : SemS K mg (fun cls d _ H' => E cls d H') t b as) (hm : N.length = n + m) (h : spD K mg n (fnD n m b) vs H Q E) : t { nx := fun _ H' => Q .non H', rt := Q } (L2.start N vs) H := by
  obtain ⟨S, ts, i, hl, q, r⟩ := h
  have lv : vs.length = n := q.length.trans hl
  have I : StInv K ⟨S, H⟩ S (fun _ => []) (en0 m ts) (L2.start N vs) H := by
    refine ⟨.refl i, ?_, fun j t hj => ?_, fun _ => .nil, fun _ _ a h1 _ => (nomatch h1), fun _ a h1 => (nomatch h1)⟩
    · simp only [en0, L2.start, List.length_append, List.length_map, List.length_replicate]
      omega
    · unfold en0 at hj
      by_cases hlt : j < ts.length
      · rw [List.getElem?_append_left (by simpa using hlt), List.getElem?_map] at hj
        cases e : ts[j]? with
        | none => rw [e] at hj; cases hj
        | some t0 =>
          rw [e] at hj
          simp only [Option.map_some, Option.some.injEq] at hj
          subst hj
          obtain ⟨v, hv, r⟩ := args_slot (H := H) q e
          refine ⟨v, ?_, r⟩
          unfold L2.start
          rw [List.getElem?_append_left (by rw [List.length_map, lv, ← hl]; exact hlt), List.getElem?_map, hv]
          rfl
      · rw [List.getElem?_append_right (by simpa using hlt), List.getElem?_replicate] at hj
        split at hj <;> cases hj
  refine d ⟨S, H⟩ S _ _ _ H _ I ?_
  unfold fnD at r
  rw [if_pos hl] at r
  cases e : b (en0 m ts) with
  | bad => rw [e] at r; exact r
  | nx ρ =>
    rw [e] at r
    exact fun S' φ' σ' H' _ I' => r .non S' H' [] I'.gr (by simp only [RepT, RepD, true_and]) .nil fun a ha => by cases ha
  | bk ρ => rw [e] at r; exact False.elim r
  | ct ρ => rw [e] at r; exact False.elim r
  | rt t => rw [e] at r; exact r
  | ex c ρ =>
    rw [e] at r
    exact fun S' φ' σ' H' _ I' C hC => r S' H' I'.gr C hC
theorem fn_ok (F : FunD K x qual params body scope [] [] f fd) (Sc : FnScope N ps scope) (hn : ps.length = n) (hm : N.length = n + m)
    (hbody : ∀ (cdv : Value) (A : Around) (outer : List Env) (s : Shared) (H : Hp) (Q : VK) (E : XK), Room k (A.deeper (PyProof.Rows.envOfC qual scope s.heap.objs.size f cdv)) →
      ∃ ts as, DSs (cxOf (L2.CX P w) P w K mg base N qual scope f cdv A outer s H E) (fun cls d _ H' => E cls d H') body ts b as) :
    FnOk P w K mg base (L2.CX P w) (k + 1) f fd ps (spD K mg n (fnD n m b)) := by
  refine F.ok Sc (fun vs H Q E h => h.len.trans hn.symm) (fun cdv A outer s H vs Q E hr h => ?_)
  obtain ⟨t, as, d⟩ := hbody cdv A outer s H Q E hr
  exact ⟨t, d.ps, body_sem (W := fun _ _ _ _ => True) d.sm hm h⟩

end
end PL
set_option Elab.async false
set_option linter.all false
set_option maxRecDepth 100000
/-! PL5: operators, subscripts, built-in calls. -/
namespace PL
open PySem PySem.Spec L2

/-! ### forms of values -/
def T.asI : T → Option Int
  | .sh (.int i) => some i
  | _ => none
def T.lits : T → Option (List D)
  | .sh (.list ds) => some ds
  | .ol ds => some ds
  | _ => none
def T.tups : T → Option (List D)
  | .sh (.tuple ds) => some ds
  | _ => none
section
variable {K : PySem.W.Frag} {S H : Hp} {t : T} {v : V} {fp : List Addr}
theorem asI_rep {i : Int} (q : RepT K S H t v fp) (e : t.asI = some i) : v = .int i := by
  unfold T.asI at e
  split at e
  · cases e
    simp only [RepT, RepD] at q
    exact q.2
  · cases e
theorem lits_rep {ds : List D} (i : Same S H) (q : RepT K S H t v fp) (e : t.lits = some ds) : ∃ a vs, v = .ref a ∧ H a = some (.lst vs) ∧ RepDs S ds vs := by
  unfold T.lits at e
  split at e
  · cases e
    simp only [RepT, RepD] at q
    obtain ⟨_, a, vs, e1, h, r⟩ := q
    exact ⟨a, vs, e1, i _ _ h, r⟩
  · cases e
    simp only [RepT] at q
    obtain ⟨a, vs, e1, _, h, r⟩ := q
    exact ⟨a, vs, e1, h, r⟩
  · cases e
theorem tups_rep {ds : List D} (q : RepT K S H t v fp) (e : t.tups = some ds) : ∃ a vs, v = .ref a ∧ IsTp (S a) vs ∧ RepDs S ds vs := by
  unfold T.tups at e
  split at e
  · cases e
    simp only [RepT, RepD] at q
    exact q.2
  · cases e
theorem rep_sh {d : D} (q : RepT K S H (.sh d) v fp) : RepD S d v := by simp only [RepT] at q; exact q.2
theorem rep_d {d : D} (q : RepD S d v) : RepT K S H (.sh d) v [] := by simp only [RepT, true_and]; exact q
end
/-- a flat answer -/
theorem Ret.flat {K : PySem.W.Frag} {S H : Hp} {d : D} {v : V} {Q : VK} (i : Same S H) (r : Ret K S H (.sh d) Q) (q : ∀ S, RepD S d v) : Q v H :=
  r v S H [] (.refl i) (rep_d (q S)) .nil fun a ha => by cases ha
/-- shared data that stands -/
theorem Ret.old {K : PySem.W.Frag} {S H : Hp} {d : D} {v : V} {Q : VK} (i : Same S H) (r : Ret K S H (.sh d) Q) (q : RepD S d v) : Q v H :=
  r v S H [] (.refl i) (rep_d q) .nil fun a ha => by cases ha
/-- a new own list -/
theorem Ret.lst {K : PySem.W.Frag} {S H : Hp} {ds : List D} {vs : List V} {Q : VK} (i : Same S H) (r : Ret K S H (.ol ds) Q) (q : RepDs S ds vs) {p : Addr} (hp : H p = none) : Q (.ref p) (upd H p (.lst vs)) :=
  r (.ref p) S _ [p] (.own i hp) (by simp only [RepT]; exact ⟨p, vs, rfl, rfl, upd_same, q⟩) (by simp) fun a ha => by
    have e : a = p := by simpa using ha
    subst e
    exact ⟨i.free hp, hp⟩
/-- a new shared tuple -/
theorem Ret.tup {K : PySem.W.Frag} {S H : Hp} {ds : List D} {vs : List V} {Q : VK} (i : Same S H) (r : Ret K S H (.sh (.tuple ds)) Q) (q : RepDs S ds vs) : NewT H vs Q := fun p o hp hdn =>
  r (.ref p) (upd S p (.frz o (.tup vs))) _ [] (.shared i hp) (by
    simp only [RepT, RepD, true_and]
    exact ⟨p, vs, rfl, ⟨o, upd_same, hdn⟩, RepDs.mono (same_upd (i.free hp)) _ _ q⟩) .nil fun a ha => by cases ha

theorem SemOp.or {K : PySem.W.Frag} {r r' : R2} {f f' : T → T → Option T} (h : SemOp K r f) (h' : SemOp K r' f') : SemOp K (fun x y H Q => r x y H Q ∨ r' x y H Q) (fun x y => (f x y).or (f' x y)) :=
  fun S H x y vx vy fx fy Q t i qx qy e R => by
    have e : (f x y).or (f' x y) = some t := e
    cases e1 : f x y with
    | some z =>
      rw [e1] at e
      exact .inl (h S H x y vx vy fx fy Q t i qx qy (e1.trans (by simpa using e)) R)
    | none =>
      rw [e1] at e
      exact .inr (h' S H x y vx vy fx fy Q t i qx qy (by simpa using e) R)

/-! ### ints -/
def f2I (g : Int → Int → Option D) (x y : T) : Option T := match x, y with
  | .sh (.int i), .sh (.int j) => (g i j).map .sh
  | _, _ => none
theorem sem_I0 {K : PySem.W.Frag} {g : Int → Int → Int} : SemOp K (rI0 fun i j => .int (g i j)) (f2I fun i j => some (.int (g i j))) := by
  intro S H x y vx vy fx fy Q t i qx qy e R
  unfold f2I at e
  split at e
  · rename_i a b
    cases e
    exact ⟨a, b, by have := rep_sh qx; simpa only [RepD] using this, by have := rep_sh qy; simpa only [RepD] using this, R.flat i fun _ => by simp only [RepD]⟩
  · cases e
theorem sem_B0 {K : PySem.W.Frag} {g : Int → Int → Bool} : SemOp K (rI0 fun i j => .bl (g i j)) (f2I fun i j => some (.bool (g i j))) := by
  intro S H x y vx vy fx fy Q t i qx qy e R
  unfold f2I at e
  split at e
  · rename_i a b
    cases e
    exact ⟨a, b, by have := rep_sh qx; simpa only [RepD] using this, by have := rep_sh qy; simpa only [RepD] using this, R.flat i fun _ => by simp only [RepD]⟩
  · cases e
theorem sem_I {K : PySem.W.Frag} {C : Int → Int → Prop} {g : Int → Int → Int} {c : Int → Int → Bool} (hc : ∀ i j, c i j = true → C i j) : SemOp K (rI C fun i j => .int (g i j)) (f2I fun i j => if c i j then some (.int (g i j)) else none) := by
  intro S H x y vx vy fx fy Q t i qx qy e R
  unfold f2I at e
  split at e
  · rename_i a b
    have e : Option.map T.sh (if c a b = true then some (PyData.int (g a b)) else none) = some t := e
    by_cases h : c a b = true
    · rw [if_pos h] at e
      cases e
      exact ⟨a, b, by have := rep_sh qx; simpa only [RepD] using this, by have := rep_sh qy; simpa only [RepD] using this, hc _ _ h, R.flat i fun _ => by simp only [RepD]⟩
    · rw [if_neg h] at e
      cases e
  · cases e
/-! str + str, list + list, tuple + tuple -/
def fStrAdd (x y : T) : Option T := match x, y with
  | .sh (.str i), .sh (.str j) => if i.length + j.length ≤ sizeLine then some (.sh (.str (i ++ j))) else none
  | _, _ => none
theorem sem_strAdd {K : PySem.W.Frag} : SemOp K (fun x y H Q => ∃ i j, x = .str i ∧ y = .str j ∧ i.length + j.length ≤ sizeLine ∧ Q (.str (i ++ j)) H) fStrAdd := by
  intro S H x y vx vy fx fy Q t i qx qy e R
  unfold fStrAdd at e
  split at e
  · rename_i a b
    split at e
    · rename_i h
      cases e
      exact ⟨a, b, by have := rep_sh qx; simpa only [RepD] using this, by have := rep_sh qy; simpa only [RepD] using this, h, R.flat i fun _ => by simp only [RepD]⟩
    · cases e
  · cases e
def fCat (x y : T) : Option T := match x.lits, y.lits with
  | some a, some b => if a.length + b.length ≤ sizeLine then some (.ol (a ++ b)) else none
  | _, _ => none
theorem sem_cat {K : PySem.W.Frag} : SemOp K rCat fCat := by
  intro S H x y vx vy fx fy Q t i qx qy e R
  unfold fCat at e
  split at e
  · rename_i a b ea eb
    split at e
    · rename_i h
      cases e
      obtain ⟨p, vs, rfl, hp, r1⟩ := lits_rep i qx ea
      obtain ⟨q, ws, rfl, hq, r2⟩ := lits_rep i qy eb
      exact ⟨p, q, vs, ws, rfl, rfl, hp, hq, by rw [r1.length, r2.length]; exact h, fun z hz => R.lst i (r1.app r2) hz⟩
    · cases e
  · cases e
def fCatT (x y : T) : Option T := match x.tups, y.tups with
  | some a, some b => if a.length + b.length ≤ sizeLine then some (.sh (.tuple (a ++ b))) else none
  | _, _ => none
theorem nil_of_len {α : Type} {l : List α} (h : l.length = 0) : l = [] := by cases l with | nil => rfl | cons _ _ => cases h
theorem sem_catT {K : PySem.W.Frag} : SemOp K (rCatF K) fCatT := by
  intro S H x y vx vy fx fy Q t i qx qy e R
  unfold fCatT at e
  split at e
  · rename_i a b ea eb
    split at e
    · rename_i h
      cases e
      obtain ⟨p, vs, rfl, hp, r1⟩ := tups_rep qx ea
      obtain ⟨q, ws, rfl, hq, r2⟩ := tups_rep qy eb
      refine ⟨p, q, vs, ws, rfl, rfl, (hp.same (i _)).sq, (hq.same (i _)).sq, by rw [r1.length, r2.length]; exact h, fun z => ?_, fun _ z => ?_, fun _ _ => R.tup i (r1.app r2)⟩
      · have : a = [] := nil_of_len (by rw [← r1.length, z]; rfl)
        subst this
        exact R.old i (by simp only [RepD]; exact ⟨q, ws, rfl, hq, r2⟩)
      · have : b = [] := nil_of_len (by rw [← r2.length, z]; rfl)
        subst this
        rw [List.append_nil] at R
        exact R.old i (by simp only [RepD]; exact ⟨p, vs, rfl, hp, r1⟩)
    · cases e
  · cases e
def fAdd (x y : T) : Option T := (f2I (fun i j => some (.int (i + j))) x y).or ((fStrAdd x y).or ((fCat x y).or (fCatT x y)))
abbrev rI' (g : Int → Int → Int) : R2 := rI0 fun i j => .int (g i j)
abbrev rB' (g : Int → Int → Bool) : R2 := rI0 fun i j => .bl (g i j)
abbrev orR (r r' : R2) : R2 := fun x y H Q => r x y H Q ∨ r' x y H Q
abbrev rStrAdd : R2 := fun x y H Q => ∃ i j, x = .str i ∧ y = .str j ∧ i.length + j.length ≤ sizeLine ∧ Q (.str (i ++ j)) H
def rPlus (K : PySem.W.Frag) : R2 := orR (rI' fun i j => i + j) (orR rStrAdd (orR rCat (rCatF K)))
theorem sem_add {K : PySem.W.Frag} : SemOp K (rPlus K) fAdd := sem_I0.or (sem_strAdd.or (sem_cat.or (sem_catT (K := K))))
theorem op_plus {X : Cx} : OpR X (binaryOp .Add) (rPlus X.K) := op_add.or (op_add_str.or (op_cat.or op_catF))
def fSub (x y : T) : Option T := f2I (fun i j => some (.int (i - j))) x y
/-- list * int -/
def fRep (x y : T) : Option T := match x.lits, y with
  | some a, .sh (.int k) => if -(2 ^ 63) ≤ k ∧ k < 2 ^ 63 ∧ a.length * k.toNat ≤ sizeLine then some (.ol (List.replicate k.toNat a).flatten) else none
  | _, _ => none
theorem RepDs.rep {S : Hp} {ds : List D} {vs : List V} (q : RepDs S ds vs) : ∀ n : Nat, RepDs S (List.replicate n ds).flatten (List.replicate n vs).flatten
  | 0 => .nil
  | n + 1 => by
    rw [List.replicate_succ, List.replicate_succ, List.flatten_cons, List.flatten_cons]
    exact q.app (RepDs.rep q n)
theorem sem_rep {K : PySem.W.Frag} : SemOp K rRep fRep := by
  intro S H x y vx vy fx fy Q t i qx qy e R
  unfold fRep at e
  split at e
  · rename_i a k ea
    split at e
    · rename_i h
      cases e
      obtain ⟨p, vs, rfl, hp, r1⟩ := lits_rep i qx ea
      exact ⟨p, k, vs, rfl, by have := rep_sh qy; simpa only [RepD] using this, hp, h.1, h.2.1, by rw [r1.length]; exact h.2.2, fun z hz => R.lst i (r1.rep _) hz⟩
    · cases e
  · cases e
def bits (i : Int) : Nat := i.natAbs.log2
abbrev CMulB (i j : Int) : Prop := CMul i j ∨ CMulW i j
def cMul (i j : Int) : Bool := decide (((-(2 ^ 64) < i ∧ i < 2 ^ 64) ∨ (-(2 ^ 64) < j ∧ j < 2 ^ 64)) ∨ i.natAbs.log2 + j.natAbs.log2 < 1000000)
theorem cMul_s {i j : Int} (h : (-(2 ^ 64) < i ∧ i < 2 ^ 64) ∨ (-(2 ^ 64) < j ∧ j < 2 ^ 64)) : cMul i j = true := decide_eq_true (.inl h)
def fMul (x y : T) : Option T := (f2I (fun i j => if cMul i j then some (.int (i * j)) else none) x y).or (fRep x y)
def rTimes : R2 := orR (rI CMulB fun i j => .int (i * j)) rRep
theorem op_mulB {X : Cx} : OpR X (binaryOp .Mult) (rI CMulB fun i j => .int (i * j)) := by
  intro pins s σ H x y v u Q I rx ry h
  obtain ⟨i, j, hx, hy, hc, q⟩ := h
  rcases hc with hc | hc
  · exact op_mul pins s σ H x y v u Q I rx ry ⟨i, j, hx, hy, hc, q⟩
  · exact op_mulW pins s σ H x y v u Q I rx ry ⟨i, j, hx, hy, hc, q⟩
theorem sem_mul {K : PySem.W.Frag} : SemOp K rTimes fMul := (sem_I (C := CMulB) (g := fun i j => i * j) (c := cMul) (fun i j h => by have q := decide_eq_true_iff.mp (show decide _ = true from h); exact q)).or (sem_rep (K := K))
theorem op_times {X : Cx} : OpR X (binaryOp .Mult) rTimes := op_mulB.or op_rep
def cDiv (i j : Int) : Bool := decide (0 < j ∧ j.natAbs.log2 < 9000)
def fDiv (x y : T) : Option T := f2I (fun i j => if cDiv i j then some (.int (i / j)) else none) x y
theorem sem_div {K : PySem.W.Frag} : SemOp K (rI CDivW fun i j => .int (i / j)) fDiv := sem_I (C := CDivW) (g := fun i j => i / j) (c := cDiv) fun i j h => by have q := decide_eq_true_iff.mp (show decide _ = true from h); exact q
def fMod (x y : T) : Option T := f2I (fun i j => if decide (0 < j) then some (.int (i % j)) else none) x y
theorem sem_mod {K : PySem.W.Frag} : SemOp K (rI (fun _ j => 0 < j) fun i j => .int (i % j)) fMod := sem_I (C := fun _ j => 0 < j) (g := fun i j => i % j) (c := fun _ j => decide (0 < j)) fun i j h => by have q := decide_eq_true_iff.mp (show decide _ = true from h); exact q
def cPow (i j : Int) : Bool := decide (0 ≤ j ∧ j ≤ 1000000 ∧ i.natAbs < 2 ^ 64)
def fPow (x y : T) : Option T := f2I (fun i j => if cPow i j then some (.int (i ^ j.toNat)) else none) x y
theorem sem_pow {K : PySem.W.Frag} : SemOp K (rI CPow fun i j => .int (i ^ j.toNat)) fPow := sem_I (C := CPow) (g := fun i j => i ^ j.toNat) (c := cPow) fun i j h => by have q := decide_eq_true_iff.mp (show decide _ = true from h); exact q
def fShl (x y : T) : Option T := f2I (fun i j => if cPow i j then some (.int (i * 2 ^ j.toNat)) else none) x y
theorem sem_shl {K : PySem.W.Frag} : SemOp K (rI CPow fun i j => .int (i * 2 ^ j.toNat)) fShl := sem_I (C := CPow) (g := fun i j => i * 2 ^ j.toNat) (c := cPow) fun i j h => by have q := decide_eq_true_iff.mp (show decide _ = true from h); exact q
def fShr (x y : T) : Option T := f2I (fun i j => if decide (0 ≤ j) then some (.int (i / 2 ^ j.toNat)) else none) x y
theorem sem_shr {K : PySem.W.Frag} : SemOp K (rI (fun _ j => 0 ≤ j) fun i j => .int (i / 2 ^ j.toNat)) fShr := sem_I (C := fun _ j => 0 ≤ j) (g := fun i j => i / 2 ^ j.toNat) (c := fun _ j => decide (0 ≤ j)) fun i j h => by have q := decide_eq_true_iff.mp (show decide _ = true from h); exact q
def fAnd (x y : T) : Option T := f2I (fun i j => some (.int (Builtin.bitAnd i j))) x y
def fLtI (x y : T) : Option T := f2I (fun i j => some (.bool (decide (i < j)))) x y
def fLeI (x y : T) : Option T := f2I (fun i j => some (.bool (decide (i ≤ j)))) x y
def fGtI (x y : T) : Option T := f2I (fun i j => some (.bool (decide (j < i)))) x y
def fGeI (x y : T) : Option T := f2I (fun i j => some (.bool (decide (j ≤ i)))) x y

/-! ### ==, != -/
theorem dp_of {K : PySem.W.Frag} {H : Hp} : ∀ (d : D) (v : V), d.canLay0 = true → RepD H d v → Dp K H v d
  | .none, v, _, q => by simp only [RepD] at q; subst q; exact .non
  | .bool b, v, _, q => by simp only [RepD] at q; subst q; exact .bl b
  | .int b, v, _, q => by simp only [RepD] at q; subst q; exact .int b
  | .str b, v, _, q => by simp only [RepD] at q; subst q; exact .str b
  | .list ds, v, c, q => by
    simp only [RepD] at q
    obtain ⟨a, vs, rfl, h, r⟩ := q
    exact .lst (.of h) (go ds vs (by simpa only [PyData.canLay0] using c) r)
  | .tuple ds, v, c, q => by
    simp only [RepD] at q
    obtain ⟨a, vs, rfl, h, r⟩ := q
    exact .tup h.sq (go ds vs (by simpa only [PyData.canLay0] using c) r)
  | .dict _, v, c, q => by simp [PyData.canLay0] at c
where go : ∀ (ds : List D) (vs : List V), PyData.canLayAll0 ds = true → RepDs H ds vs → DpAll K H vs ds
  | [], vs, _, q => by simp only [RepDs] at q; subst q; exact .nil
  | d :: ds, vs, c, q => by
    simp only [PyData.canLayAll0, Bool.and_eq_true] at c
    simp only [RepDs] at q
    obtain ⟨v, r, rfl, q1, q2⟩ := q
    exact .cons (dp_of d v c.1 q1) (go ds r c.2 q2)
theorem dp_t {K : PySem.W.Frag} {S H : Hp} {t : T} {v : V} {fp : List Addr} (i : Same S H) (n : t.noScr = true) (c : SeqAt.shaped t.er = true) (q : RepT K S H t v fp) : Dp K H v t.er :=
  dp_of _ _ (SeqAt.canLay_of_shaped c) (RepT.share i t v fp n (fun _ _ _ e => e) q)
def eqD (a b : D) : Bool := PyData.eqv a b
/-- flat ones are told apart by themselves -/
def fEqF (x y : T) : Option T := match x, y with
  | .sh (.int i), .sh (.int j) => some (.sh (.bool (decide (i = j))))
  | .sh (.bool i), .sh (.bool j) => some (.sh (.bool (decide (i = j))))
  | .sh (.str i), .sh (.str j) => some (.sh (.bool (decide (i = j))))
  | .sh .none, .sh .none => some (.sh (.bool true))
  | .sh .none, .sh (.int _) => some (.sh (.bool false))
  | .sh (.int _), .sh .none => some (.sh (.bool false))
  | _, _ => none
def fEqG (x y : T) : Option T := if (x.noScr && y.noScr && SeqAt.shaped x.er && SeqAt.shaped y.er) then some (.sh (.bool (eqD x.er y.er))) else none
def fEq (x y : T) : Option T := (fEqF x y).or (fEqG x y)
def fNot (o : Option T) : Option T := match o with
  | some (.sh (.bool b)) => some (.sh (.bool (!b)))
  | _ => none
def fNe (x y : T) : Option T := fNot (fEq x y)
theorem sem_eqF {K : PySem.W.Frag} : SemOp K rEq fEqF := by
  intro S H x y vx vy fx fy Q t i qx qy e R
  unfold fEqF at e
  split at e <;> first | (cases e; done) | skip
  all_goals
    (cases e
     have q1 := rep_sh qx
     have q2 := rep_sh qy
     simp only [RepD] at q1 q2
     subst q1
     subst q2
     refine ⟨rfl, ?_⟩)
  · rename_i a b
    have : decide (V.int a = V.int b) = decide (a = b) := by simp
    rw [this]; exact R.flat i fun _ => by simp only [RepD]
  · rename_i a b
    have : decide (V.bl a = V.bl b) = decide (a = b) := by simp
    rw [this]; exact R.flat i fun _ => by simp only [RepD]
  · rename_i a b
    have : decide (V.str a = V.str b) = decide (a = b) := by simp
    rw [this]; exact R.flat i fun _ => by simp only [RepD]
  · exact R.flat i fun _ => by simp only [RepD]; decide
  · exact R.flat i fun _ => by simp only [RepD]; simp
  · exact R.flat i fun _ => by simp only [RepD]; simp
theorem sem_eqG {K : PySem.W.Frag} : SemOp K (rEqD K) fEqG := by
  intro S H x y vx vy fx fy Q t i qx qy e R
  unfold fEqG at e
  split at e
  · rename_i h
    simp only [Bool.and_eq_true] at h
    obtain ⟨⟨⟨h1, h2⟩, h3⟩, h4⟩ := h
    cases e
    exact ⟨x.er, y.er, dp_t i h1 h3 qx, dp_t i h2 h4 qy, h3, h4, R.flat i fun _ => by simp only [RepD, eqD]⟩
  · cases e
abbrev rEqs (K : PySem.W.Frag) : R2 := orR rEq (rEqD K)
abbrev rNes (K : PySem.W.Frag) : R2 := orR rNe (rNeD K)
theorem sem_eq {K : PySem.W.Frag} : SemOp K (rEqs K) fEq := sem_eqF.or (sem_eqG (K := K))
theorem op_eqs {X : Cx} (hu : X.A.units + 64 < cLine) : OpR X (compareOp .Eq) (rEqs X.K) := op_eq.or (op_eqD hu)
/-- != is the other answer of == -/
theorem sem_ne {K : PySem.W.Frag} : SemOp K (rNes K) fNe := by
  intro S H x y vx vy fx fy Q t i qx qy e R
  unfold fNe at e
  cases ee : fEq x y with
  | none => rw [ee] at e; cases e
  | some z =>
    rw [ee] at e
    have ⟨b, hb⟩ : ∃ b, z = .sh (.bool b) := by
      unfold fNot at e
      split at e
      · rename_i z' b hz
        cases hz
        exact ⟨b, rfl⟩
      · cases e
    subst hb
    have e : some (T.sh (.bool (!b))) = some t := e
    cases e
    have fin : ∀ c, c = b → Q (.bl (!c)) H := fun c hc => by subst hc; exact R.flat i fun _ => by simp only [RepD]
    have h2 := sem_eq (K := K) S H x y vx vy fx fy (fun v H' => v = .bl b) (.sh (.bool b)) i qx qy ee (fun v S' H' fp g q _ _ => by
      have := rep_sh q
      simpa only [RepD] using this)
    rcases h2 with ⟨h1, h2⟩ | ⟨d, e', h1, h2, h3, h4, h5⟩
    · refine .inl ⟨h1, fin _ ?_⟩
      exact V.bl.inj h2
    · exact .inr ⟨d, e', h1, h2, h3, h4, fin _ (V.bl.inj h5)⟩
theorem op_nes {X : Cx} (hu : X.A.units + 64 < cLine) : OpR X (compareOp .NotEq) (rNes X.K) := op_ne.or (op_neD hu)
/-! is None -/
def T.isN : T → Bool
  | .sh .none => true
  | _ => false
def fIsN (x y : T) : Option T := match y with
  | .sh .none => some (.sh (.bool x.isN))
  | _ => none
def fNotN (x y : T) : Option T := match y with
  | .sh .none => some (.sh (.bool (!x.isN)))
  | _ => none
theorem isN_rep {K : PySem.W.Frag} {S H : Hp} {t : T} {v : V} {fp : List Addr} (q : RepT K S H t v fp) : decide (v = .non) = t.isN := by
  cases t with
  | sh d =>
    have q := rep_sh q
    cases d <;> simp only [RepD] at q
    · subst q; rfl
    · subst q; rfl
    · subst q; rfl
    · subst q; rfl
    · obtain ⟨a, vs, rfl, _⟩ := q; rfl
    · obtain ⟨a, vs, rfl, _⟩ := q; rfl
    · obtain ⟨a, vs, rfl, _⟩ := q; rfl
  | scr ns => simp only [RepT] at q; obtain ⟨_, a, rfl, _⟩ := q; rfl
  | ol ds => simp only [RepT] at q; obtain ⟨a, vs, rfl, _⟩ := q; rfl
  | od ds => simp only [RepT] at q; obtain ⟨a, vs, rfl, _⟩ := q; rfl
  | ot ds => simp only [RepT] at q; obtain ⟨a, vs, f, rfl, _⟩ := q; rfl
  | tu ds => simp only [RepT] at q; obtain ⟨a, vs, f, rfl, _⟩ := q; rfl
theorem sem_isN {K : PySem.W.Frag} : SemOp K (fun x y H Q => y = .non ∧ Q (.bl (decide (x = .non))) H) fIsN := by
  intro S H x y vx vy fx fy Q t i qx qy e R
  unfold fIsN at e
  split at e
  · cases e
    refine ⟨by have := rep_sh qy; simpa only [RepD] using this, ?_⟩
    rw [isN_rep qx]
    exact R.flat i fun _ => by simp only [RepD]
  · cases e
theorem sem_notN {K : PySem.W.Frag} : SemOp K (fun x y H Q => y = .non ∧ Q (.bl (!decide (x = .non))) H) fNotN := by
  intro S H x y vx vy fx fy Q t i qx qy e R
  unfold fNotN at e
  split at e
  · cases e
    refine ⟨by have := rep_sh qy; simpa only [RepD] using this, ?_⟩
    rw [isN_rep qx]
    exact R.flat i fun _ => by simp only [RepD]
  · cases e

/-! ### in -/
theorem eqV_rep {S : Hp} {d e : D} {v w : V} (fd : flatD d = true) (fe : flatD e = true) (q : RepD S d v) (r : RepD S e w) : eqV v w = PyData.eqv d e ∧ flatV v = true ∧ flatV w = true := by
  cases d <;> simp only [flatD, Bool.false_eq_true] at fd <;> cases e <;> simp only [flatD, Bool.false_eq_true] at fe <;> (simp only [RepD] at q r; subst q; subst r; simp [eqV, PyData.eqv, flatV])
theorem inV_rep {S : Hp} {e : D} {w : V} (fe : flatD e = true) (r : RepD S e w) : ∀ {ds : List D} {vs : List V}, ds.all flatD = true → RepDs S ds vs → inV w vs = ds.any (fun z => PyData.eqv z e) ∧ vs.all flatV = true
  | [], _, _, q => by simp only [RepDs] at q; subst q; exact ⟨rfl, rfl⟩
  | d :: ds, _, f, q => by
    rw [List.all_cons, Bool.and_eq_true] at f
    simp only [RepDs] at q
    obtain ⟨v, vs, rfl, q1, q2⟩ := q
    obtain ⟨h1, h2⟩ := inV_rep fe r f.2 q2
    obtain ⟨h3, h4, _⟩ := eqV_rep f.1 fe q1 r
    constructor
    · show (eqV v w || inV w vs) = _
      rw [h1, h3, List.any_cons]
    · rw [List.all_cons, h2, h4]; rfl
theorem flatW {S : Hp} {e : D} {w : V} (fe : flatD e = true) (r : RepD S e w) : flatV w = true := by
  cases e <;> simp only [flatD, Bool.false_eq_true] at fe <;> (simp only [RepD] at r; subst r; rfl)
def T.seqs (t : T) : Option (List D) := t.lits.or t.tups
theorem seqs_rep {K : PySem.W.Frag} {S H : Hp} {t : T} {v : V} {fp : List Addr} {ds : List D} (i : Same S H) (q : RepT K S H t v fp) (e : t.seqs = some ds) : ∃ a vs, v = .ref a ∧ (SqL K H a vs ∨ SqT K H a vs) ∧ RepDs S ds vs := by
  unfold T.seqs at e
  cases e1 : t.lits with
  | some es =>
    rw [e1] at e
    cases e
    obtain ⟨a, vs, e2, h, r⟩ := lits_rep i q e1
    exact ⟨a, vs, e2, .inl (.of h), r⟩
  | none =>
    rw [e1] at e
    obtain ⟨a, vs, e2, h, r⟩ := tups_rep q (by simpa using e)
    exact ⟨a, vs, e2, .inr (h.same (i _)).sq, r⟩
def fInF (neg : Bool) (x y : T) : Option T := match x, y.seqs with
  | .sh d, some ds => if (flatD d && ds.all flatD) then some (.sh (.bool (if neg then !(ds.any fun z => eqD z d) else ds.any fun z => eqD z d))) else none
  | _, _ => none
theorem sem_inF {K : PySem.W.Frag} (neg : Bool) : SemOp K (rIn K neg) (fInF neg) := by
  intro S H x y vx vy fx fy Q t i qx qy e R
  unfold fInF at e
  split at e
  · rename_i d ds es
    split at e
    · rename_i h
      rw [Bool.and_eq_true] at h
      cases e
      obtain ⟨a, vs, rfl, sq, r⟩ := seqs_rep i qy es
      have qd := rep_sh qx
      obtain ⟨h1, h2⟩ := inV_rep h.1 qd h.2 r
      refine ⟨a, vs, rfl, sq, flatW h.1 qd, h2, ?_⟩
      rw [h1]
      exact R.flat i fun _ => by simp only [RepD, eqD]
    · cases e
  · cases e
def fInG (neg : Bool) (x y : T) : Option T := match y.lits with
  | some ds => if (x.noScr && SeqAt.shaped x.er && SeqAt.shaped (.list ds)) then some (.sh (.bool (if neg then !(ds.any fun z => eqD z x.er) else ds.any fun z => eqD z x.er))) else none
  | none => none
theorem sem_inG {K : PySem.W.Frag} : SemOp K (rInD K) (fInG false) := by
  intro S H x y vx vy fx fy Q t i qx qy e R
  unfold fInG at e
  split at e
  · rename_i ds es
    split at e
    · rename_i h
      simp only [Bool.and_eq_true] at h
      obtain ⟨⟨h1, h2⟩, h3⟩ := h
      cases e
      obtain ⟨a, vs, rfl, hp, r⟩ := lits_rep i qy es
      refine ⟨x.er, ds, dp_t i h1 h2 qx, dp_of _ _ (SeqAt.canLay_of_shaped h3) ?_, h2, h3, R.flat i fun _ => by simp only [RepD, eqD]; rfl⟩
      simp only [RepD]
      exact ⟨a, vs, rfl, hp, RepDs.mono i _ _ r⟩
    · cases e
  · cases e
theorem sem_ninG {K : PySem.W.Frag} : SemOp K (rNotInD K) (fInG true) := by
  intro S H x y vx vy fx fy Q t i qx qy e R
  unfold fInG at e
  split at e
  · rename_i ds es
    split at e
    · rename_i h
      simp only [Bool.and_eq_true] at h
      obtain ⟨⟨h1, h2⟩, h3⟩ := h
      cases e
      obtain ⟨a, vs, rfl, hp, r⟩ := lits_rep i qy es
      refine ⟨x.er, ds, dp_t i h1 h2 qx, dp_of _ _ (SeqAt.canLay_of_shaped h3) ?_, h2, h3, R.flat i fun _ => by simp only [RepD, eqD]; rfl⟩
      simp only [RepD]
      exact ⟨a, vs, rfl, hp, RepDs.mono i _ _ r⟩
    · cases e
  · cases e
end PL
set_option Elab.async false
set_option linter.all false
set_option maxRecDepth 100000
/-! PL6: subscripts, slices, built-in calls. -/
namespace PL
open PySem PySem.Spec L2

/-! ### subscripts: views -/
def SemOpV (K : PySem.W.Frag) (r : R2) (f : T → T → Option T) : Prop :=
  ∀ S H x y vx vy fx fy Q t, Same S H → RepT K S H x vx fx → RepT K S H y vy fy → f x y = some t → (∀ v fp, RepT K S H t v fp → Q v H) → r vx vy H Q
theorem SemOpV.or {K : PySem.W.Frag} {r r' : R2} {f f' : T → T → Option T} (h : SemOpV K r f) (h' : SemOpV K r' f') : SemOpV K (orR r r') (fun x y => (f x y).or (f' x y)) :=
  fun S H x y vx vy fx fy Q t i qx qy e R => by
    have e : (f x y).or (f' x y) = some t := e
    cases e1 : f x y with
    | some z =>
      rw [e1] at e
      exact .inl (h S H x y vx vy fx fy Q t i qx qy (e1.trans (by simpa using e)) R)
    | none =>
      rw [e1] at e
      exact .inr (h' S H x y vx vy fx fy Q t i qx qy (by simpa using e) R)
section
variable {X : Cx} {W : WX} {a b : Expr} {ta tb : TE} {ea eb : En → Rs T} {pos : Pos} {r : R2} {f : T → T → Option T}
theorem sem_binV {K : PySem.W.Frag} {mg : Str → Option Value} (hs : SemOpV K r f) (ha : SemV K mg W ta ea) (hb : SemV K mg W tb eb) : SemV K mg W (tOp r ta tb) (evBin f ea eb) := by
  intro E S φ ρ σ H Q I h
  refine ha E S φ ρ σ H _ I (h.bind.imp (fun x hx vx S1 H1 fx g1 qx => ?_) fun _ z => z)
  refine hb E S1 φ ρ σ H1 _ (I.grow g1) (hx.bind.imp (fun y hy vy S2 H2 fy g2 qy => ?_) fun _ z S' H' g => z S' H' (g1.trans g))
  have g := g1.trans g2
  obtain ⟨t, e, ht⟩ := hy.rsO
  exact hs S2 H2 x y vx vy fx fy Q t g2.i (qx.grow g2.s g2.h) qy e fun v fp q => ht v S2 H2 fp g q
end
theorem atI_rep {S : Hp} {ds : List D} {vs : List V} {k : Int} {d : D} (r : RepDs S ds vs) (e : atI ds k = some d) : ∃ v, atI vs k = some v ∧ RepD S d v := by
  unfold atI at e ⊢
  rw [r.length]
  cases h : ixN ds.length k with
  | none => rw [h] at e; cases e
  | some j =>
    rw [h] at e
    exact r.get e
theorem RepTs.get {K : PySem.W.Frag} {S H : Hp} : ∀ {ts : List T} {vs : List V} {fp : List Addr} {i : Nat} {t : T}, RepTs K S H ts vs fp → ts[i]? = some t → ∃ v f, vs[i]? = some v ∧ RepT K S H t v f
  | [], _, _, i, t, q, e => by simp at e
  | c :: ts, _, _, i, t, q, e => by
    simp only [RepTs] at q
    obtain ⟨v, r, f, g, rfl, _, q1, q2⟩ := q
    cases i with
    | zero => simp at e; subst e; exact ⟨v, f, rfl, q1⟩
    | succ i => exact RepTs.get (i := i) q2 (by simpa using e)
theorem atI_repT {K : PySem.W.Frag} {S H : Hp} {ts : List T} {vs : List V} {fp : List Addr} {k : Int} {t : T} (r : RepTs K S H ts vs fp) (e : atI ts k = some t) : ∃ v f, atI vs k = some v ∧ RepT K S H t v f := by
  unfold atI at e ⊢
  rw [r.length]
  cases h : ixN ts.length k with
  | none => rw [h] at e; cases e
  | some j =>
    rw [h] at e
    exact r.get e
theorem atI_map {α β : Type} (f : α → β) (xs : List α) (k : Int) : atI (xs.map f) k = (atI xs k).map f := by
  unfold atI
  rw [List.length_map]
  cases ixN xs.length k with
  | none => rfl
  | some j => simp
def fIx (x y : T) : Option T := match y with
  | .sh (.int k) => (match x with
    | .sh (.list ds) => (atI ds k).map .sh
    | .sh (.tuple ds) => (atI ds k).map .sh
    | .ol ds => (atI ds k).map .sh
    | .ot ts => atI ts k
    | .tu ts => atI ts k
    | .scr ns => (atI ns k).map fun n => .sh (.int n)
    | .sh (.str z) => if z.length ≤ sizeLine then (atI z.cps.toList k).map fun c => .sh (.str ⟨#[c]⟩) else none
    | _ => none)
  | _ => none
theorem omap {α β : Type} {o : Option α} {f : α → β} {b : β} (h : o.map f = some b) : ∃ a, o = some a ∧ f a = b := by
  cases o with
  | none => cases h
  | some a => exact ⟨a, rfl, Option.some.inj h⟩
theorem sem_ix {K : PySem.W.Frag} : SemOpV K (rIx K) fIx := by
  intro S H x y vx vy fx fy Q t i qx qy e R
  unfold fIx at e
  split at e
  · rename_i k
    have qk : vy = .int k := by have := rep_sh qy; simpa only [RepD] using this
    subst qk
    split at e
    · rename_i ds
      obtain ⟨d, e1, rfl⟩ := omap e
      have q := rep_sh qx
      simp only [RepD] at q
      obtain ⟨a, vs, rfl, ha, r⟩ := q
      obtain ⟨v, e2, q⟩ := atI_rep r e1
      exact .inl ⟨a, vs, k, v, rfl, rfl, .of (i _ _ ha), e2, R v [] (rep_d q)⟩
    · rename_i ds
      obtain ⟨d, e1, rfl⟩ := omap e
      have q := rep_sh qx
      simp only [RepD] at q
      obtain ⟨a, vs, rfl, ha, r⟩ := q
      obtain ⟨v, e2, q⟩ := atI_rep r e1
      exact .inr (.inl ⟨a, vs, k, v, rfl, rfl, (ha.same (i _)).sq, e2, R v [] (rep_d q)⟩)
    · rename_i ds
      obtain ⟨d, e1, rfl⟩ := omap e
      simp only [RepT] at qx
      obtain ⟨a, vs, rfl, _, ha, r⟩ := qx
      obtain ⟨v, e2, q⟩ := atI_rep r e1
      exact .inl ⟨a, vs, k, v, rfl, rfl, .of ha, e2, R v [] (rep_d q)⟩
    · rename_i ts
      simp only [RepT] at qx
      obtain ⟨a, vs, f, rfl, _, ha, r⟩ := qx
      obtain ⟨v, f', e2, q⟩ := atI_repT r e
      exact .inl ⟨a, vs, k, v, rfl, rfl, .of ha, e2, R v f' q⟩
    · rename_i ts
      simp only [RepT] at qx
      obtain ⟨a, vs, f, rfl, _, ha, r⟩ := qx
      obtain ⟨v, f', e2, q⟩ := atI_repT r e
      exact .inr (.inl ⟨a, vs, k, v, rfl, rfl, ha.sq, e2, R v f' q⟩)
    · rename_i ns
      obtain ⟨n, e1, rfl⟩ := omap e
      simp only [RepT] at qx
      obtain ⟨_, a, rfl, sq⟩ := qx
      refine .inl ⟨a, ns.map V.int, k, .int n, rfl, rfl, i.seq sq, by rw [atI_map, e1]; rfl, R _ [] (rep_d (by simp only [RepD]))⟩
    · rename_i z
      split at e
      · rename_i hz
        obtain ⟨c, e1, rfl⟩ := omap e
        have q := rep_sh qx
        simp only [RepD] at q
        subst q
        exact .inr (.inr ⟨z, k, c, rfl, rfl, hz, e1, R _ [] (rep_d (by simp only [RepD]))⟩)
      · cases e
    · cases e
  · cases e
section
variable {X : Cx} {W : WX} {a b : Expr} {ta tb : TE} {ea eb : En → Rs T} {pos : Pos}
theorem dv_ixS (ha : DV X W a ta ea) (hb : DV X W b tb eb) (hs : PlainIx b := by exact fun _ _ => rfl) : DV X W (.Subscript a b pos) (tOp (rIx X.K) ta tb) (evBin fIx ea eb) :=
  ⟨pe_ix ix_seq ha.pe hb.pe hs, sem_binV sem_ix ha.sm hb.sm⟩
end

/-! ### slices -/
def SemO (K : PySem.W.Frag) (mg : Str → Option Value) (W : WX) (to : TO) (eo : En → Rs (Option Int)) : Prop :=
  ∀ E S φ ρ σ H Q, StInv K E S φ ρ σ H → RsOK (eo ρ) (fun o => ∀ S' H', Grow S H S' H' → Q o H') (fun c => ∀ S' H', Grow S H S' H' → XOK mg W c σ H') → to σ H Q
structure DO (X : Cx) (W : WX) (e : Option Expr) (to : TO) (eo : En → Rs (Option Int)) : Prop where
  po : PO X e to
  sm : SemO X.K X.mg W to eo
def eoN : En → Rs (Option Int) := fun _ => .ok none
def eoS (ev : En → Rs T) : En → Rs (Option Int) := fun ρ => (ev ρ).bind fun t => (rsO t.asI).bind fun i => .ok (some i)
def SemSl (K : PySem.W.Frag) (r : V → Option Int → Option Int → Hp → VK → Prop) (f : T → Option Int → Option Int → Option T) : Prop :=
  ∀ S H x vx fx lo hi Q t, Same S H → RepT K S H x vx fx → f x lo hi = some t → Ret K S H t Q → r vx lo hi H Q
def evSl (f : T → Option Int → Option Int → Option T) (ea : En → Rs T) (el eh : En → Rs (Option Int)) : En → Rs T := fun ρ => (ea ρ).bind fun x => (el ρ).bind fun l => (eh ρ).bind fun h => rsO (f x l h)
section
variable {X : Cx} {W : WX} {a e : Expr} {te ta : TE} {ev ea : En → Rs T} {pos p2 : Pos} {r : V → Option Int → Option Int → Hp → VK → Prop} {f : T → Option Int → Option Int → Option T} {lo hi : Option Expr} {tl th : TO} {el eh : En → Rs (Option Int)}
theorem do_none : DO X W none tNoPart eoN := ⟨po_none, fun E S φ ρ σ H Q I r => r S H (.refl I.gr.i)⟩
theorem do_some (h : DV X W e te ev) : DO X W (some e) (tPart te) (eoS ev) := by
  refine ⟨po_some h.pe, fun E S φ ρ σ H Q I q => ?_⟩
  refine h.sm E S φ ρ σ H _ I (q.bind.imp (fun t ht v S' H' fp g q => ?_) fun _ x => x)
  obtain ⟨i, e, ht⟩ := ht.bind.rsO
  exact ⟨i, asI_rep q e, ht S' H' g⟩
theorem de_slice (hr : SlR X r) (hs : SemSl X.K r f) (ha : DV X W a ta ea) (hl : DO X W lo tl el) (hh : DO X W hi th eh) : DE X W (.Subscript a (.Slice lo hi none p2) pos) (tSl r ta tl th) (evSl f ea el eh) [] := by
  refine ⟨pe_slice hr ha.pe hl.po hh.po, fun E S φ ρ σ H Q I h => ?_⟩
  refine ha.sm E S φ ρ σ H _ I (h.bind.imp (fun x hx vx S1 H1 fx g1 qx => ?_) fun _ z => z)
  refine hl.sm E S1 φ ρ σ H1 _ (I.grow g1) (hx.bind.imp (fun l hl S2 H2 g2 => ?_) fun _ z S' H' g => z S' H' (g1.trans g))
  have g12 := g1.trans g2
  refine hh.sm E S2 φ ρ σ H2 _ (I.grow g12) (hl.bind.imp (fun u hu S3 H3 g3 => ?_) fun _ z S' H' g => z S' H' (g12.trans g))
  obtain ⟨t, e, ht⟩ := hu.rsO
  have g23 := g2.trans g3
  exact hs S3 H3 x vx fx l u Q t g3.i (qx.grow g23.s g23.h) e (ht.ret.later (g12.trans g3))
end
def cutD (ds : List D) (lo hi : Option Int) : List D := (ds.drop (HT.sIx ds.length 0 lo)).take (HT.sIx ds.length ds.length hi - HT.sIx ds.length 0 lo)
theorem RepDs.cut {S : Hp} {ds : List D} {vs : List V} (r : RepDs S ds vs) (lo hi : Option Int) : RepDs S (cutD ds lo hi) (cutV vs lo hi) := by
  unfold cutD cutV
  rw [r.length]
  exact (r.drop _).take _
def fSl (x : T) (lo hi : Option Int) : Option T := match x.lits with
  | some ds => some (.ol (cutD ds lo hi))
  | none => match x with
    | .sh (.tuple ds) => some (.sh (.tuple (cutD ds lo hi)))
    | .sh (.str z) => if z.length ≤ sizeLine then some (.sh (.str (cutS z lo hi))) else none
    | _ => none
abbrev rSlAll (K : PySem.W.Frag) : V → Option Int → Option Int → Hp → VK → Prop := fun x lo hi H Q => rSlL K x lo hi H Q ∨ (fun x lo hi H Q => rSlF K x lo hi H Q ∨ rSlS x lo hi H Q) x lo hi H Q
theorem sl_all {X : Cx} : SlR X (rSlAll X.K) := sl_list.or (sl_tupF.or sl_str)
theorem sem_sl {K : PySem.W.Frag} : SemSl K (rSlAll K) fSl := by
  intro S H x vx fx lo hi Q t i qx e R
  unfold fSl at e
  split at e
  · rename_i ds ex
    cases e
    obtain ⟨a, vs, rfl, ha, r⟩ := lits_rep i qx ex
    exact .inl ⟨a, vs, rfl, .of ha, fun p hp => R.lst i (r.cut lo hi) hp⟩
  · split at e
    · rename_i ds _
      cases e
      have q := rep_sh qx
      have q0 := q
      simp only [RepD] at q
      obtain ⟨a, vs, rfl, ha, r⟩ := q
      refine .inr (.inl ⟨a, vs, rfl, (ha.same (i _)).sq, fun z => ?_, R.tup i (r.cut lo hi)⟩)
      refine R.old i ?_
      simp only [RepD]
      refine ⟨a, vs, rfl, ha, ?_⟩
      have := r.cut lo hi
      rwa [z] at this
    · rename_i z _
      split at e
      · rename_i hz
        cases e
        have q := rep_sh qx
        simp only [RepD] at q
        subst q
        exact .inr (.inr ⟨z, rfl, hz, R.flat i fun _ => by simp only [RepD]⟩)
      · cases e
    · cases e
/-- [::-1] of a list -/
def fRev (x : T) : Option T := match x.lits with
  | some ds => some (.ol ds.reverse)
  | none => none
def evUn (f : T → Option T) (ea : En → Rs T) : En → Rs T := fun ρ => (ea ρ).bind fun x => rsO (f x)
section
variable {X : Cx} {W : WX} {a e : Expr} {te ta : TE} {ev ea : En → Rs T} {pos : Pos}
theorem de_rev {k : Nat} {p1 p2 p3 : Pos} (ha : DV X W a ta ea) : DE X W (.Subscript a (.Slice none none (some (.UnaryOp .USub (.Constant (.int 1) k p1) p2)) p3) pos) (tRevL X.K ta) (evUn fRev ea) [] := by
  refine ⟨pe_revL ha.pe, fun E S φ ρ σ H Q I h => ?_⟩
  refine ha.sm E S φ ρ σ H _ I (h.bind.imp (fun x hx vx S1 H1 fx g1 qx => ?_) fun _ z => z)
  obtain ⟨t, e, ht⟩ := hx.rsO
  unfold fRev at e
  split at e
  · rename_i ds ex
    cases e
    obtain ⟨a, vs, rfl, ha, r⟩ := lits_rep g1.i qx ex
    exact ⟨a, vs, rfl, .of ha, fun p hp => (ht.ret.later g1).lst g1.i r.rev hp⟩
  · cases e
/-- -x -/
def fNeg (x : T) : Option T := match x with
  | .sh (.int i) => some (.sh (.int (-i)))
  | _ => none
theorem de_neg (ha : DV X W a ta ea) : DE X W (.UnaryOp .USub a pos) (tUn (rU fun i => .int (-i)) ta) (evUn fNeg ea) [] := by
  refine ⟨pe_un un_neg ha.pe, fun E S φ ρ σ H Q I h => ?_⟩
  refine ha.sm E S φ ρ σ H _ I (h.bind.imp (fun x hx vx S1 H1 fx g1 qx => ?_) fun _ z => z)
  obtain ⟨t, e, ht⟩ := hx.rsO
  unfold fNeg at e
  split at e
  · rename_i i
    cases e
    exact ⟨i, by have := rep_sh qx; simpa only [RepD] using this, (ht.ret.later g1).flat g1.i fun _ => by simp only [RepD]⟩
  · cases e
end

/-! ### built-in calls -/
def SemC (K : PySem.W.Frag) (r : List V → Hp → VK → Prop) (f : List T → Option T) : Prop :=
  ∀ S H ts vs Q t, Same S H → Views K S H ts vs → f ts = some t → Ret K S H t Q → r vs H Q
theorem SemC.or {K : PySem.W.Frag} {r r' : List V → Hp → VK → Prop} {f f' : List T → Option T} (h : SemC K r f) (h' : SemC K r' f') : SemC K (fun xs H Q => r xs H Q ∨ r' xs H Q) (fun ts => (f ts).or (f' ts)) :=
  fun S H ts vs Q t i q e R => by
    have e : (f ts).or (f' ts) = some t := e
    cases e1 : f ts with
    | some z =>
      rw [e1] at e
      exact .inl (h S H ts vs Q t i q (e1.trans (by simpa using e)) R)
    | none =>
      rw [e1] at e
      exact .inr (h' S H ts vs Q t i q (by simpa using e) R)
def evC1 (f : List T → Option T) (er : En → Rs (List T)) : En → Rs T := fun ρ => (er ρ).bind fun ts => rsO (f ts)
section
variable {X : Cx} {W : WX} {e : Expr} {es : List Expr} {tr : TA} {er : En → Rs (List T)} {pos p : Pos} {x : Str} {id Ty : String} {r : List V → Hp → VK → Prop} {f : List T → Option T}
theorem sem_call {K : PySem.W.Frag} {mg : Str → Option Value} (hs : SemC K r f) (ha : SemAs K mg W tr er) : SemE K mg W (tCB r tr) (evC1 f er) [] := by
  intro E S φ ρ σ H Q I h
  refine ha E S φ ρ σ H _ I (h.bind.imp (fun ts hts vs S1 H1 g1 q1 => ?_) fun _ z => z)
  obtain ⟨t, e, ht⟩ := hts.rsO
  exact hs S1 H1 ts vs Q t g1.i q1 e (ht.ret.later g1)
theorem de_callB (hc : CallR X (.builtin id) r) (hs : SemC X.K r f) (hg : Gl X x) (hm : X.mg x = none) (hv : bootBuiltins x = some (.builtin id)) (ha : DAs X W (e :: es) tr er) (hn : x ≠ "__name__" := by decide) (hdb : (x == ("__debug__" : Str)) = false := by decide)
    (he : starEach (e :: es) X.env = (false, eval e X.env) :: starEach es X.env := by rfl) (hpl : (backTo pos (starEach es X.env)).any (·.1) = false := by rfl) : DE X W (.Call (.Name x p) (e :: es) [] pos) (tCB r tr) (evC1 f er) [] :=
  ⟨pe_callB hc hg hm hv ha.pe hn hdb he hpl, sem_call hs ha.sm⟩
theorem de_callTy (hc : CallR X (.type Ty) r) (hs : SemC X.K r f) (hg : Gl X x) (hm : X.mg x = none) (hv : bootBuiltins x = some (.type Ty)) (ha : DAs X W (e :: es) tr er) (hn : x ≠ "__name__" := by decide) (hdb : (x == ("__debug__" : Str)) = false := by decide)
    (he : starEach (e :: es) X.env = (false, eval e X.env) :: starEach es X.env := by rfl) (hpl : (backTo pos (starEach es X.env)).any (·.1) = false := by rfl) : DE X W (.Call (.Name x p) (e :: es) [] pos) (tCB r tr) (evC1 f er) [] :=
  ⟨pe_callTy hc hg hm hv ha.pe hn hdb he hpl, sem_call hs ha.sm⟩
end
/-- one argument -/
def f1 (g : T → Option T) (ts : List T) : Option T := match ts with
  | [t] => g t
  | _ => none
theorem f1_some {g : T → Option T} {ts : List T} {t : T} (e : f1 g ts = some t) : ∃ x, ts = [x] ∧ g x = some t := by
  unfold f1 at e
  split at e
  · exact ⟨_, rfl, e⟩
  · cases e
theorem views1 {K : PySem.W.Frag} {S H : Hp} {x : T} {vs : List V} (q : Views K S H [x] vs) : ∃ v fp, vs = [v] ∧ RepT K S H x v fp := by
  obtain ⟨v, r, fp, rfl, q, rfl⟩ := q
  exact ⟨v, fp, rfl, q⟩
theorem views2 {K : PySem.W.Frag} {S H : Hp} {x y : T} {vs : List V} (q : Views K S H [x, y] vs) : ∃ v w fp fq, vs = [v, w] ∧ RepT K S H x v fp ∧ RepT K S H y w fq := by
  obtain ⟨v, r, fp, rfl, q, w, r, fq, rfl, q', rfl⟩ := q
  exact ⟨v, w, fp, fq, rfl, q, q'⟩
/-! len -/
def T.len : T → Option Nat
  | .sh (.list ds) => some ds.length
  | .sh (.tuple ds) => some ds.length
  | .sh (.str z) => if z.length ≤ sizeLine then some z.length else none
  | .scr ns => some ns.length
  | .ol ds => some ds.length
  | .ot ts => some ts.length
  | .tu ts => some ts.length
  | _ => none
theorem len_rep {K : PySem.W.Frag} {S H : Hp} {t : T} {v : V} {fp : List Addr} {n : Nat} (i : Same S H) (q : RepT K S H t v fp) (e : t.len = some n) : LenV K v H n := by
  unfold T.len at e
  split at e
  · cases e
    have q := rep_sh q
    simp only [RepD] at q
    obtain ⟨a, vs, rfl, h, r⟩ := q
    exact .inl ⟨vs, .of (i _ _ h), r.length.symm⟩
  · cases e
    have q := rep_sh q
    simp only [RepD] at q
    obtain ⟨a, vs, rfl, h, r⟩ := q
    exact .inr ⟨vs, (h.same (i _)).sq, r.length.symm⟩
  · split at e
    · rename_i hz
      cases e
      have q := rep_sh q
      simp only [RepD] at q
      subst q
      exact ⟨hz, rfl⟩
    · cases e
  · cases e
    simp only [RepT] at q
    obtain ⟨_, a, rfl, sq⟩ := q
    exact .inl ⟨_, i.seq sq, by rw [List.length_map]⟩
  · cases e
    simp only [RepT] at q
    obtain ⟨a, vs, rfl, _, h, r⟩ := q
    exact .inl ⟨vs, .of h, r.length.symm⟩
  · cases e
    simp only [RepT] at q
    obtain ⟨a, vs, f, rfl, _, h, r⟩ := q
    exact .inl ⟨vs, .of h, r.length.symm⟩
  · cases e
    simp only [RepT] at q
    obtain ⟨a, vs, f, rfl, _, h, r⟩ := q
    exact .inr ⟨vs, h.sq, r.length.symm⟩
  · cases e
def fLen : List T → Option T := f1 fun t => t.len.map fun (n : Nat) => T.sh (PyData.int (n : Int))
abbrev rLenS (K : PySem.W.Frag) : List V → Hp → VK → Prop := fun xs H Q => ∃ x n, xs = [x] ∧ LenV K x H n ∧ Q (.int n) H
theorem sem_len {K : PySem.W.Frag} : SemC K (rLenS K) fLen := by
  intro S H ts vs Q t i q e R
  obtain ⟨x, hx, e0⟩ := f1_some e
  clear e
  subst hx
  obtain ⟨v, fp, hv, q0⟩ := views1 q
  clear q
  subst hv
  have e := e0
  have q := q0
  clear e0 q0
  obtain ⟨n, e1, rfl⟩ := omap e
  exact ⟨v, n, rfl, len_rep i q e1, R.flat i fun _ => by simp only [RepD]⟩
/-! int, abs, min, max, str -/
def fInt1 : List T → Option T := f1 fun t => match t with
  | .sh (.int i) => some (.sh (.int i))
  | .sh (.bool b) => some (.sh (.int (if b then 1 else 0)))
  | _ => none
abbrev rInt1 : List V → Hp → VK → Prop := fun xs H Q => (∃ i, xs = [.int i] ∧ Q (.int i) H) ∨ ∃ k, xs = [.bl k] ∧ Q (.int (if k then 1 else 0)) H
theorem sem_int1 {K : PySem.W.Frag} : SemC K rInt1 fInt1 := by
  intro S H ts vs Q t i q e R
  obtain ⟨x, hx, e0⟩ := f1_some e
  clear e
  subst hx
  obtain ⟨v, fp, hv, q0⟩ := views1 q
  clear q
  subst hv
  have e := e0
  have q := q0
  clear e0 q0
  split at e
  · rename_i k
    cases e
    exact .inl ⟨k, by have := rep_sh q; simp only [RepD] at this; rw [this], R.flat i fun _ => by simp only [RepD]⟩
  · rename_i k
    cases e
    exact .inr ⟨k, by have := rep_sh q; simp only [RepD] at this; rw [this], R.flat i fun _ => by simp only [RepD]⟩
  · cases e
def fAbs : List T → Option T := f1 fun t => match t with
  | .sh (.int i) => some (.sh (.int (if i < 0 then -i else i)))
  | _ => none
theorem sem_abs {K : PySem.W.Frag} : SemC K (fun xs H Q => ∃ i, xs = [.int i] ∧ Q (.int (if i < 0 then -i else i)) H) fAbs := by
  intro S H ts vs Q t i q e R
  obtain ⟨x, hx, e0⟩ := f1_some e
  clear e
  subst hx
  obtain ⟨v, fp, hv, q0⟩ := views1 q
  clear q
  subst hv
  have e := e0
  have q := q0
  clear e0 q0
  split at e
  · rename_i k
    cases e
    exact ⟨k, by have := rep_sh q; simp only [RepD] at this; rw [this], R.flat i fun _ => by simp only [RepD]⟩
  · cases e
def f2Is (g : Int → Int → Int) (ts : List T) : Option T := match ts with
  | [.sh (.int i), .sh (.int j)] => some (.sh (.int (g i j)))
  | _ => none
theorem sem_2Is {K : PySem.W.Frag} {g : Int → Int → Int} : SemC K (fun xs H Q => ∃ i j, xs = [.int i, .int j] ∧ Q (.int (g i j)) H) (f2Is g) := by
  intro S H ts vs Q t i q e R
  unfold f2Is at e
  split at e
  · rename_i a b
    cases e
    obtain ⟨v, w, fp, fq, rfl, q1, q2⟩ := views2 q
    have h1 := rep_sh q1
    have h2 := rep_sh q2
    simp only [RepD] at h1 h2
    exact ⟨a, b, by rw [h1, h2], R.flat i fun _ => by simp only [RepD]⟩
  · cases e
def fMax2 : List T → Option T := f2Is fun i j => if j > i then j else i
def fMin2 : List T → Option T := f2Is fun i j => if j < i then j else i
/-! lists of ints, of bools -/
def intsD : List D → Option (List Int)
  | [] => some []
  | .int i :: ds => (intsD ds).map (i :: ·)
  | _ :: _ => none
def boolsD : List D → Option (List Bool)
  | [] => some []
  | .bool i :: ds => (boolsD ds).map (i :: ·)
  | _ :: _ => none
theorem intsD_rep {S : Hp} : ∀ {ds : List D} {vs : List V} {ns : List Int}, intsD ds = some ns → RepDs S ds vs → vs = ns.map V.int
  | [], vs, ns, e, q => by cases e; simp only [RepDs] at q; rw [q]; rfl
  | d :: ds, vs, ns, e, q => by
    cases d with
    | int i =>
      obtain ⟨r, e1, rfl⟩ := omap (show (intsD ds).map (i :: ·) = some ns from e)
      simp only [RepDs, RepD] at q
      obtain ⟨v, w, rfl, rfl, q2⟩ := q
      rw [intsD_rep e1 q2]; rfl
    | _ => cases e
theorem boolsD_rep {S : Hp} : ∀ {ds : List D} {vs : List V} {ns : List Bool}, boolsD ds = some ns → RepDs S ds vs → vs = ns.map V.bl
  | [], vs, ns, e, q => by cases e; simp only [RepDs] at q; rw [q]; rfl
  | d :: ds, vs, ns, e, q => by
    cases d with
    | bool i =>
      obtain ⟨r, e1, rfl⟩ := omap (show (boolsD ds).map (i :: ·) = some ns from e)
      simp only [RepDs, RepD] at q
      obtain ⟨v, w, rfl, rfl, q2⟩ := q
      rw [boolsD_rep e1 q2]; rfl
    | _ => cases e
theorem intsD_map : ∀ ns : List Int, intsD (ns.map PyData.int) = some ns
  | [] => rfl
  | n :: ns => by simp [intsD, intsD_map ns]
theorem boolsD_map : ∀ ns : List Bool, boolsD (ns.map PyData.bool) = some ns
  | [] => rfl
  | n :: ns => by simp [boolsD, boolsD_map ns]
def T.ints (t : T) : Option (List Int) := t.lits.bind intsD
def T.bools (t : T) : Option (List Bool) := t.lits.bind boolsD
theorem obind {α β : Type} {o : Option α} {f : α → Option β} {b : β} (h : o.bind f = some b) : ∃ a, o = some a ∧ f a = some b := by
  cases o with
  | none => cases h
  | some a => exact ⟨a, rfl, h⟩
theorem ints_rep {K : PySem.W.Frag} {S H : Hp} {t : T} {v : V} {fp : List Addr} {ns : List Int} (i : Same S H) (q : RepT K S H t v fp) (e : t.ints = some ns) : ∃ a, v = .ref a ∧ SqL K H a (ns.map V.int) := by
  obtain ⟨ds, e1, e2⟩ := obind e
  obtain ⟨a, vs, rfl, h, r⟩ := lits_rep i q e1
  rw [intsD_rep e2 r] at h
  exact ⟨a, rfl, .of h⟩
theorem bools_rep {K : PySem.W.Frag} {S H : Hp} {t : T} {v : V} {fp : List Addr} {ns : List Bool} (i : Same S H) (q : RepT K S H t v fp) (e : t.bools = some ns) : ∃ a, v = .ref a ∧ SqL K H a (ns.map V.bl) := by
  obtain ⟨ds, e1, e2⟩ := obind e
  obtain ⟨a, vs, rfl, h, r⟩ := lits_rep i q e1
  rw [boolsD_rep e2 r] at h
  exact ⟨a, rfl, .of h⟩
def fSum : List T → Option T := f1 fun t => t.ints.map fun ns => .sh (.int ns.sum)
theorem sem_sum {K : PySem.W.Frag} : SemC K (rSum K) fSum := by
  intro S H ts vs Q t i q e R
  obtain ⟨x, hx, e0⟩ := f1_some e
  clear e
  subst hx
  obtain ⟨v, fp, hv, q0⟩ := views1 q
  clear q
  subst hv
  have e := e0
  have q := q0
  clear e0 q0
  obtain ⟨ns, e1, rfl⟩ := omap e
  obtain ⟨a, rfl, sq⟩ := ints_rep i q e1
  exact ⟨a, ns, rfl, sq, R.flat i fun _ => by simp only [RepD]⟩
def maxI : List Int → Int
  | [] => 0
  | [x] => x
  | x :: xs => max x (maxI xs)
def minI : List Int → Int
  | [] => 0
  | [x] => x
  | x :: xs => min x (minI xs)
theorem maxI_mem : ∀ {ns : List Int}, ns ≠ [] → maxI ns ∈ ns ∧ ∀ y ∈ ns, y ≤ maxI ns
  | [], h => absurd rfl h
  | [x], _ => by simp [maxI]
  | x :: y :: r, _ => by
    obtain ⟨h1, h2⟩ := maxI_mem (ns := y :: r) (by simp)
    have e : maxI (x :: y :: r) = max x (maxI (y :: r)) := rfl
    rw [e]
    constructor
    · by_cases h : x ≤ maxI (y :: r)
      · rw [Int.max_eq_right h]; exact List.mem_cons_of_mem _ h1
      · rw [Int.max_eq_left (by omega)]; exact List.mem_cons_self
    · intro z hz
      rcases List.mem_cons.mp hz with rfl | hz
      · omega
      · have := h2 z hz; omega
theorem minI_mem : ∀ {ns : List Int}, ns ≠ [] → minI ns ∈ ns ∧ ∀ y ∈ ns, minI ns ≤ y
  | [], h => absurd rfl h
  | [x], _ => by simp [minI]
  | x :: y :: r, _ => by
    obtain ⟨h1, h2⟩ := minI_mem (ns := y :: r) (by simp)
    have e : minI (x :: y :: r) = min x (minI (y :: r)) := rfl
    rw [e]
    constructor
    · by_cases h : minI (y :: r) ≤ x
      · rw [Int.min_eq_right h]; exact List.mem_cons_of_mem _ h1
      · rw [Int.min_eq_left (by omega)]; exact List.mem_cons_self
    · intro z hz
      rcases List.mem_cons.mp hz with rfl | hz
      · omega
      · have := h2 z hz; omega
def fMaxL : List T → Option T := f1 fun t => t.ints.bind fun ns => if ns.isEmpty then none else some (.sh (.int (maxI ns)))
def fMinL : List T → Option T := f1 fun t => t.ints.bind fun ns => if ns.isEmpty then none else some (.sh (.int (minI ns)))
theorem sem_maxL {K : PySem.W.Frag} : SemC K (rMax K) fMaxL := by
  intro S H ts vs Q t i q e R
  obtain ⟨x, hx, e0⟩ := f1_some e
  clear e
  subst hx
  obtain ⟨v, fp, hv, q0⟩ := views1 q
  clear q
  subst hv
  have e := e0
  have q := q0
  clear e0 q0
  obtain ⟨ns, e1, e⟩ := obind e
  obtain ⟨a, rfl, sq⟩ := ints_rep i q e1
  split at e
  · cases e
  · rename_i hn
    cases e
    have hne : ns ≠ [] := by intro z; rw [z] at hn; exact hn rfl
    obtain ⟨h1, h2⟩ := maxI_mem hne
    refine ⟨a, ns, rfl, sq, List.length_pos_iff.mpr hne, fun m hm hb => ?_⟩
    have e : m = maxI ns := Int.le_antisymm (h2 m hm) (hb _ h1)
    subst e
    exact R.flat i fun _ => by simp only [RepD]
theorem sem_minL {K : PySem.W.Frag} : SemC K (rMin K) fMinL := by
  intro S H ts vs Q t i q e R
  obtain ⟨x, hx, e0⟩ := f1_some e
  clear e
  subst hx
  obtain ⟨v, fp, hv, q0⟩ := views1 q
  clear q
  subst hv
  have e := e0
  have q := q0
  clear e0 q0
  obtain ⟨ns, e1, e⟩ := obind e
  obtain ⟨a, rfl, sq⟩ := ints_rep i q e1
  split at e
  · cases e
  · rename_i hn
    cases e
    have hne : ns ≠ [] := by intro z; rw [z] at hn; exact hn rfl
    obtain ⟨h1, h2⟩ := minI_mem hne
    refine ⟨a, ns, rfl, sq, List.length_pos_iff.mpr hne, fun m hm hb => ?_⟩
    have e : m = minI ns := Int.le_antisymm (hb _ h1) (h2 m hm)
    subst e
    exact R.flat i fun _ => by simp only [RepD]
abbrev rMaxA (K : PySem.W.Frag) : List V → Hp → VK → Prop := fun xs H Q => (∃ i j, xs = [.int i, .int j] ∧ Q (.int (if j > i then j else i)) H) ∨ rMax K xs H Q
abbrev rMinA (K : PySem.W.Frag) : List V → Hp → VK → Prop := fun xs H Q => (∃ i j, xs = [.int i, .int j] ∧ Q (.int (if j < i then j else i)) H) ∨ rMin K xs H Q
def fMax (ts : List T) : Option T := (fMax2 ts).or (fMaxL ts)
def fMin (ts : List T) : Option T := (fMin2 ts).or (fMinL ts)
theorem sem_max {K : PySem.W.Frag} : SemC K (rMaxA K) fMax := sem_2Is.or (sem_maxL (K := K))
theorem sem_min {K : PySem.W.Frag} : SemC K (rMinA K) fMin := sem_2Is.or (sem_minL (K := K))
theorem cr_maxA {X : Cx} (hc : X.calm = true) : CallR X (.builtin "max") (rMaxA X.K) := (call_max2 hc).or (cr_max hc)
theorem cr_minA {X : Cx} (hc : X.calm = true) : CallR X (.builtin "min") (rMinA X.K) := (call_min2 hc).or (cr_min hc)
def fAll : List T → Option T := f1 fun t => t.bools.map fun ns => .sh (.bool (ns.all id))
def fAny : List T → Option T := f1 fun t => t.bools.map fun ns => .sh (.bool (ns.any id))
theorem sem_all {K : PySem.W.Frag} : SemC K (rAll K) fAll := by
  intro S H ts vs Q t i q e R
  obtain ⟨x, hx, e0⟩ := f1_some e
  clear e
  subst hx
  obtain ⟨v, fp, hv, q0⟩ := views1 q
  clear q
  subst hv
  have e := e0
  have q := q0
  clear e0 q0
  obtain ⟨ns, e1, rfl⟩ := omap e
  obtain ⟨a, rfl, sq⟩ := bools_rep i q e1
  exact ⟨a, ns, rfl, sq, R.flat i fun _ => by simp only [RepD]⟩
theorem sem_any {K : PySem.W.Frag} : SemC K (rAny K) fAny := by
  intro S H ts vs Q t i q e R
  obtain ⟨x, hx, e0⟩ := f1_some e
  clear e
  subst hx
  obtain ⟨v, fp, hv, q0⟩ := views1 q
  clear q
  subst hv
  have e := e0
  have q := q0
  clear e0 q0
  obtain ⟨ns, e1, rfl⟩ := omap e
  obtain ⟨a, rfl, sq⟩ := bools_rep i q e1
  exact ⟨a, ns, rfl, sq, R.flat i fun _ => by simp only [RepD]⟩
def sortI (ns : List Int) : List Int := ns.mergeSort (fun a b => decide (a ≤ b))
theorem sortI_eq {ns ms : List Int} (h1 : ms.Perm ns) (h2 : ms.Pairwise (· ≤ ·)) : ms = sortI ns := by
  have p : (sortI ns).Perm ns := List.mergeSort_perm _ _
  have s : (sortI ns).Pairwise (· ≤ ·) := by
    have := List.pairwise_mergeSort (le := fun (a b : Int) => decide (a ≤ b)) (fun a b c h1 h2 => by simp at *; omega) (fun a b => by simp; omega) ns
    exact this.imp fun h => by simpa using h
  exact List.Perm.eq_of_pairwise (fun _ _ _ _ a b => Int.le_antisymm a b) h2 s (h1.trans p.symm)
theorem sortI_perm (ns : List Int) : (sortI ns).Perm ns := List.mergeSort_perm _ _
theorem sortI_sorted (ns : List Int) : (sortI ns).Pairwise (· ≤ ·) := by
  have := List.pairwise_mergeSort (le := fun (a b : Int) => decide (a ≤ b)) (fun a b c h1 h2 => by simp at *; omega) (fun a b => by simp; omega) ns
  exact this.imp fun h => by simpa using h
def fSortI : List T → Option T := f1 fun t => t.ints.map fun ns => .ol ((sortI ns).map PyData.int)
theorem sem_sortI {K : PySem.W.Frag} : SemC K (rSortedI K) fSortI := by
  intro S H ts vs Q t i q e R
  obtain ⟨x, hx, e0⟩ := f1_some e
  clear e
  subst hx
  obtain ⟨v, fp, hv, q0⟩ := views1 q
  clear q
  subst hv
  have e := e0
  have q := q0
  clear e0 q0
  obtain ⟨ns, e1, rfl⟩ := omap e
  obtain ⟨a, rfl, sq⟩ := ints_rep i q e1
  refine ⟨a, ns, rfl, sq, fun ms p h1 h2 hp => ?_⟩
  rw [sortI_eq h1 h2]
  exact R.lst i (rep_ints _) hp
/-! list(x), tuple(x) -/
def fList : List T → Option T := f1 fun t => match t.seqs with
  | some ds => some (.ol ds)
  | none => match t with
    | .scr ns => some (.ol (ns.map PyData.int))
    | _ => none
abbrev rListOf (K : PySem.W.Frag) : List V → Hp → VK → Prop := fun xs H Q => ∃ p ys, xs = [.ref p] ∧ (SqL K H p ys ∨ SqT K H p ys) ∧ ∀ l, H l = none → Q (.ref l) (upd H l (.lst ys))
theorem sem_list {K : PySem.W.Frag} : SemC K (rListOf K) fList := by
  intro S H ts vs Q t i q e R
  obtain ⟨x, hx, e0⟩ := f1_some e
  clear e
  subst hx
  obtain ⟨v, fp, hv, q0⟩ := views1 q
  clear q
  subst hv
  have e := e0
  have q := q0
  clear e0 q0
  split at e
  · rename_i ds es
    cases e
    obtain ⟨a, vs, rfl, sq, r⟩ := seqs_rep i q es
    exact ⟨a, vs, rfl, sq, fun l hl => R.lst i r hl⟩
  · split at e
    · rename_i ns _
      cases e
      simp only [RepT] at q
      obtain ⟨_, a, rfl, sq⟩ := q
      exact ⟨a, _, rfl, .inl (i.seq sq), fun l hl => R.lst i (rep_ints ns) hl⟩
    · cases e
def fTuple : List T → Option T := f1 fun t => match t.lits with
  | some ds => some (.sh (.tuple ds))
  | none => match t with
    | .sh (.tuple ds) => some (.sh (.tuple ds))
    | _ => none
theorem sem_tuple {K : PySem.W.Frag} : SemC K (rTupOf K) fTuple := by
  intro S H ts vs Q t i q e R
  obtain ⟨x, hx, e0⟩ := f1_some e
  clear e
  subst hx
  obtain ⟨v, fp, hv, q0⟩ := views1 q
  clear q
  subst hv
  have e := e0
  have q := q0
  clear e0 q0
  split at e
  · rename_i ds es
    cases e
    obtain ⟨a, vs, rfl, h, r⟩ := lits_rep i q es
    exact ⟨a, vs, rfl, .inl ⟨.of h, R.tup i r⟩⟩
  · split at e
    · rename_i ds _
      cases e
      have q0 := rep_sh q
      have q := q0
      simp only [RepD] at q
      obtain ⟨a, vs, rfl, h, r⟩ := q
      exact ⟨a, vs, rfl, .inr ⟨(h.same (i _)).sq, R.old i q0⟩⟩
    · cases e
/-! isinstance -/
def tyD : D → String
  | .none => "NoneType"
  | .bool _ => "bool"
  | .int _ => "int"
  | .str _ => "str"
  | .list _ => "list"
  | .tuple _ => "tuple"
  | .dict _ => "dict"
def T.ty : T → String
  | .sh d => tyD d
  | .scr _ => "list"
  | .ol _ => "list"
  | .od _ => "dict"
  | .ot _ => "list"
  | .tu _ => "tuple"
theorem ty_rep {K : PySem.W.Frag} {S H : Hp} {t : T} {v : V} {fp : List Addr} (i : Same S H) (q : RepT K S H t v fp) : TyX K H v (.type t.ty) := by
  have dc : ∀ {a : Addr} {ks vs}, DcAt (H a) ks vs → TyX K H (.ref a) (.type "dict") := fun h => by
    rcases h with ⟨kk, e1, _⟩ | ⟨kk, e1, _⟩
    · exact .base (.dK e1)
    · exact .base (.dT e1)
  cases t with
  | sh d =>
    have q := rep_sh q
    cases d <;> simp only [RepD] at q
    · subst q; exact .base .non
    · subst q; exact .base (.bl _)
    · subst q; exact .base (.int _)
    · subst q; exact .base (.str _)
    · obtain ⟨a, vs, rfl, h, _⟩ := q; exact .base (.lst (i _ _ h))
    · obtain ⟨a, vs, rfl, ⟨ob, h, _⟩, _⟩ := q; exact .fTuple (i _ _ h)
    · obtain ⟨a, vs, rfl, h, _⟩ := q; exact dc (h.same (i _))
  | scr ns =>
    simp only [RepT] at q
    obtain ⟨_, a, rfl, sq⟩ := q
    rcases i.seq sq with (h | ⟨o, h⟩) | ⟨o, its, n, h, hc, _⟩
    · exact .base (.lst h)
    · exact .base (.frz h)
    · exact .kList h hc
  | ol ds => simp only [RepT] at q; obtain ⟨a, vs, rfl, _, h, _⟩ := q; exact .base (.lst h)
  | od ds => simp only [RepT] at q; obtain ⟨a, vs, rfl, _, h, _⟩ := q; exact dc h
  | ot ds => simp only [RepT] at q; obtain ⟨a, vs, f, rfl, _, h, _⟩ := q; exact .base (.lst h)
  | tu ds => simp only [RepT] at q; obtain ⟨a, vs, f, rfl, _, ⟨ob, h, _⟩, _⟩ := q; exact .fTuple h
/-- the built-in classes that are asked of these -/
def isaB (a b : String) : Bool := a == b || (a == "bool" && b == "int")
theorem kit_isa {K : PySem.W.Frag} (t : T) (b : String) (hb : b = "int" ∨ b = "bool" ∨ b = "str" ∨ b = "list" ∨ b = "tuple" ∨ b = "dict") : PySem.W.kitOne K (.type t.ty) (.type b) = some (isaB t.ty b) := by
  have : t.ty = "NoneType" ∨ t.ty = "bool" ∨ t.ty = "int" ∨ t.ty = "str" ∨ t.ty = "list" ∨ t.ty = "tuple" ∨ t.ty = "dict" := by
    cases t with
    | sh d => cases d <;> simp [T.ty, tyD]
    | _ => simp [T.ty]
  rcases this with e | e | e | e | e | e | e <;> rw [e] <;> rcases hb with rfl | rfl | rfl | rfl | rfl | rfl <;> (apply kit_ty; decide +kernel)
def evIsi (b : String) (ea : En → Rs T) : En → Rs T := fun ρ => (ea ρ).bind fun t => .ok (.sh (.bool (isaB t.ty b)))
section
variable {X : Cx} {W : WX} {a : Expr} {ta : TE} {ea : En → Rs T} {pos p p2 : Pos} {b : String}
theorem de_isi (hg : Gl X "isinstance") (hm : X.mg "isinstance" = none) (ha : DV X W a ta ea) (gb : Gl X (Str.ofString b)) (mb : X.mg (Str.ofString b) = none) (hv : bootBuiltins (Str.ofString b) = some (.type b)) (hb : b = "int" ∨ b = "bool" ∨ b = "str" ∨ b = "list" ∨ b = "tuple" ∨ b = "dict")
    (hn : (Str.ofString b) ≠ "__name__" := by decide) (hdb : (Str.ofString b == ("__debug__" : Str)) = false := by decide)
    (hs : starEach [a, .Name (Str.ofString b) p2] X.env = (false, eval a X.env) :: starEach [.Name (Str.ofString b) p2] X.env := by rfl) (hpl : (backTo pos (starEach [.Name (Str.ofString b) p2] X.env)).any (·.1) = false := by rfl) :
    DE X W (.Call (.Name "isinstance" p) [a, .Name (Str.ofString b) p2] [] pos) (tCB (rIsi X.K) (tCons ta (tCons (tC (.ty b)) tNil))) (evIsi b ea) [] := by
  refine ⟨pe_callB call_isi hg hm (by decide +kernel) (pa_cons ha.pe (pa_cons (pe_bltn gb mb hv rfl hn hdb) pa_nil) hs) (by decide) (by decide) hs hpl, fun E S φ ρ σ H Q I h => ?_⟩
  refine ha.sm E S φ ρ σ H _ I (h.bind.imp (fun x hx vx S1 H1 fx g1 qx => ?_) fun _ z => z)
  exact ⟨vx, .ty b, _, _, _, rfl, .ty b, ty_rep g1.i qx, kit_isa x b hb, (RetM.ret (show RetM X.K S H φ [] (.sh (.bool (isaB x.ty b))) Q from hx) |>.later g1).flat g1.i fun _ => by simp only [RepD]⟩
end
/-! t.index(x) of a tuple: flat items -/
def firstAt (ds : List D) (d : D) : Option Nat := ds.findIdx? fun z => eqD z d
def fIndex (x : T) (ys : List T) : Option T := match ys with
  | [.sh d] => (match x.seqs with
    | some ds => if (flatD d && ds.all flatD) then (firstAt ds d).map fun j => .sh (.int (j : Nat)) else none
    | none => none)
  | _ => none
open PyProof.Rows in
/-- what t.index wants of a tuple -/
def rIdxT : V → List V → Hp → VK → Prop := fun x xs H Q => ∃ p ob ys y j z, x = .ref p ∧ xs = [y] ∧ H p = some (.frz ob (.tup ys)) ∧ ob.dict = none ∧ flatV y = true ∧ ys.all flatV = true ∧ ys[j]? = some z ∧ eqV z y = true ∧ (∀ m z', m < j → ys[m]? = some z' → eqV z' y = false) ∧ Q (.int (j : Nat)) H
section
open PyProof.Rows
variable {X : Cx}
theorem mt_idxT : MtR X "tuple.index" rIdxT := by
  intro pins s σ H x xs v us Q I rx rs h
  obtain ⟨p, ob, ys, y, j, z, rfl, rfl, hp, _, fy, fs, hy, hit, hno, q⟩ := h
  cases rx
  obtain ⟨u, rfl, ru⟩ := vals1 rs
  have sq : SqT X.K H p ys := .inl (.inr ⟨ob, hp⟩)
  obtain ⟨its, r, pl, hz⟩ := I.tuple sq
  obtain ⟨⟨cls, dd, dt, sl⟩, ho, hc, n, hd⟩ := pl
  simp only at hc hd
  subst hc
  subst hd
  have hl : its.length = ys.length := r.length.symm
  have hj : j < its.toArray.size := by rw [List.size_toArray, hl]; exact (List.getElem?_eq_some_iff.mp hy).1
  have at' : ∀ (m : Nat) (hm : m < its.toArray.size), ∃ y', ys[m]? = some y' ∧ RelV y' its.toArray[m] := fun m hm => by
    have hm' : m < ys.length := by rw [← hl]; simpa using hm
    obtain ⟨w, hw, hw'⟩ := r.get (i := m) (x := ys[m]) (by simp [hm'])
    refine ⟨ys[m], List.getElem?_eq_getElem hm', ?_⟩
    have e := (List.getElem?_eq_some_iff.mp hw).2
    rw [← e] at hw'
    simpa using hw'
  have fl : ∀ m y', ys[m]? = some y' → flatV y' = true := fun m y' e => List.all_eq_true.mp fs y' (List.mem_of_getElem? e)
  refine call_meets PySem.F.slot_tuple_index ⟨_, ho, rfl⟩ PySem.F.entry_tuple_index (PySem.F.args_tuple_index_2 _ _) (TI.tuple_indexAt p its.toArray n dd sl u (eqU y) j hj ?_ ?_)
    ⟨ho, fun w hw => mem_eqAt ru fy r fs w (by simpa using hw), ⟨.int (j : Nat), H, I.tok _, ⟨_, rfl⟩, q⟩⟩
  · obtain ⟨y', h1, h2⟩ := at' j hj
    rw [hy] at h1
    cases h1
    rw [eqU_of h2 (fl j _ hy)]
    exact hit
  · intro m hm hmj
    obtain ⟨y', h1, h2⟩ := at' m hm
    rw [eqU_of h2 (fl m _ h1)]
    exact hno m y' hmj h1
/-- o.index(e) on a tuple -/
def tBMt (r : V → List V → Hp → VK → Prop) (to : TE) (t : TA) : TE := fun σ H Q => to σ H fun x H1 => (∃ p ob ys, x = .ref p ∧ H1 p = some (.frz ob (.tup ys)) ∧ ob.dict = none) ∧ t σ H1 fun xs H2 => r x xs H2 Q
end
section
variable {X : Cx} {name : Str} {id : String} {r : V → List V → Hp → VK → Prop} {o e : Expr} {es : List Expr} {to : TE} {t : TA} {apos cpos : Pos}
theorem pe_bmt (pa : PlainAttrs "tuple") (slot : Slot "tuple" name id) (hty : typeOf (.builtin id) = pure (.type "method_descriptor")) (hm : MtR X id r) (ho : PE X o to) (ha : PA X (e :: es) t)
    (hbase : attributeBase o name X.env (eval o X.env) = eval o X.env := by rfl)
    (hfew : ((backTo cpos (starEach (e :: es) X.env)).all (fun x => !x.1) && (backToKw cpos (keywordEach [] X.env)).all (fun x => x.1.isSome)
      && decide ((e :: es).length + ([] : List Keyword).length + (if ([] : List Keyword).isEmpty then 0 else 1) < 30)) = true := by rfl)
    (hline : (apos.endLine == cpos.line) = true := by rfl) (hs : starEach (e :: es) X.env = (false, eval e X.env) :: starEach es X.env := by rfl) (hplain : (backTo cpos (starEach es X.env)).any (·.1) = false := by rfl) :
    PE X (.Call (.Attribute o name apos) (e :: es) [] cpos) (tBMt r to t) := by
  refine ⟨fun pins s σ H Q I h => ?_⟩
  refine wpAny_Call_method_late hbase hfew hline rfl (thn (ho.run pins s σ H _ I h) fun v s1 ⟨x, H1, I1, r1, ty, q1⟩ => ?_)
  obtain ⟨p, ob, ys, rfl, hp, hdn⟩ := ty
  cases r1
  obtain ⟨hob, _, its, iv, hit⟩ : s1.heap.get? p = some ob ∧ ys.length ≤ sizeLine ∧ ∃ its : List Value, Vals ys its ∧ PyProof.Rows.IsTup s1.heap p its.toArray := I1.hok p _ hp
  have hT : s1.TypeIs (.ref p) "tuple" := hit.typeIs
  refine ⟨"tuple", id, pa, slot, hty, hT, fun a ea => ?_, ?_⟩
  · cases ea
    exact ⟨ob, hob, hdn⟩
  have hA := ha.run cpos pins s1 σ H1 _ I1 q1
  rw [hs] at hA ⊢
  refine Calls.callWith_builtin (by show (false || (backTo cpos (starEach es X.env)).any (·.1)) = false; rw [hplain] <;> rfl) (Calls.evalArgs_plain ?_)
  refine thn hA fun us s2 ⟨vs, H2, I2, r2, q2⟩ => ?_
  exact hm pins s2 σ H2 (.ref p) vs (.ref p) us Q I2 rfl r2 q2
end
end PL
set_option Elab.async false
set_option linter.all false
set_option maxRecDepth 100000
/-! PL7: comprehensions, changes of own things. -/
namespace PL
open PySem PySem.Spec L2

/-! ### comprehensions -/
abbrev W0 : WX := fun _ _ _ _ => False
def Rs.o {α : Type} : Rs α → Option α
  | .ok a => some a
  | _ => none
theorem RsOK.of_o {α : Type} {r : Rs α} {a : α} {P : α → Prop} {X : Str → Prop} (e : r.o = some a) (h : P a) : RsOK r P X := by
  cases r with
  | ok b => cases e; exact h
  | bad => cases e
  | ex c => cases e
def compL (g : D → En → Option En) (c : En → Rs Bool) (e : En → Rs T) (ρ : En) : List D → Option (List T)
  | [] => some []
  | d :: ds => (g d ρ).bind fun ρ1 => (c ρ1).o.bind fun k => bif k then ((e ρ1).o.bind fun t => (compL g c e ρ ds).map (t :: ·)) else compL g c e ρ ds
def evComp (ei : En → Rs (List D)) (vs : List Nat) (g : D → En → Option En) (c : En → Rs Bool) (e : En → Rs T) : En → Rs T := fun ρ =>
  (ei ρ).bind fun ds => if ds.length ≤ sizeLine then (rsO (compL g c e (ρ.clr vs) ds)).bind fun ts => .ok (mkL ts) else .bad
theorem wipe_out' {σ : St} {i : Nat} : ∀ {vs : List Nat}, i ∉ vs → (wipe σ vs)[i]? = σ[i]?
  | [], _ => rfl
  | v :: vs, h => by
    simp only [List.mem_cons, not_or] at h
    unfold wipe
    rw [List.getElem?_set_ne (fun e => h.1 e.symm)]
    exact wipe_out' h.2
theorem wipe_in {σ : St} {i : Nat} : ∀ {vs : List Nat}, i ∈ vs → i < σ.length → (wipe σ vs)[i]? = some none
  | v :: vs, h, hl => by
    unfold wipe
    by_cases e : v = i
    · subst e
      rw [List.getElem?_set_self (by rw [wipe_length]; exact hl)]
    · rw [List.getElem?_set_ne e]
      exact wipe_in (by simpa [Ne.symm e, eq_comm, e] using (List.mem_cons.mp h).resolve_left fun z => e z.symm) hl
theorem wipe_eq {σ σ' : St} {vs as : List Nat} (hl : σ'.length = σ.length) (h : ∀ i, i ∉ as → σ'[i]? = (wipe σ vs)[i]?) (ha : ∀ i ∈ as, i ∈ vs) : wipe σ' vs = wipe σ vs := by
  apply List.ext_getElem?
  intro i
  by_cases hi : i ∈ vs
  · by_cases hlt : i < σ.length
    · rw [wipe_in hi (by rw [hl]; exact hlt), wipe_in hi hlt]
    · rw [List.getElem?_eq_none (by rw [wipe_length, hl]; omega), List.getElem?_eq_none (by rw [wipe_length]; omega)]
  · rw [wipe_out' hi]
    exact h i fun z => hi (ha i z)
theorem StInv.wipe {K : PySem.W.Frag} {E : Ent} {S : Hp} {φ : Nat → List Addr} {ρ : En} {σ : St} {H : Hp} (I : StInv K E S φ ρ σ H) (vs : List Nat) : StInv K E S φ (ρ.clr vs) (L2.wipe σ vs) H :=
  ⟨I.gr, by rw [clr_len, wipe_length]; exact I.len, fun i t e => by
    obtain ⟨h1, h2⟩ := clr_at vs ρ i t e
    obtain ⟨v, h3, q⟩ := I.slot i t h1
    exact ⟨v, by rw [wipe_out' h2]; exact h3, q⟩, I.nd, I.dj, I.fr⟩
structure DTs (X : Cx) (W : WX) (ifs : List Expr) (tt : TT) (ev : En → Rs Bool) : Prop where
  pt : PTs X ifs tt
  sm : SemB X.K X.mg W tt ev
def evYes : En → Rs Bool := fun _ => .ok true
theorem dts_nil {X : Cx} {W : WX} : DTs X W [] tYes evYes := ⟨pts_nil, fun E S φ ρ σ H Q I r => r S H (.refl I.gr.i)⟩
theorem dts_one {X : Cx} {W : WX} {c : Expr} {t : TT} {ev : En → Rs Bool} (h : DT X W c t ev) : DTs X W [c] t ev := ⟨pts_one h.pe, h.sm⟩
theorem RepTs.app {K : PySem.W.Frag} {S H : Hp} : ∀ {ts : List T} {vs : List V} {fp : List Addr} {t : T} {v : V} {f : List Addr}, RepTs K S H ts vs fp → RepT K S H t v f → RepTs K S H (ts ++ [t]) (vs ++ [v]) (fp ++ f)
  | [], vs, fp, t, v, f, q, r => by
    simp only [RepTs] at q
    obtain ⟨rfl, rfl⟩ := q
    simp only [List.nil_append, RepTs]
    exact ⟨v, [], f, [], rfl, by simp, r, rfl, rfl⟩
  | c :: ts, vs, fp, t, v, f, q, r => by
    simp only [RepTs] at q
    obtain ⟨w, vs', g, h, rfl, rfl, q1, q2⟩ := q
    show RepTs K S H (c :: (ts ++ [t])) (w :: (vs' ++ [v])) _
    simp only [RepTs]
    exact ⟨w, _, g, h ++ f, rfl, by rw [List.append_assoc], q1, RepTs.app q2 r⟩
/-- the list that has been made -/
theorem RetM.mkL {K : PySem.W.Frag} {S H S' H' : Hp} {φ : Nat → List Addr} {mv : List Nat} {ts : List T} {Q : VK} (r : RetM K S H φ mv (mkL ts) Q) (g : Grow S H S' H') {p : Addr} {vs : List V} {fp : List Addr}
    (hp : H' p = some (.lst vs)) (n0 : H p = none) (n1 : S' p = none) (q : RepTs K S' H' ts vs fp) (nd : fp.Nodup) (np : p ∉ fp) (f : ∀ a ∈ fp, S' a = none ∧ H a = none) : Q (.ref p) H' := by
  unfold PL.mkL at r
  cases e : T.shs ts with
  | some ds =>
    rw [e] at r
    obtain ⟨e1, q2⟩ := shs_rep e q
    refine r _ S' H' [p] g (by simp only [RepT]; exact ⟨p, vs, rfl, rfl, hp, q2⟩) (by simp) fun a ha => ?_
    have e : a = p := by simpa using ha
    subst e
    exact ⟨n1, .inl n0⟩
  | none =>
    rw [e] at r
    refine r _ S' H' (p :: fp) g (by simp only [RepT]; exact ⟨p, vs, fp, rfl, rfl, hp, q⟩) (List.nodup_cons.mpr ⟨np, nd⟩) fun a ha => ?_
    rcases List.mem_cons.mp ha with rfl | ha
    · exact ⟨n1, .inl n0⟩
    · exact ⟨(f a ha).1, .inl (f a ha).2⟩
theorem sem_comp {Rp : Rel} {K : PySem.W.Frag} {mg : Str → Option Value} {W : WX} {wi : TI} {ei : En → Rs (List D)} {vs as : List Nat} {g : TG} {eg : D → En → Option En} {tt : TT} {ec : En → Rs Bool} {te : TE} {ee : En → Rs T}
    (hi : SemI Rp K mg W wi ei) (hg : SemG Rp K g eg as) (ha : ∀ i ∈ as, i ∈ vs) (ht : SemB K mg W0 tt ec) (he : SemE K mg W0 te ee []) : SemE K mg W (tLc wi g tt te vs) (evComp ei vs eg ec ee) [] := by
  intro E S φ ρ σ H Q I h
  refine hi E S φ ρ σ H _ I (h.bind.imp (fun ds hds S0 H0 J g0 hJ D hD => ?_) fun _ z => z)
  by_cases hsz : ¬ ds.length ≤ sizeLine
  · rw [if_neg hsz] at hds; exact False.elim hds
  have hsz := Classical.not_not.mp hsz
  rw [if_pos hsz] at hds
  obtain ⟨tot, etot, hQ⟩ := hds.bind.rsO
  have hQ : RetM K S H φ [] (mkL tot) Q := hQ
  have nS0 : S0 D = none := g0.i.free hD
  refine ⟨fun i m H' => m = ds.length - i ∧ i ≤ ds.length ∧ ∃ S' ts us fp rest, Grow S0 H0 S' H' ∧ H' D = some (.lst us) ∧ S' D = none ∧ D ∉ fp ∧ RepTs K S' H' ts us fp ∧ fp.Nodup ∧ (∀ a ∈ fp, S' a = none ∧ H0 a = none) ∧
    ts.length ≤ i ∧ compL eg ec ee (ρ.clr vs) (ds.drop i) = some rest ∧ tot = ts ++ rest, ⟨ds.length, by simp, Nat.zero_le _, S0, [], [], [], tot, ?_, upd_same, nS0, by simp, by simp only [RepTs, and_self], .nil, (fun a ha => by cases ha), Nat.le_refl _, etot, rfl⟩, ?_⟩
  · exact .own g0.i hD
  rintro i m H' ⟨rfl, hle, S', ts, us, fp, rest, gg, hl, nD, dfp, q, nd, f, hlen, er, et⟩
  obtain ⟨h1, h2⟩ := hJ S' H' i gg.s gg.i
  by_cases hlt : i < ds.length
  · obtain ⟨hgo, hy⟩ := h1 ds[i] (by simp [hlt])
    rw [List.drop_eq_getElem_cons hlt] at er
    refine .inr ⟨hgo, fun H3 => ∃ S3 ts us fp rest, Grow S0 H0 S3 H3 ∧ H3 D = some (.lst us) ∧ S3 D = none ∧ D ∉ fp ∧ RepTs K S3 H3 ts us fp ∧ fp.Nodup ∧ (∀ a ∈ fp, S3 a = none ∧ H0 a = none) ∧
      ts.length ≤ i + 1 ∧ compL eg ec ee (ρ.clr vs) (ds.drop (i + 1)) = some rest ∧ tot = ts ++ rest, fun H3 ⟨S3, ts, us, fp, rest, z⟩ => ⟨ds.length - (i + 1), by omega, rfl, hlt, S3, ts, us, fp, rest, z⟩, fun x H2 y => ?_⟩
    obtain ⟨S2, g2, r2⟩ := hy x H2 y
    have I2 : StInv K E S2 φ (ρ.clr vs) (L2.wipe σ vs) H2 := ((I.grow g0).grow (gg.trans g2)).wipe vs
    obtain ⟨ρ1, e1, er⟩ := obind er
    refine hg E S2 φ _ _ H2 ds[i] x _ ρ1 I2 r2 e1 fun φ1 σ1 k1 l1 I1 => ⟨wipe_eq (by rw [l1, wipe_length]) k1 ha, ?_⟩
    obtain ⟨k, e2, er⟩ := obind er
    refine ht E S2 φ1 ρ1 σ1 H2 _ I1 (RsOK.of_o e2 fun S3 H3 g3 => ?_)
    have g23 := g2.trans g3
    cases k with
    | false =>
      rw [if_neg (by decide)]
      exact ⟨S3, ts, us, fp, rest, gg.trans g23, g23.h _ _ hl, g23.f D ⟨_, hl⟩ nD, dfp, q.grow g23.s g23.h, nd, fun a z => ⟨g23.f a (RepTs.there _ _ _ q a z) (f a z).1, (f a z).2⟩, by omega, er, et⟩
    | true =>
      rw [if_pos rfl]
      obtain ⟨t, e3, er⟩ := obind (show ((ee ρ1).o.bind fun t => (compL eg ec ee (ρ.clr vs) (ds.drop (i + 1))).map (t :: ·)) = some rest from er)
      obtain ⟨rest', e4, rfl⟩ := omap er
      refine he E S3 φ1 ρ1 σ1 H3 _ (I1.grow g3) (RsOK.of_o e3 fun v S4 H4 f4 g4 q4 n4 fr4 => ?_)
      have g24 := g23.trans g4
      have hl4 : H4 D = some (.lst us) := g24.h _ _ hl
      have nS4 : S4 D = none := g24.f D ⟨_, hl⟩ nD
      have d4 : D ∉ f4 := fun z => by
        rcases (fr4 D z).2 with w | ⟨j, hj, _⟩
        · have := g23.h _ _ hl; rw [w] at this; cases this
        · cases hj
      refine ⟨us, hl4, by rw [q.length]; omega, S4, ts ++ [t], us ++ [v], fp ++ f4, rest', ?_, upd_same, nS4, ?_, ?_, ?_, ?_, by simp; omega, e4, by rw [et]; simp⟩
      · have G := gg.trans g24
        refine ⟨fun b o e => ?_, G.s, fun b o e => ?_, G.f⟩
        · rw [upd_ne (ne_of_none e hD)]; exact G.h _ _ e
        · rw [upd_ne (ne_of_none e nS4)]; exact G.i _ _ e
      · simp only [List.mem_append, not_or]; exact ⟨dfp, d4⟩
      · have q' := q.grow g24.s g24.h
        refine RepTs.app (RepTs.frame (.refl _) _ _ _ (fun a z => upd_ne fun e => dfp (e ▸ z)) q') (RepT.frame (.refl _) _ _ _ (fun a z => upd_ne fun e => d4 (e ▸ z)) q4)
      · refine List.nodup_append.mpr ⟨nd, n4, fun a z b z' => ?_⟩
        rintro rfl
        obtain ⟨o, ho⟩ := RepTs.there _ _ _ q a z
        rcases (fr4 a z').2 with w | ⟨j, hj, _⟩
        · have := g23.h _ _ ho; rw [w] at this; cases this
        · cases hj
      · intro a z
        rcases List.mem_append.mp z with z | z
        · exact ⟨g24.f a (RepTs.there _ _ _ q a z) (f a z).1, (f a z).2⟩
        · refine ⟨(fr4 a z).1, ?_⟩
          rcases (fr4 a z).2 with w | ⟨j, hj, _⟩
          · exact (gg.trans g23).h.free w
          · cases hj
  · have e : i = ds.length := by omega
    subst e
    rw [List.drop_length] at er
    cases er
    rw [List.append_nil] at et
    subst et
    exact .inl ⟨h2 (Nat.le_refl _), hQ.mkL (g0.trans gg) hl (g0.h.free hD) nD q nd dfp fun a z => ⟨(f a z).1, g0.h.free (f a z).2⟩⟩
section
variable {X : Cx} {W : WX} {elt tg iter : Expr} {ifs : List Expr} {scope : Scope} {own : List (Str × Nat)} {pos : Pos} {wi : TI} {ei : En → Rs (List D)} {as : List Nat} {g : TG} {eg : D → En → Option En} {tt : TT} {ec : En → Rs Bool} {te : TE} {ee : En → Rs T}
theorem de_lc {Rp : Rel} (vs : List Nat) (hc : X.calm = true) (hN : X.N.Nodup) (hi : DI Rp X W tg iter wi ei) (ok : BlkOk X.N X.env.scope scope own)
    (hg : ∀ (s : Shared) (H : Hp) (C : Addr) (cl : List (Str × Addr)) (fp : List Addr), DG Rp (X.blk s H scope (compEnvC scope cl C X.env) fp) tg g eg as)
    (ht : ∀ (s : Shared) (H : Hp) (C : Addr) (cl : List (Str × Addr)) (fp : List Addr), DTs (X.blk s H scope (compEnvC scope cl C X.env) fp) W0 ifs tt ec)
    (he : ∀ (s : Shared) (H : Hp) (C : Addr) (cl : List (Str × Addr)) (fp : List Addr), DE (X.blk s H scope (compEnvC scope cl C X.env) fp) W0 elt te ee [])
    (hv : own.map (·.2) = vs := by rfl) (ha : ∀ i ∈ as, i ∈ vs := by decide) (hs : ∀ x, foldedSetIterable iter X.env x = pure x := by intro _; rfl) :
    DE X W (.ListComp elt [⟨tg, iter, ifs, 0⟩] scope pos) (tLc wi g tt te (own.map (·.2))) (evComp ei vs eg ec ee) [] := by
  subst hv
  exact ⟨pe_lc hc hN hi.pi ok (fun s H C cl fp => (hg s H C cl fp).pg) (fun s H C cl fp => (ht s H C cl fp).pt) (fun s H C cl fp => (he s H C cl fp).pe) hs,
    sem_comp hi.sm (hg X.s_0 (fun _ => none) 0 [] []).sm ha (ht X.s_0 (fun _ => none) 0 [] []).sm (he X.s_0 (fun _ => none) 0 [] []).sm⟩
theorem ds_setLc {Rp : Rel} (i : Nat) {y : Str} {py spos : Pos} (vs : List Nat) (hc : X.calm = true) (hN : X.N.Nodup) (hi : DI Rp X W tg iter wi ei) (ok : BlkOk X.N X.env.scope scope own)
    (hg : ∀ (s : Shared) (H : Hp) (C : Addr) (cl : List (Str × Addr)) (fp : List Addr), DG Rp (X.blk s H scope (compEnvC scope cl C X.env) fp) tg g eg as)
    (ht : ∀ (s : Shared) (H : Hp) (C : Addr) (cl : List (Str × Addr)) (fp : List Addr), DTs (X.blk s H scope (compEnvC scope cl C X.env) fp) W0 ifs tt ec)
    (he : ∀ (s : Shared) (H : Hp) (C : Addr) (cl : List (Str × Addr)) (fp : List Addr), DE (X.blk s H scope (compEnvC scope cl C X.env) fp) W0 elt te ee [])
    (hy : X.N[i]? = some y := by rfl) (hyl : X.env.scope.names.lookup y = some .local := by rfl)
    (hsw : swapsWith (.ListComp elt [⟨tg, iter, ifs, 0⟩] scope pos) (some (.Name y py)) spos.line X.env = pure true := by exact sw_true rfl rfl rfl (by decide +kernel))
    (hv : own.map (·.2) = vs := by rfl) (ha : ∀ i ∈ as, i ∈ vs := by decide) (hs : ∀ x, foldedSetIterable iter X.env x = pure x := by intro _; rfl) :
    DS X W (.Assign [.Name y py] (.ListComp elt [⟨tg, iter, ifs, 0⟩] scope pos) spos) (tAsg (tLc wi g tt te (own.map (·.2))) (gName i)) (sSet i [] (evComp ei vs eg ec ee)) [i] := by
  subst hv
  exact ⟨ps_setLc hc hN hy hyl hsw hi.pi ok (fun s H C cl fp => (hg s H C cl fp).pg) (fun s H C cl fp => (ht s H C cl fp).pt) (fun s H C cl fp => (he s H C cl fp).pe) hs,
    sem_set i (sem_comp hi.sm (hg X.s_0 (fun _ => none) 0 [] []).sm ha (ht X.s_0 (fun _ => none) 0 [] []).sm (he X.s_0 (fun _ => none) 0 [] []).sm)⟩
end
end PL
set_option Elab.async false
set_option linter.all false
set_option maxRecDepth 100000
/-! PL8: changes of own things. -/
namespace PL
open PySem PySem.Spec L2

theorem StInv.write {K : PySem.W.Frag} {E : Ent} {S : Hp} {φ : Nat → List Addr} {ρ : En} {σ : St} {H : Hp} {mv : List Nat} {t0 t : T} {v : V} {fp : List Addr} {o : HO} {l : Addr} (i : Nat) (I : StInv K E S φ ρ σ H) (hl : l ∈ φ i) (h0 : ρ[i]? = some (some t0)) (hv : σ[i]? = some (some v))
    (q : RepT K S (upd H l o) t v fp) (nd : fp.Nodup) (f : ∀ a ∈ fp, a ∈ φ i ∨ (S a = none ∧ E.H a = none ∧ (∃ o, H a = some o) ∧ ∀ j, a ∈ φ j → j ∈ mv)) (hi : i ∉ mv) :
    StInv K E S (fun j => if j = i then fp else if j ∈ mv then [] else φ j) ((ρ.clr mv).put i (some t)) σ (upd H l o) := by
  obtain ⟨s1, s2, o1, s3⟩ := I.fr i l hl
  have there : ∀ a, (∃ x, H a = some x) → ∃ x, upd H l o a = some x := fun a ⟨x, hx⟩ => by
    by_cases e : a = l
    · subst e; exact ⟨o, upd_same⟩
    · exact ⟨x, by rw [upd_ne e]; exact hx⟩
  refine ⟨⟨fun b x e => ?_, I.gr.s, fun b x e => ?_, I.gr.f⟩, by rw [put_eq, List.length_set, clr_len]; exact I.len, fun j t' hj => ?_, fun j => ?_, fun j k a h1 h2 => ?_, fun j a ha => ?_⟩
  · rw [upd_ne (ne_of_none e s2)]; exact I.gr.h _ _ e
  · rw [upd_ne (ne_of_none e s1)]; exact I.gr.i _ _ e
  · rw [put_eq] at hj
    by_cases e : i = j
    · subst e
      have hlt : i < (ρ.clr mv).length := by rw [clr_len]; exact (List.getElem?_eq_some_iff.mp h0).1
      rw [List.getElem?_set_self hlt] at hj
      simp only [Option.some.injEq] at hj
      subst hj
      refine ⟨v, hv, ?_⟩
      rw [if_pos rfl]; exact q
    · rw [List.getElem?_set_ne e] at hj
      obtain ⟨h1, h2⟩ := clr_at mv ρ j t' hj
      obtain ⟨w, h3, r⟩ := I.slot j t' h1
      refine ⟨w, h3, ?_⟩
      rw [if_neg (fun z => e z.symm), if_neg h2]
      exact RepT.frame (.refl _) _ _ _ (fun a ha => upd_ne fun z => e (I.dj i j l hl (z ▸ ha))) r
  · show (if j = i then fp else if j ∈ mv then [] else φ j).Nodup
    split
    · exact nd
    · split
      · exact .nil
      · exact I.nd j
  · have key : ∀ {k : Nat}, a ∈ fp → k ≠ i → k ∉ mv → a ∈ φ k → False := fun {k} h1 hk hm h2 => by
      rcases f a h1 with z | ⟨_, _, _, z⟩
      · exact hk (I.dj k i a h2 z)
      · exact hm (z k h2)
    by_cases ej : j = i
    · by_cases ek : k = i
      · rw [ej, ek]
      · rw [if_pos ej] at h1
        rw [if_neg ek] at h2
        by_cases hk : k ∈ mv
        · rw [if_pos hk] at h2; cases h2
        · rw [if_neg hk] at h2
          exact (key h1 ek hk h2).elim
    · rw [if_neg ej] at h1
      by_cases hj : j ∈ mv
      · rw [if_pos hj] at h1; cases h1
      · rw [if_neg hj] at h1
        by_cases ek : k = i
        · rw [if_pos ek] at h2
          exact (key h2 ej hj h1).elim
        · rw [if_neg ek] at h2
          by_cases hk : k ∈ mv
          · rw [if_pos hk] at h2; cases h2
          · rw [if_neg hk] at h2
            exact I.dj j k a h1 h2
  · by_cases ej : j = i
    · rw [if_pos ej] at ha
      rcases f a ha with z | ⟨z1, z2, z3, _⟩
      · obtain ⟨h1, h2, h3⟩ := I.fr i a z
        exact ⟨h1, h2, there a h3⟩
      · exact ⟨z1, z2, there a z3⟩
    · rw [if_neg ej] at ha
      by_cases hj : j ∈ mv
      · rw [if_pos hj] at ha; cases ha
      · rw [if_neg hj] at ha
        obtain ⟨h1, h2, h3⟩ := I.fr j a ha
        exact ⟨h1, h2, there a h3⟩
/-- what a value that was made ahead of the change holds -/
theorem StInv.apart {K : PySem.W.Frag} {E : Ent} {S S1 : Hp} {φ : Nat → List Addr} {ρ : En} {σ : St} {H H1 : Hp} {mv : List Nat} {t : T} {v : V} {fp : List Addr} (I : StInv K E S φ ρ σ H) (g : Grow S H S1 H1) (q : RepT K S1 H1 t v fp)
    (f : ∀ a ∈ fp, S1 a = none ∧ (H a = none ∨ ∃ i ∈ mv, a ∈ φ i)) : ∀ a ∈ fp, S1 a = none ∧ E.H a = none ∧ (∃ o, H1 a = some o) ∧ ∀ j, a ∈ φ j → j ∈ mv := fun a ha => by
  obtain ⟨h1, h2⟩ := f a ha
  refine ⟨h1, ?_, RepT.there _ _ _ q a ha, fun j hj => ?_⟩
  · rcases h2 with z | ⟨k, _, hk⟩
    · exact I.gr.h.free z
    · exact (I.fr k a hk).2.1
  · rcases h2 with z | ⟨k, hk, hm⟩
    · obtain ⟨o, ho⟩ := (I.fr j a hj).2.2
      rw [z] at ho; cases ho
    · exact I.dj k j a hm hj ▸ hk
theorem reps_sh {K : PySem.W.Frag} {S H : Hp} : ∀ {ds : List D} {vs : List V}, RepDs S ds vs → RepTs K S H (ds.map .sh) vs []
  | [], vs, q => by simp only [RepDs] at q; subst q; simp only [List.map_nil, RepTs, and_self]
  | d :: ds, vs, q => by
    simp only [RepDs] at q
    obtain ⟨v, r, rfl, q1, q2⟩ := q
    simp only [List.map_cons, RepTs]
    exact ⟨v, r, [], [], rfl, rfl, rep_d q1, reps_sh q2⟩

/-! ### x.append(e) -/
def appT (c t : T) : Option T := match c with
  | .ol ds => if ds.length < sizeLine then (match t with
    | .sh d => some (.ol (ds ++ [d]))
    | .scr _ => none
    | t => some (.ot (ds.map .sh ++ [t]))) else none
  | .ot ts => if ts.length < sizeLine then (match t with
    | .scr _ => none
    | t => some (.ot (ts ++ [t]))) else none
  | _ => none
def T.isL : T → Bool
  | .ol _ => true
  | .ot _ => true
  | _ => false
def outO {α : Type} (o : Option α) (k : α → Out) : Out := match o with
  | none => .bad
  | some a => k a
def sApp (i : Nat) (mv : List Nat) (ev : En → Rs T) : En → Out := fun ρ => outO (ρ.get i) fun c => bif c.isL then rsK (ev ρ) ρ fun t => outO (appT c t) fun c' => .nx ((ρ.clr mv).put i (some c')) else .bad
theorem OutOK.outO {K : PySem.W.Frag} {mg : Str → Option Value} {W : WX} {E : Ent} {S : Hp} {σ : St} {as : List Nat} {D : Ends} {α : Type} {o : Option α} {k : α → Out} (h : OutOK K mg W E S σ as (outO o k) D) : ∃ a, o = some a ∧ OutOK K mg W E S σ as (k a) D := by
  cases o with
  | none => exact False.elim h
  | some a => exact ⟨a, rfl, h⟩
theorem isL_rep {K : PySem.W.Frag} {S H : Hp} {c : T} {v : V} {fp : List Addr} (h : c.isL = true) (q : RepT K S H c v fp) : ∃ l us, v = .ref l ∧ H l = some (.lst us) := by
  cases c with
  | ol ds => simp only [RepT] at q; obtain ⟨l, us, e1, e2, hl, _⟩ := q; exact ⟨l, us, e1, hl⟩
  | ot ts => simp only [RepT] at q; obtain ⟨l, us, g, e1, e2, hl, _⟩ := q; exact ⟨l, us, e1, hl⟩
  | _ => cases h
theorem En.get_some {ρ : En} {i : Nat} {t : T} (h : ρ.get i = some t) : ρ[i]? = some (some t) := (En.get_eq _ _ _).mp h
theorem app_rep {K : PySem.W.Frag} {S H : Hp} {c t c' : T} {v w : V} {fp f : List Addr} (e : appT c t = some c') (q : RepT K S H c v fp) (r : RepT K S H t w f) (dj : ∀ a ∈ fp, a ∉ f) (nd : fp.Nodup) (nf : f.Nodup) :
    ∃ l us g, v = .ref l ∧ fp = l :: g ∧ H l = some (.lst us) ∧ us.length < sizeLine ∧ RepT K S (upd H l (.lst (us ++ [w]))) c' v (fp ++ f) := by
  have own : ∀ {l : Addr} {us : List V} {g : List Addr} {ts : List T}, v = .ref l → fp = l :: g → H l = some (.lst us) → RepTs K S H ts us g → RepT K S (upd H l (.lst (us ++ [w]))) (.ot (ts ++ [t])) v (fp ++ f) := fun {l us g ts} e1 e2 hl qq => by
    subst e1
    subst e2
    simp only [RepT]
    have nl : l ∉ g := (List.nodup_cons.mp nd).1
    have nf' : l ∉ f := dj l (by simp)
    refine ⟨l, us ++ [w], g ++ f, rfl, rfl, upd_same, ?_⟩
    exact RepTs.app (RepTs.frame (.refl _) _ _ _ (fun a z => upd_ne fun e => nl (e ▸ z)) qq) (RepT.frame (.refl _) _ _ _ (fun a z => upd_ne fun e => nf' (e ▸ z)) r)
  unfold appT at e
  split at e
  · rename_i ds
    split at e
    · rename_i hlt
      simp only [RepT] at q
      obtain ⟨l, us, e1, e2, hl, q⟩ := q
      refine ⟨l, us, [], e1, e2, hl, by rw [q.length]; exact hlt, ?_⟩
      cases t with
      | sh d =>
        cases e
        simp only [RepT] at r
        obtain ⟨rfl, r⟩ := r
        subst e1
        subst e2
        simp only [RepT]
        exact ⟨l, _, rfl, rfl, upd_same, q.app (.one r)⟩
      | scr _ => cases e
      | ol _ => cases e; exact own e1 e2 hl (reps_sh q)
      | od _ => cases e; exact own e1 e2 hl (reps_sh q)
      | ot _ => cases e; exact own e1 e2 hl (reps_sh q)
      | tu _ => cases e; exact own e1 e2 hl (reps_sh q)
    · cases e
  · rename_i ts
    split at e
    · rename_i hlt
      simp only [RepT] at q
      obtain ⟨l, us, g, e1, e2, hl, q⟩ := q
      refine ⟨l, us, g, e1, e2, hl, by rw [q.length]; exact hlt, ?_⟩
      cases t with
      | scr _ => cases e
      | sh d => cases e; exact own e1 e2 hl q
      | ol _ => cases e; exact own e1 e2 hl q
      | od _ => cases e; exact own e1 e2 hl q
      | ot _ => cases e; exact own e1 e2 hl q
      | tu _ => cases e; exact own e1 e2 hl q
    · cases e
  · cases e
section
variable {X : Cx} {W : WX} {e : Expr} {te : TE} {ev : En → Rs T} {pos apos cpos np : Pos} {x : Str}
theorem sem_app {K : PySem.W.Frag} {mg : Str → Option Value} {mv : List Nat} (i : Nat) (h : SemE K mg W te ev mv) (hi : i ∉ mv) : SemS K mg W (tDrop (tBM K "list" rAppend (tVar i) (tCons te tNil))) (sApp i mv ev) [] := by
  intro E S φ ρ σ H D I q
  obtain ⟨c, ec, q⟩ := OutOK.outO (show OutOK K mg W E S σ [] (outO (ρ.get i) _) D from q)
  obtain ⟨v, hv, qc⟩ := I.slot i c (En.get_some ec)
  cases hL : c.isL with
  | false => rw [hL] at q; exact False.elim q
  | true =>
    rw [hL] at q
    obtain ⟨l0, us0, rfl, hl0⟩ := isL_rep hL qc
    refine ⟨_, hv, .inl ⟨rfl, us0, .of hl0⟩, ?_⟩
    refine h E S φ ρ σ H _ I ((OutOK.rsK I q).imp (fun t ht w S1 H1 f g1 r n fr => ?_) fun _ z => z)
    obtain ⟨c', ea, ht⟩ := ht.outO
    have I1 := I.grow g1
    have ap := I.apart g1 r fr
    have qc1 := qc.grow g1.s g1.h
    obtain ⟨l, us, g, e1, e2, hl, hlt, q'⟩ := app_rep ea qc1 r (fun a ha hf => hi ((ap a hf).2.2.2 i ha)) (I.nd i) n
    cases e1
    refine ⟨l0, us, w, rfl, rfl, hl, hlt, ?_⟩
    refine ht S1 _ σ _ ⟨g1.s, fun _ _ => rfl⟩ (I1.write (mv := mv) (l := l0) i (by rw [e2]; simp) (En.get_some ec) hv q' ?_ (fun a ha => ?_) hi)
    · exact List.nodup_append.mpr ⟨I.nd i, n, fun a ha b hb e => hi ((ap b hb).2.2.2 i (e ▸ ha))⟩
    · rcases List.mem_append.mp ha with z | z
      · exact .inl z
      · exact .inr (ap a z)
theorem ds_app (i : Nat) {mv : List Nat} (he : DE X W e te ev mv) (hi : i ∉ mv := by decide) (hN : X.N[i]? = some x := by rfl) (hv : Vis X.env.scope x := by first | exact Or.inl rfl | exact Or.inr (Or.inl rfl) | exact Or.inr (Or.inr rfl)) (hd : (x == ("__debug__" : Str)) = false := by decide)
    (hcd : (x == ("__classdict__" : Str)) = false := by decide)
    (hbase : attributeBase (.Name x np) "append" X.env (eval (.Name x np) X.env) = eval (.Name x np) X.env := by rfl)
    (hfew : ((backTo cpos (starEach [e] X.env)).all (fun x => !x.1) && (backToKw cpos (keywordEach [] X.env)).all (fun x => x.1.isSome)
      && decide ([e].length + ([] : List Keyword).length + (if ([] : List Keyword).isEmpty then 0 else 1) < 30)) = true := by rfl)
    (hline : (apos.endLine == cpos.line) = true := by rfl) (hs : starEach [e] X.env = (false, eval e X.env) :: starEach [] X.env := by rfl) (hplain : (backTo cpos (starEach ([] : List Expr) X.env)).any (·.1) = false := by rfl)
    (hsw : swapsWith (.Call (.Attribute (.Name x np) "append" apos) [e] [] cpos) none pos.line X.env = pure false := by rfl) :
    DS X W (.Expr (.Call (.Attribute (.Name x np) "append" apos) [e] [] cpos) pos) (tDrop (tBM X.K "list" rAppend (tVar i) (tCons te tNil))) (sApp i mv ev) [] :=
  ⟨ps_expr (pe_bm PySem.F.plainAttrs_list PySem.F.slot_list_append PySem.F.type_list_append mt_append (pe_var hN hv hd hcd) (pa_cons he.pe pa_nil hs) hbase hfew hline hs hplain) hsw, sem_app i he.sm hi⟩

/-! ### x[i] = e on an own list -/
def setT (c : T) (k : Int) (d : D) : Option T := match c with
  | .ol ds => (ixN ds.length k).map fun j => .ol (ds.set j d)
  | _ => none
def T.asD : T → Option D
  | .sh d => some d
  | _ => none
def sPut (i : Nat) (ek ev : En → Rs T) : En → Out := fun ρ => outO (ρ.get i) fun c => rsK (ev ρ) ρ fun t => outO t.asD fun d => rsK (ek ρ) ρ fun k => outO k.asI fun k => outO (setT c k d) fun c' => .nx (ρ.put i (some c'))
theorem sem_put {K : PySem.W.Frag} {mg : Str → Option Value} {tk : TE} {ek : En → Rs T} (i : Nat) (h : SemV K mg W te ev) (hk : SemV K mg W tk ek) : SemS K mg W (tAsg te (gSub (tVar i) tk rSetL)) (sPut i ek ev) [] := by
  intro E S φ ρ σ H D I q
  obtain ⟨c, ec, q⟩ := OutOK.outO (show OutOK K mg W E S σ [] (outO (ρ.get i) _) D from q)
  obtain ⟨v, hv, qc⟩ := I.slot i c (En.get_some ec)
  refine h E S φ ρ σ H _ I ((OutOK.rsK I q).imp (fun t ht w S1 H1 f g1 r => ⟨v, hv, ?_⟩) fun _ z => z)
  obtain ⟨d, ed, ht⟩ := ht.outO
  have I1 := I.grow g1
  have ht1 := OutOK.later (as := []) ht ⟨g1.s, fun _ _ => rfl⟩ [] (fun _ z => z) fun _ z => z
  refine hk E S1 φ ρ σ H1 _ I1 ((OutOK.rsK I1 ht1).imp (fun k hk' kv S2 H2 fk g2 rk => ?_) fun _ z => z)
  obtain ⟨k, ek', hk'⟩ := hk'.outO
  obtain ⟨c', ea, hk'⟩ := hk'.outO
  have I2 := I1.grow g2
  have g12 := g1.trans g2
  have qc2 := qc.grow g12.s g12.h
  have hset : ∃ ds j, c = .ol ds ∧ ixN ds.length k = some j ∧ T.ol (ds.set j d) = c' := by
    cases c with
    | ol ds =>
      obtain ⟨j, ej, e3⟩ := omap (show (ixN ds.length k).map (fun j => T.ol (ds.set j d)) = some c' from ea)
      exact ⟨ds, j, rfl, ej, e3⟩
    | _ => cases ea
  · obtain ⟨ds, j, rfl, ej, rfl⟩ := hset
    have rd : RepD S2 d w := by
      unfold T.asD at ed
      split at ed
      · cases ed
        simp only [RepT] at r
        exact RepD.mono g2.s _ _ r.2
      · cases ed
    simp only [RepT] at qc2
    obtain ⟨l, us, rfl, e2, hl, qs⟩ := qc2
    refine ⟨l, us, k, j, rfl, asI_rep rk ek', hl, by rw [qs.length]; exact ej, ?_⟩
    have I3 := I2.write (mv := []) (l := l) (o := .lst (us.set j w)) (t := .ol (ds.set j d)) (fp := [l]) i (by rw [e2]; simp) (En.get_some ec) hv (by simp only [RepT]; exact ⟨l, _, rfl, rfl, upd_same, qs.set j rd⟩) (by simp) (fun a ha => .inl (by rw [e2]; exact ha)) (by simp)
    exact hk' S2 _ σ _ ⟨g2.s, fun _ _ => rfl⟩ I3
theorem ds_put (i : Nat) {k : Expr} {tk : TE} {ek : En → Rs T} {spos : Pos} (he : DV X W e te ev) (hk : DV X W k tk ek) (hN : X.N[i]? = some x := by rfl) (hv : Vis X.env.scope x := by first | exact Or.inl rfl | exact Or.inr (Or.inl rfl) | exact Or.inr (Or.inr rfl)) (hd : (x == ("__debug__" : Str)) = false := by decide)
    (hcd : (x == ("__classdict__" : Str)) = false := by decide)
    (ha : ∀ v, assign (.Subscript (.Name x np) k spos) X.env v = (do
      let ov ← holding [v] (eval (.Name x np) X.env)
      let iv ← holding [v, ov] (eval k X.env)
      standAt spos
      holding [v, ov, iv] (setItem ov iv v)
      release [v, ov, iv] []) := by intro _; rfl)
    (hs : swapsWithSole [.Subscript (.Name x np) k spos] e pos.line X.env = pure false := by rfl) (hw : swappedStores [.Subscript (.Name x np) k spos] e X.env = pure none := by rfl)
    (h1 : (assignEach [.Subscript (.Name x np) k spos] X.env).map (·.2) = [assign (.Subscript (.Name x np) k spos) X.env] := by rfl) :
    DS X W (.Assign [.Subscript (.Name x np) k spos] e pos) (tAsg te (gSub (tVar i) tk rSetL)) (sPut i ek ev) [] :=
  ⟨ps_asg he.pe (pg_sub (pe_var hN hv hd hcd) hk.pe set_list ha) hs hw h1, sem_put i he.sm hk.sm⟩

/-! ### x op= e, numbers and texts -/
theorem sem_aug {K : PySem.W.Frag} {mg : Str → Option Value} {r : R2} {f : T → T → Option T} (i : Nat) (hs : SemOp K r f) (h : SemV K mg W te ev) : SemS K mg W (tAug i te r) (sSet i [] (evBin f (evVar i) ev)) [i] := by
  intro E S φ ρ σ H D I q
  have q1 := (OutOK.rsK I q).bind
  obtain ⟨c, ec, q1⟩ := (show RsOK (rsO (ρ.get i)) _ _ from q1).rsO
  obtain ⟨v, hv, qc⟩ := I.slot i c (En.get_some ec)
  refine ⟨v, hv, ?_⟩
  refine h E S φ ρ σ H _ I ((RsOK.bind q1).imp (fun t ht w S1 H1 fw g1 rw' => ?_) fun _ z => z)
  obtain ⟨t', et, ht⟩ := ht.rsO
  refine hs S1 H1 c t v w (φ i) fw _ t' g1.i (qc.grow g1.s g1.h) rw' et (fun z S2 H2 fz g2 rz nz fz' => ?_)
  have g := g1.trans g2
  exact ht S2 _ _ H2 (.set g.s) (I.store (mv := []) i g rz nz fun a ha => ⟨(fz' a ha).1, .inl (g1.h.free (fz' a ha).2)⟩)
theorem ds_aug (i : Nat) {op : Operator} {r : R2} {f : T → T → Option T} (hN : X.N.Nodup) (ho : OpR X (inplaceOp op) r) (hs : SemOp X.K r f) (he : DV X W e te ev) (hi : X.N[i]? = some x := by rfl) (hx : Loc X.env.scope x := by first | exact Or.inl rfl | exact Or.inr rfl) (hf : X.fn x = true ∨ X.env.scope.names.lookup x = some .local := by first | exact .inl rfl | exact .inr rfl | assumption) :
    DS X W (.AugAssign (.Name x np) op e pos) (tAug i te r) (sSet i [] (evBin f (evVar i) ev)) [i] :=
  ⟨ps_aug hN hi hx he.pe (fun pins s σ H x y v u Q I rx ry h => ho pins s σ H x y v u Q I rx ry h) hf, sem_aug i hs he.sm⟩
def rIPlus : R2 := orR (rI' fun i j => i + j) rStrAdd
theorem iop_plus {X : Cx} : OpR X (inplaceOp .Add) rIPlus := iop_add.or iop_add_str
def fIAdd (x y : T) : Option T := (f2I (fun i j => some (.int (i + j))) x y).or (fStrAdd x y)
theorem sem_iadd {K : PySem.W.Frag} : SemOp K rIPlus fIAdd := sem_I0.or (sem_strAdd (K := K))

/-! ### a, b = e -/
def T.parts : T → Option (List T)
  | .sh (.tuple ds) => some (ds.map .sh)
  | .tu ts => some ts
  | _ => none
/-- slots take the values one behind another -/
def putAll : List Nat → List T → En → Option En
  | [], [], ρ => some ρ
  | i :: is, t :: ts, ρ => putAll is ts (ρ.put i (some t))
  | _, _, _ => none
def sUnp (is : List Nat) (mv : List Nat) (ev : En → Rs T) : En → Out := fun ρ => rsK (ev ρ) ρ fun t => outO t.parts fun ts => outO (putAll is ts (ρ.clr mv)) .nx
def gNames : List Nat → TGs
  | [] => gNil
  | i :: is => gCons (gName i) (gNames is)
/-- the values ts at vs, their things at fps, laid into slots one behind another -/
theorem putAll_ok {K : PySem.W.Frag} {E : Ent} {S : Hp} {H : Hp} : ∀ {is : List Nat} {ts : List T} {vs : List V} {fp : List Addr} {φ : Nat → List Addr} {ρ ρ' : En} {σ : St} {Q : St → Hp → Prop}, StInv K E S φ ρ σ H → RepTs K S H ts vs fp → fp.Nodup →
    (∀ a ∈ fp, S a = none ∧ E.H a = none ∧ ∀ j, a ∉ φ j) → putAll is ts ρ = some ρ' → (∀ φ' σ', (∀ i, i ∉ is → σ'[i]? = σ[i]?) → StInv K E S φ' ρ' σ' H → Q σ' H) → gNames is vs σ H Q
  | [], [], vs, fp, φ, ρ, ρ', σ, Q, I, q, nd, f, e, k => by
    cases e
    simp only [RepTs] at q
    exact ⟨q.1, k φ σ (fun _ _ => rfl) I⟩
  | [], t :: ts, vs, fp, φ, ρ, ρ', σ, Q, I, q, nd, f, e, k => by cases e
  | i :: is, [], vs, fp, φ, ρ, ρ', σ, Q, I, q, nd, f, e, k => by cases e
  | i :: is, t :: ts, vs, fp, φ, ρ, ρ', σ, Q, I, q, nd, f, e, k => by
    simp only [RepTs] at q
    obtain ⟨v, r, f1, f2, rfl, rfl, q1, q2⟩ := q
    obtain ⟨n1, n2, n3⟩ := List.nodup_append.mp nd
    refine ⟨v, r, rfl, ?_⟩
    -- slot i
    have I1 : StInv K E S (fun j => if j = i then f1 else φ j) (ρ.put i (some t)) (σ.set i (some v)) H := by
      refine ⟨I.gr, by rw [put_eq, List.length_set, List.length_set]; exact I.len, fun j t' hj => ?_, fun j => ?_, fun j l a h1 h2 => ?_, fun j a ha => ?_⟩
      · rw [put_eq] at hj
        by_cases ej : i = j
        · subst ej
          have hlt : i < ρ.length := by
            by_cases hl : i < ρ.length
            · exact hl
            · rw [List.getElem?_eq_none (by simpa using hl)] at hj; cases hj
          rw [List.getElem?_set_self hlt] at hj
          cases hj
          exact ⟨v, List.getElem?_set_self (by rw [← I.len]; exact hlt), by rw [if_pos rfl]; exact q1⟩
        · rw [List.getElem?_set_ne ej] at hj
          obtain ⟨w, h3, r'⟩ := I.slot j t' hj
          exact ⟨w, by rw [List.getElem?_set_ne ej]; exact h3, by rw [if_neg (fun z => ej z.symm)]; exact r'⟩
      · show (if j = i then f1 else φ j).Nodup
        split
        · exact n1
        · exact I.nd j
      · by_cases ej : j = i
        · rw [if_pos ej] at h1
          by_cases el : l = i
          · rw [ej, el]
          · rw [if_neg el] at h2
            exact absurd h2 ((f a (List.mem_append_left _ h1)).2.2 l)
        · rw [if_neg ej] at h1
          by_cases el : l = i
          · rw [if_pos el] at h2
            exact absurd h1 ((f a (List.mem_append_left _ h2)).2.2 j)
          · rw [if_neg el] at h2
            exact I.dj j l a h1 h2
      · by_cases ej : j = i
        · rw [if_pos ej] at ha
          obtain ⟨z1, z2, _⟩ := f a (List.mem_append_left _ ha)
          exact ⟨z1, z2, RepT.there _ _ _ q1 a ha⟩
        · rw [if_neg ej] at ha
          exact I.fr j a ha
    refine putAll_ok I1 q2 n2 (fun a ha => ?_) e fun φ' σ' k' I' => k φ' σ' (fun j hj => ?_) I'
    · obtain ⟨z1, z2, z3⟩ := f a (List.mem_append_right _ ha)
      refine ⟨z1, z2, fun j => ?_⟩
      by_cases ej : j = i
      · rw [if_pos ej]; exact fun z => n3 a z a ha rfl
      · rw [if_neg ej]; exact z3 j
    · simp only [List.mem_cons, not_or] at hj
      rw [k' j hj.2, List.getElem?_set_ne fun e => hj.1 e.symm]
theorem StInv.clrd {K : PySem.W.Frag} {E : Ent} {S : Hp} {φ : Nat → List Addr} {ρ : En} {σ : St} {H : Hp} (I : StInv K E S φ ρ σ H) (mv : List Nat) : StInv K E S (fun j => if j ∈ mv then [] else φ j) (ρ.clr mv) σ H := by
  refine ⟨I.gr, by rw [clr_len]; exact I.len, fun j t hj => ?_, fun j => ?_, fun j l a h1 h2 => ?_, fun j a ha => ?_⟩
  · obtain ⟨h1, h2⟩ := clr_at mv ρ j t hj
    obtain ⟨w, h3, r⟩ := I.slot j t h1
    exact ⟨w, h3, by rw [if_neg h2]; exact r⟩
  · show (if j ∈ mv then [] else φ j).Nodup
    split
    · exact .nil
    · exact I.nd j
  · by_cases hj : j ∈ mv
    · rw [if_pos hj] at h1; cases h1
    · rw [if_neg hj] at h1
      by_cases hk : l ∈ mv
      · rw [if_pos hk] at h2; cases h2
      · rw [if_neg hk] at h2
        exact I.dj j l a h1 h2
  · by_cases hj : j ∈ mv
    · rw [if_pos hj] at ha; cases ha
    · rw [if_neg hj] at ha
      exact I.fr j a ha
theorem parts_rep {K : PySem.W.Frag} {S H : Hp} {t : T} {v : V} {fp : List Addr} {ts : List T} (i : Same S H) (e : t.parts = some ts) (q : RepT K S H t v fp) : ∃ p us f, v = .ref p ∧ SqT K H p us ∧ RepTs K S H ts us f ∧ (∀ a ∈ f, a ∈ fp) ∧ (fp.Nodup → f.Nodup) := by
  unfold T.parts at e
  split at e
  · cases e
    have q := rep_sh q
    simp only [RepD] at q
    obtain ⟨p, us, rfl, h, r⟩ := q
    exact ⟨p, us, [], rfl, (h.same (i _)).sq, reps_sh r, (fun a ha => by cases ha), fun _ => List.Pairwise.nil⟩
  · cases e
    simp only [RepT] at q
    obtain ⟨p, us, f, rfl, rfl, h, r⟩ := q
    exact ⟨p, us, f, rfl, h.sq, r, fun a ha => List.mem_cons_of_mem _ ha, fun n => (List.nodup_cons.mp n).2⟩
  · cases e
theorem putAll_len : ∀ {is : List Nat} {ts : List T} {ρ ρ' : En}, putAll is ts ρ = some ρ' → ts.length = is.length
  | [], [], _, _, _ => rfl
  | [], _ :: _, _, _, e => by cases e
  | _ :: _, [], _, _, e => by cases e
  | i :: is, t :: ts, ρ, ρ', e => by
    show ts.length + 1 = is.length + 1
    rw [putAll_len (show putAll is ts (ρ.put i (some t)) = some ρ' from e)]
theorem sem_unp {K : PySem.W.Frag} {mg : Str → Option Value} {mv is : List Nat} (h : SemE K mg W te ev mv) : SemS K mg W (tAsg te (gTup K is.length (gNames is))) (sUnp is mv ev) is := by
  intro E S φ ρ σ H D I q
  refine h E S φ ρ σ H _ I ((OutOK.rsK I q).imp (fun t ht w S1 H1 f g1 r n fr => ?_) fun _ z => z)
  obtain ⟨ts, et, ht⟩ := ht.outO
  obtain ⟨ρ', ep, ht⟩ := ht.outO
  obtain ⟨p, us, f', rfl, sq, rs, sub, nd⟩ := parts_rep g1.i et r
  have ap := I.apart g1 r fr
  refine ⟨p, us, rfl, sq, by rw [rs.length]; exact putAll_len ep, ?_⟩
  refine putAll_ok ((I.grow g1).clrd mv) rs (nd n) (fun a ha => ?_) ep fun φ' σ' k I' => ht S1 φ' σ' H1 ⟨g1.s, k⟩ I'
  obtain ⟨z1, z2, _, z3⟩ := ap a (sub a ha)
  refine ⟨z1, z2, fun j => ?_⟩
  by_cases hj : j ∈ mv
  · rw [if_pos hj]; simp
  · rw [if_neg hj]; exact fun z => hj (z3 j z)
/-- targets that are plain names -/
structure DN (X : Cx) (ts : List Expr) (is : List Nat) : Prop where
  pg : PGs X ts (gNames is)
theorem dn_nil : DN X [] [] := ⟨pgs_nil⟩
theorem dn_cons (i : Nat) {r : List Expr} {is : List Nat} (hN : X.N.Nodup) (h : DN X r is) (hi : X.N[i]? = some x := by rfl) (hx : Loc X.env.scope x := by first | exact Or.inl rfl | exact Or.inr rfl) (hf : X.fn x = true ∨ X.env.scope.names.lookup x = some .local := by first | exact .inl rfl | exact .inr rfl | assumption)
    (hs : (assignEach (.Name x np :: r) X.env).map (·.2) = assign (.Name x np) X.env :: (assignEach r X.env).map (·.2) := by rfl) : DN X (.Name x np :: r) (i :: is) :=
  ⟨pgs_cons (pg_name hN hi hx hf) h.pg hs⟩
theorem ds_unp {es : List Expr} {is mv : List Nat} {k : Nat} {tpos : Pos} (hc : X.calm = true) (hn : DN X es is) (he : DE X W e te ev mv) (hl : (assignEach es X.env).length = is.length := by rfl) (hst : (assignEach es X.env).findIdx? (·.1) = none := by rfl)
    (hs : swapsWithSole [.Tuple es k tpos] e pos.line X.env = pure false := by rfl) (hw : swappedStores [.Tuple es k tpos] e X.env = pure none := by rfl)
    (h1 : (assignEach [.Tuple es k tpos] X.env).map (·.2) = [assign (.Tuple es k tpos) X.env] := by rfl) :
    DS X W (.Assign [.Tuple es k tpos] e pos) (tAsg te (gTup X.K is.length (gNames is))) (sUnp is mv ev) is :=
  ⟨ps_asg he.pe (pg_tup hc hn.pg hl hst) hs hw h1, sem_unp he.sm⟩
/-- an expression whose value is dropped -/
def sDrop (ev : En → Rs T) : En → Out := fun ρ => rsK (ev ρ) ρ fun _ => .nx ρ
theorem ds_expr (he : DE X W e te ev []) (hs : swapsWith e none pos.line X.env = pure false := by rfl) : DS X W (.Expr e pos) (tDrop te) (sDrop ev) [] := by
  refine ⟨ps_expr he.pe hs, fun E S φ ρ σ H D I q => ?_⟩
  exact he.sm E S φ ρ σ H _ I ((OutOK.rsK I q).imp (fun t ht w S1 H1 f g1 r n fr => ht S1 φ σ H1 ⟨g1.s, fun _ _ => rfl⟩ (I.grow g1)) fun _ z => z)
end
end PL
set_option Elab.async false
set_option linter.all false
set_option maxRecDepth 100000
/-! PL9: truth, several roads for one operator, the ways of calls. -/
namespace PL
open PySem PySem.Spec L2

def T.tru : T → Option Bool
  | .sh .none => some false
  | .sh (.bool b) => some b
  | .sh (.int i) => some (i != 0)
  | .sh (.str z) => if z.length ≤ sizeLine then some ((z.length : Int) != 0) else none
  | .sh (.list ds) => some (!ds.isEmpty)
  | .sh (.tuple ds) => some (!ds.isEmpty)
  | .ol ds => some (!ds.isEmpty)
  | .ot ds => some (!ds.isEmpty)
  | .tu ds => some (!ds.isEmpty)
  | .scr ns => some (!ns.isEmpty)
  | _ => none
theorem empty_len {α β : Type} {a : List α} {b : List β} (h : b.length = a.length) : (!a.isEmpty) = !b.isEmpty := by
  cases a <;> cases b <;> first | rfl | (simp at h)
theorem tru_rep {K : PySem.W.Frag} {S H : Hp} {t : T} {v : V} {fp : List Addr} {b : Bool} (i : Same S H) (q : RepT K S H t v fp) (e : t.tru = some b) : TruV K v H b := by
  unfold T.tru at e
  split at e
  · cases e; have q := rep_sh q; simp only [RepD] at q; subst q; rfl
  · cases e; have q := rep_sh q; simp only [RepD] at q; subst q; rfl
  · cases e; have q := rep_sh q; simp only [RepD] at q; subst q; rfl
  · split at e
    · rename_i hz
      cases e; have q := rep_sh q; simp only [RepD] at q; subst q; exact ⟨hz, rfl⟩
    · cases e
  · cases e
    have q := rep_sh q
    simp only [RepD] at q
    obtain ⟨a, vs, rfl, h, r⟩ := q
    exact .inl ⟨vs, .of (i _ _ h), empty_len r.length⟩
  · cases e
    have q := rep_sh q
    simp only [RepD] at q
    obtain ⟨a, vs, rfl, h, r⟩ := q
    exact .inr (.inl ⟨vs, (h.same (i _)).sq, empty_len r.length⟩)
  · cases e
    simp only [RepT] at q
    obtain ⟨a, vs, rfl, _, h, r⟩ := q
    exact .inl ⟨vs, .of h, empty_len r.length⟩
  · cases e
    simp only [RepT] at q
    obtain ⟨a, vs, f, rfl, _, h, r⟩ := q
    exact .inl ⟨vs, .of h, empty_len r.length⟩
  · cases e
    simp only [RepT] at q
    obtain ⟨a, vs, f, rfl, _, h, r⟩ := q
    exact .inr (.inl ⟨vs, h.sq, empty_len r.length⟩)
  · cases e
    simp only [RepT] at q
    obtain ⟨_, a, rfl, h⟩ := q
    exact .inl ⟨_, i.seq h, empty_len (by rw [List.length_map])⟩
  · cases e
def evTru (ev : En → Rs T) : En → Rs Bool := fun ρ => (ev ρ).bind fun t => rsO t.tru
section
variable {X : Cx} {W : WX} {e : Expr} {te : TE} {ev : En → Rs T}
theorem dt_tru (h : DV X W e te ev) (he : ∀ whole, isTrue e X.env whole = (do let v ← whole; standAt e.pos; holding [v] (truthy v)) := by intro _; rfl) : DT X W e (fun σ H Q => te σ H fun x H' => ∃ k, TruV X.K x H' k ∧ Q k H') (evTru ev) := by
  refine ⟨pt_truth h.pe he, fun E S φ ρ σ H Q I q => ?_⟩
  refine h.sm E S φ ρ σ H _ I (q.bind.imp (fun t ht v S' H' fp g q => ?_) fun _ x => x)
  obtain ⟨b, e, ht⟩ := ht.rsO
  exact ⟨b, tru_rep g.i q e, ht S' H' g⟩
end
/-! ### in -/
def fInS (neg : Bool) (x y : T) : Option T := match x, y with
  | .sh (.str i), .sh (.str j) => some (.sh (.bool (if neg then !(!(Builtin.Str.occurrences j i 0 j.length 1).isEmpty) else !(Builtin.Str.occurrences j i 0 j.length 1).isEmpty)))
  | _, _ => none
abbrev rInS : R2 := fun x y H Q => ∃ i j, x = .str i ∧ y = .str j ∧ Q (.bl (!(Builtin.Str.occurrences j i 0 j.length 1).isEmpty)) H
abbrev rNinS : R2 := fun x y H Q => ∃ i j, x = .str i ∧ y = .str j ∧ Q (.bl (!(!(Builtin.Str.occurrences j i 0 j.length 1).isEmpty))) H
theorem sem_inS {K : PySem.W.Frag} : SemOp K rInS (fInS false) := by
  intro S H x y vx vy fx fy Q t i qx qy e R
  unfold fInS at e
  split at e
  · rename_i a b
    cases e
    have h1 := rep_sh qx
    have h2 := rep_sh qy
    simp only [RepD] at h1 h2
    exact ⟨a, b, h1, h2, R.flat i fun _ => by simp only [RepD]; rfl⟩
  · cases e
theorem sem_ninS {K : PySem.W.Frag} : SemOp K rNinS (fInS true) := by
  intro S H x y vx vy fx fy Q t i qx qy e R
  unfold fInS at e
  split at e
  · rename_i a b
    cases e
    have h1 := rep_sh qx
    have h2 := rep_sh qy
    simp only [RepD] at h1 h2
    exact ⟨a, b, h1, h2, R.flat i fun _ => by simp only [RepD]; rfl⟩
  · cases e
def fIn (x y : T) : Option T := (fInF false x y).or ((fInS false x y).or (fInG false x y))
def fNin (x y : T) : Option T := (fInF true x y).or ((fInS true x y).or (fInG true x y))
abbrev rInA (K : PySem.W.Frag) : R2 := orR (rIn K false) (orR rInS (rInD K))
abbrev rNinA (K : PySem.W.Frag) : R2 := orR (rIn K true) (orR rNinS (rNotInD K))
theorem sem_in {K : PySem.W.Frag} : SemOp K (rInA K) fIn := (sem_inF false).or (sem_inS.or sem_inG)
theorem sem_nin {K : PySem.W.Frag} : SemOp K (rNinA K) fNin := (sem_inF true).or (sem_ninS.or sem_ninG)
theorem op_ins {X : Cx} {k : Nat} (hr : Room k X.A) : OpR X (compareOp .In) (rInA X.K) := op_in_seq.or (op_in_str.or (op_inD (by have := hr.un; omega)))
theorem op_nins {X : Cx} {k : Nat} (hr : Room k X.A) : OpR X (compareOp .NotIn) (rNinA X.K) := op_notIn_seq.or (op_notIn_str.or (op_notInD (by have := hr.un; omega)))
end PL
set_option Elab.async false
set_option linter.all false
set_option maxRecDepth 100000
/-! PL10: ranges as lists and tuples, constants of the module, raise. -/
namespace PL
open PySem PySem.Spec L2

/-! ### list(range(..)), tuple(range(..)) -/
def SemR (K : PySem.W.Frag) (mg : Str → Option Value) (W : WX) (t : St → Hp → (Int → Int → Hp → Prop) → Prop) (ev : En → Rs (Int × Int)) : Prop :=
  ∀ E S φ ρ σ H Q, StInv K E S φ ρ σ H → RsOK (ev ρ) (fun p => ∀ S' H', Grow S H S' H' → Q p.1 p.2 H') (fun c => ∀ S' H', Grow S H S' H' → XOK mg W c σ H') → t σ H Q
structure DRg (X : Cx) (W : WX) (e : Expr) (t : St → Hp → (Int → Int → Hp → Prop) → Prop) (ev : En → Rs (Int × Int)) : Prop where
  pr : PRg X e t
  sm : SemR X.K X.mg W t ev
def erg1 (ea : En → Rs T) : En → Rs (Int × Int) := fun ρ => (ea ρ).bind fun t => (rsO t.asI).bind fun i => .ok (0, i)
def erg2 (ea eb : En → Rs T) : En → Rs (Int × Int) := fun ρ => (ea ρ).bind fun t => (eb ρ).bind fun u => (rsO t.asI).bind fun i => (rsO u.asI).bind fun j => .ok (i, j)
def okRg (p : Int × Int) : Bool := decide (-(2 ^ 62) ≤ p.1 ∧ p.1 < 2 ^ 62 ∧ -(2 ^ 62) ≤ p.2 ∧ p.2 < 2 ^ 62 ∧ (p.2 - p.1).toNat ≤ 2 ^ 24)
theorem okRg_ok {p : Int × Int} (h : okRg p = true) : RgOk p.1 p.2 := by
  have := of_decide_eq_true (show decide _ = true from h)
  exact this
def evLRg (er : En → Rs (Int × Int)) : En → Rs T := fun ρ => (er ρ).bind fun p => if okRg p = true then .ok (.ol (rngD p.1 p.2)) else .bad
def evTRg (er : En → Rs (Int × Int)) : En → Rs T := fun ρ => (er ρ).bind fun p => if okRg p = true then .ok (.sh (.tuple (rngD p.1 p.2))) else .bad
theorem rep_map {S : Hp} {α : Type} (f : α → D) (g : α → V) (h : ∀ x, RepD S (f x) (g x)) : ∀ l : List α, RepDs S (l.map f) (l.map g)
  | [] => .nil
  | x :: l => .cons (h x) (rep_map f g h l)
theorem rep_rng {S : Hp} (a b : Int) : RepDs S (rngD a b) (rgV a b) := rep_map _ _ (fun _ => by simp only [RepD]) _
def tTupRgF (te : St → Hp → (Int → Int → Hp → Prop) → Prop) : TE := fun σ H Q => te σ H fun a b H1 => RgOk a b ∧ NewT H1 (rgV a b) Q
open PyProof.Rows in
theorem pe_tupRgF {X : Cx} {p pos : Pos} {e : Expr} {te : L2.St → Hp → (Int → Int → Hp → Prop) → Prop} (hc : X.calm = true) (hg : Gl X "tuple") (hm : X.mg "tuple" = none) (he : PRg X e te) (na : starEach [e] X.env = (false, eval e X.env) :: starEach [] X.env := by rfl) : PE X (.Call (.Name "tuple" p) [e] [] pos) (tTupRgF te) := by
  refine ⟨fun pins s σ H Q I h => ?_⟩
  refine Call_ (ld_blt I hg hm boot_tuple (PyProof.Rows.callWith_type1 (args_cons (thn (he pins s σ H _ I h) fun x s1 ⟨r, a, b, t, u, v, H1, ex, hr, I1, ok, q⟩ => args_nil ?_) na) na))
  subst ex
  obtain ⟨b1, b2, b3, b4, b5⟩ := ok
  refine call_tuple_range (n := (b - a).toNat) (I1.ok.hd hc) hr (small_one b1 b2 b3 b4) (rangeSize_nat a b) b5 fun h' tk acc hk hi => ?_
  have J : Inv X pins σ H1 { s1 with heap := h', toks := tk } := I1.kept hk
  have hz : (rgV a b).length ≤ sizeLine := by rw [rgV_length, sizeLine_eq]; omega
  have z := tnew J (vals_rg hi) hz tk
  have e : acc.toList.toArray = acc := Array.toArray_toList
  simp only [tupO, e] at z
  exact ⟨.ref h'.objs.size, _, z, rfl, q _ _ J.fresh rfl⟩
section
variable {X : Cx} {W : WX} {a b : Expr} {ta tb : TE} {ea eb : En → Rs T} {p pos : Pos} {e : Expr} {te : St → Hp → (Int → Int → Hp → Prop) → Prop} {er : En → Rs (Int × Int)}
theorem drg_1 (hg : Gl X "range") (hm : X.mg "range" = none) (ha : DV X W a ta ea) (na : starEach [a] X.env = (false, eval a X.env) :: starEach [] X.env := by rfl) : DRg X W (.Call (.Name "range" p) [a] [] pos) (tRg1 ta) (erg1 ea) := by
  refine ⟨prg_1 hg hm ha.pe na, fun E S φ ρ σ H Q I h => ?_⟩
  refine ha.sm E S φ ρ σ H _ I (h.bind.imp (fun t ht v S1 H1 f g1 q => ?_) fun _ z => z)
  obtain ⟨i, ei, ht⟩ := ht.bind.rsO
  exact ⟨i, asI_rep q ei, ht S1 H1 g1⟩
theorem drg_2 (hg : Gl X "range") (hm : X.mg "range" = none) (ha : DV X W a ta ea) (hb : DV X W b tb eb) (na : starEach [a, b] X.env = (false, eval a X.env) :: starEach [b] X.env := by rfl) (nb : starEach [b] X.env = (false, eval b X.env) :: starEach [] X.env := by rfl) (hp : ((backTo pos (starEach [b] X.env)).any fun x => x.fst) = false := by rfl) :
    DRg X W (.Call (.Name "range" p) [a, b] [] pos) (tRg2 ta tb) (erg2 ea eb) := by
  refine ⟨prg_2 hg hm ha.pe hb.pe na nb hp, fun E S φ ρ σ H Q I h => ?_⟩
  refine ha.sm E S φ ρ σ H _ I (h.bind.imp (fun t ht v S1 H1 f g1 q => ?_) fun _ z => z)
  refine hb.sm E S1 φ ρ σ H1 _ (I.grow g1) (ht.bind.imp (fun u hu w S2 H2 f2 g2 q2 => ?_) fun _ z S' H' g => z S' H' (g1.trans g))
  obtain ⟨i, ei, hu⟩ := hu.bind.rsO
  obtain ⟨j, ej, hu⟩ := (RsOK.bind hu).rsO
  exact ⟨i, j, asI_rep q ei, asI_rep q2 ej, hu S2 H2 (g1.trans g2)⟩
theorem de_listRg (hc : X.calm = true) (hg : Gl X "list") (hm : X.mg "list" = none) (he : DRg X W e te er) (na : starEach [e] X.env = (false, eval e X.env) :: starEach [] X.env := by rfl) : DE X W (.Call (.Name "list" p) [e] [] pos) (tLstRg te) (evLRg er) [] := by
  refine ⟨pe_listRg hc hg hm he.pr na, fun E S φ ρ σ H Q I h => ?_⟩
  refine he.sm E S φ ρ σ H _ I (h.bind.imp (fun p hp S1 H1 g1 => ?_) fun _ z => z)
  by_cases ok : okRg p = true
  · rw [if_pos ok] at hp
    exact ⟨okRg_ok ok, fun q hq => (RetM.ret (show RetM X.K S H φ [] _ Q from hp) |>.later g1).lst g1.i (rep_rng _ _) hq⟩
  · rw [if_neg ok] at hp; exact False.elim hp
theorem de_tupleRg (hc : X.calm = true) (hg : Gl X "tuple") (hm : X.mg "tuple" = none) (he : DRg X W e te er) (na : starEach [e] X.env = (false, eval e X.env) :: starEach [] X.env := by rfl) : DE X W (.Call (.Name "tuple" p) [e] [] pos) (tTupRgF te) (evTRg er) [] := by
  refine ⟨pe_tupRgF hc hg hm he.pr na, fun E S φ ρ σ H Q I h => ?_⟩
  refine he.sm E S φ ρ σ H _ I (h.bind.imp (fun p hp S1 H1 g1 => ?_) fun _ z => z)
  by_cases ok : okRg p = true
  · rw [if_pos ok] at hp
    exact ⟨okRg_ok ok, (RetM.ret (show RetM X.K S H φ [] _ Q from hp) |>.later g1).tup g1.i (rep_rng _ _)⟩
  · rw [if_neg ok] at hp; exact False.elim hp
end

/-! ### constants of the module -/
section
variable {X : Cx} {W : WX} {x : Str} {pos : Pos} {i : Int} {z : Str}
theorem de_gI (h : ∃ t, X.mg x = some (.int i t)) (hg : Gl X x := by rfl) (hd : (x == ("__debug__" : Str)) = false := by decide) : DE X W (.Name x pos) (tC (.int i)) (evC (.int i)) [] := by
  obtain ⟨t, hm⟩ := h
  exact ⟨pe_glob hg hm ⟨t, rfl⟩ hd, sem_c (fun _ => by simp only [RepD]) fun _ _ _ h => h⟩
theorem de_gS (h : ∃ t, X.mg x = some (.str z t)) (hg : Gl X x := by rfl) (hd : (x == ("__debug__" : Str)) = false := by decide) : DE X W (.Name x pos) (tC (.str z)) (evC (.str z)) [] := by
  obtain ⟨t, hm⟩ := h
  exact ⟨pe_glob hg hm ⟨t, rfl⟩ hd, sem_c (fun _ => by simp only [RepD]) fun _ _ _ h => h⟩
end

/-! ### raise X('..') -/
structure ExcOk (K : PySem.W.Frag) (mg : Str → Option Value) (x : Str) : Prop where
  ex : ∃ C, mg x = some (.ref C) ∧ PySem.W.excIn K C [.type "ValueError", .type "Exception", .type "BaseException", .type "object"] "ValueError.__new__" = true ∧ PySem.W.keepIn K (.ref C) = true ∧ PySem.W.subIn K (.ref C) (.type "BaseException") = some true ∧ PySem.W.typeIn K (.ref C) = some (.type "type")
def sRaise (c : Str) : En → Out := fun ρ => .ex c ρ
section
variable {X : Cx} {W : WX} {x m : Str} {pos p p2 p3 : Pos} {j : Nat}
def tRaise (mg : Str → Option Value) (W : WX) (x : Str) : TS := fun D σ H => ∀ C, mg x = some (.ref C) → W (.ref C) none σ H
theorem ds_raise (tk : Takes X W) (h : ExcOk X.K X.mg x) (hc : X.calm = true := by rfl) (hg : Gl X x := by rfl) (hdb : (x == ("__debug__" : Str)) = false := by decide) : DS X W (.Raise (some (.Call (.Name x p) [.Constant (.str m) j p2] [] p3)) none pos) (tRaise X.mg W x) (sRaise x) [] := by
  obtain ⟨C, g, e, k, s, t⟩ := h.ex
  refine ⟨⟨fun pins s' σ H D I q => ?_⟩, fun E S φ ρ σ H D I q => ?_⟩
  · exact (ps_raise hc tk (pmk_own PySem.F.excBase_ValueError e g k (raises_own s t) hg hdb)).run pins s' σ H D I (q C g)
  · exact q S φ σ H .refl I
end
end PL
set_option Elab.async false
set_option linter.all false
/-! PL11: the rules whose reading names the frame of the program, with that frame as a letter (a reading must not name the block's own things). -/
namespace PL
open PySem PySem.Spec L2
section
variable {X : Cx} {W : WX} {a b : Expr} {ta tb : TE} {ea eb : En → Rs T} {pos : Pos} {K : PySem.W.Frag} {mg : Str → Option Value}
theorem dv_ixK (ha : DV X W a ta ea) (hb : DV X W b tb eb) (hK : X.K = K := by rfl) (hs : PlainIx b := by exact fun _ _ => rfl) : DV X W (.Subscript a b pos) (tOp (rIx K) ta tb) (evBin fIx ea eb) := by subst hK; exact dv_ixS ha hb hs
theorem op_plusK (hK : X.K = K := by rfl) : OpR X (binaryOp .Add) (rPlus K) := by subst hK; exact op_plus
theorem op_eqsK (hu : X.A.units + 64 < cLine) (hK : X.K = K := by rfl) : OpR X (compareOp .Eq) (rEqs K) := by subst hK; exact op_eqs hu
theorem op_nesK (hu : X.A.units + 64 < cLine) (hK : X.K = K := by rfl) : OpR X (compareOp .NotEq) (rNes K) := by subst hK; exact op_nes hu
theorem op_insK {k : Nat} (hr : Room k X.A) (hK : X.K = K := by rfl) : OpR X (compareOp .In) (rInA K) := by subst hK; exact op_ins hr
theorem op_ninsK {k : Nat} (hr : Room k X.A) (hK : X.K = K := by rfl) : OpR X (compareOp .NotIn) (rNinA K) := by subst hK; exact op_nins hr
theorem sl_allK (hK : X.K = K := by rfl) : SlR X (rSlAll K) := by subst hK; exact sl_all
theorem de_revK {k : Nat} {p1 p2 p3 : Pos} (ha : DV X W a ta ea) (hK : X.K = K := by rfl) : DE X W (.Subscript a (.Slice none none (some (.UnaryOp .USub (.Constant (.int 1) k p1) p2)) p3) pos) (tRevL K ta) (evUn fRev ea) [] := by subst hK; exact de_rev ha
theorem cr_lenK (hK : X.K = K := by rfl) : CallR X (.builtin "len") (rLenS K) := by subst hK; exact call_len
theorem cr_sumK (hc : X.calm = true) (hK : X.K = K := by rfl) : CallR X (.builtin "sum") (rSum K) := by subst hK; exact cr_sum hc
theorem cr_maxK (hc : X.calm = true) (hK : X.K = K := by rfl) : CallR X (.builtin "max") (rMaxA K) := by subst hK; exact cr_maxA hc
theorem cr_minK (hc : X.calm = true) (hK : X.K = K := by rfl) : CallR X (.builtin "min") (rMinA K) := by subst hK; exact cr_minA hc
theorem cr_allK (hc : X.calm = true) (hK : X.K = K := by rfl) : CallR X (.builtin "all") (rAll K) := by subst hK; exact cr_all hc
theorem cr_anyK (hc : X.calm = true) (hK : X.K = K := by rfl) : CallR X (.builtin "any") (rAny K) := by subst hK; exact cr_any hc
theorem cr_sortedIK (hK : X.K = K := by rfl) : CallR X (.builtin "sorted") (rSortedI K) := by subst hK; exact cr_sortedI
theorem cr_listK (hK : X.K = K := by rfl) : CallR X (.type "list") (rListOf K) := by subst hK; exact call_list_of
theorem cr_tupK (hK : X.K = K := by rfl) : CallR X (.type "tuple") (rTupOf K) := by subst hK; exact call_tupOf
theorem de_isiK {b : String} {p p2 : Pos} (hg : Gl X "isinstance") (hm : X.mg "isinstance" = none) (ha : DV X W a ta ea) (gb : Gl X (Str.ofString b)) (mb : X.mg (Str.ofString b) = none) (hv : bootBuiltins (Str.ofString b) = some (.type b)) (hb : b = "int" ∨ b = "bool" ∨ b = "str" ∨ b = "list" ∨ b = "tuple" ∨ b = "dict")
    (hK : X.K = K := by rfl) (hn : (Str.ofString b) ≠ "__name__" := by decide) (hdb : (Str.ofString b == ("__debug__" : Str)) = false := by decide)
    (hs : starEach [a, .Name (Str.ofString b) p2] X.env = (false, eval a X.env) :: starEach [.Name (Str.ofString b) p2] X.env := by rfl) (hpl : (backTo pos (starEach [.Name (Str.ofString b) p2] X.env)).any (·.1) = false := by rfl) :
    DE X W (.Call (.Name "isinstance" p) [a, .Name (Str.ofString b) p2] [] pos) (tCB (rIsi K) (tCons ta (tCons (tC (.ty b)) tNil))) (evIsi b ea) [] := by subst hK; exact de_isi hg hm ha gb mb hv hb hn hdb hs hpl
theorem dt_truK (h : DV X W a ta ea) (hK : X.K = K := by rfl) (he : ∀ whole, isTrue a X.env whole = (do let v ← whole; standAt a.pos; holding [v] (truthy v)) := by intro _; rfl) : DT X W a (fun σ H Q => ta σ H fun x H' => ∃ k, TruV K x H' k ∧ Q k H') (evTru ea) := by subst hK; exact dt_tru h he
theorem dg_tupK {es : List Expr} {k n : Nat} {gs : TGs} {a : List D → En → Option En} {as : List Nat} (hc : X.calm = true) (h : DGs X es gs a as) (hK : X.K = K := by rfl) (hn : (assignEach es X.env).length = n := by rfl) (hst : (assignEach es X.env).findIdx? (·.1) = none := by rfl) :
    DG RD X (.Tuple es k pos) (gTup K n gs) (egTup n a) as := by subst hK; exact dg_tup hc h hn hst
theorem de_callK {e : Expr} {es : List Expr} {tr : TA} {er : En → Rs (List T)} {p : Pos} {k n : Nat} {f : Addr} {fd : FuncData} {ps : List Str} {Fn : List T → Rs T} {x : Str} (F : FnOk X.prog X.w X.K X.mg X.base (L2.CX X.prog X.w) k f fd ps (spD K mg n Fn)) (hr : Room k X.A) (tk : Takes X W) (hg : Gl X x) (hm : X.mg x = some (.ref f)) (hk : PySem.W.keepIn X.K (.ref f) = true) (hb : Binds X.K fd ps [])
    (ha : DAs X W (e :: es) tr er) (hK : X.K = K := by rfl) (hM : X.mg = mg := by rfl) (hdb : (x == ("__debug__" : Str)) = false := by decide) (he : starEach (e :: es) X.env = (false, eval e X.env) :: starEach es X.env := by rfl) (hpl : (backTo pos (starEach es X.env)).any (·.1) = false := by rfl) :
    DE X W (.Call (.Name x p) (e :: es) [] pos) (tCallS (spD K mg n Fn) (WE W) tr) (evCall n Fn er) [] := by subst hK; subst hM; exact de_call F hr tk hg hm hk hb ha hdb he hpl
theorem di_seqK {tg : Expr} (h : DV X W a ta ea) (hK : X.K = K := by rfl) : DI RD X W tg a (iSeq K ta) (eiSeq ea) := by subst hK; exact di_seq h
end
end PL
set_option Elab.async false
set_option linter.all false
set_option maxRecDepth 100000
/-! PL12: enumerate, zip, repr; a shared value of a new one; the def that is called by the caller itself. -/
namespace PL
open PySem PySem.Spec L2 PyProof.Rows

/-! ### what is new is shared at once -/
section
variable {X : Cx} {W : WX} {e : Expr} {te : TE} {ev : En → Rs T}
theorem de_sh (h : DE X W e te ev []) : DE X W e te (evSh ev) [] := by
  refine ⟨h.pe, fun E S φ ρ σ H Q I r => (dv_of h).sm E S φ ρ σ H Q I ?_⟩
  unfold evSh at r ⊢
  cases hr : ev ρ with
  | bad => rw [hr] at r; exact r
  | ex c => rw [hr] at r; exact r
  | ok t =>
    rw [hr] at r
    have r : RsOK (if t.noScr = true then Rs.ok (T.sh t.er) else Rs.bad) (fun t => RetM X.K S H φ [] t Q) _ := r
    show RsOK (if t.noScr = true then Rs.ok (T.sh t.er) else Rs.bad) (fun t => RetV X.K S H t Q) _
    by_cases hn : t.noScr = true
    · rw [if_pos hn] at r ⊢
      intro v S' H' fp g q
      have q' := q
      simp only [RepT] at q'
      obtain ⟨rfl, _⟩ := q'
      exact r v S' H' [] g q .nil fun a ha => by cases ha
    · rw [if_neg hn] at r; exact False.elim r
end

/-! ### enumerate(xs), zip(xs, ys): pairs that are taken apart at once -/
def T.itL : T → Option (List D)
  | .sh (.list ds) => some ds
  | .scr ns => some (ns.map PyData.int)
  | _ => none
def T.itT : T → Option (List D)
  | .sh (.tuple ds) => some ds
  | _ => none
theorem itL_rep {K : PySem.W.Frag} {S H : Hp} {t : T} {v : V} {fp : List Addr} {ds : List D} (q : RepT K S H t v fp) (e : t.itL = some ds) : ∃ a vs, v = .ref a ∧ SqL K S a vs ∧ RepDs S ds vs := by
  unfold T.itL at e
  split at e
  · cases e
    simp only [RepT, RepD] at q
    obtain ⟨_, a, vs, rfl, ha, r⟩ := q
    exact ⟨a, vs, rfl, .of ha, r⟩
  · cases e
    simp only [RepT] at q
    obtain ⟨_, a, rfl, h⟩ := q
    exact ⟨a, _, rfl, h, rep_ints _⟩
  · cases e
theorem itT_rep {K : PySem.W.Frag} {S H : Hp} {t : T} {v : V} {fp : List Addr} {ds : List D} (q : RepT K S H t v fp) (e : t.itT = some ds) : ∃ a vs, v = .ref a ∧ IsTp (S a) vs ∧ RepDs S ds vs := by
  unfold T.itT at e
  split at e
  · cases e
    simp only [RepT, RepD] at q
    obtain ⟨_, a, vs, rfl, ha, r⟩ := q
    exact ⟨a, vs, rfl, ha, r⟩
  · cases e
def enumD (ds : List D) : List D := ds.zipIdx.map fun p => PyData.tuple [.int (p.2 : Nat), p.1]
theorem enumD_at {ds : List D} {i : Nat} {d : D} (h : (enumD ds)[i]? = some d) : ∃ c, ds[i]? = some c ∧ d = .tuple [.int (i : Nat), c] := by
  unfold enumD at h
  rw [List.getElem?_map, List.getElem?_zipIdx] at h
  cases e : ds[i]? with
  | none => rw [e] at h; cases h
  | some c =>
    rw [e] at h
    simp only [Option.map_some, Option.some.injEq, Nat.zero_add] at h
    exact ⟨c, rfl, h.symm⟩
theorem enumD_len (ds : List D) : (enumD ds).length = ds.length := by simp [enumD]
def zipD (as bs : List D) : List D := List.zipWith (fun a b => PyData.tuple [a, b]) as bs
def eiEnum (er : En → Rs (List T)) : En → Rs (List D) := fun ρ => (er ρ).bind fun ts => match ts with
  | [t] => (rsO t.itL).bind fun ds => .ok (enumD ds)
  | _ => .bad
def eiZip (er : En → Rs (List T)) : En → Rs (List D) := fun ρ => (er ρ).bind fun ts => match ts with
  | [t, u] => (rsO ((t.itL.bind fun a => u.itL.map fun b => zipD a b).or (t.itT.bind fun a => u.itT.map fun b => zipD a b)))
  | _ => .bad
theorem rp_pair {K : PySem.W.Frag} {S H : Hp} {T : Addr} {c d : D} {x y : V} (h : H T = some (.tup [x, y])) (qc : RepD S c x) (qd : RepD S d y) : RP K S H (.tuple [c, d]) (.ref T) :=
  ⟨[c, d], T, [x, y], rfl, rfl, .inl (.inl h), .cons qc (.cons qd .nil)⟩
section
variable {X : Cx} {W : WX} {e e2 : Expr} {elts : List Expr} {kk : Nat} {p pos tpos : Pos} {ta : TA} {er : En → Rs (List T)}
theorem di_enum {K : PySem.W.Frag} (hg : Gl X "enumerate") (hm : X.mg "enumerate" = none) (ha : DAs X W [e] ta er) (hK : X.K = K := by rfl) (hs : starEach [e] X.env = [(false, eval e X.env)] := by rfl) :
    DI (RP K) X W (.Tuple elts kk tpos) (.Call (.Name "enumerate" p) [e] [] pos) (iEnum K ta) (eiEnum er) := by
  subst hK
  refine ⟨pi_enum hg hm ha.pe hs, fun E S φ ρ σ H R I q => ?_⟩
  refine ha.sm E S φ ρ σ H _ I (q.bind.imp (fun ts ht vs S' H' g r => ?_) fun _ z => z)
  match ts, ht, r with
  | [], ht, _ => exact False.elim ht
  | _ :: _ :: _, ht, _ => exact False.elim ht
  | [t], ht, r =>
    obtain ⟨v, fp, ev, r1⟩ := views1 r
    obtain ⟨ds, e, ht⟩ := (RsOK.bind ht).rsO
    obtain ⟨a, us, rfl, hs, rr⟩ := itL_rep r1 e
    subst ev
    have sq : SqL X.K H' a us := g.i.seq hs
    refine ⟨a, us, rfl, sq, ht S' H' _ g fun S1 H1 i hs1 hi => ?_⟩
    have sq1 : SqL X.K H1 a us := (hs1.trans hi).seq hs
    refine ⟨fun d hd => ?_, fun hl => ⟨us, sq1, by rw [rr.length]; rwa [enumD_len] at hl⟩⟩
    obtain ⟨c, hc, rfl⟩ := enumD_at hd
    obtain ⟨w, hw, q⟩ := rr.get hc
    refine ⟨⟨us, w, sq1, hw⟩, fun x H2 y => ?_⟩
    obtain ⟨T, x', rfl, hT, rfl, y⟩ := y
    have := y us sq1
    rw [hw] at this; cases this
    exact ⟨S1, .own hi hT, rp_pair upd_same (by simp only [RepD]) (RepD.mono hs1 _ _ q)⟩
theorem di_zip {K : PySem.W.Frag} (hg : Gl X "zip") (hm : X.mg "zip" = none) (ha : DAs X W [e, e2] ta er) (hK : X.K = K := by rfl) (hs : starEach [e, e2] X.env = (false, eval e X.env) :: starEach [e2] X.env := by rfl) (hpl : (backTo pos (starEach [e2] X.env)).any (·.1) = false := by rfl) :
    DI (RP K) X W (.Tuple elts kk tpos) (.Call (.Name "zip" p) [e, e2] [] pos) (RZ.iZipA K ta) (eiZip er) := by
  subst hK
  refine ⟨RZ.pi_zipA hg hm ha.pe hs hpl, fun E S φ ρ σ H R I q => ?_⟩
  refine ha.sm E S φ ρ σ H _ I (q.bind.imp (fun ts ht vs S' H' g r => ?_) fun _ z => z)
  match ts, ht, r with
  | [], ht, _ => exact False.elim ht
  | [_], ht, _ => exact False.elim ht
  | _ :: _ :: _ :: _, ht, _ => exact False.elim ht
  | [t, u], ht, r =>
    obtain ⟨v, w, fp, fq, ev, r1, r2⟩ := views2 r
    obtain ⟨ds, e, ht⟩ := RsOK.rsO ht
    have at1 : ∀ {as bs : List D} {i : Nat} {d : D}, (zipD as bs)[i]? = some d → ∃ c c', as[i]? = some c ∧ bs[i]? = some c' ∧ d = .tuple [c, c'] := fun {as bs i d} h => by
      unfold zipD at h
      rw [List.getElem?_zipWith] at h
      cases e1 : as[i]? with
      | none => rw [e1] at h; cases h
      | some c =>
        cases e2 : bs[i]? with
        | none => rw [e1, e2] at h; cases h
        | some c' =>
          rw [e1, e2] at h
          exact ⟨c, c', rfl, rfl, (Option.some.inj h).symm⟩
    cases e1 : (t.itL.bind fun a => u.itL.map fun b => zipD a b) with
    | some ds' =>
      rw [e1] at e
      obtain rfl : ds' = ds := Option.some.inj e
      obtain ⟨as, ea, e3⟩ := obind e1
      obtain ⟨bs, eb, rfl⟩ := omap e3
      obtain ⟨a, us, rfl, ha1, ra⟩ := itL_rep r1 ea
      obtain ⟨b, ws, rfl, hb1, rb⟩ := itL_rep r2 eb
      subst ev
      refine ⟨a, b, us, ws, rfl, .inl ⟨g.i.seq ha1, g.i.seq hb1, ht S' H' _ g fun S1 H1 i hs1 hi => ?_⟩⟩
      have sa := (hs1.trans hi).seq ha1
      have sb := (hs1.trans hi).seq hb1
      refine ⟨fun d hd => ?_, fun hl => ⟨us, ws, sa, sb, ?_⟩⟩
      · obtain ⟨c, c', h1, h2, rfl⟩ := at1 hd
        obtain ⟨x, hx, qx⟩ := ra.get h1
        obtain ⟨y, hy, qy⟩ := rb.get h2
        refine ⟨⟨us, ws, x, y, sa, sb, hx, hy⟩, fun z H2 yz => ?_⟩
        obtain ⟨T, x', y', rfl, hT, rfl, k1, k2⟩ := yz
        have h3 := k1 us sa
        have h4 := k2 ws sb
        rw [hx] at h3; cases h3
        rw [hy] at h4; cases h4
        exact ⟨S1, .own hi hT, rp_pair upd_same (RepD.mono hs1 _ _ qx) (RepD.mono hs1 _ _ qy)⟩
      · rw [ra.length, rb.length]
        simp only [zipD, List.length_zipWith] at hl
        omega
    | none =>
      rw [e1] at e
      obtain ⟨as, ea, e3⟩ := obind (show (t.itT.bind fun a => u.itT.map fun b => zipD a b) = some ds from e)
      obtain ⟨bs, eb, rfl⟩ := omap e3
      obtain ⟨a, us, rfl, ha1, ra⟩ := itT_rep r1 ea
      obtain ⟨b, ws, rfl, hb1, rb⟩ := itT_rep r2 eb
      have tq : ∀ {S0 H0 : Hp} {c : Addr} {zs : List V}, IsTp (S0 c) zs → Same S0 H0 → SqT X.K H0 c zs := fun h i => (h.same (i _)).sq
      subst ev
      refine ⟨a, b, us, ws, rfl, .inr ⟨tq ha1 g.i, tq hb1 g.i, ht S' H' _ g fun S1 H1 i hs1 hi => ?_⟩⟩
      have sa := tq ha1 (hs1.trans hi)
      have sb := tq hb1 (hs1.trans hi)
      refine ⟨fun d hd => ?_, fun hl => ⟨us, ws, sa, sb, ?_⟩⟩
      · obtain ⟨c, c', h1, h2, rfl⟩ := at1 hd
        obtain ⟨x, hx, qx⟩ := ra.get h1
        obtain ⟨y, hy, qy⟩ := rb.get h2
        refine ⟨⟨us, ws, x, y, sa, sb, hx, hy⟩, fun z H2 yz => ?_⟩
        obtain ⟨T, x', y', rfl, hT, rfl, k1, k2⟩ := yz
        have h3 := k1 us sa
        have h4 := k2 ws sb
        rw [hx] at h3; cases h3
        rw [hy] at h4; cases h4
        exact ⟨S1, .own hi hT, rp_pair upd_same (RepD.mono hs1 _ _ qx) (RepD.mono hs1 _ _ qy)⟩
      · rw [ra.length, rb.length]
        simp only [zipD, List.length_zipWith] at hl
        omega
end

/-! ### repr: where no repr is under way -/
section
variable {X : Cx} {pins : List (Addr × Obj)} {σ : L2.St} {H : Hp} {s : Shared}
mutual
def reprOk : D → Bool
  | .none => true
  | .bool _ => true
  | .int i => decide (i.natAbs.log2 < 1920)
  | .str _ => true
  | .list ds => reprOks ds
  | .tuple ds => reprOks ds
  | .dict _ => false
def reprOks : List D → Bool
  | [] => true
  | d :: ds => reprOk d && reprOks ds
end
mutual
theorem reprOk_show : ∀ d : D, reprOk d = true → d.showable = true ∧ d.hasDict = false
  | .none, _ => ⟨rfl, rfl⟩
  | .bool _, _ => ⟨rfl, rfl⟩
  | .int i, h => ⟨by simpa only [PyData.showable, reprOk] using h, rfl⟩
  | .str _, _ => ⟨rfl, rfl⟩
  | .list ds, h => by
    obtain ⟨h1, h2⟩ := reprOks_show ds (by simpa only [reprOk] using h)
    exact ⟨by simpa only [PyData.showable] using h1, by simpa only [PyData.hasDict] using h2⟩
  | .tuple ds, h => by
    obtain ⟨h1, h2⟩ := reprOks_show ds (by simpa only [reprOk] using h)
    exact ⟨by simpa only [PyData.showable] using h1, by simpa only [PyData.hasDict] using h2⟩
  | .dict _, h => by simp [reprOk] at h
theorem reprOks_show : ∀ ds : List D, reprOks ds = true → PyData.showableAll ds = true ∧ PyData.hasDictAll ds = false
  | [], _ => ⟨rfl, rfl⟩
  | d :: ds, h => by
    simp only [reprOks, Bool.and_eq_true] at h
    obtain ⟨h1, h2⟩ := reprOk_show d h.1
    obtain ⟨h3, h4⟩ := reprOks_show ds h.2
    exact ⟨by simp only [PyData.showableAll, h1, h3, Bool.and_self], by simp only [PyData.hasDictAll, h2, h4, Bool.or_self]⟩
end
mutual
theorem reads_of (I : Inv X pins σ H s) : ∀ (d : D) (v : V) (u : Value), reprOk d = true → RepD H d v → RelV v u → ∃ as, Reads s.heap u d as
  | .none, v, u, _, q, r => by simp only [RepD] at q; subst q; obtain rfl : u = Value.none := r; exact ⟨_, .none⟩
  | .bool b, v, u, _, q, r => by simp only [RepD] at q; subst q; obtain rfl : u = Value.bool b := r; exact ⟨_, .bool b⟩
  | .int b, v, u, _, q, r => by simp only [RepD] at q; subst q; obtain ⟨t, rfl⟩ := (show ∃ t, u = Value.int b t from r); exact ⟨_, .int b t⟩
  | .str b, v, u, _, q, r => by simp only [RepD] at q; subst q; obtain ⟨t, rfl⟩ := (show ∃ t, u = Value.str b t from r); exact ⟨_, .str b t⟩
  | .list ds, v, u, h, q, r => by
    simp only [RepD] at q
    obtain ⟨a, vs, rfl, ha, rr⟩ := q
    obtain rfl : u = Value.ref a := r
    obtain ⟨its, rv, ⟨o, n, e1, e2, e3, e4⟩, _⟩ := I.list (.of ha)
    obtain ⟨as, h2⟩ := readss_of I ds vs its (by simpa only [reprOk] using h) rr rv
    exact ⟨_, .list e1 e2 e4 (by simpa using h2)⟩
  | .tuple ds, v, u, h, q, r => by
    simp only [RepD] at q
    obtain ⟨a, vs, rfl, ha, rr⟩ := q
    obtain rfl : u = Value.ref a := r
    obtain ⟨its, rv, ⟨o, e1, e2, n, e4⟩, _⟩ := I.tuple ha.sq
    obtain ⟨as, h2⟩ := readss_of I ds vs its (by simpa only [reprOk] using h) rr rv
    exact ⟨_, .tuple e1 e2 e4 (by simpa using h2)⟩
  | .dict _, _, _, h, _, _ => by simp [reprOk] at h
theorem readss_of (I : Inv X pins σ H s) : ∀ (ds : List D) (vs : List V) (us : List Value), reprOks ds = true → RepDs H ds vs → Vals vs us → ∃ as, ReadsAll s.heap us ds as
  | [], vs, us, _, q, r => by
    simp only [RepDs] at q
    subst q
    cases r
    exact ⟨_, .nil⟩
  | d :: ds, vs, us, h, q, r => by
    simp only [RepDs] at q
    obtain ⟨v, w, rfl, q1, q2⟩ := q
    simp only [reprOks, Bool.and_eq_true] at h
    cases r with
    | cons r1 r2 =>
      obtain ⟨as, h1⟩ := reads_of I d v _ h.1 q1 r1
      obtain ⟨bs, h2⟩ := readss_of I ds w _ h.2 q2 r2
      exact ⟨_, .cons h1 h2⟩
end
def okShow (d : D) : Bool := reprOk d && decide (d.depth ≤ 100) && decide (d.shown.length ≤ sizeLine)
def isSeqD : D → Bool
  | .list _ => true
  | .tuple _ => true
  | _ => false
def rRepr : List V → Hp → VK → Prop := fun xs H Q => ∃ x d, xs = [x] ∧ RepD H d x ∧ isSeqD d = true ∧ okShow d = true ∧ Q (.str d.shown) H
theorem call_reprD (hg : X.A.guards = some []) (hu : X.A.units + 150 < cLine) : CallR X (.builtin "repr") rRepr := by
  intro pins s σ H xs us Q I r h
  obtain ⟨x, d, rfl, q, hsq, ok, hQ⟩ := h
  obtain ⟨u, rfl, r1⟩ := vals1 r
  simp only [okShow, Bool.and_eq_true, decide_eq_true_eq] at ok
  obtain ⟨⟨ok1, ok2⟩, ok3⟩ := ok
  obtain ⟨h1, h2⟩ := reprOk_show d ok1
  have ref : ∃ a, u = .ref a := by
    cases d with
    | list ds => simp only [RepD] at q; obtain ⟨a, vs, rfl, _⟩ := q; exact ⟨a, r1⟩
    | tuple ds => simp only [RepD] at q; obtain ⟨a, vs, rfl, _⟩ := q; exact ⟨a, r1⟩
    | _ => cases hsq
  obtain ⟨as, rd⟩ := reads_of I d x u ok1 q r1
  obtain ⟨a, rfl⟩ := ref
  refine repr_of_reads' rd h1 (fun z => by rw [h2] at z; cases z) hg (by omega) (fun _ _ e => e) (fun h' t tk hk => ?_) ok3
  exact ⟨.str d.shown, H, I.kept hk, ⟨t, rfl⟩, hQ⟩
def fRepr : List T → Option T := f1 fun t => match t with
  | .sh d => if isSeqD d && okShow d then some (.sh (.str d.shown)) else none
  | _ => none
theorem sem_repr {K : PySem.W.Frag} : SemC K rRepr fRepr := by
  intro S H ts vs Q t i q e R
  obtain ⟨x, rfl, e1⟩ := f1_some e
  obtain ⟨v, fp, rfl, q1⟩ := views1 q
  split at e1
  · rename_i d
    split at e1
    · rename_i hd
      cases e1
      simp only [Bool.and_eq_true] at hd
      have q := rep_sh q1
      exact ⟨v, d, rfl, RepD.mono i _ _ q, hd.1, hd.2, R.flat i fun _ => by simp only [RepD]⟩
    · cases e1
  · cases e1
end

/-! ### the law's def, called by the caller -/
/-- what the law's def promises where the caller calls it -/
def RunC (P : Program) (w : World) (K : PySem.W.Frag) (mg : Str → Option Value) (base : Heap) (CX : CXT) (f : Addr) (fd : FuncData) (ps : List Str) (sp : Sp) : Prop :=
  ∀ (s : Shared) (H : Hp) (args : Args) (us : List Value) (vs : List V) (Q : VK) (E : XK), Env0 P w K mg base callerA [] s H → BindsTo s fd args (ps.zip us) → Vals vs us → sp vs H Q E →
    codeAny (model P w) callerA (.call (.ref f) args) (CR CX [] P w H s Q E) s
section
variable {P : Program} {w : World} {K : PySem.W.Frag} {mg : Str → Option Value} {base : Heap} {x qual : Str} {params : Arguments} {body : List Stmt} {scope : Scope} {f : Addr} {fd : FuncData} {N ps : List Str} {k n m : Nat} {b : En → Out}
theorem fn_run {CX : CXT} {sp : Sp} (F : FunD K x qual params body scope [] [] f fd) (Sc : FnScope N ps scope) (hr : Room (k + 1) callerA) (len : ∀ vs H Q E, sp vs H Q E → vs.length = ps.length)
    (hbody : ∀ (cdv : Value) (s : Shared) (H : Hp) (vs : List V) (Q : VK) (E : XK), Room k (callerA.deeper (envOfC qual scope s.heap.objs.size f cdv)) → sp vs H Q E →
      ∃ t, PSs (cxOf CX P w K mg base N qual scope f cdv callerA [] s H E) body t ∧ t { nx := fun _ H' => Q .non H', rt := Q } (L2.start N vs) H) : RunC P w K mg base CX f fd ps sp := by
  obtain ⟨oc, od, dV, kV, doc, pm, an, cdv, ct, osl, rfl, lk, hcd, _, _⟩ := F.ex
  intro s H args us vs Q E e0 hb r hsp
  have hl := len _ _ _ _ hsp
  have KX : K.In s.heap := e0.mod.kin.keeps fun b o e => (e0.bs b o e).1
  have lim : s.heap.NoLimit := e0.mod.nolimit.keeps fun b o e => (e0.bs b o e).1
  refine codeAny_call_function hr.depth (KX _ _ lk) rfl Sc.co Sc.gen rfl (PySem.W.codeRec_of KX hcd) (hb _ _ _ _ ?_)
  refine wpAny_newFunctionEnv_cells Sc.kind (fun ⟨nm, v⟩ hy => ?_) fun env he s1 x1 => ?_
  · rcases Sc.par nm (List.of_mem_zip hy).1 with q | q
    · exact .inl q
    · exact .inr ⟨q, PySem.W.cellsFrom_some _ _ _ (.inl q)⟩
  subst he
  refine ⟨lim.keeps x1.toInCall.keep, codeAny_func ?_⟩
  obtain ⟨t, ht, hq⟩ := hbody cdv s H vs Q E (hr.deeper _) hsp
  refine wpAny_mono (ht.run [] s1 (L2.start N vs) H _ (inv_start Sc hr.hd e0 hl r x1) hq) (fun fl s' hs => ?_) fun e s' hs => hs
  cases fl with
  | ret u => obtain ⟨v, σ', H', J, rv, q⟩ := hs; exact ⟨v, H', J.os, J.bare, J.base, J.hok, rv, q⟩
  | next => obtain ⟨σ', H', J, q⟩ := hs; exact ⟨V.non, H', J.os, J.bare, J.base, J.hok, (rfl : Value.none = Value.none), q⟩
  | brk => obtain ⟨_, _, _, q⟩ := hs; exact False.elim q
  | cont => obtain ⟨_, _, _, q⟩ := hs; exact False.elim q
/-- fn_ok, where the caller calls -/
theorem fn_runC (F : FunD K x qual params body scope [] [] f fd) (Sc : FnScope N ps scope) (hn : ps.length = n) (hm : N.length = n + m) (hr : Room (k + 1) callerA)
    (hbody : ∀ (cdv : Value) (s : Shared) (H : Hp) (Q : VK) (E : XK), Room k (callerA.deeper (envOfC qual scope s.heap.objs.size f cdv)) →
      ∃ ts as, DSs (cxOf (L2.CX P w) P w K mg base N qual scope f cdv callerA [] s H E) (fun cls d _ H' => E cls d H') body ts b as) :
    RunC P w K mg base (L2.CX P w) f fd ps (spD K mg n (fnD n m b)) := by
  refine fn_run F Sc hr (fun vs H Q E h => h.len.trans hn.symm) (fun cdv s H vs Q E hr h => ?_)
  obtain ⟨t, as, d⟩ := hbody cdv s H Q E hr
  exact ⟨t, d.ps, body_sem (W := fun _ _ _ _ => True) d.sm hm h⟩
end
end PL
set_option Elab.async false
set_option linter.all false
set_option maxRecDepth 100000
set_option maxHeartbeats 2000000
/-! PL13: a law's end, from its def's run where the caller calls it. -/
namespace PL
open PySem PySem.Spec L2 PyProof.Rows

section
variable {P : Program} {w : World} {K : PySem.W.Frag} {mg mb : Str → Option Value} {CX : CXT} {k : Nat} {fa a : Addr} {fd : FuncData} {x : Str} {sp : Sp} {s₁ : Shared} {vs : List Value} {ns : List Int}
/-- from an abstract heap that holds at most the script -/
theorem run_from (KX : K.In s₁.heap) (hns : s₁.heap.Ns mainGlobals mg) (hb : s₁.heap.Ns builtinsNs mb) (hbb : ∀ x : Str, x ≠ "__name__" → mb x = bootBuiltins x) (hlim : s₁.heap.NoLimit) (hg : s₁.gens = #[])
    (F : ∀ base : Heap, K.In base → base.Ns mainGlobals mg → RunC P w K mg base CX fa fd [x] sp) (hbind : ∀ (s : Shared) (u : Value), BindsTo s fd ⟨[u], []⟩ [(x, u)]) (hCX : ∀ H e s', CX [] H s₁ (fun _ _ _ => False) e s' → False)
    (H : Hp) (hsp : sp [.ref a] H (fun v _ => v = .bl true) fun _ _ _ => False) (hok : HOk P w H s₁.heap)
    (hA : ∀ b u, H b = some u → (∃ o xs, u = .frz o (.lst xs)) ∧ K.lookup b = none ∧ (∃ o, s₁.heap.get? b = some o ∧ ∀ es ep, o.data ≠ .dict es ep)) :
    codeAny (model P w) callerA (.call (.ref fa) ⟨[.ref a], []⟩) (fun r s' => r = .ok (.ret (.bool true)) ∧ OldK s₁.heap s'.heap ∧ s'.os = s₁.os ∧ AllBare s'.gens) s₁ := by
  have gone : ∀ {b : Addr} {o : Obj}, s₁.heap.get? b = some o → H b = none → (hidT s₁.heap H).get? b = some o := fun e n => hidT_get e n
  have free : ∀ {b : Addr} {o : Obj} {es : Array DictEntry} {ep : Nat}, s₁.heap.get? b = some o → o.data = .dict es ep → H b = none := fun {b o es ep} e d => by
    cases q : H b with
    | none => rfl
    | some u =>
      obtain ⟨o', e', nd⟩ := (hA b u q).2.2
      rw [e] at e'; cases e'
      exact absurd d (nd es ep)
  have toNs : ∀ {b : Addr} {m : Str → Option Value}, s₁.heap.Ns b m → (hidT s₁.heap H).Ns b m := fun {b m} ⟨o, es, ep, e, d, r⟩ => ⟨o, es, ep, gone e (free e d), d, r⟩
  have hKb : K.In (hidT s₁.heap H) := fun b o e => gone (KX b o e) (by
    cases q : H b with
    | none => rfl
    | some u => rw [(hA b u q).2.1] at e; cases e)
  have e0 : Env0 P w K mg (hidT s₁.heap H) callerA [] s₁ H :=
    ⟨rfl, ⟨hKb, toNs hns, ⟨mb, toNs hb, hbb⟩, let ⟨mc, h1, h2⟩ := hlim; ⟨mc, toNs h1, h2⟩⟩, fun b o e => of_hidT e, Nat.le_of_eq (hidT_size _ _), trivial, fun b hb => absurd (show b ∈ ([] : List Addr) from hb) (by simp), hok, .of_eq hg⟩
  refine codeAny_mono (F _ hKb (toNs hns) s₁ H ⟨[.ref a], []⟩ [.ref a] [.ref a] _ _ e0 (hbind s₁ (.ref a)) (.cons rfl .nil) hsp) fun r s' h => ?_
  cases r with
  | error e => exact (hCX H e s' h).elim
  | ok fl =>
    cases fl with
    | next => exact False.elim h
    | brk => exact False.elim h
    | cont => exact False.elim h
    | ret u =>
      obtain ⟨v, H', os, bare, un, hok', r', q⟩ := h
      obtain rfl : v = .bl true := q
      obtain rfl : u = Value.bool true := r'
      refine ⟨rfl, OldK.of_keep fun b o e => ?_, os, bare⟩
      cases q : H b with
      | none => exact un.keep b o e q (by intro z; exact absurd (show b ∈ ([] : List Addr) from z) (by simp)) (by simp)
      | some u =>
        obtain ⟨⟨ob, xs, rfl⟩, _⟩ := hA b u q
        obtain ⟨e1, _⟩ := hok b _ q
        obtain ⟨e2, _⟩ := hok' b _ (un.frzs b ob _ q)
        rw [e] at e1; cases e1
        exact e2
theorem law_run (KX : K.In s₁.heap) (hns : s₁.heap.Ns mainGlobals mg) (hb : s₁.heap.Ns builtinsNs mb) (hbb : ∀ x : Str, x ≠ "__name__" → mb x = bootBuiltins x) (hlim : s₁.heap.NoLimit) (hg : s₁.gens = #[])
    (ha : s₁.heap.get? a = some { cls := .type "list", data := .seq vs.toArray }) (hi : IntsAre vs ns) (hl : ns.length ≤ sizeLine)
    (F : ∀ base : Heap, K.In base → base.Ns mainGlobals mg → RunC P w K mg base CX fa fd [x] sp) (hbind : ∀ (s : Shared) (u : Value), BindsTo s fd ⟨[u], []⟩ [(x, u)])
    (hsp : ∀ H : Hp, Only H → SqL K H a (ns.map V.int) → sp [.ref a] H (fun v _ => v = .bl true) fun _ _ _ => False) (hCX : ∀ H e s', CX [] H s₁ (fun _ _ _ => False) e s' → False) :
    codeAny (model P w) callerA (.call (.ref fa) ⟨[.ref a], []⟩) (fun r s' => r = .ok (.ret (.bool true)) ∧ OldK s₁.heap s'.heap ∧ s'.os = s₁.os ∧ AllBare s'.gens) s₁ := by
  have rv := vals_ints hi
  have lenV := hi.length
  cases hk : K.lookup a with
  | some o =>
    have e := KX a o hk
    rw [ha] at e
    cases e
    exact run_from KX hns hb hbb hlim hg F hbind hCX (fun _ => none) (hsp _ (fun _ => .inl rfl) (.inr ⟨_, vs.toArray, _, hk, rfl, rfl, rfl, by rw [List.size_toArray, lenV]; exact hl, by simpa using rv⟩))
      (fun b u z => by have z' : (none : Option HO) = some u := z; cases z') fun b u z => by have z' : (none : Option HO) = some u := z; cases z'
  | none =>
    have at' : ∀ b u, (if b = a then some (HO.frz { cls := .type "list", data := .seq vs.toArray } (.lst (ns.map V.int))) else none) = some u → b = a ∧ u = .frz { cls := .type "list", data := .seq vs.toArray } (.lst (ns.map V.int)) := fun b u z => by
      by_cases hb : b = a
      · rw [if_pos hb] at z
        exact ⟨hb, (Option.some.inj z).symm⟩
      · rw [if_neg hb] at z; cases z
    refine run_from KX hns hb hbb hlim hg F hbind hCX (fun b => if b = a then some (.frz { cls := .type "list", data := .seq vs.toArray } (.lst (ns.map V.int))) else none) (hsp _ (fun b => ?_) (.inl (.inr ⟨{ cls := .type "list", data := .seq vs.toArray }, if_pos rfl⟩))) (fun b u z => ?_) fun b u z => ?_
    · by_cases hb : b = a
      · exact .inr ⟨_, _, if_pos hb⟩
      · exact .inl (if_neg hb)
    · obtain ⟨rfl, rfl⟩ := at' b u z
      exact ⟨ha, by rw [List.length_map]; exact hl, vs, _, rv, ha⟩
    · obtain ⟨rfl, rfl⟩ := at' b u z
      exact ⟨⟨_, _, rfl⟩, hk, _, ha, fun es ep z => by cases z⟩
end
/-- a law over a head by facts, from its def's run -/
theorem walk_run {l : PySem.W.OpenLaw} {n : Nat} {q : Program} {loose : List Str} {XP : (Str → Option Value) → Heap → Prop} {YP : World → Heap → Prop} {d : DefRec} {CX : Program → World → CXT} {x : Str}
    (hn : l.most = some n) (hn2 : n ≤ sizeLine) (hdf : d.params.defaults = [])
    (F : ∀ (w : World) (mg : Str → Option Value) (fa : Addr) (h : Heap), YP w h → h.Ns mainGlobals mg → mg d.name = some (.ref fa) →
      ∃ (K : PySem.W.Frag) (fd : FuncData) (sp : Sp), K.In h ∧ (∀ (s : Shared) (u : Value), BindsTo s fd ⟨[u], []⟩ [(x, u)]) ∧
        (∀ (H : Hp) (a : Addr) (ns : List Int), ns.length ≤ n → Only H → SqL K H a (ns.map V.int) → sp [.ref a] H (fun v _ => v = .bl true) fun _ _ _ => False) ∧
        ∀ base : Heap, K.In base → base.Ns mainGlobals mg → RunC l.prog w K mg base (CX l.prog w) fa fd [x] sp)
    (hCX : ∀ (w : World) (H : Hp) (s : Shared) (e : Value) (s' : Shared), CX l.prog w [] H s (fun _ _ _ => False) e s' → False) :
    PySem.W.WalkO q loose XP YP l.row.toRowW d [] (fun f vs => PySem.call f vs) := by
  refine Att.attach_call hn hdf fun w s₀ s₁ mg mb fa o pm cd doc a vs ns G Y ho hd hcd hmg hobj hints hlen hg => ?_
  obtain ⟨K, fd, sp, KX, hb, hsp, hF⟩ := F w mg fa _ Y G.T.g hmg
  exact law_run KX G.T.g G.T.b G.T.builtins G.T.nolimit hg hobj hints (Nat.le_trans hlen hn2) hF hb (fun H hO hS => hsp H a ns hlen hO hS) fun H e s' => hCX w H s₁ e s'
end PL
set_option Elab.async false
set_option linter.all false
set_option maxRecDepth 100000
/-! PL14: shared at once, in a comprehension's assignment; a promise of nothing (where a recursion ends). -/
namespace PL
open PySem PySem.Spec L2
theorem sem_sh {K : PySem.W.Frag} {mg : Str → Option Value} {W : WX} {te : TE} {ev : En → Rs T} (h : SemE K mg W te ev []) : SemE K mg W te (evSh ev) [] := by
  intro E S φ ρ σ H Q I r
  refine sem_v h E S φ ρ σ H Q I ?_
  unfold evSh at r ⊢
  cases hr : ev ρ with
  | bad => rw [hr] at r; exact r
  | ex c => rw [hr] at r; exact r
  | ok t =>
    rw [hr] at r
    have r : RsOK (if t.noScr = true then Rs.ok (T.sh t.er) else Rs.bad) (fun t => RetM K S H φ [] t Q) _ := r
    show RsOK (if t.noScr = true then Rs.ok (T.sh t.er) else Rs.bad) (fun t => RetV K S H t Q) _
    by_cases hn : t.noScr = true
    · rw [if_pos hn] at r ⊢
      intro v S' H' fp g q
      have q' := q
      simp only [RepT] at q'
      obtain ⟨rfl, _⟩ := q'
      exact r v S' H' [] g q .nil fun a ha => by cases ha
    · rw [if_neg hn] at r; exact False.elim r
section
variable {X : Cx} {W : WX} {elt tg iter : Expr} {ifs : List Expr} {scope : Scope} {own : List (Str × Nat)} {pos : Pos} {wi : TI} {ei : En → Rs (List D)} {as : List Nat} {g : TG} {eg : D → En → Option En} {tt : TT} {ec : En → Rs Bool} {te : TE} {ee : En → Rs T}
theorem ds_setLcSh {Rp : Rel} (i : Nat) {y : Str} {py spos : Pos} (vs : List Nat) (hc : X.calm = true) (hN : X.N.Nodup) (hi : DI Rp X W tg iter wi ei) (ok : BlkOk X.N X.env.scope scope own)
    (hg : ∀ (s : Shared) (H : Hp) (C : Addr) (cl : List (Str × Addr)) (fp : List Addr), DG Rp (X.blk s H scope (compEnvC scope cl C X.env) fp) tg g eg as)
    (ht : ∀ (s : Shared) (H : Hp) (C : Addr) (cl : List (Str × Addr)) (fp : List Addr), DTs (X.blk s H scope (compEnvC scope cl C X.env) fp) W0 ifs tt ec)
    (he : ∀ (s : Shared) (H : Hp) (C : Addr) (cl : List (Str × Addr)) (fp : List Addr), DE (X.blk s H scope (compEnvC scope cl C X.env) fp) W0 elt te ee [])
    (hy : X.N[i]? = some y := by rfl) (hyl : X.env.scope.names.lookup y = some .local := by rfl)
    (hsw : swapsWith (.ListComp elt [⟨tg, iter, ifs, 0⟩] scope pos) (some (.Name y py)) spos.line X.env = pure true := by exact sw_true rfl rfl rfl (by decide +kernel))
    (hv : own.map (·.2) = vs := by rfl) (ha : ∀ i ∈ as, i ∈ vs := by decide) (hs : ∀ x, foldedSetIterable iter X.env x = pure x := by intro _; rfl) :
    DS X W (.Assign [.Name y py] (.ListComp elt [⟨tg, iter, ifs, 0⟩] scope pos) spos) (tAsg (tLc wi g tt te (own.map (·.2))) (gName i)) (sSet i [] (evSh (evComp ei vs eg ec ee))) [i] := by
  subst hv
  exact ⟨ps_setLc hc hN hy hyl hsw hi.pi ok (fun s H C cl fp => (hg s H C cl fp).pg) (fun s H C cl fp => (ht s H C cl fp).pt) (fun s H C cl fp => (he s H C cl fp).pe) hs,
    sem_set i (sem_sh (sem_comp hi.sm (hg X.s_0 (fun _ => none) 0 [] []).sm ha (ht X.s_0 (fun _ => none) 0 [] []).sm (he X.s_0 (fun _ => none) 0 [] []).sm))⟩
end
theorem u150 {k : Nat} {A : Around} (r : Room k A) : A.units + 150 < cLine := by have := r.un; omega
theorem fn_bad {P : Program} {w : World} {K : PySem.W.Frag} {mg : Str → Option Value} {base : Heap} {CX : CXT} {k n : Nat} {f : Addr} {fd : FuncData} {ps : List Str} (h : ps.length = n) : FnOk P w K mg base CX k f fd ps (spD K mg n fun _ => .bad) :=
  ⟨fun vs H Q E q => q.len.trans h.symm, fun A outer s H args us vs Q E _ _ _ _ q => by
    obtain ⟨_, _, _, _, _, r⟩ := q
    exact False.elim r⟩
theorem law_sp {K : PySem.W.Frag} {mg : Str → Option Value} {Fn : List T → Rs T} {H : Hp} {a : Addr} {ns : List Int} (h : Fn [.scr ns] = .ok (.sh (.bool true))) (hS : SqL K H a (ns.map V.int)) : spD K mg 1 Fn [.ref a] H (fun v _ => v = .bl true) fun _ _ _ => False := by
  refine ⟨H, [.scr ns], .refl _, rfl, ⟨.ref a, [], rfl, ⟨a, rfl, hS⟩, rfl⟩, ?_⟩
  rw [h]
  intro v S' H' fp _ q _ _
  simp only [RepT, RepD] at q
  exact q.2
theorem cx_none {P : Program} {w : World} {H : Hp} {s : Shared} {e : Value} {s' : Shared} (z : L2.CX P w [] H s (fun _ _ _ => False) e s') : False := by
  obtain ⟨_, _, _, _, _, _, _, _, _, _, _, _, q⟩ := z
  exact q
end PL
set_option Elab.async false
set_option linter.all false
set_option maxRecDepth 100000
/-! PL17: max of three. -/
namespace PL
open PySem PySem.Spec L2
theorem three {x y z : V} {us : List Value} (r : Vals [x, y, z] us) : ∃ u v w, us = [u, v, w] ∧ L2.RelV x u ∧ L2.RelV y v ∧ L2.RelV z w := by
  cases r with
  | cons r1 r2 =>
    obtain ⟨v, w, rfl, h1, h2⟩ := vals2 r2
    exact ⟨_, v, w, rfl, r1, h1, h2⟩
abbrev rMax3 : List V → Hp → VK → Prop := fun xs H Q => ∃ i j k : Int, xs = [.int i, .int j, .int k] ∧ Q (.int (max (max i j) k)) H
theorem cr_max3 {X : Cx} (hc : X.calm = true) : CallR X (.builtin "max") rMax3 := by
  intro pins s σ H xs us Q I r h
  obtain ⟨i, j, k, rfl, q⟩ := h
  obtain ⟨u, v, w, rfl, ⟨t, rfl⟩, ⟨t', rfl⟩, ⟨t2, rfl⟩⟩ := three r
  refine PySem.max_three_ints (I.ok.hd hc) fun h' tk hk => ⟨_, H, I.kept hk, ?_, q⟩
  have e : ∀ (a b : Int) (ta tb : Tok), L2.RelV (.int (max a b)) (if b > a then .int b tb else .int a ta) := fun a b ta tb => by
    by_cases h : b > a
    · rw [if_pos h, show max a b = b by omega]; exact ⟨_, rfl⟩
    · rw [if_neg h, show max a b = a by omega]; exact ⟨_, rfl⟩
  by_cases h : j > i
  · rw [if_pos h, show max i j = j by omega]; exact e _ _ _ _
  · rw [if_neg h, show max i j = i by omega]; exact e _ _ _ _
def fMax3 : List T → Option T
  | [.sh (.int i), .sh (.int j), .sh (.int k)] => some (.sh (.int (max (max i j) k)))
  | _ => none
theorem sem_max3 {K : PySem.W.Frag} : SemC K rMax3 fMax3 := by
  intro S H ts vs Q t i q e R
  unfold fMax3 at e
  split at e
  · rename_i a b c
    cases e
    obtain ⟨v1, r1, f1, rfl, q1, v2, r2, f2, rfl, q2, v3, r3, f3, rfl, q3, rfl⟩ := q
    have h1 := rep_sh q1
    have h2 := rep_sh q2
    have h3 := rep_sh q3
    simp only [RepD] at h1 h2 h3
    subst h1; subst h2; subst h3
    exact ⟨a, b, c, rfl, R.flat i fun _ => by simp only [RepD]⟩
  · cases e
end PL
set_option Elab.async false
set_option linter.all false
set_option maxRecDepth 100000
/-! PL15: the plain side: what a def computes, step by step. -/
namespace PL
open PySem

def Rs.P0 {α : Type} (r : Rs α) (P : α → Prop) : Prop := match r with
  | .ok a => P a
  | _ => False
theorem Rs.P0_ok {α : Type} {a : α} {P : α → Prop} : (Rs.ok a).P0 P ↔ P a := Iff.rfl
theorem Rs.P0.imp {α : Type} {r : Rs α} {P Q : α → Prop} (h : r.P0 P) (hi : ∀ a, P a → Q a) : r.P0 Q := by
  cases r with
  | ok a => exact hi _ h
  | bad => exact h
  | ex c => exact h
theorem Rs.P0.bind {α β : Type} {r : Rs α} {f : α → Rs β} {Q : β → Prop} (h : r.P0 fun a => (f a).P0 Q) : (r.bind f).P0 Q := by
  cases r with
  | ok a => exact h
  | bad => exact h
  | ex c => exact h
theorem Rs.P0.eq {α : Type} {r : Rs α} {a : α} (h : r.P0 fun x => x = a) : r = .ok a := by
  cases r with
  | ok b => exact congrArg Rs.ok h
  | bad => exact False.elim h
  | ex c => exact False.elim h
theorem Rs.P0.ex {α : Type} {r : Rs α} {P : α → Prop} (h : r.P0 P) : ∃ a, r = .ok a ∧ P a := by
  cases r with
  | ok b => exact ⟨b, rfl, h⟩
  | bad => exact False.elim h
  | ex c => exact False.elim h

def Out.P0 (o : Out) (N : En → Prop) (R : T → Prop) (B C : En → Prop) : Prop := match o with
  | .nx ρ => N ρ
  | .rt t => R t
  | .bk ρ => B ρ
  | .ct ρ => C ρ
  | _ => False
section
variable {N N' : En → Prop} {R R' : T → Prop} {B B' C C' : En → Prop} {o : Out} {ρ : En} {a b : En → Out} {ev : En → Rs T}
theorem Out.P0.imp (h : o.P0 N R B C) (h1 : ∀ ρ, N ρ → N' ρ) (h2 : ∀ t, R t → R' t) (h3 : ∀ ρ, B ρ → B' ρ) (h4 : ∀ ρ, C ρ → C' ρ) : o.P0 N' R' B' C' := by
  cases o with
  | nx ρ => exact h1 _ h
  | rt ρ => exact h2 _ h
  | bk ρ => exact h3 _ h
  | ct ρ => exact h4 _ h
  | bad => exact h
  | ex c ρ => exact h
theorem q_nil (h : N ρ) : (sNil ρ).P0 N R B C := h
theorem q_seq (h : (a ρ).P0 (fun ρ' => (b ρ').P0 N R B C) R B C) : (sSeq a b ρ).P0 N R B C := by
  show (seqO (a ρ) b).P0 N R B C
  cases e : a ρ <;> rw [e] at h <;> exact h
theorem q_share {i : Nat} (h : (a (ρ.share i)).P0 N R B C) : (sShare i a ρ).P0 N R B C := h
theorem q_rsK {α : Type} {r : Rs α} {k : α → Out} (h : r.P0 fun x => (k x).P0 N R B C) : (rsK r ρ k).P0 N R B C := by
  cases r with
  | ok a => exact h
  | bad => exact h
  | ex c => exact False.elim h
theorem q_set {i : Nat} {mv : List Nat} (h : (ev ρ).P0 fun t => N ((ρ.clr mv).put i (some t))) : (sSet i mv ev ρ).P0 N R B C := q_rsK h
theorem q_ret (h : (ev ρ).P0 R) : (sRet ev ρ).P0 N R B C := q_rsK h
theorem q_retN (h : R (.sh .none)) : (sRetN ρ).P0 N R B C := h
theorem q_drop (h : (ev ρ).P0 fun _ => N ρ) : (sDrop ev ρ).P0 N R B C := q_rsK h
theorem q_break (h : B ρ) : (sBreak ρ).P0 N R B C := h
theorem q_cont (h : C ρ) : (sCont ρ).P0 N R B C := h
theorem q_if {c : En → Rs Bool} (h : (c ρ).P0 fun k => (bif k then a ρ else b ρ).P0 N R B C) : (sIf c a b ρ).P0 N R B C := q_rsK h
theorem q_ifD {c : En → Rs Bool} {p : Prop} [Decidable p] (hc : c ρ = .ok (decide p)) (h1 : p → (a ρ).P0 N R B C) (h2 : ¬ p → (b ρ).P0 N R B C) : (sIf c a b ρ).P0 N R B C := by
  refine q_if ?_
  rw [hc]
  by_cases hp : p
  · show (bif decide p then a ρ else b ρ).P0 N R B C
    rw [decide_eq_true hp]; exact h1 hp
  · show (bif decide p then a ρ else b ρ).P0 N R B C
    rw [decide_eq_false hp]; exact h2 hp
theorem q_outO {α : Type} {o : Option α} {k : α → Out} {x : α} (e : o = some x) (h : (k x).P0 N R B C) : (outO o k).P0 N R B C := by
  rw [e]; exact h
theorem q_app {i : Nat} {mv : List Nat} {c : T} (e : ρ.get i = some c) (hl : c.isL = true) (h : (ev ρ).P0 fun t => ∃ c', appT c t = some c' ∧ N ((ρ.clr mv).put i (some c'))) : (sApp i mv ev ρ).P0 N R B C := by
  refine q_outO e ?_
  rw [hl]
  exact q_rsK (h.imp fun t ⟨c', e', h'⟩ => q_outO e' h')
theorem q_put {i : Nat} {ek : En → Rs T} {c : T} (e : ρ.get i = some c) (h : (ev ρ).P0 fun t => ∃ d, t.asD = some d ∧ (ek ρ).P0 fun k => ∃ j c', k.asI = some j ∧ setT c j d = some c' ∧ N (ρ.put i (some c'))) : (sPut i ek ev ρ).P0 N R B C := by
  refine q_outO e (q_rsK (h.imp fun t ⟨d, e1, h1⟩ => q_outO e1 (q_rsK (h1.imp fun k ⟨j, c', e2, e3, h2⟩ => q_outO e2 (q_outO e3 h2)))))
theorem q_unp {is mv : List Nat} (h : (ev ρ).P0 fun t => ∃ ts ρ', t.parts = some ts ∧ putAll is ts (ρ.clr mv) = some ρ' ∧ N ρ') : (sUnp is mv ev ρ).P0 N R B C :=
  q_rsK (h.imp fun t ⟨ts, ρ', e1, e2, h'⟩ => q_outO e1 (q_outO e2 h'))
/-- a for loop, by what holds of the items that are left -/
theorem q_forL {g : D → En → Option En} {b : En → Out} (J : List D → En → Prop) : ∀ {ds : List D} {ρ : En}, J ds ρ →
    (∀ d r ρ, J (d :: r) ρ → ∃ ρ1, g d ρ = some ρ1 ∧ (b ρ1).P0 (J r) R N (J r)) → (∀ ρ, J [] ρ → N ρ) → (forL g b ds ρ).P0 N R B C
  | [], ρ, j, _, h2 => h2 ρ j
  | d :: ds, ρ, j, h1, h2 => by
    obtain ⟨ρ1, e, h⟩ := h1 d ds ρ j
    unfold forL
    rw [e]
    show (match b ρ1 with
      | .nx ρ' => forL g b ds ρ'
      | .ct ρ' => forL g b ds ρ'
      | .bk ρ' => .nx ρ'
      | o => o).P0 N R B C
    cases eb : b ρ1 with
    | nx ρ' => rw [eb] at h; exact q_forL J h h1 h2
    | ct ρ' => rw [eb] at h; exact q_forL J h h1 h2
    | bk ρ' => rw [eb] at h; exact h
    | rt t => rw [eb] at h; exact h
    | bad => rw [eb] at h; exact h
    | ex c ρ' => rw [eb] at h; exact h
theorem q_for {ei : En → Rs (List D)} {g : D → En → Option En} {b : En → Out} {ds : List D} (hi : ei ρ = .ok ds) (J : List D → En → Prop) (h0 : J ds ρ)
    (h1 : ∀ d r ρ, J (d :: r) ρ → ∃ ρ1, g d ρ = some ρ1 ∧ (b ρ1).P0 (J r) R N (J r)) (h2 : ∀ ρ, J [] ρ → N ρ) : (sFor ei g b ρ).P0 N R B C := by
  unfold sFor
  refine q_rsK ?_
  rw [hi]
  exact q_forL J h0 h1 h2
/-- a while loop, by a measure -/
theorem q_while {c : En → Rs Bool} {b : En → Out} (J : Nat → En → Prop) {n : Nat} (hn : n < fuel) (h0 : J n ρ)
    (h1 : ∀ m ρ, J m ρ → (c ρ).P0 fun k => if k = true then (b ρ).P0 (fun ρ' => ∃ m', m' < m ∧ J m' ρ') R N (fun ρ' => ∃ m', m' < m ∧ J m' ρ') else N ρ) : (sWhile c b ρ).P0 N R B C := by
  have key : ∀ (f n : Nat) (ρ : En), n < f → J n ρ → (whileN c b f ρ).P0 N R B C := by
    intro f
    induction f with
    | zero => intro n ρ h; exact absurd h (Nat.not_lt_zero _)
    | succ f ih =>
      intro n ρ hn j
      unfold whileN
      refine q_rsK ((h1 n ρ j).imp fun k hk => ?_)
      cases k with
      | false => exact hk
      | true =>
        have hk : (b ρ).P0 (fun ρ' => ∃ m', m' < n ∧ J m' ρ') R N (fun ρ' => ∃ m', m' < n ∧ J m' ρ') := hk
        show (match b ρ with
          | .nx ρ' => whileN c b f ρ'
          | .ct ρ' => whileN c b f ρ'
          | .bk ρ' => .nx ρ'
          | o => o).P0 N R B C
        cases eb : b ρ with
        | nx ρ' => rw [eb] at hk; obtain ⟨m, hm, jm⟩ := hk; exact ih m ρ' (by omega) jm
        | ct ρ' => rw [eb] at hk; obtain ⟨m, hm, jm⟩ := hk; exact ih m ρ' (by omega) jm
        | bk ρ' => rw [eb] at hk; exact hk
        | rt t => rw [eb] at hk; exact hk
        | bad => rw [eb] at hk; exact hk
        | ex c ρ' => rw [eb] at hk; exact hk
  exact key fuel n ρ hn h0
theorem q_fn {n m : Nat} {b : En → Out} {ts : List T} {Q : T → Prop} (hn : ts.length = n) (h : (b (en0 m ts)).P0 (fun _ => Q (.sh .none)) Q (fun _ => False) fun _ => False) : (fnD n m b ts).P0 Q := by
  unfold fnD
  rw [if_pos hn]
  cases eb : b (en0 m ts) <;> rw [eb] at h <;> exact h
theorem q_fn_eq {n m : Nat} {b : En → Out} {ts : List T} {t : T} (hn : ts.length = n) (h : (b (en0 m ts)).P0 (fun _ => T.sh .none = t) (fun x => x = t) (fun _ => False) fun _ => False) : fnD n m b ts = .ok t :=
  (q_fn (Q := fun x => x = t) hn h).eq
end

/-! the same as things that nothing unfolds -/
structure Rs.P {α : Type} (r : Rs α) (p : α → Prop) : Prop where
  h : r.P0 p
structure Out.P (o : Out) (N : En → Prop) (R : T → Prop) (B C : En → Prop) : Prop where
  h : o.P0 N R B C
theorem Rs.P_ok {α : Type} {a : α} {P : α → Prop} : (Rs.ok a).P P ↔ P a := ⟨fun h => h.h, fun h => ⟨h⟩⟩
theorem Rs.P.imp {α : Type} {r : Rs α} {P Q : α → Prop} (h : r.P P) (hi : ∀ a, P a → Q a) : r.P Q := ⟨h.h.imp hi⟩
theorem Rs.P.bind {α β : Type} {r : Rs α} {f : α → Rs β} {Q : β → Prop} (h : r.P fun a => (f a).P Q) : (r.bind f).P Q := ⟨(h.h.imp fun _ z => z.h).bind⟩
theorem Rs.P.eq {α : Type} {r : Rs α} {a : α} (h : r.P fun x => x = a) : r = .ok a := h.h.eq
theorem Rs.P.ex {α : Type} {r : Rs α} {P : α → Prop} (h : r.P P) : ∃ a, r = .ok a ∧ P a := h.h.ex
theorem Rs.P.of {α : Type} {r : Rs α} {P : α → Prop} {a : α} (e : r = .ok a) (h : P a) : r.P P := by rw [e]; exact ⟨h⟩
section
variable {N N' : En → Prop} {R R' : T → Prop} {B B' C C' : En → Prop} {o : Out} {ρ : En} {a b : En → Out} {ev : En → Rs T}
theorem Out.P.imp (h : o.P N R B C) (h1 : ∀ ρ, N ρ → N' ρ) (h2 : ∀ t, R t → R' t) (h3 : ∀ ρ, B ρ → B' ρ) (h4 : ∀ ρ, C ρ → C' ρ) : o.P N' R' B' C' := ⟨h.h.imp h1 h2 h3 h4⟩
theorem p_nil (h : N ρ) : (sNil ρ).P N R B C := ⟨h⟩
theorem p_seq (h : (a ρ).P (fun ρ' => (b ρ').P N R B C) R B C) : (sSeq a b ρ).P N R B C := ⟨q_seq (h.h.imp (fun _ z => z.h) (fun _ z => z) (fun _ z => z) fun _ z => z)⟩
theorem p_share {i : Nat} (h : (a (ρ.share i)).P N R B C) : (sShare i a ρ).P N R B C := ⟨h.h⟩
theorem p_set {i : Nat} {mv : List Nat} (h : (ev ρ).P fun t => N ((ρ.clr mv).put i (some t))) : (sSet i mv ev ρ).P N R B C := ⟨q_set h.h⟩
theorem p_ret (h : (ev ρ).P R) : (sRet ev ρ).P N R B C := ⟨q_ret h.h⟩
theorem p_retN (h : R (.sh .none)) : (sRetN ρ).P N R B C := ⟨h⟩
theorem p_drop (h : (ev ρ).P fun _ => N ρ) : (sDrop ev ρ).P N R B C := ⟨q_drop h.h⟩
theorem p_break (h : B ρ) : (sBreak ρ).P N R B C := ⟨h⟩
theorem p_cont (h : C ρ) : (sCont ρ).P N R B C := ⟨h⟩
theorem p_if {c : En → Rs Bool} (h : (c ρ).P fun k => (bif k then a ρ else b ρ).P N R B C) : (sIf c a b ρ).P N R B C := ⟨q_if (h.h.imp fun _ z => z.h)⟩
theorem p_ifD {c : En → Rs Bool} {p : Prop} [Decidable p] (hc : c ρ = .ok (decide p)) (h1 : p → (a ρ).P N R B C) (h2 : ¬ p → (b ρ).P N R B C) : (sIf c a b ρ).P N R B C := ⟨q_ifD hc (fun z => (h1 z).h) fun z => (h2 z).h⟩
/-- by a truth value -/
theorem p_ifB {c : En → Rs Bool} {k : Bool} (hc : c ρ = .ok k) (h1 : k = true → (a ρ).P N R B C) (h2 : k = false → (b ρ).P N R B C) : (sIf c a b ρ).P N R B C := by
  refine p_if (.of hc ?_)
  cases k with
  | true => exact h1 rfl
  | false => exact h2 rfl
theorem p_app {i : Nat} {mv : List Nat} {c : T} (e : ρ.get i = some c) (hl : c.isL = true) (h : (ev ρ).P fun t => ∃ c', appT c t = some c' ∧ N ((ρ.clr mv).put i (some c'))) : (sApp i mv ev ρ).P N R B C := ⟨q_app e hl h.h⟩
theorem p_put {i : Nat} {ek : En → Rs T} {c : T} (e : ρ.get i = some c) (h : (ev ρ).P fun t => ∃ d, t.asD = some d ∧ (ek ρ).P fun k => ∃ j c', k.asI = some j ∧ setT c j d = some c' ∧ N (ρ.put i (some c'))) : (sPut i ek ev ρ).P N R B C :=
  ⟨q_put e (h.h.imp fun _ ⟨d, e, z⟩ => ⟨d, e, z.h⟩)⟩
theorem p_unp {is mv : List Nat} (h : (ev ρ).P fun t => ∃ ts ρ', t.parts = some ts ∧ putAll is ts (ρ.clr mv) = some ρ' ∧ N ρ') : (sUnp is mv ev ρ).P N R B C := ⟨q_unp h.h⟩
theorem p_for {ei : En → Rs (List D)} {g : D → En → Option En} {b : En → Out} {ds : List D} (hi : ei ρ = .ok ds) (J : List D → En → Prop) (h0 : J ds ρ)
    (h1 : ∀ d r ρ, J (d :: r) ρ → ∃ ρ1, g d ρ = some ρ1 ∧ (b ρ1).P (J r) R N (J r)) (h2 : ∀ ρ, J [] ρ → N ρ) : (sFor ei g b ρ).P N R B C :=
  ⟨q_for hi J h0 (fun d r ρ z => let ⟨ρ1, e, w⟩ := h1 d r ρ z; ⟨ρ1, e, w.h⟩) h2⟩
theorem p_while {c : En → Rs Bool} {b : En → Out} (J : Nat → En → Prop) {n : Nat} (hn : n < fuel) (h0 : J n ρ)
    (h1 : ∀ m ρ, J m ρ → (c ρ).P fun k => if k = true then (b ρ).P (fun ρ' => ∃ m', m' < m ∧ J m' ρ') R N (fun ρ' => ∃ m', m' < m ∧ J m' ρ') else N ρ) : (sWhile c b ρ).P N R B C :=
  ⟨q_while J hn h0 fun m ρ z => (h1 m ρ z).h.imp fun k hk => by
    cases k with
    | true => exact (show (b ρ).P (fun ρ' => ∃ m', m' < m ∧ J m' ρ') R N (fun ρ' => ∃ m', m' < m ∧ J m' ρ') from hk).h
    | false => exact hk⟩
theorem p_fn {n m : Nat} {b : En → Out} {ts : List T} {Q : T → Prop} (hn : ts.length = n) (h : (b (en0 m ts)).P (fun _ => Q (.sh .none)) Q (fun _ => False) fun _ => False) : (fnD n m b ts).P Q := ⟨q_fn hn h.h⟩
theorem fn_eq {n m : Nat} {b : En → Out} {ts : List T} {t : T} (hn : ts.length = n) (h : (b (en0 m ts)).P (fun _ => T.sh .none = t) (fun x => x = t) (fun _ => False) fun _ => False) : fnD n m b ts = .ok t := q_fn_eq hn h.h
end
/-! items -/
theorem atI_ok {α : Type} {xs : List α} {i : Int} (h0 : 0 ≤ i) (h1 : i < xs.length) : ∃ x, L2.atI xs i = some x ∧ xs[i.toNat]? = some x := by
  have hl : i.toNat < xs.length := by omega
  refine ⟨xs[i.toNat], ?_, by simp [hl]⟩
  unfold L2.atI L2.ixN
  rw [if_pos h0, if_pos h1]
  simp [hl]
theorem atI_nat {α : Type} {xs : List α} {i : Nat} (h1 : i < xs.length) : L2.atI xs (i : Int) = some xs[i] := by
  unfold L2.atI L2.ixN
  rw [if_pos (by omega), if_pos (by omega)]
  simp [h1]
theorem atI_get {α : Type} {xs : List α} {i : Int} (h0 : 0 ≤ i) (h1 : i < xs.length) : L2.atI xs i = some (xs[i.toNat]'(by omega)) := by
  have hl : i.toNat < xs.length := by omega
  unfold L2.atI L2.ixN
  rw [if_pos h0, if_pos h1]
  simp [hl]
/-! comprehensions over mapped items -/
theorem compL_map {α : Type} {f : α → D} {g : D → En → Option En} {c : En → Rs Bool} {e : En → Rs T} {ρ : En} {k : α → Bool} {h : α → D} : ∀ (l : List α), (∀ a ∈ l, ∃ ρ1, g (f a) ρ = some ρ1 ∧ c ρ1 = .ok (k a) ∧ (k a = true → e ρ1 = .ok (.sh (h a)))) →
    compL g c e ρ (l.map f) = some ((l.filter k).map fun a => T.sh (h a))
  | [], _ => rfl
  | a :: l, H => by
    obtain ⟨ρ1, e1, e2, e3⟩ := H a List.mem_cons_self
    have ih := compL_map l fun b hb => H b (List.mem_cons_of_mem _ hb)
    unfold compL
    rw [List.map_cons]
    simp only [e1, Option.bind_some, e2, Rs.o]
    cases hk : k a with
    | false => rw [List.filter_cons_of_neg (by simp [hk])]; exact ih
    | true =>
      rw [List.filter_cons_of_pos hk, e3 hk]
      simp only [cond_true, Rs.o, Option.bind_some, ih, Option.map_some, List.map_cons]
theorem shs_map {α : Type} (h : α → D) : ∀ l : List α, T.shs (l.map fun a => T.sh (h a)) = some (l.map h)
  | [] => rfl
  | a :: l => by simp only [List.map_cons, T.shs, shs_map h l, Option.map_some]
theorem comp_eq {α : Type} {ei : En → Rs (List D)} {vs : List Nat} {g : D → En → Option En} {c : En → Rs Bool} {e : En → Rs T} {ρ : En} {l : List α} {f : α → D} {k : α → Bool} {h : α → D} (hi : ei ρ = .ok (l.map f)) (hl : l.length ≤ 2 ^ 24)
    (H : ∀ a ∈ l, ∃ ρ1, g (f a) (ρ.clr vs) = some ρ1 ∧ c ρ1 = .ok (k a) ∧ (k a = true → e ρ1 = .ok (.sh (h a)))) : evComp ei vs g c e ρ = .ok (.ol ((l.filter k).map h)) := by
  unfold evComp
  rw [hi]
  have hs : l.length ≤ sizeLine := by rw [sizeLine_eq]; omega
  simp only [Rs.bind, List.length_map, hs, if_true, compL_map l H, rsO, mkL, shs_map]
section
variable {α : Type} {ei : En → Rs (List D)} {vs : List Nat} {g : D → En → Option En} {c : En → Rs Bool} {e : En → Rs T} {ρ : En} {l : List α} {f : α → D} {k : α → Bool} {h : α → D} {hi : α → Int}
/-- no condition -/
theorem comp_all (hi : ei ρ = .ok (l.map f)) (hl : l.length ≤ 2 ^ 24) (H : ∀ a ∈ l, ∃ ρ1, g (f a) (ρ.clr vs) = some ρ1 ∧ e ρ1 = .ok (.sh (h a))) : evComp ei vs g evYes e ρ = .ok (.ol (l.map h)) := by
  rw [comp_eq (k := fun _ => true) hi hl fun a ha => ?_, List.filter_eq_self.mpr fun _ _ => rfl]
  obtain ⟨ρ1, e1, e2⟩ := H a ha
  exact ⟨ρ1, e1, rfl, fun _ => e2⟩
/-- ints -/
theorem comp_allI (hs : ei ρ = .ok (l.map f)) (hl : l.length ≤ 2 ^ 24) (H : ∀ a ∈ l, ∃ ρ1, g (f a) (ρ.clr vs) = some ρ1 ∧ e ρ1 = .ok (.sh (.int (hi a)))) : evComp ei vs g evYes e ρ = .ok (.ol ((l.map hi).map PyData.int)) := by
  rw [List.map_map]
  exact comp_all (h := fun a => .int (hi a)) hs hl H
theorem comp_eqI (hs : ei ρ = .ok (l.map f)) (hl : l.length ≤ 2 ^ 24) (H : ∀ a ∈ l, ∃ ρ1, g (f a) (ρ.clr vs) = some ρ1 ∧ c ρ1 = .ok (k a) ∧ (k a = true → e ρ1 = .ok (.sh (.int (hi a))))) : evComp ei vs g c e ρ = .ok (.ol (((l.filter k).map hi).map PyData.int)) := by
  rw [List.map_map]
  exact comp_eq (h := fun a => .int (hi a)) hs hl H
end
/-! ranges -/
def rngI (lo hi : Int) : List Int := (List.range (hi - lo).toNat).map fun (k : Nat) => lo + (k : Int)
theorem rngD_I (lo hi : Int) : rngD lo hi = (rngI lo hi).map PyData.int := by unfold rngD rngI; rw [List.map_map]; rfl
theorem rngI_mem {lo hi x : Int} : x ∈ rngI lo hi ↔ lo ≤ x ∧ x < hi := by
  unfold rngI
  simp only [List.mem_map, List.mem_range]
  constructor
  · rintro ⟨k, h, rfl⟩; omega
  · rintro ⟨h1, h2⟩; exact ⟨(x - lo).toNat, by omega, by omega⟩
theorem rngI_len (lo hi : Int) : (rngI lo hi).length = (hi - lo).toNat := by simp [rngI]
theorem rngI_nil {lo hi : Int} (h : hi ≤ lo) : rngI lo hi = [] := by
  unfold rngI
  rw [show (hi - lo).toNat = 0 by omega]; rfl
theorem rngI_cons {lo hi : Int} (h : lo < hi) : rngI lo hi = lo :: rngI (lo + 1) hi := by
  unfold rngI
  rw [show (hi - lo).toNat = (hi - (lo + 1)).toNat + 1 by omega, List.range_succ_eq_map, List.map_cons, List.map_map]
  congr 1
  · simp
  · apply List.map_congr_left
    intro k _
    show lo + ((k + 1 : Nat) : Int) = lo + 1 + (k : Int)
    omega
theorem rngI_snoc {lo hi : Int} (h : lo ≤ hi) : rngI lo (hi + 1) = rngI lo hi ++ [hi] := by
  unfold rngI
  rw [show (hi + 1 - lo).toNat = (hi - lo).toNat + 1 by omega, List.range_succ, List.map_append]
  congr 1
  show [lo + (((hi - lo).toNat : Nat) : Int)] = [hi]
  rw [show lo + (((hi - lo).toNat : Nat) : Int) = hi by omega]
theorem x_rng1 {er : En → Rs (List T)} {ρ : En} {j : Int} (h : er ρ = .ok [.sh (.int j)]) (h1 : -4611686018427387904 ≤ j) (h2 : j < 4611686018427387904) : eiRng1 er ρ = .ok ((rngI 0 j).map PyData.int) := by
  simp only [eiRng1, h, Rs.bind]
  rw [if_pos ⟨h1, h2⟩, rngD_I]
theorem x_rng2 {er : En → Rs (List T)} {ρ : En} {i j : Int} (h : er ρ = .ok [.sh (.int i), .sh (.int j)]) (h1 : -4611686018427387904 ≤ i ∧ i < 4611686018427387904) (h2 : -4611686018427387904 ≤ j ∧ j < 4611686018427387904) : eiRng2 er ρ = .ok ((rngI i j).map PyData.int) := by
  simp only [eiRng2, h, Rs.bind]
  rw [if_pos ⟨h1.1, h1.2, h2.1, h2.2⟩, rngD_I]
/-- a for loop over mapped items, by what is left -/
theorem p_forM {α : Type} {N : En → Prop} {R : T → Prop} {B C : En → Prop} {ρ : En} {ei : En → Rs (List D)} {g : D → En → Option En} {b : En → Out} {l : List α} {f : α → D} (hi : ei ρ = .ok (l.map f)) (J : List α → En → Prop) (h0 : J l ρ)
    (h1 : ∀ d r ρ, J (d :: r) ρ → ∃ ρ1, g (f d) ρ = some ρ1 ∧ (b ρ1).P (J r) R N (J r)) (h2 : ∀ ρ, J [] ρ → N ρ) : (sFor ei g b ρ).P N R B C := by
  refine p_for hi (fun ds ρ => ∃ l, ds = l.map f ∧ J l ρ) ⟨l, rfl, h0⟩ (fun d r ρ ⟨l', e, j⟩ => ?_) fun ρ ⟨l', e, j⟩ => ?_
  · cases l' with
    | nil => cases e
    | cons a l' =>
      cases e
      obtain ⟨ρ1, e1, h⟩ := h1 a l' ρ j
      exact ⟨ρ1, e1, h.imp (fun ρ z => ⟨l', rfl, z⟩) (fun _ z => z) (fun _ z => z) fun ρ z => ⟨l', rfl, z⟩⟩
  · cases l' with
    | nil => exact h2 ρ j
    | cons a l' => cases e
end PL
set_option Elab.async false
set_option linter.all false
set_option maxRecDepth 100000
/-! PL16: what the operators give, form by form. -/
namespace PL
open PySem
section
variable {i j : Int} {ds es : List D} {x y : T} {ns : List Int} {k : Int}
theorem x_add : fAdd (.sh (.int i)) (.sh (.int j)) = some (.sh (.int (i + j))) := rfl
theorem x_iadd : fIAdd (.sh (.int i)) (.sh (.int j)) = some (.sh (.int (i + j))) := rfl
theorem x_sub : fSub (.sh (.int i)) (.sh (.int j)) = some (.sh (.int (i - j))) := rfl
theorem x_mul (h : (-(2 ^ 64) < i ∧ i < 2 ^ 64) ∨ (-(2 ^ 64) < j ∧ j < 2 ^ 64)) : fMul (.sh (.int i)) (.sh (.int j)) = some (.sh (.int (i * j))) := by
  simp only [fMul, f2I, cMul_s h, if_true, Option.map_some, Option.or]
theorem x_mulL (h : (-18446744073709551616 < i ∧ i < 18446744073709551616)) : fMul (.sh (.int i)) (.sh (.int j)) = some (.sh (.int (i * j))) := x_mul (.inl h)
theorem x_mulR (h : (-18446744073709551616 < j ∧ j < 18446744073709551616)) : fMul (.sh (.int i)) (.sh (.int j)) = some (.sh (.int (i * j))) := x_mul (.inr h)
theorem x_div (h : 0 < j) (h2 : j < 18446744073709551616) : fDiv (.sh (.int i)) (.sh (.int j)) = some (.sh (.int (i / j))) := by
  have e : cDiv i j = true := decide_eq_true ⟨h, by
    have : j.natAbs < 2 ^ 64 := by omega
    have := (Nat.log2_lt (by omega : j.natAbs ≠ 0)).mpr this
    omega⟩
  simp only [fDiv, f2I, e, if_true, Option.map_some]
theorem x_mod (h : 0 < j) : fMod (.sh (.int i)) (.sh (.int j)) = some (.sh (.int (i % j))) := by
  simp only [fMod, f2I, decide_eq_true h, if_true, Option.map_some]
theorem x_lt : fLtI (.sh (.int i)) (.sh (.int j)) = some (.sh (.bool (decide (i < j)))) := rfl
theorem x_le : fLeI (.sh (.int i)) (.sh (.int j)) = some (.sh (.bool (decide (i ≤ j)))) := rfl
theorem x_gt : fGtI (.sh (.int i)) (.sh (.int j)) = some (.sh (.bool (decide (j < i)))) := rfl
theorem x_ge : fGeI (.sh (.int i)) (.sh (.int j)) = some (.sh (.bool (decide (j ≤ i)))) := rfl
theorem x_eq : fEq (.sh (.int i)) (.sh (.int j)) = some (.sh (.bool (decide (i = j)))) := rfl
theorem x_ne : fNe (.sh (.int i)) (.sh (.int j)) = some (.sh (.bool (!decide (i = j)))) := rfl
theorem x_eqB {a b : Bool} : fEq (.sh (.bool a)) (.sh (.bool b)) = some (.sh (.bool (decide (a = b)))) := rfl
theorem x_neB {a b : Bool} : fNe (.sh (.bool a)) (.sh (.bool b)) = some (.sh (.bool (!decide (a = b)))) := rfl
theorem x_eqS {a b : Str} : fEq (.sh (.str a)) (.sh (.str b)) = some (.sh (.bool (decide (a = b)))) := rfl
theorem x_neS {a b : Str} : fNe (.sh (.str a)) (.sh (.str b)) = some (.sh (.bool (!decide (a = b)))) := rfl
theorem x_max2 : fMax [.sh (.int i), .sh (.int j)] = some (.sh (.int (max i j))) := by
  have e : (if j > i then j else i) = max i j := by rw [Int.max_def]; split <;> split <;> omega
  show some (T.sh (PyData.int (if j > i then j else i))) = _
  rw [e]
theorem x_min2 : fMin [.sh (.int i), .sh (.int j)] = some (.sh (.int (min i j))) := by
  have e : (if j < i then j else i) = min i j := by rw [Int.min_def]; split <;> split <;> omega
  show some (T.sh (PyData.int (if j < i then j else i))) = _
  rw [e]
theorem x_int1 : fInt1 [.sh (.int i)] = some (.sh (.int i)) := rfl
theorem x_intB {b : Bool} : fInt1 [.sh (.bool b)] = some (.sh (.int (if b then 1 else 0))) := by cases b <;> rfl
theorem x_lenL : fLen [.sh (.list ds)] = some (.sh (.int (ds.length : Nat))) := rfl
theorem x_lenT : fLen [.sh (.tuple ds)] = some (.sh (.int (ds.length : Nat))) := rfl
theorem x_lenO : fLen [.ol ds] = some (.sh (.int (ds.length : Nat))) := rfl
theorem x_lenS : fLen [.scr ns] = some (.sh (.int (ns.length : Nat))) := rfl
theorem x_sumL : fSum [.sh (.list (ns.map PyData.int))] = some (.sh (.int ns.sum)) := by simp only [fSum, f1, T.ints, T.lits, Option.bind_some, intsD_map, Option.map_some]
theorem x_sumO : fSum [.ol (ns.map PyData.int)] = some (.sh (.int ns.sum)) := by simp only [fSum, f1, T.ints, T.lits, Option.bind_some, intsD_map, Option.map_some]
theorem x_sortL : fSortI [.sh (.list (ns.map PyData.int))] = some (.ol ((sortI ns).map PyData.int)) := by simp only [fSortI, f1, T.ints, T.lits, Option.bind_some, intsD_map, Option.map_some]
theorem x_sortO : fSortI [.ol (ns.map PyData.int)] = some (.ol ((sortI ns).map PyData.int)) := by simp only [fSortI, f1, T.ints, T.lits, Option.bind_some, intsD_map, Option.map_some]
theorem x_listL : fList [.sh (.list ds)] = some (.ol ds) := rfl
theorem x_listT : fList [.sh (.tuple ds)] = some (.ol ds) := rfl
theorem x_listO : fList [.ol ds] = some (.ol ds) := rfl
theorem x_isN {d : D} : fIsN (.sh d) (.sh .none) = some (.sh (.bool (T.isN (.sh d)))) := rfl
theorem x_isNn : T.isN (.sh .none) = true := rfl
theorem x_isNi : T.isN (.sh (.int i)) = false := rfl
theorem x_isNs {z : Str} : T.isN (.sh (.str z)) = false := rfl
theorem x_isNl : T.isN (.sh (.list ds)) = false := rfl
theorem x_isNt : T.isN (.sh (.tuple ds)) = false := rfl
theorem x_isNb {b : Bool} : T.isN (.sh (.bool b)) = false := rfl
theorem x_notN {d : D} : fNotN (.sh d) (.sh .none) = some (.sh (.bool (!T.isN (.sh d)))) := rfl
theorem x_ixL : fIx (.sh (.list ds)) (.sh (.int k)) = (L2.atI ds k).map T.sh := rfl
theorem x_ixT : fIx (.sh (.tuple ds)) (.sh (.int k)) = (L2.atI ds k).map T.sh := rfl
theorem x_ixO : fIx (.ol ds) (.sh (.int k)) = (L2.atI ds k).map T.sh := rfl
theorem x_ixS : fIx (.scr ns) (.sh (.int k)) = (L2.atI ns k).map fun n => T.sh (.int n) := rfl
theorem x_ix0 {a : D} : L2.atI (a :: ds) 0 = some a := by simp [L2.atI, L2.ixN]
theorem x_ix1 {a b : D} : L2.atI (a :: b :: ds) 1 = some b := by
  unfold L2.atI L2.ixN
  rw [if_pos (by decide), if_pos (by simp only [List.length_cons]; omega)]
  rfl
theorem x_ix2 {a b c : D} : L2.atI (a :: b :: c :: ds) 2 = some c := by
  unfold L2.atI L2.ixN
  rw [if_pos (by decide), if_pos (by simp only [List.length_cons]; omega)]
  rfl
theorem x_ixm {α : Type} {f : α → D} {l : List α} {k : Int} {a : α} (h : L2.atI l k = some a) : L2.atI (l.map f) k = some (f a) := by rw [atI_map, h]; rfl
theorem x_sl {a b : Option Int} : fSl (.sh (.list ds)) a b = some (.ol (cutD ds a b)) := rfl
theorem x_slO {a b : Option Int} : fSl (.ol ds) a b = some (.ol (cutD ds a b)) := rfl
theorem x_slT {a b : Option Int} : fSl (.sh (.tuple ds)) a b = some (.sh (.tuple (cutD ds a b))) := rfl
/-- x in xs, ints -/
theorem any_int : ∀ {ns : List Int}, ((ns.map PyData.int).any fun z => eqD z (.int i)) = decide (i ∈ ns)
  | [] => rfl
  | n :: ns => by
    rw [List.map_cons, List.any_cons, any_int]
    have e : eqD (.int n) (.int i) = decide (n = i) := by
      show PyData.eqv (.int n) (.int i) = decide (n = i)
      simp only [PyData.eqv]
      by_cases h : n = i
      · simp [h]
      · simp [h]
    rw [e]
    by_cases h : n = i
    · subst h; simp
    · have h2 : ¬ i = n := fun z => h z.symm
      simp [h, h2]
theorem all_flat_int : ∀ ns : List Int, (ns.map PyData.int).all flatD = true
  | [] => rfl
  | n :: ns => by rw [List.map_cons, List.all_cons, all_flat_int ns]; rfl
theorem x_inL : fIn (.sh (.int i)) (.sh (.list (ns.map PyData.int))) = some (.sh (.bool (decide (i ∈ ns)))) := by
  simp only [fIn, fInF, T.seqs, T.lits, Option.or, flatD, all_flat_int, Bool.and_self, if_true, Bool.false_eq_true, if_false, any_int]
theorem x_inO : fIn (.sh (.int i)) (.ol (ns.map PyData.int)) = some (.sh (.bool (decide (i ∈ ns)))) := by
  simp only [fIn, fInF, T.seqs, T.lits, Option.or, flatD, all_flat_int, Bool.and_self, if_true, Bool.false_eq_true, if_false, any_int]
theorem x_ninL : fNin (.sh (.int i)) (.sh (.list (ns.map PyData.int))) = some (.sh (.bool (!decide (i ∈ ns)))) := by
  simp only [fNin, fInF, T.seqs, T.lits, Option.or, flatD, all_flat_int, Bool.and_self, if_true, Bool.false_eq_true, if_false, any_int]
theorem x_ninO : fNin (.sh (.int i)) (.ol (ns.map PyData.int)) = some (.sh (.bool (!decide (i ∈ ns)))) := by
  simp only [fNin, fInF, T.seqs, T.lits, Option.or, flatD, all_flat_int, Bool.and_self, if_true, Bool.false_eq_true, if_false, any_int]
end
theorem x_bind {α β : Type} {a : α} {f : α → Rs β} : (Rs.ok a).bind f = f a := rfl
theorem x_rs {α : Type} {a : α} : rsO (some a) = .ok a := rfl
theorem x_asB {b : Bool} : T.asB (.sh (.bool b)) = some b := rfl
theorem x_asI {i : Int} : T.asI (.sh (.int i)) = some i := rfl
theorem x_bifB {a b : Bool} : (bif a then Rs.ok (T.sh (.bool b)) else Rs.ok (.sh (.bool false))) = .ok (.sh (.bool (a && b))) := by cases a <;> rfl
theorem x_bifO {a b : Bool} : (bif a then Rs.ok (T.sh (.bool true)) else Rs.ok (.sh (.bool b))) = .ok (.sh (.bool (a || b))) := by cases a <;> rfl
theorem x_andB {a b : Bool} : (bif a then Rs.ok b else Rs.ok false) = .ok (a && b) := by cases a <;> rfl
theorem x_orB {a b : Bool} : (bif a then Rs.ok true else Rs.ok b) = .ok (a || b) := by cases a <;> rfl
theorem x_bifI {a : Bool} {i j : Int} : (bif a then Rs.ok (T.sh (.int i)) else Rs.ok (.sh (.int j))) = .ok (.sh (.int (bif a then i else j))) := by cases a <;> rfl
end PL
set_option Elab.async false
set_option linter.all false
set_option maxRecDepth 100000
/-! PL18: defs that many laws share. -/
namespace PL
open PySem
/-! ints of a list -/
def at_ (ns : List Int) (i : Int) : Int := ns.getD i.toNat 0
theorem x_at {ns : List Int} {i : Int} (h0 : 0 ≤ i) (h1 : i < (ns.length : Int)) : L2.atI (ns.map PyData.int) i = some (.int (at_ ns i)) := by
  refine x_ixm ?_
  rw [atI_get h0 h1]
  unfold at_
  rw [List.getD_eq_getElem?_getD, List.getElem?_eq_getElem (by omega)]
  rfl
theorem x_atS {ns : List Int} {i : Int} (h0 : 0 ≤ i) (h1 : i < (ns.length : Int)) : L2.atI ns i = some (at_ ns i) := by
  rw [atI_get h0 h1]
  unfold at_
  rw [List.getD_eq_getElem?_getD, List.getElem?_eq_getElem (by omega)]
  rfl
def Below (m : Int) (ns : List Int) : Prop := ∀ x ∈ ns, 0 ≤ x ∧ x < m
theorem Below.at {m : Int} {ns : List Int} (h : Below m ns) (hm : 0 < m) (i : Int) : 0 ≤ at_ ns i ∧ at_ ns i < m := by
  unfold at_
  rw [List.getD_eq_getElem?_getD]
  cases e : ns[i.toNat]? with
  | none => exact ⟨by show (0 : Int) ≤ 0; omega, hm⟩
  | some x => exact h x (List.mem_of_getElem? e)
theorem at_mem {ns : List Int} {i : Int} (h0 : 0 ≤ i) (h1 : i < (ns.length : Int)) : at_ ns i ∈ ns := by
  unfold at_
  rw [List.getD_eq_getElem?_getD, List.getElem?_eq_getElem (show i.toNat < ns.length by omega)]
  exact List.getElem_mem _
theorem x_app {ds : List D} {d : D} (h : ds.length < 16777216) : appT (.ol ds) (.sh d) = some (.ol (ds ++ [d])) := by
  have e : ds.length < sizeLine := by rw [sizeLine_eq]; exact h
  simp only [appT, e, if_true]
theorem x_pow1018 : fPow (.sh (.int 10)) (.sh (.int 18)) = some (.sh (.int 1000000000000000000)) := rfl
theorem x_pow109 : fPow (.sh (.int 10)) (.sh (.int 9)) = some (.sh (.int 1000000000)) := rfl
theorem x_pow1012 : fPow (.sh (.int 10)) (.sh (.int 12)) = some (.sh (.int 1000000000000)) := rfl
theorem snocI (ns : List Int) (i : Int) : ns.map PyData.int ++ [PyData.int i] = (ns ++ [i]).map PyData.int := by simp
namespace Sh
def s__law_cell : En → Out := (sSeq (sIf (evEB (evBin fLtI (evVar 1) (evSh (evC1 fLen (evCons (evVar 0) evNil))))) (sRet (evC1 fInt1 (evCons (evBin fIx (evVar 0) (evVar 1)) evNil))) sNil) (sRet (evC (.int 0))))
def d__law_cell : List T → Rs T := fnD 2 0 s__law_cell
def s__law_numbers : En → Out := (sSeq (sSet 3 [] (evLst evNil)) (sSeq (sIf (evEB (evBin fGeI (evVar 0) (evSh (evBin fPow (evSh (evC (.int 10))) (evSh (evC (.int 18))))))) (sSeq (sFor (eiRng1 (evCons (evVar 1) evNil)) (egName 4) (sSeq (sApp 3 [] (evBin fMod (evSh (evC1 fInt1 (evCons (evVar 0) evNil))) (evVar 2))) (sSet 0 [] (evSh (evBin fDiv (evSh (evC1 fInt1 (evCons (evVar 0) evNil))) (evVar 2)))))) (sRet (evVar 3))) sNil) (sSeq (sFor (eiRng1 (evCons (evVar 1) evNil)) (egName 4) (sSeq (sSet 5 [] (evSh (evBin fMod (evSh (evC1 fInt1 (evCons (evSh (evBin fAdd (evSh (evBin fAdd (evSh (evBin fMul (evVar 0) (evSh (evC (.int 48271))))) (evSh (evBin fMul (evVar 4) (evSh (evC (.int 69621))))))) (evSh (evC (.int 7))))) evNil))) (evSh (evC (.int 2147483647)))))) (sSeq (sSet 5 [] (evSh (evBin fMod (evSh (evC1 fInt1 (evCons (evSh (evBin fAdd (evSh (evBin fAdd (evSh (evBin fAdd (evSh (evBin fMul (evVar 5) (evVar 5))) (evSh (evBin fMul (evVar 5) (evSh (evC (.int 40692))))))) (evSh (evBin fMul (evVar 4) (evSh (evC (.int 16807))))))) (evSh (evC (.int 11))))) evNil))) (evSh (evC (.int 2147483399)))))) (sApp 3 [] (evBin fMod (evSh (evC1 fInt1 (evCons (evSh (evBin fDiv (evVar 5) (evSh (evC (.int 32))))) evNil))) (evVar 2)))))) (sRet (evVar 3)))))
def d__law_numbers : List T → Rs T := fnD 3 3 s__law_numbers
def s__law_same (rec : List T → Rs T) : En → Out := (sSeq (sIf (evTru (evSh (evIsi "list" (evVar 1)))) (sIf (evOr (evNot (evTru (evSh (evIsi "list" (evVar 0))))) (evEB (evBin fNe (evSh (evC1 fLen (evCons (evVar 0) evNil))) (evSh (evC1 fLen (evCons (evVar 1) evNil)))))) (sRet (evC (.bool false))) sNil) (sIf (evTru (evSh (evIsi "tuple" (evVar 1)))) (sIf (evOr (evNot (evTru (evSh (evIsi "tuple" (evVar 0))))) (evEB (evBin fNe (evSh (evC1 fLen (evCons (evVar 0) evNil))) (evSh (evC1 fLen (evCons (evVar 1) evNil)))))) (sRet (evC (.bool false))) sNil) (sIf (evEB (evBin fIsN (evVar 1) (evSh (evC .none)))) (sRet (evBin fIsN (evVar 0) (evSh (evC .none)))) (sIf (evTru (evSh (evIsi "bool" (evVar 1)))) (sRet (evAndV (evSh (evIsi "bool" (evVar 0))) (evBin fEq (evVar 0) (evVar 1)))) (sIf (evTru (evSh (evIsi "int" (evVar 1)))) (sRet (evAndV (evSh (evIsi "int" (evVar 0))) (evAndV (evSh (evNotV (evSh (evIsi "bool" (evVar 0))))) (evBin fEq (evVar 0) (evVar 1))))) (sRet (evAndV (evSh (evIsi "str" (evVar 0))) (evBin fEq (evVar 0) (evVar 1))))))))) (sSeq (sFor (eiRng1 (evCons (evSh (evC1 fLen (evCons (evVar 1) evNil))) evNil)) (egName 2) (sIf (evNot (evTru (evSh (evCall 2 rec (evCons (evBin fIx (evVar 0) (evVar 2)) (evCons (evBin fIx (evVar 1) (evVar 2)) evNil)))))) (sRet (evC (.bool false))) sNil)) (sRet (evC (.bool true)))))
def d__law_same : Nat → List T → Rs T
  | 0 => fun _ => .bad
  | n + 1 => fnD 2 1 (s__law_same (d__law_same n))

theorem law_cell (ns : List Int) (k : Int) (hk : 0 ≤ k) : ∃ c : Int, d__law_cell [.scr ns, .sh (.int k)] = .ok (.sh (.int c)) := by
  by_cases h : k < (ns.length : Int)
  · refine ⟨at_ ns k, fn_eq rfl ?_⟩
    refine p_seq (p_ifD (p := k < (ns.length : Int)) ?_ (fun hp => ?_) fun hp => absurd h hp)
    · simp only [evVar, En.get, evC, evBin, evSh, evEsc, evB, evEB, evChain, evAnd, evOr, evNot, evAndV, evOrV, evNotV, evIf, evCons, evNil, evLst, evTup, evCall, callF, evSl, eoN, eoS, evUn, evC1, evIsi, evTru, erg1, erg2, evLRg, evTRg, eiSeq, eiEnum, eiZip, x_bind, x_rs, x_asB, x_asI, x_bifB, x_bifO, x_andB, x_orB, x_bifI, List.length_map, en0, List.replicate, List.cons_append, List.nil_append, T.asD, T.items, T.itL, T.itT, T.er, T.ers, T.noScr, T.noScrs, T.shs, mkL, mkT, T.isSh, T.argOk, T.toArg, T.solid, T.isL, T.parts, putAll, T.tru, T.ty, tyD, En.put, En.clr, En.share, egName, egTup, egCons, egNil, Option.map_some, Option.map_none, Option.bind_some, Option.bind, List.all_cons, List.all_nil, List.map_cons, List.map_nil, List.length_cons, List.length_nil, Bool.and_true, Bool.true_and, Bool.and_self, Bool.not_true, Bool.not_false, if_true, cond_true, cond_false, Bool.false_eq_true, if_false, true_and, and_true, Rs.P_ok, Bool.and_false, Bool.false_and, Nat.reduceAdd, Nat.reduceLeDiff, Nat.reduceEqDiff, reduceCtorEq, x_add, x_iadd, x_sub, x_lt, x_le, x_gt, x_ge, x_eq, x_ne, x_eqB, x_neB, x_eqS, x_neS, x_max2, x_min2, x_int1, x_intB, x_lenL, x_lenT, x_lenO, x_lenS, x_sumL, x_sumO, x_sortL, x_sortO, x_listL, x_listT, x_listO, x_isN, x_isNn, x_isNi, x_isNl, x_isNt, x_isNb, x_notN, x_ixL, x_ixT, x_ixO, x_ixS, x_ix0, x_ix1, x_ix2, x_sl, x_slO, x_slT, x_inL, x_inO, x_ninL, x_ninO]
    · refine p_ret ?_
      simp only [evVar, En.get, evC, evBin, evSh, evEsc, evB, evEB, evChain, evAnd, evOr, evNot, evAndV, evOrV, evNotV, evIf, evCons, evNil, evLst, evTup, evCall, callF, evSl, eoN, eoS, evUn, evC1, evIsi, evTru, erg1, erg2, evLRg, evTRg, eiSeq, eiEnum, eiZip, x_bind, x_rs, x_asB, x_asI, x_bifB, x_bifO, x_andB, x_orB, x_bifI, List.length_map, en0, List.replicate, List.cons_append, List.nil_append, T.asD, T.items, T.itL, T.itT, T.er, T.ers, T.noScr, T.noScrs, T.shs, mkL, mkT, T.isSh, T.argOk, T.toArg, T.solid, T.isL, T.parts, putAll, T.tru, T.ty, tyD, En.put, En.clr, En.share, egName, egTup, egCons, egNil, Option.map_some, Option.map_none, Option.bind_some, Option.bind, List.all_cons, List.all_nil, List.map_cons, List.map_nil, List.length_cons, List.length_nil, Bool.and_true, Bool.true_and, Bool.and_self, Bool.not_true, Bool.not_false, if_true, cond_true, cond_false, Bool.false_eq_true, if_false, true_and, and_true, Rs.P_ok, Bool.and_false, Bool.false_and, Nat.reduceAdd, Nat.reduceLeDiff, Nat.reduceEqDiff, reduceCtorEq, x_add, x_iadd, x_sub, x_lt, x_le, x_gt, x_ge, x_eq, x_ne, x_eqB, x_neB, x_eqS, x_neS, x_max2, x_min2, x_int1, x_intB, x_lenL, x_lenT, x_lenO, x_lenS, x_sumL, x_sumO, x_sortL, x_sortO, x_listL, x_listT, x_listO, x_isN, x_isNn, x_isNi, x_isNl, x_isNt, x_isNb, x_notN, x_ixL, x_ixT, x_ixO, x_ixS, x_ix0, x_ix1, x_ix2, x_sl, x_slO, x_slT, x_inL, x_inO, x_ninL, x_ninO, x_atS hk h]
  · refine ⟨0, fn_eq rfl ?_⟩
    refine p_seq (p_ifD (p := k < (ns.length : Int)) ?_ (fun hp => absurd hp h) fun hp => ?_)
    · simp only [evVar, En.get, evC, evBin, evSh, evEsc, evB, evEB, evChain, evAnd, evOr, evNot, evAndV, evOrV, evNotV, evIf, evCons, evNil, evLst, evTup, evCall, callF, evSl, eoN, eoS, evUn, evC1, evIsi, evTru, erg1, erg2, evLRg, evTRg, eiSeq, eiEnum, eiZip, x_bind, x_rs, x_asB, x_asI, x_bifB, x_bifO, x_andB, x_orB, x_bifI, List.length_map, en0, List.replicate, List.cons_append, List.nil_append, T.asD, T.items, T.itL, T.itT, T.er, T.ers, T.noScr, T.noScrs, T.shs, mkL, mkT, T.isSh, T.argOk, T.toArg, T.solid, T.isL, T.parts, putAll, T.tru, T.ty, tyD, En.put, En.clr, En.share, egName, egTup, egCons, egNil, Option.map_some, Option.map_none, Option.bind_some, Option.bind, List.all_cons, List.all_nil, List.map_cons, List.map_nil, List.length_cons, List.length_nil, Bool.and_true, Bool.true_and, Bool.and_self, Bool.not_true, Bool.not_false, if_true, cond_true, cond_false, Bool.false_eq_true, if_false, true_and, and_true, Rs.P_ok, Bool.and_false, Bool.false_and, Nat.reduceAdd, Nat.reduceLeDiff, Nat.reduceEqDiff, reduceCtorEq, x_add, x_iadd, x_sub, x_lt, x_le, x_gt, x_ge, x_eq, x_ne, x_eqB, x_neB, x_eqS, x_neS, x_max2, x_min2, x_int1, x_intB, x_lenL, x_lenT, x_lenO, x_lenS, x_sumL, x_sumO, x_sortL, x_sortO, x_listL, x_listT, x_listO, x_isN, x_isNn, x_isNi, x_isNl, x_isNt, x_isNb, x_notN, x_ixL, x_ixT, x_ixO, x_ixS, x_ix0, x_ix1, x_ix2, x_sl, x_slO, x_slT, x_inL, x_inO, x_ninL, x_ninO]
    · refine p_nil (p_ret ?_)
      simp only [evVar, En.get, evC, evBin, evSh, evEsc, evB, evEB, evChain, evAnd, evOr, evNot, evAndV, evOrV, evNotV, evIf, evCons, evNil, evLst, evTup, evCall, callF, evSl, eoN, eoS, evUn, evC1, evIsi, evTru, erg1, erg2, evLRg, evTRg, eiSeq, eiEnum, eiZip, x_bind, x_rs, x_asB, x_asI, x_bifB, x_bifO, x_andB, x_orB, x_bifI, List.length_map, en0, List.replicate, List.cons_append, List.nil_append, T.asD, T.items, T.itL, T.itT, T.er, T.ers, T.noScr, T.noScrs, T.shs, mkL, mkT, T.isSh, T.argOk, T.toArg, T.solid, T.isL, T.parts, putAll, T.tru, T.ty, tyD, En.put, En.clr, En.share, egName, egTup, egCons, egNil, Option.map_some, Option.map_none, Option.bind_some, Option.bind, List.all_cons, List.all_nil, List.map_cons, List.map_nil, List.length_cons, List.length_nil, Bool.and_true, Bool.true_and, Bool.and_self, Bool.not_true, Bool.not_false, if_true, cond_true, cond_false, Bool.false_eq_true, if_false, true_and, and_true, Rs.P_ok, Bool.and_false, Bool.false_and, Nat.reduceAdd, Nat.reduceLeDiff, Nat.reduceEqDiff, reduceCtorEq, x_add, x_iadd, x_sub, x_lt, x_le, x_gt, x_ge, x_eq, x_ne, x_eqB, x_neB, x_eqS, x_neS, x_max2, x_min2, x_int1, x_intB, x_lenL, x_lenT, x_lenO, x_lenS, x_sumL, x_sumO, x_sortL, x_sortO, x_listL, x_listT, x_listO, x_isN, x_isNn, x_isNi, x_isNl, x_isNt, x_isNb, x_notN, x_ixL, x_ixT, x_ixO, x_ixS, x_ix0, x_ix1, x_ix2, x_sl, x_slO, x_slT, x_inL, x_inO, x_ninL, x_ninO]
theorem law_numbers (cell count limit : Int) (h0 : 0 ≤ count) (h1 : count ≤ 65536) (h2 : 0 < limit) (h3 : limit < 1000000000000000000) :
    ∃ ns : List Int, d__law_numbers [.sh (.int cell), .sh (.int count), .sh (.int limit)] = .ok (.ol (ns.map PyData.int)) ∧ (ns.length : Int) = count ∧ Below limit ns := by
  suffices hs : (d__law_numbers [.sh (.int cell), .sh (.int count), .sh (.int limit)]).P fun t => ∃ ns : List Int, t = .ol (ns.map PyData.int) ∧ (ns.length : Int) = count ∧ Below limit ns by
    obtain ⟨t, e, ns, rfl, q⟩ := hs.ex
    exact ⟨ns, e, q⟩
  have snoc : ∀ {L : List Int} {x : Int}, Below limit L → 0 ≤ x ∧ x < limit → Below limit (L ++ [x]) := fun {L x} hL hx y hy => by
    rcases List.mem_append.mp hy with z | z
    · exact hL y z
    · obtain rfl : y = x := by simpa using z
      exact hx
  refine p_fn rfl ?_
  refine p_seq (p_set ?_)
  simp only [evVar, En.get, evC, evBin, evSh, evEsc, evB, evEB, evChain, evAnd, evOr, evNot, evAndV, evOrV, evNotV, evIf, evCons, evNil, evLst, evTup, evCall, callF, evSl, eoN, eoS, evUn, evC1, evIsi, evTru, erg1, erg2, evLRg, evTRg, eiSeq, eiEnum, eiZip, x_bind, x_rs, x_asB, x_asI, x_bifB, x_bifO, x_andB, x_orB, x_bifI, List.length_map, en0, List.replicate, List.cons_append, List.nil_append, T.asD, T.items, T.itL, T.itT, T.er, T.ers, T.noScr, T.noScrs, T.shs, mkL, mkT, T.isSh, T.argOk, T.toArg, T.solid, T.isL, T.parts, putAll, T.tru, T.ty, tyD, En.put, En.clr, En.share, egName, egTup, egCons, egNil, Option.map_some, Option.map_none, Option.bind_some, Option.bind, List.all_cons, List.all_nil, List.map_cons, List.map_nil, List.length_cons, List.length_nil, Bool.and_true, Bool.true_and, Bool.and_self, Bool.not_true, Bool.not_false, if_true, cond_true, cond_false, Bool.false_eq_true, if_false, true_and, and_true, Rs.P_ok, Bool.and_false, Bool.false_and, Nat.reduceAdd, Nat.reduceLeDiff, Nat.reduceEqDiff, reduceCtorEq, x_add, x_iadd, x_sub, x_lt, x_le, x_gt, x_ge, x_eq, x_ne, x_eqB, x_neB, x_eqS, x_neS, x_max2, x_min2, x_int1, x_intB, x_lenL, x_lenT, x_lenO, x_lenS, x_sumL, x_sumO, x_sortL, x_sortO, x_listL, x_listT, x_listO, x_isN, x_isNn, x_isNi, x_isNl, x_isNt, x_isNb, x_notN, x_ixL, x_ixT, x_ixO, x_ixS, x_ix0, x_ix1, x_ix2, x_sl, x_slO, x_slT, x_inL, x_inO, x_ninL, x_ninO, List.length_nil, Nat.zero_le]
  refine p_seq (p_ifD (p := 1000000000000000000 ≤ cell) ?_ (fun hp => ?_) fun hp => ?_)
  · simp only [evVar, En.get, evC, evBin, evSh, evEsc, evB, evEB, evChain, evAnd, evOr, evNot, evAndV, evOrV, evNotV, evIf, evCons, evNil, evLst, evTup, evCall, callF, evSl, eoN, eoS, evUn, evC1, evIsi, evTru, erg1, erg2, evLRg, evTRg, eiSeq, eiEnum, eiZip, x_bind, x_rs, x_asB, x_asI, x_bifB, x_bifO, x_andB, x_orB, x_bifI, List.length_map, en0, List.replicate, List.cons_append, List.nil_append, T.asD, T.items, T.itL, T.itT, T.er, T.ers, T.noScr, T.noScrs, T.shs, mkL, mkT, T.isSh, T.argOk, T.toArg, T.solid, T.isL, T.parts, putAll, T.tru, T.ty, tyD, En.put, En.clr, En.share, egName, egTup, egCons, egNil, Option.map_some, Option.map_none, Option.bind_some, Option.bind, List.all_cons, List.all_nil, List.map_cons, List.map_nil, List.length_cons, List.length_nil, Bool.and_true, Bool.true_and, Bool.and_self, Bool.not_true, Bool.not_false, if_true, cond_true, cond_false, Bool.false_eq_true, if_false, true_and, and_true, Rs.P_ok, Bool.and_false, Bool.false_and, Nat.reduceAdd, Nat.reduceLeDiff, Nat.reduceEqDiff, reduceCtorEq, x_add, x_iadd, x_sub, x_lt, x_le, x_gt, x_ge, x_eq, x_ne, x_eqB, x_neB, x_eqS, x_neS, x_max2, x_min2, x_int1, x_intB, x_lenL, x_lenT, x_lenO, x_lenS, x_sumL, x_sumO, x_sortL, x_sortO, x_listL, x_listT, x_listO, x_isN, x_isNn, x_isNi, x_isNl, x_isNt, x_isNb, x_notN, x_ixL, x_ixT, x_ixO, x_ixS, x_ix0, x_ix1, x_ix2, x_sl, x_slO, x_slT, x_inL, x_inO, x_ninL, x_ninO, x_pow1018]
  · refine p_seq (p_forM (l := rngI 0 count) (x_rng1 (by simp only [evVar, En.get, evC, evBin, evSh, evEsc, evB, evEB, evChain, evAnd, evOr, evNot, evAndV, evOrV, evNotV, evIf, evCons, evNil, evLst, evTup, evCall, callF, evSl, eoN, eoS, evUn, evC1, evIsi, evTru, erg1, erg2, evLRg, evTRg, eiSeq, eiEnum, eiZip, x_bind, x_rs, x_asB, x_asI, x_bifB, x_bifO, x_andB, x_orB, x_bifI, List.length_map, en0, List.replicate, List.cons_append, List.nil_append, T.asD, T.items, T.itL, T.itT, T.er, T.ers, T.noScr, T.noScrs, T.shs, mkL, mkT, T.isSh, T.argOk, T.toArg, T.solid, T.isL, T.parts, putAll, T.tru, T.ty, tyD, En.put, En.clr, En.share, egName, egTup, egCons, egNil, Option.map_some, Option.map_none, Option.bind_some, Option.bind, List.all_cons, List.all_nil, List.map_cons, List.map_nil, List.length_cons, List.length_nil, Bool.and_true, Bool.true_and, Bool.and_self, Bool.not_true, Bool.not_false, if_true, cond_true, cond_false, Bool.false_eq_true, if_false, true_and, and_true, Rs.P_ok, Bool.and_false, Bool.false_and, Nat.reduceAdd, Nat.reduceLeDiff, Nat.reduceEqDiff, reduceCtorEq, x_add, x_iadd, x_sub, x_lt, x_le, x_gt, x_ge, x_eq, x_ne, x_eqB, x_neB, x_eqS, x_neS, x_max2, x_min2, x_int1, x_intB, x_lenL, x_lenT, x_lenO, x_lenS, x_sumL, x_sumO, x_sortL, x_sortO, x_listL, x_listT, x_listO, x_isN, x_isNn, x_isNi, x_isNl, x_isNt, x_isNb, x_notN, x_ixL, x_ixT, x_ixO, x_ixS, x_ix0, x_ix1, x_ix2, x_sl, x_slO, x_slT, x_inL, x_inO, x_ninL, x_ninO]) (by omega) (by omega)) (fun r ρ => ∃ (L : List Int) (c : Int) (o4 : Option T), ρ = [some (.sh (.int c)), some (.sh (.int count)), some (.sh (.int limit)), some (.ol (L.map PyData.int)), o4, none] ∧ (L.length : Int) + r.length = count ∧ Below limit L) ?_ ?_ ?_)
    · exact ⟨[], cell, none, rfl, by rw [rngI_len]; simp; omega, fun x hx => by cases hx⟩
    · rintro k r ρ ⟨L, c, o4, rfl, hl, hb⟩
      rw [List.length_cons] at hl
      refine ⟨_, rfl, ?_⟩
      refine p_seq (p_app rfl rfl ?_)
      simp only [evVar, En.get, evC, evBin, evSh, evEsc, evB, evEB, evChain, evAnd, evOr, evNot, evAndV, evOrV, evNotV, evIf, evCons, evNil, evLst, evTup, evCall, callF, evSl, eoN, eoS, evUn, evC1, evIsi, evTru, erg1, erg2, evLRg, evTRg, eiSeq, eiEnum, eiZip, x_bind, x_rs, x_asB, x_asI, x_bifB, x_bifO, x_andB, x_orB, x_bifI, List.length_map, en0, List.replicate, List.cons_append, List.nil_append, T.asD, T.items, T.itL, T.itT, T.er, T.ers, T.noScr, T.noScrs, T.shs, mkL, mkT, T.isSh, T.argOk, T.toArg, T.solid, T.isL, T.parts, putAll, T.tru, T.ty, tyD, En.put, En.clr, En.share, egName, egTup, egCons, egNil, Option.map_some, Option.map_none, Option.bind_some, Option.bind, List.all_cons, List.all_nil, List.map_cons, List.map_nil, List.length_cons, List.length_nil, Bool.and_true, Bool.true_and, Bool.and_self, Bool.not_true, Bool.not_false, if_true, cond_true, cond_false, Bool.false_eq_true, if_false, true_and, and_true, Rs.P_ok, Bool.and_false, Bool.false_and, Nat.reduceAdd, Nat.reduceLeDiff, Nat.reduceEqDiff, reduceCtorEq, x_add, x_iadd, x_sub, x_lt, x_le, x_gt, x_ge, x_eq, x_ne, x_eqB, x_neB, x_eqS, x_neS, x_max2, x_min2, x_int1, x_intB, x_lenL, x_lenT, x_lenO, x_lenS, x_sumL, x_sumO, x_sortL, x_sortO, x_listL, x_listT, x_listO, x_isN, x_isNn, x_isNi, x_isNl, x_isNt, x_isNb, x_notN, x_ixL, x_ixT, x_ixO, x_ixS, x_ix0, x_ix1, x_ix2, x_sl, x_slO, x_slT, x_inL, x_inO, x_ninL, x_ninO, x_mod h2]
      refine ⟨_, x_app (by rw [List.length_map]; omega), p_set ?_⟩
      simp only [evVar, En.get, evC, evBin, evSh, evEsc, evB, evEB, evChain, evAnd, evOr, evNot, evAndV, evOrV, evNotV, evIf, evCons, evNil, evLst, evTup, evCall, callF, evSl, eoN, eoS, evUn, evC1, evIsi, evTru, erg1, erg2, evLRg, evTRg, eiSeq, eiEnum, eiZip, x_bind, x_rs, x_asB, x_asI, x_bifB, x_bifO, x_andB, x_orB, x_bifI, List.length_map, en0, List.replicate, List.cons_append, List.nil_append, T.asD, T.items, T.itL, T.itT, T.er, T.ers, T.noScr, T.noScrs, T.shs, mkL, mkT, T.isSh, T.argOk, T.toArg, T.solid, T.isL, T.parts, putAll, T.tru, T.ty, tyD, En.put, En.clr, En.share, egName, egTup, egCons, egNil, Option.map_some, Option.map_none, Option.bind_some, Option.bind, List.all_cons, List.all_nil, List.map_cons, List.map_nil, List.length_cons, List.length_nil, Bool.and_true, Bool.true_and, Bool.and_self, Bool.not_true, Bool.not_false, if_true, cond_true, cond_false, Bool.false_eq_true, if_false, true_and, and_true, Rs.P_ok, Bool.and_false, Bool.false_and, Nat.reduceAdd, Nat.reduceLeDiff, Nat.reduceEqDiff, reduceCtorEq, x_add, x_iadd, x_sub, x_lt, x_le, x_gt, x_ge, x_eq, x_ne, x_eqB, x_neB, x_eqS, x_neS, x_max2, x_min2, x_int1, x_intB, x_lenL, x_lenT, x_lenO, x_lenS, x_sumL, x_sumO, x_sortL, x_sortO, x_listL, x_listT, x_listO, x_isN, x_isNn, x_isNi, x_isNl, x_isNt, x_isNb, x_notN, x_ixL, x_ixT, x_ixO, x_ixS, x_ix0, x_ix1, x_ix2, x_sl, x_slO, x_slT, x_inL, x_inO, x_ninL, x_ninO, x_div h2 (by omega), snocI]
      exact ⟨_, _, _, rfl, by rw [List.length_append]; simp; omega, snoc hb ⟨Int.emod_nonneg _ (by omega), Int.emod_lt_of_pos _ h2⟩⟩
    · rintro ρ ⟨L, c, o4, rfl, hl, hb⟩
      refine p_ret ?_
      simp only [evVar, En.get, evC, evBin, evSh, evEsc, evB, evEB, evChain, evAnd, evOr, evNot, evAndV, evOrV, evNotV, evIf, evCons, evNil, evLst, evTup, evCall, callF, evSl, eoN, eoS, evUn, evC1, evIsi, evTru, erg1, erg2, evLRg, evTRg, eiSeq, eiEnum, eiZip, x_bind, x_rs, x_asB, x_asI, x_bifB, x_bifO, x_andB, x_orB, x_bifI, List.length_map, en0, List.replicate, List.cons_append, List.nil_append, T.asD, T.items, T.itL, T.itT, T.er, T.ers, T.noScr, T.noScrs, T.shs, mkL, mkT, T.isSh, T.argOk, T.toArg, T.solid, T.isL, T.parts, putAll, T.tru, T.ty, tyD, En.put, En.clr, En.share, egName, egTup, egCons, egNil, Option.map_some, Option.map_none, Option.bind_some, Option.bind, List.all_cons, List.all_nil, List.map_cons, List.map_nil, List.length_cons, List.length_nil, Bool.and_true, Bool.true_and, Bool.and_self, Bool.not_true, Bool.not_false, if_true, cond_true, cond_false, Bool.false_eq_true, if_false, true_and, and_true, Rs.P_ok, Bool.and_false, Bool.false_and, Nat.reduceAdd, Nat.reduceLeDiff, Nat.reduceEqDiff, reduceCtorEq, x_add, x_iadd, x_sub, x_lt, x_le, x_gt, x_ge, x_eq, x_ne, x_eqB, x_neB, x_eqS, x_neS, x_max2, x_min2, x_int1, x_intB, x_lenL, x_lenT, x_lenO, x_lenS, x_sumL, x_sumO, x_sortL, x_sortO, x_listL, x_listT, x_listO, x_isN, x_isNn, x_isNi, x_isNl, x_isNt, x_isNb, x_notN, x_ixL, x_ixT, x_ixO, x_ixS, x_ix0, x_ix1, x_ix2, x_sl, x_slO, x_slT, x_inL, x_inO, x_ninL, x_ninO]
      exact ⟨L, rfl, by simpa using hl, hb⟩
  · refine p_nil (p_seq (p_forM (l := rngI 0 count) (x_rng1 (by simp only [evVar, En.get, evC, evBin, evSh, evEsc, evB, evEB, evChain, evAnd, evOr, evNot, evAndV, evOrV, evNotV, evIf, evCons, evNil, evLst, evTup, evCall, callF, evSl, eoN, eoS, evUn, evC1, evIsi, evTru, erg1, erg2, evLRg, evTRg, eiSeq, eiEnum, eiZip, x_bind, x_rs, x_asB, x_asI, x_bifB, x_bifO, x_andB, x_orB, x_bifI, List.length_map, en0, List.replicate, List.cons_append, List.nil_append, T.asD, T.items, T.itL, T.itT, T.er, T.ers, T.noScr, T.noScrs, T.shs, mkL, mkT, T.isSh, T.argOk, T.toArg, T.solid, T.isL, T.parts, putAll, T.tru, T.ty, tyD, En.put, En.clr, En.share, egName, egTup, egCons, egNil, Option.map_some, Option.map_none, Option.bind_some, Option.bind, List.all_cons, List.all_nil, List.map_cons, List.map_nil, List.length_cons, List.length_nil, Bool.and_true, Bool.true_and, Bool.and_self, Bool.not_true, Bool.not_false, if_true, cond_true, cond_false, Bool.false_eq_true, if_false, true_and, and_true, Rs.P_ok, Bool.and_false, Bool.false_and, Nat.reduceAdd, Nat.reduceLeDiff, Nat.reduceEqDiff, reduceCtorEq, x_add, x_iadd, x_sub, x_lt, x_le, x_gt, x_ge, x_eq, x_ne, x_eqB, x_neB, x_eqS, x_neS, x_max2, x_min2, x_int1, x_intB, x_lenL, x_lenT, x_lenO, x_lenS, x_sumL, x_sumO, x_sortL, x_sortO, x_listL, x_listT, x_listO, x_isN, x_isNn, x_isNi, x_isNl, x_isNt, x_isNb, x_notN, x_ixL, x_ixT, x_ixO, x_ixS, x_ix0, x_ix1, x_ix2, x_sl, x_slO, x_slT, x_inL, x_inO, x_ninL, x_ninO]) (by omega) (by omega)) (fun r ρ => ∃ (L : List Int) (o4 o5 : Option T), ρ = [some (.sh (.int cell)), some (.sh (.int count)), some (.sh (.int limit)), some (.ol (L.map PyData.int)), o4, o5] ∧ (L.length : Int) + r.length = count ∧ Below limit L ∧ ∀ x ∈ r, 0 ≤ x ∧ x < count) ?_ ?_ ?_))
    · exact ⟨[], none, none, rfl, by rw [rngI_len]; simp; omega, (fun x hx => by cases hx), fun x hx => rngI_mem.mp hx⟩
    · rintro k r ρ ⟨L, o4, o5, rfl, hl, hb, hk⟩
      rw [List.length_cons] at hl
      have hk0 := hk k List.mem_cons_self
      refine ⟨_, rfl, ?_⟩
      refine p_seq (p_set ?_)
      simp only [evVar, En.get, evC, evBin, evSh, evEsc, evB, evEB, evChain, evAnd, evOr, evNot, evAndV, evOrV, evNotV, evIf, evCons, evNil, evLst, evTup, evCall, callF, evSl, eoN, eoS, evUn, evC1, evIsi, evTru, erg1, erg2, evLRg, evTRg, eiSeq, eiEnum, eiZip, x_bind, x_rs, x_asB, x_asI, x_bifB, x_bifO, x_andB, x_orB, x_bifI, List.length_map, en0, List.replicate, List.cons_append, List.nil_append, T.asD, T.items, T.itL, T.itT, T.er, T.ers, T.noScr, T.noScrs, T.shs, mkL, mkT, T.isSh, T.argOk, T.toArg, T.solid, T.isL, T.parts, putAll, T.tru, T.ty, tyD, En.put, En.clr, En.share, egName, egTup, egCons, egNil, Option.map_some, Option.map_none, Option.bind_some, Option.bind, List.all_cons, List.all_nil, List.map_cons, List.map_nil, List.length_cons, List.length_nil, Bool.and_true, Bool.true_and, Bool.and_self, Bool.not_true, Bool.not_false, if_true, cond_true, cond_false, Bool.false_eq_true, if_false, true_and, and_true, Rs.P_ok, Bool.and_false, Bool.false_and, Nat.reduceAdd, Nat.reduceLeDiff, Nat.reduceEqDiff, reduceCtorEq, x_add, x_iadd, x_sub, x_lt, x_le, x_gt, x_ge, x_eq, x_ne, x_eqB, x_neB, x_eqS, x_neS, x_max2, x_min2, x_int1, x_intB, x_lenL, x_lenT, x_lenO, x_lenS, x_sumL, x_sumO, x_sortL, x_sortO, x_listL, x_listT, x_listO, x_isN, x_isNn, x_isNi, x_isNl, x_isNt, x_isNb, x_notN, x_ixL, x_ixT, x_ixO, x_ixS, x_ix0, x_ix1, x_ix2, x_sl, x_slO, x_slT, x_inL, x_inO, x_ninL, x_ninO, x_mulR (show -18446744073709551616 < (48271 : Int) ∧ (48271 : Int) < 18446744073709551616 by decide), x_mulR (show -18446744073709551616 < (69621 : Int) ∧ (69621 : Int) < 18446744073709551616 by decide), x_mod (show (0 : Int) < 2147483647 by decide)]
      have hm : 0 ≤ (cell * 48271 + k * 69621 + 7) % 2147483647 ∧ (cell * 48271 + k * 69621 + 7) % 2147483647 < 2147483647 := ⟨Int.emod_nonneg _ (by decide), Int.emod_lt_of_pos _ (by decide)⟩
      generalize (cell * 48271 + k * 69621 + 7) % 2147483647 = m at hm
      refine p_seq (p_set ?_)
      simp only [evVar, En.get, evC, evBin, evSh, evEsc, evB, evEB, evChain, evAnd, evOr, evNot, evAndV, evOrV, evNotV, evIf, evCons, evNil, evLst, evTup, evCall, callF, evSl, eoN, eoS, evUn, evC1, evIsi, evTru, erg1, erg2, evLRg, evTRg, eiSeq, eiEnum, eiZip, x_bind, x_rs, x_asB, x_asI, x_bifB, x_bifO, x_andB, x_orB, x_bifI, List.length_map, en0, List.replicate, List.cons_append, List.nil_append, T.asD, T.items, T.itL, T.itT, T.er, T.ers, T.noScr, T.noScrs, T.shs, mkL, mkT, T.isSh, T.argOk, T.toArg, T.solid, T.isL, T.parts, putAll, T.tru, T.ty, tyD, En.put, En.clr, En.share, egName, egTup, egCons, egNil, Option.map_some, Option.map_none, Option.bind_some, Option.bind, List.all_cons, List.all_nil, List.map_cons, List.map_nil, List.length_cons, List.length_nil, Bool.and_true, Bool.true_and, Bool.and_self, Bool.not_true, Bool.not_false, if_true, cond_true, cond_false, Bool.false_eq_true, if_false, true_and, and_true, Rs.P_ok, Bool.and_false, Bool.false_and, Nat.reduceAdd, Nat.reduceLeDiff, Nat.reduceEqDiff, reduceCtorEq, x_add, x_iadd, x_sub, x_lt, x_le, x_gt, x_ge, x_eq, x_ne, x_eqB, x_neB, x_eqS, x_neS, x_max2, x_min2, x_int1, x_intB, x_lenL, x_lenT, x_lenO, x_lenS, x_sumL, x_sumO, x_sortL, x_sortO, x_listL, x_listT, x_listO, x_isN, x_isNn, x_isNi, x_isNl, x_isNt, x_isNb, x_notN, x_ixL, x_ixT, x_ixO, x_ixS, x_ix0, x_ix1, x_ix2, x_sl, x_slO, x_slT, x_inL, x_inO, x_ninL, x_ninO, x_mulR (show -18446744073709551616 < (40692 : Int) ∧ (40692 : Int) < 18446744073709551616 by decide), x_mulR (show -18446744073709551616 < (16807 : Int) ∧ (16807 : Int) < 18446744073709551616 by decide), x_mulR (show -18446744073709551616 < m ∧ m < 18446744073709551616 by omega), x_mod (show (0 : Int) < 2147483399 by decide)]
      refine p_app rfl rfl ?_
      simp only [evVar, En.get, evC, evBin, evSh, evEsc, evB, evEB, evChain, evAnd, evOr, evNot, evAndV, evOrV, evNotV, evIf, evCons, evNil, evLst, evTup, evCall, callF, evSl, eoN, eoS, evUn, evC1, evIsi, evTru, erg1, erg2, evLRg, evTRg, eiSeq, eiEnum, eiZip, x_bind, x_rs, x_asB, x_asI, x_bifB, x_bifO, x_andB, x_orB, x_bifI, List.length_map, en0, List.replicate, List.cons_append, List.nil_append, T.asD, T.items, T.itL, T.itT, T.er, T.ers, T.noScr, T.noScrs, T.shs, mkL, mkT, T.isSh, T.argOk, T.toArg, T.solid, T.isL, T.parts, putAll, T.tru, T.ty, tyD, En.put, En.clr, En.share, egName, egTup, egCons, egNil, Option.map_some, Option.map_none, Option.bind_some, Option.bind, List.all_cons, List.all_nil, List.map_cons, List.map_nil, List.length_cons, List.length_nil, Bool.and_true, Bool.true_and, Bool.and_self, Bool.not_true, Bool.not_false, if_true, cond_true, cond_false, Bool.false_eq_true, if_false, true_and, and_true, Rs.P_ok, Bool.and_false, Bool.false_and, Nat.reduceAdd, Nat.reduceLeDiff, Nat.reduceEqDiff, reduceCtorEq, x_add, x_iadd, x_sub, x_lt, x_le, x_gt, x_ge, x_eq, x_ne, x_eqB, x_neB, x_eqS, x_neS, x_max2, x_min2, x_int1, x_intB, x_lenL, x_lenT, x_lenO, x_lenS, x_sumL, x_sumO, x_sortL, x_sortO, x_listL, x_listT, x_listO, x_isN, x_isNn, x_isNi, x_isNl, x_isNt, x_isNb, x_notN, x_ixL, x_ixT, x_ixO, x_ixS, x_ix0, x_ix1, x_ix2, x_sl, x_slO, x_slT, x_inL, x_inO, x_ninL, x_ninO, x_div (show (0 : Int) < 32 by decide) (show (32 : Int) < 18446744073709551616 by decide), x_mod h2]
      refine ⟨_, x_app (by rw [List.length_map]; omega), ?_⟩
      simp only [evVar, En.get, evC, evBin, evSh, evEsc, evB, evEB, evChain, evAnd, evOr, evNot, evAndV, evOrV, evNotV, evIf, evCons, evNil, evLst, evTup, evCall, callF, evSl, eoN, eoS, evUn, evC1, evIsi, evTru, erg1, erg2, evLRg, evTRg, eiSeq, eiEnum, eiZip, x_bind, x_rs, x_asB, x_asI, x_bifB, x_bifO, x_andB, x_orB, x_bifI, List.length_map, en0, List.replicate, List.cons_append, List.nil_append, T.asD, T.items, T.itL, T.itT, T.er, T.ers, T.noScr, T.noScrs, T.shs, mkL, mkT, T.isSh, T.argOk, T.toArg, T.solid, T.isL, T.parts, putAll, T.tru, T.ty, tyD, En.put, En.clr, En.share, egName, egTup, egCons, egNil, Option.map_some, Option.map_none, Option.bind_some, Option.bind, List.all_cons, List.all_nil, List.map_cons, List.map_nil, List.length_cons, List.length_nil, Bool.and_true, Bool.true_and, Bool.and_self, Bool.not_true, Bool.not_false, if_true, cond_true, cond_false, Bool.false_eq_true, if_false, true_and, and_true, Rs.P_ok, Bool.and_false, Bool.false_and, Nat.reduceAdd, Nat.reduceLeDiff, Nat.reduceEqDiff, reduceCtorEq, x_add, x_iadd, x_sub, x_lt, x_le, x_gt, x_ge, x_eq, x_ne, x_eqB, x_neB, x_eqS, x_neS, x_max2, x_min2, x_int1, x_intB, x_lenL, x_lenT, x_lenO, x_lenS, x_sumL, x_sumO, x_sortL, x_sortO, x_listL, x_listT, x_listO, x_isN, x_isNn, x_isNi, x_isNl, x_isNt, x_isNb, x_notN, x_ixL, x_ixT, x_ixO, x_ixS, x_ix0, x_ix1, x_ix2, x_sl, x_slO, x_slT, x_inL, x_inO, x_ninL, x_ninO, snocI]
      exact ⟨_, _, _, rfl, by rw [List.length_append]; simp; omega, snoc hb ⟨Int.emod_nonneg _ (by omega), Int.emod_lt_of_pos _ h2⟩, fun x hx => hk x (List.mem_cons_of_mem _ hx)⟩
    · rintro ρ ⟨L, o4, o5, rfl, hl, hb, _⟩
      refine p_ret ?_
      simp only [evVar, En.get, evC, evBin, evSh, evEsc, evB, evEB, evChain, evAnd, evOr, evNot, evAndV, evOrV, evNotV, evIf, evCons, evNil, evLst, evTup, evCall, callF, evSl, eoN, eoS, evUn, evC1, evIsi, evTru, erg1, erg2, evLRg, evTRg, eiSeq, eiEnum, eiZip, x_bind, x_rs, x_asB, x_asI, x_bifB, x_bifO, x_andB, x_orB, x_bifI, List.length_map, en0, List.replicate, List.cons_append, List.nil_append, T.asD, T.items, T.itL, T.itT, T.er, T.ers, T.noScr, T.noScrs, T.shs, mkL, mkT, T.isSh, T.argOk, T.toArg, T.solid, T.isL, T.parts, putAll, T.tru, T.ty, tyD, En.put, En.clr, En.share, egName, egTup, egCons, egNil, Option.map_some, Option.map_none, Option.bind_some, Option.bind, List.all_cons, List.all_nil, List.map_cons, List.map_nil, List.length_cons, List.length_nil, Bool.and_true, Bool.true_and, Bool.and_self, Bool.not_true, Bool.not_false, if_true, cond_true, cond_false, Bool.false_eq_true, if_false, true_and, and_true, Rs.P_ok, Bool.and_false, Bool.false_and, Nat.reduceAdd, Nat.reduceLeDiff, Nat.reduceEqDiff, reduceCtorEq, x_add, x_iadd, x_sub, x_lt, x_le, x_gt, x_ge, x_eq, x_ne, x_eqB, x_neB, x_eqS, x_neS, x_max2, x_min2, x_int1, x_intB, x_lenL, x_lenT, x_lenO, x_lenS, x_sumL, x_sumO, x_sortL, x_sortO, x_listL, x_listT, x_listO, x_isN, x_isNn, x_isNi, x_isNl, x_isNt, x_isNb, x_notN, x_ixL, x_ixT, x_ixO, x_ixS, x_ix0, x_ix1, x_ix2, x_sl, x_slO, x_slT, x_inL, x_inO, x_ninL, x_ninO]
      exact ⟨L, rfl, by simpa using hl, hb⟩
/-! a value is the same as itself -/
def sameOk : Nat → D → Bool
  | 0, _ => false
  | n + 1, d => match d with
    | .list ds => decide (ds.length < 4611686018427387904) && ds.all (sameOk n)
    | .tuple ds => decide (ds.length < 4611686018427387904) && ds.all (sameOk n)
    | .dict _ => false
    | _ => true
theorem seq_same {n : Nat} {ds : List D} {a : D} (ha : (a = .list ds ∨ a = .tuple ds)) (hl : ds.length < 4611686018427387904) (ih : ∀ d ∈ ds, d__law_same n [.sh d, .sh d] = .ok (.sh (.bool true))) {N : En → Prop} {R : T → Prop} {B C : En → Prop} (hR : R (.sh (.bool true))) :
    Out.P (sSeq (sFor (eiRng1 (evCons (evSh (evC1 fLen (evCons (evVar 1) evNil))) evNil)) (egName 2) (sIf (evNot (evTru (evSh (evCall 2 (d__law_same n) (evCons (evBin fIx (evVar 0) (evVar 2)) (evCons (evBin fIx (evVar 1) (evVar 2)) evNil)))))) (sRet (evC (.bool false))) sNil)) (sRet (evC (.bool true)))
      [some (.sh a), some (.sh a), none]) N R B C := by
  have hlen : fLen [.sh a] = some (.sh (.int (ds.length : Nat))) := by rcases ha with rfl | rfl <;> rfl
  have hix : ∀ k : Int, fIx (.sh a) (.sh (.int k)) = (L2.atI ds k).map T.sh := fun k => by rcases ha with rfl | rfl <;> rfl
  refine p_seq (p_forM (l := rngI 0 (ds.length : Int)) (x_rng1 (by simp only [evVar, En.get, evC, evBin, evSh, evEsc, evB, evEB, evChain, evAnd, evOr, evNot, evAndV, evOrV, evNotV, evIf, evCons, evNil, evLst, evTup, evCall, callF, evSl, eoN, eoS, evUn, evC1, evIsi, evTru, erg1, erg2, evLRg, evTRg, eiSeq, eiEnum, eiZip, x_bind, x_rs, x_asB, x_asI, x_bifB, x_bifO, x_andB, x_orB, x_bifI, List.length_map, en0, List.replicate, List.cons_append, List.nil_append, T.asD, T.items, T.itL, T.itT, T.er, T.ers, T.noScr, T.noScrs, T.shs, mkL, mkT, T.isSh, T.argOk, T.toArg, T.solid, T.isL, T.parts, putAll, T.tru, T.ty, tyD, En.put, En.clr, En.share, egName, egTup, egCons, egNil, Option.map_some, Option.map_none, Option.bind_some, Option.bind, List.all_cons, List.all_nil, List.map_cons, List.map_nil, List.length_cons, List.length_nil, Bool.and_true, Bool.true_and, Bool.and_self, Bool.not_true, Bool.not_false, if_true, cond_true, cond_false, Bool.false_eq_true, if_false, true_and, and_true, Rs.P_ok, Bool.and_false, Bool.false_and, Nat.reduceAdd, Nat.reduceLeDiff, Nat.reduceEqDiff, reduceCtorEq, x_add, x_iadd, x_sub, x_lt, x_le, x_gt, x_ge, x_eq, x_ne, x_eqB, x_neB, x_eqS, x_neS, x_max2, x_min2, x_int1, x_intB, x_lenL, x_lenT, x_lenO, x_lenS, x_sumL, x_sumO, x_sortL, x_sortO, x_listL, x_listT, x_listO, x_isN, x_isNn, x_isNi, x_isNl, x_isNt, x_isNb, x_notN, x_ixL, x_ixT, x_ixO, x_ixS, x_ix0, x_ix1, x_ix2, x_sl, x_slO, x_slT, x_inL, x_inO, x_ninL, x_ninO, hlen]) (by omega) (by omega)) (fun r ρ => (∃ o : Option T, ρ = [some (.sh a), some (.sh a), o]) ∧ ∀ x ∈ r, 0 ≤ x ∧ x < (ds.length : Int)) ?_ ?_ ?_)
  · exact ⟨⟨none, rfl⟩, fun x hx => rngI_mem.mp hx⟩
  · rintro k r ρ ⟨⟨o, rfl⟩, hk⟩
    have hk0 := hk k List.mem_cons_self
    refine ⟨_, rfl, ?_⟩
    obtain ⟨d, hd, hd2⟩ := atI_ok hk0.1 hk0.2
    refine p_ifB (k := false) ?_ (fun h => by cases h) fun _ => p_nil ⟨⟨_, rfl⟩, fun x hx => hk x (List.mem_cons_of_mem _ hx)⟩
    simp only [evVar, En.get, evC, evBin, evSh, evEsc, evB, evEB, evChain, evAnd, evOr, evNot, evAndV, evOrV, evNotV, evIf, evCons, evNil, evLst, evTup, evCall, callF, evSl, eoN, eoS, evUn, evC1, evIsi, evTru, erg1, erg2, evLRg, evTRg, eiSeq, eiEnum, eiZip, x_bind, x_rs, x_asB, x_asI, x_bifB, x_bifO, x_andB, x_orB, x_bifI, List.length_map, en0, List.replicate, List.cons_append, List.nil_append, T.asD, T.items, T.itL, T.itT, T.er, T.ers, T.noScr, T.noScrs, T.shs, mkL, mkT, T.isSh, T.argOk, T.toArg, T.solid, T.isL, T.parts, putAll, T.tru, T.ty, tyD, En.put, En.clr, En.share, egName, egTup, egCons, egNil, Option.map_some, Option.map_none, Option.bind_some, Option.bind, List.all_cons, List.all_nil, List.map_cons, List.map_nil, List.length_cons, List.length_nil, Bool.and_true, Bool.true_and, Bool.and_self, Bool.not_true, Bool.not_false, if_true, cond_true, cond_false, Bool.false_eq_true, if_false, true_and, and_true, Rs.P_ok, Bool.and_false, Bool.false_and, Nat.reduceAdd, Nat.reduceLeDiff, Nat.reduceEqDiff, reduceCtorEq, x_add, x_iadd, x_sub, x_lt, x_le, x_gt, x_ge, x_eq, x_ne, x_eqB, x_neB, x_eqS, x_neS, x_max2, x_min2, x_int1, x_intB, x_lenL, x_lenT, x_lenO, x_lenS, x_sumL, x_sumO, x_sortL, x_sortO, x_listL, x_listT, x_listO, x_isN, x_isNn, x_isNi, x_isNl, x_isNt, x_isNb, x_notN, x_ixL, x_ixT, x_ixO, x_ixS, x_ix0, x_ix1, x_ix2, x_sl, x_slO, x_slT, x_inL, x_inO, x_ninL, x_ninO, hix, hd]
    rw [ih d (List.mem_of_getElem? hd2)]
    simp only [evVar, En.get, evC, evBin, evSh, evEsc, evB, evEB, evChain, evAnd, evOr, evNot, evAndV, evOrV, evNotV, evIf, evCons, evNil, evLst, evTup, evCall, callF, evSl, eoN, eoS, evUn, evC1, evIsi, evTru, erg1, erg2, evLRg, evTRg, eiSeq, eiEnum, eiZip, x_bind, x_rs, x_asB, x_asI, x_bifB, x_bifO, x_andB, x_orB, x_bifI, List.length_map, en0, List.replicate, List.cons_append, List.nil_append, T.asD, T.items, T.itL, T.itT, T.er, T.ers, T.noScr, T.noScrs, T.shs, mkL, mkT, T.isSh, T.argOk, T.toArg, T.solid, T.isL, T.parts, putAll, T.tru, T.ty, tyD, En.put, En.clr, En.share, egName, egTup, egCons, egNil, Option.map_some, Option.map_none, Option.bind_some, Option.bind, List.all_cons, List.all_nil, List.map_cons, List.map_nil, List.length_cons, List.length_nil, Bool.and_true, Bool.true_and, Bool.and_self, Bool.not_true, Bool.not_false, if_true, cond_true, cond_false, Bool.false_eq_true, if_false, true_and, and_true, Rs.P_ok, Bool.and_false, Bool.false_and, Nat.reduceAdd, Nat.reduceLeDiff, Nat.reduceEqDiff, reduceCtorEq, x_add, x_iadd, x_sub, x_lt, x_le, x_gt, x_ge, x_eq, x_ne, x_eqB, x_neB, x_eqS, x_neS, x_max2, x_min2, x_int1, x_intB, x_lenL, x_lenT, x_lenO, x_lenS, x_sumL, x_sumO, x_sortL, x_sortO, x_listL, x_listT, x_listO, x_isN, x_isNn, x_isNi, x_isNl, x_isNt, x_isNb, x_notN, x_ixL, x_ixT, x_ixO, x_ixS, x_ix0, x_ix1, x_ix2, x_sl, x_slO, x_slT, x_inL, x_inO, x_ninL, x_ninO]
  · rintro ρ ⟨⟨o, rfl⟩, _⟩
    refine p_ret ?_
    simp only [evVar, En.get, evC, evBin, evSh, evEsc, evB, evEB, evChain, evAnd, evOr, evNot, evAndV, evOrV, evNotV, evIf, evCons, evNil, evLst, evTup, evCall, callF, evSl, eoN, eoS, evUn, evC1, evIsi, evTru, erg1, erg2, evLRg, evTRg, eiSeq, eiEnum, eiZip, x_bind, x_rs, x_asB, x_asI, x_bifB, x_bifO, x_andB, x_orB, x_bifI, List.length_map, en0, List.replicate, List.cons_append, List.nil_append, T.asD, T.items, T.itL, T.itT, T.er, T.ers, T.noScr, T.noScrs, T.shs, mkL, mkT, T.isSh, T.argOk, T.toArg, T.solid, T.isL, T.parts, putAll, T.tru, T.ty, tyD, En.put, En.clr, En.share, egName, egTup, egCons, egNil, Option.map_some, Option.map_none, Option.bind_some, Option.bind, List.all_cons, List.all_nil, List.map_cons, List.map_nil, List.length_cons, List.length_nil, Bool.and_true, Bool.true_and, Bool.and_self, Bool.not_true, Bool.not_false, if_true, cond_true, cond_false, Bool.false_eq_true, if_false, true_and, and_true, Rs.P_ok, Bool.and_false, Bool.false_and, Nat.reduceAdd, Nat.reduceLeDiff, Nat.reduceEqDiff, reduceCtorEq, x_add, x_iadd, x_sub, x_lt, x_le, x_gt, x_ge, x_eq, x_ne, x_eqB, x_neB, x_eqS, x_neS, x_max2, x_min2, x_int1, x_intB, x_lenL, x_lenT, x_lenO, x_lenS, x_sumL, x_sumO, x_sortL, x_sortO, x_listL, x_listT, x_listO, x_isN, x_isNn, x_isNi, x_isNl, x_isNt, x_isNb, x_notN, x_ixL, x_ixT, x_ixO, x_ixS, x_ix0, x_ix1, x_ix2, x_sl, x_slO, x_slT, x_inL, x_inO, x_ninL, x_ninO]
    exact hR
theorem law_same : ∀ (n : Nat) (d : D), sameOk n d = true → d__law_same n [.sh d, .sh d] = .ok (.sh (.bool true))
  | 0, d, h => by simp [sameOk] at h
  | n + 1, d, h => by
    refine fn_eq rfl ?_
    refine p_seq ?_
    cases d with
    | none =>
      refine p_ifB (k := false) ?_ (fun h => by cases h) fun _ => p_ifB (k := false) ?_ (fun h => by cases h) fun _ => p_ifB (k := true) ?_ (fun _ => p_ret ?_) fun h => by cases h
      all_goals simp only [evVar, En.get, evC, evBin, evSh, evEsc, evB, evEB, evChain, evAnd, evOr, evNot, evAndV, evOrV, evNotV, evIf, evCons, evNil, evLst, evTup, evCall, callF, evSl, eoN, eoS, evUn, evC1, evIsi, evTru, erg1, erg2, evLRg, evTRg, eiSeq, eiEnum, eiZip, x_bind, x_rs, x_asB, x_asI, x_bifB, x_bifO, x_andB, x_orB, x_bifI, List.length_map, en0, List.replicate, List.cons_append, List.nil_append, T.asD, T.items, T.itL, T.itT, T.er, T.ers, T.noScr, T.noScrs, T.shs, mkL, mkT, T.isSh, T.argOk, T.toArg, T.solid, T.isL, T.parts, putAll, T.tru, T.ty, tyD, En.put, En.clr, En.share, egName, egTup, egCons, egNil, Option.map_some, Option.map_none, Option.bind_some, Option.bind, List.all_cons, List.all_nil, List.map_cons, List.map_nil, List.length_cons, List.length_nil, Bool.and_true, Bool.true_and, Bool.and_self, Bool.not_true, Bool.not_false, if_true, cond_true, cond_false, Bool.false_eq_true, if_false, true_and, and_true, Rs.P_ok, Bool.and_false, Bool.false_and, Nat.reduceAdd, Nat.reduceLeDiff, Nat.reduceEqDiff, reduceCtorEq, x_add, x_iadd, x_sub, x_lt, x_le, x_gt, x_ge, x_eq, x_ne, x_eqB, x_neB, x_eqS, x_neS, x_max2, x_min2, x_int1, x_intB, x_lenL, x_lenT, x_lenO, x_lenS, x_sumL, x_sumO, x_sortL, x_sortO, x_listL, x_listT, x_listO, x_isN, x_isNn, x_isNi, x_isNl, x_isNt, x_isNb, x_notN, x_ixL, x_ixT, x_ixO, x_ixS, x_ix0, x_ix1, x_ix2, x_sl, x_slO, x_slT, x_inL, x_inO, x_ninL, x_ninO, isaB, String.reduceBEq, Bool.or_false, Bool.or_true]
    | bool b =>
      refine p_ifB (k := false) ?_ (fun h => by cases h) fun _ => p_ifB (k := false) ?_ (fun h => by cases h) fun _ => p_ifB (k := false) ?_ (fun h => by cases h) fun _ => p_ifB (k := true) ?_ (fun _ => p_ret ?_) fun h => by cases h
      all_goals simp only [evVar, En.get, evC, evBin, evSh, evEsc, evB, evEB, evChain, evAnd, evOr, evNot, evAndV, evOrV, evNotV, evIf, evCons, evNil, evLst, evTup, evCall, callF, evSl, eoN, eoS, evUn, evC1, evIsi, evTru, erg1, erg2, evLRg, evTRg, eiSeq, eiEnum, eiZip, x_bind, x_rs, x_asB, x_asI, x_bifB, x_bifO, x_andB, x_orB, x_bifI, List.length_map, en0, List.replicate, List.cons_append, List.nil_append, T.asD, T.items, T.itL, T.itT, T.er, T.ers, T.noScr, T.noScrs, T.shs, mkL, mkT, T.isSh, T.argOk, T.toArg, T.solid, T.isL, T.parts, putAll, T.tru, T.ty, tyD, En.put, En.clr, En.share, egName, egTup, egCons, egNil, Option.map_some, Option.map_none, Option.bind_some, Option.bind, List.all_cons, List.all_nil, List.map_cons, List.map_nil, List.length_cons, List.length_nil, Bool.and_true, Bool.true_and, Bool.and_self, Bool.not_true, Bool.not_false, if_true, cond_true, cond_false, Bool.false_eq_true, if_false, true_and, and_true, Rs.P_ok, Bool.and_false, Bool.false_and, Nat.reduceAdd, Nat.reduceLeDiff, Nat.reduceEqDiff, reduceCtorEq, x_add, x_iadd, x_sub, x_lt, x_le, x_gt, x_ge, x_eq, x_ne, x_eqB, x_neB, x_eqS, x_neS, x_max2, x_min2, x_int1, x_intB, x_lenL, x_lenT, x_lenO, x_lenS, x_sumL, x_sumO, x_sortL, x_sortO, x_listL, x_listT, x_listO, x_isN, x_isNn, x_isNi, x_isNl, x_isNt, x_isNb, x_notN, x_ixL, x_ixT, x_ixO, x_ixS, x_ix0, x_ix1, x_ix2, x_sl, x_slO, x_slT, x_inL, x_inO, x_ninL, x_ninO, isaB, String.reduceBEq, Bool.or_false, Bool.or_true, decide_true]
    | int b =>
      refine p_ifB (k := false) ?_ (fun h => by cases h) fun _ => p_ifB (k := false) ?_ (fun h => by cases h) fun _ => p_ifB (k := false) ?_ (fun h => by cases h) fun _ => p_ifB (k := false) ?_ (fun h => by cases h) fun _ => p_ifB (k := true) ?_ (fun _ => p_ret ?_) fun h => by cases h
      all_goals simp only [evVar, En.get, evC, evBin, evSh, evEsc, evB, evEB, evChain, evAnd, evOr, evNot, evAndV, evOrV, evNotV, evIf, evCons, evNil, evLst, evTup, evCall, callF, evSl, eoN, eoS, evUn, evC1, evIsi, evTru, erg1, erg2, evLRg, evTRg, eiSeq, eiEnum, eiZip, x_bind, x_rs, x_asB, x_asI, x_bifB, x_bifO, x_andB, x_orB, x_bifI, List.length_map, en0, List.replicate, List.cons_append, List.nil_append, T.asD, T.items, T.itL, T.itT, T.er, T.ers, T.noScr, T.noScrs, T.shs, mkL, mkT, T.isSh, T.argOk, T.toArg, T.solid, T.isL, T.parts, putAll, T.tru, T.ty, tyD, En.put, En.clr, En.share, egName, egTup, egCons, egNil, Option.map_some, Option.map_none, Option.bind_some, Option.bind, List.all_cons, List.all_nil, List.map_cons, List.map_nil, List.length_cons, List.length_nil, Bool.and_true, Bool.true_and, Bool.and_self, Bool.not_true, Bool.not_false, if_true, cond_true, cond_false, Bool.false_eq_true, if_false, true_and, and_true, Rs.P_ok, Bool.and_false, Bool.false_and, Nat.reduceAdd, Nat.reduceLeDiff, Nat.reduceEqDiff, reduceCtorEq, x_add, x_iadd, x_sub, x_lt, x_le, x_gt, x_ge, x_eq, x_ne, x_eqB, x_neB, x_eqS, x_neS, x_max2, x_min2, x_int1, x_intB, x_lenL, x_lenT, x_lenO, x_lenS, x_sumL, x_sumO, x_sortL, x_sortO, x_listL, x_listT, x_listO, x_isN, x_isNn, x_isNi, x_isNl, x_isNt, x_isNb, x_notN, x_ixL, x_ixT, x_ixO, x_ixS, x_ix0, x_ix1, x_ix2, x_sl, x_slO, x_slT, x_inL, x_inO, x_ninL, x_ninO, isaB, String.reduceBEq, Bool.or_false, Bool.or_true, decide_true]
    | str b =>
      refine p_ifB (k := false) ?_ (fun h => by cases h) fun _ => p_ifB (k := false) ?_ (fun h => by cases h) fun _ => p_ifB (k := false) ?_ (fun h => by cases h) fun _ => p_ifB (k := false) ?_ (fun h => by cases h) fun _ => p_ifB (k := false) ?_ (fun h => by cases h) fun _ => p_ret ?_
      all_goals simp only [evVar, En.get, evC, evBin, evSh, evEsc, evB, evEB, evChain, evAnd, evOr, evNot, evAndV, evOrV, evNotV, evIf, evCons, evNil, evLst, evTup, evCall, callF, evSl, eoN, eoS, evUn, evC1, evIsi, evTru, erg1, erg2, evLRg, evTRg, eiSeq, eiEnum, eiZip, x_bind, x_rs, x_asB, x_asI, x_bifB, x_bifO, x_andB, x_orB, x_bifI, List.length_map, en0, List.replicate, List.cons_append, List.nil_append, T.asD, T.items, T.itL, T.itT, T.er, T.ers, T.noScr, T.noScrs, T.shs, mkL, mkT, T.isSh, T.argOk, T.toArg, T.solid, T.isL, T.parts, putAll, T.tru, T.ty, tyD, En.put, En.clr, En.share, egName, egTup, egCons, egNil, Option.map_some, Option.map_none, Option.bind_some, Option.bind, List.all_cons, List.all_nil, List.map_cons, List.map_nil, List.length_cons, List.length_nil, Bool.and_true, Bool.true_and, Bool.and_self, Bool.not_true, Bool.not_false, if_true, cond_true, cond_false, Bool.false_eq_true, if_false, true_and, and_true, Rs.P_ok, Bool.and_false, Bool.false_and, Nat.reduceAdd, Nat.reduceLeDiff, Nat.reduceEqDiff, reduceCtorEq, x_add, x_iadd, x_sub, x_lt, x_le, x_gt, x_ge, x_eq, x_ne, x_eqB, x_neB, x_eqS, x_neS, x_max2, x_min2, x_int1, x_intB, x_lenL, x_lenT, x_lenO, x_lenS, x_sumL, x_sumO, x_sortL, x_sortO, x_listL, x_listT, x_listO, x_isN, x_isNn, x_isNi, x_isNl, x_isNt, x_isNb, x_notN, x_ixL, x_ixT, x_ixO, x_ixS, x_ix0, x_ix1, x_ix2, x_sl, x_slO, x_slT, x_inL, x_inO, x_ninL, x_ninO, isaB, String.reduceBEq, Bool.or_false, Bool.or_true, decide_true, x_isNs]
    | list ds =>
      simp only [sameOk, Bool.and_eq_true, decide_eq_true_eq, List.all_eq_true] at h
      refine p_ifB (k := true) ?_ (fun _ => p_ifB (k := false) ?_ (fun h => by cases h) fun _ => p_nil (seq_same (.inl rfl) h.1 (fun d hd => law_same n d (h.2 d hd)) rfl)) fun h => by cases h
      all_goals simp only [evVar, En.get, evC, evBin, evSh, evEsc, evB, evEB, evChain, evAnd, evOr, evNot, evAndV, evOrV, evNotV, evIf, evCons, evNil, evLst, evTup, evCall, callF, evSl, eoN, eoS, evUn, evC1, evIsi, evTru, erg1, erg2, evLRg, evTRg, eiSeq, eiEnum, eiZip, x_bind, x_rs, x_asB, x_asI, x_bifB, x_bifO, x_andB, x_orB, x_bifI, List.length_map, en0, List.replicate, List.cons_append, List.nil_append, T.asD, T.items, T.itL, T.itT, T.er, T.ers, T.noScr, T.noScrs, T.shs, mkL, mkT, T.isSh, T.argOk, T.toArg, T.solid, T.isL, T.parts, putAll, T.tru, T.ty, tyD, En.put, En.clr, En.share, egName, egTup, egCons, egNil, Option.map_some, Option.map_none, Option.bind_some, Option.bind, List.all_cons, List.all_nil, List.map_cons, List.map_nil, List.length_cons, List.length_nil, Bool.and_true, Bool.true_and, Bool.and_self, Bool.not_true, Bool.not_false, if_true, cond_true, cond_false, Bool.false_eq_true, if_false, true_and, and_true, Rs.P_ok, Bool.and_false, Bool.false_and, Nat.reduceAdd, Nat.reduceLeDiff, Nat.reduceEqDiff, reduceCtorEq, x_add, x_iadd, x_sub, x_lt, x_le, x_gt, x_ge, x_eq, x_ne, x_eqB, x_neB, x_eqS, x_neS, x_max2, x_min2, x_int1, x_intB, x_lenL, x_lenT, x_lenO, x_lenS, x_sumL, x_sumO, x_sortL, x_sortO, x_listL, x_listT, x_listO, x_isN, x_isNn, x_isNi, x_isNl, x_isNt, x_isNb, x_notN, x_ixL, x_ixT, x_ixO, x_ixS, x_ix0, x_ix1, x_ix2, x_sl, x_slO, x_slT, x_inL, x_inO, x_ninL, x_ninO, isaB, String.reduceBEq, Bool.or_false, Bool.or_true, decide_true]
    | tuple ds =>
      simp only [sameOk, Bool.and_eq_true, decide_eq_true_eq, List.all_eq_true] at h
      refine p_ifB (k := false) ?_ (fun h => by cases h) fun _ => p_ifB (k := true) ?_ (fun _ => p_ifB (k := false) ?_ (fun h => by cases h) fun _ => p_nil (seq_same (.inr rfl) h.1 (fun d hd => law_same n d (h.2 d hd)) rfl)) fun h => by cases h
      all_goals simp only [evVar, En.get, evC, evBin, evSh, evEsc, evB, evEB, evChain, evAnd, evOr, evNot, evAndV, evOrV, evNotV, evIf, evCons, evNil, evLst, evTup, evCall, callF, evSl, eoN, eoS, evUn, evC1, evIsi, evTru, erg1, erg2, evLRg, evTRg, eiSeq, eiEnum, eiZip, x_bind, x_rs, x_asB, x_asI, x_bifB, x_bifO, x_andB, x_orB, x_bifI, List.length_map, en0, List.replicate, List.cons_append, List.nil_append, T.asD, T.items, T.itL, T.itT, T.er, T.ers, T.noScr, T.noScrs, T.shs, mkL, mkT, T.isSh, T.argOk, T.toArg, T.solid, T.isL, T.parts, putAll, T.tru, T.ty, tyD, En.put, En.clr, En.share, egName, egTup, egCons, egNil, Option.map_some, Option.map_none, Option.bind_some, Option.bind, List.all_cons, List.all_nil, List.map_cons, List.map_nil, List.length_cons, List.length_nil, Bool.and_true, Bool.true_and, Bool.and_self, Bool.not_true, Bool.not_false, if_true, cond_true, cond_false, Bool.false_eq_true, if_false, true_and, and_true, Rs.P_ok, Bool.and_false, Bool.false_and, Nat.reduceAdd, Nat.reduceLeDiff, Nat.reduceEqDiff, reduceCtorEq, x_add, x_iadd, x_sub, x_lt, x_le, x_gt, x_ge, x_eq, x_ne, x_eqB, x_neB, x_eqS, x_neS, x_max2, x_min2, x_int1, x_intB, x_lenL, x_lenT, x_lenO, x_lenS, x_sumL, x_sumO, x_sortL, x_sortO, x_listL, x_listT, x_listO, x_isN, x_isNn, x_isNi, x_isNl, x_isNt, x_isNb, x_notN, x_ixL, x_ixT, x_ixO, x_ixS, x_ix0, x_ix1, x_ix2, x_sl, x_slO, x_slT, x_inL, x_inO, x_ninL, x_ninO, isaB, String.reduceBEq, Bool.or_false, Bool.or_true, decide_true]
    | dict ds => simp [sameOk] at h
end Sh
end PL
set_option Elab.async false
set_option linter.all false
set_option maxRecDepth 100000
/-! PL19: how long a repr can be. -/
namespace PL
open PySem
mutual
def szD : D → Nat
  | .none => 4
  | .bool _ => 5
  | .int i => i.natAbs.log2 + 2
  | .str x => (reprText x).length
  | .list ds => szDs ds
  | .tuple ds => szDs ds
  | .dict _ => 0
def szDs : List D → Nat
  | [] => 3
  | d :: ds => szD d + 2 + szDs ds
end
mutual
theorem shown_sz : ∀ d : D, reprOk d = true → d.shown.length ≤ szD d
  | .none, _ => by simp only [PyData.shown, szD]; decide
  | .bool b, _ => by cases b <;> (simp only [PyData.shown, szD]; decide)
  | .int i, _ => by
    simp only [PyData.shown, szD]
    rw [ofString_length]
    exact int_text_length_le (a := i) (k := i.natAbs.log2 + 1) (by omega) (by omega)
  | .str x, _ => by simp only [PyData.shown, szD]; exact Nat.le_refl _
  | .list ds, h => by
    have h := shown_szs ds (by simpa only [reprOk] using h)
    simp only [PyData.shown, szD]
    have := listText_len_le (PyData.shownAll ds)
    omega
  | .tuple ds, h => by
    have h := shown_szs ds (by simpa only [reprOk] using h)
    simp only [PyData.shown, szD]
    have := tupleText_len_le (PyData.shownAll ds)
    omega
  | .dict _, h => by simp [reprOk] at h
theorem shown_szs : ∀ ds : List D, reprOks ds = true → ((PyData.shownAll ds).map (·.length)).sum + 2 * (PyData.shownAll ds).length + 3 ≤ szDs ds
  | [], _ => by simp [PyData.shownAll, szDs]
  | d :: ds, h => by
    simp only [reprOks, Bool.and_eq_true] at h
    have h1 := shown_sz d h.1
    have h2 := shown_szs ds h.2
    simp only [PyData.shownAll, szDs, List.map_cons, List.sum_cons, List.length_cons]
    omega
end
theorem okShow_of {d : D} (h1 : reprOk d = true) (h2 : d.depth ≤ 100) (h3 : szD d ≤ 16777216) : okShow d = true := by
  unfold okShow
  have := shown_sz d h1
  rw [h1, decide_eq_true h2, decide_eq_true (by rw [sizeLine_eq]; omega)]
  rfl
theorem szDs_le {c : Nat} : ∀ {ds : List D}, (∀ d ∈ ds, szD d ≤ c) → szDs ds ≤ (c + 2) * ds.length + 3
  | [], _ => by simp [szDs]
  | d :: ds, h => by
    have h1 := h d List.mem_cons_self
    have h2 := szDs_le fun e he => h e (List.mem_cons_of_mem _ he)
    simp only [szDs, List.length_cons, Nat.mul_succ]
    omega
theorem reprOks_all : ∀ {ds : List D}, (∀ d ∈ ds, reprOk d = true) → reprOks ds = true
  | [], _ => rfl
  | d :: ds, h => by
    simp only [reprOks, h d List.mem_cons_self, reprOks_all fun e he => h e (List.mem_cons_of_mem _ he), Bool.and_self]
theorem depthAll_le {c : Nat} : ∀ {ds : List D}, (∀ d ∈ ds, d.depth ≤ c) → PyData.depthAll ds ≤ c
  | [], _ => Nat.zero_le _
  | d :: ds, h => by
    simp only [PyData.depthAll]
    have h1 := h d List.mem_cons_self
    have h2 := depthAll_le fun e he => h e (List.mem_cons_of_mem _ he)
    omega
theorem sz_int {i : Int} (h : -1000000000000000000 < i ∧ i < 1000000000000000000) : szD (.int i) ≤ 66 ∧ reprOk (.int i) = true := by
  have hl : i.natAbs.log2 < 64 := by
    by_cases h0 : i.natAbs = 0
    · rw [h0]; decide
    · exact (Nat.log2_lt h0).mpr (by omega)
  constructor
  · simp only [szD]; omega
  · simp only [reprOk, decide_eq_true_eq]; omega
/-! lists compared -/
theorem x_catL {a b : List D} (h : a.length + b.length ≤ 16777216) : fAdd (.sh (.list a)) (.sh (.list b)) = some (.ol (a ++ b)) := by
  have e : a.length + b.length ≤ sizeLine := by rw [sizeLine_eq]; exact h
  simp only [fAdd, f2I, fStrAdd, fCat, T.lits, e, if_true, Option.or]
theorem x_eqG {x y : D} (hx : SeqAt.shaped x = true) (hy : SeqAt.shaped y = true) (hf : fEqF (.sh x) (.sh y) = none) : fEq (.sh x) (.sh y) = some (.sh (.bool (eqD x y))) := by
  simp only [fEq, hf, fEqG, T.noScr, T.er, hx, hy, Bool.and_self, if_true, Option.or]
theorem eqD_refl {d : D} (h : d.canLay0 = true) : eqD d d = true := SeqAt.eqv_refl d h
theorem shaped_of {d : D} (h : d.canLay0 = true) (h2 : d.depth ≤ 64) : SeqAt.shaped d = true := by
  unfold SeqAt.shaped
  rw [h, decide_eq_true h2]; rfl
theorem layAll : ∀ {ds : List D}, (∀ d ∈ ds, d.canLay0 = true) → PyData.canLayAll0 ds = true
  | [], _ => rfl
  | d :: ds, h => by
    simp only [PyData.canLayAll0, h d List.mem_cons_self, layAll fun e he => h e (List.mem_cons_of_mem _ he), Bool.and_self]
/-! a table's item by a draw -/
theorem x_at2 {a b i : Int} (h0 : 0 ≤ i) (h1 : i < 2) : L2.atI [PyData.int a, .int b] i = some (.int (at_ [a, b] i)) := x_at (ns := [a, b]) h0 (by simpa using h1)
theorem x_at3 {a b c i : Int} (h0 : 0 ≤ i) (h1 : i < 3) : L2.atI [PyData.int a, .int b, .int c] i = some (.int (at_ [a, b, c] i)) := x_at (ns := [a, b, c]) h0 (by simpa using h1)
theorem x_at4 {a b c d i : Int} (h0 : 0 ≤ i) (h1 : i < 4) : L2.atI [PyData.int a, .int b, .int c, .int d] i = some (.int (at_ [a, b, c, d] i)) := x_at (ns := [a, b, c, d]) h0 (by simpa using h1)
theorem x_at5 {a b c d e i : Int} (h0 : 0 ≤ i) (h1 : i < 5) : L2.atI [PyData.int a, .int b, .int c, .int d, .int e] i = some (.int (at_ [a, b, c, d, e] i)) := x_at (ns := [a, b, c, d, e]) h0 (by simpa using h1)
theorem x_setL {ds : List D} {d : D} {k : Int} (h0 : 0 ≤ k) (h1 : k < (ds.length : Int)) : setT (.ol ds) k d = some (.ol (ds.set k.toNat d)) := by
  have e : L2.ixN ds.length k = some k.toNat := by
    unfold L2.ixN
    rw [if_pos h0, if_pos h1]
  simp only [setT, e, Option.map_some]
end PL
set_option Elab.async false
set_option linter.all false
set_option maxRecDepth 100000
set_option maxHeartbeats 4000000
namespace G
open PySem PySem.Spec L2 PL
def topS (i : Nat) : Stmt := PySem.Challenge.pw_piecesturned_k77_prices_by_tariffs_and_g.main.body.getD i (.Pass ⟨0, 0, 0, 0⟩)
abbrev FnP (K : PySem.W.Frag) (x : Str) (st : Stmt) (f : Addr) (fd : FuncData) : Prop := FunD K x x (defArgs st) (defBody st) (defScope st) [] [] f fd

/-! open_days -/
abbrev st_open_days : Stmt := topS 1
theorem sc_open_days : FnScope ["closed", "start", "stop", "day"] ["closed", "start", "stop"] (defScope st_open_days) := ⟨rfl, rfl, rfl, by decide +kernel, rfl, by decide +kernel, by decide +kernel⟩
def s_open_days : En → Out := (sSeq (sIf (evEB (evBin fLeI (evVar 2) (evVar 1))) (sRet (evC (.int 0))) sNil) (sShare 0 (sRet (evBin fSub (evSh (evBin fSub (evVar 2) (evVar 1))) (evSh (evC1 fLen (evCons (evSh (evComp (eiSeq (evVar 0)) [3] (egName 3) (evEB (evChain fLeI fLtI (evVar 1) (evVar 3) (evVar 2))) (evEsc (evVar 3)))) evNil)))))))
def d_open_days : List T → Rs T := fnD 3 1 s_open_days
theorem ok_open_days {P : Program} {w : World} {K : PySem.W.Frag} {mg : Str → Option Value} {base : Heap} {f : Addr} {fd : FuncData} (F : FnP K "open_days" st_open_days f fd) (m_len : mg "len" = none) :
    FnOk P w K mg base (L2.CX P w) 1 f fd ["closed", "start", "stop"] (spD K mg 3 d_open_days) := by
  have nd := (sc_open_days).nd
  exact fn_ok (k := 0) (m := 1) F sc_open_days rfl rfl fun cdv A outer s H Q E hr => ⟨_, _, (dss_cons (ds_if (dt_cmp op_le sem_B0 (dv_var 2) (dv_var 1) (nomark _)) (dss_one (ds_ret de_int)) dss_nil) (dss_one (ds_share 0 (ds_ret (de_op op_sub sem_I0 (dv_of (de_op op_sub sem_I0 (dv_var 2) (dv_var 1))) (dv_of (de_callB (cr_lenK (K := K)) sem_len (by rfl) m_len (by decide +kernel) (das_cons (dv_of (de_lc (own := [("day", 3)]) [3] (by rfl) nd (di_seqK (K := K) (dv_var 0)) (blkOk_by (by kernel_rfl)) (fun _ _ _ _ _ => (dg_name 3 nd)) (fun _ _ _ _ _ => (dts_one (dt_chain op_le sem_B0 op_lt sem_B0 (dv_var 1) (dv_var 3) (dv_var 2)))) (fun _ _ _ _ _ => (de_esc (dv_var 3))))) das_nil))))))))⟩

/-! away_days -/
abbrev st_away_days : Stmt := topS 4
theorem sc_away_days : FnScope ["closed", "visit", "begin", "day", "brought", "back", "stop"] ["closed", "visit", "begin", "day"] (defScope st_away_days) := ⟨rfl, rfl, rfl, by decide +kernel, rfl, by decide +kernel, by decide +kernel⟩
def s_away_days : En → Out := (sSeq (sShare 1 (sUnp [4, 5] [] (evEsc (evVar 1)))) (sSeq (sShare 3 (sSet 6 [] (evSh (evIf (evEB (evBin fIsN (evVar 5) (evSh (evC .none)))) (evEsc (evVar 3)) (evC1 fMin (evCons (evVar 3) (evCons (evVar 5) evNil))))))) (sShare 6 (sShare 0 (sRet (evCall 3 d_open_days (evCons (evVar 0) (evCons (evSh (evC1 fMax (evCons (evVar 2) (evCons (evVar 4) evNil)))) (evCons (evVar 6) evNil)))))))))
def d_away_days : List T → Rs T := fnD 4 3 s_away_days
theorem ok_away_days {P : Program} {w : World} {K : PySem.W.Frag} {mg : Str → Option Value} {base : Heap} {f : Addr} {fd : FuncData} (F : FnP K "away_days" st_away_days f fd) {f_open_days : Addr} {fd_open_days : FuncData} (G_open_days : FnOk P w K mg base (L2.CX P w) 1 f_open_days fd_open_days ["closed", "start", "stop"] (spD K mg 3 d_open_days)) (g_open_days : mg "open_days" = some (.ref f_open_days)) (k_open_days : PySem.W.keepIn K (.ref f_open_days) = true) (b_open_days : Binds K fd_open_days ["closed", "start", "stop"] []) (m_max : mg "max" = none) (m_min : mg "min" = none) :
    FnOk P w K mg base (L2.CX P w) 2 f fd ["closed", "visit", "begin", "day"] (spD K mg 4 d_away_days) := by
  have nd := (sc_away_days).nd
  exact fn_ok (k := 1) (m := 3) F sc_away_days rfl rfl fun cdv A outer s H Q E hr => ⟨_, _, (dss_cons (ds_share 1 (ds_unp (by rfl) (dn_cons 4 nd (dn_cons 5 nd dn_nil)) (de_esc (dv_var 1)))) (dss_cons (ds_share 3 (ds_set 6 nd (de_sh (de_if (dt_cmp op_isN sem_isN (dv_var 5) (dv_of de_non) (nomark _)) (de_esc (dv_var 3)) (de_callB (cr_minK (K := K) (by rfl)) sem_min (by rfl) m_min (by decide +kernel) (das_cons (dv_var 3) (das_cons (dv_var 5) das_nil))))))) (dss_one (ds_share 6 (ds_share 0 (ds_ret (de_callK (K := K) (mg := mg) G_open_days (hr.mono (by omega)) (takes_of (by rfl) (by rfl) (by rfl) (by rfl)) (by rfl) g_open_days k_open_days b_open_days (das_cons (dv_var 0) (das_cons (dv_of (de_callB (cr_maxK (K := K) (by rfl)) sem_max (by rfl) m_max (by decide +kernel) (das_cons (dv_var 2) (das_cons (dv_var 4) das_nil)))) (das_cons (dv_var 6) das_nil))))))))))⟩

/-! counted -/
abbrev st_counted : Stmt := topS 5
theorem sc_counted : FnScope ["closed", "begin", "visits", "day", "visit"] ["closed", "begin", "visits", "day"] (defScope st_counted) := ⟨rfl, rfl, rfl, by decide +kernel, rfl, by decide +kernel, by decide +kernel⟩
def s_counted : En → Out := (sShare 2 (sShare 3 (sShare 1 (sShare 0 (sRet (evBin fSub (evSh (evCall 3 d_open_days (evCons (evVar 0) (evCons (evVar 1) (evCons (evVar 3) evNil))))) (evSh (evC1 fSum (evCons (evSh (evComp (eiSeq (evVar 2)) [4] (egName 4) evYes (evCall 4 d_away_days (evCons (evVar 0) (evCons (evVar 4) (evCons (evVar 1) (evCons (evVar 3) evNil))))))) evNil)))))))))
def d_counted : List T → Rs T := fnD 4 1 s_counted
theorem ok_counted {P : Program} {w : World} {K : PySem.W.Frag} {mg : Str → Option Value} {base : Heap} {f : Addr} {fd : FuncData} (F : FnP K "counted" st_counted f fd) {f_away_days : Addr} {fd_away_days : FuncData} (G_away_days : FnOk P w K mg base (L2.CX P w) 2 f_away_days fd_away_days ["closed", "visit", "begin", "day"] (spD K mg 4 d_away_days)) (g_away_days : mg "away_days" = some (.ref f_away_days)) (k_away_days : PySem.W.keepIn K (.ref f_away_days) = true) (b_away_days : Binds K fd_away_days ["closed", "visit", "begin", "day"] []) {f_open_days : Addr} {fd_open_days : FuncData} (G_open_days : FnOk P w K mg base (L2.CX P w) 1 f_open_days fd_open_days ["closed", "start", "stop"] (spD K mg 3 d_open_days)) (g_open_days : mg "open_days" = some (.ref f_open_days)) (k_open_days : PySem.W.keepIn K (.ref f_open_days) = true) (b_open_days : Binds K fd_open_days ["closed", "start", "stop"] []) (m_sum : mg "sum" = none) :
    FnOk P w K mg base (L2.CX P w) 3 f fd ["closed", "begin", "visits", "day"] (spD K mg 4 d_counted) := by
  have nd := (sc_counted).nd
  exact fn_ok (k := 2) (m := 1) F sc_counted rfl rfl fun cdv A outer s H Q E hr => ⟨_, _, (dss_one (ds_share 2 (ds_share 3 (ds_share 1 (ds_share 0 (ds_ret (de_op op_sub sem_I0 (dv_of (de_callK (K := K) (mg := mg) G_open_days (hr.mono (by omega)) (takes_of (by rfl) (by rfl) (by rfl) (by rfl)) (by rfl) g_open_days k_open_days b_open_days (das_cons (dv_var 0) (das_cons (dv_var 1) (das_cons (dv_var 3) das_nil))))) (dv_of (de_callB (cr_sumK (K := K) (by rfl)) sem_sum (by rfl) m_sum (by decide +kernel) (das_cons (dv_of (de_lc (own := [("visit", 4)]) [4] (by rfl) nd (di_seqK (K := K) (dv_var 2)) (blkOk_by (by kernel_rfl)) (fun _ _ _ _ _ => (dg_name 4 nd)) (fun _ _ _ _ _ => dts_nil) (fun _ _ _ _ _ => (de_callK (K := K) (mg := mg) G_away_days (hr.mono (by omega)) takes0 (by rfl) g_away_days k_away_days b_away_days (das_cons (dv_var 0) (das_cons (dv_var 4) (das_cons (dv_var 1) (das_cons (dv_var 3) das_nil)))))))) das_nil))))))))))⟩

/-! holds_on -/
abbrev st_holds_on : Stmt := topS 6
theorem sc_holds_on : FnScope ["closed", "days", "begin", "visits", "day"] ["closed", "days", "begin", "visits", "day"] (defScope st_holds_on) := ⟨rfl, rfl, rfl, by decide +kernel, rfl, by decide +kernel, by decide +kernel⟩
def s_holds_on : En → Out := (sShare 4 (sShare 3 (sShare 2 (sShare 0 (sRet (evBin fLtI (evSh (evCall 4 d_counted (evCons (evVar 0) (evCons (evVar 2) (evCons (evVar 3) (evCons (evVar 4) evNil)))))) (evVar 1)))))))
def d_holds_on : List T → Rs T := fnD 5 0 s_holds_on
theorem ok_holds_on {P : Program} {w : World} {K : PySem.W.Frag} {mg : Str → Option Value} {base : Heap} {f : Addr} {fd : FuncData} (F : FnP K "holds_on" st_holds_on f fd) {f_counted : Addr} {fd_counted : FuncData} (G_counted : FnOk P w K mg base (L2.CX P w) 3 f_counted fd_counted ["closed", "begin", "visits", "day"] (spD K mg 4 d_counted)) (g_counted : mg "counted" = some (.ref f_counted)) (k_counted : PySem.W.keepIn K (.ref f_counted) = true) (b_counted : Binds K fd_counted ["closed", "begin", "visits", "day"] []) :
    FnOk P w K mg base (L2.CX P w) 4 f fd ["closed", "days", "begin", "visits", "day"] (spD K mg 5 d_holds_on) := by
  have nd := (sc_holds_on).nd
  exact fn_ok (k := 3) (m := 0) F sc_holds_on rfl rfl fun cdv A outer s H Q E hr => ⟨_, _, (dss_one (ds_share 4 (ds_share 3 (ds_share 2 (ds_share 0 (ds_ret (de_cmp op_lt sem_B0 (dv_of (de_callK (K := K) (mg := mg) G_counted (hr.mono (by omega)) (takes_of (by rfl) (by rfl) (by rfl) (by rfl)) (by rfl) g_counted k_counted b_counted (das_cons (dv_var 0) (das_cons (dv_var 2) (das_cons (dv_var 3) (das_cons (dv_var 4) das_nil)))))) (dv_var 1) (nomark _))))))))⟩

/-! end_of -/
abbrev st_end_of : Stmt := topS 7
theorem sc_end_of : FnScope ["closed", "days", "begin", "visits", "high", "low", "day"] ["closed", "days", "begin", "visits"] (defScope st_end_of) := ⟨rfl, rfl, rfl, by decide +kernel, rfl, by decide +kernel, by decide +kernel⟩
def s_end_of : En → Out := (sSeq (sSet 4 [] (evSh (evC (.int 10400)))) (sSeq (sIf (evAnd (evTru (evVar 3)) (evEB (evBin fIsN (evBin fIx (evBin fIx (evVar 3) (evSh (evUn fNeg (evSh (evC (.int 1)))))) (evSh (evC (.int 1)))) (evSh (evC .none))))) (sSet 4 [] (evSh (evEsc (evBin fIx (evBin fIx (evVar 3) (evSh (evUn fNeg (evSh (evC (.int 1)))))) (evSh (evC (.int 0))))))) sNil) (sSeq (sShare 4 (sShare 3 (sShare 2 (sShare 1 (sShare 0 (sIf (evTru (evSh (evCall 5 d_holds_on (evCons (evVar 0) (evCons (evVar 1) (evCons (evVar 2) (evCons (evVar 3) (evCons (evVar 4) evNil)))))))) (sRet (evC .none)) sNil)))))) (sSeq (sShare 2 (sSet 5 [] (evEsc (evVar 2)))) (sSeq (sWhile (evEB (evBin fLtI (evVar 5) (evVar 4))) (sSeq (sSet 6 [] (evSh (evBin fDiv (evSh (evBin fAdd (evVar 5) (evVar 4))) (evSh (evC (.int 2)))))) (sShare 6 (sShare 3 (sShare 2 (sShare 1 (sShare 0 (sIf (evTru (evSh (evCall 5 d_holds_on (evCons (evVar 0) (evCons (evVar 1) (evCons (evVar 2) (evCons (evVar 3) (evCons (evVar 6) evNil)))))))) (sSet 5 [] (evBin fAdd (evVar 6) (evSh (evC (.int 1))))) (sShare 6 (sSet 4 [] (evSh (evEsc (evVar 6))))))))))))) (sRet (evVar 5)))))))
def d_end_of : List T → Rs T := fnD 4 3 s_end_of
theorem ok_end_of {P : Program} {w : World} {K : PySem.W.Frag} {mg : Str → Option Value} {base : Heap} {f : Addr} {fd : FuncData} (F : FnP K "end_of" st_end_of f fd) {f_holds_on : Addr} {fd_holds_on : FuncData} (G_holds_on : FnOk P w K mg base (L2.CX P w) 4 f_holds_on fd_holds_on ["closed", "days", "begin", "visits", "day"] (spD K mg 5 d_holds_on)) (g_holds_on : mg "holds_on" = some (.ref f_holds_on)) (k_holds_on : PySem.W.keepIn K (.ref f_holds_on) = true) (b_holds_on : Binds K fd_holds_on ["closed", "days", "begin", "visits", "day"] []) (g_BEYOND : ∃ t, mg "BEYOND" = some (.int 10400 t)) :
    FnOk P w K mg base (L2.CX P w) 5 f fd ["closed", "days", "begin", "visits"] (spD K mg 4 d_end_of) := by
  have nd := (sc_end_of).nd
  exact fn_ok (k := 4) (m := 3) F sc_end_of rfl rfl fun cdv A outer s H Q E hr => ⟨_, _, (dss_cons (ds_set 4 nd (de_sh (de_gI g_BEYOND))) (dss_cons (ds_if (dt_bool (dw_and (dt_truK (K := K) (dv_var 3)) (dw_and1 (dt_cmp op_isN sem_isN (dv_ixK (K := K) (dv_ixK (K := K) (dv_var 3) (dv_of (de_neg (dv_of de_int)))) (dv_of de_int)) (dv_of de_non) (nomark _))))) (dss_one (ds_set 4 nd (de_sh (de_esc (dv_ixK (K := K) (dv_ixK (K := K) (dv_var 3) (dv_of (de_neg (dv_of de_int)))) (dv_of de_int)))))) dss_nil) (dss_cons (ds_share 4 (ds_share 3 (ds_share 2 (ds_share 1 (ds_share 0 (ds_if (dt_truK (K := K) (dv_of (de_callK (K := K) (mg := mg) G_holds_on (hr.mono (by omega)) (takes_of (by rfl) (by rfl) (by rfl) (by rfl)) (by rfl) g_holds_on k_holds_on b_holds_on (das_cons (dv_var 0) (das_cons (dv_var 1) (das_cons (dv_var 2) (das_cons (dv_var 3) (das_cons (dv_var 4) das_nil)))))))) (dss_one (ds_ret de_non)) dss_nil)))))) (dss_cons (ds_share 2 (ds_set 5 nd (de_esc (dv_var 2)))) (dss_cons (ds_while (passes_of (by rfl)) (dt_cmp op_lt sem_B0 (dv_var 5) (dv_var 4) (nomark _)) (dss_cons (ds_set 6 nd (de_sh (de_op op_fdivW sem_div (dv_of (de_op (op_plusK (K := K)) sem_add (dv_var 5) (dv_var 4))) (dv_of de_int)))) (dss_one (ds_share 6 (ds_share 3 (ds_share 2 (ds_share 1 (ds_share 0 (ds_if (dt_truK (K := K) (dv_of (de_callK (K := K) (mg := mg) G_holds_on (hr.mono (by omega)) (takes_of (by rfl) (by rfl) (by rfl) (by rfl)) (by rfl) g_holds_on k_holds_on b_holds_on (das_cons (dv_var 0) (das_cons (dv_var 1) (das_cons (dv_var 2) (das_cons (dv_var 3) (das_cons (dv_var 6) das_nil)))))))) (dss_one (ds_set 5 nd (de_op (op_plusK (K := K)) sem_add (dv_var 6) (dv_of de_int)))) (dss_one (ds_share 6 (ds_set 4 nd (de_sh (de_esc (dv_var 6))))))))))))))) (dss_one (ds_ret (de_mov 5))))))))⟩

/-! free_visits -/
abbrev st_free_visits : Stmt := topS 8
theorem sc_free_visits : FnScope ["closed", "days", "begin", "visits", "brought", "_"] ["closed", "days", "begin", "visits"] (defScope st_free_visits) := ⟨rfl, rfl, rfl, by decide +kernel, rfl, by decide +kernel, by decide +kernel⟩
def s_free_visits : En → Out := (sShare 2 (sShare 1 (sShare 0 (sShare 3 (sRet (evComp (eiSeq (evVar 3)) [4, 5] (egTup 2 (egCons (egName 4) (egCons (egName 5) egNil))) evYes (evCall 5 d_holds_on (evCons (evVar 0) (evCons (evVar 1) (evCons (evVar 2) (evCons (evVar 3) (evCons (evVar 4) evNil))))))))))))
def d_free_visits : List T → Rs T := fnD 4 2 s_free_visits
theorem ok_free_visits {P : Program} {w : World} {K : PySem.W.Frag} {mg : Str → Option Value} {base : Heap} {f : Addr} {fd : FuncData} (F : FnP K "free_visits" st_free_visits f fd) {f_holds_on : Addr} {fd_holds_on : FuncData} (G_holds_on : FnOk P w K mg base (L2.CX P w) 4 f_holds_on fd_holds_on ["closed", "days", "begin", "visits", "day"] (spD K mg 5 d_holds_on)) (g_holds_on : mg "holds_on" = some (.ref f_holds_on)) (k_holds_on : PySem.W.keepIn K (.ref f_holds_on) = true) (b_holds_on : Binds K fd_holds_on ["closed", "days", "begin", "visits", "day"] []) :
    FnOk P w K mg base (L2.CX P w) 5 f fd ["closed", "days", "begin", "visits"] (spD K mg 4 d_free_visits) := by
  have nd := (sc_free_visits).nd
  exact fn_ok (k := 4) (m := 2) F sc_free_visits rfl rfl fun cdv A outer s H Q E hr => ⟨_, _, (dss_one (ds_share 2 (ds_share 1 (ds_share 0 (ds_share 3 (ds_ret (de_lc (own := [("brought", 4), ("_", 5)]) [4, 5] (by rfl) nd (di_seqK (K := K) (dv_var 3)) (blkOk_by (by kernel_rfl)) (fun _ _ _ _ _ => (dg_tupK (K := K) (by rfl) (dgs_cons (dg_name 4 nd) (dgs_cons (dg_name 5 nd) dgs_nil)))) (fun _ _ _ _ _ => dts_nil) (fun _ _ _ _ _ => (de_callK (K := K) (mg := mg) G_holds_on (hr.mono (by omega)) takes0 (by rfl) g_holds_on k_holds_on b_holds_on (das_cons (dv_var 0) (das_cons (dv_var 1) (das_cons (dv_var 2) (das_cons (dv_var 3) (das_cons (dv_var 4) das_nil))))))))))))))⟩

/-! price_of -/
abbrev st_price_of : Stmt := topS 11
theorem sc_price_of : FnScope ["tariff", "count", "total", "k", "number", "cents", "last"] ["tariff", "count"] (defScope st_price_of) := ⟨rfl, rfl, rfl, by decide +kernel, rfl, by decide +kernel, by decide +kernel⟩
def s_price_of : En → Out := (sSeq (sSet 2 [] (evC (.int 0))) (sSeq (sShare 0 (sFor (eiEnum (evCons (evVar 0) evNil)) (egTup 2 (egCons (egName 3) (egCons (egTup 2 (egCons (egName 4) (egCons (egName 5) egNil))) egNil))) (sSeq (sShare 1 (sSet 6 [] (evSh (evEsc (evVar 1))))) (sSeq (sIf (evEB (evBin fLtI (evSh (evBin fAdd (evVar 3) (evSh (evC (.int 1))))) (evSh (evC1 fLen (evCons (evVar 0) evNil))))) (sSet 6 [] (evSh (evC1 fMin (evCons (evVar 1) (evCons (evSh (evBin fSub (evBin fIx (evBin fIx (evVar 0) (evSh (evBin fAdd (evVar 3) (evSh (evC (.int 1)))))) (evSh (evC (.int 0)))) (evSh (evC (.int 1))))) evNil))))) sNil) (sSet 2 [] (evBin fIAdd (evVar 2) (evSh (evBin fMul (evSh (evC1 fMax (evCons (evSh (evC (.int 0))) (evCons (evSh (evBin fAdd (evSh (evBin fSub (evVar 6) (evVar 4))) (evSh (evC (.int 1))))) evNil)))) (evVar 5))))))))) (sRet (evVar 2))))
def d_price_of : List T → Rs T := fnD 2 5 s_price_of
theorem ok_price_of {P : Program} {w : World} {K : PySem.W.Frag} {mg : Str → Option Value} {base : Heap} {f : Addr} {fd : FuncData} (F : FnP K "price_of" st_price_of f fd) (m_enumerate : mg "enumerate" = none) (m_len : mg "len" = none) (m_max : mg "max" = none) (m_min : mg "min" = none) :
    FnOk P w K mg base (L2.CX P w) 1 f fd ["tariff", "count"] (spD K mg 2 d_price_of) := by
  have nd := (sc_price_of).nd
  exact fn_ok (k := 0) (m := 5) F sc_price_of rfl rfl fun cdv A outer s H Q E hr => ⟨_, _, (dss_cons (ds_set 2 nd de_int) (dss_cons (ds_share 0 (ds_for (passes_of (by rfl)) (by rfl) (di_enum (K := K) (by rfl) m_enumerate (das_cons (dv_var 0) das_nil)) (dg_tupP (K := K) (by rfl) (dgs_cons (dg_name 3 nd) (dgs_cons (dg_tupK (K := K) (by rfl) (dgs_cons (dg_name 4 nd) (dgs_cons (dg_name 5 nd) dgs_nil))) dgs_nil))) (dss_cons (ds_share 1 (ds_set 6 nd (de_sh (de_esc (dv_var 1))))) (dss_cons (ds_if (dt_cmp op_lt sem_B0 (dv_of (de_op (op_plusK (K := K)) sem_add (dv_var 3) (dv_of de_int))) (dv_of (de_callB (cr_lenK (K := K)) sem_len (by rfl) m_len (by decide +kernel) (das_cons (dv_var 0) das_nil))) (nomark _)) (dss_one (ds_set 6 nd (de_sh (de_callB (cr_minK (K := K) (by rfl)) sem_min (by rfl) m_min (by decide +kernel) (das_cons (dv_var 1) (das_cons (dv_of (de_op op_sub sem_I0 (dv_ixK (K := K) (dv_ixK (K := K) (dv_var 0) (dv_of (de_op (op_plusK (K := K)) sem_add (dv_var 3) (dv_of de_int)))) (dv_of de_int)) (dv_of de_int))) das_nil)))))) dss_nil) (dss_one (ds_aug 2 nd iop_plus sem_iadd (dv_of (de_op op_times sem_mul (dv_of (de_callB (cr_maxK (K := K) (by rfl)) sem_max (by rfl) m_max (by decide +kernel) (das_cons (dv_of de_int) (das_cons (dv_of (de_op (op_plusK (K := K)) sem_add (dv_of (de_op op_sub sem_I0 (dv_var 6) (dv_var 4))) (dv_of de_int))) das_nil)))) (dv_var 5))))))))) (dss_one (ds_ret (de_mov 2)))))⟩

/-! most_for -/
abbrev st_most_for : Stmt := topS 12
theorem sc_most_for : FnScope ["tariff", "money", "low", "high", "count"] ["tariff", "money"] (defScope st_most_for) := ⟨rfl, rfl, rfl, by decide +kernel, rfl, by decide +kernel, by decide +kernel⟩
def s_most_for : En → Out := (sSeq (sSet 2 [] (evC (.int 0))) (sSeq (sSet 3 [] (evSh (evC (.int 1000000000)))) (sSeq (sWhile (evEB (evBin fLtI (evVar 2) (evVar 3))) (sSeq (sSet 4 [] (evSh (evBin fDiv (evSh (evBin fAdd (evSh (evBin fAdd (evVar 2) (evVar 3))) (evSh (evC (.int 1))))) (evSh (evC (.int 2)))))) (sShare 4 (sShare 0 (sIf (evEB (evBin fLeI (evSh (evCall 2 d_price_of (evCons (evVar 0) (evCons (evVar 4) evNil)))) (evVar 1))) (sShare 4 (sSet 2 [] (evEsc (evVar 4)))) (sSet 3 [] (evSh (evBin fSub (evVar 4) (evSh (evC (.int 1))))))))))) (sRet (evVar 2)))))
def d_most_for : List T → Rs T := fnD 2 3 s_most_for
theorem ok_most_for {P : Program} {w : World} {K : PySem.W.Frag} {mg : Str → Option Value} {base : Heap} {f : Addr} {fd : FuncData} (F : FnP K "most_for" st_most_for f fd) {f_price_of : Addr} {fd_price_of : FuncData} (G_price_of : FnOk P w K mg base (L2.CX P w) 1 f_price_of fd_price_of ["tariff", "count"] (spD K mg 2 d_price_of)) (g_price_of : mg "price_of" = some (.ref f_price_of)) (k_price_of : PySem.W.keepIn K (.ref f_price_of) = true) (b_price_of : Binds K fd_price_of ["tariff", "count"] []) (g_MOST_THINGS : ∃ t, mg "MOST_THINGS" = some (.int 1000000000 t)) :
    FnOk P w K mg base (L2.CX P w) 2 f fd ["tariff", "money"] (spD K mg 2 d_most_for) := by
  have nd := (sc_most_for).nd
  exact fn_ok (k := 1) (m := 3) F sc_most_for rfl rfl fun cdv A outer s H Q E hr => ⟨_, _, (dss_cons (ds_set 2 nd de_int) (dss_cons (ds_set 3 nd (de_sh (de_gI g_MOST_THINGS))) (dss_cons (ds_while (passes_of (by rfl)) (dt_cmp op_lt sem_B0 (dv_var 2) (dv_var 3) (nomark _)) (dss_cons (ds_set 4 nd (de_sh (de_op op_fdivW sem_div (dv_of (de_op (op_plusK (K := K)) sem_add (dv_of (de_op (op_plusK (K := K)) sem_add (dv_var 2) (dv_var 3))) (dv_of de_int))) (dv_of de_int)))) (dss_one (ds_share 4 (ds_share 0 (ds_if (dt_cmp op_le sem_B0 (dv_of (de_callK (K := K) (mg := mg) G_price_of (hr.mono (by omega)) (takes_of (by rfl) (by rfl) (by rfl) (by rfl)) (by rfl) g_price_of k_price_of b_price_of (das_cons (dv_var 0) (das_cons (dv_var 4) das_nil)))) (dv_var 1) (nomark _)) (dss_one (ds_share 4 (ds_set 2 nd (de_esc (dv_var 4))))) (dss_one (ds_set 3 nd (de_sh (de_op op_sub sem_I0 (dv_var 4) (dv_of de_int))))))))))) (dss_one (ds_ret (de_mov 2))))))⟩

/-! _law_cell -/
abbrev st__law_cell : Stmt := topS 14
theorem sc__law_cell : FnScope ["script", "k"] ["script", "k"] (defScope st__law_cell) := ⟨rfl, rfl, rfl, by decide +kernel, rfl, by decide +kernel, by decide +kernel⟩
def s__law_cell : En → Out := (sSeq (sIf (evEB (evBin fLtI (evVar 1) (evSh (evC1 fLen (evCons (evVar 0) evNil))))) (sRet (evC1 fInt1 (evCons (evBin fIx (evVar 0) (evVar 1)) evNil))) sNil) (sRet (evC (.int 0))))
def d__law_cell : List T → Rs T := fnD 2 0 s__law_cell
theorem ok__law_cell {P : Program} {w : World} {K : PySem.W.Frag} {mg : Str → Option Value} {base : Heap} {f : Addr} {fd : FuncData} (F : FnP K "_law_cell" st__law_cell f fd) (m_int : mg "int" = none) (m_len : mg "len" = none) :
    FnOk P w K mg base (L2.CX P w) 1 f fd ["script", "k"] (spD K mg 2 d__law_cell) := by
  have nd := (sc__law_cell).nd
  exact fn_ok (k := 0) (m := 0) F sc__law_cell rfl rfl fun cdv A outer s H Q E hr => ⟨_, _, (dss_cons (ds_if (dt_cmp op_lt sem_B0 (dv_var 1) (dv_of (de_callB (cr_lenK (K := K)) sem_len (by rfl) m_len (by decide +kernel) (das_cons (dv_var 0) das_nil))) (nomark _)) (dss_one (ds_ret (de_callTy call_int1 sem_int1 (by rfl) m_int (by decide +kernel) (das_cons (dv_ixK (K := K) (dv_var 0) (dv_var 1)) das_nil)))) dss_nil) (dss_one (ds_ret de_int)))⟩

/-! _law_numbers -/
abbrev st__law_numbers : Stmt := topS 15
theorem sc__law_numbers : FnScope ["cell", "count", "limit", "found", "k", "mixed"] ["cell", "count", "limit"] (defScope st__law_numbers) := ⟨rfl, rfl, rfl, by decide +kernel, rfl, by decide +kernel, by decide +kernel⟩
def s__law_numbers : En → Out := (sSeq (sSet 3 [] (evLst evNil)) (sSeq (sIf (evEB (evBin fGeI (evVar 0) (evSh (evBin fPow (evSh (evC (.int 10))) (evSh (evC (.int 18))))))) (sSeq (sFor (eiRng1 (evCons (evVar 1) evNil)) (egName 4) (sSeq (sApp 3 [] (evBin fMod (evSh (evC1 fInt1 (evCons (evVar 0) evNil))) (evVar 2))) (sSet 0 [] (evSh (evBin fDiv (evSh (evC1 fInt1 (evCons (evVar 0) evNil))) (evVar 2)))))) (sRet (evVar 3))) sNil) (sSeq (sFor (eiRng1 (evCons (evVar 1) evNil)) (egName 4) (sSeq (sSet 5 [] (evSh (evBin fMod (evSh (evC1 fInt1 (evCons (evSh (evBin fAdd (evSh (evBin fAdd (evSh (evBin fMul (evVar 0) (evSh (evC (.int 48271))))) (evSh (evBin fMul (evVar 4) (evSh (evC (.int 69621))))))) (evSh (evC (.int 7))))) evNil))) (evSh (evC (.int 2147483647)))))) (sSeq (sSet 5 [] (evSh (evBin fMod (evSh (evC1 fInt1 (evCons (evSh (evBin fAdd (evSh (evBin fAdd (evSh (evBin fAdd (evSh (evBin fMul (evVar 5) (evVar 5))) (evSh (evBin fMul (evVar 5) (evSh (evC (.int 40692))))))) (evSh (evBin fMul (evVar 4) (evSh (evC (.int 16807))))))) (evSh (evC (.int 11))))) evNil))) (evSh (evC (.int 2147483399)))))) (sApp 3 [] (evBin fMod (evSh (evC1 fInt1 (evCons (evSh (evBin fDiv (evVar 5) (evSh (evC (.int 32))))) evNil))) (evVar 2)))))) (sRet (evVar 3)))))
def d__law_numbers : List T → Rs T := fnD 3 3 s__law_numbers
theorem ok__law_numbers {P : Program} {w : World} {K : PySem.W.Frag} {mg : Str → Option Value} {base : Heap} {f : Addr} {fd : FuncData} (F : FnP K "_law_numbers" st__law_numbers f fd) (m_int : mg "int" = none) (m_range : mg "range" = none) :
    FnOk P w K mg base (L2.CX P w) 1 f fd ["cell", "count", "limit"] (spD K mg 3 d__law_numbers) := by
  have nd := (sc__law_numbers).nd
  exact fn_ok (k := 0) (m := 3) F sc__law_numbers rfl rfl fun cdv A outer s H Q E hr => ⟨_, _, (dss_cons (ds_set 3 nd (de_list dae_nil)) (dss_cons (ds_if (dt_cmp op_ge sem_B0 (dv_var 0) (dv_of (de_op op_pow sem_pow (dv_of de_int) (dv_of de_int))) (nomark _)) (dss_cons (ds_for (passes_of (by rfl)) (by rfl) (di_range1 (by rfl) m_range (das_cons (dv_var 1) das_nil)) (dg_name 4 nd) (dss_cons (ds_app 3 (de_op op_mod sem_mod (dv_of (de_callTy call_int1 sem_int1 (by rfl) m_int (by decide +kernel) (das_cons (dv_var 0) das_nil))) (dv_var 2))) (dss_one (ds_set 0 nd (de_sh (de_op op_fdivW sem_div (dv_of (de_callTy call_int1 sem_int1 (by rfl) m_int (by decide +kernel) (das_cons (dv_var 0) das_nil))) (dv_var 2))))))) (dss_one (ds_ret (de_mov 3)))) dss_nil) (dss_cons (ds_for (passes_of (by rfl)) (by rfl) (di_range1 (by rfl) m_range (das_cons (dv_var 1) das_nil)) (dg_name 4 nd) (dss_cons (ds_set 5 nd (de_sh (de_op op_mod sem_mod (dv_of (de_callTy call_int1 sem_int1 (by rfl) m_int (by decide +kernel) (das_cons (dv_of (de_op (op_plusK (K := K)) sem_add (dv_of (de_op (op_plusK (K := K)) sem_add (dv_of (de_op op_times sem_mul (dv_var 0) (dv_of de_int))) (dv_of (de_op op_times sem_mul (dv_var 4) (dv_of de_int))))) (dv_of de_int))) das_nil))) (dv_of de_int)))) (dss_cons (ds_set 5 nd (de_sh (de_op op_mod sem_mod (dv_of (de_callTy call_int1 sem_int1 (by rfl) m_int (by decide +kernel) (das_cons (dv_of (de_op (op_plusK (K := K)) sem_add (dv_of (de_op (op_plusK (K := K)) sem_add (dv_of (de_op (op_plusK (K := K)) sem_add (dv_of (de_op op_times sem_mul (dv_var 5) (dv_var 5))) (dv_of (de_op op_times sem_mul (dv_var 5) (dv_of de_int))))) (dv_of (de_op op_times sem_mul (dv_var 4) (dv_of de_int))))) (dv_of de_int))) das_nil))) (dv_of de_int)))) (dss_one (ds_app 3 (de_op op_mod sem_mod (dv_of (de_callTy call_int1 sem_int1 (by rfl) m_int (by decide +kernel) (das_cons (dv_of (de_op op_fdivW sem_div (dv_var 5) (dv_of de_int))) das_nil))) (dv_var 2))))))) (dss_one (ds_ret (de_mov 3))))))⟩

/-! _law_same -/
abbrev st__law_same : Stmt := topS 16
theorem sc__law_same : FnScope ["told", "due", "k"] ["told", "due"] (defScope st__law_same) := ⟨rfl, rfl, rfl, by decide +kernel, rfl, by decide +kernel, by decide +kernel⟩
def s__law_same (rec : List T → Rs T) : En → Out := (sSeq (sIf (evTru (evSh (evIsi "list" (evVar 1)))) (sIf (evOr (evNot (evTru (evSh (evIsi "list" (evVar 0))))) (evEB (evBin fNe (evSh (evC1 fLen (evCons (evVar 0) evNil))) (evSh (evC1 fLen (evCons (evVar 1) evNil)))))) (sRet (evC (.bool false))) sNil) (sIf (evTru (evSh (evIsi "tuple" (evVar 1)))) (sIf (evOr (evNot (evTru (evSh (evIsi "tuple" (evVar 0))))) (evEB (evBin fNe (evSh (evC1 fLen (evCons (evVar 0) evNil))) (evSh (evC1 fLen (evCons (evVar 1) evNil)))))) (sRet (evC (.bool false))) sNil) (sIf (evEB (evBin fIsN (evVar 1) (evSh (evC .none)))) (sRet (evBin fIsN (evVar 0) (evSh (evC .none)))) (sIf (evTru (evSh (evIsi "bool" (evVar 1)))) (sRet (evAndV (evSh (evIsi "bool" (evVar 0))) (evBin fEq (evVar 0) (evVar 1)))) (sIf (evTru (evSh (evIsi "int" (evVar 1)))) (sRet (evAndV (evSh (evIsi "int" (evVar 0))) (evAndV (evSh (evNotV (evSh (evIsi "bool" (evVar 0))))) (evBin fEq (evVar 0) (evVar 1))))) (sRet (evAndV (evSh (evIsi "str" (evVar 0))) (evBin fEq (evVar 0) (evVar 1))))))))) (sSeq (sFor (eiRng1 (evCons (evSh (evC1 fLen (evCons (evVar 1) evNil))) evNil)) (egName 2) (sIf (evNot (evTru (evSh (evCall 2 rec (evCons (evBin fIx (evVar 0) (evVar 2)) (evCons (evBin fIx (evVar 1) (evVar 2)) evNil)))))) (sRet (evC (.bool false))) sNil)) (sRet (evC (.bool true)))))
def d__law_same : Nat → List T → Rs T
  | 0 => fun _ => .bad
  | n + 1 => fnD 2 1 (s__law_same (d__law_same n))
theorem ok__law_same {P : Program} {w : World} {K : PySem.W.Frag} {mg : Str → Option Value} {base : Heap} {f : Addr} {fd : FuncData} (F : FnP K "_law_same" st__law_same f fd) (g__law_same : mg "_law_same" = some (.ref f)) (k__law_same : PySem.W.keepIn K (.ref f) = true) (b__law_same : Binds K fd ["told", "due"] []) (m_bool : mg "bool" = none) (m_int : mg "int" = none) (m_isinstance : mg "isinstance" = none) (m_len : mg "len" = none) (m_list : mg "list" = none) (m_range : mg "range" = none) (m_str : mg "str" = none) (m_tuple : mg "tuple" = none) : ∀ n, FnOk P w K mg base (L2.CX P w) (1 + n) f fd ["told", "due"] (spD K mg 2 (d__law_same n))
  | 0 => fn_bad rfl
  | n + 1 => by
    have ih := ok__law_same (P := P) (w := w) (base := base) F g__law_same k__law_same b__law_same m_bool m_int m_isinstance m_len m_list m_range m_str m_tuple n
    have nd := (sc__law_same).nd
    exact fn_ok (k := 1 + n) (m := 1) F sc__law_same rfl rfl fun cdv A outer s H Q E hr => ⟨_, _, (dss_cons (ds_if (dt_truK (K := K) (dv_of (de_isiK (K := K) (by rfl) m_isinstance (b := "list") (dv_var 1) (by rfl) m_list (by decide +kernel) (by decide)))) (dss_one (ds_if (dt_bool (dw_or (dt_not (dt_truK (K := K) (dv_of (de_isiK (K := K) (by rfl) m_isinstance (b := "list") (dv_var 0) (by rfl) m_list (by decide +kernel) (by decide))))) (dw_or1 (dt_cmp (op_nesK (K := K) (by exact hr.units)) sem_ne (dv_of (de_callB (cr_lenK (K := K)) sem_len (by rfl) m_len (by decide +kernel) (das_cons (dv_var 0) das_nil))) (dv_of (de_callB (cr_lenK (K := K)) sem_len (by rfl) m_len (by decide +kernel) (das_cons (dv_var 1) das_nil))) (nomark _))))) (dss_one (ds_ret de_bl)) dss_nil)) (dss_one (ds_if (dt_truK (K := K) (dv_of (de_isiK (K := K) (by rfl) m_isinstance (b := "tuple") (dv_var 1) (by rfl) m_tuple (by decide +kernel) (by decide)))) (dss_one (ds_if (dt_bool (dw_or (dt_not (dt_truK (K := K) (dv_of (de_isiK (K := K) (by rfl) m_isinstance (b := "tuple") (dv_var 0) (by rfl) m_tuple (by decide +kernel) (by decide))))) (dw_or1 (dt_cmp (op_nesK (K := K) (by exact hr.units)) sem_ne (dv_of (de_callB (cr_lenK (K := K)) sem_len (by rfl) m_len (by decide +kernel) (das_cons (dv_var 0) das_nil))) (dv_of (de_callB (cr_lenK (K := K)) sem_len (by rfl) m_len (by decide +kernel) (das_cons (dv_var 1) das_nil))) (nomark _))))) (dss_one (ds_ret de_bl)) dss_nil)) (dss_one (ds_if (dt_cmp op_isN sem_isN (dv_var 1) (dv_of de_non) (nomark _)) (dss_one (ds_ret (de_cmp op_isN sem_isN (dv_var 0) (dv_of de_non) (nomark _)))) (dss_one (ds_if (dt_truK (K := K) (dv_of (de_isiK (K := K) (by rfl) m_isinstance (b := "bool") (dv_var 1) (by rfl) m_bool (by decide +kernel) (by decide)))) (dss_one (ds_ret (de_and (dv_of (de_isiK (K := K) (by rfl) m_isinstance (b := "bool") (dv_var 0) (by rfl) m_bool (by decide +kernel) (by decide))) (de_one (de_cmp (op_eqsK (K := K) (by exact hr.units)) sem_eq (dv_var 0) (dv_var 1) (nomark _)))))) (dss_one (ds_if (dt_truK (K := K) (dv_of (de_isiK (K := K) (by rfl) m_isinstance (b := "int") (dv_var 1) (by rfl) m_int (by decide +kernel) (by decide)))) (dss_one (ds_ret (de_and (dv_of (de_isiK (K := K) (by rfl) m_isinstance (b := "int") (dv_var 0) (by rfl) m_int (by decide +kernel) (by decide))) (de_and (dv_of (de_not (dv_of (de_isiK (K := K) (by rfl) m_isinstance (b := "bool") (dv_var 0) (by rfl) m_bool (by decide +kernel) (by decide))))) (de_one (de_cmp (op_eqsK (K := K) (by exact hr.units)) sem_eq (dv_var 0) (dv_var 1) (nomark _))))))) (dss_one (ds_ret (de_and (dv_of (de_isiK (K := K) (by rfl) m_isinstance (b := "str") (dv_var 0) (by rfl) m_str (by decide +kernel) (by decide))) (de_one (de_cmp (op_eqsK (K := K) (by exact hr.units)) sem_eq (dv_var 0) (dv_var 1) (nomark _))))))))))))))) (dss_cons (ds_for (passes_of (by rfl)) (by rfl) (di_range1 (by rfl) m_range (das_cons (dv_of (de_callB (cr_lenK (K := K)) sem_len (by rfl) m_len (by decide +kernel) (das_cons (dv_var 1) das_nil))) das_nil)) (dg_name 2 nd) (dss_one (ds_if (dt_not (dt_truK (K := K) (dv_of (de_callK (K := K) (mg := mg) ih (hr.mono (by omega)) (takes_of (by rfl) (by rfl) (by rfl) (by rfl)) (by rfl) g__law_same k__law_same b__law_same (das_cons (dv_ixK (K := K) (dv_var 0) (dv_var 2)) (das_cons (dv_ixK (K := K) (dv_var 1) (dv_var 2)) das_nil)))))) (dss_one (ds_ret de_bl)) dss_nil))) (dss_one (ds_ret de_bl))))⟩

/-! _law_is_int -/
abbrev st__law_is_int : Stmt := topS 17
theorem sc__law_is_int : FnScope ["number"] ["number"] (defScope st__law_is_int) := ⟨rfl, rfl, rfl, by decide +kernel, rfl, by decide +kernel, by decide +kernel⟩
def s__law_is_int : En → Out := (sRet (evAndV (evSh (evIsi "int" (evVar 0))) (evNotV (evSh (evIsi "bool" (evVar 0))))))
def d__law_is_int : List T → Rs T := fnD 1 0 s__law_is_int
theorem ok__law_is_int {P : Program} {w : World} {K : PySem.W.Frag} {mg : Str → Option Value} {base : Heap} {f : Addr} {fd : FuncData} (F : FnP K "_law_is_int" st__law_is_int f fd) (m_bool : mg "bool" = none) (m_int : mg "int" = none) (m_isinstance : mg "isinstance" = none) :
    FnOk P w K mg base (L2.CX P w) 1 f fd ["number"] (spD K mg 1 d__law_is_int) := by
  have nd := (sc__law_is_int).nd
  exact fn_ok (k := 0) (m := 0) F sc__law_is_int rfl rfl fun cdv A outer s H Q E hr => ⟨_, _, (dss_one (ds_ret (de_and (dv_of (de_isiK (K := K) (by rfl) m_isinstance (b := "int") (dv_var 0) (by rfl) m_int (by decide +kernel) (by decide))) (de_one (de_not (dv_of (de_isiK (K := K) (by rfl) m_isinstance (b := "bool") (dv_var 0) (by rfl) m_bool (by decide +kernel) (by decide))))))))⟩

/-! _law_closed -/
abbrev st__law_closed : Stmt := topS 18
theorem sc__law_closed : FnScope ["draws", "at", "most", "found", "k", "day"] ["draws", "at", "most"] (defScope st__law_closed) := ⟨rfl, rfl, rfl, by decide +kernel, rfl, by decide +kernel, by decide +kernel⟩
def s__law_closed : En → Out := (sSeq (sSet 3 [] (evLst evNil)) (sSeq (sFor (eiRng1 (evCons (evSh (evBin fMod (evBin fIx (evVar 0) (evVar 1)) (evSh (evC (.int 9))))) evNil)) (egName 4) (sSeq (sSet 5 [] (evSh (evBin fMod (evBin fIx (evVar 0) (evSh (evBin fAdd (evSh (evBin fAdd (evVar 1) (evSh (evC (.int 1))))) (evVar 4)))) (evVar 2)))) (sIf (evEB (evBin fNin (evVar 5) (evVar 3))) (sShare 5 (sApp 3 [] (evEsc (evVar 5)))) sNil))) (sRet (evC1 fSortI (evCons (evVar 3) evNil)))))
def d__law_closed : List T → Rs T := fnD 3 3 s__law_closed
theorem ok__law_closed {P : Program} {w : World} {K : PySem.W.Frag} {mg : Str → Option Value} {base : Heap} {f : Addr} {fd : FuncData} (F : FnP K "_law_closed" st__law_closed f fd) (m_range : mg "range" = none) (m_sorted : mg "sorted" = none) :
    FnOk P w K mg base (L2.CX P w) 1 f fd ["draws", "at", "most"] (spD K mg 3 d__law_closed) := by
  have nd := (sc__law_closed).nd
  exact fn_ok (k := 0) (m := 3) F sc__law_closed rfl rfl fun cdv A outer s H Q E hr => ⟨_, _, (dss_cons (ds_set 3 nd (de_list dae_nil)) (dss_cons (ds_for (passes_of (by rfl)) (by rfl) (di_range1 (by rfl) m_range (das_cons (dv_of (de_op op_mod sem_mod (dv_ixK (K := K) (dv_var 0) (dv_var 1)) (dv_of de_int))) das_nil)) (dg_name 4 nd) (dss_cons (ds_set 5 nd (de_sh (de_op op_mod sem_mod (dv_ixK (K := K) (dv_var 0) (dv_of (de_op (op_plusK (K := K)) sem_add (dv_of (de_op (op_plusK (K := K)) sem_add (dv_var 1) (dv_of de_int))) (dv_var 4)))) (dv_var 2)))) (dss_one (ds_if (dt_cmp (op_ninsK (K := K) (by exact hr)) sem_nin (dv_var 5) (dv_var 3) (by rfl)) (dss_one (ds_share 5 (ds_app 3 (de_esc (dv_var 5))))) dss_nil)))) (dss_one (ds_ret (de_callB (cr_sortedIK (K := K)) sem_sortI (by rfl) m_sorted (by decide +kernel) (das_cons (dv_var 3) das_nil))))))⟩

/-! _law_tariff -/
abbrev st__law_tariff : Stmt := topS 19
theorem sc__law_tariff : FnScope ["draws", "at", "numbers", "k", "number", "cents", "ordered"] ["draws", "at"] (defScope st__law_tariff) := ⟨rfl, rfl, rfl, by decide +kernel, rfl, by decide +kernel, by decide +kernel⟩
def s__law_tariff : En → Out := (sSeq (sSet 2 [] (evLst (evCons (evC (.int 1)) evNil))) (sSeq (sFor (eiRng1 (evCons (evSh (evBin fMod (evBin fIx (evVar 0) (evVar 1)) (evSh (evC (.int 8))))) evNil)) (egName 3) (sSeq (sSet 4 [] (evSh (evBin fAdd (evSh (evC (.int 2))) (evSh (evBin fMod (evBin fIx (evVar 0) (evSh (evBin fAdd (evSh (evBin fAdd (evVar 1) (evSh (evC (.int 1))))) (evVar 3)))) (evBin fIx (evSh (evLst (evCons (evC (.int 5)) (evCons (evC (.int 30)) (evCons (evC (.int 9998)) evNil))))) (evSh (evBin fMod (evBin fIx (evVar 0) (evSh (evBin fAdd (evVar 1) (evSh (evC (.int 9)))))) (evSh (evC (.int 3))))))))))) (sIf (evEB (evBin fNin (evVar 4) (evVar 2))) (sShare 4 (sApp 2 [] (evEsc (evVar 4)))) sNil))) (sSeq (sSet 5 [] (evSh (evComp (eiRng1 (evCons (evSh (evC (.int 8))) evNil)) [3] (egName 3) evYes (evBin fMod (evBin fIx (evVar 0) (evSh (evBin fAdd (evSh (evBin fAdd (evVar 1) (evSh (evC (.int 10))))) (evVar 3)))) (evBin fIx (evSh (evLst (evCons (evC (.int 3)) (evCons (evC (.int 50)) (evCons (evC (.int 10000)) evNil))))) (evSh (evBin fMod (evBin fIx (evVar 0) (evSh (evBin fAdd (evVar 1) (evSh (evC (.int 18)))))) (evSh (evC (.int 3)))))))))) (sSeq (sSet 6 [] (evSh (evC1 fSortI (evCons (evVar 2) evNil)))) (sRet (evComp (eiRng1 (evCons (evSh (evC1 fLen (evCons (evVar 6) evNil))) evNil)) [3] (egName 3) evYes (evTup (evCons (evEsc (evBin fIx (evVar 6) (evVar 3))) (evCons (evEsc (evBin fIx (evVar 5) (evVar 3))) evNil)))))))))
def d__law_tariff : List T → Rs T := fnD 2 5 s__law_tariff
theorem ok__law_tariff {P : Program} {w : World} {K : PySem.W.Frag} {mg : Str → Option Value} {base : Heap} {f : Addr} {fd : FuncData} (F : FnP K "_law_tariff" st__law_tariff f fd) (m_len : mg "len" = none) (m_range : mg "range" = none) (m_sorted : mg "sorted" = none) :
    FnOk P w K mg base (L2.CX P w) 1 f fd ["draws", "at"] (spD K mg 2 d__law_tariff) := by
  have nd := (sc__law_tariff).nd
  exact fn_ok (k := 0) (m := 5) F sc__law_tariff rfl rfl fun cdv A outer s H Q E hr => ⟨_, _, (dss_cons (ds_set 2 nd (de_list (dae_cons de_int dae_nil))) (dss_cons (ds_for (passes_of (by rfl)) (by rfl) (di_range1 (by rfl) m_range (das_cons (dv_of (de_op op_mod sem_mod (dv_ixK (K := K) (dv_var 0) (dv_var 1)) (dv_of de_int))) das_nil)) (dg_name 3 nd) (dss_cons (ds_set 4 nd (de_sh (de_op (op_plusK (K := K)) sem_add (dv_of de_int) (dv_of (de_op op_mod sem_mod (dv_ixK (K := K) (dv_var 0) (dv_of (de_op (op_plusK (K := K)) sem_add (dv_of (de_op (op_plusK (K := K)) sem_add (dv_var 1) (dv_of de_int))) (dv_var 3)))) (dv_ixK (K := K) (dv_of (de_list (dae_cons de_int (dae_cons de_int (dae_cons de_int dae_nil))))) (dv_of (de_op op_mod sem_mod (dv_ixK (K := K) (dv_var 0) (dv_of (de_op (op_plusK (K := K)) sem_add (dv_var 1) (dv_of de_int)))) (dv_of de_int))))))))) (dss_one (ds_if (dt_cmp (op_ninsK (K := K) (by exact hr)) sem_nin (dv_var 4) (dv_var 2) (by rfl)) (dss_one (ds_share 4 (ds_app 2 (de_esc (dv_var 4))))) dss_nil)))) (dss_cons (ds_set 5 nd (de_sh (de_lc (own := [("k", 3)]) [3] (by rfl) nd (di_range1 (by rfl) m_range (das_cons (dv_of de_int) das_nil)) (blkOk_by (by kernel_rfl)) (fun _ _ _ _ _ => (dg_name 3 nd)) (fun _ _ _ _ _ => dts_nil) (fun _ _ _ _ _ => (de_op op_mod sem_mod (dv_ixK (K := K) (dv_var 0) (dv_of (de_op (op_plusK (K := K)) sem_add (dv_of (de_op (op_plusK (K := K)) sem_add (dv_var 1) (dv_of de_int))) (dv_var 3)))) (dv_ixK (K := K) (dv_of (de_list (dae_cons de_int (dae_cons de_int (dae_cons de_int dae_nil))))) (dv_of (de_op op_mod sem_mod (dv_ixK (K := K) (dv_var 0) (dv_of (de_op (op_plusK (K := K)) sem_add (dv_var 1) (dv_of de_int)))) (dv_of de_int))))))))) (dss_cons (ds_set 6 nd (de_sh (de_callB (cr_sortedIK (K := K)) sem_sortI (by rfl) m_sorted (by decide +kernel) (das_cons (dv_var 2) das_nil)))) (dss_one (ds_ret (de_lc (own := [("k", 3)]) [3] (by rfl) nd (di_range1 (by rfl) m_range (das_cons (dv_of (de_callB (cr_lenK (K := K)) sem_len (by rfl) m_len (by decide +kernel) (das_cons (dv_var 6) das_nil))) das_nil)) (blkOk_by (by kernel_rfl)) (fun _ _ _ _ _ => (dg_name 3 nd)) (fun _ _ _ _ _ => dts_nil) (fun _ _ _ _ _ => (de_tuple (dae_cons (de_esc (dv_ixK (K := K) (dv_var 6) (dv_var 3))) (dae_cons (de_esc (dv_ixK (K := K) (dv_var 5) (dv_var 3))) dae_nil)))))))))))⟩

/-! _law_cents -/
abbrev st__law_cents : Stmt := topS 20
theorem sc__law_cents : FnScope ["tariff", "count", "found", "number", "cents"] ["tariff", "count"] (defScope st__law_cents) := ⟨rfl, rfl, rfl, by decide +kernel, rfl, by decide +kernel, by decide +kernel⟩
def s__law_cents : En → Out := (sSeq (sSet 2 [] (evC (.int 0))) (sSeq (sShare 0 (sFor (eiSeq (evVar 0)) (egTup 2 (egCons (egName 3) (egCons (egName 4) egNil))) (sIf (evEB (evBin fLeI (evVar 3) (evVar 1))) (sShare 4 (sSet 2 [] (evEsc (evVar 4)))) sNil))) (sRet (evVar 2))))
def d__law_cents : List T → Rs T := fnD 2 3 s__law_cents
theorem ok__law_cents {P : Program} {w : World} {K : PySem.W.Frag} {mg : Str → Option Value} {base : Heap} {f : Addr} {fd : FuncData} (F : FnP K "_law_cents" st__law_cents f fd) :
    FnOk P w K mg base (L2.CX P w) 1 f fd ["tariff", "count"] (spD K mg 2 d__law_cents) := by
  have nd := (sc__law_cents).nd
  exact fn_ok (k := 0) (m := 3) F sc__law_cents rfl rfl fun cdv A outer s H Q E hr => ⟨_, _, (dss_cons (ds_set 2 nd de_int) (dss_cons (ds_share 0 (ds_for (passes_of (by rfl)) (by rfl) (di_seqK (K := K) (dv_var 0)) (dg_tupK (K := K) (by rfl) (dgs_cons (dg_name 3 nd) (dgs_cons (dg_name 4 nd) dgs_nil))) (dss_one (ds_if (dt_cmp op_le sem_B0 (dv_var 3) (dv_var 1) (nomark _)) (dss_one (ds_share 4 (ds_set 2 nd (de_esc (dv_var 4))))) dss_nil)))) (dss_one (ds_ret (de_mov 2)))))⟩

/-! _law_price -/
abbrev st__law_price : Stmt := topS 21
theorem sc__law_price : FnScope ["tariff", "count", "total", "k"] ["tariff", "count"] (defScope st__law_price) := ⟨rfl, rfl, rfl, by decide +kernel, rfl, by decide +kernel, by decide +kernel⟩
def s__law_price : En → Out := (sSeq (sSet 2 [] (evC (.int 0))) (sSeq (sFor (eiRng2 (evCons (evSh (evC (.int 1))) (evCons (evSh (evBin fAdd (evVar 1) (evSh (evC (.int 1))))) evNil))) (egName 3) (sShare 3 (sShare 0 (sSet 2 [] (evBin fAdd (evVar 2) (evSh (evCall 2 d__law_cents (evCons (evVar 0) (evCons (evVar 3) evNil))))))))) (sRet (evVar 2))))
def d__law_price : List T → Rs T := fnD 2 2 s__law_price
theorem ok__law_price {P : Program} {w : World} {K : PySem.W.Frag} {mg : Str → Option Value} {base : Heap} {f : Addr} {fd : FuncData} (F : FnP K "_law_price" st__law_price f fd) {f__law_cents : Addr} {fd__law_cents : FuncData} (G__law_cents : FnOk P w K mg base (L2.CX P w) 1 f__law_cents fd__law_cents ["tariff", "count"] (spD K mg 2 d__law_cents)) (g__law_cents : mg "_law_cents" = some (.ref f__law_cents)) (k__law_cents : PySem.W.keepIn K (.ref f__law_cents) = true) (b__law_cents : Binds K fd__law_cents ["tariff", "count"] []) (m_range : mg "range" = none) :
    FnOk P w K mg base (L2.CX P w) 2 f fd ["tariff", "count"] (spD K mg 2 d__law_price) := by
  have nd := (sc__law_price).nd
  exact fn_ok (k := 1) (m := 2) F sc__law_price rfl rfl fun cdv A outer s H Q E hr => ⟨_, _, (dss_cons (ds_set 2 nd de_int) (dss_cons (ds_for (passes_of (by rfl)) (by rfl) (di_range2 (by rfl) m_range (das_cons (dv_of de_int) (das_cons (dv_of (de_op (op_plusK (K := K)) sem_add (dv_var 1) (dv_of de_int))) das_nil))) (dg_name 3 nd) (dss_one (ds_share 3 (ds_share 0 (ds_set 2 nd (de_op (op_plusK (K := K)) sem_add (dv_var 2) (dv_of (de_callK (K := K) (mg := mg) G__law_cents (hr.mono (by omega)) (takes_of (by rfl) (by rfl) (by rfl) (by rfl)) (by rfl) g__law_cents k__law_cents b__law_cents (das_cons (dv_var 0) (das_cons (dv_var 3) das_nil)))))))))) (dss_one (ds_ret (de_mov 2)))))⟩

/-! _law_away -/
abbrev st__law_away : Stmt := topS 22
theorem sc__law_away : FnScope ["visits", "day", "brought", "back"] ["visits", "day"] (defScope st__law_away) := ⟨rfl, rfl, rfl, by decide +kernel, rfl, by decide +kernel, by decide +kernel⟩
def s__law_away : En → Out := (sSeq (sShare 0 (sFor (eiSeq (evVar 0)) (egTup 2 (egCons (egName 2) (egCons (egName 3) egNil))) (sIf (evAnd (evEB (evBin fLeI (evVar 2) (evVar 1))) (evOr (evEB (evBin fIsN (evVar 3) (evSh (evC .none)))) (evEB (evBin fGtI (evVar 3) (evVar 1))))) (sRet (evC (.bool true))) sNil))) (sRet (evC (.bool false))))
def d__law_away : List T → Rs T := fnD 2 2 s__law_away
theorem ok__law_away {P : Program} {w : World} {K : PySem.W.Frag} {mg : Str → Option Value} {base : Heap} {f : Addr} {fd : FuncData} (F : FnP K "_law_away" st__law_away f fd) :
    FnOk P w K mg base (L2.CX P w) 1 f fd ["visits", "day"] (spD K mg 2 d__law_away) := by
  have nd := (sc__law_away).nd
  exact fn_ok (k := 0) (m := 2) F sc__law_away rfl rfl fun cdv A outer s H Q E hr => ⟨_, _, (dss_cons (ds_share 0 (ds_for (passes_of (by rfl)) (by rfl) (di_seqK (K := K) (dv_var 0)) (dg_tupK (K := K) (by rfl) (dgs_cons (dg_name 2 nd) (dgs_cons (dg_name 3 nd) dgs_nil))) (dss_one (ds_if (dt_bool (dw_and (dt_cmp op_le sem_B0 (dv_var 2) (dv_var 1) (nomark _)) (dw_and1 (dt_bool (dw_or (dt_cmp op_isN sem_isN (dv_var 3) (dv_of de_non) (nomark _)) (dw_or1 (dt_cmp op_gt sem_B0 (dv_var 3) (dv_var 1) (nomark _)))))))) (dss_one (ds_ret de_bl)) dss_nil)))) (dss_one (ds_ret de_bl)))⟩

/-! _law_counts -/
abbrev st__law_counts : Stmt := topS 23
theorem sc__law_counts : FnScope ["closed", "begin", "visits", "stop", "day"] ["closed", "begin", "visits", "stop"] (defScope st__law_counts) := ⟨rfl, rfl, rfl, by decide +kernel, rfl, by decide +kernel, by decide +kernel⟩
def s__law_counts : En → Out := (sShare 2 (sRet (evC1 fLen (evCons (evSh (evComp (eiRng2 (evCons (evVar 1) (evCons (evVar 3) evNil))) [4] (egName 4) (evAnd (evEB (evBin fNin (evVar 4) (evVar 0))) (evNot (evTru (evSh (evCall 2 d__law_away (evCons (evVar 2) (evCons (evVar 4) evNil))))))) (evEsc (evVar 4)))) evNil))))
def d__law_counts : List T → Rs T := fnD 4 1 s__law_counts
theorem ok__law_counts {P : Program} {w : World} {K : PySem.W.Frag} {mg : Str → Option Value} {base : Heap} {f : Addr} {fd : FuncData} (F : FnP K "_law_counts" st__law_counts f fd) {f__law_away : Addr} {fd__law_away : FuncData} (G__law_away : FnOk P w K mg base (L2.CX P w) 1 f__law_away fd__law_away ["visits", "day"] (spD K mg 2 d__law_away)) (g__law_away : mg "_law_away" = some (.ref f__law_away)) (k__law_away : PySem.W.keepIn K (.ref f__law_away) = true) (b__law_away : Binds K fd__law_away ["visits", "day"] []) (m_len : mg "len" = none) (m_range : mg "range" = none) :
    FnOk P w K mg base (L2.CX P w) 2 f fd ["closed", "begin", "visits", "stop"] (spD K mg 4 d__law_counts) := by
  have nd := (sc__law_counts).nd
  exact fn_ok (k := 1) (m := 1) F sc__law_counts rfl rfl fun cdv A outer s H Q E hr => ⟨_, _, (dss_one (ds_share 2 (ds_ret (de_callB (cr_lenK (K := K)) sem_len (by rfl) m_len (by decide +kernel) (das_cons (dv_of (de_lc (own := [("day", 4)]) [4] (by rfl) nd (di_range2 (by rfl) m_range (das_cons (dv_var 1) (das_cons (dv_var 3) das_nil))) (blkOk_by (by kernel_rfl)) (fun _ _ _ _ _ => (dg_name 4 nd)) (fun _ _ _ _ _ => (dts_one (dt_bool (dw_and (dt_cmp (op_ninsK (K := K) (by exact hr)) sem_nin (dv_var 4) (dv_var 0) (by rfl)) (dw_and1 (dt_not (dt_truK (K := K) (dv_of (de_callK (K := K) (mg := mg) G__law_away (hr.mono (by omega)) takes0 (by rfl) g__law_away k__law_away b__law_away (das_cons (dv_var 2) (das_cons (dv_var 4) das_nil))))))))))) (fun _ _ _ _ _ => (de_esc (dv_var 4))))) das_nil)))))⟩

/-! _law_end -/
abbrev st__law_end : Stmt := topS 24
theorem sc__law_end : FnScope ["closed", "days", "begin", "visits", "found", "day", "last", "start", "back", "turn"] ["closed", "days", "begin", "visits"] (defScope st__law_end) := ⟨rfl, rfl, rfl, by decide +kernel, rfl, by decide +kernel, by decide +kernel⟩
def s__law_end : En → Out := (sSeq (sSet 4 [] (evSh (evC (.int 0)))) (sSeq (sShare 2 (sSet 5 [] (evEsc (evVar 2)))) (sSeq (sShare 2 (sSet 6 [] (evSh (evEsc (evVar 2))))) (sSeq (sShare 3 (sFor (eiSeq (evVar 3)) (egTup 2 (egCons (egName 7) (egCons (egName 8) egNil))) (sShare 8 (sShare 7 (sSet 6 [] (evSh (evC1 fMax3 (evCons (evVar 6) (evCons (evVar 7) (evCons (evBin fIx (evSh (evLst (evCons (evEsc (evVar 7)) (evCons (evEsc (evVar 8)) evNil)))) (evSh (evC1 fInt1 (evCons (evSh (evBin fNotN (evVar 8) (evSh (evC .none)))) evNil)))) evNil)))))))))) (sSeq (sFor (eiRng1 (evCons (evSh (evBin fAdd (evSh (evBin fAdd (evSh (evBin fAdd (evSh (evBin fSub (evVar 6) (evVar 2))) (evVar 1))) (evSh (evC1 fLen (evCons (evVar 0) evNil))))) (evSh (evC (.int 2))))) evNil)) (egName 9) (sSeq (sIf (evEB (evBin fGeI (evVar 4) (evVar 1))) (sRet (evVar 5)) sNil) (sSeq (sShare 5 (sShare 3 (sIf (evAnd (evEB (evBin fNin (evVar 5) (evVar 0))) (evNot (evTru (evSh (evCall 2 d__law_away (evCons (evVar 3) (evCons (evVar 5) evNil))))))) (sSet 4 [] (evSh (evBin fAdd (evVar 4) (evSh (evC (.int 1)))))) sNil))) (sSet 5 [] (evBin fAdd (evVar 5) (evSh (evC (.int 1)))))))) (sRet (evC .none)))))))
def d__law_end : List T → Rs T := fnD 4 6 s__law_end
theorem ok__law_end {P : Program} {w : World} {K : PySem.W.Frag} {mg : Str → Option Value} {base : Heap} {f : Addr} {fd : FuncData} (F : FnP K "_law_end" st__law_end f fd) {f__law_away : Addr} {fd__law_away : FuncData} (G__law_away : FnOk P w K mg base (L2.CX P w) 1 f__law_away fd__law_away ["visits", "day"] (spD K mg 2 d__law_away)) (g__law_away : mg "_law_away" = some (.ref f__law_away)) (k__law_away : PySem.W.keepIn K (.ref f__law_away) = true) (b__law_away : Binds K fd__law_away ["visits", "day"] []) (m_int : mg "int" = none) (m_len : mg "len" = none) (m_max : mg "max" = none) (m_range : mg "range" = none) :
    FnOk P w K mg base (L2.CX P w) 2 f fd ["closed", "days", "begin", "visits"] (spD K mg 4 d__law_end) := by
  have nd := (sc__law_end).nd
  exact fn_ok (k := 1) (m := 6) F sc__law_end rfl rfl fun cdv A outer s H Q E hr => ⟨_, _, (dss_cons (ds_set 4 nd (de_sh de_int)) (dss_cons (ds_share 2 (ds_set 5 nd (de_esc (dv_var 2)))) (dss_cons (ds_share 2 (ds_set 6 nd (de_sh (de_esc (dv_var 2))))) (dss_cons (ds_share 3 (ds_for (passes_of (by rfl)) (by rfl) (di_seqK (K := K) (dv_var 3)) (dg_tupK (K := K) (by rfl) (dgs_cons (dg_name 7 nd) (dgs_cons (dg_name 8 nd) dgs_nil))) (dss_one (ds_share 8 (ds_share 7 (ds_set 6 nd (de_sh (de_callB (cr_max3 (by rfl)) sem_max3 (by rfl) m_max (by decide +kernel) (das_cons (dv_var 6) (das_cons (dv_var 7) (das_cons (dv_ixK (K := K) (dv_of (de_list (dae_cons (de_esc (dv_var 7)) (dae_cons (de_esc (dv_var 8)) dae_nil)))) (dv_of (de_callTy call_int1 sem_int1 (by rfl) m_int (by decide +kernel) (das_cons (dv_of (de_cmp op_notN sem_notN (dv_var 8) (dv_of de_non) (nomark _))) das_nil)))) das_nil))))))))))) (dss_cons (ds_for (passes_of (by rfl)) (by rfl) (di_range1 (by rfl) m_range (das_cons (dv_of (de_op (op_plusK (K := K)) sem_add (dv_of (de_op (op_plusK (K := K)) sem_add (dv_of (de_op (op_plusK (K := K)) sem_add (dv_of (de_op op_sub sem_I0 (dv_var 6) (dv_var 2))) (dv_var 1))) (dv_of (de_callB (cr_lenK (K := K)) sem_len (by rfl) m_len (by decide +kernel) (das_cons (dv_var 0) das_nil))))) (dv_of de_int))) das_nil)) (dg_name 9 nd) (dss_cons (ds_if (dt_cmp op_ge sem_B0 (dv_var 4) (dv_var 1) (nomark _)) (dss_one (ds_ret (de_mov 5))) dss_nil) (dss_cons (ds_share 5 (ds_share 3 (ds_if (dt_bool (dw_and (dt_cmp (op_ninsK (K := K) (by exact hr)) sem_nin (dv_var 5) (dv_var 0) (by rfl)) (dw_and1 (dt_not (dt_truK (K := K) (dv_of (de_callK (K := K) (mg := mg) G__law_away (hr.mono (by omega)) (takes_of (by rfl) (by rfl) (by rfl) (by rfl)) (by rfl) g__law_away k__law_away b__law_away (das_cons (dv_var 3) (das_cons (dv_var 5) das_nil))))))))) (dss_one (ds_set 4 nd (de_sh (de_op (op_plusK (K := K)) sem_add (dv_var 4) (dv_of de_int))))) dss_nil))) (dss_one (ds_set 5 nd (de_op (op_plusK (K := K)) sem_add (dv_var 5) (dv_of de_int))))))) (dss_one (ds_ret de_non)))))))⟩

/-! _law_long_price -/
abbrev st__law_long_price : Stmt := topS 25
theorem sc__law_long_price : FnScope ["tariff", "count", "total", "k", "stop"] ["tariff", "count"] (defScope st__law_long_price) := ⟨rfl, rfl, rfl, by decide +kernel, rfl, by decide +kernel, by decide +kernel⟩
def s__law_long_price : En → Out := (sSeq (sSet 2 [] (evC (.int 0))) (sSeq (sFor (eiRng1 (evCons (evSh (evC1 fLen (evCons (evVar 0) evNil))) evNil)) (egName 3) (sSeq (sSet 4 [] (evSh (evBin fAdd (evVar 1) (evSh (evC (.int 1)))))) (sSeq (sIf (evEB (evBin fLtI (evSh (evBin fAdd (evVar 3) (evSh (evC (.int 1))))) (evSh (evC1 fLen (evCons (evVar 0) evNil))))) (sSet 4 [] (evSh (evC1 fMin (evCons (evVar 4) (evCons (evBin fIx (evBin fIx (evVar 0) (evSh (evBin fAdd (evVar 3) (evSh (evC (.int 1)))))) (evSh (evC (.int 0)))) evNil))))) sNil) (sIf (evEB (evBin fGtI (evVar 4) (evBin fIx (evBin fIx (evVar 0) (evVar 3)) (evSh (evC (.int 0)))))) (sSet 2 [] (evBin fAdd (evVar 2) (evSh (evBin fMul (evSh (evBin fSub (evVar 4) (evBin fIx (evBin fIx (evVar 0) (evVar 3)) (evSh (evC (.int 0)))))) (evBin fIx (evBin fIx (evVar 0) (evVar 3)) (evSh (evC (.int 1)))))))) sNil)))) (sRet (evVar 2))))
def d__law_long_price : List T → Rs T := fnD 2 3 s__law_long_price
theorem ok__law_long_price {P : Program} {w : World} {K : PySem.W.Frag} {mg : Str → Option Value} {base : Heap} {f : Addr} {fd : FuncData} (F : FnP K "_law_long_price" st__law_long_price f fd) (m_len : mg "len" = none) (m_min : mg "min" = none) (m_range : mg "range" = none) :
    FnOk P w K mg base (L2.CX P w) 1 f fd ["tariff", "count"] (spD K mg 2 d__law_long_price) := by
  have nd := (sc__law_long_price).nd
  exact fn_ok (k := 0) (m := 3) F sc__law_long_price rfl rfl fun cdv A outer s H Q E hr => ⟨_, _, (dss_cons (ds_set 2 nd de_int) (dss_cons (ds_for (passes_of (by rfl)) (by rfl) (di_range1 (by rfl) m_range (das_cons (dv_of (de_callB (cr_lenK (K := K)) sem_len (by rfl) m_len (by decide +kernel) (das_cons (dv_var 0) das_nil))) das_nil)) (dg_name 3 nd) (dss_cons (ds_set 4 nd (de_sh (de_op (op_plusK (K := K)) sem_add (dv_var 1) (dv_of de_int)))) (dss_cons (ds_if (dt_cmp op_lt sem_B0 (dv_of (de_op (op_plusK (K := K)) sem_add (dv_var 3) (dv_of de_int))) (dv_of (de_callB (cr_lenK (K := K)) sem_len (by rfl) m_len (by decide +kernel) (das_cons (dv_var 0) das_nil))) (nomark _)) (dss_one (ds_set 4 nd (de_sh (de_callB (cr_minK (K := K) (by rfl)) sem_min (by rfl) m_min (by decide +kernel) (das_cons (dv_var 4) (das_cons (dv_ixK (K := K) (dv_ixK (K := K) (dv_var 0) (dv_of (de_op (op_plusK (K := K)) sem_add (dv_var 3) (dv_of de_int)))) (dv_of de_int)) das_nil)))))) dss_nil) (dss_one (ds_if (dt_cmp op_gt sem_B0 (dv_var 4) (dv_ixK (K := K) (dv_ixK (K := K) (dv_var 0) (dv_var 3)) (dv_of de_int)) (nomark _)) (dss_one (ds_set 2 nd (de_op (op_plusK (K := K)) sem_add (dv_var 2) (dv_of (de_op op_times sem_mul (dv_of (de_op op_sub sem_I0 (dv_var 4) (dv_ixK (K := K) (dv_ixK (K := K) (dv_var 0) (dv_var 3)) (dv_of de_int)))) (dv_ixK (K := K) (dv_ixK (K := K) (dv_var 0) (dv_var 3)) (dv_of de_int))))))) dss_nil))))) (dss_one (ds_ret (de_mov 2)))))⟩

/-! _law_tariffs -/
abbrev st__law_tariffs : Stmt := topS 26
theorem sc__law_tariffs : FnScope ["script", "draws", "tariff", "kept", "great", "count", "edges", "whole", "moneys", "money", "most", "step"] ["script", "draws"] (defScope st__law_tariffs) := ⟨rfl, rfl, rfl, by decide +kernel, rfl, by decide +kernel, by decide +kernel⟩
def s__law_tariffs : En → Out := (sSeq (sShare 1 (sSet 2 [] (evSh (evCall 2 d__law_tariff (evCons (evVar 1) (evCons (evSh (evC (.int 0))) evNil)))))) (sSeq (sSet 3 [] (evSh (evC1 fList (evCons (evVar 2) evNil)))) (sSeq (sShare 0 (sSet 4 [] (evSh (evCall 3 d__law_numbers (evCons (evSh (evCall 2 d__law_cell (evCons (evVar 0) (evCons (evSh (evC (.int 1))) evNil)))) (evCons (evSh (evC (.int 6))) (evCons (evSh (evBin fAdd (evSh (evBin fPow (evSh (evC (.int 10))) (evSh (evC (.int 9))))) (evSh (evC (.int 1))))) evNil))))))) (sSeq (sFor (eiSeq (evSh (evLst (evCons (evC (.int 0)) (evCons (evC (.int 1)) (evCons (evC (.int 2)) (evCons (evBin fMod (evBin fIx (evVar 1) (evSh (evC (.int 20)))) (evSh (evC (.int 150)))) (evCons (evBin fMod (evBin fIx (evVar 1) (evSh (evC (.int 21)))) (evSh (evC (.int 40)))) evNil)))))))) (egName 5) (sShare 5 (sShare 2 (sIf (evNot (evTru (evSh (evCall 2 (d__law_same 12) (evCons (evSh (evCall 2 d_price_of (evCons (evVar 2) (evCons (evVar 5) evNil)))) (evCons (evSh (evCall 2 d__law_price (evCons (evVar 2) (evCons (evVar 5) evNil)))) evNil)))))) (sRet (evC (.bool false))) sNil)))) (sSeq (sSet 6 [] (evSh (evComp (eiSeq (evSh (evLst (evCons (evUn fNeg (evSh (evC (.int 1)))) (evCons (evC (.int 0)) (evCons (evC (.int 1)) evNil)))))) [11] (egName 11) evYes (evBin fAdd (evBin fIx (evBin fIx (evVar 2) (evSh (evBin fSub (evSh (evC1 fLen (evCons (evVar 2) evNil))) (evSh (evC (.int 1)))))) (evSh (evC (.int 0)))) (evVar 11))))) (sSeq (sFor (eiSeq (evSh (evBin fAdd (evVar 6) (evSh (evLst (evCons (evEsc (evBin fIx (evVar 4) (evSh (evC (.int 0))))) (evCons (evEsc (evBin fIx (evVar 4) (evSh (evC (.int 1))))) (evCons (evBin fPow (evSh (evC (.int 10))) (evSh (evC (.int 9)))) evNil)))))))) (egName 5) (sShare 5 (sShare 2 (sIf (evNot (evTru (evSh (evCall 2 (d__law_same 12) (evCons (evSh (evCall 2 d_price_of (evCons (evVar 2) (evCons (evVar 5) evNil)))) (evCons (evSh (evCall 2 d__law_long_price (evCons (evVar 2) (evCons (evVar 5) evNil)))) evNil)))))) (sRet (evC (.bool false))) sNil)))) (sSeq (sShare 2 (sSet 7 [] (evSh (evCall 2 d__law_long_price (evCons (evVar 2) (evCons (evSh (evBin fPow (evSh (evC (.int 10))) (evSh (evC (.int 9))))) evNil)))))) (sSeq (sShare 2 (sShare 7 (sSet 8 [] (evLst (evCons (evC (.int 0)) (evCons (evC (.int 1)) (evCons (evEsc (evBin fIx (evVar 4) (evSh (evC (.int 2))))) (evCons (evBin fMul (evBin fIx (evVar 4) (evSh (evC (.int 3)))) (evSh (evC (.int 9999)))) (evCons (evEsc (evVar 7)) (evCons (evC1 fMax (evCons (evSh (evC (.int 0))) (evCons (evSh (evBin fSub (evVar 7) (evSh (evC (.int 1))))) evNil))) (evCons (evBin fAdd (evVar 7) (evSh (evC (.int 1)))) (evCons (evCall 2 d__law_long_price (evCons (evVar 2) (evCons (evBin fIx (evVar 6) (evSh (evC (.int 2)))) evNil))) (evCons (evEsc (evBin fIx (evVar 1) (evSh (evC (.int 22))))) evNil))))))))))))) (sSeq (sShare 2 (sApp 8 [] (evC1 fMax (evCons (evSh (evC (.int 0))) (evCons (evSh (evBin fSub (evSh (evCall 2 d__law_long_price (evCons (evVar 2) (evCons (evSh (evBin fAdd (evSh (evBin fMod (evBin fIx (evVar 1) (evSh (evC (.int 23)))) (evSh (evC (.int 60))))) (evSh (evC (.int 1))))) evNil)))) (evSh (evC (.int 1))))) evNil))))) (sSeq (sShare 8 (sFor (eiSeq (evVar 8)) (egName 9) (sSeq (sShare 9 (sShare 2 (sSet 10 [] (evSh (evCall 2 d_most_for (evCons (evVar 2) (evCons (evVar 9) evNil))))))) (sSeq (sShare 2 (sShare 10 (sIf (evOr (evNot (evTru (evSh (evCall 1 d__law_is_int (evCons (evVar 10) evNil))))) (evOr (evEB (evBin fLtI (evVar 10) (evSh (evC (.int 0))))) (evOr (evEB (evBin fGtI (evVar 10) (evSh (evBin fPow (evSh (evC (.int 10))) (evSh (evC (.int 9))))))) (evEB (evBin fGtI (evSh (evCall 2 d__law_long_price (evCons (evVar 2) (evCons (evVar 10) evNil)))) (evVar 9)))))) (sRet (evC (.bool false))) sNil))) (sShare 2 (sIf (evAnd (evEB (evBin fLtI (evVar 10) (evSh (evBin fPow (evSh (evC (.int 10))) (evSh (evC (.int 9))))))) (evEB (evBin fLeI (evSh (evCall 2 d__law_long_price (evCons (evVar 2) (evCons (evSh (evBin fAdd (evVar 10) (evSh (evC (.int 1))))) evNil)))) (evVar 9)))) (sRet (evC (.bool false))) sNil)))))) (sRet (evBin fEq (evVar 2) (evVar 3)))))))))))))
def d__law_tariffs : List T → Rs T := fnD 2 10 s__law_tariffs
theorem ok__law_tariffs {P : Program} {w : World} {K : PySem.W.Frag} {mg : Str → Option Value} {base : Heap} {f : Addr} {fd : FuncData} (F : FnP K "_law_tariffs" st__law_tariffs f fd) {f__law_cell : Addr} {fd__law_cell : FuncData} (G__law_cell : FnOk P w K mg base (L2.CX P w) 1 f__law_cell fd__law_cell ["script", "k"] (spD K mg 2 d__law_cell)) (g__law_cell : mg "_law_cell" = some (.ref f__law_cell)) (k__law_cell : PySem.W.keepIn K (.ref f__law_cell) = true) (b__law_cell : Binds K fd__law_cell ["script", "k"] []) {f__law_is_int : Addr} {fd__law_is_int : FuncData} (G__law_is_int : FnOk P w K mg base (L2.CX P w) 1 f__law_is_int fd__law_is_int ["number"] (spD K mg 1 d__law_is_int)) (g__law_is_int : mg "_law_is_int" = some (.ref f__law_is_int)) (k__law_is_int : PySem.W.keepIn K (.ref f__law_is_int) = true) (b__law_is_int : Binds K fd__law_is_int ["number"] []) {f__law_long_price : Addr} {fd__law_long_price : FuncData} (G__law_long_price : FnOk P w K mg base (L2.CX P w) 1 f__law_long_price fd__law_long_price ["tariff", "count"] (spD K mg 2 d__law_long_price)) (g__law_long_price : mg "_law_long_price" = some (.ref f__law_long_price)) (k__law_long_price : PySem.W.keepIn K (.ref f__law_long_price) = true) (b__law_long_price : Binds K fd__law_long_price ["tariff", "count"] []) {f__law_numbers : Addr} {fd__law_numbers : FuncData} (G__law_numbers : FnOk P w K mg base (L2.CX P w) 1 f__law_numbers fd__law_numbers ["cell", "count", "limit"] (spD K mg 3 d__law_numbers)) (g__law_numbers : mg "_law_numbers" = some (.ref f__law_numbers)) (k__law_numbers : PySem.W.keepIn K (.ref f__law_numbers) = true) (b__law_numbers : Binds K fd__law_numbers ["cell", "count", "limit"] []) {f__law_price : Addr} {fd__law_price : FuncData} (G__law_price : FnOk P w K mg base (L2.CX P w) 2 f__law_price fd__law_price ["tariff", "count"] (spD K mg 2 d__law_price)) (g__law_price : mg "_law_price" = some (.ref f__law_price)) (k__law_price : PySem.W.keepIn K (.ref f__law_price) = true) (b__law_price : Binds K fd__law_price ["tariff", "count"] []) {f__law_same : Addr} {fd__law_same : FuncData} (G__law_same : FnOk P w K mg base (L2.CX P w) 13 f__law_same fd__law_same ["told", "due"] (spD K mg 2 (d__law_same 12))) (g__law_same : mg "_law_same" = some (.ref f__law_same)) (k__law_same : PySem.W.keepIn K (.ref f__law_same) = true) (b__law_same : Binds K fd__law_same ["told", "due"] []) {f__law_tariff : Addr} {fd__law_tariff : FuncData} (G__law_tariff : FnOk P w K mg base (L2.CX P w) 1 f__law_tariff fd__law_tariff ["draws", "at"] (spD K mg 2 d__law_tariff)) (g__law_tariff : mg "_law_tariff" = some (.ref f__law_tariff)) (k__law_tariff : PySem.W.keepIn K (.ref f__law_tariff) = true) (b__law_tariff : Binds K fd__law_tariff ["draws", "at"] []) {f_most_for : Addr} {fd_most_for : FuncData} (G_most_for : FnOk P w K mg base (L2.CX P w) 2 f_most_for fd_most_for ["tariff", "money"] (spD K mg 2 d_most_for)) (g_most_for : mg "most_for" = some (.ref f_most_for)) (k_most_for : PySem.W.keepIn K (.ref f_most_for) = true) (b_most_for : Binds K fd_most_for ["tariff", "money"] []) {f_price_of : Addr} {fd_price_of : FuncData} (G_price_of : FnOk P w K mg base (L2.CX P w) 1 f_price_of fd_price_of ["tariff", "count"] (spD K mg 2 d_price_of)) (g_price_of : mg "price_of" = some (.ref f_price_of)) (k_price_of : PySem.W.keepIn K (.ref f_price_of) = true) (b_price_of : Binds K fd_price_of ["tariff", "count"] []) (m_len : mg "len" = none) (m_list : mg "list" = none) (m_max : mg "max" = none) :
    FnOk P w K mg base (L2.CX P w) 14 f fd ["script", "draws"] (spD K mg 2 d__law_tariffs) := by
  have nd := (sc__law_tariffs).nd
  exact fn_ok (k := 13) (m := 10) F sc__law_tariffs rfl rfl fun cdv A outer s H Q E hr => ⟨_, _, (dss_cons (ds_share 1 (ds_set 2 nd (de_sh (de_callK (K := K) (mg := mg) G__law_tariff (hr.mono (by omega)) (takes_of (by rfl) (by rfl) (by rfl) (by rfl)) (by rfl) g__law_tariff k__law_tariff b__law_tariff (das_cons (dv_var 1) (das_cons (dv_of de_int) das_nil)))))) (dss_cons (ds_set 3 nd (de_sh (de_callTy (cr_listK (K := K)) sem_list (by rfl) m_list (by decide +kernel) (das_cons (dv_var 2) das_nil)))) (dss_cons (ds_share 0 (ds_set 4 nd (de_sh (de_callK (K := K) (mg := mg) G__law_numbers (hr.mono (by omega)) (takes_of (by rfl) (by rfl) (by rfl) (by rfl)) (by rfl) g__law_numbers k__law_numbers b__law_numbers (das_cons (dv_of (de_callK (K := K) (mg := mg) G__law_cell (hr.mono (by omega)) (takes_of (by rfl) (by rfl) (by rfl) (by rfl)) (by rfl) g__law_cell k__law_cell b__law_cell (das_cons (dv_var 0) (das_cons (dv_of de_int) das_nil)))) (das_cons (dv_of de_int) (das_cons (dv_of (de_op (op_plusK (K := K)) sem_add (dv_of (de_op op_pow sem_pow (dv_of de_int) (dv_of de_int))) (dv_of de_int))) das_nil))))))) (dss_cons (ds_for (passes_of (by rfl)) (by rfl) (di_seqK (K := K) (dv_of (de_list (dae_cons de_int (dae_cons de_int (dae_cons de_int (dae_cons (de_op op_mod sem_mod (dv_ixK (K := K) (dv_var 1) (dv_of de_int)) (dv_of de_int)) (dae_cons (de_op op_mod sem_mod (dv_ixK (K := K) (dv_var 1) (dv_of de_int)) (dv_of de_int)) dae_nil)))))))) (dg_name 5 nd) (dss_one (ds_share 5 (ds_share 2 (ds_if (dt_not (dt_truK (K := K) (dv_of (de_callK (K := K) (mg := mg) G__law_same (hr.mono (by omega)) (takes_of (by rfl) (by rfl) (by rfl) (by rfl)) (by rfl) g__law_same k__law_same b__law_same (das_cons (dv_of (de_callK (K := K) (mg := mg) G_price_of (hr.mono (by omega)) (takes_of (by rfl) (by rfl) (by rfl) (by rfl)) (by rfl) g_price_of k_price_of b_price_of (das_cons (dv_var 2) (das_cons (dv_var 5) das_nil)))) (das_cons (dv_of (de_callK (K := K) (mg := mg) G__law_price (hr.mono (by omega)) (takes_of (by rfl) (by rfl) (by rfl) (by rfl)) (by rfl) g__law_price k__law_price b__law_price (das_cons (dv_var 2) (das_cons (dv_var 5) das_nil)))) das_nil)))))) (dss_one (ds_ret de_bl)) dss_nil))))) (dss_cons (ds_setLcSh (own := [("step", 11)]) 6 [11] (by rfl) nd (di_seqK (K := K) (dv_of (de_list (dae_cons (de_neg (dv_of de_int)) (dae_cons de_int (dae_cons de_int dae_nil)))))) (blkOk_by (by kernel_rfl)) (fun _ _ _ _ _ => (dg_name 11 nd)) (fun _ _ _ _ _ => dts_nil) (fun _ _ _ _ _ => (de_op (op_plusK (K := K)) sem_add (dv_ixK (K := K) (dv_ixK (K := K) (dv_var 2) (dv_of (de_op op_sub sem_I0 (dv_of (de_callB (cr_lenK (K := K)) sem_len (by rfl) m_len (by decide +kernel) (das_cons (dv_var 2) das_nil))) (dv_of de_int)))) (dv_of de_int)) (dv_var 11)))) (dss_cons (ds_for (passes_of (by rfl)) (by rfl) (di_seqK (K := K) (dv_of (de_op (op_plusK (K := K)) sem_add (dv_var 6) (dv_of (de_list (dae_cons (de_esc (dv_ixK (K := K) (dv_var 4) (dv_of de_int))) (dae_cons (de_esc (dv_ixK (K := K) (dv_var 4) (dv_of de_int))) (dae_cons (de_op op_pow sem_pow (dv_of de_int) (dv_of de_int)) dae_nil)))))))) (dg_name 5 nd) (dss_one (ds_share 5 (ds_share 2 (ds_if (dt_not (dt_truK (K := K) (dv_of (de_callK (K := K) (mg := mg) G__law_same (hr.mono (by omega)) (takes_of (by rfl) (by rfl) (by rfl) (by rfl)) (by rfl) g__law_same k__law_same b__law_same (das_cons (dv_of (de_callK (K := K) (mg := mg) G_price_of (hr.mono (by omega)) (takes_of (by rfl) (by rfl) (by rfl) (by rfl)) (by rfl) g_price_of k_price_of b_price_of (das_cons (dv_var 2) (das_cons (dv_var 5) das_nil)))) (das_cons (dv_of (de_callK (K := K) (mg := mg) G__law_long_price (hr.mono (by omega)) (takes_of (by rfl) (by rfl) (by rfl) (by rfl)) (by rfl) g__law_long_price k__law_long_price b__law_long_price (das_cons (dv_var 2) (das_cons (dv_var 5) das_nil)))) das_nil)))))) (dss_one (ds_ret de_bl)) dss_nil))))) (dss_cons (ds_share 2 (ds_set 7 nd (de_sh (de_callK (K := K) (mg := mg) G__law_long_price (hr.mono (by omega)) (takes_of (by rfl) (by rfl) (by rfl) (by rfl)) (by rfl) g__law_long_price k__law_long_price b__law_long_price (das_cons (dv_var 2) (das_cons (dv_of (de_op op_pow sem_pow (dv_of de_int) (dv_of de_int))) das_nil)))))) (dss_cons (ds_share 2 (ds_share 7 (ds_set 8 nd (de_list (dae_cons de_int (dae_cons de_int (dae_cons (de_esc (dv_ixK (K := K) (dv_var 4) (dv_of de_int))) (dae_cons (de_op op_times sem_mul (dv_ixK (K := K) (dv_var 4) (dv_of de_int)) (dv_of de_int)) (dae_cons (de_esc (dv_var 7)) (dae_cons (de_callB (cr_maxK (K := K) (by rfl)) sem_max (by rfl) m_max (by decide +kernel) (das_cons (dv_of de_int) (das_cons (dv_of (de_op op_sub sem_I0 (dv_var 7) (dv_of de_int))) das_nil))) (dae_cons (de_op (op_plusK (K := K)) sem_add (dv_var 7) (dv_of de_int)) (dae_cons (de_callK (K := K) (mg := mg) G__law_long_price (hr.mono (by omega)) (takes_of (by rfl) (by rfl) (by rfl) (by rfl)) (by rfl) g__law_long_price k__law_long_price b__law_long_price (das_cons (dv_var 2) (das_cons (dv_ixK (K := K) (dv_var 6) (dv_of de_int)) das_nil))) (dae_cons (de_esc (dv_ixK (K := K) (dv_var 1) (dv_of de_int))) dae_nil))))))))))))) (dss_cons (ds_share 2 (ds_app 8 (de_callB (cr_maxK (K := K) (by rfl)) sem_max (by rfl) m_max (by decide +kernel) (das_cons (dv_of de_int) (das_cons (dv_of (de_op op_sub sem_I0 (dv_of (de_callK (K := K) (mg := mg) G__law_long_price (hr.mono (by omega)) (takes_of (by rfl) (by rfl) (by rfl) (by rfl)) (by rfl) g__law_long_price k__law_long_price b__law_long_price (das_cons (dv_var 2) (das_cons (dv_of (de_op (op_plusK (K := K)) sem_add (dv_of (de_op op_mod sem_mod (dv_ixK (K := K) (dv_var 1) (dv_of de_int)) (dv_of de_int))) (dv_of de_int))) das_nil)))) (dv_of de_int))) das_nil))))) (dss_cons (ds_share 8 (ds_for (passes_of (by rfl)) (by rfl) (di_seqK (K := K) (dv_var 8)) (dg_name 9 nd) (dss_cons (ds_share 9 (ds_share 2 (ds_set 10 nd (de_sh (de_callK (K := K) (mg := mg) G_most_for (hr.mono (by omega)) (takes_of (by rfl) (by rfl) (by rfl) (by rfl)) (by rfl) g_most_for k_most_for b_most_for (das_cons (dv_var 2) (das_cons (dv_var 9) das_nil))))))) (dss_cons (ds_share 2 (ds_share 10 (ds_if (dt_bool (dw_or (dt_not (dt_truK (K := K) (dv_of (de_callK (K := K) (mg := mg) G__law_is_int (hr.mono (by omega)) (takes_of (by rfl) (by rfl) (by rfl) (by rfl)) (by rfl) g__law_is_int k__law_is_int b__law_is_int (das_cons (dv_var 10) das_nil))))) (dw_or (dt_cmp op_lt sem_B0 (dv_var 10) (dv_of de_int) (nomark _)) (dw_or (dt_cmp op_gt sem_B0 (dv_var 10) (dv_of (de_op op_pow sem_pow (dv_of de_int) (dv_of de_int))) (nomark _)) (dw_or1 (dt_cmp op_gt sem_B0 (dv_of (de_callK (K := K) (mg := mg) G__law_long_price (hr.mono (by omega)) (takes_of (by rfl) (by rfl) (by rfl) (by rfl)) (by rfl) g__law_long_price k__law_long_price b__law_long_price (das_cons (dv_var 2) (das_cons (dv_var 10) das_nil)))) (dv_var 9) (nomark _))))))) (dss_one (ds_ret de_bl)) dss_nil))) (dss_one (ds_share 2 (ds_if (dt_bool (dw_and (dt_cmp op_lt sem_B0 (dv_var 10) (dv_of (de_op op_pow sem_pow (dv_of de_int) (dv_of de_int))) (nomark _)) (dw_and1 (dt_cmp op_le sem_B0 (dv_of (de_callK (K := K) (mg := mg) G__law_long_price (hr.mono (by omega)) (takes_of (by rfl) (by rfl) (by rfl) (by rfl)) (by rfl) g__law_long_price k__law_long_price b__law_long_price (das_cons (dv_var 2) (das_cons (dv_of (de_op (op_plusK (K := K)) sem_add (dv_var 10) (dv_of de_int))) das_nil)))) (dv_var 9) (nomark _))))) (dss_one (ds_ret de_bl)) dss_nil))))))) (dss_one (ds_ret (de_cmp (op_eqsK (K := K) (by exact hr.units)) sem_eq (dv_var 2) (dv_var 3) (nomark _))))))))))))))⟩

/-! _law_visits -/
abbrev st__law_visits : Stmt := topS 27
theorem sc__law_visits : FnScope ["draws", "begin", "count", "last", "day", "found", "k", "brought", "back"] ["draws", "begin", "count", "last"] (defScope st__law_visits) := ⟨rfl, rfl, rfl, by decide +kernel, rfl, by decide +kernel, by decide +kernel⟩
def s__law_visits : En → Out := (sSeq (sShare 1 (sSet 4 [] (evSh (evEsc (evVar 1))))) (sSeq (sSet 5 [] (evLst evNil)) (sSeq (sFor (eiRng1 (evCons (evVar 2) evNil)) (egName 6) (sSeq (sSet 7 [] (evSh (evC1 fMin (evCons (evVar 3) (evCons (evSh (evBin fAdd (evVar 4) (evSh (evBin fMod (evBin fIx (evVar 0) (evSh (evBin fMul (evSh (evC (.int 2))) (evVar 6)))) (evSh (evC (.int 12))))))) evNil))))) (sSeq (sSet 8 [] (evSh (evC1 fMin (evCons (evVar 3) (evCons (evSh (evBin fAdd (evVar 7) (evSh (evBin fMod (evBin fIx (evVar 0) (evSh (evBin fAdd (evSh (evBin fMul (evSh (evC (.int 2))) (evVar 6))) (evSh (evC (.int 1)))))) (evSh (evC (.int 15))))))) evNil))))) (sSeq (sShare 8 (sShare 7 (sApp 5 [] (evTup (evCons (evEsc (evVar 7)) (evCons (evEsc (evVar 8)) evNil)))))) (sShare 8 (sSet 4 [] (evSh (evEsc (evVar 8))))))))) (sSeq (sIf (evAnd (evEB (evBin fEq (evSh (evBin fMod (evBin fIx (evVar 0) (evSh (evC (.int 11)))) (evSh (evC (.int 3))))) (evSh (evC (.int 0))))) (evEB (evBin fGtI (evVar 2) (evSh (evC (.int 0)))))) (sPut 5 (evSh (evBin fSub (evVar 2) (evSh (evC (.int 1))))) (evSh (evTup (evCons (evEsc (evBin fIx (evBin fIx (evVar 5) (evSh (evBin fSub (evVar 2) (evSh (evC (.int 1)))))) (evSh (evC (.int 0))))) (evCons (evC .none) evNil))))) sNil) (sRet (evVar 5))))))
def d__law_visits : List T → Rs T := fnD 4 5 s__law_visits
theorem ok__law_visits {P : Program} {w : World} {K : PySem.W.Frag} {mg : Str → Option Value} {base : Heap} {f : Addr} {fd : FuncData} (F : FnP K "_law_visits" st__law_visits f fd) (m_min : mg "min" = none) (m_range : mg "range" = none) :
    FnOk P w K mg base (L2.CX P w) 1 f fd ["draws", "begin", "count", "last"] (spD K mg 4 d__law_visits) := by
  have nd := (sc__law_visits).nd
  exact fn_ok (k := 0) (m := 5) F sc__law_visits rfl rfl fun cdv A outer s H Q E hr => ⟨_, _, (dss_cons (ds_share 1 (ds_set 4 nd (de_sh (de_esc (dv_var 1))))) (dss_cons (ds_set 5 nd (de_list dae_nil)) (dss_cons (ds_for (passes_of (by rfl)) (by rfl) (di_range1 (by rfl) m_range (das_cons (dv_var 2) das_nil)) (dg_name 6 nd) (dss_cons (ds_set 7 nd (de_sh (de_callB (cr_minK (K := K) (by rfl)) sem_min (by rfl) m_min (by decide +kernel) (das_cons (dv_var 3) (das_cons (dv_of (de_op (op_plusK (K := K)) sem_add (dv_var 4) (dv_of (de_op op_mod sem_mod (dv_ixK (K := K) (dv_var 0) (dv_of (de_op op_times sem_mul (dv_of de_int) (dv_var 6)))) (dv_of de_int))))) das_nil))))) (dss_cons (ds_set 8 nd (de_sh (de_callB (cr_minK (K := K) (by rfl)) sem_min (by rfl) m_min (by decide +kernel) (das_cons (dv_var 3) (das_cons (dv_of (de_op (op_plusK (K := K)) sem_add (dv_var 7) (dv_of (de_op op_mod sem_mod (dv_ixK (K := K) (dv_var 0) (dv_of (de_op (op_plusK (K := K)) sem_add (dv_of (de_op op_times sem_mul (dv_of de_int) (dv_var 6))) (dv_of de_int)))) (dv_of de_int))))) das_nil))))) (dss_cons (ds_share 8 (ds_share 7 (ds_app 5 (de_tuple (dae_cons (de_esc (dv_var 7)) (dae_cons (de_esc (dv_var 8)) dae_nil)))))) (dss_one (ds_share 8 (ds_set 4 nd (de_sh (de_esc (dv_var 8)))))))))) (dss_cons (ds_if (dt_bool (dw_and (dt_cmp (op_eqsK (K := K) (by exact hr.units)) sem_eq (dv_of (de_op op_mod sem_mod (dv_ixK (K := K) (dv_var 0) (dv_of de_int)) (dv_of de_int))) (dv_of de_int) (nomark _)) (dw_and1 (dt_cmp op_gt sem_B0 (dv_var 2) (dv_of de_int) (nomark _))))) (dss_one (ds_put 5 (dv_of (de_tuple (dae_cons (de_esc (dv_ixK (K := K) (dv_ixK (K := K) (dv_var 5) (dv_of (de_op op_sub sem_I0 (dv_var 2) (dv_of de_int)))) (dv_of de_int))) (dae_cons de_non dae_nil)))) (dv_of (de_op op_sub sem_I0 (dv_var 2) (dv_of de_int))))) dss_nil) (dss_one (ds_ret (de_mov 5)))))))⟩

/-! law -/
abbrev st_law : Stmt := topS 28
theorem sc_law : FnScope ["script", "draws", "more", "late", "begin", "closed", "days", "visits", "kept", "end", "told", "day", "due", "free", "turn", "answer", "k"] ["script"] (defScope st_law) := ⟨rfl, rfl, rfl, by decide +kernel, rfl, by decide +kernel, by decide +kernel⟩
def s_law : En → Out := (sSeq (sShare 0 (sSet 1 [] (evSh (evCall 3 d__law_numbers (evCons (evSh (evCall 2 d__law_cell (evCons (evVar 0) (evCons (evSh (evC (.int 0))) evNil)))) (evCons (evSh (evC (.int 60))) (evCons (evSh (evC (.int 50400))) evNil))))))) (sSeq (sShare 1 (sShare 0 (sIf (evNot (evTru (evSh (evCall 2 d__law_tariffs (evCons (evVar 0) (evCons (evVar 1) evNil)))))) (sRet (evC (.bool false))) sNil))) (sSeq (sShare 0 (sSet 2 [] (evSh (evCall 3 d__law_numbers (evCons (evSh (evCall 2 d__law_cell (evCons (evVar 0) (evCons (evSh (evC (.int 2))) evNil)))) (evCons (evSh (evC (.int 40))) (evCons (evSh (evC (.int 5040))) evNil))))))) (sSeq (sSet 3 [] (evSh (evBin fEq (evSh (evBin fMod (evBin fIx (evVar 2) (evSh (evC (.int 0)))) (evSh (evC (.int 3))))) (evSh (evC (.int 0)))))) (sSeq (sSet 4 [] (evSh (evEsc (evBin fIx (evSh (evLst (evCons (evBin fMod (evBin fIx (evVar 2) (evSh (evC (.int 1)))) (evSh (evC (.int 20)))) (evCons (evBin fSub (evSh (evC (.int 9999))) (evSh (evBin fMod (evBin fIx (evVar 2) (evSh (evC (.int 1)))) (evSh (evC (.int 60)))))) evNil)))) (evSh (evC1 fInt1 (evCons (evVar 3) evNil))))))) (sSeq (sShare 2 (sSet 5 [] (evSh (evCall 3 d__law_closed (evCons (evVar 2) (evCons (evSh (evC (.int 2))) (evCons (evSh (evC (.int 60))) evNil))))))) (sSeq (sIf (evTru (evVar 3)) (sShare 5 (sSet 5 [] (evSh (evC1 fSortI (evCons (evSh (evComp (eiSeq (evVar 5)) [11] (egName 11) evYes (evBin fSub (evSh (evC (.int 9999))) (evVar 11)))) evNil))))) sNil) (sSeq (sSet 6 [] (evSh (evEsc (evBin fIx (evSh (evLst (evCons (evC (.int 0)) (evCons (evC (.int 1)) (evCons (evBin fMod (evBin fIx (evVar 2) (evSh (evC (.int 12)))) (evSh (evC (.int 12)))) (evCons (evBin fMod (evBin fIx (evVar 2) (evSh (evC (.int 12)))) (evSh (evC (.int 60)))) (evCons (evBin fMod (evBin fIx (evVar 2) (evSh (evC (.int 12)))) (evSh (evC (.int 401)))) evNil))))))) (evSh (evBin fMod (evBin fIx (evVar 2) (evSh (evC (.int 13)))) (evSh (evC (.int 5))))))))) (sSeq (sShare 4 (sSet 7 [] (evSh (evCall 4 d__law_visits (evCons (evSh (evSl fSl (evVar 2) (eoS (evSh (evC (.int 14)))) eoN)) (evCons (evVar 4) (evCons (evSh (evBin fMod (evBin fIx (evVar 2) (evSh (evC (.int 26)))) (evSh (evC (.int 6))))) (evCons (evSh (evC (.int 9999))) evNil)))))))) (sSeq (sShare 7 (sShare 5 (sSet 8 [] (evSh (evC1 fRepr (evCons (evSh (evTup (evCons (evEsc (evVar 5)) (evCons (evEsc (evVar 7)) evNil)))) evNil)))))) (sSeq (sShare 7 (sShare 4 (sShare 6 (sShare 5 (sSet 9 [] (evSh (evCall 4 d__law_end (evCons (evVar 5) (evCons (evVar 6) (evCons (evVar 4) (evCons (evVar 7) evNil))))))))))) (sSeq (sShare 9 (sShare 7 (sShare 4 (sShare 6 (sShare 5 (sIf (evNot (evTru (evSh (evCall 2 (d__law_same 12) (evCons (evSh (evCall 4 d_end_of (evCons (evVar 5) (evCons (evVar 6) (evCons (evVar 4) (evCons (evVar 7) evNil)))))) (evCons (evVar 9) evNil)))))) (sRet (evC (.bool false))) sNil)))))) (sSeq (sShare 4 (sSet 10 [] (evSh (evBin fAdd (evSh (evComp (eiRng1 (evCons (evSh (evC (.int 6))) evNil)) [16] (egName 16) evYes (evBin fAdd (evVar 4) (evSh (evBin fMod (evBin fIx (evVar 2) (evSh (evBin fAdd (evSh (evC (.int 27))) (evVar 16)))) (evBin fIx (evSh (evLst (evCons (evC (.int 3)) (evCons (evC (.int 30)) (evCons (evC (.int 450)) evNil))))) (evSh (evBin fMod (evVar 16) (evSh (evC (.int 3))))))))))) (evSh (evLst (evCons (evEsc (evVar 4)) evNil))))))) (sSeq (sIf (evEB (evBin fNotN (evVar 9) (evSh (evC .none)))) (sShare 9 (sSet 10 [] (evSh (evBin fAdd (evVar 10) (evSh (evLst (evCons (evEsc (evVar 9)) (evCons (evBin fAdd (evVar 9) (evSh (evC (.int 1)))) (evCons (evC1 fMax (evCons (evVar 4) (evCons (evSh (evBin fSub (evVar 9) (evSh (evC (.int 1))))) evNil))) evNil))))))))) sNil) (sSeq (sShare 10 (sFor (eiSeq (evVar 10)) (egName 11) (sSeq (sShare 11 (sShare 7 (sShare 4 (sShare 5 (sSet 12 [] (evSh (evBin fLtI (evSh (evCall 4 d__law_counts (evCons (evVar 5) (evCons (evVar 4) (evCons (evVar 7) (evCons (evVar 11) evNil)))))) (evVar 6)))))))) (sShare 12 (sShare 11 (sShare 7 (sShare 4 (sShare 6 (sShare 5 (sIf (evOr (evNot (evTru (evSh (evCall 2 (d__law_same 12) (evCons (evSh (evCall 5 d_holds_on (evCons (evVar 5) (evCons (evVar 6) (evCons (evVar 4) (evCons (evVar 7) (evCons (evVar 11) evNil))))))) (evCons (evVar 12) evNil)))))) (evAnd (evEB (evBin fNotN (evVar 9) (evSh (evC .none)))) (evEB (evBin fNe (evVar 12) (evSh (evBin fLtI (evVar 11) (evVar 9))))))) (sRet (evC (.bool false))) sNil)))))))))) (sSeq (sShare 4 (sShare 5 (sSet 13 [] (evSh (evComp (eiRng1 (evCons (evSh (evC1 fLen (evCons (evVar 7) evNil))) evNil)) [16] (egName 16) evYes (evBin fLtI (evSh (evCall 4 d__law_counts (evCons (evVar 5) (evCons (evVar 4) (evCons (evSh (evSl fSl (evVar 7) (eoS (evSh (evC (.int 0)))) (eoS (evVar 16)))) (evCons (evBin fIx (evBin fIx (evVar 7) (evVar 16)) (evSh (evC (.int 0)))) evNil)))))) (evVar 6))))))) (sSeq (sFor (eiRng1 (evCons (evSh (evC (.int 2))) evNil)) (egName 14) (sSeq (sShare 7 (sShare 4 (sShare 6 (sShare 5 (sSet 15 [] (evCall 4 d_free_visits (evCons (evVar 5) (evCons (evVar 6) (evCons (evVar 4) (evCons (evVar 7) evNil)))))))))) (sSeq (sShare 7 (sShare 5 (sShare 13 (sIf (evOr (evNot (evTru (evSh (evCall 2 (d__law_same 12) (evCons (evVar 15) (evCons (evVar 13) evNil)))))) (evEB (evBin fNe (evSh (evC1 fRepr (evCons (evSh (evTup (evCons (evEsc (evVar 5)) (evCons (evEsc (evVar 7)) evNil)))) evNil))) (evVar 8)))) (sRet (evC (.bool false))) sNil)))) (sApp 15 [] (evC (.bool true)))))) (sSeq (sFor (eiRng1 (evCons (evSh (evC1 fLen (evCons (evVar 7) evNil))) evNil)) (egName 16) (sShare 4 (sShare 6 (sShare 5 (sIf (evEB (evBin fNe (evSh (evCall 4 d_free_visits (evCons (evVar 5) (evCons (evVar 6) (evCons (evVar 4) (evCons (evSh (evSl fSl (evVar 7) (eoS (evSh (evC (.int 0)))) (eoS (evVar 16)))) evNil)))))) (evSh (evSl fSl (evVar 13) (eoS (evSh (evC (.int 0)))) (eoS (evVar 16)))))) (sRet (evC (.bool false))) sNil))))) (sSeq (sIf (evEB (evBin fNe (evSh (evBin fIsN (evVar 9) (evSh (evC .none)))) (evSh (evAndV (evSh (evBin fGtI (evSh (evC1 fLen (evCons (evVar 7) evNil))) (evSh (evC (.int 0))))) (evAndV (evSh (evBin fIsN (evBin fIx (evBin fIx (evVar 7) (evSh (evBin fSub (evSh (evC1 fLen (evCons (evVar 7) evNil))) (evSh (evC (.int 1)))))) (evSh (evC (.int 1)))) (evSh (evC .none)))) (evEsc (evBin fIx (evVar 13) (evSh (evBin fSub (evSh (evC1 fLen (evCons (evVar 13) evNil))) (evSh (evC (.int 1)))))))))))) (sRet (evC (.bool false))) sNil) (sShare 7 (sShare 5 (sRet (evBin fEq (evSh (evC1 fRepr (evCons (evSh (evTup (evCons (evEsc (evVar 5)) (evCons (evEsc (evVar 7)) evNil)))) evNil))) (evVar 8))))))))))))))))))))))))
def d_law : List T → Rs T := fnD 1 16 s_law
theorem ok_law {P : Program} {w : World} {K : PySem.W.Frag} {mg : Str → Option Value} {base : Heap} {f : Addr} {fd : FuncData} (F : FnP K "law" st_law f fd) {f__law_cell : Addr} {fd__law_cell : FuncData} (G__law_cell : FnOk P w K mg base (L2.CX P w) 1 f__law_cell fd__law_cell ["script", "k"] (spD K mg 2 d__law_cell)) (g__law_cell : mg "_law_cell" = some (.ref f__law_cell)) (k__law_cell : PySem.W.keepIn K (.ref f__law_cell) = true) (b__law_cell : Binds K fd__law_cell ["script", "k"] []) {f__law_closed : Addr} {fd__law_closed : FuncData} (G__law_closed : FnOk P w K mg base (L2.CX P w) 1 f__law_closed fd__law_closed ["draws", "at", "most"] (spD K mg 3 d__law_closed)) (g__law_closed : mg "_law_closed" = some (.ref f__law_closed)) (k__law_closed : PySem.W.keepIn K (.ref f__law_closed) = true) (b__law_closed : Binds K fd__law_closed ["draws", "at", "most"] []) {f__law_counts : Addr} {fd__law_counts : FuncData} (G__law_counts : FnOk P w K mg base (L2.CX P w) 2 f__law_counts fd__law_counts ["closed", "begin", "visits", "stop"] (spD K mg 4 d__law_counts)) (g__law_counts : mg "_law_counts" = some (.ref f__law_counts)) (k__law_counts : PySem.W.keepIn K (.ref f__law_counts) = true) (b__law_counts : Binds K fd__law_counts ["closed", "begin", "visits", "stop"] []) {f__law_end : Addr} {fd__law_end : FuncData} (G__law_end : FnOk P w K mg base (L2.CX P w) 2 f__law_end fd__law_end ["closed", "days", "begin", "visits"] (spD K mg 4 d__law_end)) (g__law_end : mg "_law_end" = some (.ref f__law_end)) (k__law_end : PySem.W.keepIn K (.ref f__law_end) = true) (b__law_end : Binds K fd__law_end ["closed", "days", "begin", "visits"] []) {f__law_numbers : Addr} {fd__law_numbers : FuncData} (G__law_numbers : FnOk P w K mg base (L2.CX P w) 1 f__law_numbers fd__law_numbers ["cell", "count", "limit"] (spD K mg 3 d__law_numbers)) (g__law_numbers : mg "_law_numbers" = some (.ref f__law_numbers)) (k__law_numbers : PySem.W.keepIn K (.ref f__law_numbers) = true) (b__law_numbers : Binds K fd__law_numbers ["cell", "count", "limit"] []) {f__law_same : Addr} {fd__law_same : FuncData} (G__law_same : FnOk P w K mg base (L2.CX P w) 13 f__law_same fd__law_same ["told", "due"] (spD K mg 2 (d__law_same 12))) (g__law_same : mg "_law_same" = some (.ref f__law_same)) (k__law_same : PySem.W.keepIn K (.ref f__law_same) = true) (b__law_same : Binds K fd__law_same ["told", "due"] []) {f__law_tariffs : Addr} {fd__law_tariffs : FuncData} (G__law_tariffs : FnOk P w K mg base (L2.CX P w) 14 f__law_tariffs fd__law_tariffs ["script", "draws"] (spD K mg 2 d__law_tariffs)) (g__law_tariffs : mg "_law_tariffs" = some (.ref f__law_tariffs)) (k__law_tariffs : PySem.W.keepIn K (.ref f__law_tariffs) = true) (b__law_tariffs : Binds K fd__law_tariffs ["script", "draws"] []) {f__law_visits : Addr} {fd__law_visits : FuncData} (G__law_visits : FnOk P w K mg base (L2.CX P w) 1 f__law_visits fd__law_visits ["draws", "begin", "count", "last"] (spD K mg 4 d__law_visits)) (g__law_visits : mg "_law_visits" = some (.ref f__law_visits)) (k__law_visits : PySem.W.keepIn K (.ref f__law_visits) = true) (b__law_visits : Binds K fd__law_visits ["draws", "begin", "count", "last"] []) {f_end_of : Addr} {fd_end_of : FuncData} (G_end_of : FnOk P w K mg base (L2.CX P w) 5 f_end_of fd_end_of ["closed", "days", "begin", "visits"] (spD K mg 4 d_end_of)) (g_end_of : mg "end_of" = some (.ref f_end_of)) (k_end_of : PySem.W.keepIn K (.ref f_end_of) = true) (b_end_of : Binds K fd_end_of ["closed", "days", "begin", "visits"] []) {f_free_visits : Addr} {fd_free_visits : FuncData} (G_free_visits : FnOk P w K mg base (L2.CX P w) 5 f_free_visits fd_free_visits ["closed", "days", "begin", "visits"] (spD K mg 4 d_free_visits)) (g_free_visits : mg "free_visits" = some (.ref f_free_visits)) (k_free_visits : PySem.W.keepIn K (.ref f_free_visits) = true) (b_free_visits : Binds K fd_free_visits ["closed", "days", "begin", "visits"] []) {f_holds_on : Addr} {fd_holds_on : FuncData} (G_holds_on : FnOk P w K mg base (L2.CX P w) 4 f_holds_on fd_holds_on ["closed", "days", "begin", "visits", "day"] (spD K mg 5 d_holds_on)) (g_holds_on : mg "holds_on" = some (.ref f_holds_on)) (k_holds_on : PySem.W.keepIn K (.ref f_holds_on) = true) (b_holds_on : Binds K fd_holds_on ["closed", "days", "begin", "visits", "day"] []) (m_int : mg "int" = none) (m_len : mg "len" = none) (m_max : mg "max" = none) (m_range : mg "range" = none) (m_repr : mg "repr" = none) (m_sorted : mg "sorted" = none) : RunC P w K mg base (L2.CX P w) f fd ["script"] (spD K mg 1 d_law) := by
  have nd := (sc_law).nd
  exact fn_runC (k := 14) (m := 16) F sc_law rfl rfl ⟨rfl, by decide +kernel, by decide +kernel⟩ fun cdv s H Q E hr => ⟨_, _, (dss_cons (ds_share 0 (ds_set 1 nd (de_sh (de_callK (K := K) (mg := mg) G__law_numbers (hr.mono (by omega)) (takes_of (by rfl) (by rfl) (by rfl) (by rfl)) (by rfl) g__law_numbers k__law_numbers b__law_numbers (das_cons (dv_of (de_callK (K := K) (mg := mg) G__law_cell (hr.mono (by omega)) (takes_of (by rfl) (by rfl) (by rfl) (by rfl)) (by rfl) g__law_cell k__law_cell b__law_cell (das_cons (dv_var 0) (das_cons (dv_of de_int) das_nil)))) (das_cons (dv_of de_int) (das_cons (dv_of de_int) das_nil))))))) (dss_cons (ds_share 1 (ds_share 0 (ds_if (dt_not (dt_truK (K := K) (dv_of (de_callK (K := K) (mg := mg) G__law_tariffs (hr.mono (by omega)) (takes_of (by rfl) (by rfl) (by rfl) (by rfl)) (by rfl) g__law_tariffs k__law_tariffs b__law_tariffs (das_cons (dv_var 0) (das_cons (dv_var 1) das_nil)))))) (dss_one (ds_ret de_bl)) dss_nil))) (dss_cons (ds_share 0 (ds_set 2 nd (de_sh (de_callK (K := K) (mg := mg) G__law_numbers (hr.mono (by omega)) (takes_of (by rfl) (by rfl) (by rfl) (by rfl)) (by rfl) g__law_numbers k__law_numbers b__law_numbers (das_cons (dv_of (de_callK (K := K) (mg := mg) G__law_cell (hr.mono (by omega)) (takes_of (by rfl) (by rfl) (by rfl) (by rfl)) (by rfl) g__law_cell k__law_cell b__law_cell (das_cons (dv_var 0) (das_cons (dv_of de_int) das_nil)))) (das_cons (dv_of de_int) (das_cons (dv_of de_int) das_nil))))))) (dss_cons (ds_set 3 nd (de_sh (de_cmp (op_eqsK (K := K) (by exact hr.units)) sem_eq (dv_of (de_op op_mod sem_mod (dv_ixK (K := K) (dv_var 2) (dv_of de_int)) (dv_of de_int))) (dv_of de_int) (nomark _)))) (dss_cons (ds_set 4 nd (de_sh (de_esc (dv_ixK (K := K) (dv_of (de_list (dae_cons (de_op op_mod sem_mod (dv_ixK (K := K) (dv_var 2) (dv_of de_int)) (dv_of de_int)) (dae_cons (de_op op_sub sem_I0 (dv_of de_int) (dv_of (de_op op_mod sem_mod (dv_ixK (K := K) (dv_var 2) (dv_of de_int)) (dv_of de_int)))) dae_nil)))) (dv_of (de_callTy call_int1 sem_int1 (by rfl) m_int (by decide +kernel) (das_cons (dv_var 3) das_nil))))))) (dss_cons (ds_share 2 (ds_set 5 nd (de_sh (de_callK (K := K) (mg := mg) G__law_closed (hr.mono (by omega)) (takes_of (by rfl) (by rfl) (by rfl) (by rfl)) (by rfl) g__law_closed k__law_closed b__law_closed (das_cons (dv_var 2) (das_cons (dv_of de_int) (das_cons (dv_of de_int) das_nil))))))) (dss_cons (ds_if (dt_truK (K := K) (dv_var 3)) (dss_one (ds_share 5 (ds_set 5 nd (de_sh (de_callB (cr_sortedIK (K := K)) sem_sortI (by rfl) m_sorted (by decide +kernel) (das_cons (dv_of (de_lc (own := [("day", 11)]) [11] (by rfl) nd (di_seqK (K := K) (dv_var 5)) (blkOk_by (by kernel_rfl)) (fun _ _ _ _ _ => (dg_name 11 nd)) (fun _ _ _ _ _ => dts_nil) (fun _ _ _ _ _ => (de_op op_sub sem_I0 (dv_of de_int) (dv_var 11))))) das_nil)))))) dss_nil) (dss_cons (ds_set 6 nd (de_sh (de_esc (dv_ixK (K := K) (dv_of (de_list (dae_cons de_int (dae_cons de_int (dae_cons (de_op op_mod sem_mod (dv_ixK (K := K) (dv_var 2) (dv_of de_int)) (dv_of de_int)) (dae_cons (de_op op_mod sem_mod (dv_ixK (K := K) (dv_var 2) (dv_of de_int)) (dv_of de_int)) (dae_cons (de_op op_mod sem_mod (dv_ixK (K := K) (dv_var 2) (dv_of de_int)) (dv_of de_int)) dae_nil))))))) (dv_of (de_op op_mod sem_mod (dv_ixK (K := K) (dv_var 2) (dv_of de_int)) (dv_of de_int))))))) (dss_cons (ds_share 4 (ds_set 7 nd (de_sh (de_callK (K := K) (mg := mg) G__law_visits (hr.mono (by omega)) (takes_of (by rfl) (by rfl) (by rfl) (by rfl)) (by rfl) g__law_visits k__law_visits b__law_visits (das_cons (dv_of (de_slice (sl_allK (K := K)) sem_sl (dv_var 2) (do_some (dv_of de_int)) do_none)) (das_cons (dv_var 4) (das_cons (dv_of (de_op op_mod sem_mod (dv_ixK (K := K) (dv_var 2) (dv_of de_int)) (dv_of de_int))) (das_cons (dv_of de_int) das_nil)))))))) (dss_cons (ds_share 7 (ds_share 5 (ds_set 8 nd (de_sh (de_callB (call_reprD (by rfl) (by exact u150 hr)) sem_repr (by rfl) m_repr (by decide +kernel) (das_cons (dv_of (de_tuple (dae_cons (de_esc (dv_var 5)) (dae_cons (de_esc (dv_var 7)) dae_nil)))) das_nil)))))) (dss_cons (ds_share 7 (ds_share 4 (ds_share 6 (ds_share 5 (ds_set 9 nd (de_sh (de_callK (K := K) (mg := mg) G__law_end (hr.mono (by omega)) (takes_of (by rfl) (by rfl) (by rfl) (by rfl)) (by rfl) g__law_end k__law_end b__law_end (das_cons (dv_var 5) (das_cons (dv_var 6) (das_cons (dv_var 4) (das_cons (dv_var 7) das_nil))))))))))) (dss_cons (ds_share 9 (ds_share 7 (ds_share 4 (ds_share 6 (ds_share 5 (ds_if (dt_not (dt_truK (K := K) (dv_of (de_callK (K := K) (mg := mg) G__law_same (hr.mono (by omega)) (takes_of (by rfl) (by rfl) (by rfl) (by rfl)) (by rfl) g__law_same k__law_same b__law_same (das_cons (dv_of (de_callK (K := K) (mg := mg) G_end_of (hr.mono (by omega)) (takes_of (by rfl) (by rfl) (by rfl) (by rfl)) (by rfl) g_end_of k_end_of b_end_of (das_cons (dv_var 5) (das_cons (dv_var 6) (das_cons (dv_var 4) (das_cons (dv_var 7) das_nil)))))) (das_cons (dv_var 9) das_nil)))))) (dss_one (ds_ret de_bl)) dss_nil)))))) (dss_cons (ds_share 4 (ds_set 10 nd (de_sh (de_op (op_plusK (K := K)) sem_add (dv_of (de_lc (own := [("k", 16)]) [16] (by rfl) nd (di_range1 (by rfl) m_range (das_cons (dv_of de_int) das_nil)) (blkOk_by (by kernel_rfl)) (fun _ _ _ _ _ => (dg_name 16 nd)) (fun _ _ _ _ _ => dts_nil) (fun _ _ _ _ _ => (de_op (op_plusK (K := K)) sem_add (dv_var 4) (dv_of (de_op op_mod sem_mod (dv_ixK (K := K) (dv_var 2) (dv_of (de_op (op_plusK (K := K)) sem_add (dv_of de_int) (dv_var 16)))) (dv_ixK (K := K) (dv_of (de_list (dae_cons de_int (dae_cons de_int (dae_cons de_int dae_nil))))) (dv_of (de_op op_mod sem_mod (dv_var 16) (dv_of de_int)))))))))) (dv_of (de_list (dae_cons (de_esc (dv_var 4)) dae_nil))))))) (dss_cons (ds_if (dt_cmp op_notN sem_notN (dv_var 9) (dv_of de_non) (nomark _)) (dss_one (ds_share 9 (ds_set 10 nd (de_sh (de_op (op_plusK (K := K)) sem_add (dv_var 10) (dv_of (de_list (dae_cons (de_esc (dv_var 9)) (dae_cons (de_op (op_plusK (K := K)) sem_add (dv_var 9) (dv_of de_int)) (dae_cons (de_callB (cr_maxK (K := K) (by rfl)) sem_max (by rfl) m_max (by decide +kernel) (das_cons (dv_var 4) (das_cons (dv_of (de_op op_sub sem_I0 (dv_var 9) (dv_of de_int))) das_nil))) dae_nil)))))))))) dss_nil) (dss_cons (ds_share 10 (ds_for (passes_of (by rfl)) (by rfl) (di_seqK (K := K) (dv_var 10)) (dg_name 11 nd) (dss_cons (ds_share 11 (ds_share 7 (ds_share 4 (ds_share 5 (ds_set 12 nd (de_sh (de_cmp op_lt sem_B0 (dv_of (de_callK (K := K) (mg := mg) G__law_counts (hr.mono (by omega)) (takes_of (by rfl) (by rfl) (by rfl) (by rfl)) (by rfl) g__law_counts k__law_counts b__law_counts (das_cons (dv_var 5) (das_cons (dv_var 4) (das_cons (dv_var 7) (das_cons (dv_var 11) das_nil)))))) (dv_var 6) (nomark _)))))))) (dss_one (ds_share 12 (ds_share 11 (ds_share 7 (ds_share 4 (ds_share 6 (ds_share 5 (ds_if (dt_bool (dw_or (dt_not (dt_truK (K := K) (dv_of (de_callK (K := K) (mg := mg) G__law_same (hr.mono (by omega)) (takes_of (by rfl) (by rfl) (by rfl) (by rfl)) (by rfl) g__law_same k__law_same b__law_same (das_cons (dv_of (de_callK (K := K) (mg := mg) G_holds_on (hr.mono (by omega)) (takes_of (by rfl) (by rfl) (by rfl) (by rfl)) (by rfl) g_holds_on k_holds_on b_holds_on (das_cons (dv_var 5) (das_cons (dv_var 6) (das_cons (dv_var 4) (das_cons (dv_var 7) (das_cons (dv_var 11) das_nil))))))) (das_cons (dv_var 12) das_nil)))))) (dw_or1 (dt_bool (dw_and (dt_cmp op_notN sem_notN (dv_var 9) (dv_of de_non) (nomark _)) (dw_and1 (dt_cmp (op_nesK (K := K) (by exact hr.units)) sem_ne (dv_var 12) (dv_of (de_cmp op_lt sem_B0 (dv_var 11) (dv_var 9) (nomark _))) (nomark _)))))))) (dss_one (ds_ret de_bl)) dss_nil))))))))))) (dss_cons (ds_share 4 (ds_share 5 (ds_setLcSh (own := [("k", 16)]) 13 [16] (by rfl) nd (di_range1 (by rfl) m_range (das_cons (dv_of (de_callB (cr_lenK (K := K)) sem_len (by rfl) m_len (by decide +kernel) (das_cons (dv_var 7) das_nil))) das_nil)) (blkOk_by (by kernel_rfl)) (fun _ _ _ _ _ => (dg_name 16 nd)) (fun _ _ _ _ _ => dts_nil) (fun _ _ _ _ _ => (de_cmp op_lt sem_B0 (dv_of (de_callK (K := K) (mg := mg) G__law_counts (hr.mono (by omega)) takes0 (by rfl) g__law_counts k__law_counts b__law_counts (das_cons (dv_var 5) (das_cons (dv_var 4) (das_cons (dv_of (de_slice (sl_allK (K := K)) sem_sl (dv_var 7) (do_some (dv_of de_int)) (do_some (dv_var 16)))) (das_cons (dv_ixK (K := K) (dv_ixK (K := K) (dv_var 7) (dv_var 16)) (dv_of de_int)) das_nil)))))) (dv_var 6) (nomark _)))))) (dss_cons (ds_for (passes_of (by rfl)) (by rfl) (di_range1 (by rfl) m_range (das_cons (dv_of de_int) das_nil)) (dg_name 14 nd) (dss_cons (ds_share 7 (ds_share 4 (ds_share 6 (ds_share 5 (ds_set 15 nd (de_callK (K := K) (mg := mg) G_free_visits (hr.mono (by omega)) (takes_of (by rfl) (by rfl) (by rfl) (by rfl)) (by rfl) g_free_visits k_free_visits b_free_visits (das_cons (dv_var 5) (das_cons (dv_var 6) (das_cons (dv_var 4) (das_cons (dv_var 7) das_nil)))))))))) (dss_cons (ds_share 7 (ds_share 5 (ds_share 13 (ds_if (dt_bool (dw_or (dt_not (dt_truK (K := K) (dv_of (de_callK (K := K) (mg := mg) G__law_same (hr.mono (by omega)) (takes_of (by rfl) (by rfl) (by rfl) (by rfl)) (by rfl) g__law_same k__law_same b__law_same (das_cons (dv_var 15) (das_cons (dv_var 13) das_nil)))))) (dw_or1 (dt_cmp (op_nesK (K := K) (by exact hr.units)) sem_ne (dv_of (de_callB (call_reprD (by rfl) (by exact u150 hr)) sem_repr (by rfl) m_repr (by decide +kernel) (das_cons (dv_of (de_tuple (dae_cons (de_esc (dv_var 5)) (dae_cons (de_esc (dv_var 7)) dae_nil)))) das_nil))) (dv_var 8) (nomark _))))) (dss_one (ds_ret de_bl)) dss_nil)))) (dss_one (ds_app 15 de_bl))))) (dss_cons (ds_for (passes_of (by rfl)) (by rfl) (di_range1 (by rfl) m_range (das_cons (dv_of (de_callB (cr_lenK (K := K)) sem_len (by rfl) m_len (by decide +kernel) (das_cons (dv_var 7) das_nil))) das_nil)) (dg_name 16 nd) (dss_one (ds_share 4 (ds_share 6 (ds_share 5 (ds_if (dt_cmp (op_nesK (K := K) (by exact hr.units)) sem_ne (dv_of (de_callK (K := K) (mg := mg) G_free_visits (hr.mono (by omega)) (takes_of (by rfl) (by rfl) (by rfl) (by rfl)) (by rfl) g_free_visits k_free_visits b_free_visits (das_cons (dv_var 5) (das_cons (dv_var 6) (das_cons (dv_var 4) (das_cons (dv_of (de_slice (sl_allK (K := K)) sem_sl (dv_var 7) (do_some (dv_of de_int)) (do_some (dv_var 16)))) das_nil)))))) (dv_of (de_slice (sl_allK (K := K)) sem_sl (dv_var 13) (do_some (dv_of de_int)) (do_some (dv_var 16)))) (nomark _)) (dss_one (ds_ret de_bl)) dss_nil)))))) (dss_cons (ds_if (dt_cmp (op_nesK (K := K) (by exact hr.units)) sem_ne (dv_of (de_cmp op_isN sem_isN (dv_var 9) (dv_of de_non) (nomark _))) (dv_of (de_and (dv_of (de_cmp op_gt sem_B0 (dv_of (de_callB (cr_lenK (K := K)) sem_len (by rfl) m_len (by decide +kernel) (das_cons (dv_var 7) das_nil))) (dv_of de_int) (nomark _))) (de_and (dv_of (de_cmp op_isN sem_isN (dv_ixK (K := K) (dv_ixK (K := K) (dv_var 7) (dv_of (de_op op_sub sem_I0 (dv_of (de_callB (cr_lenK (K := K)) sem_len (by rfl) m_len (by decide +kernel) (das_cons (dv_var 7) das_nil))) (dv_of de_int)))) (dv_of de_int)) (dv_of de_non) (nomark _))) (de_one (de_esc (dv_ixK (K := K) (dv_var 13) (dv_of (de_op op_sub sem_I0 (dv_of (de_callB (cr_lenK (K := K)) sem_len (by rfl) m_len (by decide +kernel) (das_cons (dv_var 13) das_nil))) (dv_of de_int))))))))) (nomark _)) (dss_one (ds_ret de_bl)) dss_nil) (dss_one (ds_share 7 (ds_share 5 (ds_ret (de_cmp (op_eqsK (K := K) (by exact hr.units)) sem_eq (dv_of (de_callB (call_reprD (by rfl) (by exact u150 hr)) sem_repr (by rfl) m_repr (by decide +kernel) (das_cons (dv_of (de_tuple (dae_cons (de_esc (dv_var 5)) (dae_cons (de_esc (dv_var 7)) dae_nil)))) das_nil))) (dv_var 8) (nomark _)))))))))))))))))))))))))⟩
end G
set_option Elab.async false
set_option linter.all false
set_option maxRecDepth 100000
namespace G
open PL PySem
abbrev I (n : Int) : PyData := .int n
abbrev L (ns : List Int) : PyData := .list (ns.map PyData.int)
/-! open_days -/
def openC (closed : List Int) (a b : Int) : Int := if b ≤ a then 0 else b - a - ((closed.filter fun d => decide (a ≤ d) && decide (d < b)).length : Nat)
theorem w_open_days (cl : List Int) (a b : Int) (h : cl.length ≤ 2 ^ 24) : d_open_days [.sh (L cl), .sh (I a), .sh (I b)] = .ok (.sh (I (openC cl a b))) := by
  refine fn_eq rfl ?_
  refine p_seq (p_ifD (p := b ≤ a) ?_ (fun hp => ?_) fun hp => ?_)
  · simp only [evVar, En.get, evC, evBin, evSh, evEsc, evB, evEB, evChain, evAnd, evOr, evNot, evAndV, evOrV, evNotV, evIf, evCons, evNil, evLst, evTup, evCall, callF, evSl, eoN, eoS, evUn, evC1, evIsi, evTru, erg1, erg2, evLRg, evTRg, eiSeq, eiEnum, eiZip, x_bind, x_rs, x_asB, x_asI, x_bifB, x_bifO, x_andB, x_orB, x_bifI, List.length_map, en0, List.replicate, List.cons_append, List.nil_append, T.asD, T.items, T.itL, T.itT, T.er, T.ers, T.noScr, T.noScrs, T.shs, mkL, mkT, T.isSh, T.argOk, T.toArg, T.solid, T.isL, appT, T.parts, putAll, T.tru, T.ty, tyD, En.put, En.clr, En.share, egName, egTup, egCons, egNil, Option.map_some, Option.map_none, Option.bind_some, Option.bind, List.all_cons, List.all_nil, List.map_cons, List.map_nil, List.length_cons, List.length_nil, Bool.and_true, Bool.true_and, Bool.and_self, Bool.not_true, Bool.not_false, if_true, cond_true, cond_false, Bool.false_eq_true, if_false, true_and, and_true, Rs.P_ok, Bool.and_false, Bool.false_and, Nat.reduceAdd, Nat.reduceLeDiff, Nat.reduceEqDiff, reduceCtorEq, x_add, x_iadd, x_sub, x_lt, x_le, x_gt, x_ge, x_eq, x_ne, x_eqB, x_neB, x_eqS, x_neS, x_max2, x_min2, x_int1, x_intB, x_lenL, x_lenT, x_lenO, x_lenS, x_sumL, x_sumO, x_sortL, x_sortO, x_listL, x_listT, x_listO, x_isN, x_isNn, x_isNi, x_isNl, x_isNt, x_isNb, x_notN, x_ixL, x_ixT, x_ixO, x_ixS, x_ix0, x_ix1, x_ix2, x_sl, x_slO, x_slT, x_inL, x_inO, x_ninL, x_ninO]
  · refine p_ret ?_
    simp only [evVar, En.get, evC, evBin, evSh, evEsc, evB, evEB, evChain, evAnd, evOr, evNot, evAndV, evOrV, evNotV, evIf, evCons, evNil, evLst, evTup, evCall, callF, evSl, eoN, eoS, evUn, evC1, evIsi, evTru, erg1, erg2, evLRg, evTRg, eiSeq, eiEnum, eiZip, x_bind, x_rs, x_asB, x_asI, x_bifB, x_bifO, x_andB, x_orB, x_bifI, List.length_map, en0, List.replicate, List.cons_append, List.nil_append, T.asD, T.items, T.itL, T.itT, T.er, T.ers, T.noScr, T.noScrs, T.shs, mkL, mkT, T.isSh, T.argOk, T.toArg, T.solid, T.isL, appT, T.parts, putAll, T.tru, T.ty, tyD, En.put, En.clr, En.share, egName, egTup, egCons, egNil, Option.map_some, Option.map_none, Option.bind_some, Option.bind, List.all_cons, List.all_nil, List.map_cons, List.map_nil, List.length_cons, List.length_nil, Bool.and_true, Bool.true_and, Bool.and_self, Bool.not_true, Bool.not_false, if_true, cond_true, cond_false, Bool.false_eq_true, if_false, true_and, and_true, Rs.P_ok, Bool.and_false, Bool.false_and, Nat.reduceAdd, Nat.reduceLeDiff, Nat.reduceEqDiff, reduceCtorEq, x_add, x_iadd, x_sub, x_lt, x_le, x_gt, x_ge, x_eq, x_ne, x_eqB, x_neB, x_eqS, x_neS, x_max2, x_min2, x_int1, x_intB, x_lenL, x_lenT, x_lenO, x_lenS, x_sumL, x_sumO, x_sortL, x_sortO, x_listL, x_listT, x_listO, x_isN, x_isNn, x_isNi, x_isNl, x_isNt, x_isNb, x_notN, x_ixL, x_ixT, x_ixO, x_ixS, x_ix0, x_ix1, x_ix2, x_sl, x_slO, x_slT, x_inL, x_inO, x_ninL, x_ninO, openC, hp]
  · refine p_nil (p_share (p_ret ?_))
    simp only [evVar, En.get, evC, evBin, evSh, evEsc, evB, evEB, evChain, evAnd, evOr, evNot, evAndV, evOrV, evNotV, evIf, evCons, evNil, evLst, evTup, evCall, callF, evSl, eoN, eoS, evUn, evC1, evIsi, evTru, erg1, erg2, evLRg, evTRg, eiSeq, eiEnum, eiZip, x_bind, x_rs, x_asB, x_asI, x_bifB, x_bifO, x_andB, x_orB, x_bifI, List.length_map, en0, List.replicate, List.cons_append, List.nil_append, T.asD, T.items, T.itL, T.itT, T.er, T.ers, T.noScr, T.noScrs, T.shs, mkL, mkT, T.isSh, T.argOk, T.toArg, T.solid, T.isL, appT, T.parts, putAll, T.tru, T.ty, tyD, En.put, En.clr, En.share, egName, egTup, egCons, egNil, Option.map_some, Option.map_none, Option.bind_some, Option.bind, List.all_cons, List.all_nil, List.map_cons, List.map_nil, List.length_cons, List.length_nil, Bool.and_true, Bool.true_and, Bool.and_self, Bool.not_true, Bool.not_false, if_true, cond_true, cond_false, Bool.false_eq_true, if_false, true_and, and_true, Rs.P_ok, Bool.and_false, Bool.false_and, Nat.reduceAdd, Nat.reduceLeDiff, Nat.reduceEqDiff, reduceCtorEq, x_add, x_iadd, x_sub, x_lt, x_le, x_gt, x_ge, x_eq, x_ne, x_eqB, x_neB, x_eqS, x_neS, x_max2, x_min2, x_int1, x_intB, x_lenL, x_lenT, x_lenO, x_lenS, x_sumL, x_sumO, x_sortL, x_sortO, x_listL, x_listT, x_listO, x_isN, x_isNn, x_isNi, x_isNl, x_isNt, x_isNb, x_notN, x_ixL, x_ixT, x_ixO, x_ixS, x_ix0, x_ix1, x_ix2, x_sl, x_slO, x_slT, x_inL, x_inO, x_ninL, x_ninO]
    rw [comp_eq (l := cl) (f := PyData.int) (k := fun d => decide (a ≤ d) && decide (d < b)) (h := PyData.int)]
    · simp only [evVar, En.get, evC, evBin, evSh, evEsc, evB, evEB, evChain, evAnd, evOr, evNot, evAndV, evOrV, evNotV, evIf, evCons, evNil, evLst, evTup, evCall, callF, evSl, eoN, eoS, evUn, evC1, evIsi, evTru, erg1, erg2, evLRg, evTRg, eiSeq, eiEnum, eiZip, x_bind, x_rs, x_asB, x_asI, x_bifB, x_bifO, x_andB, x_orB, x_bifI, List.length_map, en0, List.replicate, List.cons_append, List.nil_append, T.asD, T.items, T.itL, T.itT, T.er, T.ers, T.noScr, T.noScrs, T.shs, mkL, mkT, T.isSh, T.argOk, T.toArg, T.solid, T.isL, appT, T.parts, putAll, T.tru, T.ty, tyD, En.put, En.clr, En.share, egName, egTup, egCons, egNil, Option.map_some, Option.map_none, Option.bind_some, Option.bind, List.all_cons, List.all_nil, List.map_cons, List.map_nil, List.length_cons, List.length_nil, Bool.and_true, Bool.true_and, Bool.and_self, Bool.not_true, Bool.not_false, if_true, cond_true, cond_false, Bool.false_eq_true, if_false, true_and, and_true, Rs.P_ok, Bool.and_false, Bool.false_and, Nat.reduceAdd, Nat.reduceLeDiff, Nat.reduceEqDiff, reduceCtorEq, x_add, x_iadd, x_sub, x_lt, x_le, x_gt, x_ge, x_eq, x_ne, x_eqB, x_neB, x_eqS, x_neS, x_max2, x_min2, x_int1, x_intB, x_lenL, x_lenT, x_lenO, x_lenS, x_sumL, x_sumO, x_sortL, x_sortO, x_listL, x_listT, x_listO, x_isN, x_isNn, x_isNi, x_isNl, x_isNt, x_isNb, x_notN, x_ixL, x_ixT, x_ixO, x_ixS, x_ix0, x_ix1, x_ix2, x_sl, x_slO, x_slT, x_inL, x_inO, x_ninL, x_ninO, openC, hp]
    · simp only [evVar, En.get, evC, evBin, evSh, evEsc, evB, evEB, evChain, evAnd, evOr, evNot, evAndV, evOrV, evNotV, evIf, evCons, evNil, evLst, evTup, evCall, callF, evSl, eoN, eoS, evUn, evC1, evIsi, evTru, erg1, erg2, evLRg, evTRg, eiSeq, eiEnum, eiZip, x_bind, x_rs, x_asB, x_asI, x_bifB, x_bifO, x_andB, x_orB, x_bifI, List.length_map, en0, List.replicate, List.cons_append, List.nil_append, T.asD, T.items, T.itL, T.itT, T.er, T.ers, T.noScr, T.noScrs, T.shs, mkL, mkT, T.isSh, T.argOk, T.toArg, T.solid, T.isL, appT, T.parts, putAll, T.tru, T.ty, tyD, En.put, En.clr, En.share, egName, egTup, egCons, egNil, Option.map_some, Option.map_none, Option.bind_some, Option.bind, List.all_cons, List.all_nil, List.map_cons, List.map_nil, List.length_cons, List.length_nil, Bool.and_true, Bool.true_and, Bool.and_self, Bool.not_true, Bool.not_false, if_true, cond_true, cond_false, Bool.false_eq_true, if_false, true_and, and_true, Rs.P_ok, Bool.and_false, Bool.false_and, Nat.reduceAdd, Nat.reduceLeDiff, Nat.reduceEqDiff, reduceCtorEq, x_add, x_iadd, x_sub, x_lt, x_le, x_gt, x_ge, x_eq, x_ne, x_eqB, x_neB, x_eqS, x_neS, x_max2, x_min2, x_int1, x_intB, x_lenL, x_lenT, x_lenO, x_lenS, x_sumL, x_sumO, x_sortL, x_sortO, x_listL, x_listT, x_listO, x_isN, x_isNn, x_isNi, x_isNl, x_isNt, x_isNb, x_notN, x_ixL, x_ixT, x_ixO, x_ixS, x_ix0, x_ix1, x_ix2, x_sl, x_slO, x_slT, x_inL, x_inO, x_ninL, x_ninO]
    · exact h
    · intro d hd
      refine ⟨_, rfl, ?_⟩
      simp only [evVar, En.get, evC, evBin, evSh, evEsc, evB, evEB, evChain, evAnd, evOr, evNot, evAndV, evOrV, evNotV, evIf, evCons, evNil, evLst, evTup, evCall, callF, evSl, eoN, eoS, evUn, evC1, evIsi, evTru, erg1, erg2, evLRg, evTRg, eiSeq, eiEnum, eiZip, x_bind, x_rs, x_asB, x_asI, x_bifB, x_bifO, x_andB, x_orB, x_bifI, List.length_map, en0, List.replicate, List.cons_append, List.nil_append, T.asD, T.items, T.itL, T.itT, T.er, T.ers, T.noScr, T.noScrs, T.shs, mkL, mkT, T.isSh, T.argOk, T.toArg, T.solid, T.isL, appT, T.parts, putAll, T.tru, T.ty, tyD, En.put, En.clr, En.share, egName, egTup, egCons, egNil, Option.map_some, Option.map_none, Option.bind_some, Option.bind, List.all_cons, List.all_nil, List.map_cons, List.map_nil, List.length_cons, List.length_nil, Bool.and_true, Bool.true_and, Bool.and_self, Bool.not_true, Bool.not_false, if_true, cond_true, cond_false, Bool.false_eq_true, if_false, true_and, and_true, Rs.P_ok, Bool.and_false, Bool.false_and, Nat.reduceAdd, Nat.reduceLeDiff, Nat.reduceEqDiff, reduceCtorEq, x_add, x_iadd, x_sub, x_lt, x_le, x_gt, x_ge, x_eq, x_ne, x_eqB, x_neB, x_eqS, x_neS, x_max2, x_min2, x_int1, x_intB, x_lenL, x_lenT, x_lenO, x_lenS, x_sumL, x_sumO, x_sortL, x_sortO, x_listL, x_listT, x_listO, x_isN, x_isNn, x_isNi, x_isNl, x_isNt, x_isNb, x_notN, x_ixL, x_ixT, x_ixO, x_ixS, x_ix0, x_ix1, x_ix2, x_sl, x_slO, x_slT, x_inL, x_inO, x_ninL, x_ninO]
      simp only [imp_self, implies_true]
/-! visits -/
abbrev V := Int × Option Int
def oD : Option Int → PyData
  | none => .none
  | some i => .int i
abbrev vD (v : V) : PyData := .tuple [.int v.1, oD v.2]
def stopC (b : Option Int) (day : Int) : Int := match b with
  | none => day
  | some x => min day x
def awayC (cl : List Int) (v : V) (begin day : Int) : Int := openC cl (max begin v.1) (stopC v.2 day)
theorem w_away_days (cl : List Int) (v : V) (begin day : Int) (h : cl.length ≤ 2 ^ 24) : d_away_days [.sh (L cl), .sh (vD v), .sh (I begin), .sh (I day)] = .ok (.sh (I (awayC cl v begin day))) := by
  refine fn_eq rfl ?_
  refine p_seq (p_share (p_unp ?_))
  simp only [evVar, En.get, evC, evBin, evSh, evEsc, evB, evEB, evChain, evAnd, evOr, evNot, evAndV, evOrV, evNotV, evIf, evCons, evNil, evLst, evTup, evCall, callF, evSl, eoN, eoS, evUn, evC1, evIsi, evTru, erg1, erg2, evLRg, evTRg, eiSeq, eiEnum, eiZip, x_bind, x_rs, x_asB, x_asI, x_bifB, x_bifO, x_andB, x_orB, x_bifI, List.length_map, en0, List.replicate, List.cons_append, List.nil_append, T.asD, T.items, T.itL, T.itT, T.er, T.ers, T.noScr, T.noScrs, T.shs, mkL, mkT, T.isSh, T.argOk, T.toArg, T.solid, T.isL, appT, T.parts, putAll, T.tru, T.ty, tyD, En.put, En.clr, En.share, egName, egTup, egCons, egNil, Option.map_some, Option.map_none, Option.bind_some, Option.bind, List.all_cons, List.all_nil, List.map_cons, List.map_nil, List.length_cons, List.length_nil, Bool.and_true, Bool.true_and, Bool.and_self, Bool.not_true, Bool.not_false, if_true, cond_true, cond_false, Bool.false_eq_true, if_false, true_and, and_true, Rs.P_ok, Bool.and_false, Bool.false_and, Nat.reduceAdd, Nat.reduceLeDiff, Nat.reduceEqDiff, reduceCtorEq, x_add, x_iadd, x_sub, x_lt, x_le, x_gt, x_ge, x_eq, x_ne, x_eqB, x_neB, x_eqS, x_neS, x_max2, x_min2, x_int1, x_intB, x_lenL, x_lenT, x_lenO, x_lenS, x_sumL, x_sumO, x_sortL, x_sortO, x_listL, x_listT, x_listO, x_isN, x_isNn, x_isNi, x_isNl, x_isNt, x_isNb, x_notN, x_ixL, x_ixT, x_ixO, x_ixS, x_ix0, x_ix1, x_ix2, x_sl, x_slO, x_slT, x_inL, x_inO, x_ninL, x_ninO]
  refine ⟨_, _, rfl, rfl, p_seq (p_share (p_set ?_))⟩
  obtain ⟨br, _ | x⟩ := v
  · simp only [evVar, En.get, evC, evBin, evSh, evEsc, evB, evEB, evChain, evAnd, evOr, evNot, evAndV, evOrV, evNotV, evIf, evCons, evNil, evLst, evTup, evCall, callF, evSl, eoN, eoS, evUn, evC1, evIsi, evTru, erg1, erg2, evLRg, evTRg, eiSeq, eiEnum, eiZip, x_bind, x_rs, x_asB, x_asI, x_bifB, x_bifO, x_andB, x_orB, x_bifI, List.length_map, en0, List.replicate, List.cons_append, List.nil_append, T.asD, T.items, T.itL, T.itT, T.er, T.ers, T.noScr, T.noScrs, T.shs, mkL, mkT, T.isSh, T.argOk, T.toArg, T.solid, T.isL, appT, T.parts, putAll, T.tru, T.ty, tyD, En.put, En.clr, En.share, egName, egTup, egCons, egNil, Option.map_some, Option.map_none, Option.bind_some, Option.bind, List.all_cons, List.all_nil, List.map_cons, List.map_nil, List.length_cons, List.length_nil, Bool.and_true, Bool.true_and, Bool.and_self, Bool.not_true, Bool.not_false, if_true, cond_true, cond_false, Bool.false_eq_true, if_false, true_and, and_true, Rs.P_ok, Bool.and_false, Bool.false_and, Nat.reduceAdd, Nat.reduceLeDiff, Nat.reduceEqDiff, reduceCtorEq, x_add, x_iadd, x_sub, x_lt, x_le, x_gt, x_ge, x_eq, x_ne, x_eqB, x_neB, x_eqS, x_neS, x_max2, x_min2, x_int1, x_intB, x_lenL, x_lenT, x_lenO, x_lenS, x_sumL, x_sumO, x_sortL, x_sortO, x_listL, x_listT, x_listO, x_isN, x_isNn, x_isNi, x_isNl, x_isNt, x_isNb, x_notN, x_ixL, x_ixT, x_ixO, x_ixS, x_ix0, x_ix1, x_ix2, x_sl, x_slO, x_slT, x_inL, x_inO, x_ninL, x_ninO, oD]
    refine p_share (p_share (p_ret ?_))
    simp only [evVar, En.get, evC, evBin, evSh, evEsc, evB, evEB, evChain, evAnd, evOr, evNot, evAndV, evOrV, evNotV, evIf, evCons, evNil, evLst, evTup, evCall, callF, evSl, eoN, eoS, evUn, evC1, evIsi, evTru, erg1, erg2, evLRg, evTRg, eiSeq, eiEnum, eiZip, x_bind, x_rs, x_asB, x_asI, x_bifB, x_bifO, x_andB, x_orB, x_bifI, List.length_map, en0, List.replicate, List.cons_append, List.nil_append, T.asD, T.items, T.itL, T.itT, T.er, T.ers, T.noScr, T.noScrs, T.shs, mkL, mkT, T.isSh, T.argOk, T.toArg, T.solid, T.isL, appT, T.parts, putAll, T.tru, T.ty, tyD, En.put, En.clr, En.share, egName, egTup, egCons, egNil, Option.map_some, Option.map_none, Option.bind_some, Option.bind, List.all_cons, List.all_nil, List.map_cons, List.map_nil, List.length_cons, List.length_nil, Bool.and_true, Bool.true_and, Bool.and_self, Bool.not_true, Bool.not_false, if_true, cond_true, cond_false, Bool.false_eq_true, if_false, true_and, and_true, Rs.P_ok, Bool.and_false, Bool.false_and, Nat.reduceAdd, Nat.reduceLeDiff, Nat.reduceEqDiff, reduceCtorEq, x_add, x_iadd, x_sub, x_lt, x_le, x_gt, x_ge, x_eq, x_ne, x_eqB, x_neB, x_eqS, x_neS, x_max2, x_min2, x_int1, x_intB, x_lenL, x_lenT, x_lenO, x_lenS, x_sumL, x_sumO, x_sortL, x_sortO, x_listL, x_listT, x_listO, x_isN, x_isNn, x_isNi, x_isNl, x_isNt, x_isNb, x_notN, x_ixL, x_ixT, x_ixO, x_ixS, x_ix0, x_ix1, x_ix2, x_sl, x_slO, x_slT, x_inL, x_inO, x_ninL, x_ninO]
    rw [w_open_days _ _ _ h]
    simp only [evVar, En.get, evC, evBin, evSh, evEsc, evB, evEB, evChain, evAnd, evOr, evNot, evAndV, evOrV, evNotV, evIf, evCons, evNil, evLst, evTup, evCall, callF, evSl, eoN, eoS, evUn, evC1, evIsi, evTru, erg1, erg2, evLRg, evTRg, eiSeq, eiEnum, eiZip, x_bind, x_rs, x_asB, x_asI, x_bifB, x_bifO, x_andB, x_orB, x_bifI, List.length_map, en0, List.replicate, List.cons_append, List.nil_append, T.asD, T.items, T.itL, T.itT, T.er, T.ers, T.noScr, T.noScrs, T.shs, mkL, mkT, T.isSh, T.argOk, T.toArg, T.solid, T.isL, appT, T.parts, putAll, T.tru, T.ty, tyD, En.put, En.clr, En.share, egName, egTup, egCons, egNil, Option.map_some, Option.map_none, Option.bind_some, Option.bind, List.all_cons, List.all_nil, List.map_cons, List.map_nil, List.length_cons, List.length_nil, Bool.and_true, Bool.true_and, Bool.and_self, Bool.not_true, Bool.not_false, if_true, cond_true, cond_false, Bool.false_eq_true, if_false, true_and, and_true, Rs.P_ok, Bool.and_false, Bool.false_and, Nat.reduceAdd, Nat.reduceLeDiff, Nat.reduceEqDiff, reduceCtorEq, x_add, x_iadd, x_sub, x_lt, x_le, x_gt, x_ge, x_eq, x_ne, x_eqB, x_neB, x_eqS, x_neS, x_max2, x_min2, x_int1, x_intB, x_lenL, x_lenT, x_lenO, x_lenS, x_sumL, x_sumO, x_sortL, x_sortO, x_listL, x_listT, x_listO, x_isN, x_isNn, x_isNi, x_isNl, x_isNt, x_isNb, x_notN, x_ixL, x_ixT, x_ixO, x_ixS, x_ix0, x_ix1, x_ix2, x_sl, x_slO, x_slT, x_inL, x_inO, x_ninL, x_ninO, awayC, stopC]
  · simp only [evVar, En.get, evC, evBin, evSh, evEsc, evB, evEB, evChain, evAnd, evOr, evNot, evAndV, evOrV, evNotV, evIf, evCons, evNil, evLst, evTup, evCall, callF, evSl, eoN, eoS, evUn, evC1, evIsi, evTru, erg1, erg2, evLRg, evTRg, eiSeq, eiEnum, eiZip, x_bind, x_rs, x_asB, x_asI, x_bifB, x_bifO, x_andB, x_orB, x_bifI, List.length_map, en0, List.replicate, List.cons_append, List.nil_append, T.asD, T.items, T.itL, T.itT, T.er, T.ers, T.noScr, T.noScrs, T.shs, mkL, mkT, T.isSh, T.argOk, T.toArg, T.solid, T.isL, appT, T.parts, putAll, T.tru, T.ty, tyD, En.put, En.clr, En.share, egName, egTup, egCons, egNil, Option.map_some, Option.map_none, Option.bind_some, Option.bind, List.all_cons, List.all_nil, List.map_cons, List.map_nil, List.length_cons, List.length_nil, Bool.and_true, Bool.true_and, Bool.and_self, Bool.not_true, Bool.not_false, if_true, cond_true, cond_false, Bool.false_eq_true, if_false, true_and, and_true, Rs.P_ok, Bool.and_false, Bool.false_and, Nat.reduceAdd, Nat.reduceLeDiff, Nat.reduceEqDiff, reduceCtorEq, x_add, x_iadd, x_sub, x_lt, x_le, x_gt, x_ge, x_eq, x_ne, x_eqB, x_neB, x_eqS, x_neS, x_max2, x_min2, x_int1, x_intB, x_lenL, x_lenT, x_lenO, x_lenS, x_sumL, x_sumO, x_sortL, x_sortO, x_listL, x_listT, x_listO, x_isN, x_isNn, x_isNi, x_isNl, x_isNt, x_isNb, x_notN, x_ixL, x_ixT, x_ixO, x_ixS, x_ix0, x_ix1, x_ix2, x_sl, x_slO, x_slT, x_inL, x_inO, x_ninL, x_ninO, oD]
    refine p_share (p_share (p_ret ?_))
    simp only [evVar, En.get, evC, evBin, evSh, evEsc, evB, evEB, evChain, evAnd, evOr, evNot, evAndV, evOrV, evNotV, evIf, evCons, evNil, evLst, evTup, evCall, callF, evSl, eoN, eoS, evUn, evC1, evIsi, evTru, erg1, erg2, evLRg, evTRg, eiSeq, eiEnum, eiZip, x_bind, x_rs, x_asB, x_asI, x_bifB, x_bifO, x_andB, x_orB, x_bifI, List.length_map, en0, List.replicate, List.cons_append, List.nil_append, T.asD, T.items, T.itL, T.itT, T.er, T.ers, T.noScr, T.noScrs, T.shs, mkL, mkT, T.isSh, T.argOk, T.toArg, T.solid, T.isL, appT, T.parts, putAll, T.tru, T.ty, tyD, En.put, En.clr, En.share, egName, egTup, egCons, egNil, Option.map_some, Option.map_none, Option.bind_some, Option.bind, List.all_cons, List.all_nil, List.map_cons, List.map_nil, List.length_cons, List.length_nil, Bool.and_true, Bool.true_and, Bool.and_self, Bool.not_true, Bool.not_false, if_true, cond_true, cond_false, Bool.false_eq_true, if_false, true_and, and_true, Rs.P_ok, Bool.and_false, Bool.false_and, Nat.reduceAdd, Nat.reduceLeDiff, Nat.reduceEqDiff, reduceCtorEq, x_add, x_iadd, x_sub, x_lt, x_le, x_gt, x_ge, x_eq, x_ne, x_eqB, x_neB, x_eqS, x_neS, x_max2, x_min2, x_int1, x_intB, x_lenL, x_lenT, x_lenO, x_lenS, x_sumL, x_sumO, x_sortL, x_sortO, x_listL, x_listT, x_listO, x_isN, x_isNn, x_isNi, x_isNl, x_isNt, x_isNb, x_notN, x_ixL, x_ixT, x_ixO, x_ixS, x_ix0, x_ix1, x_ix2, x_sl, x_slO, x_slT, x_inL, x_inO, x_ninL, x_ninO]
    rw [w_open_days _ _ _ h]
    simp only [evVar, En.get, evC, evBin, evSh, evEsc, evB, evEB, evChain, evAnd, evOr, evNot, evAndV, evOrV, evNotV, evIf, evCons, evNil, evLst, evTup, evCall, callF, evSl, eoN, eoS, evUn, evC1, evIsi, evTru, erg1, erg2, evLRg, evTRg, eiSeq, eiEnum, eiZip, x_bind, x_rs, x_asB, x_asI, x_bifB, x_bifO, x_andB, x_orB, x_bifI, List.length_map, en0, List.replicate, List.cons_append, List.nil_append, T.asD, T.items, T.itL, T.itT, T.er, T.ers, T.noScr, T.noScrs, T.shs, mkL, mkT, T.isSh, T.argOk, T.toArg, T.solid, T.isL, appT, T.parts, putAll, T.tru, T.ty, tyD, En.put, En.clr, En.share, egName, egTup, egCons, egNil, Option.map_some, Option.map_none, Option.bind_some, Option.bind, List.all_cons, List.all_nil, List.map_cons, List.map_nil, List.length_cons, List.length_nil, Bool.and_true, Bool.true_and, Bool.and_self, Bool.not_true, Bool.not_false, if_true, cond_true, cond_false, Bool.false_eq_true, if_false, true_and, and_true, Rs.P_ok, Bool.and_false, Bool.false_and, Nat.reduceAdd, Nat.reduceLeDiff, Nat.reduceEqDiff, reduceCtorEq, x_add, x_iadd, x_sub, x_lt, x_le, x_gt, x_ge, x_eq, x_ne, x_eqB, x_neB, x_eqS, x_neS, x_max2, x_min2, x_int1, x_intB, x_lenL, x_lenT, x_lenO, x_lenS, x_sumL, x_sumO, x_sortL, x_sortO, x_listL, x_listT, x_listO, x_isN, x_isNn, x_isNi, x_isNl, x_isNt, x_isNb, x_notN, x_ixL, x_ixT, x_ixO, x_ixS, x_ix0, x_ix1, x_ix2, x_sl, x_slO, x_slT, x_inL, x_inO, x_ninL, x_ninO, awayC, stopC]

abbrev VL (vs : List V) : PyData := .list (vs.map vD)
def countedC (cl : List Int) (begin : Int) (vs : List V) (day : Int) : Int := openC cl begin day - (vs.map fun v => awayC cl v begin day).sum
theorem w_counted (cl : List Int) (vs : List V) (begin day : Int) (h : cl.length ≤ 2 ^ 24) (hv : vs.length ≤ 2 ^ 24) : d_counted [.sh (L cl), .sh (I begin), .sh (VL vs), .sh (I day)] = .ok (.sh (I (countedC cl begin vs day))) := by
  refine fn_eq rfl ?_
  refine p_share (p_share (p_share (p_share (p_ret ?_))))
  simp only [evVar, En.get, evC, evBin, evSh, evEsc, evB, evEB, evChain, evAnd, evOr, evNot, evAndV, evOrV, evNotV, evIf, evCons, evNil, evLst, evTup, evCall, callF, evSl, eoN, eoS, evUn, evC1, evIsi, evTru, erg1, erg2, evLRg, evTRg, eiSeq, eiEnum, eiZip, x_bind, x_rs, x_asB, x_asI, x_bifB, x_bifO, x_andB, x_orB, x_bifI, List.length_map, en0, List.replicate, List.cons_append, List.nil_append, T.asD, T.items, T.itL, T.itT, T.er, T.ers, T.noScr, T.noScrs, T.shs, mkL, mkT, T.isSh, T.argOk, T.toArg, T.solid, T.isL, appT, T.parts, putAll, T.tru, T.ty, tyD, En.put, En.clr, En.share, egName, egTup, egCons, egNil, Option.map_some, Option.map_none, Option.bind_some, Option.bind, List.all_cons, List.all_nil, List.map_cons, List.map_nil, List.length_cons, List.length_nil, Bool.and_true, Bool.true_and, Bool.and_self, Bool.not_true, Bool.not_false, if_true, cond_true, cond_false, Bool.false_eq_true, if_false, true_and, and_true, Rs.P_ok, Bool.and_false, Bool.false_and, Nat.reduceAdd, Nat.reduceLeDiff, Nat.reduceEqDiff, reduceCtorEq, x_add, x_iadd, x_sub, x_lt, x_le, x_gt, x_ge, x_eq, x_ne, x_eqB, x_neB, x_eqS, x_neS, x_max2, x_min2, x_int1, x_intB, x_lenL, x_lenT, x_lenO, x_lenS, x_sumL, x_sumO, x_sortL, x_sortO, x_listL, x_listT, x_listO, x_isN, x_isNn, x_isNi, x_isNl, x_isNt, x_isNb, x_notN, x_ixL, x_ixT, x_ixO, x_ixS, x_ix0, x_ix1, x_ix2, x_sl, x_slO, x_slT, x_inL, x_inO, x_ninL, x_ninO]
  rw [w_open_days _ _ _ h, comp_allI (l := vs) (f := vD) (hi := fun v => awayC cl v begin day) _ hv]
  · simp only [evVar, En.get, evC, evBin, evSh, evEsc, evB, evEB, evChain, evAnd, evOr, evNot, evAndV, evOrV, evNotV, evIf, evCons, evNil, evLst, evTup, evCall, callF, evSl, eoN, eoS, evUn, evC1, evIsi, evTru, erg1, erg2, evLRg, evTRg, eiSeq, eiEnum, eiZip, x_bind, x_rs, x_asB, x_asI, x_bifB, x_bifO, x_andB, x_orB, x_bifI, List.length_map, en0, List.replicate, List.cons_append, List.nil_append, T.asD, T.items, T.itL, T.itT, T.er, T.ers, T.noScr, T.noScrs, T.shs, mkL, mkT, T.isSh, T.argOk, T.toArg, T.solid, T.isL, appT, T.parts, putAll, T.tru, T.ty, tyD, En.put, En.clr, En.share, egName, egTup, egCons, egNil, Option.map_some, Option.map_none, Option.bind_some, Option.bind, List.all_cons, List.all_nil, List.map_cons, List.map_nil, List.length_cons, List.length_nil, Bool.and_true, Bool.true_and, Bool.and_self, Bool.not_true, Bool.not_false, if_true, cond_true, cond_false, Bool.false_eq_true, if_false, true_and, and_true, Rs.P_ok, Bool.and_false, Bool.false_and, Nat.reduceAdd, Nat.reduceLeDiff, Nat.reduceEqDiff, reduceCtorEq, x_add, x_iadd, x_sub, x_lt, x_le, x_gt, x_ge, x_eq, x_ne, x_eqB, x_neB, x_eqS, x_neS, x_max2, x_min2, x_int1, x_intB, x_lenL, x_lenT, x_lenO, x_lenS, x_sumL, x_sumO, x_sortL, x_sortO, x_listL, x_listT, x_listO, x_isN, x_isNn, x_isNi, x_isNl, x_isNt, x_isNb, x_notN, x_ixL, x_ixT, x_ixO, x_ixS, x_ix0, x_ix1, x_ix2, x_sl, x_slO, x_slT, x_inL, x_inO, x_ninL, x_ninO, countedC]
  · intro v hv
    refine ⟨_, rfl, ?_⟩
    simp only [evVar, En.get, evC, evBin, evSh, evEsc, evB, evEB, evChain, evAnd, evOr, evNot, evAndV, evOrV, evNotV, evIf, evCons, evNil, evLst, evTup, evCall, callF, evSl, eoN, eoS, evUn, evC1, evIsi, evTru, erg1, erg2, evLRg, evTRg, eiSeq, eiEnum, eiZip, x_bind, x_rs, x_asB, x_asI, x_bifB, x_bifO, x_andB, x_orB, x_bifI, List.length_map, en0, List.replicate, List.cons_append, List.nil_append, T.asD, T.items, T.itL, T.itT, T.er, T.ers, T.noScr, T.noScrs, T.shs, mkL, mkT, T.isSh, T.argOk, T.toArg, T.solid, T.isL, appT, T.parts, putAll, T.tru, T.ty, tyD, En.put, En.clr, En.share, egName, egTup, egCons, egNil, Option.map_some, Option.map_none, Option.bind_some, Option.bind, List.all_cons, List.all_nil, List.map_cons, List.map_nil, List.length_cons, List.length_nil, Bool.and_true, Bool.true_and, Bool.and_self, Bool.not_true, Bool.not_false, if_true, cond_true, cond_false, Bool.false_eq_true, if_false, true_and, and_true, Rs.P_ok, Bool.and_false, Bool.false_and, Nat.reduceAdd, Nat.reduceLeDiff, Nat.reduceEqDiff, reduceCtorEq, x_add, x_iadd, x_sub, x_lt, x_le, x_gt, x_ge, x_eq, x_ne, x_eqB, x_neB, x_eqS, x_neS, x_max2, x_min2, x_int1, x_intB, x_lenL, x_lenT, x_lenO, x_lenS, x_sumL, x_sumO, x_sortL, x_sortO, x_listL, x_listT, x_listO, x_isN, x_isNn, x_isNi, x_isNl, x_isNt, x_isNb, x_notN, x_ixL, x_ixT, x_ixO, x_ixS, x_ix0, x_ix1, x_ix2, x_sl, x_slO, x_slT, x_inL, x_inO, x_ninL, x_ninO]
    exact w_away_days _ _ _ _ h
  · simp only [evVar, En.get, evC, evBin, evSh, evEsc, evB, evEB, evChain, evAnd, evOr, evNot, evAndV, evOrV, evNotV, evIf, evCons, evNil, evLst, evTup, evCall, callF, evSl, eoN, eoS, evUn, evC1, evIsi, evTru, erg1, erg2, evLRg, evTRg, eiSeq, eiEnum, eiZip, x_bind, x_rs, x_asB, x_asI, x_bifB, x_bifO, x_andB, x_orB, x_bifI, List.length_map, en0, List.replicate, List.cons_append, List.nil_append, T.asD, T.items, T.itL, T.itT, T.er, T.ers, T.noScr, T.noScrs, T.shs, mkL, mkT, T.isSh, T.argOk, T.toArg, T.solid, T.isL, appT, T.parts, putAll, T.tru, T.ty, tyD, En.put, En.clr, En.share, egName, egTup, egCons, egNil, Option.map_some, Option.map_none, Option.bind_some, Option.bind, List.all_cons, List.all_nil, List.map_cons, List.map_nil, List.length_cons, List.length_nil, Bool.and_true, Bool.true_and, Bool.and_self, Bool.not_true, Bool.not_false, if_true, cond_true, cond_false, Bool.false_eq_true, if_false, true_and, and_true, Rs.P_ok, Bool.and_false, Bool.false_and, Nat.reduceAdd, Nat.reduceLeDiff, Nat.reduceEqDiff, reduceCtorEq, x_add, x_iadd, x_sub, x_lt, x_le, x_gt, x_ge, x_eq, x_ne, x_eqB, x_neB, x_eqS, x_neS, x_max2, x_min2, x_int1, x_intB, x_lenL, x_lenT, x_lenO, x_lenS, x_sumL, x_sumO, x_sortL, x_sortO, x_listL, x_listT, x_listO, x_isN, x_isNn, x_isNi, x_isNl, x_isNt, x_isNb, x_notN, x_ixL, x_ixT, x_ixO, x_ixS, x_ix0, x_ix1, x_ix2, x_sl, x_slO, x_slT, x_inL, x_inO, x_ninL, x_ninO]
def holdsC (cl : List Int) (days begin : Int) (vs : List V) (day : Int) : Bool := decide (countedC cl begin vs day < days)
theorem w_holds_on (cl : List Int) (vs : List V) (days begin day : Int) (h : cl.length ≤ 2 ^ 24) (hv : vs.length ≤ 2 ^ 24) : d_holds_on [.sh (L cl), .sh (I days), .sh (I begin), .sh (VL vs), .sh (I day)] = .ok (.sh (.bool (holdsC cl days begin vs day))) := by
  refine fn_eq rfl ?_
  refine p_share (p_share (p_share (p_share (p_ret ?_))))
  simp only [evVar, En.get, evC, evBin, evSh, evEsc, evB, evEB, evChain, evAnd, evOr, evNot, evAndV, evOrV, evNotV, evIf, evCons, evNil, evLst, evTup, evCall, callF, evSl, eoN, eoS, evUn, evC1, evIsi, evTru, erg1, erg2, evLRg, evTRg, eiSeq, eiEnum, eiZip, x_bind, x_rs, x_asB, x_asI, x_bifB, x_bifO, x_andB, x_orB, x_bifI, List.length_map, en0, List.replicate, List.cons_append, List.nil_append, T.asD, T.items, T.itL, T.itT, T.er, T.ers, T.noScr, T.noScrs, T.shs, mkL, mkT, T.isSh, T.argOk, T.toArg, T.solid, T.isL, appT, T.parts, putAll, T.tru, T.ty, tyD, En.put, En.clr, En.share, egName, egTup, egCons, egNil, Option.map_some, Option.map_none, Option.bind_some, Option.bind, List.all_cons, List.all_nil, List.map_cons, List.map_nil, List.length_cons, List.length_nil, Bool.and_true, Bool.true_and, Bool.and_self, Bool.not_true, Bool.not_false, if_true, cond_true, cond_false, Bool.false_eq_true, if_false, true_and, and_true, Rs.P_ok, Bool.and_false, Bool.false_and, Nat.reduceAdd, Nat.reduceLeDiff, Nat.reduceEqDiff, reduceCtorEq, x_add, x_iadd, x_sub, x_lt, x_le, x_gt, x_ge, x_eq, x_ne, x_eqB, x_neB, x_eqS, x_neS, x_max2, x_min2, x_int1, x_intB, x_lenL, x_lenT, x_lenO, x_lenS, x_sumL, x_sumO, x_sortL, x_sortO, x_listL, x_listT, x_listO, x_isN, x_isNn, x_isNi, x_isNl, x_isNt, x_isNb, x_notN, x_ixL, x_ixT, x_ixO, x_ixS, x_ix0, x_ix1, x_ix2, x_sl, x_slO, x_slT, x_inL, x_inO, x_ninL, x_ninO]
  rw [w_counted _ _ _ _ h hv]
  simp only [evVar, En.get, evC, evBin, evSh, evEsc, evB, evEB, evChain, evAnd, evOr, evNot, evAndV, evOrV, evNotV, evIf, evCons, evNil, evLst, evTup, evCall, callF, evSl, eoN, eoS, evUn, evC1, evIsi, evTru, erg1, erg2, evLRg, evTRg, eiSeq, eiEnum, eiZip, x_bind, x_rs, x_asB, x_asI, x_bifB, x_bifO, x_andB, x_orB, x_bifI, List.length_map, en0, List.replicate, List.cons_append, List.nil_append, T.asD, T.items, T.itL, T.itT, T.er, T.ers, T.noScr, T.noScrs, T.shs, mkL, mkT, T.isSh, T.argOk, T.toArg, T.solid, T.isL, appT, T.parts, putAll, T.tru, T.ty, tyD, En.put, En.clr, En.share, egName, egTup, egCons, egNil, Option.map_some, Option.map_none, Option.bind_some, Option.bind, List.all_cons, List.all_nil, List.map_cons, List.map_nil, List.length_cons, List.length_nil, Bool.and_true, Bool.true_and, Bool.and_self, Bool.not_true, Bool.not_false, if_true, cond_true, cond_false, Bool.false_eq_true, if_false, true_and, and_true, Rs.P_ok, Bool.and_false, Bool.false_and, Nat.reduceAdd, Nat.reduceLeDiff, Nat.reduceEqDiff, reduceCtorEq, x_add, x_iadd, x_sub, x_lt, x_le, x_gt, x_ge, x_eq, x_ne, x_eqB, x_neB, x_eqS, x_neS, x_max2, x_min2, x_int1, x_intB, x_lenL, x_lenT, x_lenO, x_lenS, x_sumL, x_sumO, x_sortL, x_sortO, x_listL, x_listT, x_listO, x_isN, x_isNn, x_isNi, x_isNl, x_isNt, x_isNb, x_notN, x_ixL, x_ixT, x_ixO, x_ixS, x_ix0, x_ix1, x_ix2, x_sl, x_slO, x_slT, x_inL, x_inO, x_ninL, x_ninO, holdsC]
theorem w_free_visits (cl : List Int) (vs : List V) (days begin : Int) (h : cl.length ≤ 2 ^ 24) (hv : vs.length ≤ 2 ^ 24) : d_free_visits [.sh (L cl), .sh (I days), .sh (I begin), .sh (VL vs)] = .ok (.ol ((vs.map fun v => holdsC cl days begin vs v.1).map PyData.bool)) := by
  refine fn_eq rfl ?_
  refine p_share (p_share (p_share (p_share (p_ret ?_))))
  rw [comp_all (l := vs) (f := vD) (h := fun v => .bool (holdsC cl days begin vs v.1)) _ hv]
  · simp only [evVar, En.get, evC, evBin, evSh, evEsc, evB, evEB, evChain, evAnd, evOr, evNot, evAndV, evOrV, evNotV, evIf, evCons, evNil, evLst, evTup, evCall, callF, evSl, eoN, eoS, evUn, evC1, evIsi, evTru, erg1, erg2, evLRg, evTRg, eiSeq, eiEnum, eiZip, x_bind, x_rs, x_asB, x_asI, x_bifB, x_bifO, x_andB, x_orB, x_bifI, List.length_map, en0, List.replicate, List.cons_append, List.nil_append, T.asD, T.items, T.itL, T.itT, T.er, T.ers, T.noScr, T.noScrs, T.shs, mkL, mkT, T.isSh, T.argOk, T.toArg, T.solid, T.isL, appT, T.parts, putAll, T.tru, T.ty, tyD, En.put, En.clr, En.share, egName, egTup, egCons, egNil, Option.map_some, Option.map_none, Option.bind_some, Option.bind, List.all_cons, List.all_nil, List.map_cons, List.map_nil, List.length_cons, List.length_nil, Bool.and_true, Bool.true_and, Bool.and_self, Bool.not_true, Bool.not_false, if_true, cond_true, cond_false, Bool.false_eq_true, if_false, true_and, and_true, Rs.P_ok, Bool.and_false, Bool.false_and, Nat.reduceAdd, Nat.reduceLeDiff, Nat.reduceEqDiff, reduceCtorEq, x_add, x_iadd, x_sub, x_lt, x_le, x_gt, x_ge, x_eq, x_ne, x_eqB, x_neB, x_eqS, x_neS, x_max2, x_min2, x_int1, x_intB, x_lenL, x_lenT, x_lenO, x_lenS, x_sumL, x_sumO, x_sortL, x_sortO, x_listL, x_listT, x_listO, x_isN, x_isNn, x_isNi, x_isNl, x_isNt, x_isNb, x_notN, x_ixL, x_ixT, x_ixO, x_ixS, x_ix0, x_ix1, x_ix2, x_sl, x_slO, x_slT, x_inL, x_inO, x_ninL, x_ninO, List.map_map]
    rfl
  · intro v hv'
    refine ⟨_, rfl, ?_⟩
    simp only [evVar, En.get, evC, evBin, evSh, evEsc, evB, evEB, evChain, evAnd, evOr, evNot, evAndV, evOrV, evNotV, evIf, evCons, evNil, evLst, evTup, evCall, callF, evSl, eoN, eoS, evUn, evC1, evIsi, evTru, erg1, erg2, evLRg, evTRg, eiSeq, eiEnum, eiZip, x_bind, x_rs, x_asB, x_asI, x_bifB, x_bifO, x_andB, x_orB, x_bifI, List.length_map, en0, List.replicate, List.cons_append, List.nil_append, T.asD, T.items, T.itL, T.itT, T.er, T.ers, T.noScr, T.noScrs, T.shs, mkL, mkT, T.isSh, T.argOk, T.toArg, T.solid, T.isL, appT, T.parts, putAll, T.tru, T.ty, tyD, En.put, En.clr, En.share, egName, egTup, egCons, egNil, Option.map_some, Option.map_none, Option.bind_some, Option.bind, List.all_cons, List.all_nil, List.map_cons, List.map_nil, List.length_cons, List.length_nil, Bool.and_true, Bool.true_and, Bool.and_self, Bool.not_true, Bool.not_false, if_true, cond_true, cond_false, Bool.false_eq_true, if_false, true_and, and_true, Rs.P_ok, Bool.and_false, Bool.false_and, Nat.reduceAdd, Nat.reduceLeDiff, Nat.reduceEqDiff, reduceCtorEq, x_add, x_iadd, x_sub, x_lt, x_le, x_gt, x_ge, x_eq, x_ne, x_eqB, x_neB, x_eqS, x_neS, x_max2, x_min2, x_int1, x_intB, x_lenL, x_lenT, x_lenO, x_lenS, x_sumL, x_sumO, x_sortL, x_sortO, x_listL, x_listT, x_listO, x_isN, x_isNn, x_isNi, x_isNl, x_isNt, x_isNb, x_notN, x_ixL, x_ixT, x_ixO, x_ixS, x_ix0, x_ix1, x_ix2, x_sl, x_slO, x_slT, x_inL, x_inO, x_ninL, x_ninO]
    exact w_holds_on _ _ _ _ _ h hv
  · simp only [evVar, En.get, evC, evBin, evSh, evEsc, evB, evEB, evChain, evAnd, evOr, evNot, evAndV, evOrV, evNotV, evIf, evCons, evNil, evLst, evTup, evCall, callF, evSl, eoN, eoS, evUn, evC1, evIsi, evTru, erg1, erg2, evLRg, evTRg, eiSeq, eiEnum, eiZip, x_bind, x_rs, x_asB, x_asI, x_bifB, x_bifO, x_andB, x_orB, x_bifI, List.length_map, en0, List.replicate, List.cons_append, List.nil_append, T.asD, T.items, T.itL, T.itT, T.er, T.ers, T.noScr, T.noScrs, T.shs, mkL, mkT, T.isSh, T.argOk, T.toArg, T.solid, T.isL, appT, T.parts, putAll, T.tru, T.ty, tyD, En.put, En.clr, En.share, egName, egTup, egCons, egNil, Option.map_some, Option.map_none, Option.bind_some, Option.bind, List.all_cons, List.all_nil, List.map_cons, List.map_nil, List.length_cons, List.length_nil, Bool.and_true, Bool.true_and, Bool.and_self, Bool.not_true, Bool.not_false, if_true, cond_true, cond_false, Bool.false_eq_true, if_false, true_and, and_true, Rs.P_ok, Bool.and_false, Bool.false_and, Nat.reduceAdd, Nat.reduceLeDiff, Nat.reduceEqDiff, reduceCtorEq, x_add, x_iadd, x_sub, x_lt, x_le, x_gt, x_ge, x_eq, x_ne, x_eqB, x_neB, x_eqS, x_neS, x_max2, x_min2, x_int1, x_intB, x_lenL, x_lenT, x_lenO, x_lenS, x_sumL, x_sumO, x_sortL, x_sortO, x_listL, x_listT, x_listO, x_isN, x_isNn, x_isNi, x_isNl, x_isNt, x_isNb, x_notN, x_ixL, x_ixT, x_ixO, x_ixS, x_ix0, x_ix1, x_ix2, x_sl, x_slO, x_slT, x_inL, x_inO, x_ninL, x_ninO]
/-! end_of -/
def highC (vs : List V) : Int := match vs.getLast? with
  | some (b, none) => b
  | _ => 10400
theorem w_end_of (cl : List Int) (vs : List V) (days begin : Int) (h : cl.length ≤ 2 ^ 24) (hv : vs.length ≤ 2 ^ 24) (hb : 0 ≤ begin) (hh : begin ≤ highC vs) (hh2 : highC vs ≤ 10400) :
    ∃ r : Option Int, d_end_of [.sh (L cl), .sh (I days), .sh (I begin), .sh (VL vs)] = .ok (.sh (oD r)) ∧
      (match r with
      | none => countedC cl begin vs (highC vs) < days
      | some e => begin ≤ e ∧ e ≤ highC vs ∧ days ≤ countedC cl begin vs e ∧ (begin < e → countedC cl begin vs (e - 1) < days)) := by
  suffices hs : (d_end_of [.sh (L cl), .sh (I days), .sh (I begin), .sh (VL vs)]).P fun t => ∃ r : Option Int, t = .sh (oD r) ∧ (match r with
      | none => countedC cl begin vs (highC vs) < days
      | some e => begin ≤ e ∧ e ≤ highC vs ∧ days ≤ countedC cl begin vs e ∧ (begin < e → countedC cl begin vs (e - 1) < days)) by
    obtain ⟨t, e, r, rfl, q⟩ := hs.ex
    exact ⟨r, e, q⟩
  refine p_fn rfl ?_
  refine p_seq (p_set ?_)
  simp only [evVar, En.get, evC, evBin, evSh, evEsc, evB, evEB, evChain, evAnd, evOr, evNot, evAndV, evOrV, evNotV, evIf, evCons, evNil, evLst, evTup, evCall, callF, evSl, eoN, eoS, evUn, evC1, evIsi, evTru, erg1, erg2, evLRg, evTRg, eiSeq, eiEnum, eiZip, x_bind, x_rs, x_asB, x_asI, x_bifB, x_bifO, x_andB, x_orB, x_bifI, List.length_map, en0, List.replicate, List.cons_append, List.nil_append, T.asD, T.items, T.itL, T.itT, T.er, T.ers, T.noScr, T.noScrs, T.shs, mkL, mkT, T.isSh, T.argOk, T.toArg, T.solid, T.isL, appT, T.parts, putAll, T.tru, T.ty, tyD, En.put, En.clr, En.share, egName, egTup, egCons, egNil, Option.map_some, Option.map_none, Option.bind_some, Option.bind, List.all_cons, List.all_nil, List.map_cons, List.map_nil, List.length_cons, List.length_nil, Bool.and_true, Bool.true_and, Bool.and_self, Bool.not_true, Bool.not_false, if_true, cond_true, cond_false, Bool.false_eq_true, if_false, true_and, and_true, Rs.P_ok, Bool.and_false, Bool.false_and, Nat.reduceAdd, Nat.reduceLeDiff, Nat.reduceEqDiff, reduceCtorEq, x_add, x_iadd, x_sub, x_lt, x_le, x_gt, x_ge, x_eq, x_ne, x_eqB, x_neB, x_eqS, x_neS, x_max2, x_min2, x_int1, x_intB, x_lenL, x_lenT, x_lenO, x_lenS, x_sumL, x_sumO, x_sortL, x_sortO, x_listL, x_listT, x_listO, x_isN, x_isNn, x_isNi, x_isNl, x_isNt, x_isNb, x_notN, x_ixL, x_ixT, x_ixO, x_ixS, x_ix0, x_ix1, x_ix2, x_sl, x_slO, x_slT, x_inL, x_inO, x_ninL, x_ninO]
  refine p_seq ?_
  -- high
  suffices hi : ∀ N : En → Prop, N [some (.sh (L cl)), some (.sh (I days)), some (.sh (I begin)), some (.sh (VL vs)), some (.sh (I (highC vs))), none, none] → ∀ R B C, Out.P (sIf (evAnd (evTru (evVar 3)) (evEB (evBin fIsN (evBin fIx (evBin fIx (evVar 3) (evSh (evUn fNeg (evSh (evC (.int 1)))))) (evSh (evC (.int 1)))) (evSh (evC .none))))) (sSet 4 [] (evSh (evEsc (evBin fIx (evBin fIx (evVar 3) (evSh (evUn fNeg (evSh (evC (.int 1)))))) (evSh (evC (.int 0))))))) sNil [some (.sh (L cl)), some (.sh (I days)), some (.sh (I begin)), some (.sh (VL vs)), some (.sh (.int 10400)), none, none]) N R B C by
    refine hi _ ?_ _ _ _
    refine p_seq (p_share (p_share (p_share (p_share (p_share (p_ifD (p := countedC cl begin vs (highC vs) < days) ?_ (fun hp => ?_) fun hp => ?_))))))
    · simp only [evVar, En.get, evC, evBin, evSh, evEsc, evB, evEB, evChain, evAnd, evOr, evNot, evAndV, evOrV, evNotV, evIf, evCons, evNil, evLst, evTup, evCall, callF, evSl, eoN, eoS, evUn, evC1, evIsi, evTru, erg1, erg2, evLRg, evTRg, eiSeq, eiEnum, eiZip, x_bind, x_rs, x_asB, x_asI, x_bifB, x_bifO, x_andB, x_orB, x_bifI, List.length_map, en0, List.replicate, List.cons_append, List.nil_append, T.asD, T.items, T.itL, T.itT, T.er, T.ers, T.noScr, T.noScrs, T.shs, mkL, mkT, T.isSh, T.argOk, T.toArg, T.solid, T.isL, appT, T.parts, putAll, T.tru, T.ty, tyD, En.put, En.clr, En.share, egName, egTup, egCons, egNil, Option.map_some, Option.map_none, Option.bind_some, Option.bind, List.all_cons, List.all_nil, List.map_cons, List.map_nil, List.length_cons, List.length_nil, Bool.and_true, Bool.true_and, Bool.and_self, Bool.not_true, Bool.not_false, if_true, cond_true, cond_false, Bool.false_eq_true, if_false, true_and, and_true, Rs.P_ok, Bool.and_false, Bool.false_and, Nat.reduceAdd, Nat.reduceLeDiff, Nat.reduceEqDiff, reduceCtorEq, x_add, x_iadd, x_sub, x_lt, x_le, x_gt, x_ge, x_eq, x_ne, x_eqB, x_neB, x_eqS, x_neS, x_max2, x_min2, x_int1, x_intB, x_lenL, x_lenT, x_lenO, x_lenS, x_sumL, x_sumO, x_sortL, x_sortO, x_listL, x_listT, x_listO, x_isN, x_isNn, x_isNi, x_isNl, x_isNt, x_isNb, x_notN, x_ixL, x_ixT, x_ixO, x_ixS, x_ix0, x_ix1, x_ix2, x_sl, x_slO, x_slT, x_inL, x_inO, x_ninL, x_ninO]
      rw [w_holds_on _ _ _ _ _ h hv]
      simp only [evVar, En.get, evC, evBin, evSh, evEsc, evB, evEB, evChain, evAnd, evOr, evNot, evAndV, evOrV, evNotV, evIf, evCons, evNil, evLst, evTup, evCall, callF, evSl, eoN, eoS, evUn, evC1, evIsi, evTru, erg1, erg2, evLRg, evTRg, eiSeq, eiEnum, eiZip, x_bind, x_rs, x_asB, x_asI, x_bifB, x_bifO, x_andB, x_orB, x_bifI, List.length_map, en0, List.replicate, List.cons_append, List.nil_append, T.asD, T.items, T.itL, T.itT, T.er, T.ers, T.noScr, T.noScrs, T.shs, mkL, mkT, T.isSh, T.argOk, T.toArg, T.solid, T.isL, appT, T.parts, putAll, T.tru, T.ty, tyD, En.put, En.clr, En.share, egName, egTup, egCons, egNil, Option.map_some, Option.map_none, Option.bind_some, Option.bind, List.all_cons, List.all_nil, List.map_cons, List.map_nil, List.length_cons, List.length_nil, Bool.and_true, Bool.true_and, Bool.and_self, Bool.not_true, Bool.not_false, if_true, cond_true, cond_false, Bool.false_eq_true, if_false, true_and, and_true, Rs.P_ok, Bool.and_false, Bool.false_and, Nat.reduceAdd, Nat.reduceLeDiff, Nat.reduceEqDiff, reduceCtorEq, x_add, x_iadd, x_sub, x_lt, x_le, x_gt, x_ge, x_eq, x_ne, x_eqB, x_neB, x_eqS, x_neS, x_max2, x_min2, x_int1, x_intB, x_lenL, x_lenT, x_lenO, x_lenS, x_sumL, x_sumO, x_sortL, x_sortO, x_listL, x_listT, x_listO, x_isN, x_isNn, x_isNi, x_isNl, x_isNt, x_isNb, x_notN, x_ixL, x_ixT, x_ixO, x_ixS, x_ix0, x_ix1, x_ix2, x_sl, x_slO, x_slT, x_inL, x_inO, x_ninL, x_ninO, holdsC]
    · refine p_ret ?_
      simp only [evVar, En.get, evC, evBin, evSh, evEsc, evB, evEB, evChain, evAnd, evOr, evNot, evAndV, evOrV, evNotV, evIf, evCons, evNil, evLst, evTup, evCall, callF, evSl, eoN, eoS, evUn, evC1, evIsi, evTru, erg1, erg2, evLRg, evTRg, eiSeq, eiEnum, eiZip, x_bind, x_rs, x_asB, x_asI, x_bifB, x_bifO, x_andB, x_orB, x_bifI, List.length_map, en0, List.replicate, List.cons_append, List.nil_append, T.asD, T.items, T.itL, T.itT, T.er, T.ers, T.noScr, T.noScrs, T.shs, mkL, mkT, T.isSh, T.argOk, T.toArg, T.solid, T.isL, appT, T.parts, putAll, T.tru, T.ty, tyD, En.put, En.clr, En.share, egName, egTup, egCons, egNil, Option.map_some, Option.map_none, Option.bind_some, Option.bind, List.all_cons, List.all_nil, List.map_cons, List.map_nil, List.length_cons, List.length_nil, Bool.and_true, Bool.true_and, Bool.and_self, Bool.not_true, Bool.not_false, if_true, cond_true, cond_false, Bool.false_eq_true, if_false, true_and, and_true, Rs.P_ok, Bool.and_false, Bool.false_and, Nat.reduceAdd, Nat.reduceLeDiff, Nat.reduceEqDiff, reduceCtorEq, x_add, x_iadd, x_sub, x_lt, x_le, x_gt, x_ge, x_eq, x_ne, x_eqB, x_neB, x_eqS, x_neS, x_max2, x_min2, x_int1, x_intB, x_lenL, x_lenT, x_lenO, x_lenS, x_sumL, x_sumO, x_sortL, x_sortO, x_listL, x_listT, x_listO, x_isN, x_isNn, x_isNi, x_isNl, x_isNt, x_isNb, x_notN, x_ixL, x_ixT, x_ixO, x_ixS, x_ix0, x_ix1, x_ix2, x_sl, x_slO, x_slT, x_inL, x_inO, x_ninL, x_ninO]
      exact ⟨none, rfl, hp⟩
    · refine p_nil (p_seq (p_share (p_set ?_)))
      simp only [evVar, En.get, evC, evBin, evSh, evEsc, evB, evEB, evChain, evAnd, evOr, evNot, evAndV, evOrV, evNotV, evIf, evCons, evNil, evLst, evTup, evCall, callF, evSl, eoN, eoS, evUn, evC1, evIsi, evTru, erg1, erg2, evLRg, evTRg, eiSeq, eiEnum, eiZip, x_bind, x_rs, x_asB, x_asI, x_bifB, x_bifO, x_andB, x_orB, x_bifI, List.length_map, en0, List.replicate, List.cons_append, List.nil_append, T.asD, T.items, T.itL, T.itT, T.er, T.ers, T.noScr, T.noScrs, T.shs, mkL, mkT, T.isSh, T.argOk, T.toArg, T.solid, T.isL, appT, T.parts, putAll, T.tru, T.ty, tyD, En.put, En.clr, En.share, egName, egTup, egCons, egNil, Option.map_some, Option.map_none, Option.bind_some, Option.bind, List.all_cons, List.all_nil, List.map_cons, List.map_nil, List.length_cons, List.length_nil, Bool.and_true, Bool.true_and, Bool.and_self, Bool.not_true, Bool.not_false, if_true, cond_true, cond_false, Bool.false_eq_true, if_false, true_and, and_true, Rs.P_ok, Bool.and_false, Bool.false_and, Nat.reduceAdd, Nat.reduceLeDiff, Nat.reduceEqDiff, reduceCtorEq, x_add, x_iadd, x_sub, x_lt, x_le, x_gt, x_ge, x_eq, x_ne, x_eqB, x_neB, x_eqS, x_neS, x_max2, x_min2, x_int1, x_intB, x_lenL, x_lenT, x_lenO, x_lenS, x_sumL, x_sumO, x_sortL, x_sortO, x_listL, x_listT, x_listO, x_isN, x_isNn, x_isNi, x_isNl, x_isNt, x_isNb, x_notN, x_ixL, x_ixT, x_ixO, x_ixS, x_ix0, x_ix1, x_ix2, x_sl, x_slO, x_slT, x_inL, x_inO, x_ninL, x_ninO]
      refine p_seq (p_while (fun n ρ => ∃ lo hi : Int, ∃ o, ρ = [some (.sh (L cl)), some (.sh (I days)), some (.sh (I begin)), some (.sh (VL vs)), some (.sh (I hi)), some (.sh (I lo)), o] ∧ begin ≤ lo ∧ lo ≤ hi ∧ hi ≤ highC vs ∧ n = (hi - lo).toNat ∧
        days ≤ countedC cl begin vs hi ∧ (begin < lo → countedC cl begin vs (lo - 1) < days)) (n := (highC vs - begin).toNat) (by unfold fuel; omega) ⟨begin, highC vs, none, rfl, by omega, hh, by omega, rfl, by omega, fun z => by omega⟩ ?_)
      rintro m ρ ⟨lo, hi, o, rfl, h1, h2, h3, rfl, h4, h5⟩
      simp only [evVar, En.get, evC, evBin, evSh, evEsc, evB, evEB, evChain, evAnd, evOr, evNot, evAndV, evOrV, evNotV, evIf, evCons, evNil, evLst, evTup, evCall, callF, evSl, eoN, eoS, evUn, evC1, evIsi, evTru, erg1, erg2, evLRg, evTRg, eiSeq, eiEnum, eiZip, x_bind, x_rs, x_asB, x_asI, x_bifB, x_bifO, x_andB, x_orB, x_bifI, List.length_map, en0, List.replicate, List.cons_append, List.nil_append, T.asD, T.items, T.itL, T.itT, T.er, T.ers, T.noScr, T.noScrs, T.shs, mkL, mkT, T.isSh, T.argOk, T.toArg, T.solid, T.isL, appT, T.parts, putAll, T.tru, T.ty, tyD, En.put, En.clr, En.share, egName, egTup, egCons, egNil, Option.map_some, Option.map_none, Option.bind_some, Option.bind, List.all_cons, List.all_nil, List.map_cons, List.map_nil, List.length_cons, List.length_nil, Bool.and_true, Bool.true_and, Bool.and_self, Bool.not_true, Bool.not_false, if_true, cond_true, cond_false, Bool.false_eq_true, if_false, true_and, and_true, Rs.P_ok, Bool.and_false, Bool.false_and, Nat.reduceAdd, Nat.reduceLeDiff, Nat.reduceEqDiff, reduceCtorEq, x_add, x_iadd, x_sub, x_lt, x_le, x_gt, x_ge, x_eq, x_ne, x_eqB, x_neB, x_eqS, x_neS, x_max2, x_min2, x_int1, x_intB, x_lenL, x_lenT, x_lenO, x_lenS, x_sumL, x_sumO, x_sortL, x_sortO, x_listL, x_listT, x_listO, x_isN, x_isNn, x_isNi, x_isNl, x_isNt, x_isNb, x_notN, x_ixL, x_ixT, x_ixO, x_ixS, x_ix0, x_ix1, x_ix2, x_sl, x_slO, x_slT, x_inL, x_inO, x_ninL, x_ninO]
      by_cases hlt : lo < hi
      · simp only [hlt, decide_true, if_true]
        refine p_seq (p_set ?_)
        simp only [evVar, En.get, evC, evBin, evSh, evEsc, evB, evEB, evChain, evAnd, evOr, evNot, evAndV, evOrV, evNotV, evIf, evCons, evNil, evLst, evTup, evCall, callF, evSl, eoN, eoS, evUn, evC1, evIsi, evTru, erg1, erg2, evLRg, evTRg, eiSeq, eiEnum, eiZip, x_bind, x_rs, x_asB, x_asI, x_bifB, x_bifO, x_andB, x_orB, x_bifI, List.length_map, en0, List.replicate, List.cons_append, List.nil_append, T.asD, T.items, T.itL, T.itT, T.er, T.ers, T.noScr, T.noScrs, T.shs, mkL, mkT, T.isSh, T.argOk, T.toArg, T.solid, T.isL, appT, T.parts, putAll, T.tru, T.ty, tyD, En.put, En.clr, En.share, egName, egTup, egCons, egNil, Option.map_some, Option.map_none, Option.bind_some, Option.bind, List.all_cons, List.all_nil, List.map_cons, List.map_nil, List.length_cons, List.length_nil, Bool.and_true, Bool.true_and, Bool.and_self, Bool.not_true, Bool.not_false, if_true, cond_true, cond_false, Bool.false_eq_true, if_false, true_and, and_true, Rs.P_ok, Bool.and_false, Bool.false_and, Nat.reduceAdd, Nat.reduceLeDiff, Nat.reduceEqDiff, reduceCtorEq, x_add, x_iadd, x_sub, x_lt, x_le, x_gt, x_ge, x_eq, x_ne, x_eqB, x_neB, x_eqS, x_neS, x_max2, x_min2, x_int1, x_intB, x_lenL, x_lenT, x_lenO, x_lenS, x_sumL, x_sumO, x_sortL, x_sortO, x_listL, x_listT, x_listO, x_isN, x_isNn, x_isNi, x_isNl, x_isNt, x_isNb, x_notN, x_ixL, x_ixT, x_ixO, x_ixS, x_ix0, x_ix1, x_ix2, x_sl, x_slO, x_slT, x_inL, x_inO, x_ninL, x_ninO]
        rw [x_div (by omega) (by omega)]
        simp only [evVar, En.get, evC, evBin, evSh, evEsc, evB, evEB, evChain, evAnd, evOr, evNot, evAndV, evOrV, evNotV, evIf, evCons, evNil, evLst, evTup, evCall, callF, evSl, eoN, eoS, evUn, evC1, evIsi, evTru, erg1, erg2, evLRg, evTRg, eiSeq, eiEnum, eiZip, x_bind, x_rs, x_asB, x_asI, x_bifB, x_bifO, x_andB, x_orB, x_bifI, List.length_map, en0, List.replicate, List.cons_append, List.nil_append, T.asD, T.items, T.itL, T.itT, T.er, T.ers, T.noScr, T.noScrs, T.shs, mkL, mkT, T.isSh, T.argOk, T.toArg, T.solid, T.isL, appT, T.parts, putAll, T.tru, T.ty, tyD, En.put, En.clr, En.share, egName, egTup, egCons, egNil, Option.map_some, Option.map_none, Option.bind_some, Option.bind, List.all_cons, List.all_nil, List.map_cons, List.map_nil, List.length_cons, List.length_nil, Bool.and_true, Bool.true_and, Bool.and_self, Bool.not_true, Bool.not_false, if_true, cond_true, cond_false, Bool.false_eq_true, if_false, true_and, and_true, Rs.P_ok, Bool.and_false, Bool.false_and, Nat.reduceAdd, Nat.reduceLeDiff, Nat.reduceEqDiff, reduceCtorEq, x_add, x_iadd, x_sub, x_lt, x_le, x_gt, x_ge, x_eq, x_ne, x_eqB, x_neB, x_eqS, x_neS, x_max2, x_min2, x_int1, x_intB, x_lenL, x_lenT, x_lenO, x_lenS, x_sumL, x_sumO, x_sortL, x_sortO, x_listL, x_listT, x_listO, x_isN, x_isNn, x_isNi, x_isNl, x_isNt, x_isNb, x_notN, x_ixL, x_ixT, x_ixO, x_ixS, x_ix0, x_ix1, x_ix2, x_sl, x_slO, x_slT, x_inL, x_inO, x_ninL, x_ninO]
        have hm : lo ≤ (lo + hi) / 2 ∧ (lo + hi) / 2 < hi := by omega
        refine p_share (p_share (p_share (p_share (p_share (p_ifD (p := countedC cl begin vs ((lo + hi) / 2) < days) ?_ (fun hp => ?_) fun hp => ?_)))))
        · simp only [evVar, En.get, evC, evBin, evSh, evEsc, evB, evEB, evChain, evAnd, evOr, evNot, evAndV, evOrV, evNotV, evIf, evCons, evNil, evLst, evTup, evCall, callF, evSl, eoN, eoS, evUn, evC1, evIsi, evTru, erg1, erg2, evLRg, evTRg, eiSeq, eiEnum, eiZip, x_bind, x_rs, x_asB, x_asI, x_bifB, x_bifO, x_andB, x_orB, x_bifI, List.length_map, en0, List.replicate, List.cons_append, List.nil_append, T.asD, T.items, T.itL, T.itT, T.er, T.ers, T.noScr, T.noScrs, T.shs, mkL, mkT, T.isSh, T.argOk, T.toArg, T.solid, T.isL, appT, T.parts, putAll, T.tru, T.ty, tyD, En.put, En.clr, En.share, egName, egTup, egCons, egNil, Option.map_some, Option.map_none, Option.bind_some, Option.bind, List.all_cons, List.all_nil, List.map_cons, List.map_nil, List.length_cons, List.length_nil, Bool.and_true, Bool.true_and, Bool.and_self, Bool.not_true, Bool.not_false, if_true, cond_true, cond_false, Bool.false_eq_true, if_false, true_and, and_true, Rs.P_ok, Bool.and_false, Bool.false_and, Nat.reduceAdd, Nat.reduceLeDiff, Nat.reduceEqDiff, reduceCtorEq, x_add, x_iadd, x_sub, x_lt, x_le, x_gt, x_ge, x_eq, x_ne, x_eqB, x_neB, x_eqS, x_neS, x_max2, x_min2, x_int1, x_intB, x_lenL, x_lenT, x_lenO, x_lenS, x_sumL, x_sumO, x_sortL, x_sortO, x_listL, x_listT, x_listO, x_isN, x_isNn, x_isNi, x_isNl, x_isNt, x_isNb, x_notN, x_ixL, x_ixT, x_ixO, x_ixS, x_ix0, x_ix1, x_ix2, x_sl, x_slO, x_slT, x_inL, x_inO, x_ninL, x_ninO]
          rw [w_holds_on _ _ _ _ _ h hv]
          simp only [evVar, En.get, evC, evBin, evSh, evEsc, evB, evEB, evChain, evAnd, evOr, evNot, evAndV, evOrV, evNotV, evIf, evCons, evNil, evLst, evTup, evCall, callF, evSl, eoN, eoS, evUn, evC1, evIsi, evTru, erg1, erg2, evLRg, evTRg, eiSeq, eiEnum, eiZip, x_bind, x_rs, x_asB, x_asI, x_bifB, x_bifO, x_andB, x_orB, x_bifI, List.length_map, en0, List.replicate, List.cons_append, List.nil_append, T.asD, T.items, T.itL, T.itT, T.er, T.ers, T.noScr, T.noScrs, T.shs, mkL, mkT, T.isSh, T.argOk, T.toArg, T.solid, T.isL, appT, T.parts, putAll, T.tru, T.ty, tyD, En.put, En.clr, En.share, egName, egTup, egCons, egNil, Option.map_some, Option.map_none, Option.bind_some, Option.bind, List.all_cons, List.all_nil, List.map_cons, List.map_nil, List.length_cons, List.length_nil, Bool.and_true, Bool.true_and, Bool.and_self, Bool.not_true, Bool.not_false, if_true, cond_true, cond_false, Bool.false_eq_true, if_false, true_and, and_true, Rs.P_ok, Bool.and_false, Bool.false_and, Nat.reduceAdd, Nat.reduceLeDiff, Nat.reduceEqDiff, reduceCtorEq, x_add, x_iadd, x_sub, x_lt, x_le, x_gt, x_ge, x_eq, x_ne, x_eqB, x_neB, x_eqS, x_neS, x_max2, x_min2, x_int1, x_intB, x_lenL, x_lenT, x_lenO, x_lenS, x_sumL, x_sumO, x_sortL, x_sortO, x_listL, x_listT, x_listO, x_isN, x_isNn, x_isNi, x_isNl, x_isNt, x_isNb, x_notN, x_ixL, x_ixT, x_ixO, x_ixS, x_ix0, x_ix1, x_ix2, x_sl, x_slO, x_slT, x_inL, x_inO, x_ninL, x_ninO, holdsC]
        · refine p_set ?_
          simp only [evVar, En.get, evC, evBin, evSh, evEsc, evB, evEB, evChain, evAnd, evOr, evNot, evAndV, evOrV, evNotV, evIf, evCons, evNil, evLst, evTup, evCall, callF, evSl, eoN, eoS, evUn, evC1, evIsi, evTru, erg1, erg2, evLRg, evTRg, eiSeq, eiEnum, eiZip, x_bind, x_rs, x_asB, x_asI, x_bifB, x_bifO, x_andB, x_orB, x_bifI, List.length_map, en0, List.replicate, List.cons_append, List.nil_append, T.asD, T.items, T.itL, T.itT, T.er, T.ers, T.noScr, T.noScrs, T.shs, mkL, mkT, T.isSh, T.argOk, T.toArg, T.solid, T.isL, appT, T.parts, putAll, T.tru, T.ty, tyD, En.put, En.clr, En.share, egName, egTup, egCons, egNil, Option.map_some, Option.map_none, Option.bind_some, Option.bind, List.all_cons, List.all_nil, List.map_cons, List.map_nil, List.length_cons, List.length_nil, Bool.and_true, Bool.true_and, Bool.and_self, Bool.not_true, Bool.not_false, if_true, cond_true, cond_false, Bool.false_eq_true, if_false, true_and, and_true, Rs.P_ok, Bool.and_false, Bool.false_and, Nat.reduceAdd, Nat.reduceLeDiff, Nat.reduceEqDiff, reduceCtorEq, x_add, x_iadd, x_sub, x_lt, x_le, x_gt, x_ge, x_eq, x_ne, x_eqB, x_neB, x_eqS, x_neS, x_max2, x_min2, x_int1, x_intB, x_lenL, x_lenT, x_lenO, x_lenS, x_sumL, x_sumO, x_sortL, x_sortO, x_listL, x_listT, x_listO, x_isN, x_isNn, x_isNi, x_isNl, x_isNt, x_isNb, x_notN, x_ixL, x_ixT, x_ixO, x_ixS, x_ix0, x_ix1, x_ix2, x_sl, x_slO, x_slT, x_inL, x_inO, x_ninL, x_ninO]
          exact ⟨_, by omega, _, _, _, rfl, by omega, by omega, h3, rfl, h4, fun _ => by rw [show (lo + hi) / 2 + 1 - 1 = (lo + hi) / 2 by omega]; exact hp⟩
        · refine p_share (p_set ?_)
          simp only [evVar, En.get, evC, evBin, evSh, evEsc, evB, evEB, evChain, evAnd, evOr, evNot, evAndV, evOrV, evNotV, evIf, evCons, evNil, evLst, evTup, evCall, callF, evSl, eoN, eoS, evUn, evC1, evIsi, evTru, erg1, erg2, evLRg, evTRg, eiSeq, eiEnum, eiZip, x_bind, x_rs, x_asB, x_asI, x_bifB, x_bifO, x_andB, x_orB, x_bifI, List.length_map, en0, List.replicate, List.cons_append, List.nil_append, T.asD, T.items, T.itL, T.itT, T.er, T.ers, T.noScr, T.noScrs, T.shs, mkL, mkT, T.isSh, T.argOk, T.toArg, T.solid, T.isL, appT, T.parts, putAll, T.tru, T.ty, tyD, En.put, En.clr, En.share, egName, egTup, egCons, egNil, Option.map_some, Option.map_none, Option.bind_some, Option.bind, List.all_cons, List.all_nil, List.map_cons, List.map_nil, List.length_cons, List.length_nil, Bool.and_true, Bool.true_and, Bool.and_self, Bool.not_true, Bool.not_false, if_true, cond_true, cond_false, Bool.false_eq_true, if_false, true_and, and_true, Rs.P_ok, Bool.and_false, Bool.false_and, Nat.reduceAdd, Nat.reduceLeDiff, Nat.reduceEqDiff, reduceCtorEq, x_add, x_iadd, x_sub, x_lt, x_le, x_gt, x_ge, x_eq, x_ne, x_eqB, x_neB, x_eqS, x_neS, x_max2, x_min2, x_int1, x_intB, x_lenL, x_lenT, x_lenO, x_lenS, x_sumL, x_sumO, x_sortL, x_sortO, x_listL, x_listT, x_listO, x_isN, x_isNn, x_isNi, x_isNl, x_isNt, x_isNb, x_notN, x_ixL, x_ixT, x_ixO, x_ixS, x_ix0, x_ix1, x_ix2, x_sl, x_slO, x_slT, x_inL, x_inO, x_ninL, x_ninO]
          exact ⟨_, by omega, _, _, _, rfl, h1, by omega, by omega, rfl, by omega, h5⟩
      · simp only [hlt, decide_false, Bool.false_eq_true, if_false]
        refine p_ret ?_
        simp only [evVar, En.get, evC, evBin, evSh, evEsc, evB, evEB, evChain, evAnd, evOr, evNot, evAndV, evOrV, evNotV, evIf, evCons, evNil, evLst, evTup, evCall, callF, evSl, eoN, eoS, evUn, evC1, evIsi, evTru, erg1, erg2, evLRg, evTRg, eiSeq, eiEnum, eiZip, x_bind, x_rs, x_asB, x_asI, x_bifB, x_bifO, x_andB, x_orB, x_bifI, List.length_map, en0, List.replicate, List.cons_append, List.nil_append, T.asD, T.items, T.itL, T.itT, T.er, T.ers, T.noScr, T.noScrs, T.shs, mkL, mkT, T.isSh, T.argOk, T.toArg, T.solid, T.isL, appT, T.parts, putAll, T.tru, T.ty, tyD, En.put, En.clr, En.share, egName, egTup, egCons, egNil, Option.map_some, Option.map_none, Option.bind_some, Option.bind, List.all_cons, List.all_nil, List.map_cons, List.map_nil, List.length_cons, List.length_nil, Bool.and_true, Bool.true_and, Bool.and_self, Bool.not_true, Bool.not_false, if_true, cond_true, cond_false, Bool.false_eq_true, if_false, true_and, and_true, Rs.P_ok, Bool.and_false, Bool.false_and, Nat.reduceAdd, Nat.reduceLeDiff, Nat.reduceEqDiff, reduceCtorEq, x_add, x_iadd, x_sub, x_lt, x_le, x_gt, x_ge, x_eq, x_ne, x_eqB, x_neB, x_eqS, x_neS, x_max2, x_min2, x_int1, x_intB, x_lenL, x_lenT, x_lenO, x_lenS, x_sumL, x_sumO, x_sortL, x_sortO, x_listL, x_listT, x_listO, x_isN, x_isNn, x_isNi, x_isNl, x_isNt, x_isNb, x_notN, x_ixL, x_ixT, x_ixO, x_ixS, x_ix0, x_ix1, x_ix2, x_sl, x_slO, x_slT, x_inL, x_inO, x_ninL, x_ninO]
        obtain rfl : lo = hi := by omega
        exact ⟨some lo, rfl, h1, h3, h4, h5⟩
  intro N hN R B C
  rcases List.eq_nil_or_concat vs with rfl | ⟨us, v, rfl⟩
  · refine p_if ?_
    simp only [evVar, En.get, evC, evBin, evSh, evEsc, evB, evEB, evChain, evAnd, evOr, evNot, evAndV, evOrV, evNotV, evIf, evCons, evNil, evLst, evTup, evCall, callF, evSl, eoN, eoS, evUn, evC1, evIsi, evTru, erg1, erg2, evLRg, evTRg, eiSeq, eiEnum, eiZip, x_bind, x_rs, x_asB, x_asI, x_bifB, x_bifO, x_andB, x_orB, x_bifI, List.length_map, en0, List.replicate, List.cons_append, List.nil_append, T.asD, T.items, T.itL, T.itT, T.er, T.ers, T.noScr, T.noScrs, T.shs, mkL, mkT, T.isSh, T.argOk, T.toArg, T.solid, T.isL, appT, T.parts, putAll, T.tru, T.ty, tyD, En.put, En.clr, En.share, egName, egTup, egCons, egNil, Option.map_some, Option.map_none, Option.bind_some, Option.bind, List.all_cons, List.all_nil, List.map_cons, List.map_nil, List.length_cons, List.length_nil, Bool.and_true, Bool.true_and, Bool.and_self, Bool.not_true, Bool.not_false, if_true, cond_true, cond_false, Bool.false_eq_true, if_false, true_and, and_true, Rs.P_ok, Bool.and_false, Bool.false_and, Nat.reduceAdd, Nat.reduceLeDiff, Nat.reduceEqDiff, reduceCtorEq, x_add, x_iadd, x_sub, x_lt, x_le, x_gt, x_ge, x_eq, x_ne, x_eqB, x_neB, x_eqS, x_neS, x_max2, x_min2, x_int1, x_intB, x_lenL, x_lenT, x_lenO, x_lenS, x_sumL, x_sumO, x_sortL, x_sortO, x_listL, x_listT, x_listO, x_isN, x_isNn, x_isNi, x_isNl, x_isNt, x_isNb, x_notN, x_ixL, x_ixT, x_ixO, x_ixS, x_ix0, x_ix1, x_ix2, x_sl, x_slO, x_slT, x_inL, x_inO, x_ninL, x_ninO, List.isEmpty_nil]
    exact p_nil hN
  · have hix : L2.atI ((us ++ [v]).map vD) (-1) = some (vD v) := by
      unfold L2.atI L2.ixN
      rw [if_neg (by decide), if_pos (by simp only [List.length_map, List.length_append, List.length_cons, List.length_nil]; omega)]
      rw [show ((-1 : Int) + (((us ++ [v]).map vD).length : Nat)).toNat = (us.map vD).length by simp only [List.length_map, List.length_append, List.length_cons, List.length_nil]; omega, List.map_append]
      simp only [Option.bind_some, List.map_cons, List.map_nil, List.getElem?_concat_length]
    have hne : ((us ++ [v]).map vD).isEmpty = false := by simp
    have hneg : fNeg (.sh (.int 1)) = some (.sh (.int (-1))) := rfl
    rw [List.concat_eq_append] at hN ⊢
    refine p_if ?_
    obtain ⟨b, _ | x⟩ := v
    · simp only [evVar, En.get, evC, evBin, evSh, evEsc, evB, evEB, evChain, evAnd, evOr, evNot, evAndV, evOrV, evNotV, evIf, evCons, evNil, evLst, evTup, evCall, callF, evSl, eoN, eoS, evUn, evC1, evIsi, evTru, erg1, erg2, evLRg, evTRg, eiSeq, eiEnum, eiZip, x_bind, x_rs, x_asB, x_asI, x_bifB, x_bifO, x_andB, x_orB, x_bifI, List.length_map, en0, List.replicate, List.cons_append, List.nil_append, T.asD, T.items, T.itL, T.itT, T.er, T.ers, T.noScr, T.noScrs, T.shs, mkL, mkT, T.isSh, T.argOk, T.toArg, T.solid, T.isL, appT, T.parts, putAll, T.tru, T.ty, tyD, En.put, En.clr, En.share, egName, egTup, egCons, egNil, Option.map_some, Option.map_none, Option.bind_some, Option.bind, List.all_cons, List.all_nil, List.map_cons, List.map_nil, List.length_cons, List.length_nil, Bool.and_true, Bool.true_and, Bool.and_self, Bool.not_true, Bool.not_false, if_true, cond_true, cond_false, Bool.false_eq_true, if_false, true_and, and_true, Rs.P_ok, Bool.and_false, Bool.false_and, Nat.reduceAdd, Nat.reduceLeDiff, Nat.reduceEqDiff, reduceCtorEq, x_add, x_iadd, x_sub, x_lt, x_le, x_gt, x_ge, x_eq, x_ne, x_eqB, x_neB, x_eqS, x_neS, x_max2, x_min2, x_int1, x_intB, x_lenL, x_lenT, x_lenO, x_lenS, x_sumL, x_sumO, x_sortL, x_sortO, x_listL, x_listT, x_listO, x_isN, x_isNn, x_isNi, x_isNl, x_isNt, x_isNb, x_notN, x_ixL, x_ixT, x_ixO, x_ixS, x_ix0, x_ix1, x_ix2, x_sl, x_slO, x_slT, x_inL, x_inO, x_ninL, x_ninO, hne, hneg, hix, oD]
      refine p_set ?_
      simp only [evVar, En.get, evC, evBin, evSh, evEsc, evB, evEB, evChain, evAnd, evOr, evNot, evAndV, evOrV, evNotV, evIf, evCons, evNil, evLst, evTup, evCall, callF, evSl, eoN, eoS, evUn, evC1, evIsi, evTru, erg1, erg2, evLRg, evTRg, eiSeq, eiEnum, eiZip, x_bind, x_rs, x_asB, x_asI, x_bifB, x_bifO, x_andB, x_orB, x_bifI, List.length_map, en0, List.replicate, List.cons_append, List.nil_append, T.asD, T.items, T.itL, T.itT, T.er, T.ers, T.noScr, T.noScrs, T.shs, mkL, mkT, T.isSh, T.argOk, T.toArg, T.solid, T.isL, appT, T.parts, putAll, T.tru, T.ty, tyD, En.put, En.clr, En.share, egName, egTup, egCons, egNil, Option.map_some, Option.map_none, Option.bind_some, Option.bind, List.all_cons, List.all_nil, List.map_cons, List.map_nil, List.length_cons, List.length_nil, Bool.and_true, Bool.true_and, Bool.and_self, Bool.not_true, Bool.not_false, if_true, cond_true, cond_false, Bool.false_eq_true, if_false, true_and, and_true, Rs.P_ok, Bool.and_false, Bool.false_and, Nat.reduceAdd, Nat.reduceLeDiff, Nat.reduceEqDiff, reduceCtorEq, x_add, x_iadd, x_sub, x_lt, x_le, x_gt, x_ge, x_eq, x_ne, x_eqB, x_neB, x_eqS, x_neS, x_max2, x_min2, x_int1, x_intB, x_lenL, x_lenT, x_lenO, x_lenS, x_sumL, x_sumO, x_sortL, x_sortO, x_listL, x_listT, x_listO, x_isN, x_isNn, x_isNi, x_isNl, x_isNt, x_isNb, x_notN, x_ixL, x_ixT, x_ixO, x_ixS, x_ix0, x_ix1, x_ix2, x_sl, x_slO, x_slT, x_inL, x_inO, x_ninL, x_ninO, hne, hneg, hix, oD]
      simpa [highC] using hN
    · simp only [evVar, En.get, evC, evBin, evSh, evEsc, evB, evEB, evChain, evAnd, evOr, evNot, evAndV, evOrV, evNotV, evIf, evCons, evNil, evLst, evTup, evCall, callF, evSl, eoN, eoS, evUn, evC1, evIsi, evTru, erg1, erg2, evLRg, evTRg, eiSeq, eiEnum, eiZip, x_bind, x_rs, x_asB, x_asI, x_bifB, x_bifO, x_andB, x_orB, x_bifI, List.length_map, en0, List.replicate, List.cons_append, List.nil_append, T.asD, T.items, T.itL, T.itT, T.er, T.ers, T.noScr, T.noScrs, T.shs, mkL, mkT, T.isSh, T.argOk, T.toArg, T.solid, T.isL, appT, T.parts, putAll, T.tru, T.ty, tyD, En.put, En.clr, En.share, egName, egTup, egCons, egNil, Option.map_some, Option.map_none, Option.bind_some, Option.bind, List.all_cons, List.all_nil, List.map_cons, List.map_nil, List.length_cons, List.length_nil, Bool.and_true, Bool.true_and, Bool.and_self, Bool.not_true, Bool.not_false, if_true, cond_true, cond_false, Bool.false_eq_true, if_false, true_and, and_true, Rs.P_ok, Bool.and_false, Bool.false_and, Nat.reduceAdd, Nat.reduceLeDiff, Nat.reduceEqDiff, reduceCtorEq, x_add, x_iadd, x_sub, x_lt, x_le, x_gt, x_ge, x_eq, x_ne, x_eqB, x_neB, x_eqS, x_neS, x_max2, x_min2, x_int1, x_intB, x_lenL, x_lenT, x_lenO, x_lenS, x_sumL, x_sumO, x_sortL, x_sortO, x_listL, x_listT, x_listO, x_isN, x_isNn, x_isNi, x_isNl, x_isNt, x_isNb, x_notN, x_ixL, x_ixT, x_ixO, x_ixS, x_ix0, x_ix1, x_ix2, x_sl, x_slO, x_slT, x_inL, x_inO, x_ninL, x_ninO, hne, hneg, hix, oD]
      exact p_nil (by simpa [highC] using hN)
end G
set_option Elab.async false
set_option linter.all false
set_option maxRecDepth 100000
namespace G
open PL PySem
theorem atI_app {α : Type} {pre suf : List α} {x : α} : L2.atI (pre ++ x :: suf) (pre.length : Int) = some x := by
  rw [atI_nat (by simp)]; simp
theorem atI_app1 {α : Type} {pre suf : List α} {x y : α} : L2.atI (pre ++ y :: x :: suf) ((pre.length : Int) + 1) = some x := by
  have e : pre ++ y :: x :: suf = (pre ++ [y]) ++ x :: suf := by simp
  have := atI_app (pre := pre ++ [y]) (suf := suf) (x := x)
  rw [e]
  simpa using this
/-! tariffs -/
abbrev Tf := List (Int × Int)
abbrev pD (p : Int × Int) : PyData := .tuple [.int p.1, .int p.2]
abbrev TL (t : Tf) : PyData := .list (t.map pD)
def lastC (r : Tf) (count : Int) : Int := match r with
  | [] => count
  | (m, _) :: _ => min count (m - 1)
def priceC : Tf → Int → Int
  | [], _ => 0
  | (n, c) :: r, count => max 0 (lastC r count - n + 1) * c + priceC r count
def Cents (t : Tf) : Prop := ∀ p ∈ t, 0 ≤ p.2 ∧ p.2 ≤ 10000
theorem w_price_of (t : Tf) (count : Int) (hc : Cents t) (hl : t.length ≤ 100) : d_price_of [.sh (TL t), .sh (I count)] = .ok (.sh (I (priceC t count))) := by
  refine fn_eq rfl ?_
  refine p_seq (p_set ?_)
  simp only [evVar, En.get, evC, evBin, evSh, evEsc, evB, evEB, evChain, evAnd, evOr, evNot, evAndV, evOrV, evNotV, evIf, evCons, evNil, evLst, evTup, evCall, callF, evSl, eoN, eoS, evUn, evC1, evIsi, evTru, erg1, erg2, evLRg, evTRg, eiSeq, eiEnum, eiZip, x_bind, x_rs, x_asB, x_asI, x_bifB, x_bifO, x_andB, x_orB, x_bifI, List.length_map, en0, List.replicate, List.cons_append, List.nil_append, T.asD, T.items, T.itL, T.itT, T.er, T.ers, T.noScr, T.noScrs, T.shs, mkL, mkT, T.isSh, T.argOk, T.toArg, T.solid, T.isL, appT, T.parts, putAll, T.tru, T.ty, tyD, En.put, En.clr, En.share, egName, egTup, egCons, egNil, Option.map_some, Option.map_none, Option.bind_some, Option.bind, List.all_cons, List.all_nil, List.map_cons, List.map_nil, List.length_cons, List.length_nil, Bool.and_true, Bool.true_and, Bool.and_self, Bool.not_true, Bool.not_false, if_true, cond_true, cond_false, Bool.false_eq_true, if_false, true_and, and_true, Rs.P_ok, Bool.and_false, Bool.false_and, Nat.reduceAdd, Nat.reduceLeDiff, Nat.reduceEqDiff, reduceCtorEq, x_add, x_iadd, x_sub, x_lt, x_le, x_gt, x_ge, x_eq, x_ne, x_eqB, x_neB, x_eqS, x_neS, x_max2, x_min2, x_int1, x_intB, x_lenL, x_lenT, x_lenO, x_lenS, x_sumL, x_sumO, x_sortL, x_sortO, x_listL, x_listT, x_listO, x_isN, x_isNn, x_isNi, x_isNl, x_isNt, x_isNb, x_notN, x_ixL, x_ixT, x_ixO, x_ixS, x_ix0, x_ix1, x_ix2, x_sl, x_slO, x_slT, x_inL, x_inO, x_ninL, x_ninO]
  refine p_seq (p_share ?_)
  have hi : eiEnum (evCons (evVar 0) evNil) [some (T.sh (TL t)), some (T.sh (I count)), some (T.sh (PyData.int 0)), none, none, none, none] = .ok (t.zipIdx.map fun p => PyData.tuple [.int (p.2 : Nat), pD p.1]) := by
    simp only [evVar, En.get, evC, evBin, evSh, evEsc, evB, evEB, evChain, evAnd, evOr, evNot, evAndV, evOrV, evNotV, evIf, evCons, evNil, evLst, evTup, evCall, callF, evSl, eoN, eoS, evUn, evC1, evIsi, evTru, erg1, erg2, evLRg, evTRg, eiSeq, eiEnum, eiZip, x_bind, x_rs, x_asB, x_asI, x_bifB, x_bifO, x_andB, x_orB, x_bifI, List.length_map, en0, List.replicate, List.cons_append, List.nil_append, T.asD, T.items, T.itL, T.itT, T.er, T.ers, T.noScr, T.noScrs, T.shs, mkL, mkT, T.isSh, T.argOk, T.toArg, T.solid, T.isL, appT, T.parts, putAll, T.tru, T.ty, tyD, En.put, En.clr, En.share, egName, egTup, egCons, egNil, Option.map_some, Option.map_none, Option.bind_some, Option.bind, List.all_cons, List.all_nil, List.map_cons, List.map_nil, List.length_cons, List.length_nil, Bool.and_true, Bool.true_and, Bool.and_self, Bool.not_true, Bool.not_false, if_true, cond_true, cond_false, Bool.false_eq_true, if_false, true_and, and_true, Rs.P_ok, Bool.and_false, Bool.false_and, Nat.reduceAdd, Nat.reduceLeDiff, Nat.reduceEqDiff, reduceCtorEq, x_add, x_iadd, x_sub, x_lt, x_le, x_gt, x_ge, x_eq, x_ne, x_eqB, x_neB, x_eqS, x_neS, x_max2, x_min2, x_int1, x_intB, x_lenL, x_lenT, x_lenO, x_lenS, x_sumL, x_sumO, x_sortL, x_sortO, x_listL, x_listT, x_listO, x_isN, x_isNn, x_isNi, x_isNl, x_isNt, x_isNb, x_notN, x_ixL, x_ixT, x_ixO, x_ixS, x_ix0, x_ix1, x_ix2, x_sl, x_slO, x_slT, x_inL, x_inO, x_ninL, x_ninO, enumD, List.zipIdx_map, List.map_map]
    rfl
  refine p_forM hi (fun r ρ => ∃ pre suf a o3 o4 o5 o6, t = pre ++ suf ∧ r = suf.zipIdx pre.length ∧ ρ = [some (.sh (TL t)), some (.sh (I count)), some (.sh (I a)), o3, o4, o5, o6] ∧ a + priceC suf count = priceC t count) ?_ ?_ ?_
  · exact ⟨[], t, 0, none, none, none, none, rfl, rfl, rfl, by omega⟩
  · rintro ⟨p, i⟩ r ρ ⟨pre, suf, a, o3, o4, o5, o6, ht, hr, rfl, ha⟩
    cases suf with
    | nil => cases hr
    | cons q suf =>
      rw [List.zipIdx_cons] at hr
      obtain ⟨e1, hr2⟩ := List.cons.inj hr
      obtain ⟨rfl, rfl⟩ := Prod.mk.inj e1
      obtain ⟨n, c⟩ := p
      have hcc : 0 ≤ c ∧ c ≤ 10000 := hc (n, c) (by rw [ht]; simp)
      refine ⟨_, rfl, ?_⟩
      refine p_seq (p_share (p_set ?_))
      simp only [evVar, En.get, evC, evBin, evSh, evEsc, evB, evEB, evChain, evAnd, evOr, evNot, evAndV, evOrV, evNotV, evIf, evCons, evNil, evLst, evTup, evCall, callF, evSl, eoN, eoS, evUn, evC1, evIsi, evTru, erg1, erg2, evLRg, evTRg, eiSeq, eiEnum, eiZip, x_bind, x_rs, x_asB, x_asI, x_bifB, x_bifO, x_andB, x_orB, x_bifI, List.length_map, en0, List.replicate, List.cons_append, List.nil_append, T.asD, T.items, T.itL, T.itT, T.er, T.ers, T.noScr, T.noScrs, T.shs, mkL, mkT, T.isSh, T.argOk, T.toArg, T.solid, T.isL, appT, T.parts, putAll, T.tru, T.ty, tyD, En.put, En.clr, En.share, egName, egTup, egCons, egNil, Option.map_some, Option.map_none, Option.bind_some, Option.bind, List.all_cons, List.all_nil, List.map_cons, List.map_nil, List.length_cons, List.length_nil, Bool.and_true, Bool.true_and, Bool.and_self, Bool.not_true, Bool.not_false, if_true, cond_true, cond_false, Bool.false_eq_true, if_false, true_and, and_true, Rs.P_ok, Bool.and_false, Bool.false_and, Nat.reduceAdd, Nat.reduceLeDiff, Nat.reduceEqDiff, reduceCtorEq, x_add, x_iadd, x_sub, x_lt, x_le, x_gt, x_ge, x_eq, x_ne, x_eqB, x_neB, x_eqS, x_neS, x_max2, x_min2, x_int1, x_intB, x_lenL, x_lenT, x_lenO, x_lenS, x_sumL, x_sumO, x_sortL, x_sortO, x_listL, x_listT, x_listO, x_isN, x_isNn, x_isNi, x_isNl, x_isNt, x_isNb, x_notN, x_ixL, x_ixT, x_ixO, x_ixS, x_ix0, x_ix1, x_ix2, x_sl, x_slO, x_slT, x_inL, x_inO, x_ninL, x_ninO]
      refine p_seq ?_
      refine p_ifD (p := (pre.length : Int) + 1 < t.length) ?_ (fun hp => ?_) fun hp => ?_
      · simp only [evVar, En.get, evC, evBin, evSh, evEsc, evB, evEB, evChain, evAnd, evOr, evNot, evAndV, evOrV, evNotV, evIf, evCons, evNil, evLst, evTup, evCall, callF, evSl, eoN, eoS, evUn, evC1, evIsi, evTru, erg1, erg2, evLRg, evTRg, eiSeq, eiEnum, eiZip, x_bind, x_rs, x_asB, x_asI, x_bifB, x_bifO, x_andB, x_orB, x_bifI, List.length_map, en0, List.replicate, List.cons_append, List.nil_append, T.asD, T.items, T.itL, T.itT, T.er, T.ers, T.noScr, T.noScrs, T.shs, mkL, mkT, T.isSh, T.argOk, T.toArg, T.solid, T.isL, appT, T.parts, putAll, T.tru, T.ty, tyD, En.put, En.clr, En.share, egName, egTup, egCons, egNil, Option.map_some, Option.map_none, Option.bind_some, Option.bind, List.all_cons, List.all_nil, List.map_cons, List.map_nil, List.length_cons, List.length_nil, Bool.and_true, Bool.true_and, Bool.and_self, Bool.not_true, Bool.not_false, if_true, cond_true, cond_false, Bool.false_eq_true, if_false, true_and, and_true, Rs.P_ok, Bool.and_false, Bool.false_and, Nat.reduceAdd, Nat.reduceLeDiff, Nat.reduceEqDiff, reduceCtorEq, x_add, x_iadd, x_sub, x_lt, x_le, x_gt, x_ge, x_eq, x_ne, x_eqB, x_neB, x_eqS, x_neS, x_max2, x_min2, x_int1, x_intB, x_lenL, x_lenT, x_lenO, x_lenS, x_sumL, x_sumO, x_sortL, x_sortO, x_listL, x_listT, x_listO, x_isN, x_isNn, x_isNi, x_isNl, x_isNt, x_isNb, x_notN, x_ixL, x_ixT, x_ixO, x_ixS, x_ix0, x_ix1, x_ix2, x_sl, x_slO, x_slT, x_inL, x_inO, x_ninL, x_ninO]
      · cases suf with
        | nil => rw [ht] at hp; simp at hp
        | cons q2 suf =>
          obtain ⟨m, c2⟩ := q2
          refine p_set ?_
          have hx : L2.atI (t.map pD) ((pre.length : Int) + 1) = some (pD (m, c2)) := x_ixm (by rw [ht]; exact atI_app1)
          simp only [evVar, En.get, evC, evBin, evSh, evEsc, evB, evEB, evChain, evAnd, evOr, evNot, evAndV, evOrV, evNotV, evIf, evCons, evNil, evLst, evTup, evCall, callF, evSl, eoN, eoS, evUn, evC1, evIsi, evTru, erg1, erg2, evLRg, evTRg, eiSeq, eiEnum, eiZip, x_bind, x_rs, x_asB, x_asI, x_bifB, x_bifO, x_andB, x_orB, x_bifI, List.length_map, en0, List.replicate, List.cons_append, List.nil_append, T.asD, T.items, T.itL, T.itT, T.er, T.ers, T.noScr, T.noScrs, T.shs, mkL, mkT, T.isSh, T.argOk, T.toArg, T.solid, T.isL, appT, T.parts, putAll, T.tru, T.ty, tyD, En.put, En.clr, En.share, egName, egTup, egCons, egNil, Option.map_some, Option.map_none, Option.bind_some, Option.bind, List.all_cons, List.all_nil, List.map_cons, List.map_nil, List.length_cons, List.length_nil, Bool.and_true, Bool.true_and, Bool.and_self, Bool.not_true, Bool.not_false, if_true, cond_true, cond_false, Bool.false_eq_true, if_false, true_and, and_true, Rs.P_ok, Bool.and_false, Bool.false_and, Nat.reduceAdd, Nat.reduceLeDiff, Nat.reduceEqDiff, reduceCtorEq, x_add, x_iadd, x_sub, x_lt, x_le, x_gt, x_ge, x_eq, x_ne, x_eqB, x_neB, x_eqS, x_neS, x_max2, x_min2, x_int1, x_intB, x_lenL, x_lenT, x_lenO, x_lenS, x_sumL, x_sumO, x_sortL, x_sortO, x_listL, x_listT, x_listO, x_isN, x_isNn, x_isNi, x_isNl, x_isNt, x_isNb, x_notN, x_ixL, x_ixT, x_ixO, x_ixS, x_ix0, x_ix1, x_ix2, x_sl, x_slO, x_slT, x_inL, x_inO, x_ninL, x_ninO, hx]
          refine p_set ?_
          simp only [evVar, En.get, evC, evBin, evSh, evEsc, evB, evEB, evChain, evAnd, evOr, evNot, evAndV, evOrV, evNotV, evIf, evCons, evNil, evLst, evTup, evCall, callF, evSl, eoN, eoS, evUn, evC1, evIsi, evTru, erg1, erg2, evLRg, evTRg, eiSeq, eiEnum, eiZip, x_bind, x_rs, x_asB, x_asI, x_bifB, x_bifO, x_andB, x_orB, x_bifI, List.length_map, en0, List.replicate, List.cons_append, List.nil_append, T.asD, T.items, T.itL, T.itT, T.er, T.ers, T.noScr, T.noScrs, T.shs, mkL, mkT, T.isSh, T.argOk, T.toArg, T.solid, T.isL, appT, T.parts, putAll, T.tru, T.ty, tyD, En.put, En.clr, En.share, egName, egTup, egCons, egNil, Option.map_some, Option.map_none, Option.bind_some, Option.bind, List.all_cons, List.all_nil, List.map_cons, List.map_nil, List.length_cons, List.length_nil, Bool.and_true, Bool.true_and, Bool.and_self, Bool.not_true, Bool.not_false, if_true, cond_true, cond_false, Bool.false_eq_true, if_false, true_and, and_true, Rs.P_ok, Bool.and_false, Bool.false_and, Nat.reduceAdd, Nat.reduceLeDiff, Nat.reduceEqDiff, reduceCtorEq, x_add, x_iadd, x_sub, x_lt, x_le, x_gt, x_ge, x_eq, x_ne, x_eqB, x_neB, x_eqS, x_neS, x_max2, x_min2, x_int1, x_intB, x_lenL, x_lenT, x_lenO, x_lenS, x_sumL, x_sumO, x_sortL, x_sortO, x_listL, x_listT, x_listO, x_isN, x_isNn, x_isNi, x_isNl, x_isNt, x_isNb, x_notN, x_ixL, x_ixT, x_ixO, x_ixS, x_ix0, x_ix1, x_ix2, x_sl, x_slO, x_slT, x_inL, x_inO, x_ninL, x_ninO, x_mulR (show -18446744073709551616 < c ∧ c < 18446744073709551616 by omega)]
          refine ⟨pre ++ [(n, c)], (m, c2) :: suf, _, _, _, _, _, by rw [ht]; simp, by rw [hr2]; simp, rfl, ?_⟩
          rw [← ha]
          simp only [priceC, lastC]
          omega
      · cases suf with
        | cons q2 suf => exact absurd (by rw [ht]; simp; omega) hp
        | nil =>
          refine p_nil (p_set ?_)
          simp only [evVar, En.get, evC, evBin, evSh, evEsc, evB, evEB, evChain, evAnd, evOr, evNot, evAndV, evOrV, evNotV, evIf, evCons, evNil, evLst, evTup, evCall, callF, evSl, eoN, eoS, evUn, evC1, evIsi, evTru, erg1, erg2, evLRg, evTRg, eiSeq, eiEnum, eiZip, x_bind, x_rs, x_asB, x_asI, x_bifB, x_bifO, x_andB, x_orB, x_bifI, List.length_map, en0, List.replicate, List.cons_append, List.nil_append, T.asD, T.items, T.itL, T.itT, T.er, T.ers, T.noScr, T.noScrs, T.shs, mkL, mkT, T.isSh, T.argOk, T.toArg, T.solid, T.isL, appT, T.parts, putAll, T.tru, T.ty, tyD, En.put, En.clr, En.share, egName, egTup, egCons, egNil, Option.map_some, Option.map_none, Option.bind_some, Option.bind, List.all_cons, List.all_nil, List.map_cons, List.map_nil, List.length_cons, List.length_nil, Bool.and_true, Bool.true_and, Bool.and_self, Bool.not_true, Bool.not_false, if_true, cond_true, cond_false, Bool.false_eq_true, if_false, true_and, and_true, Rs.P_ok, Bool.and_false, Bool.false_and, Nat.reduceAdd, Nat.reduceLeDiff, Nat.reduceEqDiff, reduceCtorEq, x_add, x_iadd, x_sub, x_lt, x_le, x_gt, x_ge, x_eq, x_ne, x_eqB, x_neB, x_eqS, x_neS, x_max2, x_min2, x_int1, x_intB, x_lenL, x_lenT, x_lenO, x_lenS, x_sumL, x_sumO, x_sortL, x_sortO, x_listL, x_listT, x_listO, x_isN, x_isNn, x_isNi, x_isNl, x_isNt, x_isNb, x_notN, x_ixL, x_ixT, x_ixO, x_ixS, x_ix0, x_ix1, x_ix2, x_sl, x_slO, x_slT, x_inL, x_inO, x_ninL, x_ninO, x_mulR (show -18446744073709551616 < c ∧ c < 18446744073709551616 by omega)]
          refine ⟨pre ++ [(n, c)], [], _, _, _, _, _, by rw [ht]; simp, by rw [hr2]; simp, rfl, ?_⟩
          rw [← ha]
          simp only [priceC, lastC]
          omega
  · rintro ρ ⟨pre, suf, a, o3, o4, o5, o6, ht, hr, rfl, ha⟩
    cases suf with
    | cons q suf => rw [List.zipIdx_cons] at hr; cases hr
    | nil =>
      refine p_ret ?_
      simp only [evVar, En.get, evC, evBin, evSh, evEsc, evB, evEB, evChain, evAnd, evOr, evNot, evAndV, evOrV, evNotV, evIf, evCons, evNil, evLst, evTup, evCall, callF, evSl, eoN, eoS, evUn, evC1, evIsi, evTru, erg1, erg2, evLRg, evTRg, eiSeq, eiEnum, eiZip, x_bind, x_rs, x_asB, x_asI, x_bifB, x_bifO, x_andB, x_orB, x_bifI, List.length_map, en0, List.replicate, List.cons_append, List.nil_append, T.asD, T.items, T.itL, T.itT, T.er, T.ers, T.noScr, T.noScrs, T.shs, mkL, mkT, T.isSh, T.argOk, T.toArg, T.solid, T.isL, appT, T.parts, putAll, T.tru, T.ty, tyD, En.put, En.clr, En.share, egName, egTup, egCons, egNil, Option.map_some, Option.map_none, Option.bind_some, Option.bind, List.all_cons, List.all_nil, List.map_cons, List.map_nil, List.length_cons, List.length_nil, Bool.and_true, Bool.true_and, Bool.and_self, Bool.not_true, Bool.not_false, if_true, cond_true, cond_false, Bool.false_eq_true, if_false, true_and, and_true, Rs.P_ok, Bool.and_false, Bool.false_and, Nat.reduceAdd, Nat.reduceLeDiff, Nat.reduceEqDiff, reduceCtorEq, x_add, x_iadd, x_sub, x_lt, x_le, x_gt, x_ge, x_eq, x_ne, x_eqB, x_neB, x_eqS, x_neS, x_max2, x_min2, x_int1, x_intB, x_lenL, x_lenT, x_lenO, x_lenS, x_sumL, x_sumO, x_sortL, x_sortO, x_listL, x_listT, x_listO, x_isN, x_isNn, x_isNi, x_isNl, x_isNt, x_isNb, x_notN, x_ixL, x_ixT, x_ixO, x_ixS, x_ix0, x_ix1, x_ix2, x_sl, x_slO, x_slT, x_inL, x_inO, x_ninL, x_ninO]
      rw [← ha]
      simp [priceC]
/-! most_for -/
theorem w_most_for (t : Tf) (money : Int) (hc : Cents t) (hl : t.length ≤ 100) (h0 : priceC t 0 ≤ money) :
    ∃ m : Int, d_most_for [.sh (TL t), .sh (I money)] = .ok (.sh (I m)) ∧ 0 ≤ m ∧ m ≤ 1000000000 ∧ priceC t m ≤ money ∧ (m < 1000000000 → money < priceC t (m + 1)) := by
  suffices hs : (d_most_for [.sh (TL t), .sh (I money)]).P fun x => ∃ m : Int, x = .sh (I m) ∧ 0 ≤ m ∧ m ≤ 1000000000 ∧ priceC t m ≤ money ∧ (m < 1000000000 → money < priceC t (m + 1)) by
    obtain ⟨x, e, m, rfl, q⟩ := hs.ex
    exact ⟨m, e, q⟩
  refine p_fn rfl ?_
  refine p_seq (p_set ?_)
  simp only [evVar, En.get, evC, evBin, evSh, evEsc, evB, evEB, evChain, evAnd, evOr, evNot, evAndV, evOrV, evNotV, evIf, evCons, evNil, evLst, evTup, evCall, callF, evSl, eoN, eoS, evUn, evC1, evIsi, evTru, erg1, erg2, evLRg, evTRg, eiSeq, eiEnum, eiZip, x_bind, x_rs, x_asB, x_asI, x_bifB, x_bifO, x_andB, x_orB, x_bifI, List.length_map, en0, List.replicate, List.cons_append, List.nil_append, T.asD, T.items, T.itL, T.itT, T.er, T.ers, T.noScr, T.noScrs, T.shs, mkL, mkT, T.isSh, T.argOk, T.toArg, T.solid, T.isL, appT, T.parts, putAll, T.tru, T.ty, tyD, En.put, En.clr, En.share, egName, egTup, egCons, egNil, Option.map_some, Option.map_none, Option.bind_some, Option.bind, List.all_cons, List.all_nil, List.map_cons, List.map_nil, List.length_cons, List.length_nil, Bool.and_true, Bool.true_and, Bool.and_self, Bool.not_true, Bool.not_false, if_true, cond_true, cond_false, Bool.false_eq_true, if_false, true_and, and_true, Rs.P_ok, Bool.and_false, Bool.false_and, Nat.reduceAdd, Nat.reduceLeDiff, Nat.reduceEqDiff, reduceCtorEq, x_add, x_iadd, x_sub, x_lt, x_le, x_gt, x_ge, x_eq, x_ne, x_eqB, x_neB, x_eqS, x_neS, x_max2, x_min2, x_int1, x_intB, x_lenL, x_lenT, x_lenO, x_lenS, x_sumL, x_sumO, x_sortL, x_sortO, x_listL, x_listT, x_listO, x_isN, x_isNn, x_isNi, x_isNl, x_isNt, x_isNb, x_notN, x_ixL, x_ixT, x_ixO, x_ixS, x_ix0, x_ix1, x_ix2, x_sl, x_slO, x_slT, x_inL, x_inO, x_ninL, x_ninO]
  refine p_seq (p_set ?_)
  simp only [evVar, En.get, evC, evBin, evSh, evEsc, evB, evEB, evChain, evAnd, evOr, evNot, evAndV, evOrV, evNotV, evIf, evCons, evNil, evLst, evTup, evCall, callF, evSl, eoN, eoS, evUn, evC1, evIsi, evTru, erg1, erg2, evLRg, evTRg, eiSeq, eiEnum, eiZip, x_bind, x_rs, x_asB, x_asI, x_bifB, x_bifO, x_andB, x_orB, x_bifI, List.length_map, en0, List.replicate, List.cons_append, List.nil_append, T.asD, T.items, T.itL, T.itT, T.er, T.ers, T.noScr, T.noScrs, T.shs, mkL, mkT, T.isSh, T.argOk, T.toArg, T.solid, T.isL, appT, T.parts, putAll, T.tru, T.ty, tyD, En.put, En.clr, En.share, egName, egTup, egCons, egNil, Option.map_some, Option.map_none, Option.bind_some, Option.bind, List.all_cons, List.all_nil, List.map_cons, List.map_nil, List.length_cons, List.length_nil, Bool.and_true, Bool.true_and, Bool.and_self, Bool.not_true, Bool.not_false, if_true, cond_true, cond_false, Bool.false_eq_true, if_false, true_and, and_true, Rs.P_ok, Bool.and_false, Bool.false_and, Nat.reduceAdd, Nat.reduceLeDiff, Nat.reduceEqDiff, reduceCtorEq, x_add, x_iadd, x_sub, x_lt, x_le, x_gt, x_ge, x_eq, x_ne, x_eqB, x_neB, x_eqS, x_neS, x_max2, x_min2, x_int1, x_intB, x_lenL, x_lenT, x_lenO, x_lenS, x_sumL, x_sumO, x_sortL, x_sortO, x_listL, x_listT, x_listO, x_isN, x_isNn, x_isNi, x_isNl, x_isNt, x_isNb, x_notN, x_ixL, x_ixT, x_ixO, x_ixS, x_ix0, x_ix1, x_ix2, x_sl, x_slO, x_slT, x_inL, x_inO, x_ninL, x_ninO]
  refine p_seq (p_while (fun n ρ => ∃ lo hi : Int, ∃ o, ρ = [some (.sh (TL t)), some (.sh (I money)), some (.sh (I lo)), some (.sh (I hi)), o] ∧ 0 ≤ lo ∧ lo ≤ hi ∧ hi ≤ 1000000000 ∧ n = (hi - lo).toNat ∧
        priceC t lo ≤ money ∧ (hi < 1000000000 → money < priceC t (hi + 1))) (n := 1000000000) (by unfold fuel; omega) ⟨0, 1000000000, none, rfl, by omega, by omega, by omega, rfl, h0, fun z => by omega⟩ ?_)
  rintro m ρ ⟨lo, hi, o, rfl, h1, h2, h3, rfl, h4, h5⟩
  simp only [evVar, En.get, evC, evBin, evSh, evEsc, evB, evEB, evChain, evAnd, evOr, evNot, evAndV, evOrV, evNotV, evIf, evCons, evNil, evLst, evTup, evCall, callF, evSl, eoN, eoS, evUn, evC1, evIsi, evTru, erg1, erg2, evLRg, evTRg, eiSeq, eiEnum, eiZip, x_bind, x_rs, x_asB, x_asI, x_bifB, x_bifO, x_andB, x_orB, x_bifI, List.length_map, en0, List.replicate, List.cons_append, List.nil_append, T.asD, T.items, T.itL, T.itT, T.er, T.ers, T.noScr, T.noScrs, T.shs, mkL, mkT, T.isSh, T.argOk, T.toArg, T.solid, T.isL, appT, T.parts, putAll, T.tru, T.ty, tyD, En.put, En.clr, En.share, egName, egTup, egCons, egNil, Option.map_some, Option.map_none, Option.bind_some, Option.bind, List.all_cons, List.all_nil, List.map_cons, List.map_nil, List.length_cons, List.length_nil, Bool.and_true, Bool.true_and, Bool.and_self, Bool.not_true, Bool.not_false, if_true, cond_true, cond_false, Bool.false_eq_true, if_false, true_and, and_true, Rs.P_ok, Bool.and_false, Bool.false_and, Nat.reduceAdd, Nat.reduceLeDiff, Nat.reduceEqDiff, reduceCtorEq, x_add, x_iadd, x_sub, x_lt, x_le, x_gt, x_ge, x_eq, x_ne, x_eqB, x_neB, x_eqS, x_neS, x_max2, x_min2, x_int1, x_intB, x_lenL, x_lenT, x_lenO, x_lenS, x_sumL, x_sumO, x_sortL, x_sortO, x_listL, x_listT, x_listO, x_isN, x_isNn, x_isNi, x_isNl, x_isNt, x_isNb, x_notN, x_ixL, x_ixT, x_ixO, x_ixS, x_ix0, x_ix1, x_ix2, x_sl, x_slO, x_slT, x_inL, x_inO, x_ninL, x_ninO]
  by_cases hlt : lo < hi
  · simp only [hlt, decide_true, if_true]
    refine p_seq (p_set ?_)
    simp only [evVar, En.get, evC, evBin, evSh, evEsc, evB, evEB, evChain, evAnd, evOr, evNot, evAndV, evOrV, evNotV, evIf, evCons, evNil, evLst, evTup, evCall, callF, evSl, eoN, eoS, evUn, evC1, evIsi, evTru, erg1, erg2, evLRg, evTRg, eiSeq, eiEnum, eiZip, x_bind, x_rs, x_asB, x_asI, x_bifB, x_bifO, x_andB, x_orB, x_bifI, List.length_map, en0, List.replicate, List.cons_append, List.nil_append, T.asD, T.items, T.itL, T.itT, T.er, T.ers, T.noScr, T.noScrs, T.shs, mkL, mkT, T.isSh, T.argOk, T.toArg, T.solid, T.isL, appT, T.parts, putAll, T.tru, T.ty, tyD, En.put, En.clr, En.share, egName, egTup, egCons, egNil, Option.map_some, Option.map_none, Option.bind_some, Option.bind, List.all_cons, List.all_nil, List.map_cons, List.map_nil, List.length_cons, List.length_nil, Bool.and_true, Bool.true_and, Bool.and_self, Bool.not_true, Bool.not_false, if_true, cond_true, cond_false, Bool.false_eq_true, if_false, true_and, and_true, Rs.P_ok, Bool.and_false, Bool.false_and, Nat.reduceAdd, Nat.reduceLeDiff, Nat.reduceEqDiff, reduceCtorEq, x_add, x_iadd, x_sub, x_lt, x_le, x_gt, x_ge, x_eq, x_ne, x_eqB, x_neB, x_eqS, x_neS, x_max2, x_min2, x_int1, x_intB, x_lenL, x_lenT, x_lenO, x_lenS, x_sumL, x_sumO, x_sortL, x_sortO, x_listL, x_listT, x_listO, x_isN, x_isNn, x_isNi, x_isNl, x_isNt, x_isNb, x_notN, x_ixL, x_ixT, x_ixO, x_ixS, x_ix0, x_ix1, x_ix2, x_sl, x_slO, x_slT, x_inL, x_inO, x_ninL, x_ninO]
    rw [x_div (by omega) (by omega)]
    simp only [evVar, En.get, evC, evBin, evSh, evEsc, evB, evEB, evChain, evAnd, evOr, evNot, evAndV, evOrV, evNotV, evIf, evCons, evNil, evLst, evTup, evCall, callF, evSl, eoN, eoS, evUn, evC1, evIsi, evTru, erg1, erg2, evLRg, evTRg, eiSeq, eiEnum, eiZip, x_bind, x_rs, x_asB, x_asI, x_bifB, x_bifO, x_andB, x_orB, x_bifI, List.length_map, en0, List.replicate, List.cons_append, List.nil_append, T.asD, T.items, T.itL, T.itT, T.er, T.ers, T.noScr, T.noScrs, T.shs, mkL, mkT, T.isSh, T.argOk, T.toArg, T.solid, T.isL, appT, T.parts, putAll, T.tru, T.ty, tyD, En.put, En.clr, En.share, egName, egTup, egCons, egNil, Option.map_some, Option.map_none, Option.bind_some, Option.bind, List.all_cons, List.all_nil, List.map_cons, List.map_nil, List.length_cons, List.length_nil, Bool.and_true, Bool.true_and, Bool.and_self, Bool.not_true, Bool.not_false, if_true, cond_true, cond_false, Bool.false_eq_true, if_false, true_and, and_true, Rs.P_ok, Bool.and_false, Bool.false_and, Nat.reduceAdd, Nat.reduceLeDiff, Nat.reduceEqDiff, reduceCtorEq, x_add, x_iadd, x_sub, x_lt, x_le, x_gt, x_ge, x_eq, x_ne, x_eqB, x_neB, x_eqS, x_neS, x_max2, x_min2, x_int1, x_intB, x_lenL, x_lenT, x_lenO, x_lenS, x_sumL, x_sumO, x_sortL, x_sortO, x_listL, x_listT, x_listO, x_isN, x_isNn, x_isNi, x_isNl, x_isNt, x_isNb, x_notN, x_ixL, x_ixT, x_ixO, x_ixS, x_ix0, x_ix1, x_ix2, x_sl, x_slO, x_slT, x_inL, x_inO, x_ninL, x_ninO]
    have hm : lo < (lo + hi + 1) / 2 ∧ (lo + hi + 1) / 2 ≤ hi := by omega
    refine p_share (p_share (p_ifD (p := priceC t ((lo + hi + 1) / 2) ≤ money) ?_ (fun hp => ?_) fun hp => ?_))
    · simp only [evVar, En.get, evC, evBin, evSh, evEsc, evB, evEB, evChain, evAnd, evOr, evNot, evAndV, evOrV, evNotV, evIf, evCons, evNil, evLst, evTup, evCall, callF, evSl, eoN, eoS, evUn, evC1, evIsi, evTru, erg1, erg2, evLRg, evTRg, eiSeq, eiEnum, eiZip, x_bind, x_rs, x_asB, x_asI, x_bifB, x_bifO, x_andB, x_orB, x_bifI, List.length_map, en0, List.replicate, List.cons_append, List.nil_append, T.asD, T.items, T.itL, T.itT, T.er, T.ers, T.noScr, T.noScrs, T.shs, mkL, mkT, T.isSh, T.argOk, T.toArg, T.solid, T.isL, appT, T.parts, putAll, T.tru, T.ty, tyD, En.put, En.clr, En.share, egName, egTup, egCons, egNil, Option.map_some, Option.map_none, Option.bind_some, Option.bind, List.all_cons, List.all_nil, List.map_cons, List.map_nil, List.length_cons, List.length_nil, Bool.and_true, Bool.true_and, Bool.and_self, Bool.not_true, Bool.not_false, if_true, cond_true, cond_false, Bool.false_eq_true, if_false, true_and, and_true, Rs.P_ok, Bool.and_false, Bool.false_and, Nat.reduceAdd, Nat.reduceLeDiff, Nat.reduceEqDiff, reduceCtorEq, x_add, x_iadd, x_sub, x_lt, x_le, x_gt, x_ge, x_eq, x_ne, x_eqB, x_neB, x_eqS, x_neS, x_max2, x_min2, x_int1, x_intB, x_lenL, x_lenT, x_lenO, x_lenS, x_sumL, x_sumO, x_sortL, x_sortO, x_listL, x_listT, x_listO, x_isN, x_isNn, x_isNi, x_isNl, x_isNt, x_isNb, x_notN, x_ixL, x_ixT, x_ixO, x_ixS, x_ix0, x_ix1, x_ix2, x_sl, x_slO, x_slT, x_inL, x_inO, x_ninL, x_ninO]
      rw [w_price_of _ _ hc hl]
      simp only [evVar, En.get, evC, evBin, evSh, evEsc, evB, evEB, evChain, evAnd, evOr, evNot, evAndV, evOrV, evNotV, evIf, evCons, evNil, evLst, evTup, evCall, callF, evSl, eoN, eoS, evUn, evC1, evIsi, evTru, erg1, erg2, evLRg, evTRg, eiSeq, eiEnum, eiZip, x_bind, x_rs, x_asB, x_asI, x_bifB, x_bifO, x_andB, x_orB, x_bifI, List.length_map, en0, List.replicate, List.cons_append, List.nil_append, T.asD, T.items, T.itL, T.itT, T.er, T.ers, T.noScr, T.noScrs, T.shs, mkL, mkT, T.isSh, T.argOk, T.toArg, T.solid, T.isL, appT, T.parts, putAll, T.tru, T.ty, tyD, En.put, En.clr, En.share, egName, egTup, egCons, egNil, Option.map_some, Option.map_none, Option.bind_some, Option.bind, List.all_cons, List.all_nil, List.map_cons, List.map_nil, List.length_cons, List.length_nil, Bool.and_true, Bool.true_and, Bool.and_self, Bool.not_true, Bool.not_false, if_true, cond_true, cond_false, Bool.false_eq_true, if_false, true_and, and_true, Rs.P_ok, Bool.and_false, Bool.false_and, Nat.reduceAdd, Nat.reduceLeDiff, Nat.reduceEqDiff, reduceCtorEq, x_add, x_iadd, x_sub, x_lt, x_le, x_gt, x_ge, x_eq, x_ne, x_eqB, x_neB, x_eqS, x_neS, x_max2, x_min2, x_int1, x_intB, x_lenL, x_lenT, x_lenO, x_lenS, x_sumL, x_sumO, x_sortL, x_sortO, x_listL, x_listT, x_listO, x_isN, x_isNn, x_isNi, x_isNl, x_isNt, x_isNb, x_notN, x_ixL, x_ixT, x_ixO, x_ixS, x_ix0, x_ix1, x_ix2, x_sl, x_slO, x_slT, x_inL, x_inO, x_ninL, x_ninO]
    · refine p_share (p_set ?_)
      simp only [evVar, En.get, evC, evBin, evSh, evEsc, evB, evEB, evChain, evAnd, evOr, evNot, evAndV, evOrV, evNotV, evIf, evCons, evNil, evLst, evTup, evCall, callF, evSl, eoN, eoS, evUn, evC1, evIsi, evTru, erg1, erg2, evLRg, evTRg, eiSeq, eiEnum, eiZip, x_bind, x_rs, x_asB, x_asI, x_bifB, x_bifO, x_andB, x_orB, x_bifI, List.length_map, en0, List.replicate, List.cons_append, List.nil_append, T.asD, T.items, T.itL, T.itT, T.er, T.ers, T.noScr, T.noScrs, T.shs, mkL, mkT, T.isSh, T.argOk, T.toArg, T.solid, T.isL, appT, T.parts, putAll, T.tru, T.ty, tyD, En.put, En.clr, En.share, egName, egTup, egCons, egNil, Option.map_some, Option.map_none, Option.bind_some, Option.bind, List.all_cons, List.all_nil, List.map_cons, List.map_nil, List.length_cons, List.length_nil, Bool.and_true, Bool.true_and, Bool.and_self, Bool.not_true, Bool.not_false, if_true, cond_true, cond_false, Bool.false_eq_true, if_false, true_and, and_true, Rs.P_ok, Bool.and_false, Bool.false_and, Nat.reduceAdd, Nat.reduceLeDiff, Nat.reduceEqDiff, reduceCtorEq, x_add, x_iadd, x_sub, x_lt, x_le, x_gt, x_ge, x_eq, x_ne, x_eqB, x_neB, x_eqS, x_neS, x_max2, x_min2, x_int1, x_intB, x_lenL, x_lenT, x_lenO, x_lenS, x_sumL, x_sumO, x_sortL, x_sortO, x_listL, x_listT, x_listO, x_isN, x_isNn, x_isNi, x_isNl, x_isNt, x_isNb, x_notN, x_ixL, x_ixT, x_ixO, x_ixS, x_ix0, x_ix1, x_ix2, x_sl, x_slO, x_slT, x_inL, x_inO, x_ninL, x_ninO]
      exact ⟨_, by omega, _, _, _, rfl, by omega, by omega, h3, rfl, hp, h5⟩
    · refine p_set ?_
      simp only [evVar, En.get, evC, evBin, evSh, evEsc, evB, evEB, evChain, evAnd, evOr, evNot, evAndV, evOrV, evNotV, evIf, evCons, evNil, evLst, evTup, evCall, callF, evSl, eoN, eoS, evUn, evC1, evIsi, evTru, erg1, erg2, evLRg, evTRg, eiSeq, eiEnum, eiZip, x_bind, x_rs, x_asB, x_asI, x_bifB, x_bifO, x_andB, x_orB, x_bifI, List.length_map, en0, List.replicate, List.cons_append, List.nil_append, T.asD, T.items, T.itL, T.itT, T.er, T.ers, T.noScr, T.noScrs, T.shs, mkL, mkT, T.isSh, T.argOk, T.toArg, T.solid, T.isL, appT, T.parts, putAll, T.tru, T.ty, tyD, En.put, En.clr, En.share, egName, egTup, egCons, egNil, Option.map_some, Option.map_none, Option.bind_some, Option.bind, List.all_cons, List.all_nil, List.map_cons, List.map_nil, List.length_cons, List.length_nil, Bool.and_true, Bool.true_and, Bool.and_self, Bool.not_true, Bool.not_false, if_true, cond_true, cond_false, Bool.false_eq_true, if_false, true_and, and_true, Rs.P_ok, Bool.and_false, Bool.false_and, Nat.reduceAdd, Nat.reduceLeDiff, Nat.reduceEqDiff, reduceCtorEq, x_add, x_iadd, x_sub, x_lt, x_le, x_gt, x_ge, x_eq, x_ne, x_eqB, x_neB, x_eqS, x_neS, x_max2, x_min2, x_int1, x_intB, x_lenL, x_lenT, x_lenO, x_lenS, x_sumL, x_sumO, x_sortL, x_sortO, x_listL, x_listT, x_listO, x_isN, x_isNn, x_isNi, x_isNl, x_isNt, x_isNb, x_notN, x_ixL, x_ixT, x_ixO, x_ixS, x_ix0, x_ix1, x_ix2, x_sl, x_slO, x_slT, x_inL, x_inO, x_ninL, x_ninO]
      exact ⟨_, by omega, _, _, _, rfl, h1, by omega, by omega, rfl, h4, fun _ => by rw [show (lo + hi + 1) / 2 - 1 + 1 = (lo + hi + 1) / 2 by omega]; omega⟩
  · simp only [hlt, decide_false, Bool.false_eq_true, if_false]
    refine p_ret ?_
    simp only [evVar, En.get, evC, evBin, evSh, evEsc, evB, evEB, evChain, evAnd, evOr, evNot, evAndV, evOrV, evNotV, evIf, evCons, evNil, evLst, evTup, evCall, callF, evSl, eoN, eoS, evUn, evC1, evIsi, evTru, erg1, erg2, evLRg, evTRg, eiSeq, eiEnum, eiZip, x_bind, x_rs, x_asB, x_asI, x_bifB, x_bifO, x_andB, x_orB, x_bifI, List.length_map, en0, List.replicate, List.cons_append, List.nil_append, T.asD, T.items, T.itL, T.itT, T.er, T.ers, T.noScr, T.noScrs, T.shs, mkL, mkT, T.isSh, T.argOk, T.toArg, T.solid, T.isL, appT, T.parts, putAll, T.tru, T.ty, tyD, En.put, En.clr, En.share, egName, egTup, egCons, egNil, Option.map_some, Option.map_none, Option.bind_some, Option.bind, List.all_cons, List.all_nil, List.map_cons, List.map_nil, List.length_cons, List.length_nil, Bool.and_true, Bool.true_and, Bool.and_self, Bool.not_true, Bool.not_false, if_true, cond_true, cond_false, Bool.false_eq_true, if_false, true_and, and_true, Rs.P_ok, Bool.and_false, Bool.false_and, Nat.reduceAdd, Nat.reduceLeDiff, Nat.reduceEqDiff, reduceCtorEq, x_add, x_iadd, x_sub, x_lt, x_le, x_gt, x_ge, x_eq, x_ne, x_eqB, x_neB, x_eqS, x_neS, x_max2, x_min2, x_int1, x_intB, x_lenL, x_lenT, x_lenO, x_lenS, x_sumL, x_sumO, x_sortL, x_sortO, x_listL, x_listT, x_listO, x_isN, x_isNn, x_isNi, x_isNl, x_isNt, x_isNb, x_notN, x_ixL, x_ixT, x_ixO, x_ixS, x_ix0, x_ix1, x_ix2, x_sl, x_slO, x_slT, x_inL, x_inO, x_ninL, x_ninO]
    obtain rfl : lo = hi := by omega
    exact ⟨lo, rfl, h1, h3, h4, h5⟩
/-! the law's own -/
def stopL (r : Tf) (count : Int) : Int := match r with
  | [] => count + 1
  | (m, _) :: _ => min (count + 1) m
def longC : Tf → Int → Int
  | [], _ => 0
  | (n, c) :: r, count => (if n < stopL r count then (stopL r count - n) * c else 0) + longC r count
theorem long_price : ∀ (t : Tf) (count : Int), longC t count = priceC t count
  | [], _ => rfl
  | (n, c) :: r, count => by
    have e : stopL r count = lastC r count + 1 := by
      cases r with
      | nil => rfl
      | cons q r => simp only [stopL, lastC]; omega
    simp only [longC, priceC, long_price r count, e]
    by_cases h : n < lastC r count + 1
    · rw [if_pos h, show max 0 (lastC r count - n + 1) = lastC r count + 1 - n by omega]
    · rw [if_neg h, show max 0 (lastC r count - n + 1) = 0 by omega, Int.zero_mul]
theorem w_long_price (t : Tf) (count : Int) (hc : Cents t) (hl : t.length ≤ 100) : d__law_long_price [.sh (TL t), .sh (I count)] = .ok (.sh (I (priceC t count))) := by
  rw [← long_price]
  refine fn_eq rfl ?_
  refine p_seq (p_set ?_)
  simp only [evVar, En.get, evC, evBin, evSh, evEsc, evB, evEB, evChain, evAnd, evOr, evNot, evAndV, evOrV, evNotV, evIf, evCons, evNil, evLst, evTup, evCall, callF, evSl, eoN, eoS, evUn, evC1, evIsi, evTru, erg1, erg2, evLRg, evTRg, eiSeq, eiEnum, eiZip, x_bind, x_rs, x_asB, x_asI, x_bifB, x_bifO, x_andB, x_orB, x_bifI, List.length_map, en0, List.replicate, List.cons_append, List.nil_append, T.asD, T.items, T.itL, T.itT, T.er, T.ers, T.noScr, T.noScrs, T.shs, mkL, mkT, T.isSh, T.argOk, T.toArg, T.solid, T.isL, appT, T.parts, putAll, T.tru, T.ty, tyD, En.put, En.clr, En.share, egName, egTup, egCons, egNil, Option.map_some, Option.map_none, Option.bind_some, Option.bind, List.all_cons, List.all_nil, List.map_cons, List.map_nil, List.length_cons, List.length_nil, Bool.and_true, Bool.true_and, Bool.and_self, Bool.not_true, Bool.not_false, if_true, cond_true, cond_false, Bool.false_eq_true, if_false, true_and, and_true, Rs.P_ok, Bool.and_false, Bool.false_and, Nat.reduceAdd, Nat.reduceLeDiff, Nat.reduceEqDiff, reduceCtorEq, x_add, x_iadd, x_sub, x_lt, x_le, x_gt, x_ge, x_eq, x_ne, x_eqB, x_neB, x_eqS, x_neS, x_max2, x_min2, x_int1, x_intB, x_lenL, x_lenT, x_lenO, x_lenS, x_sumL, x_sumO, x_sortL, x_sortO, x_listL, x_listT, x_listO, x_isN, x_isNn, x_isNi, x_isNl, x_isNt, x_isNb, x_notN, x_ixL, x_ixT, x_ixO, x_ixS, x_ix0, x_ix1, x_ix2, x_sl, x_slO, x_slT, x_inL, x_inO, x_ninL, x_ninO]
  refine p_seq (p_forM (l := rngI 0 (t.length : Int)) (x_rng1 (by simp only [evVar, En.get, evC, evBin, evSh, evEsc, evB, evEB, evChain, evAnd, evOr, evNot, evAndV, evOrV, evNotV, evIf, evCons, evNil, evLst, evTup, evCall, callF, evSl, eoN, eoS, evUn, evC1, evIsi, evTru, erg1, erg2, evLRg, evTRg, eiSeq, eiEnum, eiZip, x_bind, x_rs, x_asB, x_asI, x_bifB, x_bifO, x_andB, x_orB, x_bifI, List.length_map, en0, List.replicate, List.cons_append, List.nil_append, T.asD, T.items, T.itL, T.itT, T.er, T.ers, T.noScr, T.noScrs, T.shs, mkL, mkT, T.isSh, T.argOk, T.toArg, T.solid, T.isL, appT, T.parts, putAll, T.tru, T.ty, tyD, En.put, En.clr, En.share, egName, egTup, egCons, egNil, Option.map_some, Option.map_none, Option.bind_some, Option.bind, List.all_cons, List.all_nil, List.map_cons, List.map_nil, List.length_cons, List.length_nil, Bool.and_true, Bool.true_and, Bool.and_self, Bool.not_true, Bool.not_false, if_true, cond_true, cond_false, Bool.false_eq_true, if_false, true_and, and_true, Rs.P_ok, Bool.and_false, Bool.false_and, Nat.reduceAdd, Nat.reduceLeDiff, Nat.reduceEqDiff, reduceCtorEq, x_add, x_iadd, x_sub, x_lt, x_le, x_gt, x_ge, x_eq, x_ne, x_eqB, x_neB, x_eqS, x_neS, x_max2, x_min2, x_int1, x_intB, x_lenL, x_lenT, x_lenO, x_lenS, x_sumL, x_sumO, x_sortL, x_sortO, x_listL, x_listT, x_listO, x_isN, x_isNn, x_isNi, x_isNl, x_isNt, x_isNb, x_notN, x_ixL, x_ixT, x_ixO, x_ixS, x_ix0, x_ix1, x_ix2, x_sl, x_slO, x_slT, x_inL, x_inO, x_ninL, x_ninO]) (by omega) (by omega)) (fun r ρ => ∃ pre suf a o3 o4, t = pre ++ suf ∧ r = rngI (pre.length : Int) (t.length : Int) ∧ ρ = [some (.sh (TL t)), some (.sh (I count)), some (.sh (I a)), o3, o4] ∧ a + longC suf count = longC t count) ?_ ?_ ?_)
  · exact ⟨[], t, 0, none, none, rfl, rfl, rfl, by omega⟩
  · rintro k r ρ ⟨pre, suf, a, o3, o4, ht, hr, rfl, ha⟩
    cases suf with
    | nil => rw [rngI_nil (by rw [ht]; simp)] at hr; cases hr
    | cons q suf =>
      rw [rngI_cons (by rw [ht]; simp; omega)] at hr
      obtain ⟨rfl, hr2⟩ := List.cons.inj hr
      obtain ⟨n, c⟩ := q
      have hcc : 0 ≤ c ∧ c ≤ 10000 := hc (n, c) (by rw [ht]; simp)
      have hx0 : L2.atI (t.map pD) (pre.length : Int) = some (pD (n, c)) := x_ixm (by rw [ht]; exact atI_app)
      refine ⟨_, rfl, ?_⟩
      refine p_seq (p_set ?_)
      simp only [evVar, En.get, evC, evBin, evSh, evEsc, evB, evEB, evChain, evAnd, evOr, evNot, evAndV, evOrV, evNotV, evIf, evCons, evNil, evLst, evTup, evCall, callF, evSl, eoN, eoS, evUn, evC1, evIsi, evTru, erg1, erg2, evLRg, evTRg, eiSeq, eiEnum, eiZip, x_bind, x_rs, x_asB, x_asI, x_bifB, x_bifO, x_andB, x_orB, x_bifI, List.length_map, en0, List.replicate, List.cons_append, List.nil_append, T.asD, T.items, T.itL, T.itT, T.er, T.ers, T.noScr, T.noScrs, T.shs, mkL, mkT, T.isSh, T.argOk, T.toArg, T.solid, T.isL, appT, T.parts, putAll, T.tru, T.ty, tyD, En.put, En.clr, En.share, egName, egTup, egCons, egNil, Option.map_some, Option.map_none, Option.bind_some, Option.bind, List.all_cons, List.all_nil, List.map_cons, List.map_nil, List.length_cons, List.length_nil, Bool.and_true, Bool.true_and, Bool.and_self, Bool.not_true, Bool.not_false, if_true, cond_true, cond_false, Bool.false_eq_true, if_false, true_and, and_true, Rs.P_ok, Bool.and_false, Bool.false_and, Nat.reduceAdd, Nat.reduceLeDiff, Nat.reduceEqDiff, reduceCtorEq, x_add, x_iadd, x_sub, x_lt, x_le, x_gt, x_ge, x_eq, x_ne, x_eqB, x_neB, x_eqS, x_neS, x_max2, x_min2, x_int1, x_intB, x_lenL, x_lenT, x_lenO, x_lenS, x_sumL, x_sumO, x_sortL, x_sortO, x_listL, x_listT, x_listO, x_isN, x_isNn, x_isNi, x_isNl, x_isNt, x_isNb, x_notN, x_ixL, x_ixT, x_ixO, x_ixS, x_ix0, x_ix1, x_ix2, x_sl, x_slO, x_slT, x_inL, x_inO, x_ninL, x_ninO]
      refine p_seq ?_
      suffices hs : ∀ N : En → Prop, ∀ R B C, N [some (.sh (TL t)), some (.sh (I count)), some (.sh (I a)), some (.sh (I (pre.length : Int))), some (.sh (I (stopL suf count)))] → Out.P (sIf (evEB (evBin fLtI (evSh (evBin fAdd (evVar 3) (evSh (evC (.int 1))))) (evSh (evC1 fLen (evCons (evVar 0) evNil))))) (sSet 4 [] (evSh (evC1 fMin (evCons (evVar 4) (evCons (evBin fIx (evBin fIx (evVar 0) (evSh (evBin fAdd (evVar 3) (evSh (evC (.int 1)))))) (evSh (evC (.int 0)))) evNil))))) sNil [some (.sh (TL t)), some (.sh (I count)), some (.sh (I a)), some (.sh (.int (pre.length : Int))), some (.sh (.int (count + 1)))]) N R B C by
        refine hs _ _ _ _ ?_
        have nx : pre ++ (n, c) :: suf = (pre ++ [(n, c)]) ++ suf := by simp
        have nl : (pre.length : Int) + 1 = ((pre ++ [(n, c)]).length : Nat) := by simp
        refine p_ifD (p := n < stopL suf count) ?_ (fun hp => ?_) fun hp => ?_
        · simp only [evVar, En.get, evC, evBin, evSh, evEsc, evB, evEB, evChain, evAnd, evOr, evNot, evAndV, evOrV, evNotV, evIf, evCons, evNil, evLst, evTup, evCall, callF, evSl, eoN, eoS, evUn, evC1, evIsi, evTru, erg1, erg2, evLRg, evTRg, eiSeq, eiEnum, eiZip, x_bind, x_rs, x_asB, x_asI, x_bifB, x_bifO, x_andB, x_orB, x_bifI, List.length_map, en0, List.replicate, List.cons_append, List.nil_append, T.asD, T.items, T.itL, T.itT, T.er, T.ers, T.noScr, T.noScrs, T.shs, mkL, mkT, T.isSh, T.argOk, T.toArg, T.solid, T.isL, appT, T.parts, putAll, T.tru, T.ty, tyD, En.put, En.clr, En.share, egName, egTup, egCons, egNil, Option.map_some, Option.map_none, Option.bind_some, Option.bind, List.all_cons, List.all_nil, List.map_cons, List.map_nil, List.length_cons, List.length_nil, Bool.and_true, Bool.true_and, Bool.and_self, Bool.not_true, Bool.not_false, if_true, cond_true, cond_false, Bool.false_eq_true, if_false, true_and, and_true, Rs.P_ok, Bool.and_false, Bool.false_and, Nat.reduceAdd, Nat.reduceLeDiff, Nat.reduceEqDiff, reduceCtorEq, x_add, x_iadd, x_sub, x_lt, x_le, x_gt, x_ge, x_eq, x_ne, x_eqB, x_neB, x_eqS, x_neS, x_max2, x_min2, x_int1, x_intB, x_lenL, x_lenT, x_lenO, x_lenS, x_sumL, x_sumO, x_sortL, x_sortO, x_listL, x_listT, x_listO, x_isN, x_isNn, x_isNi, x_isNl, x_isNt, x_isNb, x_notN, x_ixL, x_ixT, x_ixO, x_ixS, x_ix0, x_ix1, x_ix2, x_sl, x_slO, x_slT, x_inL, x_inO, x_ninL, x_ninO, hx0]
        · refine p_set ?_
          simp only [evVar, En.get, evC, evBin, evSh, evEsc, evB, evEB, evChain, evAnd, evOr, evNot, evAndV, evOrV, evNotV, evIf, evCons, evNil, evLst, evTup, evCall, callF, evSl, eoN, eoS, evUn, evC1, evIsi, evTru, erg1, erg2, evLRg, evTRg, eiSeq, eiEnum, eiZip, x_bind, x_rs, x_asB, x_asI, x_bifB, x_bifO, x_andB, x_orB, x_bifI, List.length_map, en0, List.replicate, List.cons_append, List.nil_append, T.asD, T.items, T.itL, T.itT, T.er, T.ers, T.noScr, T.noScrs, T.shs, mkL, mkT, T.isSh, T.argOk, T.toArg, T.solid, T.isL, appT, T.parts, putAll, T.tru, T.ty, tyD, En.put, En.clr, En.share, egName, egTup, egCons, egNil, Option.map_some, Option.map_none, Option.bind_some, Option.bind, List.all_cons, List.all_nil, List.map_cons, List.map_nil, List.length_cons, List.length_nil, Bool.and_true, Bool.true_and, Bool.and_self, Bool.not_true, Bool.not_false, if_true, cond_true, cond_false, Bool.false_eq_true, if_false, true_and, and_true, Rs.P_ok, Bool.and_false, Bool.false_and, Nat.reduceAdd, Nat.reduceLeDiff, Nat.reduceEqDiff, reduceCtorEq, x_add, x_iadd, x_sub, x_lt, x_le, x_gt, x_ge, x_eq, x_ne, x_eqB, x_neB, x_eqS, x_neS, x_max2, x_min2, x_int1, x_intB, x_lenL, x_lenT, x_lenO, x_lenS, x_sumL, x_sumO, x_sortL, x_sortO, x_listL, x_listT, x_listO, x_isN, x_isNn, x_isNi, x_isNl, x_isNt, x_isNb, x_notN, x_ixL, x_ixT, x_ixO, x_ixS, x_ix0, x_ix1, x_ix2, x_sl, x_slO, x_slT, x_inL, x_inO, x_ninL, x_ninO, hx0, x_mulR (show -18446744073709551616 < c ∧ c < 18446744073709551616 by omega)]
          refine ⟨pre ++ [(n, c)], suf, _, _, _, by rw [ht, nx], by rw [hr2, nl], rfl, ?_⟩
          rw [← ha]
          simp only [longC, hp, if_true]
          omega
        · refine p_nil ⟨pre ++ [(n, c)], suf, _, _, _, by rw [ht, nx], by rw [hr2, nl], rfl, ?_⟩
          rw [← ha]
          simp only [longC, hp, if_false]
          omega
      intro N R B C hN
      refine p_ifD (p := (pre.length : Int) + 1 < t.length) ?_ (fun hp => ?_) fun hp => ?_
      · simp only [evVar, En.get, evC, evBin, evSh, evEsc, evB, evEB, evChain, evAnd, evOr, evNot, evAndV, evOrV, evNotV, evIf, evCons, evNil, evLst, evTup, evCall, callF, evSl, eoN, eoS, evUn, evC1, evIsi, evTru, erg1, erg2, evLRg, evTRg, eiSeq, eiEnum, eiZip, x_bind, x_rs, x_asB, x_asI, x_bifB, x_bifO, x_andB, x_orB, x_bifI, List.length_map, en0, List.replicate, List.cons_append, List.nil_append, T.asD, T.items, T.itL, T.itT, T.er, T.ers, T.noScr, T.noScrs, T.shs, mkL, mkT, T.isSh, T.argOk, T.toArg, T.solid, T.isL, appT, T.parts, putAll, T.tru, T.ty, tyD, En.put, En.clr, En.share, egName, egTup, egCons, egNil, Option.map_some, Option.map_none, Option.bind_some, Option.bind, List.all_cons, List.all_nil, List.map_cons, List.map_nil, List.length_cons, List.length_nil, Bool.and_true, Bool.true_and, Bool.and_self, Bool.not_true, Bool.not_false, if_true, cond_true, cond_false, Bool.false_eq_true, if_false, true_and, and_true, Rs.P_ok, Bool.and_false, Bool.false_and, Nat.reduceAdd, Nat.reduceLeDiff, Nat.reduceEqDiff, reduceCtorEq, x_add, x_iadd, x_sub, x_lt, x_le, x_gt, x_ge, x_eq, x_ne, x_eqB, x_neB, x_eqS, x_neS, x_max2, x_min2, x_int1, x_intB, x_lenL, x_lenT, x_lenO, x_lenS, x_sumL, x_sumO, x_sortL, x_sortO, x_listL, x_listT, x_listO, x_isN, x_isNn, x_isNi, x_isNl, x_isNt, x_isNb, x_notN, x_ixL, x_ixT, x_ixO, x_ixS, x_ix0, x_ix1, x_ix2, x_sl, x_slO, x_slT, x_inL, x_inO, x_ninL, x_ninO]
      · cases suf with
        | nil => rw [ht] at hp; simp at hp
        | cons q2 suf =>
          refine p_set ?_
          have hx : L2.atI (t.map pD) ((pre.length : Int) + 1) = some (pD q2) := x_ixm (by rw [ht]; exact atI_app1)
          simp only [evVar, En.get, evC, evBin, evSh, evEsc, evB, evEB, evChain, evAnd, evOr, evNot, evAndV, evOrV, evNotV, evIf, evCons, evNil, evLst, evTup, evCall, callF, evSl, eoN, eoS, evUn, evC1, evIsi, evTru, erg1, erg2, evLRg, evTRg, eiSeq, eiEnum, eiZip, x_bind, x_rs, x_asB, x_asI, x_bifB, x_bifO, x_andB, x_orB, x_bifI, List.length_map, en0, List.replicate, List.cons_append, List.nil_append, T.asD, T.items, T.itL, T.itT, T.er, T.ers, T.noScr, T.noScrs, T.shs, mkL, mkT, T.isSh, T.argOk, T.toArg, T.solid, T.isL, appT, T.parts, putAll, T.tru, T.ty, tyD, En.put, En.clr, En.share, egName, egTup, egCons, egNil, Option.map_some, Option.map_none, Option.bind_some, Option.bind, List.all_cons, List.all_nil, List.map_cons, List.map_nil, List.length_cons, List.length_nil, Bool.and_true, Bool.true_and, Bool.and_self, Bool.not_true, Bool.not_false, if_true, cond_true, cond_false, Bool.false_eq_true, if_false, true_and, and_true, Rs.P_ok, Bool.and_false, Bool.false_and, Nat.reduceAdd, Nat.reduceLeDiff, Nat.reduceEqDiff, reduceCtorEq, x_add, x_iadd, x_sub, x_lt, x_le, x_gt, x_ge, x_eq, x_ne, x_eqB, x_neB, x_eqS, x_neS, x_max2, x_min2, x_int1, x_intB, x_lenL, x_lenT, x_lenO, x_lenS, x_sumL, x_sumO, x_sortL, x_sortO, x_listL, x_listT, x_listO, x_isN, x_isNn, x_isNi, x_isNl, x_isNt, x_isNb, x_notN, x_ixL, x_ixT, x_ixO, x_ixS, x_ix0, x_ix1, x_ix2, x_sl, x_slO, x_slT, x_inL, x_inO, x_ninL, x_ninO, hx]
          exact hN
      · cases suf with
        | cons q2 suf => exact absurd (by rw [ht]; simp; omega) hp
        | nil => exact p_nil hN
  · rintro ρ ⟨pre, suf, a, o3, o4, ht, hr, rfl, ha⟩
    cases suf with
    | cons q suf => rw [rngI_cons (by rw [ht]; simp; omega)] at hr; cases hr
    | nil =>
      refine p_ret ?_
      simp only [evVar, En.get, evC, evBin, evSh, evEsc, evB, evEB, evChain, evAnd, evOr, evNot, evAndV, evOrV, evNotV, evIf, evCons, evNil, evLst, evTup, evCall, callF, evSl, eoN, eoS, evUn, evC1, evIsi, evTru, erg1, erg2, evLRg, evTRg, eiSeq, eiEnum, eiZip, x_bind, x_rs, x_asB, x_asI, x_bifB, x_bifO, x_andB, x_orB, x_bifI, List.length_map, en0, List.replicate, List.cons_append, List.nil_append, T.asD, T.items, T.itL, T.itT, T.er, T.ers, T.noScr, T.noScrs, T.shs, mkL, mkT, T.isSh, T.argOk, T.toArg, T.solid, T.isL, appT, T.parts, putAll, T.tru, T.ty, tyD, En.put, En.clr, En.share, egName, egTup, egCons, egNil, Option.map_some, Option.map_none, Option.bind_some, Option.bind, List.all_cons, List.all_nil, List.map_cons, List.map_nil, List.length_cons, List.length_nil, Bool.and_true, Bool.true_and, Bool.and_self, Bool.not_true, Bool.not_false, if_true, cond_true, cond_false, Bool.false_eq_true, if_false, true_and, and_true, Rs.P_ok, Bool.and_false, Bool.false_and, Nat.reduceAdd, Nat.reduceLeDiff, Nat.reduceEqDiff, reduceCtorEq, x_add, x_iadd, x_sub, x_lt, x_le, x_gt, x_ge, x_eq, x_ne, x_eqB, x_neB, x_eqS, x_neS, x_max2, x_min2, x_int1, x_intB, x_lenL, x_lenT, x_lenO, x_lenS, x_sumL, x_sumO, x_sortL, x_sortO, x_listL, x_listT, x_listO, x_isN, x_isNn, x_isNi, x_isNl, x_isNt, x_isNb, x_notN, x_ixL, x_ixT, x_ixO, x_ixS, x_ix0, x_ix1, x_ix2, x_sl, x_slO, x_slT, x_inL, x_inO, x_ninL, x_ninO]
      rw [← ha]
      simp [longC]
end G
set_option Elab.async false
set_option linter.all false
set_option maxRecDepth 100000
namespace G
open PL PySem
theorem cell_eq : d__law_cell = Sh.d__law_cell := rfl
theorem numbers_eq : d__law_numbers = Sh.d__law_numbers := rfl
theorem same_eq : ∀ n, d__law_same n = Sh.d__law_same n
  | 0 => rfl
  | n + 1 => by
    show fnD 2 1 (s__law_same (d__law_same n)) = fnD 2 1 (Sh.s__law_same (Sh.d__law_same n))
    rw [same_eq n]; rfl
theorem w_same (d : D) (h : Sh.sameOk 12 d = true) : d__law_same 12 [.sh d, .sh d] = .ok (.sh (.bool true)) := by
  rw [same_eq]; exact Sh.law_same 12 d h
theorem w_is_int (i : Int) : d__law_is_int [.sh (I i)] = .ok (.sh (.bool true)) := by
  refine fn_eq rfl ?_
  refine p_ret ?_
  simp only [evVar, En.get, evC, evBin, evSh, evEsc, evB, evEB, evChain, evAnd, evOr, evNot, evAndV, evOrV, evNotV, evIf, evCons, evNil, evLst, evTup, evCall, callF, evSl, eoN, eoS, evUn, evC1, evIsi, evTru, erg1, erg2, evLRg, evTRg, eiSeq, eiEnum, eiZip, x_bind, x_rs, x_asB, x_asI, x_bifB, x_bifO, x_andB, x_orB, x_bifI, List.length_map, en0, List.replicate, List.cons_append, List.nil_append, T.asD, T.items, T.itL, T.itT, T.er, T.ers, T.noScr, T.noScrs, T.shs, mkL, mkT, T.isSh, T.argOk, T.toArg, T.solid, T.isL, T.parts, putAll, T.tru, T.ty, tyD, En.put, En.clr, En.share, egName, egTup, egCons, egNil, Option.map_some, Option.map_none, Option.bind_some, Option.bind, List.all_cons, List.all_nil, List.map_cons, List.map_nil, List.length_cons, List.length_nil, Bool.and_true, Bool.true_and, Bool.and_self, Bool.not_true, Bool.not_false, if_true, cond_true, cond_false, Bool.false_eq_true, if_false, true_and, and_true, Rs.P_ok, Bool.and_false, Bool.false_and, Bool.false_or, Bool.or_false, Bool.true_or, Bool.or_true, Nat.reduceAdd, Nat.reduceLeDiff, Nat.reduceEqDiff, reduceCtorEq, x_add, x_iadd, x_sub, x_lt, x_le, x_gt, x_ge, x_eq, x_ne, x_eqB, x_neB, x_eqS, x_neS, x_max2, x_min2, x_int1, x_intB, x_lenL, x_lenT, x_lenO, x_lenS, x_sumL, x_sumO, x_sortL, x_sortO, x_listL, x_listT, x_listO, x_isN, x_isNn, x_isNi, x_isNl, x_isNt, x_isNb, x_notN, x_ixL, x_ixT, x_ixO, x_ixS, x_ix0, x_ix1, x_ix2, x_sl, x_slO, x_slT, x_inL, x_inO, x_ninL, x_ninO, isaB, String.reduceBEq, Bool.or_false, Bool.or_true, decide_true]
theorem w_closed (dr : List Int) (a m : Int) (ha : 0 ≤ a) (hl : a + 10 ≤ dr.length) (hm : 0 < m) (hb : Below 5040 dr) :
    ∃ cl : List Int, d__law_closed [.sh (L dr), .sh (I a), .sh (I m)] = .ok (.ol (cl.map PyData.int)) ∧ cl.Nodup ∧ Below m cl ∧ cl.length ≤ 8 := by
  suffices hs : (d__law_closed [.sh (L dr), .sh (I a), .sh (I m)]).P fun t => ∃ cl : List Int, t = .ol (cl.map PyData.int) ∧ cl.Nodup ∧ Below m cl ∧ cl.length ≤ 8 by
    obtain ⟨t, e, cl, rfl, q⟩ := hs.ex
    exact ⟨cl, e, q⟩
  have hv := hb.at (by decide) a
  refine p_fn rfl ?_
  refine p_seq (p_set ?_)
  simp only [evVar, En.get, evC, evBin, evSh, evEsc, evB, evEB, evChain, evAnd, evOr, evNot, evAndV, evOrV, evNotV, evIf, evCons, evNil, evLst, evTup, evCall, callF, evSl, eoN, eoS, evUn, evC1, evIsi, evTru, erg1, erg2, evLRg, evTRg, eiSeq, eiEnum, eiZip, x_bind, x_rs, x_asB, x_asI, x_bifB, x_bifO, x_andB, x_orB, x_bifI, List.length_map, en0, List.replicate, List.cons_append, List.nil_append, T.asD, T.items, T.itL, T.itT, T.er, T.ers, T.noScr, T.noScrs, T.shs, mkL, mkT, T.isSh, T.argOk, T.toArg, T.solid, T.isL, T.parts, putAll, T.tru, T.ty, tyD, En.put, En.clr, En.share, egName, egTup, egCons, egNil, Option.map_some, Option.map_none, Option.bind_some, Option.bind, List.all_cons, List.all_nil, List.map_cons, List.map_nil, List.length_cons, List.length_nil, Bool.and_true, Bool.true_and, Bool.and_self, Bool.not_true, Bool.not_false, if_true, cond_true, cond_false, Bool.false_eq_true, if_false, true_and, and_true, Rs.P_ok, Bool.and_false, Bool.false_and, Bool.false_or, Bool.or_false, Bool.true_or, Bool.or_true, Nat.reduceAdd, Nat.reduceLeDiff, Nat.reduceEqDiff, reduceCtorEq, x_add, x_iadd, x_sub, x_lt, x_le, x_gt, x_ge, x_eq, x_ne, x_eqB, x_neB, x_eqS, x_neS, x_max2, x_min2, x_int1, x_intB, x_lenL, x_lenT, x_lenO, x_lenS, x_sumL, x_sumO, x_sortL, x_sortO, x_listL, x_listT, x_listO, x_isN, x_isNn, x_isNi, x_isNl, x_isNt, x_isNb, x_notN, x_ixL, x_ixT, x_ixO, x_ixS, x_ix0, x_ix1, x_ix2, x_sl, x_slO, x_slT, x_inL, x_inO, x_ninL, x_ninO, Nat.zero_le]
  refine p_seq (p_forM (l := rngI 0 (at_ dr a % 9)) (x_rng1 (by simp (disch := omega) only [evVar, En.get, evC, evBin, evSh, evEsc, evB, evEB, evChain, evAnd, evOr, evNot, evAndV, evOrV, evNotV, evIf, evCons, evNil, evLst, evTup, evCall, callF, evSl, eoN, eoS, evUn, evC1, evIsi, evTru, erg1, erg2, evLRg, evTRg, eiSeq, eiEnum, eiZip, x_bind, x_rs, x_asB, x_asI, x_bifB, x_bifO, x_andB, x_orB, x_bifI, List.length_map, en0, List.replicate, List.cons_append, List.nil_append, T.asD, T.items, T.itL, T.itT, T.er, T.ers, T.noScr, T.noScrs, T.shs, mkL, mkT, T.isSh, T.argOk, T.toArg, T.solid, T.isL, T.parts, putAll, T.tru, T.ty, tyD, En.put, En.clr, En.share, egName, egTup, egCons, egNil, Option.map_some, Option.map_none, Option.bind_some, Option.bind, List.all_cons, List.all_nil, List.map_cons, List.map_nil, List.length_cons, List.length_nil, Bool.and_true, Bool.true_and, Bool.and_self, Bool.not_true, Bool.not_false, if_true, cond_true, cond_false, Bool.false_eq_true, if_false, true_and, and_true, Rs.P_ok, Bool.and_false, Bool.false_and, Bool.false_or, Bool.or_false, Bool.true_or, Bool.or_true, Nat.reduceAdd, Nat.reduceLeDiff, Nat.reduceEqDiff, reduceCtorEq, x_add, x_iadd, x_sub, x_lt, x_le, x_gt, x_ge, x_eq, x_ne, x_eqB, x_neB, x_eqS, x_neS, x_max2, x_min2, x_int1, x_intB, x_lenL, x_lenT, x_lenO, x_lenS, x_sumL, x_sumO, x_sortL, x_sortO, x_listL, x_listT, x_listO, x_isN, x_isNn, x_isNi, x_isNl, x_isNt, x_isNb, x_notN, x_ixL, x_ixT, x_ixO, x_ixS, x_ix0, x_ix1, x_ix2, x_sl, x_slO, x_slT, x_inL, x_inO, x_ninL, x_ninO, x_at, x_mod]) (by omega) (by omega)) (fun r ρ => ∃ (F : List Int) (o4 o5 : Option T), ρ = [some (.sh (L dr)), some (.sh (I a)), some (.sh (I m)), some (.ol (F.map PyData.int)), o4, o5] ∧ F.Nodup ∧ Below m F ∧ F.length + r.length ≤ 8 ∧ ∀ x ∈ r, 0 ≤ x ∧ x < 8) ?_ ?_ ?_)
  · exact ⟨[], none, none, rfl, .nil, (fun x hx => by cases hx), by rw [rngI_len]; simp only [List.length_nil]; omega, fun x hx => by have := rngI_mem.mp hx; omega⟩
  · rintro k r ρ ⟨F, o4, o5, rfl, hn, hF, hlen, hk⟩
    have hk0 := hk k List.mem_cons_self
    rw [List.length_cons] at hlen
    refine ⟨_, rfl, ?_⟩
    refine p_seq (p_set ?_)
    simp (disch := omega) only [evVar, En.get, evC, evBin, evSh, evEsc, evB, evEB, evChain, evAnd, evOr, evNot, evAndV, evOrV, evNotV, evIf, evCons, evNil, evLst, evTup, evCall, callF, evSl, eoN, eoS, evUn, evC1, evIsi, evTru, erg1, erg2, evLRg, evTRg, eiSeq, eiEnum, eiZip, x_bind, x_rs, x_asB, x_asI, x_bifB, x_bifO, x_andB, x_orB, x_bifI, List.length_map, en0, List.replicate, List.cons_append, List.nil_append, T.asD, T.items, T.itL, T.itT, T.er, T.ers, T.noScr, T.noScrs, T.shs, mkL, mkT, T.isSh, T.argOk, T.toArg, T.solid, T.isL, T.parts, putAll, T.tru, T.ty, tyD, En.put, En.clr, En.share, egName, egTup, egCons, egNil, Option.map_some, Option.map_none, Option.bind_some, Option.bind, List.all_cons, List.all_nil, List.map_cons, List.map_nil, List.length_cons, List.length_nil, Bool.and_true, Bool.true_and, Bool.and_self, Bool.not_true, Bool.not_false, if_true, cond_true, cond_false, Bool.false_eq_true, if_false, true_and, and_true, Rs.P_ok, Bool.and_false, Bool.false_and, Bool.false_or, Bool.or_false, Bool.true_or, Bool.or_true, Nat.reduceAdd, Nat.reduceLeDiff, Nat.reduceEqDiff, reduceCtorEq, x_add, x_iadd, x_sub, x_lt, x_le, x_gt, x_ge, x_eq, x_ne, x_eqB, x_neB, x_eqS, x_neS, x_max2, x_min2, x_int1, x_intB, x_lenL, x_lenT, x_lenO, x_lenS, x_sumL, x_sumO, x_sortL, x_sortO, x_listL, x_listT, x_listO, x_isN, x_isNn, x_isNi, x_isNl, x_isNt, x_isNb, x_notN, x_ixL, x_ixT, x_ixO, x_ixS, x_ix0, x_ix1, x_ix2, x_sl, x_slO, x_slT, x_inL, x_inO, x_ninL, x_ninO, x_at, x_mod]
    refine p_ifB (k := !decide (at_ dr (a + 1 + k) % m ∈ F)) ?_ (fun hp => ?_) fun hp => ?_
    · simp only [evVar, En.get, evC, evBin, evSh, evEsc, evB, evEB, evChain, evAnd, evOr, evNot, evAndV, evOrV, evNotV, evIf, evCons, evNil, evLst, evTup, evCall, callF, evSl, eoN, eoS, evUn, evC1, evIsi, evTru, erg1, erg2, evLRg, evTRg, eiSeq, eiEnum, eiZip, x_bind, x_rs, x_asB, x_asI, x_bifB, x_bifO, x_andB, x_orB, x_bifI, List.length_map, en0, List.replicate, List.cons_append, List.nil_append, T.asD, T.items, T.itL, T.itT, T.er, T.ers, T.noScr, T.noScrs, T.shs, mkL, mkT, T.isSh, T.argOk, T.toArg, T.solid, T.isL, T.parts, putAll, T.tru, T.ty, tyD, En.put, En.clr, En.share, egName, egTup, egCons, egNil, Option.map_some, Option.map_none, Option.bind_some, Option.bind, List.all_cons, List.all_nil, List.map_cons, List.map_nil, List.length_cons, List.length_nil, Bool.and_true, Bool.true_and, Bool.and_self, Bool.not_true, Bool.not_false, if_true, cond_true, cond_false, Bool.false_eq_true, if_false, true_and, and_true, Rs.P_ok, Bool.and_false, Bool.false_and, Bool.false_or, Bool.or_false, Bool.true_or, Bool.or_true, Nat.reduceAdd, Nat.reduceLeDiff, Nat.reduceEqDiff, reduceCtorEq, x_add, x_iadd, x_sub, x_lt, x_le, x_gt, x_ge, x_eq, x_ne, x_eqB, x_neB, x_eqS, x_neS, x_max2, x_min2, x_int1, x_intB, x_lenL, x_lenT, x_lenO, x_lenS, x_sumL, x_sumO, x_sortL, x_sortO, x_listL, x_listT, x_listO, x_isN, x_isNn, x_isNi, x_isNl, x_isNt, x_isNb, x_notN, x_ixL, x_ixT, x_ixO, x_ixS, x_ix0, x_ix1, x_ix2, x_sl, x_slO, x_slT, x_inL, x_inO, x_ninL, x_ninO]
    · refine p_share (p_app rfl rfl ?_)
      simp only [evVar, En.get, evC, evBin, evSh, evEsc, evB, evEB, evChain, evAnd, evOr, evNot, evAndV, evOrV, evNotV, evIf, evCons, evNil, evLst, evTup, evCall, callF, evSl, eoN, eoS, evUn, evC1, evIsi, evTru, erg1, erg2, evLRg, evTRg, eiSeq, eiEnum, eiZip, x_bind, x_rs, x_asB, x_asI, x_bifB, x_bifO, x_andB, x_orB, x_bifI, List.length_map, en0, List.replicate, List.cons_append, List.nil_append, T.asD, T.items, T.itL, T.itT, T.er, T.ers, T.noScr, T.noScrs, T.shs, mkL, mkT, T.isSh, T.argOk, T.toArg, T.solid, T.isL, T.parts, putAll, T.tru, T.ty, tyD, En.put, En.clr, En.share, egName, egTup, egCons, egNil, Option.map_some, Option.map_none, Option.bind_some, Option.bind, List.all_cons, List.all_nil, List.map_cons, List.map_nil, List.length_cons, List.length_nil, Bool.and_true, Bool.true_and, Bool.and_self, Bool.not_true, Bool.not_false, if_true, cond_true, cond_false, Bool.false_eq_true, if_false, true_and, and_true, Rs.P_ok, Bool.and_false, Bool.false_and, Bool.false_or, Bool.or_false, Bool.true_or, Bool.or_true, Nat.reduceAdd, Nat.reduceLeDiff, Nat.reduceEqDiff, reduceCtorEq, x_add, x_iadd, x_sub, x_lt, x_le, x_gt, x_ge, x_eq, x_ne, x_eqB, x_neB, x_eqS, x_neS, x_max2, x_min2, x_int1, x_intB, x_lenL, x_lenT, x_lenO, x_lenS, x_sumL, x_sumO, x_sortL, x_sortO, x_listL, x_listT, x_listO, x_isN, x_isNn, x_isNi, x_isNl, x_isNt, x_isNb, x_notN, x_ixL, x_ixT, x_ixO, x_ixS, x_ix0, x_ix1, x_ix2, x_sl, x_slO, x_slT, x_inL, x_inO, x_ninL, x_ninO]
      refine ⟨_, x_app (by rw [List.length_map]; omega), ?_⟩
      simp only [evVar, En.get, evC, evBin, evSh, evEsc, evB, evEB, evChain, evAnd, evOr, evNot, evAndV, evOrV, evNotV, evIf, evCons, evNil, evLst, evTup, evCall, callF, evSl, eoN, eoS, evUn, evC1, evIsi, evTru, erg1, erg2, evLRg, evTRg, eiSeq, eiEnum, eiZip, x_bind, x_rs, x_asB, x_asI, x_bifB, x_bifO, x_andB, x_orB, x_bifI, List.length_map, en0, List.replicate, List.cons_append, List.nil_append, T.asD, T.items, T.itL, T.itT, T.er, T.ers, T.noScr, T.noScrs, T.shs, mkL, mkT, T.isSh, T.argOk, T.toArg, T.solid, T.isL, T.parts, putAll, T.tru, T.ty, tyD, En.put, En.clr, En.share, egName, egTup, egCons, egNil, Option.map_some, Option.map_none, Option.bind_some, Option.bind, List.all_cons, List.all_nil, List.map_cons, List.map_nil, List.length_cons, List.length_nil, Bool.and_true, Bool.true_and, Bool.and_self, Bool.not_true, Bool.not_false, if_true, cond_true, cond_false, Bool.false_eq_true, if_false, true_and, and_true, Rs.P_ok, Bool.and_false, Bool.false_and, Bool.false_or, Bool.or_false, Bool.true_or, Bool.or_true, Nat.reduceAdd, Nat.reduceLeDiff, Nat.reduceEqDiff, reduceCtorEq, x_add, x_iadd, x_sub, x_lt, x_le, x_gt, x_ge, x_eq, x_ne, x_eqB, x_neB, x_eqS, x_neS, x_max2, x_min2, x_int1, x_intB, x_lenL, x_lenT, x_lenO, x_lenS, x_sumL, x_sumO, x_sortL, x_sortO, x_listL, x_listT, x_listO, x_isN, x_isNn, x_isNi, x_isNl, x_isNt, x_isNb, x_notN, x_ixL, x_ixT, x_ixO, x_ixS, x_ix0, x_ix1, x_ix2, x_sl, x_slO, x_slT, x_inL, x_inO, x_ninL, x_ninO, snocI]
      refine ⟨_, _, _, rfl, ?_, ?_, by rw [List.length_append]; simp; omega, fun x hx => hk x (List.mem_cons_of_mem _ hx)⟩
      · refine List.nodup_append.mpr ⟨hn, by simp, fun x hx y hy => ?_⟩
        obtain rfl : y = _ := List.mem_singleton.mp hy
        rintro rfl
        simp [hx] at hp
      · intro x hx
        rcases List.mem_append.mp hx with z | z
        · exact hF x z
        · obtain rfl : x = _ := List.mem_singleton.mp z
          exact ⟨Int.emod_nonneg _ (by omega), Int.emod_lt_of_pos _ hm⟩
    · exact p_nil ⟨_, _, _, rfl, hn, hF, by omega, fun x hx => hk x (List.mem_cons_of_mem _ hx)⟩
  · rintro ρ ⟨F, o4, o5, rfl, hn, hF, hlen, _⟩
    refine p_ret ?_
    simp only [evVar, En.get, evC, evBin, evSh, evEsc, evB, evEB, evChain, evAnd, evOr, evNot, evAndV, evOrV, evNotV, evIf, evCons, evNil, evLst, evTup, evCall, callF, evSl, eoN, eoS, evUn, evC1, evIsi, evTru, erg1, erg2, evLRg, evTRg, eiSeq, eiEnum, eiZip, x_bind, x_rs, x_asB, x_asI, x_bifB, x_bifO, x_andB, x_orB, x_bifI, List.length_map, en0, List.replicate, List.cons_append, List.nil_append, T.asD, T.items, T.itL, T.itT, T.er, T.ers, T.noScr, T.noScrs, T.shs, mkL, mkT, T.isSh, T.argOk, T.toArg, T.solid, T.isL, T.parts, putAll, T.tru, T.ty, tyD, En.put, En.clr, En.share, egName, egTup, egCons, egNil, Option.map_some, Option.map_none, Option.bind_some, Option.bind, List.all_cons, List.all_nil, List.map_cons, List.map_nil, List.length_cons, List.length_nil, Bool.and_true, Bool.true_and, Bool.and_self, Bool.not_true, Bool.not_false, if_true, cond_true, cond_false, Bool.false_eq_true, if_false, true_and, and_true, Rs.P_ok, Bool.and_false, Bool.false_and, Bool.false_or, Bool.or_false, Bool.true_or, Bool.or_true, Nat.reduceAdd, Nat.reduceLeDiff, Nat.reduceEqDiff, reduceCtorEq, x_add, x_iadd, x_sub, x_lt, x_le, x_gt, x_ge, x_eq, x_ne, x_eqB, x_neB, x_eqS, x_neS, x_max2, x_min2, x_int1, x_intB, x_lenL, x_lenT, x_lenO, x_lenS, x_sumL, x_sumO, x_sortL, x_sortO, x_listL, x_listT, x_listO, x_isN, x_isNn, x_isNi, x_isNl, x_isNt, x_isNb, x_notN, x_ixL, x_ixT, x_ixO, x_ixS, x_ix0, x_ix1, x_ix2, x_sl, x_slO, x_slT, x_inL, x_inO, x_ninL, x_ninO]
    refine ⟨sortI F, rfl, (sortI_perm F).nodup_iff.mpr hn, fun x hx => hF x ((sortI_perm F).mem_iff.mp hx), ?_⟩
    rw [(sortI_perm F).length_eq]
    simp only [List.length_nil] at hlen
    omega
/-! cents, price -/
def centsF (acc : Int) (t : Tf) (x : Int) : Int := t.foldl (fun a p => if p.1 ≤ x then p.2 else a) acc
theorem w_cents (t : Tf) (x : Int) : d__law_cents [.sh (TL t), .sh (I x)] = .ok (.sh (I (centsF 0 t x))) := by
  refine fn_eq rfl ?_
  refine p_seq (p_set ?_)
  simp only [evVar, En.get, evC, evBin, evSh, evEsc, evB, evEB, evChain, evAnd, evOr, evNot, evAndV, evOrV, evNotV, evIf, evCons, evNil, evLst, evTup, evCall, callF, evSl, eoN, eoS, evUn, evC1, evIsi, evTru, erg1, erg2, evLRg, evTRg, eiSeq, eiEnum, eiZip, x_bind, x_rs, x_asB, x_asI, x_bifB, x_bifO, x_andB, x_orB, x_bifI, List.length_map, en0, List.replicate, List.cons_append, List.nil_append, T.asD, T.items, T.itL, T.itT, T.er, T.ers, T.noScr, T.noScrs, T.shs, mkL, mkT, T.isSh, T.argOk, T.toArg, T.solid, T.isL, T.parts, putAll, T.tru, T.ty, tyD, En.put, En.clr, En.share, egName, egTup, egCons, egNil, Option.map_some, Option.map_none, Option.bind_some, Option.bind, List.all_cons, List.all_nil, List.map_cons, List.map_nil, List.length_cons, List.length_nil, Bool.and_true, Bool.true_and, Bool.and_self, Bool.not_true, Bool.not_false, if_true, cond_true, cond_false, Bool.false_eq_true, if_false, true_and, and_true, Rs.P_ok, Bool.and_false, Bool.false_and, Bool.false_or, Bool.or_false, Bool.true_or, Bool.or_true, Nat.reduceAdd, Nat.reduceLeDiff, Nat.reduceEqDiff, reduceCtorEq, x_add, x_iadd, x_sub, x_lt, x_le, x_gt, x_ge, x_eq, x_ne, x_eqB, x_neB, x_eqS, x_neS, x_max2, x_min2, x_int1, x_intB, x_lenL, x_lenT, x_lenO, x_lenS, x_sumL, x_sumO, x_sortL, x_sortO, x_listL, x_listT, x_listO, x_isN, x_isNn, x_isNi, x_isNl, x_isNt, x_isNb, x_notN, x_ixL, x_ixT, x_ixO, x_ixS, x_ix0, x_ix1, x_ix2, x_sl, x_slO, x_slT, x_inL, x_inO, x_ninL, x_ninO]
  refine p_seq (p_share (p_forM (l := t) (f := pD) (by simp only [evVar, En.get, evC, evBin, evSh, evEsc, evB, evEB, evChain, evAnd, evOr, evNot, evAndV, evOrV, evNotV, evIf, evCons, evNil, evLst, evTup, evCall, callF, evSl, eoN, eoS, evUn, evC1, evIsi, evTru, erg1, erg2, evLRg, evTRg, eiSeq, eiEnum, eiZip, x_bind, x_rs, x_asB, x_asI, x_bifB, x_bifO, x_andB, x_orB, x_bifI, List.length_map, en0, List.replicate, List.cons_append, List.nil_append, T.asD, T.items, T.itL, T.itT, T.er, T.ers, T.noScr, T.noScrs, T.shs, mkL, mkT, T.isSh, T.argOk, T.toArg, T.solid, T.isL, T.parts, putAll, T.tru, T.ty, tyD, En.put, En.clr, En.share, egName, egTup, egCons, egNil, Option.map_some, Option.map_none, Option.bind_some, Option.bind, List.all_cons, List.all_nil, List.map_cons, List.map_nil, List.length_cons, List.length_nil, Bool.and_true, Bool.true_and, Bool.and_self, Bool.not_true, Bool.not_false, if_true, cond_true, cond_false, Bool.false_eq_true, if_false, true_and, and_true, Rs.P_ok, Bool.and_false, Bool.false_and, Bool.false_or, Bool.or_false, Bool.true_or, Bool.or_true, Nat.reduceAdd, Nat.reduceLeDiff, Nat.reduceEqDiff, reduceCtorEq, x_add, x_iadd, x_sub, x_lt, x_le, x_gt, x_ge, x_eq, x_ne, x_eqB, x_neB, x_eqS, x_neS, x_max2, x_min2, x_int1, x_intB, x_lenL, x_lenT, x_lenO, x_lenS, x_sumL, x_sumO, x_sortL, x_sortO, x_listL, x_listT, x_listO, x_isN, x_isNn, x_isNi, x_isNl, x_isNt, x_isNb, x_notN, x_ixL, x_ixT, x_ixO, x_ixS, x_ix0, x_ix1, x_ix2, x_sl, x_slO, x_slT, x_inL, x_inO, x_ninL, x_ninO]) (fun r ρ => ∃ (a : Int) (o3 o4 : Option T), ρ = [some (.sh (TL t)), some (.sh (I x)), some (.sh (I a)), o3, o4] ∧ centsF a r x = centsF 0 t x) ?_ ?_ ?_))
  · exact ⟨0, none, none, rfl, rfl⟩
  · rintro ⟨n, c⟩ r ρ ⟨a, o3, o4, rfl, ha⟩
    refine ⟨_, rfl, ?_⟩
    refine p_ifD (p := n ≤ x) ?_ (fun hp => ?_) fun hp => ?_
    · simp only [evVar, En.get, evC, evBin, evSh, evEsc, evB, evEB, evChain, evAnd, evOr, evNot, evAndV, evOrV, evNotV, evIf, evCons, evNil, evLst, evTup, evCall, callF, evSl, eoN, eoS, evUn, evC1, evIsi, evTru, erg1, erg2, evLRg, evTRg, eiSeq, eiEnum, eiZip, x_bind, x_rs, x_asB, x_asI, x_bifB, x_bifO, x_andB, x_orB, x_bifI, List.length_map, en0, List.replicate, List.cons_append, List.nil_append, T.asD, T.items, T.itL, T.itT, T.er, T.ers, T.noScr, T.noScrs, T.shs, mkL, mkT, T.isSh, T.argOk, T.toArg, T.solid, T.isL, T.parts, putAll, T.tru, T.ty, tyD, En.put, En.clr, En.share, egName, egTup, egCons, egNil, Option.map_some, Option.map_none, Option.bind_some, Option.bind, List.all_cons, List.all_nil, List.map_cons, List.map_nil, List.length_cons, List.length_nil, Bool.and_true, Bool.true_and, Bool.and_self, Bool.not_true, Bool.not_false, if_true, cond_true, cond_false, Bool.false_eq_true, if_false, true_and, and_true, Rs.P_ok, Bool.and_false, Bool.false_and, Bool.false_or, Bool.or_false, Bool.true_or, Bool.or_true, Nat.reduceAdd, Nat.reduceLeDiff, Nat.reduceEqDiff, reduceCtorEq, x_add, x_iadd, x_sub, x_lt, x_le, x_gt, x_ge, x_eq, x_ne, x_eqB, x_neB, x_eqS, x_neS, x_max2, x_min2, x_int1, x_intB, x_lenL, x_lenT, x_lenO, x_lenS, x_sumL, x_sumO, x_sortL, x_sortO, x_listL, x_listT, x_listO, x_isN, x_isNn, x_isNi, x_isNl, x_isNt, x_isNb, x_notN, x_ixL, x_ixT, x_ixO, x_ixS, x_ix0, x_ix1, x_ix2, x_sl, x_slO, x_slT, x_inL, x_inO, x_ninL, x_ninO]
    · refine p_share (p_set ?_)
      simp only [evVar, En.get, evC, evBin, evSh, evEsc, evB, evEB, evChain, evAnd, evOr, evNot, evAndV, evOrV, evNotV, evIf, evCons, evNil, evLst, evTup, evCall, callF, evSl, eoN, eoS, evUn, evC1, evIsi, evTru, erg1, erg2, evLRg, evTRg, eiSeq, eiEnum, eiZip, x_bind, x_rs, x_asB, x_asI, x_bifB, x_bifO, x_andB, x_orB, x_bifI, List.length_map, en0, List.replicate, List.cons_append, List.nil_append, T.asD, T.items, T.itL, T.itT, T.er, T.ers, T.noScr, T.noScrs, T.shs, mkL, mkT, T.isSh, T.argOk, T.toArg, T.solid, T.isL, T.parts, putAll, T.tru, T.ty, tyD, En.put, En.clr, En.share, egName, egTup, egCons, egNil, Option.map_some, Option.map_none, Option.bind_some, Option.bind, List.all_cons, List.all_nil, List.map_cons, List.map_nil, List.length_cons, List.length_nil, Bool.and_true, Bool.true_and, Bool.and_self, Bool.not_true, Bool.not_false, if_true, cond_true, cond_false, Bool.false_eq_true, if_false, true_and, and_true, Rs.P_ok, Bool.and_false, Bool.false_and, Bool.false_or, Bool.or_false, Bool.true_or, Bool.or_true, Nat.reduceAdd, Nat.reduceLeDiff, Nat.reduceEqDiff, reduceCtorEq, x_add, x_iadd, x_sub, x_lt, x_le, x_gt, x_ge, x_eq, x_ne, x_eqB, x_neB, x_eqS, x_neS, x_max2, x_min2, x_int1, x_intB, x_lenL, x_lenT, x_lenO, x_lenS, x_sumL, x_sumO, x_sortL, x_sortO, x_listL, x_listT, x_listO, x_isN, x_isNn, x_isNi, x_isNl, x_isNt, x_isNb, x_notN, x_ixL, x_ixT, x_ixO, x_ixS, x_ix0, x_ix1, x_ix2, x_sl, x_slO, x_slT, x_inL, x_inO, x_ninL, x_ninO]
      refine ⟨_, _, _, rfl, ?_⟩
      rw [← ha]
      simp only [centsF, List.foldl_cons, hp, if_true]
    · refine p_nil ⟨_, _, _, rfl, ?_⟩
      rw [← ha]
      simp only [centsF, List.foldl_cons, hp, if_false]
  · rintro ρ ⟨a, o3, o4, rfl, ha⟩
    refine p_ret ?_
    simp only [evVar, En.get, evC, evBin, evSh, evEsc, evB, evEB, evChain, evAnd, evOr, evNot, evAndV, evOrV, evNotV, evIf, evCons, evNil, evLst, evTup, evCall, callF, evSl, eoN, eoS, evUn, evC1, evIsi, evTru, erg1, erg2, evLRg, evTRg, eiSeq, eiEnum, eiZip, x_bind, x_rs, x_asB, x_asI, x_bifB, x_bifO, x_andB, x_orB, x_bifI, List.length_map, en0, List.replicate, List.cons_append, List.nil_append, T.asD, T.items, T.itL, T.itT, T.er, T.ers, T.noScr, T.noScrs, T.shs, mkL, mkT, T.isSh, T.argOk, T.toArg, T.solid, T.isL, T.parts, putAll, T.tru, T.ty, tyD, En.put, En.clr, En.share, egName, egTup, egCons, egNil, Option.map_some, Option.map_none, Option.bind_some, Option.bind, List.all_cons, List.all_nil, List.map_cons, List.map_nil, List.length_cons, List.length_nil, Bool.and_true, Bool.true_and, Bool.and_self, Bool.not_true, Bool.not_false, if_true, cond_true, cond_false, Bool.false_eq_true, if_false, true_and, and_true, Rs.P_ok, Bool.and_false, Bool.false_and, Bool.false_or, Bool.or_false, Bool.true_or, Bool.or_true, Nat.reduceAdd, Nat.reduceLeDiff, Nat.reduceEqDiff, reduceCtorEq, x_add, x_iadd, x_sub, x_lt, x_le, x_gt, x_ge, x_eq, x_ne, x_eqB, x_neB, x_eqS, x_neS, x_max2, x_min2, x_int1, x_intB, x_lenL, x_lenT, x_lenO, x_lenS, x_sumL, x_sumO, x_sortL, x_sortO, x_listL, x_listT, x_listO, x_isN, x_isNn, x_isNi, x_isNl, x_isNt, x_isNb, x_notN, x_ixL, x_ixT, x_ixO, x_ixS, x_ix0, x_ix1, x_ix2, x_sl, x_slO, x_slT, x_inL, x_inO, x_ninL, x_ninO]
    rw [← ha]; rfl
def priceL (t : Tf) (count : Int) : Int := ((rngI 1 (count + 1)).map (centsF 0 t)).sum
theorem w_price (t : Tf) (count : Int) (h0 : 0 ≤ count) (h1 : count < 4611686018427387900) : d__law_price [.sh (TL t), .sh (I count)] = .ok (.sh (I (priceL t count))) := by
  refine fn_eq rfl ?_
  refine p_seq (p_set ?_)
  simp only [evVar, En.get, evC, evBin, evSh, evEsc, evB, evEB, evChain, evAnd, evOr, evNot, evAndV, evOrV, evNotV, evIf, evCons, evNil, evLst, evTup, evCall, callF, evSl, eoN, eoS, evUn, evC1, evIsi, evTru, erg1, erg2, evLRg, evTRg, eiSeq, eiEnum, eiZip, x_bind, x_rs, x_asB, x_asI, x_bifB, x_bifO, x_andB, x_orB, x_bifI, List.length_map, en0, List.replicate, List.cons_append, List.nil_append, T.asD, T.items, T.itL, T.itT, T.er, T.ers, T.noScr, T.noScrs, T.shs, mkL, mkT, T.isSh, T.argOk, T.toArg, T.solid, T.isL, T.parts, putAll, T.tru, T.ty, tyD, En.put, En.clr, En.share, egName, egTup, egCons, egNil, Option.map_some, Option.map_none, Option.bind_some, Option.bind, List.all_cons, List.all_nil, List.map_cons, List.map_nil, List.length_cons, List.length_nil, Bool.and_true, Bool.true_and, Bool.and_self, Bool.not_true, Bool.not_false, if_true, cond_true, cond_false, Bool.false_eq_true, if_false, true_and, and_true, Rs.P_ok, Bool.and_false, Bool.false_and, Bool.false_or, Bool.or_false, Bool.true_or, Bool.or_true, Nat.reduceAdd, Nat.reduceLeDiff, Nat.reduceEqDiff, reduceCtorEq, x_add, x_iadd, x_sub, x_lt, x_le, x_gt, x_ge, x_eq, x_ne, x_eqB, x_neB, x_eqS, x_neS, x_max2, x_min2, x_int1, x_intB, x_lenL, x_lenT, x_lenO, x_lenS, x_sumL, x_sumO, x_sortL, x_sortO, x_listL, x_listT, x_listO, x_isN, x_isNn, x_isNi, x_isNl, x_isNt, x_isNb, x_notN, x_ixL, x_ixT, x_ixO, x_ixS, x_ix0, x_ix1, x_ix2, x_sl, x_slO, x_slT, x_inL, x_inO, x_ninL, x_ninO]
  refine p_seq (p_forM (l := rngI 1 (count + 1)) (x_rng2 (by simp only [evVar, En.get, evC, evBin, evSh, evEsc, evB, evEB, evChain, evAnd, evOr, evNot, evAndV, evOrV, evNotV, evIf, evCons, evNil, evLst, evTup, evCall, callF, evSl, eoN, eoS, evUn, evC1, evIsi, evTru, erg1, erg2, evLRg, evTRg, eiSeq, eiEnum, eiZip, x_bind, x_rs, x_asB, x_asI, x_bifB, x_bifO, x_andB, x_orB, x_bifI, List.length_map, en0, List.replicate, List.cons_append, List.nil_append, T.asD, T.items, T.itL, T.itT, T.er, T.ers, T.noScr, T.noScrs, T.shs, mkL, mkT, T.isSh, T.argOk, T.toArg, T.solid, T.isL, T.parts, putAll, T.tru, T.ty, tyD, En.put, En.clr, En.share, egName, egTup, egCons, egNil, Option.map_some, Option.map_none, Option.bind_some, Option.bind, List.all_cons, List.all_nil, List.map_cons, List.map_nil, List.length_cons, List.length_nil, Bool.and_true, Bool.true_and, Bool.and_self, Bool.not_true, Bool.not_false, if_true, cond_true, cond_false, Bool.false_eq_true, if_false, true_and, and_true, Rs.P_ok, Bool.and_false, Bool.false_and, Bool.false_or, Bool.or_false, Bool.true_or, Bool.or_true, Nat.reduceAdd, Nat.reduceLeDiff, Nat.reduceEqDiff, reduceCtorEq, x_add, x_iadd, x_sub, x_lt, x_le, x_gt, x_ge, x_eq, x_ne, x_eqB, x_neB, x_eqS, x_neS, x_max2, x_min2, x_int1, x_intB, x_lenL, x_lenT, x_lenO, x_lenS, x_sumL, x_sumO, x_sortL, x_sortO, x_listL, x_listT, x_listO, x_isN, x_isNn, x_isNi, x_isNl, x_isNt, x_isNb, x_notN, x_ixL, x_ixT, x_ixO, x_ixS, x_ix0, x_ix1, x_ix2, x_sl, x_slO, x_slT, x_inL, x_inO, x_ninL, x_ninO]) (by omega) (by omega)) (fun r ρ => ∃ (a : Int) (o3 : Option T), ρ = [some (.sh (TL t)), some (.sh (I count)), some (.sh (I a)), o3] ∧ a + (r.map (centsF 0 t)).sum = priceL t count) ?_ ?_ ?_)
  · exact ⟨0, none, rfl, by simp [priceL]⟩
  · rintro k r ρ ⟨a, o3, rfl, ha⟩
    refine ⟨_, rfl, ?_⟩
    refine p_share (p_share (p_set ?_))
    simp only [evVar, En.get, evC, evBin, evSh, evEsc, evB, evEB, evChain, evAnd, evOr, evNot, evAndV, evOrV, evNotV, evIf, evCons, evNil, evLst, evTup, evCall, callF, evSl, eoN, eoS, evUn, evC1, evIsi, evTru, erg1, erg2, evLRg, evTRg, eiSeq, eiEnum, eiZip, x_bind, x_rs, x_asB, x_asI, x_bifB, x_bifO, x_andB, x_orB, x_bifI, List.length_map, en0, List.replicate, List.cons_append, List.nil_append, T.asD, T.items, T.itL, T.itT, T.er, T.ers, T.noScr, T.noScrs, T.shs, mkL, mkT, T.isSh, T.argOk, T.toArg, T.solid, T.isL, T.parts, putAll, T.tru, T.ty, tyD, En.put, En.clr, En.share, egName, egTup, egCons, egNil, Option.map_some, Option.map_none, Option.bind_some, Option.bind, List.all_cons, List.all_nil, List.map_cons, List.map_nil, List.length_cons, List.length_nil, Bool.and_true, Bool.true_and, Bool.and_self, Bool.not_true, Bool.not_false, if_true, cond_true, cond_false, Bool.false_eq_true, if_false, true_and, and_true, Rs.P_ok, Bool.and_false, Bool.false_and, Bool.false_or, Bool.or_false, Bool.true_or, Bool.or_true, Nat.reduceAdd, Nat.reduceLeDiff, Nat.reduceEqDiff, reduceCtorEq, x_add, x_iadd, x_sub, x_lt, x_le, x_gt, x_ge, x_eq, x_ne, x_eqB, x_neB, x_eqS, x_neS, x_max2, x_min2, x_int1, x_intB, x_lenL, x_lenT, x_lenO, x_lenS, x_sumL, x_sumO, x_sortL, x_sortO, x_listL, x_listT, x_listO, x_isN, x_isNn, x_isNi, x_isNl, x_isNt, x_isNb, x_notN, x_ixL, x_ixT, x_ixO, x_ixS, x_ix0, x_ix1, x_ix2, x_sl, x_slO, x_slT, x_inL, x_inO, x_ninL, x_ninO]
    rw [w_cents]
    simp only [evVar, En.get, evC, evBin, evSh, evEsc, evB, evEB, evChain, evAnd, evOr, evNot, evAndV, evOrV, evNotV, evIf, evCons, evNil, evLst, evTup, evCall, callF, evSl, eoN, eoS, evUn, evC1, evIsi, evTru, erg1, erg2, evLRg, evTRg, eiSeq, eiEnum, eiZip, x_bind, x_rs, x_asB, x_asI, x_bifB, x_bifO, x_andB, x_orB, x_bifI, List.length_map, en0, List.replicate, List.cons_append, List.nil_append, T.asD, T.items, T.itL, T.itT, T.er, T.ers, T.noScr, T.noScrs, T.shs, mkL, mkT, T.isSh, T.argOk, T.toArg, T.solid, T.isL, T.parts, putAll, T.tru, T.ty, tyD, En.put, En.clr, En.share, egName, egTup, egCons, egNil, Option.map_some, Option.map_none, Option.bind_some, Option.bind, List.all_cons, List.all_nil, List.map_cons, List.map_nil, List.length_cons, List.length_nil, Bool.and_true, Bool.true_and, Bool.and_self, Bool.not_true, Bool.not_false, if_true, cond_true, cond_false, Bool.false_eq_true, if_false, true_and, and_true, Rs.P_ok, Bool.and_false, Bool.false_and, Bool.false_or, Bool.or_false, Bool.true_or, Bool.or_true, Nat.reduceAdd, Nat.reduceLeDiff, Nat.reduceEqDiff, reduceCtorEq, x_add, x_iadd, x_sub, x_lt, x_le, x_gt, x_ge, x_eq, x_ne, x_eqB, x_neB, x_eqS, x_neS, x_max2, x_min2, x_int1, x_intB, x_lenL, x_lenT, x_lenO, x_lenS, x_sumL, x_sumO, x_sortL, x_sortO, x_listL, x_listT, x_listO, x_isN, x_isNn, x_isNi, x_isNl, x_isNt, x_isNb, x_notN, x_ixL, x_ixT, x_ixO, x_ixS, x_ix0, x_ix1, x_ix2, x_sl, x_slO, x_slT, x_inL, x_inO, x_ninL, x_ninO]
    refine ⟨_, _, rfl, ?_⟩
    rw [← ha, List.map_cons, List.sum_cons]
    omega
  · rintro ρ ⟨a, o3, rfl, ha⟩
    refine p_ret ?_
    simp only [evVar, En.get, evC, evBin, evSh, evEsc, evB, evEB, evChain, evAnd, evOr, evNot, evAndV, evOrV, evNotV, evIf, evCons, evNil, evLst, evTup, evCall, callF, evSl, eoN, eoS, evUn, evC1, evIsi, evTru, erg1, erg2, evLRg, evTRg, eiSeq, eiEnum, eiZip, x_bind, x_rs, x_asB, x_asI, x_bifB, x_bifO, x_andB, x_orB, x_bifI, List.length_map, en0, List.replicate, List.cons_append, List.nil_append, T.asD, T.items, T.itL, T.itT, T.er, T.ers, T.noScr, T.noScrs, T.shs, mkL, mkT, T.isSh, T.argOk, T.toArg, T.solid, T.isL, T.parts, putAll, T.tru, T.ty, tyD, En.put, En.clr, En.share, egName, egTup, egCons, egNil, Option.map_some, Option.map_none, Option.bind_some, Option.bind, List.all_cons, List.all_nil, List.map_cons, List.map_nil, List.length_cons, List.length_nil, Bool.and_true, Bool.true_and, Bool.and_self, Bool.not_true, Bool.not_false, if_true, cond_true, cond_false, Bool.false_eq_true, if_false, true_and, and_true, Rs.P_ok, Bool.and_false, Bool.false_and, Bool.false_or, Bool.or_false, Bool.true_or, Bool.or_true, Nat.reduceAdd, Nat.reduceLeDiff, Nat.reduceEqDiff, reduceCtorEq, x_add, x_iadd, x_sub, x_lt, x_le, x_gt, x_ge, x_eq, x_ne, x_eqB, x_neB, x_eqS, x_neS, x_max2, x_min2, x_int1, x_intB, x_lenL, x_lenT, x_lenO, x_lenS, x_sumL, x_sumO, x_sortL, x_sortO, x_listL, x_listT, x_listO, x_isN, x_isNn, x_isNi, x_isNl, x_isNt, x_isNb, x_notN, x_ixL, x_ixT, x_ixO, x_ixS, x_ix0, x_ix1, x_ix2, x_sl, x_slO, x_slT, x_inL, x_inO, x_ninL, x_ninO]
    rw [← ha]; simp
/-! away, counts -/
def inV (v : V) (d : Int) : Bool := decide (v.1 ≤ d) && (match v.2 with
  | none => true
  | some x => decide (d < x))
def awayB (vs : List V) (d : Int) : Bool := vs.any fun v => inV v d
theorem w_away (vs : List V) (d : Int) : d__law_away [.sh (VL vs), .sh (I d)] = .ok (.sh (.bool (awayB vs d))) := by
  refine fn_eq rfl ?_
  refine p_seq (p_share (p_forM (l := vs) (f := vD) (by simp only [evVar, En.get, evC, evBin, evSh, evEsc, evB, evEB, evChain, evAnd, evOr, evNot, evAndV, evOrV, evNotV, evIf, evCons, evNil, evLst, evTup, evCall, callF, evSl, eoN, eoS, evUn, evC1, evIsi, evTru, erg1, erg2, evLRg, evTRg, eiSeq, eiEnum, eiZip, x_bind, x_rs, x_asB, x_asI, x_bifB, x_bifO, x_andB, x_orB, x_bifI, List.length_map, en0, List.replicate, List.cons_append, List.nil_append, T.asD, T.items, T.itL, T.itT, T.er, T.ers, T.noScr, T.noScrs, T.shs, mkL, mkT, T.isSh, T.argOk, T.toArg, T.solid, T.isL, T.parts, putAll, T.tru, T.ty, tyD, En.put, En.clr, En.share, egName, egTup, egCons, egNil, Option.map_some, Option.map_none, Option.bind_some, Option.bind, List.all_cons, List.all_nil, List.map_cons, List.map_nil, List.length_cons, List.length_nil, Bool.and_true, Bool.true_and, Bool.and_self, Bool.not_true, Bool.not_false, if_true, cond_true, cond_false, Bool.false_eq_true, if_false, true_and, and_true, Rs.P_ok, Bool.and_false, Bool.false_and, Bool.false_or, Bool.or_false, Bool.true_or, Bool.or_true, Nat.reduceAdd, Nat.reduceLeDiff, Nat.reduceEqDiff, reduceCtorEq, x_add, x_iadd, x_sub, x_lt, x_le, x_gt, x_ge, x_eq, x_ne, x_eqB, x_neB, x_eqS, x_neS, x_max2, x_min2, x_int1, x_intB, x_lenL, x_lenT, x_lenO, x_lenS, x_sumL, x_sumO, x_sortL, x_sortO, x_listL, x_listT, x_listO, x_isN, x_isNn, x_isNi, x_isNl, x_isNt, x_isNb, x_notN, x_ixL, x_ixT, x_ixO, x_ixS, x_ix0, x_ix1, x_ix2, x_sl, x_slO, x_slT, x_inL, x_inO, x_ninL, x_ninO]) (fun r ρ => ∃ (o2 o3 : Option T), ρ = [some (.sh (VL vs)), some (.sh (I d)), o2, o3] ∧ awayB r d = awayB vs d) ?_ ?_ ?_))
  · exact ⟨none, none, rfl, rfl⟩
  · rintro ⟨b, bk⟩ r ρ ⟨o2, o3, rfl, ha⟩
    refine ⟨_, rfl, ?_⟩
    refine p_ifB (k := inV (b, bk) d) ?_ (fun hp => ?_) fun hp => ?_
    · cases bk with
      | none => simp only [evVar, En.get, evC, evBin, evSh, evEsc, evB, evEB, evChain, evAnd, evOr, evNot, evAndV, evOrV, evNotV, evIf, evCons, evNil, evLst, evTup, evCall, callF, evSl, eoN, eoS, evUn, evC1, evIsi, evTru, erg1, erg2, evLRg, evTRg, eiSeq, eiEnum, eiZip, x_bind, x_rs, x_asB, x_asI, x_bifB, x_bifO, x_andB, x_orB, x_bifI, List.length_map, en0, List.replicate, List.cons_append, List.nil_append, T.asD, T.items, T.itL, T.itT, T.er, T.ers, T.noScr, T.noScrs, T.shs, mkL, mkT, T.isSh, T.argOk, T.toArg, T.solid, T.isL, T.parts, putAll, T.tru, T.ty, tyD, En.put, En.clr, En.share, egName, egTup, egCons, egNil, Option.map_some, Option.map_none, Option.bind_some, Option.bind, List.all_cons, List.all_nil, List.map_cons, List.map_nil, List.length_cons, List.length_nil, Bool.and_true, Bool.true_and, Bool.and_self, Bool.not_true, Bool.not_false, if_true, cond_true, cond_false, Bool.false_eq_true, if_false, true_and, and_true, Rs.P_ok, Bool.and_false, Bool.false_and, Bool.false_or, Bool.or_false, Bool.true_or, Bool.or_true, Nat.reduceAdd, Nat.reduceLeDiff, Nat.reduceEqDiff, reduceCtorEq, x_add, x_iadd, x_sub, x_lt, x_le, x_gt, x_ge, x_eq, x_ne, x_eqB, x_neB, x_eqS, x_neS, x_max2, x_min2, x_int1, x_intB, x_lenL, x_lenT, x_lenO, x_lenS, x_sumL, x_sumO, x_sortL, x_sortO, x_listL, x_listT, x_listO, x_isN, x_isNn, x_isNi, x_isNl, x_isNt, x_isNb, x_notN, x_ixL, x_ixT, x_ixO, x_ixS, x_ix0, x_ix1, x_ix2, x_sl, x_slO, x_slT, x_inL, x_inO, x_ninL, x_ninO, oD, inV]
      | some x => simp only [evVar, En.get, evC, evBin, evSh, evEsc, evB, evEB, evChain, evAnd, evOr, evNot, evAndV, evOrV, evNotV, evIf, evCons, evNil, evLst, evTup, evCall, callF, evSl, eoN, eoS, evUn, evC1, evIsi, evTru, erg1, erg2, evLRg, evTRg, eiSeq, eiEnum, eiZip, x_bind, x_rs, x_asB, x_asI, x_bifB, x_bifO, x_andB, x_orB, x_bifI, List.length_map, en0, List.replicate, List.cons_append, List.nil_append, T.asD, T.items, T.itL, T.itT, T.er, T.ers, T.noScr, T.noScrs, T.shs, mkL, mkT, T.isSh, T.argOk, T.toArg, T.solid, T.isL, T.parts, putAll, T.tru, T.ty, tyD, En.put, En.clr, En.share, egName, egTup, egCons, egNil, Option.map_some, Option.map_none, Option.bind_some, Option.bind, List.all_cons, List.all_nil, List.map_cons, List.map_nil, List.length_cons, List.length_nil, Bool.and_true, Bool.true_and, Bool.and_self, Bool.not_true, Bool.not_false, if_true, cond_true, cond_false, Bool.false_eq_true, if_false, true_and, and_true, Rs.P_ok, Bool.and_false, Bool.false_and, Bool.false_or, Bool.or_false, Bool.true_or, Bool.or_true, Nat.reduceAdd, Nat.reduceLeDiff, Nat.reduceEqDiff, reduceCtorEq, x_add, x_iadd, x_sub, x_lt, x_le, x_gt, x_ge, x_eq, x_ne, x_eqB, x_neB, x_eqS, x_neS, x_max2, x_min2, x_int1, x_intB, x_lenL, x_lenT, x_lenO, x_lenS, x_sumL, x_sumO, x_sortL, x_sortO, x_listL, x_listT, x_listO, x_isN, x_isNn, x_isNi, x_isNl, x_isNt, x_isNb, x_notN, x_ixL, x_ixT, x_ixO, x_ixS, x_ix0, x_ix1, x_ix2, x_sl, x_slO, x_slT, x_inL, x_inO, x_ninL, x_ninO, oD, inV]
    · refine p_ret ?_
      simp only [evVar, En.get, evC, evBin, evSh, evEsc, evB, evEB, evChain, evAnd, evOr, evNot, evAndV, evOrV, evNotV, evIf, evCons, evNil, evLst, evTup, evCall, callF, evSl, eoN, eoS, evUn, evC1, evIsi, evTru, erg1, erg2, evLRg, evTRg, eiSeq, eiEnum, eiZip, x_bind, x_rs, x_asB, x_asI, x_bifB, x_bifO, x_andB, x_orB, x_bifI, List.length_map, en0, List.replicate, List.cons_append, List.nil_append, T.asD, T.items, T.itL, T.itT, T.er, T.ers, T.noScr, T.noScrs, T.shs, mkL, mkT, T.isSh, T.argOk, T.toArg, T.solid, T.isL, T.parts, putAll, T.tru, T.ty, tyD, En.put, En.clr, En.share, egName, egTup, egCons, egNil, Option.map_some, Option.map_none, Option.bind_some, Option.bind, List.all_cons, List.all_nil, List.map_cons, List.map_nil, List.length_cons, List.length_nil, Bool.and_true, Bool.true_and, Bool.and_self, Bool.not_true, Bool.not_false, if_true, cond_true, cond_false, Bool.false_eq_true, if_false, true_and, and_true, Rs.P_ok, Bool.and_false, Bool.false_and, Bool.false_or, Bool.or_false, Bool.true_or, Bool.or_true, Nat.reduceAdd, Nat.reduceLeDiff, Nat.reduceEqDiff, reduceCtorEq, x_add, x_iadd, x_sub, x_lt, x_le, x_gt, x_ge, x_eq, x_ne, x_eqB, x_neB, x_eqS, x_neS, x_max2, x_min2, x_int1, x_intB, x_lenL, x_lenT, x_lenO, x_lenS, x_sumL, x_sumO, x_sortL, x_sortO, x_listL, x_listT, x_listO, x_isN, x_isNn, x_isNi, x_isNl, x_isNt, x_isNb, x_notN, x_ixL, x_ixT, x_ixO, x_ixS, x_ix0, x_ix1, x_ix2, x_sl, x_slO, x_slT, x_inL, x_inO, x_ninL, x_ninO]
      rw [← ha]
      simp only [awayB, List.any_cons, hp, Bool.true_or]
    · refine p_nil ⟨_, _, rfl, ?_⟩
      rw [← ha]
      simp only [awayB, List.any_cons, hp, Bool.false_or]
  · rintro ρ ⟨o2, o3, rfl, ha⟩
    refine p_ret ?_
    simp only [evVar, En.get, evC, evBin, evSh, evEsc, evB, evEB, evChain, evAnd, evOr, evNot, evAndV, evOrV, evNotV, evIf, evCons, evNil, evLst, evTup, evCall, callF, evSl, eoN, eoS, evUn, evC1, evIsi, evTru, erg1, erg2, evLRg, evTRg, eiSeq, eiEnum, eiZip, x_bind, x_rs, x_asB, x_asI, x_bifB, x_bifO, x_andB, x_orB, x_bifI, List.length_map, en0, List.replicate, List.cons_append, List.nil_append, T.asD, T.items, T.itL, T.itT, T.er, T.ers, T.noScr, T.noScrs, T.shs, mkL, mkT, T.isSh, T.argOk, T.toArg, T.solid, T.isL, T.parts, putAll, T.tru, T.ty, tyD, En.put, En.clr, En.share, egName, egTup, egCons, egNil, Option.map_some, Option.map_none, Option.bind_some, Option.bind, List.all_cons, List.all_nil, List.map_cons, List.map_nil, List.length_cons, List.length_nil, Bool.and_true, Bool.true_and, Bool.and_self, Bool.not_true, Bool.not_false, if_true, cond_true, cond_false, Bool.false_eq_true, if_false, true_and, and_true, Rs.P_ok, Bool.and_false, Bool.false_and, Bool.false_or, Bool.or_false, Bool.true_or, Bool.or_true, Nat.reduceAdd, Nat.reduceLeDiff, Nat.reduceEqDiff, reduceCtorEq, x_add, x_iadd, x_sub, x_lt, x_le, x_gt, x_ge, x_eq, x_ne, x_eqB, x_neB, x_eqS, x_neS, x_max2, x_min2, x_int1, x_intB, x_lenL, x_lenT, x_lenO, x_lenS, x_sumL, x_sumO, x_sortL, x_sortO, x_listL, x_listT, x_listO, x_isN, x_isNn, x_isNi, x_isNl, x_isNt, x_isNb, x_notN, x_ixL, x_ixT, x_ixO, x_ixS, x_ix0, x_ix1, x_ix2, x_sl, x_slO, x_slT, x_inL, x_inO, x_ninL, x_ninO]
    rw [← ha]; rfl
def open1 (cl : List Int) (vs : List V) (d : Int) : Bool := !decide (d ∈ cl) && !awayB vs d
def cnt (cl : List Int) (begin : Int) (vs : List V) (stop : Int) : Int := (((rngI begin stop).filter (open1 cl vs)).length : Nat)
theorem w_counts (cl : List Int) (vs : List V) (begin stop : Int) (h1 : 0 ≤ begin) (h2 : begin ≤ 100000) (h3 : stop ≤ 100000) (h4 : 0 ≤ stop) : d__law_counts [.sh (L cl), .sh (I begin), .sh (VL vs), .sh (I stop)] = .ok (.sh (I (cnt cl begin vs stop))) := by
  refine fn_eq rfl ?_
  refine p_share (p_ret ?_)
  simp only [evVar, En.get, evC, evBin, evSh, evEsc, evB, evEB, evChain, evAnd, evOr, evNot, evAndV, evOrV, evNotV, evIf, evCons, evNil, evLst, evTup, evCall, callF, evSl, eoN, eoS, evUn, evC1, evIsi, evTru, erg1, erg2, evLRg, evTRg, eiSeq, eiEnum, eiZip, x_bind, x_rs, x_asB, x_asI, x_bifB, x_bifO, x_andB, x_orB, x_bifI, List.length_map, en0, List.replicate, List.cons_append, List.nil_append, T.asD, T.items, T.itL, T.itT, T.er, T.ers, T.noScr, T.noScrs, T.shs, mkL, mkT, T.isSh, T.argOk, T.toArg, T.solid, T.isL, T.parts, putAll, T.tru, T.ty, tyD, En.put, En.clr, En.share, egName, egTup, egCons, egNil, Option.map_some, Option.map_none, Option.bind_some, Option.bind, List.all_cons, List.all_nil, List.map_cons, List.map_nil, List.length_cons, List.length_nil, Bool.and_true, Bool.true_and, Bool.and_self, Bool.not_true, Bool.not_false, if_true, cond_true, cond_false, Bool.false_eq_true, if_false, true_and, and_true, Rs.P_ok, Bool.and_false, Bool.false_and, Bool.false_or, Bool.or_false, Bool.true_or, Bool.or_true, Nat.reduceAdd, Nat.reduceLeDiff, Nat.reduceEqDiff, reduceCtorEq, x_add, x_iadd, x_sub, x_lt, x_le, x_gt, x_ge, x_eq, x_ne, x_eqB, x_neB, x_eqS, x_neS, x_max2, x_min2, x_int1, x_intB, x_lenL, x_lenT, x_lenO, x_lenS, x_sumL, x_sumO, x_sortL, x_sortO, x_listL, x_listT, x_listO, x_isN, x_isNn, x_isNi, x_isNl, x_isNt, x_isNb, x_notN, x_ixL, x_ixT, x_ixO, x_ixS, x_ix0, x_ix1, x_ix2, x_sl, x_slO, x_slT, x_inL, x_inO, x_ninL, x_ninO]
  rw [comp_eq (l := rngI begin stop) (f := PyData.int) (k := open1 cl vs) (h := PyData.int) (x_rng2 (by simp only [evVar, En.get, evC, evBin, evSh, evEsc, evB, evEB, evChain, evAnd, evOr, evNot, evAndV, evOrV, evNotV, evIf, evCons, evNil, evLst, evTup, evCall, callF, evSl, eoN, eoS, evUn, evC1, evIsi, evTru, erg1, erg2, evLRg, evTRg, eiSeq, eiEnum, eiZip, x_bind, x_rs, x_asB, x_asI, x_bifB, x_bifO, x_andB, x_orB, x_bifI, List.length_map, en0, List.replicate, List.cons_append, List.nil_append, T.asD, T.items, T.itL, T.itT, T.er, T.ers, T.noScr, T.noScrs, T.shs, mkL, mkT, T.isSh, T.argOk, T.toArg, T.solid, T.isL, T.parts, putAll, T.tru, T.ty, tyD, En.put, En.clr, En.share, egName, egTup, egCons, egNil, Option.map_some, Option.map_none, Option.bind_some, Option.bind, List.all_cons, List.all_nil, List.map_cons, List.map_nil, List.length_cons, List.length_nil, Bool.and_true, Bool.true_and, Bool.and_self, Bool.not_true, Bool.not_false, if_true, cond_true, cond_false, Bool.false_eq_true, if_false, true_and, and_true, Rs.P_ok, Bool.and_false, Bool.false_and, Bool.false_or, Bool.or_false, Bool.true_or, Bool.or_true, Nat.reduceAdd, Nat.reduceLeDiff, Nat.reduceEqDiff, reduceCtorEq, x_add, x_iadd, x_sub, x_lt, x_le, x_gt, x_ge, x_eq, x_ne, x_eqB, x_neB, x_eqS, x_neS, x_max2, x_min2, x_int1, x_intB, x_lenL, x_lenT, x_lenO, x_lenS, x_sumL, x_sumO, x_sortL, x_sortO, x_listL, x_listT, x_listO, x_isN, x_isNn, x_isNi, x_isNl, x_isNt, x_isNb, x_notN, x_ixL, x_ixT, x_ixO, x_ixS, x_ix0, x_ix1, x_ix2, x_sl, x_slO, x_slT, x_inL, x_inO, x_ninL, x_ninO]) (by omega) (by omega)) (by rw [rngI_len]; omega)]
  · simp only [evVar, En.get, evC, evBin, evSh, evEsc, evB, evEB, evChain, evAnd, evOr, evNot, evAndV, evOrV, evNotV, evIf, evCons, evNil, evLst, evTup, evCall, callF, evSl, eoN, eoS, evUn, evC1, evIsi, evTru, erg1, erg2, evLRg, evTRg, eiSeq, eiEnum, eiZip, x_bind, x_rs, x_asB, x_asI, x_bifB, x_bifO, x_andB, x_orB, x_bifI, List.length_map, en0, List.replicate, List.cons_append, List.nil_append, T.asD, T.items, T.itL, T.itT, T.er, T.ers, T.noScr, T.noScrs, T.shs, mkL, mkT, T.isSh, T.argOk, T.toArg, T.solid, T.isL, T.parts, putAll, T.tru, T.ty, tyD, En.put, En.clr, En.share, egName, egTup, egCons, egNil, Option.map_some, Option.map_none, Option.bind_some, Option.bind, List.all_cons, List.all_nil, List.map_cons, List.map_nil, List.length_cons, List.length_nil, Bool.and_true, Bool.true_and, Bool.and_self, Bool.not_true, Bool.not_false, if_true, cond_true, cond_false, Bool.false_eq_true, if_false, true_and, and_true, Rs.P_ok, Bool.and_false, Bool.false_and, Bool.false_or, Bool.or_false, Bool.true_or, Bool.or_true, Nat.reduceAdd, Nat.reduceLeDiff, Nat.reduceEqDiff, reduceCtorEq, x_add, x_iadd, x_sub, x_lt, x_le, x_gt, x_ge, x_eq, x_ne, x_eqB, x_neB, x_eqS, x_neS, x_max2, x_min2, x_int1, x_intB, x_lenL, x_lenT, x_lenO, x_lenS, x_sumL, x_sumO, x_sortL, x_sortO, x_listL, x_listT, x_listO, x_isN, x_isNn, x_isNi, x_isNl, x_isNt, x_isNb, x_notN, x_ixL, x_ixT, x_ixO, x_ixS, x_ix0, x_ix1, x_ix2, x_sl, x_slO, x_slT, x_inL, x_inO, x_ninL, x_ninO, cnt]
  · intro d hd
    refine ⟨_, rfl, ?_⟩
    simp only [evVar, En.get, evC, evBin, evSh, evEsc, evB, evEB, evChain, evAnd, evOr, evNot, evAndV, evOrV, evNotV, evIf, evCons, evNil, evLst, evTup, evCall, callF, evSl, eoN, eoS, evUn, evC1, evIsi, evTru, erg1, erg2, evLRg, evTRg, eiSeq, eiEnum, eiZip, x_bind, x_rs, x_asB, x_asI, x_bifB, x_bifO, x_andB, x_orB, x_bifI, List.length_map, en0, List.replicate, List.cons_append, List.nil_append, T.asD, T.items, T.itL, T.itT, T.er, T.ers, T.noScr, T.noScrs, T.shs, mkL, mkT, T.isSh, T.argOk, T.toArg, T.solid, T.isL, T.parts, putAll, T.tru, T.ty, tyD, En.put, En.clr, En.share, egName, egTup, egCons, egNil, Option.map_some, Option.map_none, Option.bind_some, Option.bind, List.all_cons, List.all_nil, List.map_cons, List.map_nil, List.length_cons, List.length_nil, Bool.and_true, Bool.true_and, Bool.and_self, Bool.not_true, Bool.not_false, if_true, cond_true, cond_false, Bool.false_eq_true, if_false, true_and, and_true, Rs.P_ok, Bool.and_false, Bool.false_and, Bool.false_or, Bool.or_false, Bool.true_or, Bool.or_true, Nat.reduceAdd, Nat.reduceLeDiff, Nat.reduceEqDiff, reduceCtorEq, x_add, x_iadd, x_sub, x_lt, x_le, x_gt, x_ge, x_eq, x_ne, x_eqB, x_neB, x_eqS, x_neS, x_max2, x_min2, x_int1, x_intB, x_lenL, x_lenT, x_lenO, x_lenS, x_sumL, x_sumO, x_sortL, x_sortO, x_listL, x_listT, x_listO, x_isN, x_isNn, x_isNi, x_isNl, x_isNt, x_isNb, x_notN, x_ixL, x_ixT, x_ixO, x_ixS, x_ix0, x_ix1, x_ix2, x_sl, x_slO, x_slT, x_inL, x_inO, x_ninL, x_ninO]
    rw [w_away]
    simp only [evVar, En.get, evC, evBin, evSh, evEsc, evB, evEB, evChain, evAnd, evOr, evNot, evAndV, evOrV, evNotV, evIf, evCons, evNil, evLst, evTup, evCall, callF, evSl, eoN, eoS, evUn, evC1, evIsi, evTru, erg1, erg2, evLRg, evTRg, eiSeq, eiEnum, eiZip, x_bind, x_rs, x_asB, x_asI, x_bifB, x_bifO, x_andB, x_orB, x_bifI, List.length_map, en0, List.replicate, List.cons_append, List.nil_append, T.asD, T.items, T.itL, T.itT, T.er, T.ers, T.noScr, T.noScrs, T.shs, mkL, mkT, T.isSh, T.argOk, T.toArg, T.solid, T.isL, T.parts, putAll, T.tru, T.ty, tyD, En.put, En.clr, En.share, egName, egTup, egCons, egNil, Option.map_some, Option.map_none, Option.bind_some, Option.bind, List.all_cons, List.all_nil, List.map_cons, List.map_nil, List.length_cons, List.length_nil, Bool.and_true, Bool.true_and, Bool.and_self, Bool.not_true, Bool.not_false, if_true, cond_true, cond_false, Bool.false_eq_true, if_false, true_and, and_true, Rs.P_ok, Bool.and_false, Bool.false_and, Bool.false_or, Bool.or_false, Bool.true_or, Bool.or_true, Nat.reduceAdd, Nat.reduceLeDiff, Nat.reduceEqDiff, reduceCtorEq, x_add, x_iadd, x_sub, x_lt, x_le, x_gt, x_ge, x_eq, x_ne, x_eqB, x_neB, x_eqS, x_neS, x_max2, x_min2, x_int1, x_intB, x_lenL, x_lenT, x_lenO, x_lenS, x_sumL, x_sumO, x_sortL, x_sortO, x_listL, x_listT, x_listO, x_isN, x_isNn, x_isNi, x_isNl, x_isNt, x_isNb, x_notN, x_ixL, x_ixT, x_ixO, x_ixS, x_ix0, x_ix1, x_ix2, x_sl, x_slO, x_slT, x_inL, x_inO, x_ninL, x_ninO, open1]
    simp only [imp_self, implies_true]
/-! the end, day by day -/
def lastL (last : Int) (vs : List V) : Int := vs.foldl (fun a v => max (max a v.1) (v.2.getD v.1)) last
theorem cnt_step {cl : List Int} {begin : Int} {vs : List V} {d : Int} (h : begin ≤ d) : cnt cl begin vs (d + 1) = cnt cl begin vs d + (if open1 cl vs d then 1 else 0) := by
  unfold cnt
  rw [rngI_snoc h, List.filter_append, List.length_append]
  by_cases h : open1 cl vs d = true
  · simp [h]
  · simp [h]
theorem cnt_begin {cl : List Int} {begin : Int} {vs : List V} : cnt cl begin vs begin = 0 := by
  unfold cnt
  rw [rngI_nil (Int.le_refl _)]; rfl
def turnsL (cl : List Int) (days begin : Int) (vs : List V) : Int := lastL begin vs - begin + days + (cl.length : Nat) + 2
theorem w_end (cl : List Int) (vs : List V) (days begin : Int) (hd : 0 ≤ days) (hd2 : days ≤ 100000) (hcl : cl.length ≤ 100) (hb : 0 ≤ begin) (hb2 : begin ≤ 100000) (hl : begin ≤ lastL begin vs) (hl2 : lastL begin vs ≤ 100000) :
    ∃ r : Option Int, d__law_end [.sh (L cl), .sh (I days), .sh (I begin), .sh (VL vs)] = .ok (.sh (oD r)) ∧ (match r with
      | none => ∀ d, begin ≤ d → d < begin + turnsL cl days begin vs → cnt cl begin vs d < days
      | some e => begin ≤ e ∧ days ≤ cnt cl begin vs e ∧ ∀ d, begin ≤ d → d < e → cnt cl begin vs d < days) := by
  suffices hs : (d__law_end [.sh (L cl), .sh (I days), .sh (I begin), .sh (VL vs)]).P fun t => ∃ r : Option Int, t = .sh (oD r) ∧ (match r with
      | none => ∀ d, begin ≤ d → d < begin + turnsL cl days begin vs → cnt cl begin vs d < days
      | some e => begin ≤ e ∧ days ≤ cnt cl begin vs e ∧ ∀ d, begin ≤ d → d < e → cnt cl begin vs d < days) by
    obtain ⟨t, e, r, rfl, q⟩ := hs.ex
    exact ⟨r, e, q⟩
  refine p_fn rfl ?_
  refine p_seq (p_set ?_)
  simp only [evVar, En.get, evC, evBin, evSh, evEsc, evB, evEB, evChain, evAnd, evOr, evNot, evAndV, evOrV, evNotV, evIf, evCons, evNil, evLst, evTup, evCall, callF, evSl, eoN, eoS, evUn, evC1, evIsi, evTru, erg1, erg2, evLRg, evTRg, eiSeq, eiEnum, eiZip, x_bind, x_rs, x_asB, x_asI, x_bifB, x_bifO, x_andB, x_orB, x_bifI, List.length_map, en0, List.replicate, List.cons_append, List.nil_append, T.asD, T.items, T.itL, T.itT, T.er, T.ers, T.noScr, T.noScrs, T.shs, mkL, mkT, T.isSh, T.argOk, T.toArg, T.solid, T.isL, T.parts, putAll, T.tru, T.ty, tyD, En.put, En.clr, En.share, egName, egTup, egCons, egNil, Option.map_some, Option.map_none, Option.bind_some, Option.bind, List.all_cons, List.all_nil, List.map_cons, List.map_nil, List.length_cons, List.length_nil, Bool.and_true, Bool.true_and, Bool.and_self, Bool.not_true, Bool.not_false, if_true, cond_true, cond_false, Bool.false_eq_true, if_false, true_and, and_true, Rs.P_ok, Bool.and_false, Bool.false_and, Bool.false_or, Bool.or_false, Bool.true_or, Bool.or_true, Nat.reduceAdd, Nat.reduceLeDiff, Nat.reduceEqDiff, reduceCtorEq, x_add, x_iadd, x_sub, x_lt, x_le, x_gt, x_ge, x_eq, x_ne, x_eqB, x_neB, x_eqS, x_neS, x_max2, x_min2, x_int1, x_intB, x_lenL, x_lenT, x_lenO, x_lenS, x_sumL, x_sumO, x_sortL, x_sortO, x_listL, x_listT, x_listO, x_isN, x_isNn, x_isNi, x_isNl, x_isNt, x_isNb, x_notN, x_ixL, x_ixT, x_ixO, x_ixS, x_ix0, x_ix1, x_ix2, x_sl, x_slO, x_slT, x_inL, x_inO, x_ninL, x_ninO]
  refine p_seq (p_share (p_set ?_))
  simp only [evVar, En.get, evC, evBin, evSh, evEsc, evB, evEB, evChain, evAnd, evOr, evNot, evAndV, evOrV, evNotV, evIf, evCons, evNil, evLst, evTup, evCall, callF, evSl, eoN, eoS, evUn, evC1, evIsi, evTru, erg1, erg2, evLRg, evTRg, eiSeq, eiEnum, eiZip, x_bind, x_rs, x_asB, x_asI, x_bifB, x_bifO, x_andB, x_orB, x_bifI, List.length_map, en0, List.replicate, List.cons_append, List.nil_append, T.asD, T.items, T.itL, T.itT, T.er, T.ers, T.noScr, T.noScrs, T.shs, mkL, mkT, T.isSh, T.argOk, T.toArg, T.solid, T.isL, T.parts, putAll, T.tru, T.ty, tyD, En.put, En.clr, En.share, egName, egTup, egCons, egNil, Option.map_some, Option.map_none, Option.bind_some, Option.bind, List.all_cons, List.all_nil, List.map_cons, List.map_nil, List.length_cons, List.length_nil, Bool.and_true, Bool.true_and, Bool.and_self, Bool.not_true, Bool.not_false, if_true, cond_true, cond_false, Bool.false_eq_true, if_false, true_and, and_true, Rs.P_ok, Bool.and_false, Bool.false_and, Bool.false_or, Bool.or_false, Bool.true_or, Bool.or_true, Nat.reduceAdd, Nat.reduceLeDiff, Nat.reduceEqDiff, reduceCtorEq, x_add, x_iadd, x_sub, x_lt, x_le, x_gt, x_ge, x_eq, x_ne, x_eqB, x_neB, x_eqS, x_neS, x_max2, x_min2, x_int1, x_intB, x_lenL, x_lenT, x_lenO, x_lenS, x_sumL, x_sumO, x_sortL, x_sortO, x_listL, x_listT, x_listO, x_isN, x_isNn, x_isNi, x_isNl, x_isNt, x_isNb, x_notN, x_ixL, x_ixT, x_ixO, x_ixS, x_ix0, x_ix1, x_ix2, x_sl, x_slO, x_slT, x_inL, x_inO, x_ninL, x_ninO]
  refine p_seq (p_share (p_set ?_))
  simp only [evVar, En.get, evC, evBin, evSh, evEsc, evB, evEB, evChain, evAnd, evOr, evNot, evAndV, evOrV, evNotV, evIf, evCons, evNil, evLst, evTup, evCall, callF, evSl, eoN, eoS, evUn, evC1, evIsi, evTru, erg1, erg2, evLRg, evTRg, eiSeq, eiEnum, eiZip, x_bind, x_rs, x_asB, x_asI, x_bifB, x_bifO, x_andB, x_orB, x_bifI, List.length_map, en0, List.replicate, List.cons_append, List.nil_append, T.asD, T.items, T.itL, T.itT, T.er, T.ers, T.noScr, T.noScrs, T.shs, mkL, mkT, T.isSh, T.argOk, T.toArg, T.solid, T.isL, T.parts, putAll, T.tru, T.ty, tyD, En.put, En.clr, En.share, egName, egTup, egCons, egNil, Option.map_some, Option.map_none, Option.bind_some, Option.bind, List.all_cons, List.all_nil, List.map_cons, List.map_nil, List.length_cons, List.length_nil, Bool.and_true, Bool.true_and, Bool.and_self, Bool.not_true, Bool.not_false, if_true, cond_true, cond_false, Bool.false_eq_true, if_false, true_and, and_true, Rs.P_ok, Bool.and_false, Bool.false_and, Bool.false_or, Bool.or_false, Bool.true_or, Bool.or_true, Nat.reduceAdd, Nat.reduceLeDiff, Nat.reduceEqDiff, reduceCtorEq, x_add, x_iadd, x_sub, x_lt, x_le, x_gt, x_ge, x_eq, x_ne, x_eqB, x_neB, x_eqS, x_neS, x_max2, x_min2, x_int1, x_intB, x_lenL, x_lenT, x_lenO, x_lenS, x_sumL, x_sumO, x_sortL, x_sortO, x_listL, x_listT, x_listO, x_isN, x_isNn, x_isNi, x_isNl, x_isNt, x_isNb, x_notN, x_ixL, x_ixT, x_ixO, x_ixS, x_ix0, x_ix1, x_ix2, x_sl, x_slO, x_slT, x_inL, x_inO, x_ninL, x_ninO]
  refine p_seq (p_share (p_forM (l := vs) (f := vD) (by simp only [evVar, En.get, evC, evBin, evSh, evEsc, evB, evEB, evChain, evAnd, evOr, evNot, evAndV, evOrV, evNotV, evIf, evCons, evNil, evLst, evTup, evCall, callF, evSl, eoN, eoS, evUn, evC1, evIsi, evTru, erg1, erg2, evLRg, evTRg, eiSeq, eiEnum, eiZip, x_bind, x_rs, x_asB, x_asI, x_bifB, x_bifO, x_andB, x_orB, x_bifI, List.length_map, en0, List.replicate, List.cons_append, List.nil_append, T.asD, T.items, T.itL, T.itT, T.er, T.ers, T.noScr, T.noScrs, T.shs, mkL, mkT, T.isSh, T.argOk, T.toArg, T.solid, T.isL, T.parts, putAll, T.tru, T.ty, tyD, En.put, En.clr, En.share, egName, egTup, egCons, egNil, Option.map_some, Option.map_none, Option.bind_some, Option.bind, List.all_cons, List.all_nil, List.map_cons, List.map_nil, List.length_cons, List.length_nil, Bool.and_true, Bool.true_and, Bool.and_self, Bool.not_true, Bool.not_false, if_true, cond_true, cond_false, Bool.false_eq_true, if_false, true_and, and_true, Rs.P_ok, Bool.and_false, Bool.false_and, Bool.false_or, Bool.or_false, Bool.true_or, Bool.or_true, Nat.reduceAdd, Nat.reduceLeDiff, Nat.reduceEqDiff, reduceCtorEq, x_add, x_iadd, x_sub, x_lt, x_le, x_gt, x_ge, x_eq, x_ne, x_eqB, x_neB, x_eqS, x_neS, x_max2, x_min2, x_int1, x_intB, x_lenL, x_lenT, x_lenO, x_lenS, x_sumL, x_sumO, x_sortL, x_sortO, x_listL, x_listT, x_listO, x_isN, x_isNn, x_isNi, x_isNl, x_isNt, x_isNb, x_notN, x_ixL, x_ixT, x_ixO, x_ixS, x_ix0, x_ix1, x_ix2, x_sl, x_slO, x_slT, x_inL, x_inO, x_ninL, x_ninO]) (fun r ρ => ∃ (a : Int) (o7 o8 : Option T), ρ = [some (.sh (L cl)), some (.sh (I days)), some (.sh (I begin)), some (.sh (VL vs)), some (.sh (I 0)), some (.sh (I begin)), some (.sh (I a)), o7, o8, none] ∧ lastL a r = lastL begin vs) ?_ ?_ ?_))
  · exact ⟨begin, none, none, rfl, rfl⟩
  · rintro ⟨b, bk⟩ r ρ ⟨a, o7, o8, rfl, ha⟩
    refine ⟨_, rfl, ?_⟩
    refine p_share (p_share (p_set ?_))
    cases bk with
    | none =>
      simp only [evVar, En.get, evC, evBin, evSh, evEsc, evB, evEB, evChain, evAnd, evOr, evNot, evAndV, evOrV, evNotV, evIf, evCons, evNil, evLst, evTup, evCall, callF, evSl, eoN, eoS, evUn, evC1, evIsi, evTru, erg1, erg2, evLRg, evTRg, eiSeq, eiEnum, eiZip, x_bind, x_rs, x_asB, x_asI, x_bifB, x_bifO, x_andB, x_orB, x_bifI, List.length_map, en0, List.replicate, List.cons_append, List.nil_append, T.asD, T.items, T.itL, T.itT, T.er, T.ers, T.noScr, T.noScrs, T.shs, mkL, mkT, T.isSh, T.argOk, T.toArg, T.solid, T.isL, T.parts, putAll, T.tru, T.ty, tyD, En.put, En.clr, En.share, egName, egTup, egCons, egNil, Option.map_some, Option.map_none, Option.bind_some, Option.bind, List.all_cons, List.all_nil, List.map_cons, List.map_nil, List.length_cons, List.length_nil, Bool.and_true, Bool.true_and, Bool.and_self, Bool.not_true, Bool.not_false, if_true, cond_true, cond_false, Bool.false_eq_true, if_false, true_and, and_true, Rs.P_ok, Bool.and_false, Bool.false_and, Bool.false_or, Bool.or_false, Bool.true_or, Bool.or_true, Nat.reduceAdd, Nat.reduceLeDiff, Nat.reduceEqDiff, reduceCtorEq, x_add, x_iadd, x_sub, x_lt, x_le, x_gt, x_ge, x_eq, x_ne, x_eqB, x_neB, x_eqS, x_neS, x_max2, x_min2, x_int1, x_intB, x_lenL, x_lenT, x_lenO, x_lenS, x_sumL, x_sumO, x_sortL, x_sortO, x_listL, x_listT, x_listO, x_isN, x_isNn, x_isNi, x_isNl, x_isNt, x_isNb, x_notN, x_ixL, x_ixT, x_ixO, x_ixS, x_ix0, x_ix1, x_ix2, x_sl, x_slO, x_slT, x_inL, x_inO, x_ninL, x_ninO, oD, fMax3, Nat.reduceLeDiff]
      exact ⟨_, _, _, rfl, by rw [← ha]; simp [lastL]⟩
    | some x =>
      simp only [evVar, En.get, evC, evBin, evSh, evEsc, evB, evEB, evChain, evAnd, evOr, evNot, evAndV, evOrV, evNotV, evIf, evCons, evNil, evLst, evTup, evCall, callF, evSl, eoN, eoS, evUn, evC1, evIsi, evTru, erg1, erg2, evLRg, evTRg, eiSeq, eiEnum, eiZip, x_bind, x_rs, x_asB, x_asI, x_bifB, x_bifO, x_andB, x_orB, x_bifI, List.length_map, en0, List.replicate, List.cons_append, List.nil_append, T.asD, T.items, T.itL, T.itT, T.er, T.ers, T.noScr, T.noScrs, T.shs, mkL, mkT, T.isSh, T.argOk, T.toArg, T.solid, T.isL, T.parts, putAll, T.tru, T.ty, tyD, En.put, En.clr, En.share, egName, egTup, egCons, egNil, Option.map_some, Option.map_none, Option.bind_some, Option.bind, List.all_cons, List.all_nil, List.map_cons, List.map_nil, List.length_cons, List.length_nil, Bool.and_true, Bool.true_and, Bool.and_self, Bool.not_true, Bool.not_false, if_true, cond_true, cond_false, Bool.false_eq_true, if_false, true_and, and_true, Rs.P_ok, Bool.and_false, Bool.false_and, Bool.false_or, Bool.or_false, Bool.true_or, Bool.or_true, Nat.reduceAdd, Nat.reduceLeDiff, Nat.reduceEqDiff, reduceCtorEq, x_add, x_iadd, x_sub, x_lt, x_le, x_gt, x_ge, x_eq, x_ne, x_eqB, x_neB, x_eqS, x_neS, x_max2, x_min2, x_int1, x_intB, x_lenL, x_lenT, x_lenO, x_lenS, x_sumL, x_sumO, x_sortL, x_sortO, x_listL, x_listT, x_listO, x_isN, x_isNn, x_isNi, x_isNl, x_isNt, x_isNb, x_notN, x_ixL, x_ixT, x_ixO, x_ixS, x_ix0, x_ix1, x_ix2, x_sl, x_slO, x_slT, x_inL, x_inO, x_ninL, x_ninO, oD, fMax3, Nat.reduceLeDiff]
      exact ⟨_, _, _, rfl, by rw [← ha]; simp [lastL]⟩
  · rintro ρ ⟨a, o7, o8, rfl, ha⟩
    have ha : a = lastL begin vs := ha
    subst ha
    refine p_seq (p_forM (l := rngI 0 (turnsL cl days begin vs)) (x_rng1 (by simp only [evVar, En.get, evC, evBin, evSh, evEsc, evB, evEB, evChain, evAnd, evOr, evNot, evAndV, evOrV, evNotV, evIf, evCons, evNil, evLst, evTup, evCall, callF, evSl, eoN, eoS, evUn, evC1, evIsi, evTru, erg1, erg2, evLRg, evTRg, eiSeq, eiEnum, eiZip, x_bind, x_rs, x_asB, x_asI, x_bifB, x_bifO, x_andB, x_orB, x_bifI, List.length_map, en0, List.replicate, List.cons_append, List.nil_append, T.asD, T.items, T.itL, T.itT, T.er, T.ers, T.noScr, T.noScrs, T.shs, mkL, mkT, T.isSh, T.argOk, T.toArg, T.solid, T.isL, T.parts, putAll, T.tru, T.ty, tyD, En.put, En.clr, En.share, egName, egTup, egCons, egNil, Option.map_some, Option.map_none, Option.bind_some, Option.bind, List.all_cons, List.all_nil, List.map_cons, List.map_nil, List.length_cons, List.length_nil, Bool.and_true, Bool.true_and, Bool.and_self, Bool.not_true, Bool.not_false, if_true, cond_true, cond_false, Bool.false_eq_true, if_false, true_and, and_true, Rs.P_ok, Bool.and_false, Bool.false_and, Bool.false_or, Bool.or_false, Bool.true_or, Bool.or_true, Nat.reduceAdd, Nat.reduceLeDiff, Nat.reduceEqDiff, reduceCtorEq, x_add, x_iadd, x_sub, x_lt, x_le, x_gt, x_ge, x_eq, x_ne, x_eqB, x_neB, x_eqS, x_neS, x_max2, x_min2, x_int1, x_intB, x_lenL, x_lenT, x_lenO, x_lenS, x_sumL, x_sumO, x_sortL, x_sortO, x_listL, x_listT, x_listO, x_isN, x_isNn, x_isNi, x_isNl, x_isNt, x_isNb, x_notN, x_ixL, x_ixT, x_ixO, x_ixS, x_ix0, x_ix1, x_ix2, x_sl, x_slO, x_slT, x_inL, x_inO, x_ninL, x_ninO, turnsL]) (by unfold turnsL; omega) (by unfold turnsL; omega)) (fun r ρ => ∃ (d : Int) (o9 : Option T), ρ = [some (.sh (L cl)), some (.sh (I days)), some (.sh (I begin)), some (.sh (VL vs)), some (.sh (I (cnt cl begin vs d))), some (.sh (I d)), some (.sh (I (lastL begin vs))), o7, o8, o9] ∧
      begin ≤ d ∧ d + r.length = begin + turnsL cl days begin vs ∧ ∀ d', begin ≤ d' → d' < d → cnt cl begin vs d' < days) ?_ ?_ ?_)
    · exact ⟨begin, none, by rw [cnt_begin], by omega, by rw [rngI_len]; unfold turnsL; omega, fun d' h1 h2 => by omega⟩
    · rintro k r ρ ⟨d, o9, rfl, h1, h2, h3⟩
      rw [List.length_cons] at h2
      refine ⟨_, rfl, ?_⟩
      refine p_seq (p_ifD (p := days ≤ cnt cl begin vs d) ?_ (fun hp => ?_) fun hp => ?_)
      · simp only [evVar, En.get, evC, evBin, evSh, evEsc, evB, evEB, evChain, evAnd, evOr, evNot, evAndV, evOrV, evNotV, evIf, evCons, evNil, evLst, evTup, evCall, callF, evSl, eoN, eoS, evUn, evC1, evIsi, evTru, erg1, erg2, evLRg, evTRg, eiSeq, eiEnum, eiZip, x_bind, x_rs, x_asB, x_asI, x_bifB, x_bifO, x_andB, x_orB, x_bifI, List.length_map, en0, List.replicate, List.cons_append, List.nil_append, T.asD, T.items, T.itL, T.itT, T.er, T.ers, T.noScr, T.noScrs, T.shs, mkL, mkT, T.isSh, T.argOk, T.toArg, T.solid, T.isL, T.parts, putAll, T.tru, T.ty, tyD, En.put, En.clr, En.share, egName, egTup, egCons, egNil, Option.map_some, Option.map_none, Option.bind_some, Option.bind, List.all_cons, List.all_nil, List.map_cons, List.map_nil, List.length_cons, List.length_nil, Bool.and_true, Bool.true_and, Bool.and_self, Bool.not_true, Bool.not_false, if_true, cond_true, cond_false, Bool.false_eq_true, if_false, true_and, and_true, Rs.P_ok, Bool.and_false, Bool.false_and, Bool.false_or, Bool.or_false, Bool.true_or, Bool.or_true, Nat.reduceAdd, Nat.reduceLeDiff, Nat.reduceEqDiff, reduceCtorEq, x_add, x_iadd, x_sub, x_lt, x_le, x_gt, x_ge, x_eq, x_ne, x_eqB, x_neB, x_eqS, x_neS, x_max2, x_min2, x_int1, x_intB, x_lenL, x_lenT, x_lenO, x_lenS, x_sumL, x_sumO, x_sortL, x_sortO, x_listL, x_listT, x_listO, x_isN, x_isNn, x_isNi, x_isNl, x_isNt, x_isNb, x_notN, x_ixL, x_ixT, x_ixO, x_ixS, x_ix0, x_ix1, x_ix2, x_sl, x_slO, x_slT, x_inL, x_inO, x_ninL, x_ninO]
      · refine p_ret ?_
        simp only [evVar, En.get, evC, evBin, evSh, evEsc, evB, evEB, evChain, evAnd, evOr, evNot, evAndV, evOrV, evNotV, evIf, evCons, evNil, evLst, evTup, evCall, callF, evSl, eoN, eoS, evUn, evC1, evIsi, evTru, erg1, erg2, evLRg, evTRg, eiSeq, eiEnum, eiZip, x_bind, x_rs, x_asB, x_asI, x_bifB, x_bifO, x_andB, x_orB, x_bifI, List.length_map, en0, List.replicate, List.cons_append, List.nil_append, T.asD, T.items, T.itL, T.itT, T.er, T.ers, T.noScr, T.noScrs, T.shs, mkL, mkT, T.isSh, T.argOk, T.toArg, T.solid, T.isL, T.parts, putAll, T.tru, T.ty, tyD, En.put, En.clr, En.share, egName, egTup, egCons, egNil, Option.map_some, Option.map_none, Option.bind_some, Option.bind, List.all_cons, List.all_nil, List.map_cons, List.map_nil, List.length_cons, List.length_nil, Bool.and_true, Bool.true_and, Bool.and_self, Bool.not_true, Bool.not_false, if_true, cond_true, cond_false, Bool.false_eq_true, if_false, true_and, and_true, Rs.P_ok, Bool.and_false, Bool.false_and, Bool.false_or, Bool.or_false, Bool.true_or, Bool.or_true, Nat.reduceAdd, Nat.reduceLeDiff, Nat.reduceEqDiff, reduceCtorEq, x_add, x_iadd, x_sub, x_lt, x_le, x_gt, x_ge, x_eq, x_ne, x_eqB, x_neB, x_eqS, x_neS, x_max2, x_min2, x_int1, x_intB, x_lenL, x_lenT, x_lenO, x_lenS, x_sumL, x_sumO, x_sortL, x_sortO, x_listL, x_listT, x_listO, x_isN, x_isNn, x_isNi, x_isNl, x_isNt, x_isNb, x_notN, x_ixL, x_ixT, x_ixO, x_ixS, x_ix0, x_ix1, x_ix2, x_sl, x_slO, x_slT, x_inL, x_inO, x_ninL, x_ninO]
        exact ⟨some d, rfl, h1, hp, h3⟩
      · refine p_nil (p_seq (p_share (p_share (p_ifB (k := open1 cl vs d) ?_ (fun ho => ?_) fun ho => ?_))))
        · simp only [evVar, En.get, evC, evBin, evSh, evEsc, evB, evEB, evChain, evAnd, evOr, evNot, evAndV, evOrV, evNotV, evIf, evCons, evNil, evLst, evTup, evCall, callF, evSl, eoN, eoS, evUn, evC1, evIsi, evTru, erg1, erg2, evLRg, evTRg, eiSeq, eiEnum, eiZip, x_bind, x_rs, x_asB, x_asI, x_bifB, x_bifO, x_andB, x_orB, x_bifI, List.length_map, en0, List.replicate, List.cons_append, List.nil_append, T.asD, T.items, T.itL, T.itT, T.er, T.ers, T.noScr, T.noScrs, T.shs, mkL, mkT, T.isSh, T.argOk, T.toArg, T.solid, T.isL, T.parts, putAll, T.tru, T.ty, tyD, En.put, En.clr, En.share, egName, egTup, egCons, egNil, Option.map_some, Option.map_none, Option.bind_some, Option.bind, List.all_cons, List.all_nil, List.map_cons, List.map_nil, List.length_cons, List.length_nil, Bool.and_true, Bool.true_and, Bool.and_self, Bool.not_true, Bool.not_false, if_true, cond_true, cond_false, Bool.false_eq_true, if_false, true_and, and_true, Rs.P_ok, Bool.and_false, Bool.false_and, Bool.false_or, Bool.or_false, Bool.true_or, Bool.or_true, Nat.reduceAdd, Nat.reduceLeDiff, Nat.reduceEqDiff, reduceCtorEq, x_add, x_iadd, x_sub, x_lt, x_le, x_gt, x_ge, x_eq, x_ne, x_eqB, x_neB, x_eqS, x_neS, x_max2, x_min2, x_int1, x_intB, x_lenL, x_lenT, x_lenO, x_lenS, x_sumL, x_sumO, x_sortL, x_sortO, x_listL, x_listT, x_listO, x_isN, x_isNn, x_isNi, x_isNl, x_isNt, x_isNb, x_notN, x_ixL, x_ixT, x_ixO, x_ixS, x_ix0, x_ix1, x_ix2, x_sl, x_slO, x_slT, x_inL, x_inO, x_ninL, x_ninO]
          rw [w_away]
          simp only [evVar, En.get, evC, evBin, evSh, evEsc, evB, evEB, evChain, evAnd, evOr, evNot, evAndV, evOrV, evNotV, evIf, evCons, evNil, evLst, evTup, evCall, callF, evSl, eoN, eoS, evUn, evC1, evIsi, evTru, erg1, erg2, evLRg, evTRg, eiSeq, eiEnum, eiZip, x_bind, x_rs, x_asB, x_asI, x_bifB, x_bifO, x_andB, x_orB, x_bifI, List.length_map, en0, List.replicate, List.cons_append, List.nil_append, T.asD, T.items, T.itL, T.itT, T.er, T.ers, T.noScr, T.noScrs, T.shs, mkL, mkT, T.isSh, T.argOk, T.toArg, T.solid, T.isL, T.parts, putAll, T.tru, T.ty, tyD, En.put, En.clr, En.share, egName, egTup, egCons, egNil, Option.map_some, Option.map_none, Option.bind_some, Option.bind, List.all_cons, List.all_nil, List.map_cons, List.map_nil, List.length_cons, List.length_nil, Bool.and_true, Bool.true_and, Bool.and_self, Bool.not_true, Bool.not_false, if_true, cond_true, cond_false, Bool.false_eq_true, if_false, true_and, and_true, Rs.P_ok, Bool.and_false, Bool.false_and, Bool.false_or, Bool.or_false, Bool.true_or, Bool.or_true, Nat.reduceAdd, Nat.reduceLeDiff, Nat.reduceEqDiff, reduceCtorEq, x_add, x_iadd, x_sub, x_lt, x_le, x_gt, x_ge, x_eq, x_ne, x_eqB, x_neB, x_eqS, x_neS, x_max2, x_min2, x_int1, x_intB, x_lenL, x_lenT, x_lenO, x_lenS, x_sumL, x_sumO, x_sortL, x_sortO, x_listL, x_listT, x_listO, x_isN, x_isNn, x_isNi, x_isNl, x_isNt, x_isNb, x_notN, x_ixL, x_ixT, x_ixO, x_ixS, x_ix0, x_ix1, x_ix2, x_sl, x_slO, x_slT, x_inL, x_inO, x_ninL, x_ninO, open1]
        · refine p_set ?_
          simp only [evVar, En.get, evC, evBin, evSh, evEsc, evB, evEB, evChain, evAnd, evOr, evNot, evAndV, evOrV, evNotV, evIf, evCons, evNil, evLst, evTup, evCall, callF, evSl, eoN, eoS, evUn, evC1, evIsi, evTru, erg1, erg2, evLRg, evTRg, eiSeq, eiEnum, eiZip, x_bind, x_rs, x_asB, x_asI, x_bifB, x_bifO, x_andB, x_orB, x_bifI, List.length_map, en0, List.replicate, List.cons_append, List.nil_append, T.asD, T.items, T.itL, T.itT, T.er, T.ers, T.noScr, T.noScrs, T.shs, mkL, mkT, T.isSh, T.argOk, T.toArg, T.solid, T.isL, T.parts, putAll, T.tru, T.ty, tyD, En.put, En.clr, En.share, egName, egTup, egCons, egNil, Option.map_some, Option.map_none, Option.bind_some, Option.bind, List.all_cons, List.all_nil, List.map_cons, List.map_nil, List.length_cons, List.length_nil, Bool.and_true, Bool.true_and, Bool.and_self, Bool.not_true, Bool.not_false, if_true, cond_true, cond_false, Bool.false_eq_true, if_false, true_and, and_true, Rs.P_ok, Bool.and_false, Bool.false_and, Bool.false_or, Bool.or_false, Bool.true_or, Bool.or_true, Nat.reduceAdd, Nat.reduceLeDiff, Nat.reduceEqDiff, reduceCtorEq, x_add, x_iadd, x_sub, x_lt, x_le, x_gt, x_ge, x_eq, x_ne, x_eqB, x_neB, x_eqS, x_neS, x_max2, x_min2, x_int1, x_intB, x_lenL, x_lenT, x_lenO, x_lenS, x_sumL, x_sumO, x_sortL, x_sortO, x_listL, x_listT, x_listO, x_isN, x_isNn, x_isNi, x_isNl, x_isNt, x_isNb, x_notN, x_ixL, x_ixT, x_ixO, x_ixS, x_ix0, x_ix1, x_ix2, x_sl, x_slO, x_slT, x_inL, x_inO, x_ninL, x_ninO]
          refine p_set ?_
          simp only [evVar, En.get, evC, evBin, evSh, evEsc, evB, evEB, evChain, evAnd, evOr, evNot, evAndV, evOrV, evNotV, evIf, evCons, evNil, evLst, evTup, evCall, callF, evSl, eoN, eoS, evUn, evC1, evIsi, evTru, erg1, erg2, evLRg, evTRg, eiSeq, eiEnum, eiZip, x_bind, x_rs, x_asB, x_asI, x_bifB, x_bifO, x_andB, x_orB, x_bifI, List.length_map, en0, List.replicate, List.cons_append, List.nil_append, T.asD, T.items, T.itL, T.itT, T.er, T.ers, T.noScr, T.noScrs, T.shs, mkL, mkT, T.isSh, T.argOk, T.toArg, T.solid, T.isL, T.parts, putAll, T.tru, T.ty, tyD, En.put, En.clr, En.share, egName, egTup, egCons, egNil, Option.map_some, Option.map_none, Option.bind_some, Option.bind, List.all_cons, List.all_nil, List.map_cons, List.map_nil, List.length_cons, List.length_nil, Bool.and_true, Bool.true_and, Bool.and_self, Bool.not_true, Bool.not_false, if_true, cond_true, cond_false, Bool.false_eq_true, if_false, true_and, and_true, Rs.P_ok, Bool.and_false, Bool.false_and, Bool.false_or, Bool.or_false, Bool.true_or, Bool.or_true, Nat.reduceAdd, Nat.reduceLeDiff, Nat.reduceEqDiff, reduceCtorEq, x_add, x_iadd, x_sub, x_lt, x_le, x_gt, x_ge, x_eq, x_ne, x_eqB, x_neB, x_eqS, x_neS, x_max2, x_min2, x_int1, x_intB, x_lenL, x_lenT, x_lenO, x_lenS, x_sumL, x_sumO, x_sortL, x_sortO, x_listL, x_listT, x_listO, x_isN, x_isNn, x_isNi, x_isNl, x_isNt, x_isNb, x_notN, x_ixL, x_ixT, x_ixO, x_ixS, x_ix0, x_ix1, x_ix2, x_sl, x_slO, x_slT, x_inL, x_inO, x_ninL, x_ninO]
          refine ⟨d + 1, _, by rw [cnt_step h1, if_pos ho], by omega, by omega, fun d' e1 e2 => ?_⟩
          by_cases hd' : d' = d
          · subst hd'; omega
          · exact h3 d' e1 (by omega)
        · refine p_nil (p_set ?_)
          simp only [evVar, En.get, evC, evBin, evSh, evEsc, evB, evEB, evChain, evAnd, evOr, evNot, evAndV, evOrV, evNotV, evIf, evCons, evNil, evLst, evTup, evCall, callF, evSl, eoN, eoS, evUn, evC1, evIsi, evTru, erg1, erg2, evLRg, evTRg, eiSeq, eiEnum, eiZip, x_bind, x_rs, x_asB, x_asI, x_bifB, x_bifO, x_andB, x_orB, x_bifI, List.length_map, en0, List.replicate, List.cons_append, List.nil_append, T.asD, T.items, T.itL, T.itT, T.er, T.ers, T.noScr, T.noScrs, T.shs, mkL, mkT, T.isSh, T.argOk, T.toArg, T.solid, T.isL, T.parts, putAll, T.tru, T.ty, tyD, En.put, En.clr, En.share, egName, egTup, egCons, egNil, Option.map_some, Option.map_none, Option.bind_some, Option.bind, List.all_cons, List.all_nil, List.map_cons, List.map_nil, List.length_cons, List.length_nil, Bool.and_true, Bool.true_and, Bool.and_self, Bool.not_true, Bool.not_false, if_true, cond_true, cond_false, Bool.false_eq_true, if_false, true_and, and_true, Rs.P_ok, Bool.and_false, Bool.false_and, Bool.false_or, Bool.or_false, Bool.true_or, Bool.or_true, Nat.reduceAdd, Nat.reduceLeDiff, Nat.reduceEqDiff, reduceCtorEq, x_add, x_iadd, x_sub, x_lt, x_le, x_gt, x_ge, x_eq, x_ne, x_eqB, x_neB, x_eqS, x_neS, x_max2, x_min2, x_int1, x_intB, x_lenL, x_lenT, x_lenO, x_lenS, x_sumL, x_sumO, x_sortL, x_sortO, x_listL, x_listT, x_listO, x_isN, x_isNn, x_isNi, x_isNl, x_isNt, x_isNb, x_notN, x_ixL, x_ixT, x_ixO, x_ixS, x_ix0, x_ix1, x_ix2, x_sl, x_slO, x_slT, x_inL, x_inO, x_ninL, x_ninO]
          refine ⟨d + 1, _, by rw [cnt_step h1, if_neg (by rw [ho]; decide), Int.add_zero], by omega, by omega, fun d' e1 e2 => ?_⟩
          by_cases hd' : d' = d
          · subst hd'; omega
          · exact h3 d' e1 (by omega)
    · rintro ρ ⟨d, o9, rfl, h1, h2, h3⟩
      refine p_ret ?_
      simp only [evVar, En.get, evC, evBin, evSh, evEsc, evB, evEB, evChain, evAnd, evOr, evNot, evAndV, evOrV, evNotV, evIf, evCons, evNil, evLst, evTup, evCall, callF, evSl, eoN, eoS, evUn, evC1, evIsi, evTru, erg1, erg2, evLRg, evTRg, eiSeq, eiEnum, eiZip, x_bind, x_rs, x_asB, x_asI, x_bifB, x_bifO, x_andB, x_orB, x_bifI, List.length_map, en0, List.replicate, List.cons_append, List.nil_append, T.asD, T.items, T.itL, T.itT, T.er, T.ers, T.noScr, T.noScrs, T.shs, mkL, mkT, T.isSh, T.argOk, T.toArg, T.solid, T.isL, T.parts, putAll, T.tru, T.ty, tyD, En.put, En.clr, En.share, egName, egTup, egCons, egNil, Option.map_some, Option.map_none, Option.bind_some, Option.bind, List.all_cons, List.all_nil, List.map_cons, List.map_nil, List.length_cons, List.length_nil, Bool.and_true, Bool.true_and, Bool.and_self, Bool.not_true, Bool.not_false, if_true, cond_true, cond_false, Bool.false_eq_true, if_false, true_and, and_true, Rs.P_ok, Bool.and_false, Bool.false_and, Bool.false_or, Bool.or_false, Bool.true_or, Bool.or_true, Nat.reduceAdd, Nat.reduceLeDiff, Nat.reduceEqDiff, reduceCtorEq, x_add, x_iadd, x_sub, x_lt, x_le, x_gt, x_ge, x_eq, x_ne, x_eqB, x_neB, x_eqS, x_neS, x_max2, x_min2, x_int1, x_intB, x_lenL, x_lenT, x_lenO, x_lenS, x_sumL, x_sumO, x_sortL, x_sortO, x_listL, x_listT, x_listO, x_isN, x_isNn, x_isNi, x_isNl, x_isNt, x_isNb, x_notN, x_ixL, x_ixT, x_ixO, x_ixS, x_ix0, x_ix1, x_ix2, x_sl, x_slO, x_slT, x_inL, x_inO, x_ninL, x_ninO]
      simp only [List.length_nil] at h2
      exact ⟨none, rfl, fun d' e1 e2 => h3 d' e1 (by omega)⟩
end G
set_option Elab.async false
set_option linter.all false
set_option maxRecDepth 100000
namespace G
open PL PySem
/-! prices: day by day is step by step -/
def Srt (t : Tf) : Prop := t.Pairwise fun p q => p.1 < q.1
theorem cents_none : ∀ (r : Tf) (a x : Int), (∀ p ∈ r, x < p.1) → centsF a r x = a
  | [], a, x, _ => rfl
  | p :: r, a, x, h => by
    have h1 := h p List.mem_cons_self
    unfold centsF
    rw [List.foldl_cons, if_neg (by omega)]
    exact cents_none r a x fun q hq => h q (List.mem_cons_of_mem _ hq)
theorem long_step : ∀ (t : Tf) (x : Int), Srt t → longC t (x + 1) = longC t x + centsF 0 t (x + 1)
  | [], x, _ => by simp [longC, centsF]
  | [(n, c)], x, _ => by
    have e1 : longC [(n, c)] (x + 1) = (if n < x + 1 + 1 then (x + 1 + 1 - n) * c else 0) + 0 := rfl
    have e2 : longC [(n, c)] x = (if n < x + 1 then (x + 1 - n) * c else 0) + 0 := rfl
    have e3 : centsF 0 [(n, c)] (x + 1) = if n ≤ x + 1 then c else 0 := rfl
    rw [e1, e2, e3]
    by_cases h : n ≤ x + 1
    · rw [if_pos (by omega), if_pos h]
      by_cases h2 : n < x + 1
      · rw [if_pos h2, show x + 1 + 1 - n = (x + 1 - n) + 1 by omega, Int.add_mul]; omega
      · rw [if_neg h2, show x + 1 + 1 - n = 1 by omega]; omega
    · rw [if_neg (by omega), if_neg h, if_neg (by omega)]; omega
  | (n, c) :: (m, c2) :: r, x, h => by
    have hs := List.pairwise_cons.mp h
    have hnm : n < m := hs.1 (m, c2) List.mem_cons_self
    have ih := long_step ((m, c2) :: r) x hs.2
    have e1 : longC ((n, c) :: (m, c2) :: r) (x + 1) = (if n < min (x + 1 + 1) m then (min (x + 1 + 1) m - n) * c else 0) + longC ((m, c2) :: r) (x + 1) := rfl
    have e2 : longC ((n, c) :: (m, c2) :: r) x = (if n < min (x + 1) m then (min (x + 1) m - n) * c else 0) + longC ((m, c2) :: r) x := rfl
    rw [e1, e2, ih]
    by_cases hm : m ≤ x + 1
    · have e3 : centsF 0 ((n, c) :: (m, c2) :: r) (x + 1) = centsF 0 ((m, c2) :: r) (x + 1) := by
        simp only [centsF, List.foldl_cons, hm, if_true]
      rw [e3, show min (x + 1 + 1) m = m by omega, show min (x + 1) m = m by omega]; omega
    · have e4 : centsF 0 ((m, c2) :: r) (x + 1) = 0 := cents_none _ _ _ fun p hp => by
        rcases List.mem_cons.mp hp with rfl | hp
        · omega
        · have := (List.pairwise_cons.mp hs.2).1 p hp; simp only at this; omega
      have e5 : centsF 0 ((n, c) :: (m, c2) :: r) (x + 1) = if n ≤ x + 1 then c else 0 := by
        have : centsF 0 ((n, c) :: (m, c2) :: r) (x + 1) = centsF (if n ≤ x + 1 then c else 0) ((m, c2) :: r) (x + 1) := rfl
        rw [this]
        exact cents_none _ _ _ fun p hp => by
          rcases List.mem_cons.mp hp with rfl | hp
          · omega
          · have := (List.pairwise_cons.mp hs.2).1 p hp; simp only at this; omega
      rw [e4, e5, show min (x + 1 + 1) m = x + 1 + 1 by omega, show min (x + 1) m = x + 1 by omega]
      by_cases h1 : n ≤ x + 1
      · rw [if_pos (by omega), if_pos h1]
        by_cases h2 : n < x + 1
        · rw [if_pos h2, show x + 1 + 1 - n = (x + 1 - n) + 1 by omega, Int.add_mul]; omega
        · rw [if_neg h2, show x + 1 + 1 - n = 1 by omega]; omega
      · rw [if_neg (by omega), if_neg h1, if_neg (by omega)]; omega
theorem long_zero : ∀ (t : Tf) (x : Int), (∀ p ∈ t, x < p.1) → longC t x = 0
  | [], x, _ => rfl
  | (n, c) :: r, x, h => by
    have h1 := h (n, c) List.mem_cons_self
    have e : stopL r x ≤ x + 1 := by cases r with
      | nil => exact Int.le_refl _
      | cons q r => simp only [stopL]; omega
    simp only [longC, long_zero r x fun q hq => h q (List.mem_cons_of_mem _ hq)]
    rw [if_neg (by simp only at h1; omega)]; rfl
theorem price_eq (t : Tf) (hs : Srt t) (h1 : ∀ p ∈ t, 1 ≤ p.1) (count : Int) (h0 : 0 ≤ count) : priceL t count = priceC t count := by
  obtain ⟨n, rfl⟩ := Int.eq_ofNat_of_zero_le h0
  rw [← long_price]
  induction n with
  | zero =>
    rw [long_zero t _ fun p hp => by have := h1 p hp; simp only [Int.natCast_zero]; omega]
    unfold priceL
    rw [rngI_nil (by decide)]; rfl
  | succ n ih =>
    rw [show ((n + 1 : Nat) : Int) = (n : Int) + 1 by omega, long_step t _ hs, ← ih (by omega)]
    unfold priceL
    rw [rngI_snoc (show (1 : Int) ≤ (n : Int) + 1 by omega), List.map_append, List.sum_append]
    simp
/-! open days -/
theorem filter_step (cl : List Int) (a b : Int) (hn : cl.Nodup) (h : a ≤ b) : (cl.filter fun d => decide (a ≤ d) && decide (d < b + 1)).length = (cl.filter fun d => decide (a ≤ d) && decide (d < b)).length + (if b ∈ cl then 1 else 0) := by
  induction cl with
  | nil => simp
  | cons c cl ih =>
    obtain ⟨hc, hn⟩ := List.nodup_cons.mp hn
    have ih := ih hn
    by_cases e : c = b
    · subst e
      rw [List.filter_cons_of_pos (by simp; omega), List.filter_cons_of_neg (by simp), List.length_cons, ih, if_neg hc, if_pos List.mem_cons_self]
    · have e2 : (if b ∈ c :: cl then 1 else 0) = (if b ∈ cl then 1 else 0) := by
        by_cases hb : b ∈ cl
        · rw [if_pos hb, if_pos (List.mem_cons_of_mem _ hb)]
        · rw [if_neg hb, if_neg fun z => by
            rcases List.mem_cons.mp z with z | z
            · exact e z.symm
            · exact hb z]
      rw [e2]
      by_cases h1 : a ≤ c ∧ c < b
      · rw [List.filter_cons_of_pos (by simp; omega), List.filter_cons_of_pos (by simp; omega), List.length_cons, List.length_cons, ih]; omega
      · rw [List.filter_cons_of_neg (by simp; omega), List.filter_cons_of_neg (by simp; omega), ih]
theorem open_step (cl : List Int) (a b : Int) (hn : cl.Nodup) (h : a ≤ b) : openC cl a (b + 1) = openC cl a b + (if b ∈ cl then 0 else 1) := by
  have hf := filter_step cl a b hn h
  have ho : openC cl a (b + 1) = b + 1 - a - ((cl.filter fun d => decide (a ≤ d) && decide (d < b + 1)).length : Nat) := if_neg (by omega)
  have hs : ((if b ∈ cl then 1 else 0 : Nat) : Int) = 1 - (if b ∈ cl then 0 else 1) := by by_cases hb : b ∈ cl <;> simp [hb]
  rw [ho, hf]
  by_cases h2 : b ≤ a
  · obtain rfl : a = b := by omega
    have e : (cl.filter fun d => decide (a ≤ d) && decide (d < a)) = [] := by
      refine List.filter_eq_nil_iff.mpr fun d _ => ?_
      simp
    have ho2 : openC cl a a = 0 := if_pos (by omega)
    rw [e, ho2, List.length_nil, Nat.zero_add, hs]
    omega
  · have ho2 : openC cl a b = b - a - ((cl.filter fun d => decide (a ≤ d) && decide (d < b)).length : Nat) := if_neg h2
    rw [ho2, Int.natCast_add, hs]
    omega
theorem open_none (cl : List Int) (a b : Int) (h : b ≤ a) : openC cl a b = 0 := if_pos h
/-! visits one behind another -/
def Chain : Int → List V → Prop
  | _, [] => True
  | b, (br, bk) :: vs => b ≤ br ∧ (match bk with
    | none => vs = []
    | some x => br ≤ x ∧ Chain x vs)
theorem chain_le : ∀ {b : Int} {vs : List V}, Chain b vs → ∀ v ∈ vs, b ≤ v.1
  | b, [], _, v, h => by cases h
  | b, (br, none) :: vs, ⟨h1, h2⟩, v, h => by
    have h2 : vs = [] := h2
    subst h2
    obtain rfl : v = _ := List.mem_singleton.mp h
    exact h1
  | b, (br, some x) :: vs, ⟨h1, h2, h3⟩, v, h => by
    rcases List.mem_cons.mp h with rfl | h
    · exact h1
    · have := chain_le h3 v h; omega
theorem away_one (cl : List Int) (v : V) (begin d : Int) (hn : cl.Nodup) (hb : begin ≤ v.1) : awayC cl v begin (d + 1) = awayC cl v begin d + (if inV v d = true ∧ d ∉ cl then 1 else 0) := by
  obtain ⟨br, bk⟩ := v
  have hb : begin ≤ br := hb
  unfold awayC
  rw [show max begin br = br by omega]
  have step : ∀ (b : Int), openC cl br (b + 1) = openC cl br b + (if br ≤ b ∧ b ∉ cl then 1 else 0) := fun b => by
    by_cases h : br ≤ b
    · rw [open_step cl br b hn h]
      by_cases hc : b ∈ cl <;> simp [hc, h]
    · rw [open_none cl br (b + 1) (by omega), open_none cl br b (by omega), if_neg (by intro z; exact h z.1)]; rfl
  cases bk with
  | none =>
    show openC cl br (d + 1) = openC cl br d + _
    rw [step]
    by_cases h : br ≤ d <;> simp [inV, h]
  | some x =>
    show openC cl br (min (d + 1) x) = openC cl br (min d x) + _
    by_cases hx : d < x
    · rw [show min (d + 1) x = d + 1 by omega, show min d x = d by omega, step]
      by_cases h : br ≤ d <;> simp [inV, h, hx]
    · rw [show min (d + 1) x = x by omega, show min d x = x by omega, if_neg (by simp [inV, hx])]; omega
theorem away_sum (cl : List Int) (begin d : Int) (hn : cl.Nodup) : ∀ {b : Int} {vs : List V}, begin ≤ b → Chain b vs → (vs.map fun v => awayC cl v begin (d + 1)).sum = (vs.map fun v => awayC cl v begin d).sum + (if awayB vs d = true ∧ d ∉ cl then 1 else 0)
  | b, [], _, _ => by simp [awayB]
  | b, (br, bk) :: vs, hb, hc => by
    have h1 : b ≤ br := hc.1
    have a1 := away_one cl (br, bk) begin d hn (by show begin ≤ br; omega)
    rw [List.map_cons, List.map_cons, List.sum_cons, List.sum_cons, a1]
    have e : awayB ((br, bk) :: vs) d = (inV (br, bk) d || awayB vs d) := rfl
    rw [e]
    cases bk with
    | none =>
      have h2 : vs = [] := hc.2
      subst h2
      simp [awayB]
    | some x =>
      obtain ⟨h2, h3⟩ : br ≤ x ∧ Chain x vs := hc.2
      have ih := away_sum cl begin d hn (b := x) (by omega) h3
      rw [ih]
      by_cases hi : inV (br, some x) d = true
      · have hx : d < x := by simp [inV] at hi; exact hi.2
        have hno : awayB vs d = false := by
          unfold awayB
          rw [List.any_eq_false]
          intro v hv
          have := chain_le h3 v hv
          simp [inV]; omega
        rw [hi, hno]
        simp only [Bool.or_false, Bool.false_eq_true, false_and, if_false, true_and]
        omega
      · have hi : inV (br, some x) d = false := by simpa using hi
        rw [hi]
        simp only [Bool.false_or, Bool.false_eq_true, false_and, if_false]
        omega
theorem counted_eq (cl : List Int) (begin : Int) (vs : List V) (hn : cl.Nodup) (hc : Chain begin vs) (d : Int) (hd : begin ≤ d) : countedC cl begin vs d = cnt cl begin vs d := by
  obtain ⟨n, hn'⟩ := Int.eq_ofNat_of_zero_le (show 0 ≤ d - begin by omega)
  obtain rfl : d = begin + (n : Int) := by omega
  clear hn' hd
  induction n with
  | zero =>
    rw [show begin + ((0 : Nat) : Int) = begin by simp, cnt_begin]
    unfold countedC
    rw [open_none _ _ _ (Int.le_refl _)]
    have : ∀ v ∈ vs, awayC cl v begin begin = 0 := fun v hv => by
      have hle := chain_le hc v hv
      unfold awayC
      refine open_none _ _ _ ?_
      unfold stopC
      split <;> omega
    have e : (vs.map fun v => awayC cl v begin begin) = vs.map fun _ => 0 := List.map_congr_left this
    rw [e]
    have z : ∀ l : List V, (l.map fun _ => (0 : Int)).sum = 0 := fun l => by induction l with
      | nil => rfl
      | cons a l ih => rw [List.map_cons, List.sum_cons, ih]; rfl
    rw [z]; rfl
  | succ n ih =>
    rw [show begin + ((n + 1 : Nat) : Int) = begin + (n : Int) + 1 by omega, cnt_step (by omega), ← ih]
    unfold countedC
    rw [open_step cl begin _ hn (by omega), away_sum cl begin _ hn (Int.le_refl _) hc]
    unfold open1
    by_cases h1 : begin + (n : Int) ∈ cl
    · simp [h1]
    · by_cases h2 : awayB vs (begin + (n : Int)) = true
      · simp [h1, h2]; omega
      · have h2 : awayB vs (begin + (n : Int)) = false := by simpa using h2
        simp [h1, h2]; omega
theorem cnt_mono (cl : List Int) (begin : Int) (vs : List V) {d e : Int} (hd : begin ≤ d) (he : d ≤ e) : cnt cl begin vs d ≤ cnt cl begin vs e := by
  obtain ⟨n, hn⟩ := Int.eq_ofNat_of_zero_le (show 0 ≤ e - d by omega)
  obtain rfl : e = d + (n : Int) := by omega
  clear hn he
  induction n with
  | zero => simp
  | succ n ih =>
    rw [show d + ((n + 1 : Nat) : Int) = d + (n : Int) + 1 by omega, cnt_step (by omega)]
    split <;> omega
end G
set_option Elab.async false
set_option linter.all false
set_option maxRecDepth 100000
namespace G
open PL PySem
/-! the tariff that the law makes -/
theorem sorted_at {ns : List Int} (hs : ns.Pairwise (· ≤ ·)) (hn : ns.Nodup) : ((rngI 0 (ns.length : Int)).map fun k => at_ ns k) = ns := by
  apply List.ext_getElem?
  intro i
  unfold rngI
  rw [List.map_map, List.getElem?_map]
  by_cases h : i < ns.length
  · rw [List.getElem?_range (by omega)]
    simp only [Option.map_some, Function.comp, at_, List.getD_eq_getElem?_getD]
    rw [show ((0 : Int) + (i : Int)).toNat = i by omega, List.getElem?_eq_getElem h]; rfl
  · rw [List.getElem?_eq_none (by simp; omega), List.getElem?_eq_none (by omega)]; rfl
theorem w_tariff (dr : List Int) (hl : 19 ≤ dr.length) (hb : Below 50400 dr) :
    ∃ t : Tf, d__law_tariff [.sh (L dr), .sh (I 0)] = .ok (.ol (t.map pD)) ∧ t ≠ [] ∧ t.length ≤ 8 ∧ Srt t ∧ (∀ p ∈ t, 1 ≤ p.1 ∧ p.1 ≤ 9999) ∧ Cents t := by
  suffices hs : (d__law_tariff [.sh (L dr), .sh (I 0)]).P fun x => ∃ t : Tf, x = .ol (t.map pD) ∧ t ≠ [] ∧ t.length ≤ 8 ∧ Srt t ∧ (∀ p ∈ t, 1 ≤ p.1 ∧ p.1 ≤ 9999) ∧ Cents t by
    obtain ⟨x, e, t, rfl, q⟩ := hs.ex
    exact ⟨t, e, q⟩
  have hv := hb.at (by decide)
  have m1 : ∀ i, 0 ≤ i → i < 3 → 5 ≤ at_ [5, 30, 9998] i ∧ at_ [5, 30, 9998] i ≤ 9998 := fun i h0 h1 => by
    have := at_mem (ns := [5, 30, 9998]) h0 (by simpa using h1)
    simp at this; omega
  have m2 : ∀ i, 0 ≤ i → i < 3 → 3 ≤ at_ [3, 50, 10000] i ∧ at_ [3, 50, 10000] i ≤ 10000 := fun i h0 h1 => by
    have := at_mem (ns := [3, 50, 10000]) h0 (by simpa using h1)
    simp at this; omega
  refine p_fn rfl ?_
  refine p_seq (p_set ?_)
  simp only [evVar, En.get, evC, evBin, evSh, evEsc, evB, evEB, evChain, evAnd, evOr, evNot, evAndV, evOrV, evNotV, evIf, evCons, evNil, evLst, evTup, evCall, callF, evSl, eoN, eoS, evUn, evC1, evIsi, evTru, erg1, erg2, evLRg, evTRg, eiSeq, eiEnum, eiZip, x_bind, x_rs, x_asB, x_asI, x_bifB, x_bifO, x_andB, x_orB, x_bifI, List.length_map, en0, List.replicate, List.cons_append, List.nil_append, T.asD, T.items, T.itL, T.itT, T.er, T.ers, T.noScr, T.noScrs, T.shs, mkL, mkT, T.isSh, T.argOk, T.toArg, T.solid, T.isL, T.parts, putAll, T.tru, T.ty, tyD, En.put, En.clr, En.share, egName, egTup, egCons, egNil, Option.map_some, Option.map_none, Option.bind_some, Option.bind, List.all_cons, List.all_nil, List.map_cons, List.map_nil, List.length_cons, List.length_nil, Bool.and_true, Bool.true_and, Bool.and_self, Bool.not_true, Bool.not_false, if_true, cond_true, cond_false, Bool.false_eq_true, if_false, true_and, and_true, Rs.P_ok, Bool.and_false, Bool.false_and, Bool.false_or, Bool.or_false, Bool.true_or, Bool.or_true, Nat.reduceAdd, Nat.reduceLeDiff, Nat.reduceEqDiff, reduceCtorEq, x_add, x_iadd, x_sub, x_lt, x_le, x_gt, x_ge, x_eq, x_ne, x_eqB, x_neB, x_eqS, x_neS, x_max2, x_min2, x_int1, x_intB, x_lenL, x_lenT, x_lenO, x_lenS, x_sumL, x_sumO, x_sortL, x_sortO, x_listL, x_listT, x_listO, x_isN, x_isNn, x_isNi, x_isNl, x_isNt, x_isNb, x_notN, x_ixL, x_ixT, x_ixO, x_ixS, x_ix0, x_ix1, x_ix2, x_sl, x_slO, x_slT, x_inL, x_inO, x_ninL, x_ninO]
  have v0 := hv 0
  have v9 := hv 9
  have v18 := hv 18
  have q1 := m1 (at_ dr 9 % 3) (by omega) (by omega)
  have q2 := m2 (at_ dr 18 % 3) (by omega) (by omega)
  refine p_seq (p_forM (l := rngI 0 (at_ dr 0 % 8)) (x_rng1 (by simp (disch := omega) only [evVar, En.get, evC, evBin, evSh, evEsc, evB, evEB, evChain, evAnd, evOr, evNot, evAndV, evOrV, evNotV, evIf, evCons, evNil, evLst, evTup, evCall, callF, evSl, eoN, eoS, evUn, evC1, evIsi, evTru, erg1, erg2, evLRg, evTRg, eiSeq, eiEnum, eiZip, x_bind, x_rs, x_asB, x_asI, x_bifB, x_bifO, x_andB, x_orB, x_bifI, List.length_map, en0, List.replicate, List.cons_append, List.nil_append, T.asD, T.items, T.itL, T.itT, T.er, T.ers, T.noScr, T.noScrs, T.shs, mkL, mkT, T.isSh, T.argOk, T.toArg, T.solid, T.isL, T.parts, putAll, T.tru, T.ty, tyD, En.put, En.clr, En.share, egName, egTup, egCons, egNil, Option.map_some, Option.map_none, Option.bind_some, Option.bind, List.all_cons, List.all_nil, List.map_cons, List.map_nil, List.length_cons, List.length_nil, Bool.and_true, Bool.true_and, Bool.and_self, Bool.not_true, Bool.not_false, if_true, cond_true, cond_false, Bool.false_eq_true, if_false, true_and, and_true, Rs.P_ok, Bool.and_false, Bool.false_and, Bool.false_or, Bool.or_false, Bool.true_or, Bool.or_true, Nat.reduceAdd, Nat.reduceLeDiff, Nat.reduceEqDiff, reduceCtorEq, x_add, x_iadd, x_sub, x_lt, x_le, x_gt, x_ge, x_eq, x_ne, x_eqB, x_neB, x_eqS, x_neS, x_max2, x_min2, x_int1, x_intB, x_lenL, x_lenT, x_lenO, x_lenS, x_sumL, x_sumO, x_sortL, x_sortO, x_listL, x_listT, x_listO, x_isN, x_isNn, x_isNi, x_isNl, x_isNt, x_isNb, x_notN, x_ixL, x_ixT, x_ixO, x_ixS, x_ix0, x_ix1, x_ix2, x_sl, x_slO, x_slT, x_inL, x_inO, x_ninL, x_ninO, x_at, x_mod]) (by omega) (by omega)) (fun r ρ => ∃ (F : List Int) (o3 o4 : Option T), ρ = [some (.sh (L dr)), some (.sh (I 0)), some (.ol (F.map PyData.int)), o3, o4, none, none] ∧ F.Nodup ∧ F ≠ [] ∧ (∀ x ∈ F, 1 ≤ x ∧ x ≤ 9999) ∧ F.length + r.length ≤ 8 ∧ ∀ x ∈ r, 0 ≤ x ∧ x < 7) ?_ ?_ ?_)
  · refine ⟨[1], none, none, rfl, by simp, by simp, fun x hx => ?_, by rw [rngI_len]; simp only [List.length_cons, List.length_nil]; omega, fun x hx => by have := rngI_mem.mp hx; omega⟩
    obtain rfl : x = _ := List.mem_singleton.mp hx
    omega
  · rintro k r ρ ⟨F, o3, o4, rfl, hn, hne, hF, hlen, hk⟩
    have hk0 := hk k List.mem_cons_self
    rw [List.length_cons] at hlen
    have vk := hv (0 + 1 + k)
    refine ⟨_, rfl, ?_⟩
    refine p_seq (p_set ?_)
    simp (disch := omega) only [evVar, En.get, evC, evBin, evSh, evEsc, evB, evEB, evChain, evAnd, evOr, evNot, evAndV, evOrV, evNotV, evIf, evCons, evNil, evLst, evTup, evCall, callF, evSl, eoN, eoS, evUn, evC1, evIsi, evTru, erg1, erg2, evLRg, evTRg, eiSeq, eiEnum, eiZip, x_bind, x_rs, x_asB, x_asI, x_bifB, x_bifO, x_andB, x_orB, x_bifI, List.length_map, en0, List.replicate, List.cons_append, List.nil_append, T.asD, T.items, T.itL, T.itT, T.er, T.ers, T.noScr, T.noScrs, T.shs, mkL, mkT, T.isSh, T.argOk, T.toArg, T.solid, T.isL, T.parts, putAll, T.tru, T.ty, tyD, En.put, En.clr, En.share, egName, egTup, egCons, egNil, Option.map_some, Option.map_none, Option.bind_some, Option.bind, List.all_cons, List.all_nil, List.map_cons, List.map_nil, List.length_cons, List.length_nil, Bool.and_true, Bool.true_and, Bool.and_self, Bool.not_true, Bool.not_false, if_true, cond_true, cond_false, Bool.false_eq_true, if_false, true_and, and_true, Rs.P_ok, Bool.and_false, Bool.false_and, Bool.false_or, Bool.or_false, Bool.true_or, Bool.or_true, Nat.reduceAdd, Nat.reduceLeDiff, Nat.reduceEqDiff, reduceCtorEq, x_add, x_iadd, x_sub, x_lt, x_le, x_gt, x_ge, x_eq, x_ne, x_eqB, x_neB, x_eqS, x_neS, x_max2, x_min2, x_int1, x_intB, x_lenL, x_lenT, x_lenO, x_lenS, x_sumL, x_sumO, x_sortL, x_sortO, x_listL, x_listT, x_listO, x_isN, x_isNn, x_isNi, x_isNl, x_isNt, x_isNb, x_notN, x_ixL, x_ixT, x_ixO, x_ixS, x_ix0, x_ix1, x_ix2, x_sl, x_slO, x_slT, x_inL, x_inO, x_ninL, x_ninO, x_at, x_mod, x_at3, Int.zero_add, Int.reduceAdd]
    have hr1 : 0 ≤ at_ dr (1 + k) % at_ [5, 30, 9998] (at_ dr 9 % 3) := Int.emod_nonneg _ (by omega)
    have hr2 : at_ dr (1 + k) % at_ [5, 30, 9998] (at_ dr 9 % 3) < at_ [5, 30, 9998] (at_ dr 9 % 3) := Int.emod_lt_of_pos _ (by omega)
    generalize at_ dr (1 + k) % at_ [5, 30, 9998] (at_ dr 9 % 3) = y at hr1 hr2
    refine p_ifB (k := !decide (2 + y ∈ F)) ?_ (fun hp => ?_) fun hp => ?_
    · simp only [evVar, En.get, evC, evBin, evSh, evEsc, evB, evEB, evChain, evAnd, evOr, evNot, evAndV, evOrV, evNotV, evIf, evCons, evNil, evLst, evTup, evCall, callF, evSl, eoN, eoS, evUn, evC1, evIsi, evTru, erg1, erg2, evLRg, evTRg, eiSeq, eiEnum, eiZip, x_bind, x_rs, x_asB, x_asI, x_bifB, x_bifO, x_andB, x_orB, x_bifI, List.length_map, en0, List.replicate, List.cons_append, List.nil_append, T.asD, T.items, T.itL, T.itT, T.er, T.ers, T.noScr, T.noScrs, T.shs, mkL, mkT, T.isSh, T.argOk, T.toArg, T.solid, T.isL, T.parts, putAll, T.tru, T.ty, tyD, En.put, En.clr, En.share, egName, egTup, egCons, egNil, Option.map_some, Option.map_none, Option.bind_some, Option.bind, List.all_cons, List.all_nil, List.map_cons, List.map_nil, List.length_cons, List.length_nil, Bool.and_true, Bool.true_and, Bool.and_self, Bool.not_true, Bool.not_false, if_true, cond_true, cond_false, Bool.false_eq_true, if_false, true_and, and_true, Rs.P_ok, Bool.and_false, Bool.false_and, Bool.false_or, Bool.or_false, Bool.true_or, Bool.or_true, Nat.reduceAdd, Nat.reduceLeDiff, Nat.reduceEqDiff, reduceCtorEq, x_add, x_iadd, x_sub, x_lt, x_le, x_gt, x_ge, x_eq, x_ne, x_eqB, x_neB, x_eqS, x_neS, x_max2, x_min2, x_int1, x_intB, x_lenL, x_lenT, x_lenO, x_lenS, x_sumL, x_sumO, x_sortL, x_sortO, x_listL, x_listT, x_listO, x_isN, x_isNn, x_isNi, x_isNl, x_isNt, x_isNb, x_notN, x_ixL, x_ixT, x_ixO, x_ixS, x_ix0, x_ix1, x_ix2, x_sl, x_slO, x_slT, x_inL, x_inO, x_ninL, x_ninO]
    · refine p_share (p_app rfl rfl ?_)
      simp only [evVar, En.get, evC, evBin, evSh, evEsc, evB, evEB, evChain, evAnd, evOr, evNot, evAndV, evOrV, evNotV, evIf, evCons, evNil, evLst, evTup, evCall, callF, evSl, eoN, eoS, evUn, evC1, evIsi, evTru, erg1, erg2, evLRg, evTRg, eiSeq, eiEnum, eiZip, x_bind, x_rs, x_asB, x_asI, x_bifB, x_bifO, x_andB, x_orB, x_bifI, List.length_map, en0, List.replicate, List.cons_append, List.nil_append, T.asD, T.items, T.itL, T.itT, T.er, T.ers, T.noScr, T.noScrs, T.shs, mkL, mkT, T.isSh, T.argOk, T.toArg, T.solid, T.isL, T.parts, putAll, T.tru, T.ty, tyD, En.put, En.clr, En.share, egName, egTup, egCons, egNil, Option.map_some, Option.map_none, Option.bind_some, Option.bind, List.all_cons, List.all_nil, List.map_cons, List.map_nil, List.length_cons, List.length_nil, Bool.and_true, Bool.true_and, Bool.and_self, Bool.not_true, Bool.not_false, if_true, cond_true, cond_false, Bool.false_eq_true, if_false, true_and, and_true, Rs.P_ok, Bool.and_false, Bool.false_and, Bool.false_or, Bool.or_false, Bool.true_or, Bool.or_true, Nat.reduceAdd, Nat.reduceLeDiff, Nat.reduceEqDiff, reduceCtorEq, x_add, x_iadd, x_sub, x_lt, x_le, x_gt, x_ge, x_eq, x_ne, x_eqB, x_neB, x_eqS, x_neS, x_max2, x_min2, x_int1, x_intB, x_lenL, x_lenT, x_lenO, x_lenS, x_sumL, x_sumO, x_sortL, x_sortO, x_listL, x_listT, x_listO, x_isN, x_isNn, x_isNi, x_isNl, x_isNt, x_isNb, x_notN, x_ixL, x_ixT, x_ixO, x_ixS, x_ix0, x_ix1, x_ix2, x_sl, x_slO, x_slT, x_inL, x_inO, x_ninL, x_ninO]
      refine ⟨_, x_app (by rw [List.length_map]; omega), ?_⟩
      simp only [evVar, En.get, evC, evBin, evSh, evEsc, evB, evEB, evChain, evAnd, evOr, evNot, evAndV, evOrV, evNotV, evIf, evCons, evNil, evLst, evTup, evCall, callF, evSl, eoN, eoS, evUn, evC1, evIsi, evTru, erg1, erg2, evLRg, evTRg, eiSeq, eiEnum, eiZip, x_bind, x_rs, x_asB, x_asI, x_bifB, x_bifO, x_andB, x_orB, x_bifI, List.length_map, en0, List.replicate, List.cons_append, List.nil_append, T.asD, T.items, T.itL, T.itT, T.er, T.ers, T.noScr, T.noScrs, T.shs, mkL, mkT, T.isSh, T.argOk, T.toArg, T.solid, T.isL, T.parts, putAll, T.tru, T.ty, tyD, En.put, En.clr, En.share, egName, egTup, egCons, egNil, Option.map_some, Option.map_none, Option.bind_some, Option.bind, List.all_cons, List.all_nil, List.map_cons, List.map_nil, List.length_cons, List.length_nil, Bool.and_true, Bool.true_and, Bool.and_self, Bool.not_true, Bool.not_false, if_true, cond_true, cond_false, Bool.false_eq_true, if_false, true_and, and_true, Rs.P_ok, Bool.and_false, Bool.false_and, Bool.false_or, Bool.or_false, Bool.true_or, Bool.or_true, Nat.reduceAdd, Nat.reduceLeDiff, Nat.reduceEqDiff, reduceCtorEq, x_add, x_iadd, x_sub, x_lt, x_le, x_gt, x_ge, x_eq, x_ne, x_eqB, x_neB, x_eqS, x_neS, x_max2, x_min2, x_int1, x_intB, x_lenL, x_lenT, x_lenO, x_lenS, x_sumL, x_sumO, x_sortL, x_sortO, x_listL, x_listT, x_listO, x_isN, x_isNn, x_isNi, x_isNl, x_isNt, x_isNb, x_notN, x_ixL, x_ixT, x_ixO, x_ixS, x_ix0, x_ix1, x_ix2, x_sl, x_slO, x_slT, x_inL, x_inO, x_ninL, x_ninO, snocI]
      refine ⟨_, _, _, rfl, ?_, by simp, ?_, by rw [List.length_append]; simp; omega, fun x hx => hk x (List.mem_cons_of_mem _ hx)⟩
      · refine List.nodup_append.mpr ⟨hn, by simp, fun x hx z hz => ?_⟩
        obtain rfl : z = _ := List.mem_singleton.mp hz
        rintro rfl
        simp [hx] at hp
      · intro x hx
        rcases List.mem_append.mp hx with z | z
        · exact hF x z
        · obtain rfl : x = _ := List.mem_singleton.mp z
          omega
    · exact p_nil ⟨_, _, _, rfl, hn, hne, hF, by omega, fun x hx => hk x (List.mem_cons_of_mem _ hx)⟩
  · rintro ρ ⟨F, o3, o4, rfl, hn, hne, hF, hlen, _⟩
    simp only [List.length_nil] at hlen
    have hlen : F.length ≤ 8 := by omega
    refine p_seq (p_set ?_)
    simp only [evVar, En.get, evC, evBin, evSh, evEsc, evB, evEB, evChain, evAnd, evOr, evNot, evAndV, evOrV, evNotV, evIf, evCons, evNil, evLst, evTup, evCall, callF, evSl, eoN, eoS, evUn, evC1, evIsi, evTru, erg1, erg2, evLRg, evTRg, eiSeq, eiEnum, eiZip, x_bind, x_rs, x_asB, x_asI, x_bifB, x_bifO, x_andB, x_orB, x_bifI, List.length_map, en0, List.replicate, List.cons_append, List.nil_append, T.asD, T.items, T.itL, T.itT, T.er, T.ers, T.noScr, T.noScrs, T.shs, mkL, mkT, T.isSh, T.argOk, T.toArg, T.solid, T.isL, T.parts, putAll, T.tru, T.ty, tyD, En.put, En.clr, En.share, egName, egTup, egCons, egNil, Option.map_some, Option.map_none, Option.bind_some, Option.bind, List.all_cons, List.all_nil, List.map_cons, List.map_nil, List.length_cons, List.length_nil, Bool.and_true, Bool.true_and, Bool.and_self, Bool.not_true, Bool.not_false, if_true, cond_true, cond_false, Bool.false_eq_true, if_false, true_and, and_true, Rs.P_ok, Bool.and_false, Bool.false_and, Bool.false_or, Bool.or_false, Bool.true_or, Bool.or_true, Nat.reduceAdd, Nat.reduceLeDiff, Nat.reduceEqDiff, reduceCtorEq, x_add, x_iadd, x_sub, x_lt, x_le, x_gt, x_ge, x_eq, x_ne, x_eqB, x_neB, x_eqS, x_neS, x_max2, x_min2, x_int1, x_intB, x_lenL, x_lenT, x_lenO, x_lenS, x_sumL, x_sumO, x_sortL, x_sortO, x_listL, x_listT, x_listO, x_isN, x_isNn, x_isNi, x_isNl, x_isNt, x_isNb, x_notN, x_ixL, x_ixT, x_ixO, x_ixS, x_ix0, x_ix1, x_ix2, x_sl, x_slO, x_slT, x_inL, x_inO, x_ninL, x_ninO]
    rw [comp_allI (l := rngI 0 8) (f := PyData.int) (hi := fun k => at_ dr (10 + k) % at_ [3, 50, 10000] (at_ dr 18 % 3)) (x_rng1 (by simp only [evVar, En.get, evC, evBin, evSh, evEsc, evB, evEB, evChain, evAnd, evOr, evNot, evAndV, evOrV, evNotV, evIf, evCons, evNil, evLst, evTup, evCall, callF, evSl, eoN, eoS, evUn, evC1, evIsi, evTru, erg1, erg2, evLRg, evTRg, eiSeq, eiEnum, eiZip, x_bind, x_rs, x_asB, x_asI, x_bifB, x_bifO, x_andB, x_orB, x_bifI, List.length_map, en0, List.replicate, List.cons_append, List.nil_append, T.asD, T.items, T.itL, T.itT, T.er, T.ers, T.noScr, T.noScrs, T.shs, mkL, mkT, T.isSh, T.argOk, T.toArg, T.solid, T.isL, T.parts, putAll, T.tru, T.ty, tyD, En.put, En.clr, En.share, egName, egTup, egCons, egNil, Option.map_some, Option.map_none, Option.bind_some, Option.bind, List.all_cons, List.all_nil, List.map_cons, List.map_nil, List.length_cons, List.length_nil, Bool.and_true, Bool.true_and, Bool.and_self, Bool.not_true, Bool.not_false, if_true, cond_true, cond_false, Bool.false_eq_true, if_false, true_and, and_true, Rs.P_ok, Bool.and_false, Bool.false_and, Bool.false_or, Bool.or_false, Bool.true_or, Bool.or_true, Nat.reduceAdd, Nat.reduceLeDiff, Nat.reduceEqDiff, reduceCtorEq, x_add, x_iadd, x_sub, x_lt, x_le, x_gt, x_ge, x_eq, x_ne, x_eqB, x_neB, x_eqS, x_neS, x_max2, x_min2, x_int1, x_intB, x_lenL, x_lenT, x_lenO, x_lenS, x_sumL, x_sumO, x_sortL, x_sortO, x_listL, x_listT, x_listO, x_isN, x_isNn, x_isNi, x_isNl, x_isNt, x_isNb, x_notN, x_ixL, x_ixT, x_ixO, x_ixS, x_ix0, x_ix1, x_ix2, x_sl, x_slO, x_slT, x_inL, x_inO, x_ninL, x_ninO]) (by decide) (by decide)) (by rw [rngI_len]; decide) fun k hk => ?_]
    · generalize hcs : (rngI 0 8).map (fun k => at_ dr (10 + k) % at_ [3, 50, 10000] (at_ dr 18 % 3)) = cs
      have hcl : cs.length = 8 := by rw [← hcs, List.length_map, rngI_len]; rfl
      have hcb : Below 10000 cs := fun x hx => by
        rw [← hcs] at hx
        obtain ⟨k, _, rfl⟩ := List.mem_map.mp hx
        have e1 := Int.emod_nonneg (at_ dr (10 + k)) (show at_ [3, 50, 10000] (at_ dr 18 % 3) ≠ 0 by omega)
        have e2 := Int.emod_lt_of_pos (at_ dr (10 + k)) (show 0 < at_ [3, 50, 10000] (at_ dr 18 % 3) by omega)
        omega
      simp only [evVar, En.get, evC, evBin, evSh, evEsc, evB, evEB, evChain, evAnd, evOr, evNot, evAndV, evOrV, evNotV, evIf, evCons, evNil, evLst, evTup, evCall, callF, evSl, eoN, eoS, evUn, evC1, evIsi, evTru, erg1, erg2, evLRg, evTRg, eiSeq, eiEnum, eiZip, x_bind, x_rs, x_asB, x_asI, x_bifB, x_bifO, x_andB, x_orB, x_bifI, List.length_map, en0, List.replicate, List.cons_append, List.nil_append, T.asD, T.items, T.itL, T.itT, T.er, T.ers, T.noScr, T.noScrs, T.shs, mkL, mkT, T.isSh, T.argOk, T.toArg, T.solid, T.isL, T.parts, putAll, T.tru, T.ty, tyD, En.put, En.clr, En.share, egName, egTup, egCons, egNil, Option.map_some, Option.map_none, Option.bind_some, Option.bind, List.all_cons, List.all_nil, List.map_cons, List.map_nil, List.length_cons, List.length_nil, Bool.and_true, Bool.true_and, Bool.and_self, Bool.not_true, Bool.not_false, if_true, cond_true, cond_false, Bool.false_eq_true, if_false, true_and, and_true, Rs.P_ok, Bool.and_false, Bool.false_and, Bool.false_or, Bool.or_false, Bool.true_or, Bool.or_true, Nat.reduceAdd, Nat.reduceLeDiff, Nat.reduceEqDiff, reduceCtorEq, x_add, x_iadd, x_sub, x_lt, x_le, x_gt, x_ge, x_eq, x_ne, x_eqB, x_neB, x_eqS, x_neS, x_max2, x_min2, x_int1, x_intB, x_lenL, x_lenT, x_lenO, x_lenS, x_sumL, x_sumO, x_sortL, x_sortO, x_listL, x_listT, x_listO, x_isN, x_isNn, x_isNi, x_isNl, x_isNt, x_isNb, x_notN, x_ixL, x_ixT, x_ixO, x_ixS, x_ix0, x_ix1, x_ix2, x_sl, x_slO, x_slT, x_inL, x_inO, x_ninL, x_ninO]
      refine p_seq (p_set ?_)
      simp only [evVar, En.get, evC, evBin, evSh, evEsc, evB, evEB, evChain, evAnd, evOr, evNot, evAndV, evOrV, evNotV, evIf, evCons, evNil, evLst, evTup, evCall, callF, evSl, eoN, eoS, evUn, evC1, evIsi, evTru, erg1, erg2, evLRg, evTRg, eiSeq, eiEnum, eiZip, x_bind, x_rs, x_asB, x_asI, x_bifB, x_bifO, x_andB, x_orB, x_bifI, List.length_map, en0, List.replicate, List.cons_append, List.nil_append, T.asD, T.items, T.itL, T.itT, T.er, T.ers, T.noScr, T.noScrs, T.shs, mkL, mkT, T.isSh, T.argOk, T.toArg, T.solid, T.isL, T.parts, putAll, T.tru, T.ty, tyD, En.put, En.clr, En.share, egName, egTup, egCons, egNil, Option.map_some, Option.map_none, Option.bind_some, Option.bind, List.all_cons, List.all_nil, List.map_cons, List.map_nil, List.length_cons, List.length_nil, Bool.and_true, Bool.true_and, Bool.and_self, Bool.not_true, Bool.not_false, if_true, cond_true, cond_false, Bool.false_eq_true, if_false, true_and, and_true, Rs.P_ok, Bool.and_false, Bool.false_and, Bool.false_or, Bool.or_false, Bool.true_or, Bool.or_true, Nat.reduceAdd, Nat.reduceLeDiff, Nat.reduceEqDiff, reduceCtorEq, x_add, x_iadd, x_sub, x_lt, x_le, x_gt, x_ge, x_eq, x_ne, x_eqB, x_neB, x_eqS, x_neS, x_max2, x_min2, x_int1, x_intB, x_lenL, x_lenT, x_lenO, x_lenS, x_sumL, x_sumO, x_sortL, x_sortO, x_listL, x_listT, x_listO, x_isN, x_isNn, x_isNi, x_isNl, x_isNt, x_isNb, x_notN, x_ixL, x_ixT, x_ixO, x_ixS, x_ix0, x_ix1, x_ix2, x_sl, x_slO, x_slT, x_inL, x_inO, x_ninL, x_ninO]
      have sn : (sortI F).Nodup := (sortI_perm F).nodup_iff.mpr hn
      have sl : (sortI F).length = F.length := (sortI_perm F).length_eq
      refine p_ret ?_
      rw [comp_all (l := rngI 0 ((sortI F).length : Int)) (f := PyData.int) (h := fun k => pD (at_ (sortI F) k, at_ cs k)) (x_rng1 (by simp only [evVar, En.get, evC, evBin, evSh, evEsc, evB, evEB, evChain, evAnd, evOr, evNot, evAndV, evOrV, evNotV, evIf, evCons, evNil, evLst, evTup, evCall, callF, evSl, eoN, eoS, evUn, evC1, evIsi, evTru, erg1, erg2, evLRg, evTRg, eiSeq, eiEnum, eiZip, x_bind, x_rs, x_asB, x_asI, x_bifB, x_bifO, x_andB, x_orB, x_bifI, List.length_map, en0, List.replicate, List.cons_append, List.nil_append, T.asD, T.items, T.itL, T.itT, T.er, T.ers, T.noScr, T.noScrs, T.shs, mkL, mkT, T.isSh, T.argOk, T.toArg, T.solid, T.isL, T.parts, putAll, T.tru, T.ty, tyD, En.put, En.clr, En.share, egName, egTup, egCons, egNil, Option.map_some, Option.map_none, Option.bind_some, Option.bind, List.all_cons, List.all_nil, List.map_cons, List.map_nil, List.length_cons, List.length_nil, Bool.and_true, Bool.true_and, Bool.and_self, Bool.not_true, Bool.not_false, if_true, cond_true, cond_false, Bool.false_eq_true, if_false, true_and, and_true, Rs.P_ok, Bool.and_false, Bool.false_and, Bool.false_or, Bool.or_false, Bool.true_or, Bool.or_true, Nat.reduceAdd, Nat.reduceLeDiff, Nat.reduceEqDiff, reduceCtorEq, x_add, x_iadd, x_sub, x_lt, x_le, x_gt, x_ge, x_eq, x_ne, x_eqB, x_neB, x_eqS, x_neS, x_max2, x_min2, x_int1, x_intB, x_lenL, x_lenT, x_lenO, x_lenS, x_sumL, x_sumO, x_sortL, x_sortO, x_listL, x_listT, x_listO, x_isN, x_isNn, x_isNi, x_isNl, x_isNt, x_isNb, x_notN, x_ixL, x_ixT, x_ixO, x_ixS, x_ix0, x_ix1, x_ix2, x_sl, x_slO, x_slT, x_inL, x_inO, x_ninL, x_ninO]) (by omega) (by omega)) (by rw [rngI_len]; omega) fun k hk => ?_]
      · rw [Rs.P_ok]
        have hF1 : 1 ≤ F.length := by cases F with
          | nil => exact absurd rfl hne
          | cons a F => simp
        refine ⟨(rngI 0 ((sortI F).length : Int)).map fun k => (at_ (sortI F) k, at_ cs k), by rw [List.map_map]; rfl, ?_, by rw [List.length_map, rngI_len]; omega, ?_, ?_, ?_⟩
        · intro z
          have := congrArg List.length z
          rw [List.length_map, rngI_len, List.length_nil] at this
          omega
        · have e := sorted_at (sortI_sorted F) sn
          have p : ((rngI 0 ((sortI F).length : Int)).map fun k => at_ (sortI F) k).Pairwise (· < ·) := by
            rw [e]
            exact List.Pairwise.imp₂ (fun a b h1 h2 => by have h2 : a ≠ b := h2; have h1 : a ≤ b := h1; omega) (sortI_sorted F) sn
          rw [List.pairwise_map] at p
          exact List.pairwise_map.mpr p
        · intro p hp
          obtain ⟨k, hk, rfl⟩ := List.mem_map.mp hp
          have hk := rngI_mem.mp hk
          exact hF _ ((sortI_perm F).mem_iff.mp (at_mem hk.1 hk.2))
        · intro p hp
          obtain ⟨k, hk, rfl⟩ := List.mem_map.mp hp
          have := hcb.at (by decide) k
          show 0 ≤ at_ cs k ∧ at_ cs k ≤ 10000
          omega
      · have hk := rngI_mem.mp hk
        refine ⟨_, rfl, ?_⟩
        simp (disch := omega) only [evVar, En.get, evC, evBin, evSh, evEsc, evB, evEB, evChain, evAnd, evOr, evNot, evAndV, evOrV, evNotV, evIf, evCons, evNil, evLst, evTup, evCall, callF, evSl, eoN, eoS, evUn, evC1, evIsi, evTru, erg1, erg2, evLRg, evTRg, eiSeq, eiEnum, eiZip, x_bind, x_rs, x_asB, x_asI, x_bifB, x_bifO, x_andB, x_orB, x_bifI, List.length_map, en0, List.replicate, List.cons_append, List.nil_append, T.asD, T.items, T.itL, T.itT, T.er, T.ers, T.noScr, T.noScrs, T.shs, mkL, mkT, T.isSh, T.argOk, T.toArg, T.solid, T.isL, T.parts, putAll, T.tru, T.ty, tyD, En.put, En.clr, En.share, egName, egTup, egCons, egNil, Option.map_some, Option.map_none, Option.bind_some, Option.bind, List.all_cons, List.all_nil, List.map_cons, List.map_nil, List.length_cons, List.length_nil, Bool.and_true, Bool.true_and, Bool.and_self, Bool.not_true, Bool.not_false, if_true, cond_true, cond_false, Bool.false_eq_true, if_false, true_and, and_true, Rs.P_ok, Bool.and_false, Bool.false_and, Bool.false_or, Bool.or_false, Bool.true_or, Bool.or_true, Nat.reduceAdd, Nat.reduceLeDiff, Nat.reduceEqDiff, reduceCtorEq, x_add, x_iadd, x_sub, x_lt, x_le, x_gt, x_ge, x_eq, x_ne, x_eqB, x_neB, x_eqS, x_neS, x_max2, x_min2, x_int1, x_intB, x_lenL, x_lenT, x_lenO, x_lenS, x_sumL, x_sumO, x_sortL, x_sortO, x_listL, x_listT, x_listO, x_isN, x_isNn, x_isNi, x_isNl, x_isNt, x_isNb, x_notN, x_ixL, x_ixT, x_ixO, x_ixS, x_ix0, x_ix1, x_ix2, x_sl, x_slO, x_slT, x_inL, x_inO, x_ninL, x_ninO, x_at]
    · have hk := rngI_mem.mp hk
      refine ⟨_, rfl, ?_⟩
      simp (disch := omega) only [evVar, En.get, evC, evBin, evSh, evEsc, evB, evEB, evChain, evAnd, evOr, evNot, evAndV, evOrV, evNotV, evIf, evCons, evNil, evLst, evTup, evCall, callF, evSl, eoN, eoS, evUn, evC1, evIsi, evTru, erg1, erg2, evLRg, evTRg, eiSeq, eiEnum, eiZip, x_bind, x_rs, x_asB, x_asI, x_bifB, x_bifO, x_andB, x_orB, x_bifI, List.length_map, en0, List.replicate, List.cons_append, List.nil_append, T.asD, T.items, T.itL, T.itT, T.er, T.ers, T.noScr, T.noScrs, T.shs, mkL, mkT, T.isSh, T.argOk, T.toArg, T.solid, T.isL, T.parts, putAll, T.tru, T.ty, tyD, En.put, En.clr, En.share, egName, egTup, egCons, egNil, Option.map_some, Option.map_none, Option.bind_some, Option.bind, List.all_cons, List.all_nil, List.map_cons, List.map_nil, List.length_cons, List.length_nil, Bool.and_true, Bool.true_and, Bool.and_self, Bool.not_true, Bool.not_false, if_true, cond_true, cond_false, Bool.false_eq_true, if_false, true_and, and_true, Rs.P_ok, Bool.and_false, Bool.false_and, Bool.false_or, Bool.or_false, Bool.true_or, Bool.or_true, Nat.reduceAdd, Nat.reduceLeDiff, Nat.reduceEqDiff, reduceCtorEq, x_add, x_iadd, x_sub, x_lt, x_le, x_gt, x_ge, x_eq, x_ne, x_eqB, x_neB, x_eqS, x_neS, x_max2, x_min2, x_int1, x_intB, x_lenL, x_lenT, x_lenO, x_lenS, x_sumL, x_sumO, x_sortL, x_sortO, x_listL, x_listT, x_listO, x_isN, x_isNn, x_isNi, x_isNl, x_isNt, x_isNb, x_notN, x_ixL, x_ixT, x_ixO, x_ixS, x_ix0, x_ix1, x_ix2, x_sl, x_slO, x_slT, x_inL, x_inO, x_ninL, x_ninO, x_at, x_mod, x_at3, Int.zero_add]
/-! visits -/
theorem chain_open : ∀ {b br bk : Int} {us : List V}, Chain b (us ++ [(br, some bk)]) → Chain b (us ++ [(br, none)])
  | b, br, bk, [], h => ⟨h.1, rfl⟩
  | b, br, bk, (c, none) :: us, h => by
    have h2 : us ++ [(br, some bk)] = [] := h.2
    simp at h2
  | b, br, bk, (c, some x) :: us, h => ⟨h.1, h.2.1, chain_open h.2.2⟩
abbrev cV (p : Int × Int) : V := (p.1, some p.2)
theorem w_visits (dr : List Int) (begin count : Int) (hl : 12 ≤ dr.length) (hb : Below 5040 dr) (h0 : 0 ≤ begin) (h1 : begin ≤ 9999) (hc : 0 ≤ count) (hc2 : count ≤ 5) :
    ∃ vs : List V, d__law_visits [.sh (L dr), .sh (I begin), .sh (I count), .sh (I 9999)] = .ok (.ol (vs.map vD)) ∧ Chain begin vs ∧ (vs.length : Int) = count ∧ ∀ v ∈ vs, v.1 ≤ 9999 ∧ ∀ x, v.2 = some x → x ≤ 9999 := by
  suffices hs : (d__law_visits [.sh (L dr), .sh (I begin), .sh (I count), .sh (I 9999)]).P fun x => ∃ vs : List V, x = .ol (vs.map vD) ∧ Chain begin vs ∧ (vs.length : Int) = count ∧ ∀ v ∈ vs, v.1 ≤ 9999 ∧ ∀ x, v.2 = some x → x ≤ 9999 by
    obtain ⟨x, e, t, rfl, q⟩ := hs.ex
    exact ⟨t, e, q⟩
  have hv := hb.at (by decide)
  refine p_fn rfl ?_
  refine p_seq (p_share (p_set ?_))
  simp only [evVar, En.get, evC, evBin, evSh, evEsc, evB, evEB, evChain, evAnd, evOr, evNot, evAndV, evOrV, evNotV, evIf, evCons, evNil, evLst, evTup, evCall, callF, evSl, eoN, eoS, evUn, evC1, evIsi, evTru, erg1, erg2, evLRg, evTRg, eiSeq, eiEnum, eiZip, x_bind, x_rs, x_asB, x_asI, x_bifB, x_bifO, x_andB, x_orB, x_bifI, List.length_map, en0, List.replicate, List.cons_append, List.nil_append, T.asD, T.items, T.itL, T.itT, T.er, T.ers, T.noScr, T.noScrs, T.shs, mkL, mkT, T.isSh, T.argOk, T.toArg, T.solid, T.isL, T.parts, putAll, T.tru, T.ty, tyD, En.put, En.clr, En.share, egName, egTup, egCons, egNil, Option.map_some, Option.map_none, Option.bind_some, Option.bind, List.all_cons, List.all_nil, List.map_cons, List.map_nil, List.length_cons, List.length_nil, Bool.and_true, Bool.true_and, Bool.and_self, Bool.not_true, Bool.not_false, if_true, cond_true, cond_false, Bool.false_eq_true, if_false, true_and, and_true, Rs.P_ok, Bool.and_false, Bool.false_and, Bool.false_or, Bool.or_false, Bool.true_or, Bool.or_true, Nat.reduceAdd, Nat.reduceLeDiff, Nat.reduceEqDiff, reduceCtorEq, x_add, x_iadd, x_sub, x_lt, x_le, x_gt, x_ge, x_eq, x_ne, x_eqB, x_neB, x_eqS, x_neS, x_max2, x_min2, x_int1, x_intB, x_lenL, x_lenT, x_lenO, x_lenS, x_sumL, x_sumO, x_sortL, x_sortO, x_listL, x_listT, x_listO, x_isN, x_isNn, x_isNi, x_isNl, x_isNt, x_isNb, x_notN, x_ixL, x_ixT, x_ixO, x_ixS, x_ix0, x_ix1, x_ix2, x_sl, x_slO, x_slT, x_inL, x_inO, x_ninL, x_ninO]
  refine p_seq (p_set ?_)
  simp only [evVar, En.get, evC, evBin, evSh, evEsc, evB, evEB, evChain, evAnd, evOr, evNot, evAndV, evOrV, evNotV, evIf, evCons, evNil, evLst, evTup, evCall, callF, evSl, eoN, eoS, evUn, evC1, evIsi, evTru, erg1, erg2, evLRg, evTRg, eiSeq, eiEnum, eiZip, x_bind, x_rs, x_asB, x_asI, x_bifB, x_bifO, x_andB, x_orB, x_bifI, List.length_map, en0, List.replicate, List.cons_append, List.nil_append, T.asD, T.items, T.itL, T.itT, T.er, T.ers, T.noScr, T.noScrs, T.shs, mkL, mkT, T.isSh, T.argOk, T.toArg, T.solid, T.isL, T.parts, putAll, T.tru, T.ty, tyD, En.put, En.clr, En.share, egName, egTup, egCons, egNil, Option.map_some, Option.map_none, Option.bind_some, Option.bind, List.all_cons, List.all_nil, List.map_cons, List.map_nil, List.length_cons, List.length_nil, Bool.and_true, Bool.true_and, Bool.and_self, Bool.not_true, Bool.not_false, if_true, cond_true, cond_false, Bool.false_eq_true, if_false, true_and, and_true, Rs.P_ok, Bool.and_false, Bool.false_and, Bool.false_or, Bool.or_false, Bool.true_or, Bool.or_true, Nat.reduceAdd, Nat.reduceLeDiff, Nat.reduceEqDiff, reduceCtorEq, x_add, x_iadd, x_sub, x_lt, x_le, x_gt, x_ge, x_eq, x_ne, x_eqB, x_neB, x_eqS, x_neS, x_max2, x_min2, x_int1, x_intB, x_lenL, x_lenT, x_lenO, x_lenS, x_sumL, x_sumO, x_sortL, x_sortO, x_listL, x_listT, x_listO, x_isN, x_isNn, x_isNi, x_isNl, x_isNt, x_isNb, x_notN, x_ixL, x_ixT, x_ixO, x_ixS, x_ix0, x_ix1, x_ix2, x_sl, x_slO, x_slT, x_inL, x_inO, x_ninL, x_ninO, Nat.zero_le]
  refine p_seq (p_forM (l := rngI 0 count) (x_rng1 (by simp only [evVar, En.get, evC, evBin, evSh, evEsc, evB, evEB, evChain, evAnd, evOr, evNot, evAndV, evOrV, evNotV, evIf, evCons, evNil, evLst, evTup, evCall, callF, evSl, eoN, eoS, evUn, evC1, evIsi, evTru, erg1, erg2, evLRg, evTRg, eiSeq, eiEnum, eiZip, x_bind, x_rs, x_asB, x_asI, x_bifB, x_bifO, x_andB, x_orB, x_bifI, List.length_map, en0, List.replicate, List.cons_append, List.nil_append, T.asD, T.items, T.itL, T.itT, T.er, T.ers, T.noScr, T.noScrs, T.shs, mkL, mkT, T.isSh, T.argOk, T.toArg, T.solid, T.isL, T.parts, putAll, T.tru, T.ty, tyD, En.put, En.clr, En.share, egName, egTup, egCons, egNil, Option.map_some, Option.map_none, Option.bind_some, Option.bind, List.all_cons, List.all_nil, List.map_cons, List.map_nil, List.length_cons, List.length_nil, Bool.and_true, Bool.true_and, Bool.and_self, Bool.not_true, Bool.not_false, if_true, cond_true, cond_false, Bool.false_eq_true, if_false, true_and, and_true, Rs.P_ok, Bool.and_false, Bool.false_and, Bool.false_or, Bool.or_false, Bool.true_or, Bool.or_true, Nat.reduceAdd, Nat.reduceLeDiff, Nat.reduceEqDiff, reduceCtorEq, x_add, x_iadd, x_sub, x_lt, x_le, x_gt, x_ge, x_eq, x_ne, x_eqB, x_neB, x_eqS, x_neS, x_max2, x_min2, x_int1, x_intB, x_lenL, x_lenT, x_lenO, x_lenS, x_sumL, x_sumO, x_sortL, x_sortO, x_listL, x_listT, x_listO, x_isN, x_isNn, x_isNi, x_isNl, x_isNt, x_isNb, x_notN, x_ixL, x_ixT, x_ixO, x_ixS, x_ix0, x_ix1, x_ix2, x_sl, x_slO, x_slT, x_inL, x_inO, x_ninL, x_ninO]) (by omega) (by omega)) (fun r ρ => ∃ (F : List (Int × Int)) (day : Int) (o6 o7 o8 : Option T), ρ = [some (.sh (L dr)), some (.sh (I begin)), some (.sh (I count)), some (.sh (I 9999)), some (.sh (I day)), some (.ol ((F.map cV).map vD)), o6, o7, o8] ∧
    (∀ tail, Chain day tail → Chain begin (F.map cV ++ tail)) ∧ begin ≤ day ∧ day ≤ 9999 ∧ (F.length : Int) + r.length = count ∧ (∀ p ∈ F, p.1 ≤ 9999 ∧ p.2 ≤ 9999) ∧ ∀ x ∈ r, 0 ≤ x ∧ x < count) ?_ ?_ ?_)
  · exact ⟨[], begin, none, none, none, rfl, fun _ z => z, by omega, h1, by rw [rngI_len]; simp; omega, (fun p hp => by cases hp), fun x hx => rngI_mem.mp hx⟩
  · rintro k r ρ ⟨F, day, o6, o7, o8, rfl, hch, hd1, hd2, hlen, hF, hk⟩
    have hk0 := hk k List.mem_cons_self
    rw [List.length_cons] at hlen
    have w1 := hv (2 * k)
    have w2 := hv (2 * k + 1)
    refine ⟨_, rfl, ?_⟩
    refine p_seq (p_set ?_)
    simp (disch := omega) only [evVar, En.get, evC, evBin, evSh, evEsc, evB, evEB, evChain, evAnd, evOr, evNot, evAndV, evOrV, evNotV, evIf, evCons, evNil, evLst, evTup, evCall, callF, evSl, eoN, eoS, evUn, evC1, evIsi, evTru, erg1, erg2, evLRg, evTRg, eiSeq, eiEnum, eiZip, x_bind, x_rs, x_asB, x_asI, x_bifB, x_bifO, x_andB, x_orB, x_bifI, List.length_map, en0, List.replicate, List.cons_append, List.nil_append, T.asD, T.items, T.itL, T.itT, T.er, T.ers, T.noScr, T.noScrs, T.shs, mkL, mkT, T.isSh, T.argOk, T.toArg, T.solid, T.isL, T.parts, putAll, T.tru, T.ty, tyD, En.put, En.clr, En.share, egName, egTup, egCons, egNil, Option.map_some, Option.map_none, Option.bind_some, Option.bind, List.all_cons, List.all_nil, List.map_cons, List.map_nil, List.length_cons, List.length_nil, Bool.and_true, Bool.true_and, Bool.and_self, Bool.not_true, Bool.not_false, if_true, cond_true, cond_false, Bool.false_eq_true, if_false, true_and, and_true, Rs.P_ok, Bool.and_false, Bool.false_and, Bool.false_or, Bool.or_false, Bool.true_or, Bool.or_true, Nat.reduceAdd, Nat.reduceLeDiff, Nat.reduceEqDiff, reduceCtorEq, x_add, x_iadd, x_sub, x_lt, x_le, x_gt, x_ge, x_eq, x_ne, x_eqB, x_neB, x_eqS, x_neS, x_max2, x_min2, x_int1, x_intB, x_lenL, x_lenT, x_lenO, x_lenS, x_sumL, x_sumO, x_sortL, x_sortO, x_listL, x_listT, x_listO, x_isN, x_isNn, x_isNi, x_isNl, x_isNt, x_isNb, x_notN, x_ixL, x_ixT, x_ixO, x_ixS, x_ix0, x_ix1, x_ix2, x_sl, x_slO, x_slT, x_inL, x_inO, x_ninL, x_ninO, x_at, x_mod, x_mulL]
    refine p_seq (p_set ?_)
    simp (disch := omega) only [evVar, En.get, evC, evBin, evSh, evEsc, evB, evEB, evChain, evAnd, evOr, evNot, evAndV, evOrV, evNotV, evIf, evCons, evNil, evLst, evTup, evCall, callF, evSl, eoN, eoS, evUn, evC1, evIsi, evTru, erg1, erg2, evLRg, evTRg, eiSeq, eiEnum, eiZip, x_bind, x_rs, x_asB, x_asI, x_bifB, x_bifO, x_andB, x_orB, x_bifI, List.length_map, en0, List.replicate, List.cons_append, List.nil_append, T.asD, T.items, T.itL, T.itT, T.er, T.ers, T.noScr, T.noScrs, T.shs, mkL, mkT, T.isSh, T.argOk, T.toArg, T.solid, T.isL, T.parts, putAll, T.tru, T.ty, tyD, En.put, En.clr, En.share, egName, egTup, egCons, egNil, Option.map_some, Option.map_none, Option.bind_some, Option.bind, List.all_cons, List.all_nil, List.map_cons, List.map_nil, List.length_cons, List.length_nil, Bool.and_true, Bool.true_and, Bool.and_self, Bool.not_true, Bool.not_false, if_true, cond_true, cond_false, Bool.false_eq_true, if_false, true_and, and_true, Rs.P_ok, Bool.and_false, Bool.false_and, Bool.false_or, Bool.or_false, Bool.true_or, Bool.or_true, Nat.reduceAdd, Nat.reduceLeDiff, Nat.reduceEqDiff, reduceCtorEq, x_add, x_iadd, x_sub, x_lt, x_le, x_gt, x_ge, x_eq, x_ne, x_eqB, x_neB, x_eqS, x_neS, x_max2, x_min2, x_int1, x_intB, x_lenL, x_lenT, x_lenO, x_lenS, x_sumL, x_sumO, x_sortL, x_sortO, x_listL, x_listT, x_listO, x_isN, x_isNn, x_isNi, x_isNl, x_isNt, x_isNb, x_notN, x_ixL, x_ixT, x_ixO, x_ixS, x_ix0, x_ix1, x_ix2, x_sl, x_slO, x_slT, x_inL, x_inO, x_ninL, x_ninO, x_at, x_mod, x_mulL]
    have e1 : day ≤ min 9999 (day + at_ dr (2 * k) % 12) ∧ min 9999 (day + at_ dr (2 * k) % 12) ≤ 9999 := by omega
    generalize min 9999 (day + at_ dr (2 * k) % 12) = br at e1
    have e2 : br ≤ min 9999 (br + at_ dr (2 * k + 1) % 15) ∧ min 9999 (br + at_ dr (2 * k + 1) % 15) ≤ 9999 := by omega
    generalize min 9999 (br + at_ dr (2 * k + 1) % 15) = bk at e2
    refine p_seq (p_share (p_share (p_app rfl rfl ?_)))
    simp only [evVar, En.get, evC, evBin, evSh, evEsc, evB, evEB, evChain, evAnd, evOr, evNot, evAndV, evOrV, evNotV, evIf, evCons, evNil, evLst, evTup, evCall, callF, evSl, eoN, eoS, evUn, evC1, evIsi, evTru, erg1, erg2, evLRg, evTRg, eiSeq, eiEnum, eiZip, x_bind, x_rs, x_asB, x_asI, x_bifB, x_bifO, x_andB, x_orB, x_bifI, List.length_map, en0, List.replicate, List.cons_append, List.nil_append, T.asD, T.items, T.itL, T.itT, T.er, T.ers, T.noScr, T.noScrs, T.shs, mkL, mkT, T.isSh, T.argOk, T.toArg, T.solid, T.isL, T.parts, putAll, T.tru, T.ty, tyD, En.put, En.clr, En.share, egName, egTup, egCons, egNil, Option.map_some, Option.map_none, Option.bind_some, Option.bind, List.all_cons, List.all_nil, List.map_cons, List.map_nil, List.length_cons, List.length_nil, Bool.and_true, Bool.true_and, Bool.and_self, Bool.not_true, Bool.not_false, if_true, cond_true, cond_false, Bool.false_eq_true, if_false, true_and, and_true, Rs.P_ok, Bool.and_false, Bool.false_and, Bool.false_or, Bool.or_false, Bool.true_or, Bool.or_true, Nat.reduceAdd, Nat.reduceLeDiff, Nat.reduceEqDiff, reduceCtorEq, x_add, x_iadd, x_sub, x_lt, x_le, x_gt, x_ge, x_eq, x_ne, x_eqB, x_neB, x_eqS, x_neS, x_max2, x_min2, x_int1, x_intB, x_lenL, x_lenT, x_lenO, x_lenS, x_sumL, x_sumO, x_sortL, x_sortO, x_listL, x_listT, x_listO, x_isN, x_isNn, x_isNi, x_isNl, x_isNt, x_isNb, x_notN, x_ixL, x_ixT, x_ixO, x_ixS, x_ix0, x_ix1, x_ix2, x_sl, x_slO, x_slT, x_inL, x_inO, x_ninL, x_ninO]
    refine ⟨_, x_app (by rw [List.length_map, List.length_map]; omega), ?_⟩
    refine p_share (p_set ?_)
    simp only [evVar, En.get, evC, evBin, evSh, evEsc, evB, evEB, evChain, evAnd, evOr, evNot, evAndV, evOrV, evNotV, evIf, evCons, evNil, evLst, evTup, evCall, callF, evSl, eoN, eoS, evUn, evC1, evIsi, evTru, erg1, erg2, evLRg, evTRg, eiSeq, eiEnum, eiZip, x_bind, x_rs, x_asB, x_asI, x_bifB, x_bifO, x_andB, x_orB, x_bifI, List.length_map, en0, List.replicate, List.cons_append, List.nil_append, T.asD, T.items, T.itL, T.itT, T.er, T.ers, T.noScr, T.noScrs, T.shs, mkL, mkT, T.isSh, T.argOk, T.toArg, T.solid, T.isL, T.parts, putAll, T.tru, T.ty, tyD, En.put, En.clr, En.share, egName, egTup, egCons, egNil, Option.map_some, Option.map_none, Option.bind_some, Option.bind, List.all_cons, List.all_nil, List.map_cons, List.map_nil, List.length_cons, List.length_nil, Bool.and_true, Bool.true_and, Bool.and_self, Bool.not_true, Bool.not_false, if_true, cond_true, cond_false, Bool.false_eq_true, if_false, true_and, and_true, Rs.P_ok, Bool.and_false, Bool.false_and, Bool.false_or, Bool.or_false, Bool.true_or, Bool.or_true, Nat.reduceAdd, Nat.reduceLeDiff, Nat.reduceEqDiff, reduceCtorEq, x_add, x_iadd, x_sub, x_lt, x_le, x_gt, x_ge, x_eq, x_ne, x_eqB, x_neB, x_eqS, x_neS, x_max2, x_min2, x_int1, x_intB, x_lenL, x_lenT, x_lenO, x_lenS, x_sumL, x_sumO, x_sortL, x_sortO, x_listL, x_listT, x_listO, x_isN, x_isNn, x_isNi, x_isNl, x_isNt, x_isNb, x_notN, x_ixL, x_ixT, x_ixO, x_ixS, x_ix0, x_ix1, x_ix2, x_sl, x_slO, x_slT, x_inL, x_inO, x_ninL, x_ninO]
    refine ⟨F ++ [(br, bk)], bk, _, _, _, by rw [List.map_append, List.map_append]; rfl, fun tail ht => ?_, by omega, by omega, by rw [List.length_append]; simp; omega, fun p hp => ?_, fun x hx => hk x (List.mem_cons_of_mem _ hx)⟩
    · rw [List.map_append, List.append_assoc]
      exact hch _ ⟨e1.1, e2.1, ht⟩
    · rcases List.mem_append.mp hp with z | z
      · exact hF p z
      · obtain rfl : p = _ := List.mem_singleton.mp z
        exact ⟨e1.2, e2.2⟩
  · rintro ρ ⟨F, day, o6, o7, o8, rfl, hch, hd1, hd2, hlen, hF, _⟩
    simp only [List.length_nil] at hlen
    have hC := hch [] trivial
    rw [List.append_nil] at hC
    have w11 := hv 11
    refine p_seq (p_ifB (k := decide (at_ dr 11 % 3 = 0) && decide (0 < count)) ?_ (fun hp => ?_) fun hp => ?_)
    · simp (disch := omega) only [evVar, En.get, evC, evBin, evSh, evEsc, evB, evEB, evChain, evAnd, evOr, evNot, evAndV, evOrV, evNotV, evIf, evCons, evNil, evLst, evTup, evCall, callF, evSl, eoN, eoS, evUn, evC1, evIsi, evTru, erg1, erg2, evLRg, evTRg, eiSeq, eiEnum, eiZip, x_bind, x_rs, x_asB, x_asI, x_bifB, x_bifO, x_andB, x_orB, x_bifI, List.length_map, en0, List.replicate, List.cons_append, List.nil_append, T.asD, T.items, T.itL, T.itT, T.er, T.ers, T.noScr, T.noScrs, T.shs, mkL, mkT, T.isSh, T.argOk, T.toArg, T.solid, T.isL, T.parts, putAll, T.tru, T.ty, tyD, En.put, En.clr, En.share, egName, egTup, egCons, egNil, Option.map_some, Option.map_none, Option.bind_some, Option.bind, List.all_cons, List.all_nil, List.map_cons, List.map_nil, List.length_cons, List.length_nil, Bool.and_true, Bool.true_and, Bool.and_self, Bool.not_true, Bool.not_false, if_true, cond_true, cond_false, Bool.false_eq_true, if_false, true_and, and_true, Rs.P_ok, Bool.and_false, Bool.false_and, Bool.false_or, Bool.or_false, Bool.true_or, Bool.or_true, Nat.reduceAdd, Nat.reduceLeDiff, Nat.reduceEqDiff, reduceCtorEq, x_add, x_iadd, x_sub, x_lt, x_le, x_gt, x_ge, x_eq, x_ne, x_eqB, x_neB, x_eqS, x_neS, x_max2, x_min2, x_int1, x_intB, x_lenL, x_lenT, x_lenO, x_lenS, x_sumL, x_sumO, x_sortL, x_sortO, x_listL, x_listT, x_listO, x_isN, x_isNn, x_isNi, x_isNl, x_isNt, x_isNb, x_notN, x_ixL, x_ixT, x_ixO, x_ixS, x_ix0, x_ix1, x_ix2, x_sl, x_slO, x_slT, x_inL, x_inO, x_ninL, x_ninO, x_at, x_mod]
    · simp only [Bool.and_eq_true, decide_eq_true_eq] at hp
      rcases List.eq_nil_or_concat F with rfl | ⟨us, p, rfl⟩
      · simp at hlen; omega
      · rw [List.concat_eq_append] at *
        rw [List.length_append] at hlen
        simp only [List.length_cons, List.length_nil] at hlen
        obtain ⟨br, bk⟩ := p
        have ix : L2.atI (((us ++ [(br, bk)]).map cV).map vD) (count - 1) = some (vD (br, some bk)) := by
          rw [show count - 1 = ((us.map cV).map vD).length by rw [List.length_map, List.length_map]; omega, List.map_append, List.map_append]
          exact atI_app
        refine p_put rfl ?_
        simp only [evVar, En.get, evC, evBin, evSh, evEsc, evB, evEB, evChain, evAnd, evOr, evNot, evAndV, evOrV, evNotV, evIf, evCons, evNil, evLst, evTup, evCall, callF, evSl, eoN, eoS, evUn, evC1, evIsi, evTru, erg1, erg2, evLRg, evTRg, eiSeq, eiEnum, eiZip, x_bind, x_rs, x_asB, x_asI, x_bifB, x_bifO, x_andB, x_orB, x_bifI, List.length_map, en0, List.replicate, List.cons_append, List.nil_append, T.asD, T.items, T.itL, T.itT, T.er, T.ers, T.noScr, T.noScrs, T.shs, mkL, mkT, T.isSh, T.argOk, T.toArg, T.solid, T.isL, T.parts, putAll, T.tru, T.ty, tyD, En.put, En.clr, En.share, egName, egTup, egCons, egNil, Option.map_some, Option.map_none, Option.bind_some, Option.bind, List.all_cons, List.all_nil, List.map_cons, List.map_nil, List.length_cons, List.length_nil, Bool.and_true, Bool.true_and, Bool.and_self, Bool.not_true, Bool.not_false, if_true, cond_true, cond_false, Bool.false_eq_true, if_false, true_and, and_true, Rs.P_ok, Bool.and_false, Bool.false_and, Bool.false_or, Bool.or_false, Bool.true_or, Bool.or_true, Nat.reduceAdd, Nat.reduceLeDiff, Nat.reduceEqDiff, reduceCtorEq, x_add, x_iadd, x_sub, x_lt, x_le, x_gt, x_ge, x_eq, x_ne, x_eqB, x_neB, x_eqS, x_neS, x_max2, x_min2, x_int1, x_intB, x_lenL, x_lenT, x_lenO, x_lenS, x_sumL, x_sumO, x_sortL, x_sortO, x_listL, x_listT, x_listO, x_isN, x_isNn, x_isNi, x_isNl, x_isNt, x_isNb, x_notN, x_ixL, x_ixT, x_ixO, x_ixS, x_ix0, x_ix1, x_ix2, x_sl, x_slO, x_slT, x_inL, x_inO, x_ninL, x_ninO, ix]
        refine ⟨_, rfl, ?_⟩
        refine ⟨_, _, rfl, x_setL (by omega) (by simp; omega), ?_⟩
        refine p_ret ?_
        simp only [evVar, En.get, evC, evBin, evSh, evEsc, evB, evEB, evChain, evAnd, evOr, evNot, evAndV, evOrV, evNotV, evIf, evCons, evNil, evLst, evTup, evCall, callF, evSl, eoN, eoS, evUn, evC1, evIsi, evTru, erg1, erg2, evLRg, evTRg, eiSeq, eiEnum, eiZip, x_bind, x_rs, x_asB, x_asI, x_bifB, x_bifO, x_andB, x_orB, x_bifI, List.length_map, en0, List.replicate, List.cons_append, List.nil_append, T.asD, T.items, T.itL, T.itT, T.er, T.ers, T.noScr, T.noScrs, T.shs, mkL, mkT, T.isSh, T.argOk, T.toArg, T.solid, T.isL, T.parts, putAll, T.tru, T.ty, tyD, En.put, En.clr, En.share, egName, egTup, egCons, egNil, Option.map_some, Option.map_none, Option.bind_some, Option.bind, List.all_cons, List.all_nil, List.map_cons, List.map_nil, List.length_cons, List.length_nil, Bool.and_true, Bool.true_and, Bool.and_self, Bool.not_true, Bool.not_false, if_true, cond_true, cond_false, Bool.false_eq_true, if_false, true_and, and_true, Rs.P_ok, Bool.and_false, Bool.false_and, Bool.false_or, Bool.or_false, Bool.true_or, Bool.or_true, Nat.reduceAdd, Nat.reduceLeDiff, Nat.reduceEqDiff, reduceCtorEq, x_add, x_iadd, x_sub, x_lt, x_le, x_gt, x_ge, x_eq, x_ne, x_eqB, x_neB, x_eqS, x_neS, x_max2, x_min2, x_int1, x_intB, x_lenL, x_lenT, x_lenO, x_lenS, x_sumL, x_sumO, x_sortL, x_sortO, x_listL, x_listT, x_listO, x_isN, x_isNn, x_isNi, x_isNl, x_isNt, x_isNb, x_notN, x_ixL, x_ixT, x_ixO, x_ixS, x_ix0, x_ix1, x_ix2, x_sl, x_slO, x_slT, x_inL, x_inO, x_ninL, x_ninO]
        refine ⟨us.map cV ++ [(br, none)], ?_, chain_open (bk := bk) (by simpa using hC), by simp; omega, fun v hv => ?_⟩
        · rw [show (count - 1).toNat = ((us.map cV).map vD).length by rw [List.length_map, List.length_map]; omega, List.map_append, List.map_append, List.map_append]
          simp [oD, List.set_append]
        · rcases List.mem_append.mp hv with z | z
          · obtain ⟨p, hp', rfl⟩ := List.mem_map.mp z
            have := hF p (List.mem_append_left _ hp')
            exact ⟨this.1, fun x hx => by cases hx; exact this.2⟩
          · obtain rfl : v = _ := List.mem_singleton.mp z
            have := hF (br, bk) (by simp)
            exact ⟨this.1, fun x hx => by cases hx⟩
    · refine p_nil (p_ret ?_)
      simp only [evVar, En.get, evC, evBin, evSh, evEsc, evB, evEB, evChain, evAnd, evOr, evNot, evAndV, evOrV, evNotV, evIf, evCons, evNil, evLst, evTup, evCall, callF, evSl, eoN, eoS, evUn, evC1, evIsi, evTru, erg1, erg2, evLRg, evTRg, eiSeq, eiEnum, eiZip, x_bind, x_rs, x_asB, x_asI, x_bifB, x_bifO, x_andB, x_orB, x_bifI, List.length_map, en0, List.replicate, List.cons_append, List.nil_append, T.asD, T.items, T.itL, T.itT, T.er, T.ers, T.noScr, T.noScrs, T.shs, mkL, mkT, T.isSh, T.argOk, T.toArg, T.solid, T.isL, T.parts, putAll, T.tru, T.ty, tyD, En.put, En.clr, En.share, egName, egTup, egCons, egNil, Option.map_some, Option.map_none, Option.bind_some, Option.bind, List.all_cons, List.all_nil, List.map_cons, List.map_nil, List.length_cons, List.length_nil, Bool.and_true, Bool.true_and, Bool.and_self, Bool.not_true, Bool.not_false, if_true, cond_true, cond_false, Bool.false_eq_true, if_false, true_and, and_true, Rs.P_ok, Bool.and_false, Bool.false_and, Bool.false_or, Bool.or_false, Bool.true_or, Bool.or_true, Nat.reduceAdd, Nat.reduceLeDiff, Nat.reduceEqDiff, reduceCtorEq, x_add, x_iadd, x_sub, x_lt, x_le, x_gt, x_ge, x_eq, x_ne, x_eqB, x_neB, x_eqS, x_neS, x_max2, x_min2, x_int1, x_intB, x_lenL, x_lenT, x_lenO, x_lenS, x_sumL, x_sumO, x_sortL, x_sortO, x_listL, x_listT, x_listO, x_isN, x_isNn, x_isNi, x_isNl, x_isNt, x_isNb, x_notN, x_ixL, x_ixT, x_ixO, x_ixS, x_ix0, x_ix1, x_ix2, x_sl, x_slO, x_slT, x_inL, x_inO, x_ninL, x_ninO]
      exact ⟨_, rfl, hC, by simpa using hlen, fun v hv => by
        obtain ⟨p, hp', rfl⟩ := List.mem_map.mp hv
        have := hF p hp'
        exact ⟨this.1, fun x hx => by cases hx; exact this.2⟩⟩
end G
set_option Elab.async false
set_option linter.all false
set_option maxRecDepth 100000
namespace PL
open PySem
theorem cut_from {ds : List D} {k : Int} (h0 : 0 ≤ k) (h1 : k ≤ (ds.length : Int)) : cutD ds (some k) none = ds.drop k.toNat := by
  unfold cutD HT.sIx
  simp only []
  rw [if_neg (by omega), Nat.min_eq_left (by omega), List.take_of_length_le (by rw [List.length_drop]; omega)]
theorem cut_to {ds : List D} {k : Int} (h0 : 0 ≤ k) (h1 : k ≤ (ds.length : Int)) : cutD ds (some 0) (some k) = ds.take k.toNat := by
  unfold cutD HT.sIx
  simp only []
  rw [if_neg (by omega), if_neg (by omega), Nat.min_eq_left (by omega)]
  simp
theorem p_cut {N N' : En → Prop} {R : T → Prop} {B C : En → Prop} {o : Out} (h : o.P N' R B C) (h1 : ∀ ρ, N' ρ → N ρ) : o.P N R B C := h.imp h1 (fun _ z => z) (fun _ z => z) fun _ z => z
end PL
namespace G
open PL PySem
/-! the end: both ways of finding it -/
theorem lastL_props : ∀ (vs : List V) (a : Int), a ≤ lastL a vs ∧ (∀ v ∈ vs, v.1 ≤ lastL a vs ∧ ∀ x, v.2 = some x → x ≤ lastL a vs) ∧ (∀ m, a ≤ m → (∀ v ∈ vs, v.1 ≤ m ∧ ∀ x, v.2 = some x → x ≤ m) → lastL a vs ≤ m)
  | [], a => ⟨Int.le_refl _, (fun v h => by cases h), fun m h _ => h⟩
  | (b, bk) :: vs, a => by
    have e : lastL a ((b, bk) :: vs) = lastL (max (max a b) (bk.getD b)) vs := rfl
    obtain ⟨h1, h2, h3⟩ := lastL_props vs (max (max a b) (bk.getD b))
    rw [e]
    refine ⟨by omega, fun v hv => ?_, fun m hm hv => h3 m ?_ fun v q => hv v (List.mem_cons_of_mem _ q)⟩
    · rcases List.mem_cons.mp hv with rfl | hv
      · refine ⟨by simp only; omega, fun x hx => ?_⟩
        have hx : bk = some x := hx
        subst hx
        simp only [Option.getD_some] at h1 ⊢
        omega
      · exact h2 v hv
    · have q := hv (b, bk) List.mem_cons_self
      cases bk with
      | none => simp only [Option.getD_none] at *; omega
      | some x => have := q.2 x rfl; simp only [Option.getD_some] at *; omega
def AllBack (vs : List V) : Prop := ∀ v ∈ vs, ∃ x, v.2 = some x
theorem back_or_open : ∀ (vs : List V) (b : Int), Chain b vs → AllBack vs ∨ ∃ us c, vs = us ++ [(c, none)]
  | [], _, _ => .inl fun v h => by cases h
  | (c, none) :: vs, b, h => by
    have h2 : vs = [] := h.2
    subst h2
    exact .inr ⟨[], c, rfl⟩
  | (c, some x) :: vs, b, h => by
    rcases back_or_open vs x h.2.2 with z | ⟨us, c', rfl⟩
    · refine .inl fun v hv => ?_
      rcases List.mem_cons.mp hv with rfl | hv
      · exact ⟨x, rfl⟩
      · exact z v hv
    · exact .inr ⟨(c, some x) :: us, c', rfl⟩
theorem high_back (vs : List V) (h : AllBack vs) : highC vs = 10400 := by
  rcases List.eq_nil_or_concat vs with rfl | ⟨us, v, rfl⟩
  · rfl
  · obtain ⟨x, hx⟩ := h v (by simp)
    obtain ⟨c, bk⟩ := v
    have hx : bk = some x := hx
    subst hx
    rw [List.concat_eq_append]
    simp [highC]
theorem high_open (us : List V) (c : Int) : highC (us ++ [(c, none)]) = c := by simp [highC]
theorem away_back {vs : List V} {m d : Int} (h : AllBack vs) (hm : ∀ v ∈ vs, ∀ x, v.2 = some x → x ≤ m) (hd : m ≤ d) : awayB vs d = false := by
  unfold awayB
  rw [List.any_eq_false]
  intro v hv
  obtain ⟨x, hx⟩ := h v hv
  have := hm v hv x hx
  simp [inV, hx]; omega
theorem cnt_open (cl : List Int) (begin : Int) (us : List V) (c d : Int) (hb : begin ≤ c) (hd : c ≤ d) : cnt cl begin (us ++ [(c, none)]) d = cnt cl begin (us ++ [(c, none)]) c := by
  obtain ⟨n, hn⟩ := Int.eq_ofNat_of_zero_le (show 0 ≤ d - c by omega)
  obtain rfl : d = c + (n : Int) := by omega
  clear hn hd
  induction n with
  | zero => simp
  | succ n ih =>
    rw [show c + ((n + 1 : Nat) : Int) = c + (n : Int) + 1 by omega, cnt_step (by omega), ih]
    have e : awayB (us ++ [(c, none)]) (c + (n : Int)) = true := by
      unfold awayB
      rw [List.any_eq_true]
      exact ⟨(c, none), by simp, by simp [inV]; omega⟩
    rw [if_neg (by simp [open1, e])]; omega
theorem cnt_grow (cl : List Int) (begin m : Int) (vs : List V) (hn : cl.Nodup) (hb : begin ≤ m) (ha : ∀ d, m ≤ d → awayB vs d = false) (n : Nat) : (n : Int) ≤ cnt cl begin vs (m + n) + ((cl.filter fun d => decide (m ≤ d) && decide (d < m + n)).length : Nat) := by
  induction n with
  | zero => unfold cnt; omega
  | succ n ih =>
    rw [show m + ((n + 1 : Nat) : Int) = m + (n : Int) + 1 by omega, cnt_step (by omega), filter_step cl m (m + (n : Int)) hn (by omega)]
    have e := ha (m + (n : Int)) (by omega)
    by_cases hc : m + (n : Int) ∈ cl
    · simp only [hc, if_true]
      split <;> omega
    · rw [if_pos (by simp [open1, hc, e])]
      simp only [hc, if_false]
      omega
theorem end_same (cl : List Int) (vs : List V) (days begin : Int) (hn : cl.Nodup) (hB : Below 10000 cl) (hc : Chain begin vs) (hd : 0 ≤ days) (hd2 : days ≤ 400) (hb : begin ≤ 9999) (hv : ∀ v ∈ vs, v.1 ≤ 9999 ∧ ∀ x, v.2 = some x → x ≤ 9999) (r1 r2 : Option Int)
    (h1 : match r1 with
      | none => ∀ d, begin ≤ d → d < begin + turnsL cl days begin vs → cnt cl begin vs d < days
      | some e => begin ≤ e ∧ days ≤ cnt cl begin vs e ∧ ∀ d, begin ≤ d → d < e → cnt cl begin vs d < days)
    (h2 : match r2 with
      | none => countedC cl begin vs (highC vs) < days
      | some e => begin ≤ e ∧ e ≤ highC vs ∧ days ≤ countedC cl begin vs e ∧ (begin < e → countedC cl begin vs (e - 1) < days)) :
    r1 = r2 ∧ (r1 = none ↔ ∃ us c, vs = us ++ [(c, none)] ∧ cnt cl begin vs c < days) := by
  have ce := counted_eq cl begin vs hn hc
  obtain ⟨l1, l2, l3⟩ := lastL_props vs begin
  have hfl : ∀ (m : Int) (n : Nat), (cl.filter fun d => decide (m ≤ d) && decide (d < m + n)).length ≤ cl.length := fun m n => List.length_filter_le _ _
  rcases back_or_open vs begin hc with hback | ⟨us, c, hus⟩
  · -- nobody is away for good
    have hh := high_back vs hback
    have g1 : days ≤ cnt cl begin vs 10400 := by
      have ha : ∀ d, (10000 : Int) ≤ d → awayB vs d = false := fun d h => away_back hback (fun v hv' x hx => (hv v hv').2 x hx) (by omega)
      have g := cnt_grow cl begin 10000 vs hn (by omega) ha 400
      have e : (cl.filter fun d => decide ((10000 : Int) ≤ d) && decide (d < 10000 + ((400 : Nat) : Int))) = [] := by
        refine List.filter_eq_nil_iff.mpr fun d hd => ?_
        have := hB d hd
        simp; omega
      rw [e] at g
      have e2 : (10000 : Int) + ((400 : Nat) : Int) = 10400 := by decide
      rw [e2] at g
      simp only [List.length_nil] at g
      omega
    have no2 : r2 ≠ none := by
      rintro rfl
      have h2 : countedC cl begin vs (highC vs) < days := h2
      rw [hh, ce 10400 (by omega)] at h2
      omega
    have no1 : r1 ≠ none := by
      rintro rfl
      have h1 : ∀ d, begin ≤ d → d < begin + turnsL cl days begin vs → cnt cl begin vs d < days := h1
      obtain ⟨n, hn'⟩ := Int.eq_ofNat_of_zero_le (show 0 ≤ days + (cl.length : Int) by omega)
      have ha : ∀ d, lastL begin vs ≤ d → awayB vs d = false := fun d h => away_back hback (fun v hv' x hx => (l2 v hv').2 x hx) h
      have g := cnt_grow cl begin (lastL begin vs) vs hn l1 ha n
      have := hfl (lastL begin vs) n
      have := h1 (lastL begin vs + n) (by omega) (by unfold turnsL; omega)
      omega
    cases r1 with
    | none => exact absurd rfl no1
    | some e1 =>
      cases r2 with
      | none => exact absurd rfl no2
      | some e2 =>
        obtain ⟨a1, a2, a3⟩ := h1
        obtain ⟨b1, b2, b3, b4⟩ := h2
        rw [ce e2 b1] at b3
        have le1 : ¬ e2 < e1 := fun z => by have := a3 e2 b1 z; omega
        have le2 : ¬ e1 < e2 := fun z => by
          have b4 := b4 (by omega)
          rw [ce (e2 - 1) (by omega)] at b4
          have := cnt_mono cl begin vs a1 (show e1 ≤ e2 - 1 by omega)
          omega
        refine ⟨by rw [show e1 = e2 by omega], (fun z => by cases z), fun ⟨us, c, e, _⟩ => ?_⟩
        obtain ⟨x, hx⟩ := hback (c, none) (by rw [e]; simp)
        cases hx
  · have hcb : begin ≤ c := chain_le hc (c, none) (by rw [hus]; simp)
    have hh : highC vs = c := by rw [hus]; exact high_open us c
    have hcl : c ≤ lastL begin vs := (l2 (c, none) (by rw [hus]; simp)).1
    have flat : ∀ d, c ≤ d → cnt cl begin vs d = cnt cl begin vs c := fun d h => by rw [hus]; exact cnt_open cl begin us c d hcb h
    have uniq : ∀ us' c', vs = us' ++ [(c', none)] → c' = c := fun us' c' e => by
      rw [hus] at e
      have := List.append_inj_right' e rfl
      simpa using this.symm
    rw [hh] at h2
    cases r1 with
    | none =>
      have lt : cnt cl begin vs c < days := h1 c hcb (by unfold turnsL; omega)
      cases r2 with
      | none => exact ⟨rfl, fun _ => ⟨us, c, hus, lt⟩, fun _ => rfl⟩
      | some e2 =>
        obtain ⟨b1, b2, b3, b4⟩ := h2
        rw [ce e2 b1] at b3
        have := cnt_mono cl begin vs b1 b2
        omega
    | some e1 =>
      obtain ⟨a1, a2, a3⟩ := h1
      have ge : days ≤ cnt cl begin vs c := by
        by_cases h : e1 ≤ c
        · have := cnt_mono cl begin vs a1 h; omega
        · have := flat e1 (by omega); omega
      cases r2 with
      | none =>
        have h2 : countedC cl begin vs c < days := h2
        rw [ce c hcb] at h2
        omega
      | some e2 =>
        obtain ⟨b1, b2, b3, b4⟩ := h2
        rw [ce e2 b1] at b3
        have le1 : ¬ e2 < e1 := fun z => by have := a3 e2 b1 z; omega
        have le2 : ¬ e1 < e2 := fun z => by
          have b4 := b4 (by omega)
          rw [ce (e2 - 1) (by omega)] at b4
          have := cnt_mono cl begin vs a1 (show e1 ≤ e2 - 1 by omega)
          omega
        refine ⟨by rw [show e1 = e2 by omega], fun z => (by cases z), fun ⟨us', c', e, q⟩ => ?_⟩
        rw [uniq us' c' e] at q
        omega
/-! what was away before -/
theorem chain_prefix : ∀ {b : Int} {us ws : List V}, Chain b (us ++ ws) → Chain b us
  | b, [], ws, _ => trivial
  | b, (c, none) :: us, ws, h => by
    have h2 : us ++ ws = [] := h.2
    have h3 : us = [] := by cases us with
      | nil => rfl
      | cons a us => cases h2
    subst h3
    exact ⟨h.1, rfl⟩
  | b, (c, some x) :: us, ws, h => ⟨h.1, h.2.1, chain_prefix h.2.2⟩
theorem chain_later : ∀ {b : Int} {us ws : List V} {v : V}, Chain b (us ++ v :: ws) → ∀ w ∈ v :: ws, v.1 ≤ w.1
  | b, [], ws, v, h, w, hw => by
    rcases List.mem_cons.mp hw with e | hw2
    · rw [e]; exact Int.le_refl _
    · obtain ⟨c, bk⟩ := v
      cases bk with
      | none =>
        have h2 : ws = [] := h.2
        subst h2
        cases hw2
      | some x =>
        have h3 : c ≤ x ∧ Chain x ws := h.2
        have := chain_le h3.2 w hw2
        show c ≤ w.1
        omega
  | b, (c, none) :: us, ws, v, h, w, hw => by
    have h2 : us ++ v :: ws = [] := h.2
    simp at h2
  | b, (c, some x) :: us, ws, v, h, w, hw => chain_later h.2.2 w hw
theorem cnt_prefix (cl : List Int) (begin : Int) {b : Int} {us ws : List V} {v : V} (h : Chain b (us ++ v :: ws)) : cnt cl begin (us ++ v :: ws) v.1 = cnt cl begin us v.1 := by
  unfold cnt
  have e : (rngI begin v.1).filter (open1 cl (us ++ v :: ws)) = (rngI begin v.1).filter (open1 cl us) := by
    refine List.filter_congr fun d hd => ?_
    have hd := (rngI_mem.mp hd).2
    have ha : awayB (us ++ v :: ws) d = awayB us d := by
      have z : (v :: ws).any (fun v => inV v d) = false := by
        rw [List.any_eq_false]
        intro w hw
        have := chain_later h w hw
        simp [inV]; omega
      unfold awayB
      rw [List.any_append, z, Bool.or_false]
    simp only [open1, ha]
  rw [e]
end G
set_option Elab.async false
set_option linter.all false
set_option maxRecDepth 100000
namespace G
open PL PySem
theorem price_nonneg (t : Tf) (hc : Cents t) (x : Int) : 0 ≤ priceC t x := by
  induction t with
  | nil => exact Int.le_refl _
  | cons p t ih =>
    obtain ⟨n, c⟩ := p
    have h1 := ih fun q hq => hc q (List.mem_cons_of_mem _ hq)
    have h2 := (hc (n, c) List.mem_cons_self).1
    have : 0 ≤ max 0 (lastC t x - n + 1) * c := Int.mul_nonneg (by omega) h2
    simp only [priceC]
    omega
theorem price_zero (t : Tf) (h : ∀ p ∈ t, 1 ≤ p.1) : priceC t 0 = 0 := by
  rw [← long_price]
  exact long_zero t 0 fun p hp => by have := h p hp; omega
theorem lay_tf (t : Tf) : (TL t).canLay0 = true := by
  simp only [PyData.canLay0]
  exact layAll fun d hd => by
    obtain ⟨p, _, rfl⟩ := List.mem_map.mp hd
    rfl
theorem depth_tf (t : Tf) : (TL t).depth ≤ 64 := by
  simp only [PyData.depth]
  have : PyData.depthAll (t.map pD) ≤ 1 := depthAll_le fun d hd => by
    obtain ⟨p, _, rfl⟩ := List.mem_map.mp hd
    simp [pD, PyData.depth, PyData.depthAll]
  omega
theorem same_int (i : Int) : d__law_same 12 [.sh (.int i), .sh (.int i)] = .ok (.sh (.bool true)) := w_same _ rfl
theorem loop_same {DS DP DL : List T → Rs T} {t : Tf} {ρ0 : List (Option T)} {a b c d o5 : Option T} (ha : True) {l : List Int} {ei : En → Rs (List D)} {N : En → Prop} {R : T → Prop} {B C : En → Prop}
    (hi : ei (a :: b :: some (.sh (TL t)) :: c :: d :: o5 :: ρ0) = .ok (l.map PyData.int)) (hP : ∀ x ∈ l, ∃ v : Int, DP [.sh (TL t), .sh (I x)] = .ok (.sh (I v)) ∧ DL [.sh (TL t), .sh (I x)] = .ok (.sh (I v)))
    (hS : ∀ i : Int, DS [.sh (.int i), .sh (.int i)] = .ok (.sh (.bool true))) (hN : ∀ o, N (a :: b :: some (.sh (TL t)) :: c :: d :: o :: ρ0)) :
    Out.P ((sFor ei (egName 5) (sShare 5 (sShare 2 (sIf (evNot (evTru (evSh (evCall 2 DS (evCons (evSh (evCall 2 DP (evCons (evVar 2) (evCons (evVar 5) evNil)))) (evCons (evSh (evCall 2 DL (evCons (evVar 2) (evCons (evVar 5) evNil)))) evNil)))))) (sRet (evC (.bool false))) sNil)))) (a :: b :: some (.sh (TL t)) :: c :: d :: o5 :: ρ0)) N R B C := by
  refine p_forM (l := l) (f := PyData.int) hi (fun r ρ => (∃ o, ρ = a :: b :: some (.sh (TL t)) :: c :: d :: o :: ρ0) ∧ ∀ x ∈ r, x ∈ l) ⟨⟨_, rfl⟩, fun x h => h⟩ ?_ ?_
  · rintro x r ρ ⟨⟨o, rfl⟩, hx⟩
    obtain ⟨v, h1, h2⟩ := hP x (hx x List.mem_cons_self)
    refine ⟨_, rfl, ?_⟩
    refine p_share (p_share (p_ifB (k := false) ?_ (fun h => by cases h) fun _ => p_nil ⟨⟨_, rfl⟩, fun y hy => hx y (List.mem_cons_of_mem _ hy)⟩))
    simp only [evVar, En.get, evC, evBin, evSh, evEsc, evB, evEB, evChain, evAnd, evOr, evNot, evAndV, evOrV, evNotV, evIf, evCons, evNil, evLst, evTup, evCall, callF, evSl, eoN, eoS, evUn, evC1, evIsi, evTru, erg1, erg2, evLRg, evTRg, eiSeq, eiEnum, eiZip, x_bind, x_rs, x_asB, x_asI, x_bifB, x_bifO, x_andB, x_orB, x_bifI, List.length_map, en0, List.replicate, List.cons_append, List.nil_append, T.asD, T.items, T.itL, T.itT, T.er, T.ers, T.noScr, T.noScrs, T.shs, mkL, mkT, T.isSh, T.argOk, T.toArg, T.solid, T.isL, T.parts, putAll, T.tru, T.ty, tyD, En.put, En.clr, En.share, egName, egTup, egCons, egNil, Option.map_some, Option.map_none, Option.bind_some, Option.bind, List.all_cons, List.all_nil, List.map_cons, List.map_nil, List.length_cons, List.length_nil, Bool.and_true, Bool.true_and, Bool.and_self, Bool.not_true, Bool.not_false, if_true, cond_true, cond_false, Bool.false_eq_true, if_false, true_and, and_true, Rs.P_ok, Bool.and_false, Bool.false_and, Bool.false_or, Bool.or_false, Bool.true_or, Bool.or_true, Nat.reduceAdd, Nat.reduceLeDiff, Nat.reduceEqDiff, reduceCtorEq, x_add, x_iadd, x_sub, x_lt, x_le, x_gt, x_ge, x_eq, x_ne, x_eqB, x_neB, x_eqS, x_neS, x_max2, x_min2, x_int1, x_intB, x_lenL, x_lenT, x_lenO, x_lenS, x_sumL, x_sumO, x_sortL, x_sortO, x_listL, x_listT, x_listO, x_isN, x_isNn, x_isNi, x_isNl, x_isNt, x_isNb, x_notN, x_ixL, x_ixT, x_ixO, x_ixS, x_ix0, x_ix1, x_ix2, x_sl, x_slO, x_slT, x_inL, x_inO, x_ninL, x_ninO]
    rw [h1, h2]
    simp only [evVar, En.get, evC, evBin, evSh, evEsc, evB, evEB, evChain, evAnd, evOr, evNot, evAndV, evOrV, evNotV, evIf, evCons, evNil, evLst, evTup, evCall, callF, evSl, eoN, eoS, evUn, evC1, evIsi, evTru, erg1, erg2, evLRg, evTRg, eiSeq, eiEnum, eiZip, x_bind, x_rs, x_asB, x_asI, x_bifB, x_bifO, x_andB, x_orB, x_bifI, List.length_map, en0, List.replicate, List.cons_append, List.nil_append, T.asD, T.items, T.itL, T.itT, T.er, T.ers, T.noScr, T.noScrs, T.shs, mkL, mkT, T.isSh, T.argOk, T.toArg, T.solid, T.isL, T.parts, putAll, T.tru, T.ty, tyD, En.put, En.clr, En.share, egName, egTup, egCons, egNil, Option.map_some, Option.map_none, Option.bind_some, Option.bind, List.all_cons, List.all_nil, List.map_cons, List.map_nil, List.length_cons, List.length_nil, Bool.and_true, Bool.true_and, Bool.and_self, Bool.not_true, Bool.not_false, if_true, cond_true, cond_false, Bool.false_eq_true, if_false, true_and, and_true, Rs.P_ok, Bool.and_false, Bool.false_and, Bool.false_or, Bool.or_false, Bool.true_or, Bool.or_true, Nat.reduceAdd, Nat.reduceLeDiff, Nat.reduceEqDiff, reduceCtorEq, x_add, x_iadd, x_sub, x_lt, x_le, x_gt, x_ge, x_eq, x_ne, x_eqB, x_neB, x_eqS, x_neS, x_max2, x_min2, x_int1, x_intB, x_lenL, x_lenT, x_lenO, x_lenS, x_sumL, x_sumO, x_sortL, x_sortO, x_listL, x_listT, x_listO, x_isN, x_isNn, x_isNi, x_isNl, x_isNt, x_isNb, x_notN, x_ixL, x_ixT, x_ixO, x_ixS, x_ix0, x_ix1, x_ix2, x_sl, x_slO, x_slT, x_inL, x_inO, x_ninL, x_ninO, hS]
  · rintro ρ ⟨⟨o, rfl⟩, _⟩
    exact hN o
theorem loop_money {DM DI DL : List T → Rs T} {t : Tf} {a b c d e f g h o9 o10 z : Option T} {l : List Int} {ei : En → Rs (List D)} {N : En → Prop} {R : T → Prop} {B C : En → Prop}
    (hi : ei [a, b, some (.sh (TL t)), c, d, e, f, g, h, o9, o10, z] = .ok (l.map PyData.int)) (hM : ∀ x ∈ l, ∃ m : Int, DM [.sh (TL t), .sh (I x)] = .ok (.sh (I m)) ∧ 0 ≤ m ∧ m ≤ 1000000000 ∧ priceC t m ≤ x ∧ (m < 1000000000 → x < priceC t (m + 1)))
    (hL : ∀ x : Int, DL [.sh (TL t), .sh (I x)] = .ok (.sh (I (priceC t x)))) (hI : ∀ i : Int, DI [.sh (I i)] = .ok (.sh (.bool true))) (hN : ∀ o9 o10, N [a, b, some (.sh (TL t)), c, d, e, f, g, h, o9, o10, z]) :
    Out.P ((sFor ei (egName 9) (sSeq (sShare 9 (sShare 2 (sSet 10 [] (evSh (evCall 2 DM (evCons (evVar 2) (evCons (evVar 9) evNil))))))) (sSeq (sShare 2 (sShare 10 (sIf (evOr (evNot (evTru (evSh (evCall 1 DI (evCons (evVar 10) evNil))))) (evOr (evEB (evBin fLtI (evVar 10) (evSh (evC (.int 0))))) (evOr (evEB (evBin fGtI (evVar 10) (evSh (evBin fPow (evSh (evC (.int 10))) (evSh (evC (.int 9))))))) (evEB (evBin fGtI (evSh (evCall 2 DL (evCons (evVar 2) (evCons (evVar 10) evNil)))) (evVar 9)))))) (sRet (evC (.bool false))) sNil))) (sShare 2 (sIf (evAnd (evEB (evBin fLtI (evVar 10) (evSh (evBin fPow (evSh (evC (.int 10))) (evSh (evC (.int 9))))))) (evEB (evBin fLeI (evSh (evCall 2 DL (evCons (evVar 2) (evCons (evSh (evBin fAdd (evVar 10) (evSh (evC (.int 1))))) evNil)))) (evVar 9)))) (sRet (evC (.bool false))) sNil))))
      [a, b, some (.sh (TL t)), c, d, e, f, g, h, o9, o10, z])) N R B C := by
  refine p_forM (l := l) (f := PyData.int) hi (fun r ρ => (∃ o9 o10, ρ = [a, b, some (.sh (TL t)), c, d, e, f, g, h, o9, o10, z]) ∧ ∀ x ∈ r, x ∈ l) ⟨⟨_, _, rfl⟩, fun x h => h⟩ ?_ ?_
  · rintro x r ρ ⟨⟨o9, o10, rfl⟩, hx⟩
    obtain ⟨m, em, m0, m1, m2, m3⟩ := hM x (hx x List.mem_cons_self)
    refine ⟨_, rfl, ?_⟩
    refine p_seq (p_share (p_share (p_set ?_)))
    simp only [evVar, En.get, evC, evBin, evSh, evEsc, evB, evEB, evChain, evAnd, evOr, evNot, evAndV, evOrV, evNotV, evIf, evCons, evNil, evLst, evTup, evCall, callF, evSl, eoN, eoS, evUn, evC1, evIsi, evTru, erg1, erg2, evLRg, evTRg, eiSeq, eiEnum, eiZip, x_bind, x_rs, x_asB, x_asI, x_bifB, x_bifO, x_andB, x_orB, x_bifI, List.length_map, en0, List.replicate, List.cons_append, List.nil_append, T.asD, T.items, T.itL, T.itT, T.er, T.ers, T.noScr, T.noScrs, T.shs, mkL, mkT, T.isSh, T.argOk, T.toArg, T.solid, T.isL, T.parts, putAll, T.tru, T.ty, tyD, En.put, En.clr, En.share, egName, egTup, egCons, egNil, Option.map_some, Option.map_none, Option.bind_some, Option.bind, List.all_cons, List.all_nil, List.map_cons, List.map_nil, List.length_cons, List.length_nil, Bool.and_true, Bool.true_and, Bool.and_self, Bool.not_true, Bool.not_false, if_true, cond_true, cond_false, Bool.false_eq_true, if_false, true_and, and_true, Rs.P_ok, Bool.and_false, Bool.false_and, Bool.false_or, Bool.or_false, Bool.true_or, Bool.or_true, Nat.reduceAdd, Nat.reduceLeDiff, Nat.reduceEqDiff, reduceCtorEq, x_add, x_iadd, x_sub, x_lt, x_le, x_gt, x_ge, x_eq, x_ne, x_eqB, x_neB, x_eqS, x_neS, x_max2, x_min2, x_int1, x_intB, x_lenL, x_lenT, x_lenO, x_lenS, x_sumL, x_sumO, x_sortL, x_sortO, x_listL, x_listT, x_listO, x_isN, x_isNn, x_isNi, x_isNl, x_isNt, x_isNb, x_notN, x_ixL, x_ixT, x_ixO, x_ixS, x_ix0, x_ix1, x_ix2, x_sl, x_slO, x_slT, x_inL, x_inO, x_ninL, x_ninO, em]
    refine p_seq (p_share (p_share (p_ifB (k := false) ?_ (fun h => by cases h) fun _ => p_nil (p_share (p_ifB (k := false) ?_ (fun h => by cases h) fun _ => p_nil ⟨⟨_, _, rfl⟩, fun y hy => hx y (List.mem_cons_of_mem _ hy)⟩)))))
    · simp only [evVar, En.get, evC, evBin, evSh, evEsc, evB, evEB, evChain, evAnd, evOr, evNot, evAndV, evOrV, evNotV, evIf, evCons, evNil, evLst, evTup, evCall, callF, evSl, eoN, eoS, evUn, evC1, evIsi, evTru, erg1, erg2, evLRg, evTRg, eiSeq, eiEnum, eiZip, x_bind, x_rs, x_asB, x_asI, x_bifB, x_bifO, x_andB, x_orB, x_bifI, List.length_map, en0, List.replicate, List.cons_append, List.nil_append, T.asD, T.items, T.itL, T.itT, T.er, T.ers, T.noScr, T.noScrs, T.shs, mkL, mkT, T.isSh, T.argOk, T.toArg, T.solid, T.isL, T.parts, putAll, T.tru, T.ty, tyD, En.put, En.clr, En.share, egName, egTup, egCons, egNil, Option.map_some, Option.map_none, Option.bind_some, Option.bind, List.all_cons, List.all_nil, List.map_cons, List.map_nil, List.length_cons, List.length_nil, Bool.and_true, Bool.true_and, Bool.and_self, Bool.not_true, Bool.not_false, if_true, cond_true, cond_false, Bool.false_eq_true, if_false, true_and, and_true, Rs.P_ok, Bool.and_false, Bool.false_and, Bool.false_or, Bool.or_false, Bool.true_or, Bool.or_true, Nat.reduceAdd, Nat.reduceLeDiff, Nat.reduceEqDiff, reduceCtorEq, x_add, x_iadd, x_sub, x_lt, x_le, x_gt, x_ge, x_eq, x_ne, x_eqB, x_neB, x_eqS, x_neS, x_max2, x_min2, x_int1, x_intB, x_lenL, x_lenT, x_lenO, x_lenS, x_sumL, x_sumO, x_sortL, x_sortO, x_listL, x_listT, x_listO, x_isN, x_isNn, x_isNi, x_isNl, x_isNt, x_isNb, x_notN, x_ixL, x_ixT, x_ixO, x_ixS, x_ix0, x_ix1, x_ix2, x_sl, x_slO, x_slT, x_inL, x_inO, x_ninL, x_ninO, hI, x_pow109, hL]
      have e1 : decide (m < 0) = false := decide_eq_false (by omega)
      have e2 : decide (1000000000 < m) = false := decide_eq_false (by omega)
      have e3 : decide (x < priceC t m) = false := decide_eq_false (by omega)
      rw [e1, e2, e3]; rfl
    · simp only [evVar, En.get, evC, evBin, evSh, evEsc, evB, evEB, evChain, evAnd, evOr, evNot, evAndV, evOrV, evNotV, evIf, evCons, evNil, evLst, evTup, evCall, callF, evSl, eoN, eoS, evUn, evC1, evIsi, evTru, erg1, erg2, evLRg, evTRg, eiSeq, eiEnum, eiZip, x_bind, x_rs, x_asB, x_asI, x_bifB, x_bifO, x_andB, x_orB, x_bifI, List.length_map, en0, List.replicate, List.cons_append, List.nil_append, T.asD, T.items, T.itL, T.itT, T.er, T.ers, T.noScr, T.noScrs, T.shs, mkL, mkT, T.isSh, T.argOk, T.toArg, T.solid, T.isL, T.parts, putAll, T.tru, T.ty, tyD, En.put, En.clr, En.share, egName, egTup, egCons, egNil, Option.map_some, Option.map_none, Option.bind_some, Option.bind, List.all_cons, List.all_nil, List.map_cons, List.map_nil, List.length_cons, List.length_nil, Bool.and_true, Bool.true_and, Bool.and_self, Bool.not_true, Bool.not_false, if_true, cond_true, cond_false, Bool.false_eq_true, if_false, true_and, and_true, Rs.P_ok, Bool.and_false, Bool.false_and, Bool.false_or, Bool.or_false, Bool.true_or, Bool.or_true, Nat.reduceAdd, Nat.reduceLeDiff, Nat.reduceEqDiff, reduceCtorEq, x_add, x_iadd, x_sub, x_lt, x_le, x_gt, x_ge, x_eq, x_ne, x_eqB, x_neB, x_eqS, x_neS, x_max2, x_min2, x_int1, x_intB, x_lenL, x_lenT, x_lenO, x_lenS, x_sumL, x_sumO, x_sortL, x_sortO, x_listL, x_listT, x_listO, x_isN, x_isNn, x_isNi, x_isNl, x_isNt, x_isNb, x_notN, x_ixL, x_ixT, x_ixO, x_ixS, x_ix0, x_ix1, x_ix2, x_sl, x_slO, x_slT, x_inL, x_inO, x_ninL, x_ninO, x_pow109, hL]
      by_cases h : m < 1000000000
      · have e3 : decide (priceC t (m + 1) ≤ x) = false := decide_eq_false (by have := m3 h; omega)
        rw [e3, Bool.and_false]
      · rw [decide_eq_false h, Bool.false_and]
  · rintro ρ ⟨⟨o9, o10, rfl⟩, _⟩
    exact hN o9 o10
theorem w_tariffs (ns dr : List Int) (hl : dr.length = 60) (hb : Below 50400 dr) : d__law_tariffs [.scr ns, .sh (L dr)] = .ok (.sh (.bool true)) := by
  have hv := hb.at (by decide)
  obtain ⟨t, et, tne, tl, ts, tn, tc⟩ := w_tariff dr (by omega) hb
  have tl100 : t.length ≤ 100 := by omega
  have t1 : ∀ p ∈ t, 1 ≤ p.1 := fun p hp => (tn p hp).1
  have tpos : 0 < t.length := List.length_pos_iff.mpr tne
  obtain ⟨c1, ec1⟩ := Sh.law_cell ns 1 (by decide)
  obtain ⟨gs, eg, gl, gb⟩ := Sh.law_numbers c1 6 1000000001 (by decide) (by decide) (by decide) (by decide)
  have gv := gb.at (by decide)
  have hP := fun x => w_price_of t x tc tl100
  have hL := fun x => w_long_price t x tc tl100
  have hM := fun x h => w_most_for t x tc tl100 h
  have hQ := fun x h1 h2 => w_price t x h1 h2
  have hS := same_int
  have hI := w_is_int
  rw [← cell_eq] at ec1
  rw [← numbers_eq] at eg
  refine fn_eq rfl ?_
  unfold s__law_tariffs
  generalize d__law_same 12 = DS at hS ⊢
  generalize d_price_of = DP at hP ⊢
  generalize d__law_long_price = DL at hL ⊢
  generalize d_most_for = DM at hM ⊢
  generalize d__law_price = DQ at hQ ⊢
  generalize d__law_is_int = DI at hI ⊢
  generalize d__law_tariff = DT at et ⊢
  generalize d__law_cell = DC at ec1 ⊢
  generalize d__law_numbers = DN at eg ⊢
  as_aux_lemma =>
    refine p_seq (p_share (p_set ?_))
    simp only [evVar, En.get, evC, evBin, evSh, evEsc, evB, evEB, evChain, evAnd, evOr, evNot, evAndV, evOrV, evNotV, evIf, evCons, evNil, evLst, evTup, evCall, callF, evSl, eoN, eoS, evUn, evC1, evIsi, evTru, erg1, erg2, evLRg, evTRg, eiSeq, eiEnum, eiZip, x_bind, x_rs, x_asB, x_asI, x_bifB, x_bifO, x_andB, x_orB, x_bifI, List.length_map, en0, List.replicate, List.cons_append, List.nil_append, T.asD, T.items, T.itL, T.itT, T.er, T.ers, T.noScr, T.noScrs, T.shs, mkL, mkT, T.isSh, T.argOk, T.toArg, T.solid, T.isL, T.parts, putAll, T.tru, T.ty, tyD, En.put, En.clr, En.share, egName, egTup, egCons, egNil, Option.map_some, Option.map_none, Option.bind_some, Option.bind, List.all_cons, List.all_nil, List.map_cons, List.map_nil, List.length_cons, List.length_nil, Bool.and_true, Bool.true_and, Bool.and_self, Bool.not_true, Bool.not_false, if_true, cond_true, cond_false, Bool.false_eq_true, if_false, true_and, and_true, Rs.P_ok, Bool.and_false, Bool.false_and, Bool.false_or, Bool.or_false, Bool.true_or, Bool.or_true, Nat.reduceAdd, Nat.reduceLeDiff, Nat.reduceEqDiff, reduceCtorEq, x_add, x_iadd, x_sub, x_lt, x_le, x_gt, x_ge, x_eq, x_ne, x_eqB, x_neB, x_eqS, x_neS, x_max2, x_min2, x_int1, x_intB, x_lenL, x_lenT, x_lenO, x_lenS, x_sumL, x_sumO, x_sortL, x_sortO, x_listL, x_listT, x_listO, x_isN, x_isNn, x_isNi, x_isNl, x_isNt, x_isNb, x_notN, x_ixL, x_ixT, x_ixO, x_ixS, x_ix0, x_ix1, x_ix2, x_sl, x_slO, x_slT, x_inL, x_inO, x_ninL, x_ninO, et]
    refine p_seq (p_set ?_)
    simp only [evVar, En.get, evC, evBin, evSh, evEsc, evB, evEB, evChain, evAnd, evOr, evNot, evAndV, evOrV, evNotV, evIf, evCons, evNil, evLst, evTup, evCall, callF, evSl, eoN, eoS, evUn, evC1, evIsi, evTru, erg1, erg2, evLRg, evTRg, eiSeq, eiEnum, eiZip, x_bind, x_rs, x_asB, x_asI, x_bifB, x_bifO, x_andB, x_orB, x_bifI, List.length_map, en0, List.replicate, List.cons_append, List.nil_append, T.asD, T.items, T.itL, T.itT, T.er, T.ers, T.noScr, T.noScrs, T.shs, mkL, mkT, T.isSh, T.argOk, T.toArg, T.solid, T.isL, T.parts, putAll, T.tru, T.ty, tyD, En.put, En.clr, En.share, egName, egTup, egCons, egNil, Option.map_some, Option.map_none, Option.bind_some, Option.bind, List.all_cons, List.all_nil, List.map_cons, List.map_nil, List.length_cons, List.length_nil, Bool.and_true, Bool.true_and, Bool.and_self, Bool.not_true, Bool.not_false, if_true, cond_true, cond_false, Bool.false_eq_true, if_false, true_and, and_true, Rs.P_ok, Bool.and_false, Bool.false_and, Bool.false_or, Bool.or_false, Bool.true_or, Bool.or_true, Nat.reduceAdd, Nat.reduceLeDiff, Nat.reduceEqDiff, reduceCtorEq, x_add, x_iadd, x_sub, x_lt, x_le, x_gt, x_ge, x_eq, x_ne, x_eqB, x_neB, x_eqS, x_neS, x_max2, x_min2, x_int1, x_intB, x_lenL, x_lenT, x_lenO, x_lenS, x_sumL, x_sumO, x_sortL, x_sortO, x_listL, x_listT, x_listO, x_isN, x_isNn, x_isNi, x_isNl, x_isNt, x_isNb, x_notN, x_ixL, x_ixT, x_ixO, x_ixS, x_ix0, x_ix1, x_ix2, x_sl, x_slO, x_slT, x_inL, x_inO, x_ninL, x_ninO]
    refine p_seq (p_share (p_set ?_))
    simp only [evVar, En.get, evC, evBin, evSh, evEsc, evB, evEB, evChain, evAnd, evOr, evNot, evAndV, evOrV, evNotV, evIf, evCons, evNil, evLst, evTup, evCall, callF, evSl, eoN, eoS, evUn, evC1, evIsi, evTru, erg1, erg2, evLRg, evTRg, eiSeq, eiEnum, eiZip, x_bind, x_rs, x_asB, x_asI, x_bifB, x_bifO, x_andB, x_orB, x_bifI, List.length_map, en0, List.replicate, List.cons_append, List.nil_append, T.asD, T.items, T.itL, T.itT, T.er, T.ers, T.noScr, T.noScrs, T.shs, mkL, mkT, T.isSh, T.argOk, T.toArg, T.solid, T.isL, T.parts, putAll, T.tru, T.ty, tyD, En.put, En.clr, En.share, egName, egTup, egCons, egNil, Option.map_some, Option.map_none, Option.bind_some, Option.bind, List.all_cons, List.all_nil, List.map_cons, List.map_nil, List.length_cons, List.length_nil, Bool.and_true, Bool.true_and, Bool.and_self, Bool.not_true, Bool.not_false, if_true, cond_true, cond_false, Bool.false_eq_true, if_false, true_and, and_true, Rs.P_ok, Bool.and_false, Bool.false_and, Bool.false_or, Bool.or_false, Bool.true_or, Bool.or_true, Nat.reduceAdd, Nat.reduceLeDiff, Nat.reduceEqDiff, reduceCtorEq, x_add, x_iadd, x_sub, x_lt, x_le, x_gt, x_ge, x_eq, x_ne, x_eqB, x_neB, x_eqS, x_neS, x_max2, x_min2, x_int1, x_intB, x_lenL, x_lenT, x_lenO, x_lenS, x_sumL, x_sumO, x_sortL, x_sortO, x_listL, x_listT, x_listO, x_isN, x_isNn, x_isNi, x_isNl, x_isNt, x_isNb, x_notN, x_ixL, x_ixT, x_ixO, x_ixS, x_ix0, x_ix1, x_ix2, x_sl, x_slO, x_slT, x_inL, x_inO, x_ninL, x_ninO, ec1, x_pow109, Int.reduceAdd, eg]
    -- counts, day by day
    have v20 := hv 20
    have v21 := hv 21
    refine p_seq (loop_same trivial (l := [0, 1, 2, at_ dr 20 % 150, at_ dr 21 % 40]) (by simp (disch := omega) only [evVar, En.get, evC, evBin, evSh, evEsc, evB, evEB, evChain, evAnd, evOr, evNot, evAndV, evOrV, evNotV, evIf, evCons, evNil, evLst, evTup, evCall, callF, evSl, eoN, eoS, evUn, evC1, evIsi, evTru, erg1, erg2, evLRg, evTRg, eiSeq, eiEnum, eiZip, x_bind, x_rs, x_asB, x_asI, x_bifB, x_bifO, x_andB, x_orB, x_bifI, List.length_map, en0, List.replicate, List.cons_append, List.nil_append, T.asD, T.items, T.itL, T.itT, T.er, T.ers, T.noScr, T.noScrs, T.shs, mkL, mkT, T.isSh, T.argOk, T.toArg, T.solid, T.isL, T.parts, putAll, T.tru, T.ty, tyD, En.put, En.clr, En.share, egName, egTup, egCons, egNil, Option.map_some, Option.map_none, Option.bind_some, Option.bind, List.all_cons, List.all_nil, List.map_cons, List.map_nil, List.length_cons, List.length_nil, Bool.and_true, Bool.true_and, Bool.and_self, Bool.not_true, Bool.not_false, if_true, cond_true, cond_false, Bool.false_eq_true, if_false, true_and, and_true, Rs.P_ok, Bool.and_false, Bool.false_and, Bool.false_or, Bool.or_false, Bool.true_or, Bool.or_true, Nat.reduceAdd, Nat.reduceLeDiff, Nat.reduceEqDiff, reduceCtorEq, x_add, x_iadd, x_sub, x_lt, x_le, x_gt, x_ge, x_eq, x_ne, x_eqB, x_neB, x_eqS, x_neS, x_max2, x_min2, x_int1, x_intB, x_lenL, x_lenT, x_lenO, x_lenS, x_sumL, x_sumO, x_sortL, x_sortO, x_listL, x_listT, x_listO, x_isN, x_isNn, x_isNi, x_isNl, x_isNt, x_isNb, x_notN, x_ixL, x_ixT, x_ixO, x_ixS, x_ix0, x_ix1, x_ix2, x_sl, x_slO, x_slT, x_inL, x_inO, x_ninL, x_ninO, x_at, x_mod]) (fun x hx => ⟨priceC t x, hP x, ?_⟩) hS fun o5 => ?_)
    · have hx : 0 ≤ x ∧ x < 1000 := by
        simp only [List.mem_cons, List.not_mem_nil, or_false] at hx
        omega
      rw [hQ x (by omega) (by omega), price_eq t ts t1 x (by omega)]
    · have ixl : L2.atI (t.map pD) ((t.length : Int) - 1) = some (pD t[t.length - 1]) := by
        rw [show (t.length : Int) - 1 = ((t.length - 1 : Nat) : Int) by omega]
        exact x_ixm (atI_nat (by omega))
      have nl := tn t[t.length - 1] (List.getElem_mem _)
      generalize ht : t[t.length - 1] = q at ixl nl
      obtain ⟨n, c⟩ := q
      obtain ⟨es, hes⟩ : ∃ es : List Int, es = [n + -1, n + 0, n + 1] := ⟨_, rfl⟩
      have es2 : L2.atI (es.map PyData.int) 2 = some (.int (n + 1)) := by rw [hes]; exact x_ix2
      have esl : es.length = 3 := by rw [hes]; rfl
      refine p_seq (p_set ?_)
      rw [show evSh (evComp (eiSeq (evSh (evLst (evCons (evUn fNeg (evSh (evC (.int 1)))) (evCons (evC (.int 0)) (evCons (evC (.int 1)) evNil)))))) [11] (egName 11) evYes (evBin fAdd (evBin fIx (evBin fIx (evVar 2) (evSh (evBin fSub (evSh (evC1 fLen (evCons (evVar 2) evNil))) (evSh (evC (.int 1)))))) (evSh (evC (.int 0)))) (evVar 11)))
        [some (T.scr ns), some (T.sh (L dr)), some (T.sh (TL t)), some (T.sh (TL t)), some (T.sh (L gs)), o5, none, none, none, none, none, none] = .ok (.sh (L es)) from ?_]
      · simp only [evVar, En.get, evC, evBin, evSh, evEsc, evB, evEB, evChain, evAnd, evOr, evNot, evAndV, evOrV, evNotV, evIf, evCons, evNil, evLst, evTup, evCall, callF, evSl, eoN, eoS, evUn, evC1, evIsi, evTru, erg1, erg2, evLRg, evTRg, eiSeq, eiEnum, eiZip, x_bind, x_rs, x_asB, x_asI, x_bifB, x_bifO, x_andB, x_orB, x_bifI, List.length_map, en0, List.replicate, List.cons_append, List.nil_append, T.asD, T.items, T.itL, T.itT, T.er, T.ers, T.noScr, T.noScrs, T.shs, mkL, mkT, T.isSh, T.argOk, T.toArg, T.solid, T.isL, T.parts, putAll, T.tru, T.ty, tyD, En.put, En.clr, En.share, egName, egTup, egCons, egNil, Option.map_some, Option.map_none, Option.bind_some, Option.bind, List.all_cons, List.all_nil, List.map_cons, List.map_nil, List.length_cons, List.length_nil, Bool.and_true, Bool.true_and, Bool.and_self, Bool.not_true, Bool.not_false, if_true, cond_true, cond_false, Bool.false_eq_true, if_false, true_and, and_true, Rs.P_ok, Bool.and_false, Bool.false_and, Bool.false_or, Bool.or_false, Bool.true_or, Bool.or_true, Nat.reduceAdd, Nat.reduceLeDiff, Nat.reduceEqDiff, reduceCtorEq, x_add, x_iadd, x_sub, x_lt, x_le, x_gt, x_ge, x_eq, x_ne, x_eqB, x_neB, x_eqS, x_neS, x_max2, x_min2, x_int1, x_intB, x_lenL, x_lenT, x_lenO, x_lenS, x_sumL, x_sumO, x_sortL, x_sortO, x_listL, x_listT, x_listO, x_isN, x_isNn, x_isNi, x_isNl, x_isNt, x_isNb, x_notN, x_ixL, x_ixT, x_ixO, x_ixS, x_ix0, x_ix1, x_ix2, x_sl, x_slO, x_slT, x_inL, x_inO, x_ninL, x_ninO]
        refine p_seq (loop_same trivial (l := es ++ [at_ gs 0, at_ gs 1, 1000000000]) (by rw [List.map_append]; simp (disch := first | omega | (simp only [List.length_map, List.length_cons, List.length_nil]; omega)) only [evVar, En.get, evC, evBin, evSh, evEsc, evB, evEB, evChain, evAnd, evOr, evNot, evAndV, evOrV, evNotV, evIf, evCons, evNil, evLst, evTup, evCall, callF, evSl, eoN, eoS, evUn, evC1, evIsi, evTru, erg1, erg2, evLRg, evTRg, eiSeq, eiEnum, eiZip, x_bind, x_rs, x_asB, x_asI, x_bifB, x_bifO, x_andB, x_orB, x_bifI, List.length_map, en0, List.replicate, List.cons_append, List.nil_append, T.asD, T.items, T.itL, T.itT, T.er, T.ers, T.noScr, T.noScrs, T.shs, mkL, mkT, T.isSh, T.argOk, T.toArg, T.solid, T.isL, T.parts, putAll, T.tru, T.ty, tyD, En.put, En.clr, En.share, egName, egTup, egCons, egNil, Option.map_some, Option.map_none, Option.bind_some, Option.bind, List.all_cons, List.all_nil, List.map_cons, List.map_nil, List.length_cons, List.length_nil, Bool.and_true, Bool.true_and, Bool.and_self, Bool.not_true, Bool.not_false, if_true, cond_true, cond_false, Bool.false_eq_true, if_false, true_and, and_true, Rs.P_ok, Bool.and_false, Bool.false_and, Bool.false_or, Bool.or_false, Bool.true_or, Bool.or_true, Nat.reduceAdd, Nat.reduceLeDiff, Nat.reduceEqDiff, reduceCtorEq, x_add, x_iadd, x_sub, x_lt, x_le, x_gt, x_ge, x_eq, x_ne, x_eqB, x_neB, x_eqS, x_neS, x_max2, x_min2, x_int1, x_intB, x_lenL, x_lenT, x_lenO, x_lenS, x_sumL, x_sumO, x_sortL, x_sortO, x_listL, x_listT, x_listO, x_isN, x_isNn, x_isNi, x_isNl, x_isNt, x_isNb, x_notN, x_ixL, x_ixT, x_ixO, x_ixS, x_ix0, x_ix1, x_ix2, x_sl, x_slO, x_slT, x_inL, x_inO, x_ninL, x_ninO, x_at, x_pow109, x_catL]) (fun x _ => ⟨priceC t x, hP x, hL x⟩) hS fun o5 => ?_)
        refine p_seq (p_share (p_set ?_))
        simp only [evVar, En.get, evC, evBin, evSh, evEsc, evB, evEB, evChain, evAnd, evOr, evNot, evAndV, evOrV, evNotV, evIf, evCons, evNil, evLst, evTup, evCall, callF, evSl, eoN, eoS, evUn, evC1, evIsi, evTru, erg1, erg2, evLRg, evTRg, eiSeq, eiEnum, eiZip, x_bind, x_rs, x_asB, x_asI, x_bifB, x_bifO, x_andB, x_orB, x_bifI, List.length_map, en0, List.replicate, List.cons_append, List.nil_append, T.asD, T.items, T.itL, T.itT, T.er, T.ers, T.noScr, T.noScrs, T.shs, mkL, mkT, T.isSh, T.argOk, T.toArg, T.solid, T.isL, T.parts, putAll, T.tru, T.ty, tyD, En.put, En.clr, En.share, egName, egTup, egCons, egNil, Option.map_some, Option.map_none, Option.bind_some, Option.bind, List.all_cons, List.all_nil, List.map_cons, List.map_nil, List.length_cons, List.length_nil, Bool.and_true, Bool.true_and, Bool.and_self, Bool.not_true, Bool.not_false, if_true, cond_true, cond_false, Bool.false_eq_true, if_false, true_and, and_true, Rs.P_ok, Bool.and_false, Bool.false_and, Bool.false_or, Bool.or_false, Bool.true_or, Bool.or_true, Nat.reduceAdd, Nat.reduceLeDiff, Nat.reduceEqDiff, reduceCtorEq, x_add, x_iadd, x_sub, x_lt, x_le, x_gt, x_ge, x_eq, x_ne, x_eqB, x_neB, x_eqS, x_neS, x_max2, x_min2, x_int1, x_intB, x_lenL, x_lenT, x_lenO, x_lenS, x_sumL, x_sumO, x_sortL, x_sortO, x_listL, x_listT, x_listO, x_isN, x_isNn, x_isNi, x_isNl, x_isNt, x_isNb, x_notN, x_ixL, x_ixT, x_ixO, x_ixS, x_ix0, x_ix1, x_ix2, x_sl, x_slO, x_slT, x_inL, x_inO, x_ninL, x_ninO, x_pow109]
        rw [hL]
        simp only [evVar, En.get, evC, evBin, evSh, evEsc, evB, evEB, evChain, evAnd, evOr, evNot, evAndV, evOrV, evNotV, evIf, evCons, evNil, evLst, evTup, evCall, callF, evSl, eoN, eoS, evUn, evC1, evIsi, evTru, erg1, erg2, evLRg, evTRg, eiSeq, eiEnum, eiZip, x_bind, x_rs, x_asB, x_asI, x_bifB, x_bifO, x_andB, x_orB, x_bifI, List.length_map, en0, List.replicate, List.cons_append, List.nil_append, T.asD, T.items, T.itL, T.itT, T.er, T.ers, T.noScr, T.noScrs, T.shs, mkL, mkT, T.isSh, T.argOk, T.toArg, T.solid, T.isL, T.parts, putAll, T.tru, T.ty, tyD, En.put, En.clr, En.share, egName, egTup, egCons, egNil, Option.map_some, Option.map_none, Option.bind_some, Option.bind, List.all_cons, List.all_nil, List.map_cons, List.map_nil, List.length_cons, List.length_nil, Bool.and_true, Bool.true_and, Bool.and_self, Bool.not_true, Bool.not_false, if_true, cond_true, cond_false, Bool.false_eq_true, if_false, true_and, and_true, Rs.P_ok, Bool.and_false, Bool.false_and, Bool.false_or, Bool.or_false, Bool.true_or, Bool.or_true, Nat.reduceAdd, Nat.reduceLeDiff, Nat.reduceEqDiff, reduceCtorEq, x_add, x_iadd, x_sub, x_lt, x_le, x_gt, x_ge, x_eq, x_ne, x_eqB, x_neB, x_eqS, x_neS, x_max2, x_min2, x_int1, x_intB, x_lenL, x_lenT, x_lenO, x_lenS, x_sumL, x_sumO, x_sortL, x_sortO, x_listL, x_listT, x_listO, x_isN, x_isNn, x_isNi, x_isNl, x_isNt, x_isNb, x_notN, x_ixL, x_ixT, x_ixO, x_ixS, x_ix0, x_ix1, x_ix2, x_sl, x_slO, x_slT, x_inL, x_inO, x_ninL, x_ninO]
        have w0 := price_nonneg t tc 1000000000
        generalize priceC t 1000000000 = wh at w0
        have v22 := hv 22
        have v23 := hv 23
        have g2 := gv 2
        have g3 := gv 3
        refine p_seq (p_share (p_share (p_set ?_)))
        simp (disch := first | omega | (simp only [List.length_map, List.length_cons, List.length_nil]; omega)) only [evVar, En.get, evC, evBin, evSh, evEsc, evB, evEB, evChain, evAnd, evOr, evNot, evAndV, evOrV, evNotV, evIf, evCons, evNil, evLst, evTup, evCall, callF, evSl, eoN, eoS, evUn, evC1, evIsi, evTru, erg1, erg2, evLRg, evTRg, eiSeq, eiEnum, eiZip, x_bind, x_rs, x_asB, x_asI, x_bifB, x_bifO, x_andB, x_orB, x_bifI, List.length_map, en0, List.replicate, List.cons_append, List.nil_append, T.asD, T.items, T.itL, T.itT, T.er, T.ers, T.noScr, T.noScrs, T.shs, mkL, mkT, T.isSh, T.argOk, T.toArg, T.solid, T.isL, T.parts, putAll, T.tru, T.ty, tyD, En.put, En.clr, En.share, egName, egTup, egCons, egNil, Option.map_some, Option.map_none, Option.bind_some, Option.bind, List.all_cons, List.all_nil, List.map_cons, List.map_nil, List.length_cons, List.length_nil, Bool.and_true, Bool.true_and, Bool.and_self, Bool.not_true, Bool.not_false, if_true, cond_true, cond_false, Bool.false_eq_true, if_false, true_and, and_true, Rs.P_ok, Bool.and_false, Bool.false_and, Bool.false_or, Bool.or_false, Bool.true_or, Bool.or_true, Nat.reduceAdd, Nat.reduceLeDiff, Nat.reduceEqDiff, reduceCtorEq, x_add, x_iadd, x_sub, x_lt, x_le, x_gt, x_ge, x_eq, x_ne, x_eqB, x_neB, x_eqS, x_neS, x_max2, x_min2, x_int1, x_intB, x_lenL, x_lenT, x_lenO, x_lenS, x_sumL, x_sumO, x_sortL, x_sortO, x_listL, x_listT, x_listO, x_isN, x_isNn, x_isNi, x_isNl, x_isNt, x_isNb, x_notN, x_ixL, x_ixT, x_ixO, x_ixS, x_ix0, x_ix1, x_ix2, x_sl, x_slO, x_slT, x_inL, x_inO, x_ninL, x_ninO, x_at, x_mulR, es2, hL]
        have w1 := price_nonneg t tc (n + 1)
        generalize priceC t (n + 1) = pw at w1
        refine p_seq (p_share (p_app rfl rfl ?_))
        simp (disch := first | omega | (simp only [List.length_map, List.length_cons, List.length_nil]; omega)) only [evVar, En.get, evC, evBin, evSh, evEsc, evB, evEB, evChain, evAnd, evOr, evNot, evAndV, evOrV, evNotV, evIf, evCons, evNil, evLst, evTup, evCall, callF, evSl, eoN, eoS, evUn, evC1, evIsi, evTru, erg1, erg2, evLRg, evTRg, eiSeq, eiEnum, eiZip, x_bind, x_rs, x_asB, x_asI, x_bifB, x_bifO, x_andB, x_orB, x_bifI, List.length_map, en0, List.replicate, List.cons_append, List.nil_append, T.asD, T.items, T.itL, T.itT, T.er, T.ers, T.noScr, T.noScrs, T.shs, mkL, mkT, T.isSh, T.argOk, T.toArg, T.solid, T.isL, T.parts, putAll, T.tru, T.ty, tyD, En.put, En.clr, En.share, egName, egTup, egCons, egNil, Option.map_some, Option.map_none, Option.bind_some, Option.bind, List.all_cons, List.all_nil, List.map_cons, List.map_nil, List.length_cons, List.length_nil, Bool.and_true, Bool.true_and, Bool.and_self, Bool.not_true, Bool.not_false, if_true, cond_true, cond_false, Bool.false_eq_true, if_false, true_and, and_true, Rs.P_ok, Bool.and_false, Bool.false_and, Bool.false_or, Bool.or_false, Bool.true_or, Bool.or_true, Nat.reduceAdd, Nat.reduceLeDiff, Nat.reduceEqDiff, reduceCtorEq, x_add, x_iadd, x_sub, x_lt, x_le, x_gt, x_ge, x_eq, x_ne, x_eqB, x_neB, x_eqS, x_neS, x_max2, x_min2, x_int1, x_intB, x_lenL, x_lenT, x_lenO, x_lenS, x_sumL, x_sumO, x_sortL, x_sortO, x_listL, x_listT, x_listO, x_isN, x_isNn, x_isNi, x_isNl, x_isNt, x_isNb, x_notN, x_ixL, x_ixT, x_ixO, x_ixS, x_ix0, x_ix1, x_ix2, x_sl, x_slO, x_slT, x_inL, x_inO, x_ninL, x_ninO, x_at, x_mod, hL]
        refine ⟨_, x_app (by simp only [List.length_cons, List.length_nil]; omega), ?_⟩
        simp only [evVar, En.get, evC, evBin, evSh, evEsc, evB, evEB, evChain, evAnd, evOr, evNot, evAndV, evOrV, evNotV, evIf, evCons, evNil, evLst, evTup, evCall, callF, evSl, eoN, eoS, evUn, evC1, evIsi, evTru, erg1, erg2, evLRg, evTRg, eiSeq, eiEnum, eiZip, x_bind, x_rs, x_asB, x_asI, x_bifB, x_bifO, x_andB, x_orB, x_bifI, List.length_map, en0, List.replicate, List.cons_append, List.nil_append, T.asD, T.items, T.itL, T.itT, T.er, T.ers, T.noScr, T.noScrs, T.shs, mkL, mkT, T.isSh, T.argOk, T.toArg, T.solid, T.isL, T.parts, putAll, T.tru, T.ty, tyD, En.put, En.clr, En.share, egName, egTup, egCons, egNil, Option.map_some, Option.map_none, Option.bind_some, Option.bind, List.all_cons, List.all_nil, List.map_cons, List.map_nil, List.length_cons, List.length_nil, Bool.and_true, Bool.true_and, Bool.and_self, Bool.not_true, Bool.not_false, if_true, cond_true, cond_false, Bool.false_eq_true, if_false, true_and, and_true, Rs.P_ok, Bool.and_false, Bool.false_and, Bool.false_or, Bool.or_false, Bool.true_or, Bool.or_true, Nat.reduceAdd, Nat.reduceLeDiff, Nat.reduceEqDiff, reduceCtorEq, x_add, x_iadd, x_sub, x_lt, x_le, x_gt, x_ge, x_eq, x_ne, x_eqB, x_neB, x_eqS, x_neS, x_max2, x_min2, x_int1, x_intB, x_lenL, x_lenT, x_lenO, x_lenS, x_sumL, x_sumO, x_sortL, x_sortO, x_listL, x_listT, x_listO, x_isN, x_isNn, x_isNi, x_isNl, x_isNt, x_isNb, x_notN, x_ixL, x_ixT, x_ixO, x_ixS, x_ix0, x_ix1, x_ix2, x_sl, x_slO, x_slT, x_inL, x_inO, x_ninL, x_ninO]
        generalize hz : max 0 (priceC t (at_ dr 23 % 60 + 1) - 1) = pz
        have pz0 : 0 ≤ pz := by omega
        refine p_seq (p_share (loop_money (t := t) (l := [0, 1, at_ gs 2, at_ gs 3 * 9999, wh, max 0 (wh - 1), wh + 1, pw, at_ dr 22, pz]) (by simp only [evVar, En.get, evC, evBin, evSh, evEsc, evB, evEB, evChain, evAnd, evOr, evNot, evAndV, evOrV, evNotV, evIf, evCons, evNil, evLst, evTup, evCall, callF, evSl, eoN, eoS, evUn, evC1, evIsi, evTru, erg1, erg2, evLRg, evTRg, eiSeq, eiEnum, eiZip, x_bind, x_rs, x_asB, x_asI, x_bifB, x_bifO, x_andB, x_orB, x_bifI, List.length_map, en0, List.replicate, List.cons_append, List.nil_append, T.asD, T.items, T.itL, T.itT, T.er, T.ers, T.noScr, T.noScrs, T.shs, mkL, mkT, T.isSh, T.argOk, T.toArg, T.solid, T.isL, T.parts, putAll, T.tru, T.ty, tyD, En.put, En.clr, En.share, egName, egTup, egCons, egNil, Option.map_some, Option.map_none, Option.bind_some, Option.bind, List.all_cons, List.all_nil, List.map_cons, List.map_nil, List.length_cons, List.length_nil, Bool.and_true, Bool.true_and, Bool.and_self, Bool.not_true, Bool.not_false, if_true, cond_true, cond_false, Bool.false_eq_true, if_false, true_and, and_true, Rs.P_ok, Bool.and_false, Bool.false_and, Bool.false_or, Bool.or_false, Bool.true_or, Bool.or_true, Nat.reduceAdd, Nat.reduceLeDiff, Nat.reduceEqDiff, reduceCtorEq, x_add, x_iadd, x_sub, x_lt, x_le, x_gt, x_ge, x_eq, x_ne, x_eqB, x_neB, x_eqS, x_neS, x_max2, x_min2, x_int1, x_intB, x_lenL, x_lenT, x_lenO, x_lenS, x_sumL, x_sumO, x_sortL, x_sortO, x_listL, x_listT, x_listO, x_isN, x_isNn, x_isNi, x_isNl, x_isNt, x_isNb, x_notN, x_ixL, x_ixT, x_ixO, x_ixS, x_ix0, x_ix1, x_ix2, x_sl, x_slO, x_slT, x_inL, x_inO, x_ninL, x_ninO]) (fun x hx => ?_) hL hI fun o9 o10 => ?_))
        · refine hM x ?_
          rw [price_zero t t1]
          simp only [List.mem_cons, List.not_mem_nil, or_false] at hx
          omega
        · refine p_ret ?_
          have sh := shaped_of (lay_tf t) (depth_tf t)
          simp only [evVar, En.get, evC, evBin, evSh, evEsc, evB, evEB, evChain, evAnd, evOr, evNot, evAndV, evOrV, evNotV, evIf, evCons, evNil, evLst, evTup, evCall, callF, evSl, eoN, eoS, evUn, evC1, evIsi, evTru, erg1, erg2, evLRg, evTRg, eiSeq, eiEnum, eiZip, x_bind, x_rs, x_asB, x_asI, x_bifB, x_bifO, x_andB, x_orB, x_bifI, List.length_map, en0, List.replicate, List.cons_append, List.nil_append, T.asD, T.items, T.itL, T.itT, T.er, T.ers, T.noScr, T.noScrs, T.shs, mkL, mkT, T.isSh, T.argOk, T.toArg, T.solid, T.isL, T.parts, putAll, T.tru, T.ty, tyD, En.put, En.clr, En.share, egName, egTup, egCons, egNil, Option.map_some, Option.map_none, Option.bind_some, Option.bind, List.all_cons, List.all_nil, List.map_cons, List.map_nil, List.length_cons, List.length_nil, Bool.and_true, Bool.true_and, Bool.and_self, Bool.not_true, Bool.not_false, if_true, cond_true, cond_false, Bool.false_eq_true, if_false, true_and, and_true, Rs.P_ok, Bool.and_false, Bool.false_and, Bool.false_or, Bool.or_false, Bool.true_or, Bool.or_true, Nat.reduceAdd, Nat.reduceLeDiff, Nat.reduceEqDiff, reduceCtorEq, x_add, x_iadd, x_sub, x_lt, x_le, x_gt, x_ge, x_eq, x_ne, x_eqB, x_neB, x_eqS, x_neS, x_max2, x_min2, x_int1, x_intB, x_lenL, x_lenT, x_lenO, x_lenS, x_sumL, x_sumO, x_sortL, x_sortO, x_listL, x_listT, x_listO, x_isN, x_isNn, x_isNi, x_isNl, x_isNt, x_isNb, x_notN, x_ixL, x_ixT, x_ixO, x_ixS, x_ix0, x_ix1, x_ix2, x_sl, x_slO, x_slT, x_inL, x_inO, x_ninL, x_ninO, x_eqG sh sh rfl, eqD_refl (lay_tf t)]
      · have hh : evComp (eiSeq (evSh (evLst (evCons (evUn fNeg (evSh (evC (.int 1)))) (evCons (evC (.int 0)) (evCons (evC (.int 1)) evNil)))))) [11] (egName 11) evYes (evBin fAdd (evBin fIx (evBin fIx (evVar 2) (evSh (evBin fSub (evSh (evC1 fLen (evCons (evVar 2) evNil))) (evSh (evC (.int 1)))))) (evSh (evC (.int 0)))) (evVar 11))
          [some (T.scr ns), some (T.sh (L dr)), some (T.sh (TL t)), some (T.sh (TL t)), some (T.sh (L gs)), o5, none, none, none, none, none, none] = .ok (.ol (([-1, 0, 1].map fun s => n + s).map PyData.int)) := by
          refine comp_allI (f := PyData.int) ?_ (by decide) fun s hs => ⟨_, rfl, ?_⟩
          · have hneg : fNeg (.sh (.int 1)) = some (.sh (.int (-1))) := rfl
            simp only [evVar, En.get, evC, evBin, evSh, evEsc, evB, evEB, evChain, evAnd, evOr, evNot, evAndV, evOrV, evNotV, evIf, evCons, evNil, evLst, evTup, evCall, callF, evSl, eoN, eoS, evUn, evC1, evIsi, evTru, erg1, erg2, evLRg, evTRg, eiSeq, eiEnum, eiZip, x_bind, x_rs, x_asB, x_asI, x_bifB, x_bifO, x_andB, x_orB, x_bifI, List.length_map, en0, List.replicate, List.cons_append, List.nil_append, T.asD, T.items, T.itL, T.itT, T.er, T.ers, T.noScr, T.noScrs, T.shs, mkL, mkT, T.isSh, T.argOk, T.toArg, T.solid, T.isL, T.parts, putAll, T.tru, T.ty, tyD, En.put, En.clr, En.share, egName, egTup, egCons, egNil, Option.map_some, Option.map_none, Option.bind_some, Option.bind, List.all_cons, List.all_nil, List.map_cons, List.map_nil, List.length_cons, List.length_nil, Bool.and_true, Bool.true_and, Bool.and_self, Bool.not_true, Bool.not_false, if_true, cond_true, cond_false, Bool.false_eq_true, if_false, true_and, and_true, Rs.P_ok, Bool.and_false, Bool.false_and, Bool.false_or, Bool.or_false, Bool.true_or, Bool.or_true, Nat.reduceAdd, Nat.reduceLeDiff, Nat.reduceEqDiff, reduceCtorEq, x_add, x_iadd, x_sub, x_lt, x_le, x_gt, x_ge, x_eq, x_ne, x_eqB, x_neB, x_eqS, x_neS, x_max2, x_min2, x_int1, x_intB, x_lenL, x_lenT, x_lenO, x_lenS, x_sumL, x_sumO, x_sortL, x_sortO, x_listL, x_listT, x_listO, x_isN, x_isNn, x_isNi, x_isNl, x_isNt, x_isNb, x_notN, x_ixL, x_ixT, x_ixO, x_ixS, x_ix0, x_ix1, x_ix2, x_sl, x_slO, x_slT, x_inL, x_inO, x_ninL, x_ninO, hneg]
          · simp only [evVar, En.get, evC, evBin, evSh, evEsc, evB, evEB, evChain, evAnd, evOr, evNot, evAndV, evOrV, evNotV, evIf, evCons, evNil, evLst, evTup, evCall, callF, evSl, eoN, eoS, evUn, evC1, evIsi, evTru, erg1, erg2, evLRg, evTRg, eiSeq, eiEnum, eiZip, x_bind, x_rs, x_asB, x_asI, x_bifB, x_bifO, x_andB, x_orB, x_bifI, List.length_map, en0, List.replicate, List.cons_append, List.nil_append, T.asD, T.items, T.itL, T.itT, T.er, T.ers, T.noScr, T.noScrs, T.shs, mkL, mkT, T.isSh, T.argOk, T.toArg, T.solid, T.isL, T.parts, putAll, T.tru, T.ty, tyD, En.put, En.clr, En.share, egName, egTup, egCons, egNil, Option.map_some, Option.map_none, Option.bind_some, Option.bind, List.all_cons, List.all_nil, List.map_cons, List.map_nil, List.length_cons, List.length_nil, Bool.and_true, Bool.true_and, Bool.and_self, Bool.not_true, Bool.not_false, if_true, cond_true, cond_false, Bool.false_eq_true, if_false, true_and, and_true, Rs.P_ok, Bool.and_false, Bool.false_and, Bool.false_or, Bool.or_false, Bool.true_or, Bool.or_true, Nat.reduceAdd, Nat.reduceLeDiff, Nat.reduceEqDiff, reduceCtorEq, x_add, x_iadd, x_sub, x_lt, x_le, x_gt, x_ge, x_eq, x_ne, x_eqB, x_neB, x_eqS, x_neS, x_max2, x_min2, x_int1, x_intB, x_lenL, x_lenT, x_lenO, x_lenS, x_sumL, x_sumO, x_sortL, x_sortO, x_listL, x_listT, x_listO, x_isN, x_isNn, x_isNi, x_isNl, x_isNt, x_isNb, x_notN, x_ixL, x_ixT, x_ixO, x_ixS, x_ix0, x_ix1, x_ix2, x_sl, x_slO, x_slT, x_inL, x_inO, x_ninL, x_ninO, ixl]
        simp only [evSh, hh, x_bind, T.noScr, T.er, if_true]
        rw [hes]
        rfl
end G
set_option Elab.async false
set_option linter.all false
set_option maxRecDepth 100000
set_option maxHeartbeats 0
namespace PL
open PySem
theorem x_repr {d : D} (h1 : isSeqD d = true) (h2 : okShow d = true) : fRepr [.sh d] = some (.sh (.str d.shown)) := by
  simp only [fRepr, f1, h1, h2, Bool.and_self, if_true]
theorem x_neG {x y : D} (hx : SeqAt.shaped x = true) (hy : SeqAt.shaped y = true) (hf : fEqF (.sh x) (.sh y) = none) : fNe (.sh x) (.sh y) = some (.sh (.bool (!eqD x y))) := by
  simp only [fNe, x_eqG hx hy hf, fNot]
end PL
namespace G
open PL PySem
def freeL (cl : List Int) (days begin : Int) (vs : List V) : List Bool := vs.map fun v => holdsC cl days begin vs v.1
theorem holds_cnt (cl : List Int) (days begin : Int) (vs : List V) (hn : cl.Nodup) (hc : Chain begin vs) (d : Int) (hd : begin ≤ d) : holdsC cl days begin vs d = decide (cnt cl begin vs d < days) := by
  unfold holdsC
  rw [counted_eq cl begin vs hn hc d hd]
theorem split_at {vs : List V} {k : Nat} (hk : k < vs.length) : vs = vs.take k ++ vs[k] :: vs.drop (k + 1) := by
  rw [List.getElem_cons_drop, List.take_append_drop]
theorem cnt_prefix' (cl : List Int) (begin : Int) {b : Int} {vs us ws : List V} {v : V} (e : vs = us ++ v :: ws) (h : Chain b vs) : cnt cl begin vs v.1 = cnt cl begin us v.1 := by
  subst e
  exact cnt_prefix cl begin h
theorem free_take (cl : List Int) (days begin : Int) (vs : List V) (hn : cl.Nodup) (hc : Chain begin vs) (k : Nat) : freeL cl days begin (vs.take k) = (freeL cl days begin vs).take k := by
  have hp : Chain begin (vs.take k) := chain_prefix (ws := vs.drop k) (by rw [List.take_append_drop]; exact hc)
  unfold freeL
  rw [← List.map_take]
  refine List.map_congr_left fun v hv => ?_
  obtain ⟨i, hi, rfl⟩ := List.mem_iff_getElem.mp hv
  have hi2 : i < vs.length := by rw [List.length_take] at hi; omega
  have e1 := split_at hi2
  have e2 := split_at hi
  rw [List.getElem_take] at e2 ⊢
  have hb : begin ≤ (vs[i]).1 := chain_le hc _ (List.getElem_mem _)
  rw [holds_cnt cl days begin _ hn hp _ hb, holds_cnt cl days begin _ hn hc _ hb]
  have c1 := cnt_prefix' cl begin e1 hc
  have c2 := cnt_prefix' cl begin e2 hp
  rw [c1, c2, List.take_take, show min i k = i by rw [List.length_take] at hi; omega]
theorem lay_bools (bs : List Bool) : (PyData.list (bs.map PyData.bool)).canLay0 = true := by
  simp only [PyData.canLay0]
  exact layAll fun d hd => by
    obtain ⟨p, _, rfl⟩ := List.mem_map.mp hd
    rfl
theorem depth_bools (bs : List Bool) : (PyData.list (bs.map PyData.bool)).depth ≤ 64 := by
  simp only [PyData.depth]
  have : PyData.depthAll (bs.map PyData.bool) ≤ 1 := depthAll_le fun d hd => by
    obtain ⟨p, _, rfl⟩ := List.mem_map.mp hd
    simp [PyData.depth]
  omega
theorem same_bools (bs : List Bool) (h : bs.length < 1000) : Sh.sameOk 12 (.list (bs.map PyData.bool)) = true := by
  simp only [Sh.sameOk, List.length_map, Bool.and_eq_true, decide_eq_true_eq, List.all_eq_true]
  exact ⟨by omega, fun d hd => by
    obtain ⟨p, _, rfl⟩ := List.mem_map.mp hd
    rfl⟩
theorem show_kept (cl : List Int) (vs : List V) (h1 : cl.length ≤ 8) (h2 : vs.length ≤ 5) (hb : Below 10000 cl) (hv : ∀ v ∈ vs, (0 ≤ v.1 ∧ v.1 ≤ 9999) ∧ ∀ x, v.2 = some x → 0 ≤ x ∧ x ≤ 9999) : okShow (.tuple [L cl, VL vs]) = true := by
  have oi : ∀ i : Int, 0 ≤ i → i ≤ 9999 → szD (.int i) ≤ 66 ∧ reprOk (.int i) = true := fun i a b => sz_int (by omega)
  have cI : ∀ d ∈ cl.map PyData.int, szD d ≤ 66 ∧ reprOk d = true ∧ d.depth ≤ 0 := fun d hd => by
    obtain ⟨i, hi, rfl⟩ := List.mem_map.mp hd
    have := hb i hi
    have q := oi i (by omega) (by omega)
    exact ⟨q.1, q.2, by simp [PyData.depth]⟩
  have vI : ∀ d ∈ vs.map vD, szD d ≤ 200 ∧ reprOk d = true ∧ d.depth ≤ 1 := fun d hd => by
    obtain ⟨v, hv', rfl⟩ := List.mem_map.mp hd
    have q := hv v hv'
    have q1 := oi v.1 q.1.1 q.1.2
    obtain ⟨b, bk⟩ := v
    cases bk with
    | none =>
      refine ⟨by simp only [vD, oD, szD, szDs] at q1 ⊢; omega, by simp only [vD, oD, reprOk, reprOks] at q1 ⊢; simp [q1.2], by simp [vD, oD, PyData.depth, PyData.depthAll]⟩
    | some x =>
      have q2 := q.2 x rfl
      have q3 := oi x q2.1 q2.2
      refine ⟨by simp only [vD, oD, szD, szDs] at q1 q3 ⊢; omega, by simp only [vD, oD, reprOk, reprOks] at q1 q3 ⊢; simp [q1.2, q3.2], by simp [vD, oD, PyData.depth, PyData.depthAll]⟩
  refine okShow_of ?_ ?_ ?_
  · simp only [reprOk, reprOks, reprOks_all fun d hd => (cI d hd).2.1, reprOks_all fun d hd => (vI d hd).2.1, Bool.and_self]
  · simp only [PyData.depth, PyData.depthAll]
    have a1 := depthAll_le fun d hd => (cI d hd).2.2
    have a2 := depthAll_le fun d hd => (vI d hd).2.2
    omega
  · have a1 := szDs_le fun d hd => (cI d hd).1
    have a2 := szDs_le fun d hd => (vI d hd).1
    rw [List.length_map] at a1 a2
    simp only [szD, szDs]
    omega

theorem chain_back : ∀ {b : Int} {vs : List V}, Chain b vs → ∀ v ∈ vs, ∀ x, v.2 = some x → v.1 ≤ x
  | b, [], _, v, h => by cases h
  | b, (br, none) :: vs, h, v, hv => by
    have h2 : vs = [] := h.2
    subst h2
    obtain rfl : v = _ := List.mem_singleton.mp hv
    exact fun x hx => by cases hx
  | b, (br, some y) :: vs, h, v, hv => by
    rcases List.mem_cons.mp hv with e | hv2
    · subst e
      exact fun x hx => by cases hx; exact h.2.1
    · exact chain_back h.2.2 v hv2
theorem same_oD (r : Option Int) : Sh.sameOk 12 (oD r) = true := by cases r <;> rfl
theorem at_bool {bs : List Bool} {k : Nat} (h : k < bs.length) : L2.atI (bs.map PyData.bool) (k : Int) = some (.bool bs[k]) := x_ixm (atI_nat h)
theorem law_true (ns : List Int) (h : ns.length ≤ 63) : d_law [.scr ns] = .ok (.sh (.bool true)) := by
  obtain ⟨c0, ec0⟩ := Sh.law_cell ns 0 (by decide)
  obtain ⟨c2, ec2⟩ := Sh.law_cell ns 2 (by decide)
  obtain ⟨dr, eg0, dl, db⟩ := Sh.law_numbers c0 60 50400 (by decide) (by decide) (by decide) (by decide)
  obtain ⟨mo, eg2, ml, mb⟩ := Sh.law_numbers c2 40 5040 (by decide) (by decide) (by decide) (by decide)
  have hT := w_tariffs ns dr (by omega) db
  obtain ⟨cl0, ecl, cn0, cb0, cl8⟩ := w_closed mo 2 60 (by decide) (by omega) (by decide) mb
  have hV := fun begin count h0 h1 h2 h3 => w_visits (mo.drop 14) begin count (by rw [List.length_drop]; omega) (fun x hx => mb x (List.mem_of_mem_drop hx)) h0 h1 h2 h3
  have hE := w_end
  have hO := w_end_of
  have hS := w_same
  have hC := w_counts
  have hH := w_holds_on
  have hF := w_free_visits
  rw [← cell_eq] at ec0 ec2
  rw [← numbers_eq] at eg0 eg2
  refine fn_eq rfl ?_
  unfold s_law
  generalize d__law_same 12 = DS at hS ⊢
  generalize d__law_tariffs = DT at hT ⊢
  generalize d__law_closed = DCl at ecl ⊢
  generalize d__law_visits = DV at hV ⊢
  generalize d__law_end = DE at hE ⊢
  generalize d_end_of = DO at hO ⊢
  generalize d__law_counts = DC at hC ⊢
  generalize d_holds_on = DH at hH ⊢
  generalize d_free_visits = DF at hF ⊢
  generalize d__law_cell = DCe at ec0 ec2 ⊢
  generalize d__law_numbers = DN at eg0 eg2 ⊢
  as_aux_lemma =>
    have mv := mb.at (by decide)
    refine p_seq (p_share (p_set ?_))
    simp only [evVar, En.get, evC, evBin, evSh, evEsc, evB, evEB, evChain, evAnd, evOr, evNot, evAndV, evOrV, evNotV, evIf, evCons, evNil, evLst, evTup, evCall, callF, evSl, eoN, eoS, evUn, evC1, evIsi, evTru, erg1, erg2, evLRg, evTRg, eiSeq, eiEnum, eiZip, x_bind, x_rs, x_asB, x_asI, x_bifB, x_bifO, x_andB, x_orB, x_bifI, List.length_map, en0, List.replicate, List.cons_append, List.nil_append, T.asD, T.items, T.itL, T.itT, T.er, T.ers, T.noScr, T.noScrs, T.shs, mkL, mkT, T.isSh, T.argOk, T.toArg, T.solid, flatD, T.isL, T.parts, putAll, T.tru, T.ty, tyD, En.put, En.clr, En.share, egName, egTup, egCons, egNil, Option.map_some, Option.map_none, Option.bind_some, Option.bind, List.all_cons, List.all_nil, List.map_cons, List.map_nil, List.length_cons, List.length_nil, Bool.and_true, Bool.true_and, Bool.and_self, Bool.not_true, Bool.not_false, if_true, cond_true, cond_false, Bool.false_eq_true, if_false, true_and, and_true, Rs.P_ok, Bool.and_false, Bool.false_and, Bool.false_or, Bool.or_false, Bool.true_or, Bool.or_true, Nat.reduceAdd, Nat.reduceLeDiff, Nat.reduceEqDiff, reduceCtorEq, x_add, x_iadd, x_sub, x_lt, x_le, x_gt, x_ge, x_eq, x_ne, x_eqB, x_neB, x_eqS, x_neS, x_max2, x_min2, x_int1, x_intB, x_lenL, x_lenT, x_lenO, x_lenS, x_sumL, x_sumO, x_sortL, x_sortO, x_listL, x_listT, x_listO, x_isN, x_isNn, x_isNi, x_isNl, x_isNt, x_isNb, x_notN, x_ixL, x_ixT, x_ixO, x_ixS, x_ix0, x_ix1, x_ix2, x_sl, x_slO, x_slT, x_inL, x_inO, x_ninL, x_ninO, ec0, eg0]
    refine p_seq (p_share (p_share (p_ifB (k := false) (by simp only [evVar, En.get, evC, evBin, evSh, evEsc, evB, evEB, evChain, evAnd, evOr, evNot, evAndV, evOrV, evNotV, evIf, evCons, evNil, evLst, evTup, evCall, callF, evSl, eoN, eoS, evUn, evC1, evIsi, evTru, erg1, erg2, evLRg, evTRg, eiSeq, eiEnum, eiZip, x_bind, x_rs, x_asB, x_asI, x_bifB, x_bifO, x_andB, x_orB, x_bifI, List.length_map, en0, List.replicate, List.cons_append, List.nil_append, T.asD, T.items, T.itL, T.itT, T.er, T.ers, T.noScr, T.noScrs, T.shs, mkL, mkT, T.isSh, T.argOk, T.toArg, T.solid, flatD, T.isL, T.parts, putAll, T.tru, T.ty, tyD, En.put, En.clr, En.share, egName, egTup, egCons, egNil, Option.map_some, Option.map_none, Option.bind_some, Option.bind, List.all_cons, List.all_nil, List.map_cons, List.map_nil, List.length_cons, List.length_nil, Bool.and_true, Bool.true_and, Bool.and_self, Bool.not_true, Bool.not_false, if_true, cond_true, cond_false, Bool.false_eq_true, if_false, true_and, and_true, Rs.P_ok, Bool.and_false, Bool.false_and, Bool.false_or, Bool.or_false, Bool.true_or, Bool.or_true, Nat.reduceAdd, Nat.reduceLeDiff, Nat.reduceEqDiff, reduceCtorEq, x_add, x_iadd, x_sub, x_lt, x_le, x_gt, x_ge, x_eq, x_ne, x_eqB, x_neB, x_eqS, x_neS, x_max2, x_min2, x_int1, x_intB, x_lenL, x_lenT, x_lenO, x_lenS, x_sumL, x_sumO, x_sortL, x_sortO, x_listL, x_listT, x_listO, x_isN, x_isNn, x_isNi, x_isNl, x_isNt, x_isNb, x_notN, x_ixL, x_ixT, x_ixO, x_ixS, x_ix0, x_ix1, x_ix2, x_sl, x_slO, x_slT, x_inL, x_inO, x_ninL, x_ninO, hT]) (fun h => by cases h) fun _ => p_nil ?_)))
    refine p_seq (p_share (p_set ?_))
    simp only [evVar, En.get, evC, evBin, evSh, evEsc, evB, evEB, evChain, evAnd, evOr, evNot, evAndV, evOrV, evNotV, evIf, evCons, evNil, evLst, evTup, evCall, callF, evSl, eoN, eoS, evUn, evC1, evIsi, evTru, erg1, erg2, evLRg, evTRg, eiSeq, eiEnum, eiZip, x_bind, x_rs, x_asB, x_asI, x_bifB, x_bifO, x_andB, x_orB, x_bifI, List.length_map, en0, List.replicate, List.cons_append, List.nil_append, T.asD, T.items, T.itL, T.itT, T.er, T.ers, T.noScr, T.noScrs, T.shs, mkL, mkT, T.isSh, T.argOk, T.toArg, T.solid, flatD, T.isL, T.parts, putAll, T.tru, T.ty, tyD, En.put, En.clr, En.share, egName, egTup, egCons, egNil, Option.map_some, Option.map_none, Option.bind_some, Option.bind, List.all_cons, List.all_nil, List.map_cons, List.map_nil, List.length_cons, List.length_nil, Bool.and_true, Bool.true_and, Bool.and_self, Bool.not_true, Bool.not_false, if_true, cond_true, cond_false, Bool.false_eq_true, if_false, true_and, and_true, Rs.P_ok, Bool.and_false, Bool.false_and, Bool.false_or, Bool.or_false, Bool.true_or, Bool.or_true, Nat.reduceAdd, Nat.reduceLeDiff, Nat.reduceEqDiff, reduceCtorEq, x_add, x_iadd, x_sub, x_lt, x_le, x_gt, x_ge, x_eq, x_ne, x_eqB, x_neB, x_eqS, x_neS, x_max2, x_min2, x_int1, x_intB, x_lenL, x_lenT, x_lenO, x_lenS, x_sumL, x_sumO, x_sortL, x_sortO, x_listL, x_listT, x_listO, x_isN, x_isNn, x_isNi, x_isNl, x_isNt, x_isNb, x_notN, x_ixL, x_ixT, x_ixO, x_ixS, x_ix0, x_ix1, x_ix2, x_sl, x_slO, x_slT, x_inL, x_inO, x_ninL, x_ninO, ec2, eg2]
    have m0 := mv 0
    have m1 := mv 1
    refine p_seq (p_set ?_)
    simp (disch := omega) only [evVar, En.get, evC, evBin, evSh, evEsc, evB, evEB, evChain, evAnd, evOr, evNot, evAndV, evOrV, evNotV, evIf, evCons, evNil, evLst, evTup, evCall, callF, evSl, eoN, eoS, evUn, evC1, evIsi, evTru, erg1, erg2, evLRg, evTRg, eiSeq, eiEnum, eiZip, x_bind, x_rs, x_asB, x_asI, x_bifB, x_bifO, x_andB, x_orB, x_bifI, List.length_map, en0, List.replicate, List.cons_append, List.nil_append, T.asD, T.items, T.itL, T.itT, T.er, T.ers, T.noScr, T.noScrs, T.shs, mkL, mkT, T.isSh, T.argOk, T.toArg, T.solid, flatD, T.isL, T.parts, putAll, T.tru, T.ty, tyD, En.put, En.clr, En.share, egName, egTup, egCons, egNil, Option.map_some, Option.map_none, Option.bind_some, Option.bind, List.all_cons, List.all_nil, List.map_cons, List.map_nil, List.length_cons, List.length_nil, Bool.and_true, Bool.true_and, Bool.and_self, Bool.not_true, Bool.not_false, if_true, cond_true, cond_false, Bool.false_eq_true, if_false, true_and, and_true, Rs.P_ok, Bool.and_false, Bool.false_and, Bool.false_or, Bool.or_false, Bool.true_or, Bool.or_true, Nat.reduceAdd, Nat.reduceLeDiff, Nat.reduceEqDiff, reduceCtorEq, x_add, x_iadd, x_sub, x_lt, x_le, x_gt, x_ge, x_eq, x_ne, x_eqB, x_neB, x_eqS, x_neS, x_max2, x_min2, x_int1, x_intB, x_lenL, x_lenT, x_lenO, x_lenS, x_sumL, x_sumO, x_sortL, x_sortO, x_listL, x_listT, x_listO, x_isN, x_isNn, x_isNi, x_isNl, x_isNt, x_isNb, x_notN, x_ixL, x_ixT, x_ixO, x_ixS, x_ix0, x_ix1, x_ix2, x_sl, x_slO, x_slT, x_inL, x_inO, x_ninL, x_ninO, x_at, x_mod]
    generalize decide (at_ mo 0 % 3 = 0) = late
    refine p_seq (p_cut (N' := fun ρ => ∃ b : Int, ρ = [some (.scr ns), some (.sh (L dr)), some (.sh (L mo)), some (.sh (.bool late)), some (.sh (I b)), none, none, none, none, none, none, none, none, none, none, none, none] ∧ 0 ≤ b ∧ b ≤ 9999) (p_set ?_) ?_)
    · cases late with
      | false =>
        simp (disch := omega) only [evVar, En.get, evC, evBin, evSh, evEsc, evB, evEB, evChain, evAnd, evOr, evNot, evAndV, evOrV, evNotV, evIf, evCons, evNil, evLst, evTup, evCall, callF, evSl, eoN, eoS, evUn, evC1, evIsi, evTru, erg1, erg2, evLRg, evTRg, eiSeq, eiEnum, eiZip, x_bind, x_rs, x_asB, x_asI, x_bifB, x_bifO, x_andB, x_orB, x_bifI, List.length_map, en0, List.replicate, List.cons_append, List.nil_append, T.asD, T.items, T.itL, T.itT, T.er, T.ers, T.noScr, T.noScrs, T.shs, mkL, mkT, T.isSh, T.argOk, T.toArg, T.solid, flatD, T.isL, T.parts, putAll, T.tru, T.ty, tyD, En.put, En.clr, En.share, egName, egTup, egCons, egNil, Option.map_some, Option.map_none, Option.bind_some, Option.bind, List.all_cons, List.all_nil, List.map_cons, List.map_nil, List.length_cons, List.length_nil, Bool.and_true, Bool.true_and, Bool.and_self, Bool.not_true, Bool.not_false, if_true, cond_true, cond_false, Bool.false_eq_true, if_false, true_and, and_true, Rs.P_ok, Bool.and_false, Bool.false_and, Bool.false_or, Bool.or_false, Bool.true_or, Bool.or_true, Nat.reduceAdd, Nat.reduceLeDiff, Nat.reduceEqDiff, reduceCtorEq, x_add, x_iadd, x_sub, x_lt, x_le, x_gt, x_ge, x_eq, x_ne, x_eqB, x_neB, x_eqS, x_neS, x_max2, x_min2, x_int1, x_intB, x_lenL, x_lenT, x_lenO, x_lenS, x_sumL, x_sumO, x_sortL, x_sortO, x_listL, x_listT, x_listO, x_isN, x_isNn, x_isNi, x_isNl, x_isNt, x_isNb, x_notN, x_ixL, x_ixT, x_ixO, x_ixS, x_ix0, x_ix1, x_ix2, x_sl, x_slO, x_slT, x_inL, x_inO, x_ninL, x_ninO, x_at, x_mod]
        exact ⟨_, rfl, by omega, by omega⟩
      | true =>
        simp (disch := omega) only [evVar, En.get, evC, evBin, evSh, evEsc, evB, evEB, evChain, evAnd, evOr, evNot, evAndV, evOrV, evNotV, evIf, evCons, evNil, evLst, evTup, evCall, callF, evSl, eoN, eoS, evUn, evC1, evIsi, evTru, erg1, erg2, evLRg, evTRg, eiSeq, eiEnum, eiZip, x_bind, x_rs, x_asB, x_asI, x_bifB, x_bifO, x_andB, x_orB, x_bifI, List.length_map, en0, List.replicate, List.cons_append, List.nil_append, T.asD, T.items, T.itL, T.itT, T.er, T.ers, T.noScr, T.noScrs, T.shs, mkL, mkT, T.isSh, T.argOk, T.toArg, T.solid, flatD, T.isL, T.parts, putAll, T.tru, T.ty, tyD, En.put, En.clr, En.share, egName, egTup, egCons, egNil, Option.map_some, Option.map_none, Option.bind_some, Option.bind, List.all_cons, List.all_nil, List.map_cons, List.map_nil, List.length_cons, List.length_nil, Bool.and_true, Bool.true_and, Bool.and_self, Bool.not_true, Bool.not_false, if_true, cond_true, cond_false, Bool.false_eq_true, if_false, true_and, and_true, Rs.P_ok, Bool.and_false, Bool.false_and, Bool.false_or, Bool.or_false, Bool.true_or, Bool.or_true, Nat.reduceAdd, Nat.reduceLeDiff, Nat.reduceEqDiff, reduceCtorEq, x_add, x_iadd, x_sub, x_lt, x_le, x_gt, x_ge, x_eq, x_ne, x_eqB, x_neB, x_eqS, x_neS, x_max2, x_min2, x_int1, x_intB, x_lenL, x_lenT, x_lenO, x_lenS, x_sumL, x_sumO, x_sortL, x_sortO, x_listL, x_listT, x_listO, x_isN, x_isNn, x_isNi, x_isNl, x_isNt, x_isNb, x_notN, x_ixL, x_ixT, x_ixO, x_ixS, x_ix0, x_ix1, x_ix2, x_sl, x_slO, x_slT, x_inL, x_inO, x_ninL, x_ninO, x_at, x_mod]
        exact ⟨_, rfl, by omega, by omega⟩
    rintro ρ ⟨b, rfl, hb0, hb1⟩
    refine p_seq (p_share (p_set ?_))
    simp only [evVar, En.get, evC, evBin, evSh, evEsc, evB, evEB, evChain, evAnd, evOr, evNot, evAndV, evOrV, evNotV, evIf, evCons, evNil, evLst, evTup, evCall, callF, evSl, eoN, eoS, evUn, evC1, evIsi, evTru, erg1, erg2, evLRg, evTRg, eiSeq, eiEnum, eiZip, x_bind, x_rs, x_asB, x_asI, x_bifB, x_bifO, x_andB, x_orB, x_bifI, List.length_map, en0, List.replicate, List.cons_append, List.nil_append, T.asD, T.items, T.itL, T.itT, T.er, T.ers, T.noScr, T.noScrs, T.shs, mkL, mkT, T.isSh, T.argOk, T.toArg, T.solid, flatD, T.isL, T.parts, putAll, T.tru, T.ty, tyD, En.put, En.clr, En.share, egName, egTup, egCons, egNil, Option.map_some, Option.map_none, Option.bind_some, Option.bind, List.all_cons, List.all_nil, List.map_cons, List.map_nil, List.length_cons, List.length_nil, Bool.and_true, Bool.true_and, Bool.and_self, Bool.not_true, Bool.not_false, if_true, cond_true, cond_false, Bool.false_eq_true, if_false, true_and, and_true, Rs.P_ok, Bool.and_false, Bool.false_and, Bool.false_or, Bool.or_false, Bool.true_or, Bool.or_true, Nat.reduceAdd, Nat.reduceLeDiff, Nat.reduceEqDiff, reduceCtorEq, x_add, x_iadd, x_sub, x_lt, x_le, x_gt, x_ge, x_eq, x_ne, x_eqB, x_neB, x_eqS, x_neS, x_max2, x_min2, x_int1, x_intB, x_lenL, x_lenT, x_lenO, x_lenS, x_sumL, x_sumO, x_sortL, x_sortO, x_listL, x_listT, x_listO, x_isN, x_isNn, x_isNi, x_isNl, x_isNt, x_isNb, x_notN, x_ixL, x_ixT, x_ixO, x_ixS, x_ix0, x_ix1, x_ix2, x_sl, x_slO, x_slT, x_inL, x_inO, x_ninL, x_ninO, ecl]
    refine p_seq (p_cut (N' := fun ρ => ∃ cl : List Int, ρ = [some (.scr ns), some (.sh (L dr)), some (.sh (L mo)), some (.sh (.bool late)), some (.sh (I b)), some (.sh (L cl)), none, none, none, none, none, none, none, none, none, none, none] ∧ cl.Nodup ∧ Below 10000 cl ∧ cl.length ≤ 8) (p_ifB (k := late) (by simp only [evVar, En.get, evC, evBin, evSh, evEsc, evB, evEB, evChain, evAnd, evOr, evNot, evAndV, evOrV, evNotV, evIf, evCons, evNil, evLst, evTup, evCall, callF, evSl, eoN, eoS, evUn, evC1, evIsi, evTru, erg1, erg2, evLRg, evTRg, eiSeq, eiEnum, eiZip, x_bind, x_rs, x_asB, x_asI, x_bifB, x_bifO, x_andB, x_orB, x_bifI, List.length_map, en0, List.replicate, List.cons_append, List.nil_append, T.asD, T.items, T.itL, T.itT, T.er, T.ers, T.noScr, T.noScrs, T.shs, mkL, mkT, T.isSh, T.argOk, T.toArg, T.solid, flatD, T.isL, T.parts, putAll, T.tru, T.ty, tyD, En.put, En.clr, En.share, egName, egTup, egCons, egNil, Option.map_some, Option.map_none, Option.bind_some, Option.bind, List.all_cons, List.all_nil, List.map_cons, List.map_nil, List.length_cons, List.length_nil, Bool.and_true, Bool.true_and, Bool.and_self, Bool.not_true, Bool.not_false, if_true, cond_true, cond_false, Bool.false_eq_true, if_false, true_and, and_true, Rs.P_ok, Bool.and_false, Bool.false_and, Bool.false_or, Bool.or_false, Bool.true_or, Bool.or_true, Nat.reduceAdd, Nat.reduceLeDiff, Nat.reduceEqDiff, reduceCtorEq, x_add, x_iadd, x_sub, x_lt, x_le, x_gt, x_ge, x_eq, x_ne, x_eqB, x_neB, x_eqS, x_neS, x_max2, x_min2, x_int1, x_intB, x_lenL, x_lenT, x_lenO, x_lenS, x_sumL, x_sumO, x_sortL, x_sortO, x_listL, x_listT, x_listO, x_isN, x_isNn, x_isNi, x_isNl, x_isNt, x_isNb, x_notN, x_ixL, x_ixT, x_ixO, x_ixS, x_ix0, x_ix1, x_ix2, x_sl, x_slO, x_slT, x_inL, x_inO, x_ninL, x_ninO]) (fun hl => ?_) fun hl => ?_) ?_)
    · refine p_share (p_set ?_)
      have hc : evComp (eiSeq (evVar 5)) [11] (egName 11) evYes (evBin fSub (evSh (evC (.int 9999))) (evVar 11)) (En.share [some (.scr ns), some (.sh (L dr)), some (.sh (L mo)), some (.sh (.bool late)), some (.sh (I b)), some (.sh (L cl0)), none, none, none, none, none, none, none, none, none, none, none] 5) = .ok (.ol ((cl0.map fun d => 9999 - d).map PyData.int)) := by
        refine comp_allI (f := PyData.int) (by simp only [evVar, En.get, evC, evBin, evSh, evEsc, evB, evEB, evChain, evAnd, evOr, evNot, evAndV, evOrV, evNotV, evIf, evCons, evNil, evLst, evTup, evCall, callF, evSl, eoN, eoS, evUn, evC1, evIsi, evTru, erg1, erg2, evLRg, evTRg, eiSeq, eiEnum, eiZip, x_bind, x_rs, x_asB, x_asI, x_bifB, x_bifO, x_andB, x_orB, x_bifI, List.length_map, en0, List.replicate, List.cons_append, List.nil_append, T.asD, T.items, T.itL, T.itT, T.er, T.ers, T.noScr, T.noScrs, T.shs, mkL, mkT, T.isSh, T.argOk, T.toArg, T.solid, flatD, T.isL, T.parts, putAll, T.tru, T.ty, tyD, En.put, En.clr, En.share, egName, egTup, egCons, egNil, Option.map_some, Option.map_none, Option.bind_some, Option.bind, List.all_cons, List.all_nil, List.map_cons, List.map_nil, List.length_cons, List.length_nil, Bool.and_true, Bool.true_and, Bool.and_self, Bool.not_true, Bool.not_false, if_true, cond_true, cond_false, Bool.false_eq_true, if_false, true_and, and_true, Rs.P_ok, Bool.and_false, Bool.false_and, Bool.false_or, Bool.or_false, Bool.true_or, Bool.or_true, Nat.reduceAdd, Nat.reduceLeDiff, Nat.reduceEqDiff, reduceCtorEq, x_add, x_iadd, x_sub, x_lt, x_le, x_gt, x_ge, x_eq, x_ne, x_eqB, x_neB, x_eqS, x_neS, x_max2, x_min2, x_int1, x_intB, x_lenL, x_lenT, x_lenO, x_lenS, x_sumL, x_sumO, x_sortL, x_sortO, x_listL, x_listT, x_listO, x_isN, x_isNn, x_isNi, x_isNl, x_isNt, x_isNb, x_notN, x_ixL, x_ixT, x_ixO, x_ixS, x_ix0, x_ix1, x_ix2, x_sl, x_slO, x_slT, x_inL, x_inO, x_ninL, x_ninO]) (by omega) fun d hd => ⟨_, rfl, ?_⟩
        simp only [evVar, En.get, evC, evBin, evSh, evEsc, evB, evEB, evChain, evAnd, evOr, evNot, evAndV, evOrV, evNotV, evIf, evCons, evNil, evLst, evTup, evCall, callF, evSl, eoN, eoS, evUn, evC1, evIsi, evTru, erg1, erg2, evLRg, evTRg, eiSeq, eiEnum, eiZip, x_bind, x_rs, x_asB, x_asI, x_bifB, x_bifO, x_andB, x_orB, x_bifI, List.length_map, en0, List.replicate, List.cons_append, List.nil_append, T.asD, T.items, T.itL, T.itT, T.er, T.ers, T.noScr, T.noScrs, T.shs, mkL, mkT, T.isSh, T.argOk, T.toArg, T.solid, flatD, T.isL, T.parts, putAll, T.tru, T.ty, tyD, En.put, En.clr, En.share, egName, egTup, egCons, egNil, Option.map_some, Option.map_none, Option.bind_some, Option.bind, List.all_cons, List.all_nil, List.map_cons, List.map_nil, List.length_cons, List.length_nil, Bool.and_true, Bool.true_and, Bool.and_self, Bool.not_true, Bool.not_false, if_true, cond_true, cond_false, Bool.false_eq_true, if_false, true_and, and_true, Rs.P_ok, Bool.and_false, Bool.false_and, Bool.false_or, Bool.or_false, Bool.true_or, Bool.or_true, Nat.reduceAdd, Nat.reduceLeDiff, Nat.reduceEqDiff, reduceCtorEq, x_add, x_iadd, x_sub, x_lt, x_le, x_gt, x_ge, x_eq, x_ne, x_eqB, x_neB, x_eqS, x_neS, x_max2, x_min2, x_int1, x_intB, x_lenL, x_lenT, x_lenO, x_lenS, x_sumL, x_sumO, x_sortL, x_sortO, x_listL, x_listT, x_listO, x_isN, x_isNn, x_isNi, x_isNl, x_isNt, x_isNb, x_notN, x_ixL, x_ixT, x_ixO, x_ixS, x_ix0, x_ix1, x_ix2, x_sl, x_slO, x_slT, x_inL, x_inO, x_ninL, x_ninO]
      simp only [evSh, evC1, evCons, evNil, hc, x_bind, T.noScr, T.er, if_true, x_sortL, x_rs]
      refine ⟨sortI (cl0.map fun d => 9999 - d), rfl, ?_, fun x hx => ?_, ?_⟩
      · refine (sortI_perm _).nodup_iff.mpr (List.pairwise_map.mpr (cn0.imp fun {x y} hxy => ?_))
        have hxy : x ≠ y := hxy
        omega
      · have hx := (sortI_perm _).mem_iff.mp hx
        obtain ⟨d, hd, rfl⟩ := List.mem_map.mp hx
        have := cb0 d hd
        omega
      · rw [(sortI_perm _).length_eq, List.length_map]; exact cl8
    · exact p_nil ⟨cl0, rfl, cn0, fun x hx => by have := cb0 x hx; omega, cl8⟩
    rintro ρ ⟨cl, rfl, cn, cb, cl8⟩
    have m12 := mv 12
    have m13 := mv 13
    have m26 := mv 26
    refine p_seq (p_set ?_)
    simp (disch := omega) only [evVar, En.get, evC, evBin, evSh, evEsc, evB, evEB, evChain, evAnd, evOr, evNot, evAndV, evOrV, evNotV, evIf, evCons, evNil, evLst, evTup, evCall, callF, evSl, eoN, eoS, evUn, evC1, evIsi, evTru, erg1, erg2, evLRg, evTRg, eiSeq, eiEnum, eiZip, x_bind, x_rs, x_asB, x_asI, x_bifB, x_bifO, x_andB, x_orB, x_bifI, List.length_map, en0, List.replicate, List.cons_append, List.nil_append, T.asD, T.items, T.itL, T.itT, T.er, T.ers, T.noScr, T.noScrs, T.shs, mkL, mkT, T.isSh, T.argOk, T.toArg, T.solid, flatD, T.isL, T.parts, putAll, T.tru, T.ty, tyD, En.put, En.clr, En.share, egName, egTup, egCons, egNil, Option.map_some, Option.map_none, Option.bind_some, Option.bind, List.all_cons, List.all_nil, List.map_cons, List.map_nil, List.length_cons, List.length_nil, Bool.and_true, Bool.true_and, Bool.and_self, Bool.not_true, Bool.not_false, if_true, cond_true, cond_false, Bool.false_eq_true, if_false, true_and, and_true, Rs.P_ok, Bool.and_false, Bool.false_and, Bool.false_or, Bool.or_false, Bool.true_or, Bool.or_true, Nat.reduceAdd, Nat.reduceLeDiff, Nat.reduceEqDiff, reduceCtorEq, x_add, x_iadd, x_sub, x_lt, x_le, x_gt, x_ge, x_eq, x_ne, x_eqB, x_neB, x_eqS, x_neS, x_max2, x_min2, x_int1, x_intB, x_lenL, x_lenT, x_lenO, x_lenS, x_sumL, x_sumO, x_sortL, x_sortO, x_listL, x_listT, x_listO, x_isN, x_isNn, x_isNi, x_isNl, x_isNt, x_isNb, x_notN, x_ixL, x_ixT, x_ixO, x_ixS, x_ix0, x_ix1, x_ix2, x_sl, x_slO, x_slT, x_inL, x_inO, x_ninL, x_ninO, x_at, x_mod, x_at5]
    have hdays : 0 ≤ at_ [0, 1, at_ mo 12 % 12, at_ mo 12 % 60, at_ mo 12 % 401] (at_ mo 13 % 5) ∧ at_ [0, 1, at_ mo 12 % 12, at_ mo 12 % 60, at_ mo 12 % 401] (at_ mo 13 % 5) ≤ 400 := by
      have q := at_mem (ns := [0, 1, at_ mo 12 % 12, at_ mo 12 % 60, at_ mo 12 % 401]) (i := at_ mo 13 % 5) (by omega) (by simp only [List.length_cons, List.length_nil]; omega)
      simp only [List.mem_cons, List.not_mem_nil, or_false] at q
      omega
    generalize at_ [0, 1, at_ mo 12 % 12, at_ mo 12 % 60, at_ mo 12 % 401] (at_ mo 13 % 5) = days at hdays
    obtain ⟨vs, ev, hch, vl, vb⟩ := hV b (at_ mo 26 % 6) hb0 hb1 (by omega) (by omega)
    have hcut : cutD (mo.map PyData.int) (some 14) none = (mo.drop 14).map PyData.int := by
      rw [cut_from (by decide) (by rw [List.length_map]; omega), List.map_drop]; rfl
    refine p_seq (p_share (p_set ?_))
    simp (disch := omega) only [evVar, En.get, evC, evBin, evSh, evEsc, evB, evEB, evChain, evAnd, evOr, evNot, evAndV, evOrV, evNotV, evIf, evCons, evNil, evLst, evTup, evCall, callF, evSl, eoN, eoS, evUn, evC1, evIsi, evTru, erg1, erg2, evLRg, evTRg, eiSeq, eiEnum, eiZip, x_bind, x_rs, x_asB, x_asI, x_bifB, x_bifO, x_andB, x_orB, x_bifI, List.length_map, en0, List.replicate, List.cons_append, List.nil_append, T.asD, T.items, T.itL, T.itT, T.er, T.ers, T.noScr, T.noScrs, T.shs, mkL, mkT, T.isSh, T.argOk, T.toArg, T.solid, flatD, T.isL, T.parts, putAll, T.tru, T.ty, tyD, En.put, En.clr, En.share, egName, egTup, egCons, egNil, Option.map_some, Option.map_none, Option.bind_some, Option.bind, List.all_cons, List.all_nil, List.map_cons, List.map_nil, List.length_cons, List.length_nil, Bool.and_true, Bool.true_and, Bool.and_self, Bool.not_true, Bool.not_false, if_true, cond_true, cond_false, Bool.false_eq_true, if_false, true_and, and_true, Rs.P_ok, Bool.and_false, Bool.false_and, Bool.false_or, Bool.or_false, Bool.true_or, Bool.or_true, Nat.reduceAdd, Nat.reduceLeDiff, Nat.reduceEqDiff, reduceCtorEq, x_add, x_iadd, x_sub, x_lt, x_le, x_gt, x_ge, x_eq, x_ne, x_eqB, x_neB, x_eqS, x_neS, x_max2, x_min2, x_int1, x_intB, x_lenL, x_lenT, x_lenO, x_lenS, x_sumL, x_sumO, x_sortL, x_sortO, x_listL, x_listT, x_listO, x_isN, x_isNn, x_isNi, x_isNl, x_isNt, x_isNb, x_notN, x_ixL, x_ixT, x_ixO, x_ixS, x_ix0, x_ix1, x_ix2, x_sl, x_slO, x_slT, x_inL, x_inO, x_ninL, x_ninO, x_at, x_mod, hcut, ev]
    have v5 : vs.length ≤ 5 := by omega
    have vle := chain_le hch
    have vbk := chain_back hch
    have hok := show_kept cl vs cl8 v5 cb fun v hv => ⟨⟨by have := vle v hv; omega, (vb v hv).1⟩, fun x hx => ⟨by have := vle v hv; have := vbk v hv x hx; omega, (vb v hv).2 x hx⟩⟩
    refine p_seq (p_share (p_share (p_set ?_)))
    simp only [evVar, En.get, evC, evBin, evSh, evEsc, evB, evEB, evChain, evAnd, evOr, evNot, evAndV, evOrV, evNotV, evIf, evCons, evNil, evLst, evTup, evCall, callF, evSl, eoN, eoS, evUn, evC1, evIsi, evTru, erg1, erg2, evLRg, evTRg, eiSeq, eiEnum, eiZip, x_bind, x_rs, x_asB, x_asI, x_bifB, x_bifO, x_andB, x_orB, x_bifI, List.length_map, en0, List.replicate, List.cons_append, List.nil_append, T.asD, T.items, T.itL, T.itT, T.er, T.ers, T.noScr, T.noScrs, T.shs, mkL, mkT, T.isSh, T.argOk, T.toArg, T.solid, flatD, T.isL, T.parts, putAll, T.tru, T.ty, tyD, En.put, En.clr, En.share, egName, egTup, egCons, egNil, Option.map_some, Option.map_none, Option.bind_some, Option.bind, List.all_cons, List.all_nil, List.map_cons, List.map_nil, List.length_cons, List.length_nil, Bool.and_true, Bool.true_and, Bool.and_self, Bool.not_true, Bool.not_false, if_true, cond_true, cond_false, Bool.false_eq_true, if_false, true_and, and_true, Rs.P_ok, Bool.and_false, Bool.false_and, Bool.false_or, Bool.or_false, Bool.true_or, Bool.or_true, Nat.reduceAdd, Nat.reduceLeDiff, Nat.reduceEqDiff, reduceCtorEq, x_add, x_iadd, x_sub, x_lt, x_le, x_gt, x_ge, x_eq, x_ne, x_eqB, x_neB, x_eqS, x_neS, x_max2, x_min2, x_int1, x_intB, x_lenL, x_lenT, x_lenO, x_lenS, x_sumL, x_sumO, x_sortL, x_sortO, x_listL, x_listT, x_listO, x_isN, x_isNn, x_isNi, x_isNl, x_isNt, x_isNb, x_notN, x_ixL, x_ixT, x_ixO, x_ixS, x_ix0, x_ix1, x_ix2, x_sl, x_slO, x_slT, x_inL, x_inO, x_ninL, x_ninO, Nat.reduceLeDiff, x_repr rfl hok]
    obtain ⟨kept, hkp⟩ : ∃ z, z = PyData.shown (.tuple [L cl, VL vs]) := ⟨_, rfl⟩
    rw [← hkp]
    have lp := lastL_props vs b
    have ll := lp.2.2 9999 hb1 vb
    obtain ⟨r, er, hr⟩ := hE cl vs days b hdays.1 (by omega) (by omega) hb0 (by omega) lp.1 (by omega)
    have hh1 : b ≤ highC vs ∧ highC vs ≤ 10400 := by
      rcases back_or_open vs b hch with hb | ⟨us, c, hus⟩
      · rw [high_back vs hb]; omega
      · have e1 : highC vs = c := by rw [hus]; exact high_open us c
        have e2 := vle (c, none) (by rw [hus]; simp)
        have e3 := (vb (c, none) (by rw [hus]; simp)).1
        simp only at e2 e3
        omega
    obtain ⟨r2, er2, hr2⟩ := hO cl vs days b (by omega) (by omega) hb0 hh1.1 hh1.2
    obtain ⟨rfl, hnone⟩ := end_same cl vs days b cn cb hch hdays.1 hdays.2 hb1 vb r r2 hr hr2
    refine p_seq (p_share (p_share (p_share (p_share (p_set ?_)))))
    simp only [evVar, En.get, evC, evBin, evSh, evEsc, evB, evEB, evChain, evAnd, evOr, evNot, evAndV, evOrV, evNotV, evIf, evCons, evNil, evLst, evTup, evCall, callF, evSl, eoN, eoS, evUn, evC1, evIsi, evTru, erg1, erg2, evLRg, evTRg, eiSeq, eiEnum, eiZip, x_bind, x_rs, x_asB, x_asI, x_bifB, x_bifO, x_andB, x_orB, x_bifI, List.length_map, en0, List.replicate, List.cons_append, List.nil_append, T.asD, T.items, T.itL, T.itT, T.er, T.ers, T.noScr, T.noScrs, T.shs, mkL, mkT, T.isSh, T.argOk, T.toArg, T.solid, flatD, T.isL, T.parts, putAll, T.tru, T.ty, tyD, En.put, En.clr, En.share, egName, egTup, egCons, egNil, Option.map_some, Option.map_none, Option.bind_some, Option.bind, List.all_cons, List.all_nil, List.map_cons, List.map_nil, List.length_cons, List.length_nil, Bool.and_true, Bool.true_and, Bool.and_self, Bool.not_true, Bool.not_false, if_true, cond_true, cond_false, Bool.false_eq_true, if_false, true_and, and_true, Rs.P_ok, Bool.and_false, Bool.false_and, Bool.false_or, Bool.or_false, Bool.true_or, Bool.or_true, Nat.reduceAdd, Nat.reduceLeDiff, Nat.reduceEqDiff, reduceCtorEq, x_add, x_iadd, x_sub, x_lt, x_le, x_gt, x_ge, x_eq, x_ne, x_eqB, x_neB, x_eqS, x_neS, x_max2, x_min2, x_int1, x_intB, x_lenL, x_lenT, x_lenO, x_lenS, x_sumL, x_sumO, x_sortL, x_sortO, x_listL, x_listT, x_listO, x_isN, x_isNn, x_isNi, x_isNl, x_isNt, x_isNb, x_notN, x_ixL, x_ixT, x_ixO, x_ixS, x_ix0, x_ix1, x_ix2, x_sl, x_slO, x_slT, x_inL, x_inO, x_ninL, x_ninO, er]
    refine p_seq (p_share (p_share (p_share (p_share (p_share (p_ifB (k := false) ?_ (fun h => by cases h) fun _ => p_nil ?_))))))
    · simp only [evVar, En.get, evC, evBin, evSh, evEsc, evB, evEB, evChain, evAnd, evOr, evNot, evAndV, evOrV, evNotV, evIf, evCons, evNil, evLst, evTup, evCall, callF, evSl, eoN, eoS, evUn, evC1, evIsi, evTru, erg1, erg2, evLRg, evTRg, eiSeq, eiEnum, eiZip, x_bind, x_rs, x_asB, x_asI, x_bifB, x_bifO, x_andB, x_orB, x_bifI, List.length_map, en0, List.replicate, List.cons_append, List.nil_append, T.asD, T.items, T.itL, T.itT, T.er, T.ers, T.noScr, T.noScrs, T.shs, mkL, mkT, T.isSh, T.argOk, T.toArg, T.solid, flatD, T.isL, T.parts, putAll, T.tru, T.ty, tyD, En.put, En.clr, En.share, egName, egTup, egCons, egNil, Option.map_some, Option.map_none, Option.bind_some, Option.bind, List.all_cons, List.all_nil, List.map_cons, List.map_nil, List.length_cons, List.length_nil, Bool.and_true, Bool.true_and, Bool.and_self, Bool.not_true, Bool.not_false, if_true, cond_true, cond_false, Bool.false_eq_true, if_false, true_and, and_true, Rs.P_ok, Bool.and_false, Bool.false_and, Bool.false_or, Bool.or_false, Bool.true_or, Bool.or_true, Nat.reduceAdd, Nat.reduceLeDiff, Nat.reduceEqDiff, reduceCtorEq, x_add, x_iadd, x_sub, x_lt, x_le, x_gt, x_ge, x_eq, x_ne, x_eqB, x_neB, x_eqS, x_neS, x_max2, x_min2, x_int1, x_intB, x_lenL, x_lenT, x_lenO, x_lenS, x_sumL, x_sumO, x_sortL, x_sortO, x_listL, x_listT, x_listO, x_isN, x_isNn, x_isNi, x_isNl, x_isNt, x_isNb, x_notN, x_ixL, x_ixT, x_ixO, x_ixS, x_ix0, x_ix1, x_ix2, x_sl, x_slO, x_slT, x_inL, x_inO, x_ninL, x_ninO, er2, hS _ (same_oD r)]
    -- the days that are told
    have m3 : ∀ i, 0 ≤ i → i < 3 → 3 ≤ at_ [3, 30, 450] i ∧ at_ [3, 30, 450] i ≤ 450 := fun i h0 h1 => by
      have := at_mem (ns := [3, 30, 450]) h0 (by simpa using h1)
      simp only [List.mem_cons, List.not_mem_nil, or_false] at this; omega
    obtain ⟨tl, htl⟩ : ∃ tl : List Int, tl = (rngI 0 6).map fun k => b + at_ mo (27 + k) % at_ [3, 30, 450] (k % 3) := ⟨_, rfl⟩
    have tlb : ∀ x ∈ tl, b ≤ x ∧ x ≤ 100000 := fun x hx => by
      rw [htl] at hx
      obtain ⟨k, hk, rfl⟩ := List.mem_map.mp hx
      have hk := rngI_mem.mp hk
      have q := m3 (k % 3) (by omega) (by omega)
      have e1 := Int.emod_nonneg (at_ mo (27 + k)) (show at_ [3, 30, 450] (k % 3) ≠ 0 by omega)
      have e2 := Int.emod_lt_of_pos (at_ mo (27 + k)) (show 0 < at_ [3, 30, 450] (k % 3) by omega)
      omega
    have tll : tl.length = 6 := by rw [htl, List.length_map, rngI_len]; rfl
    refine p_seq (p_cut (N' := fun ρ => ∃ td : List Int, ρ = [some (.scr ns), some (.sh (L dr)), some (.sh (L mo)), some (.sh (.bool late)), some (.sh (I b)), some (.sh (L cl)), some (.sh (I days)), some (.sh (VL vs)), some (.sh (.str kept)), some (.sh (oD r)), some (.sh (L td)), none, none, none, none, none, none] ∧ (∀ x ∈ td, b ≤ x ∧ x ≤ 100000) ∧ td.length = 7) (p_share (p_set ?_)) ?_)
    · have hc : evComp (eiRng1 (evCons (evSh (evC (.int 6))) evNil)) [16] (egName 16) evYes (evBin fAdd (evVar 4) (evSh (evBin fMod (evBin fIx (evVar 2) (evSh (evBin fAdd (evSh (evC (.int 27))) (evVar 16)))) (evBin fIx (evSh (evLst (evCons (evC (.int 3)) (evCons (evC (.int 30)) (evCons (evC (.int 450)) evNil))))) (evSh (evBin fMod (evVar 16) (evSh (evC (.int 3)))))))))
          [some (.scr ns), some (.sh (L dr)), some (.sh (L mo)), some (.sh (.bool late)), some (.sh (I b)), some (.sh (L cl)), some (.sh (I days)), some (.sh (VL vs)), some (.sh (.str kept)), some (.sh (oD r)), none, none, none, none, none, none, none] = .ok (.ol (tl.map PyData.int)) := by
        rw [htl]
        refine comp_allI (f := PyData.int) (x_rng1 (by simp only [evVar, En.get, evC, evBin, evSh, evEsc, evB, evEB, evChain, evAnd, evOr, evNot, evAndV, evOrV, evNotV, evIf, evCons, evNil, evLst, evTup, evCall, callF, evSl, eoN, eoS, evUn, evC1, evIsi, evTru, erg1, erg2, evLRg, evTRg, eiSeq, eiEnum, eiZip, x_bind, x_rs, x_asB, x_asI, x_bifB, x_bifO, x_andB, x_orB, x_bifI, List.length_map, en0, List.replicate, List.cons_append, List.nil_append, T.asD, T.items, T.itL, T.itT, T.er, T.ers, T.noScr, T.noScrs, T.shs, mkL, mkT, T.isSh, T.argOk, T.toArg, T.solid, flatD, T.isL, T.parts, putAll, T.tru, T.ty, tyD, En.put, En.clr, En.share, egName, egTup, egCons, egNil, Option.map_some, Option.map_none, Option.bind_some, Option.bind, List.all_cons, List.all_nil, List.map_cons, List.map_nil, List.length_cons, List.length_nil, Bool.and_true, Bool.true_and, Bool.and_self, Bool.not_true, Bool.not_false, if_true, cond_true, cond_false, Bool.false_eq_true, if_false, true_and, and_true, Rs.P_ok, Bool.and_false, Bool.false_and, Bool.false_or, Bool.or_false, Bool.true_or, Bool.or_true, Nat.reduceAdd, Nat.reduceLeDiff, Nat.reduceEqDiff, reduceCtorEq, x_add, x_iadd, x_sub, x_lt, x_le, x_gt, x_ge, x_eq, x_ne, x_eqB, x_neB, x_eqS, x_neS, x_max2, x_min2, x_int1, x_intB, x_lenL, x_lenT, x_lenO, x_lenS, x_sumL, x_sumO, x_sortL, x_sortO, x_listL, x_listT, x_listO, x_isN, x_isNn, x_isNi, x_isNl, x_isNt, x_isNb, x_notN, x_ixL, x_ixT, x_ixO, x_ixS, x_ix0, x_ix1, x_ix2, x_sl, x_slO, x_slT, x_inL, x_inO, x_ninL, x_ninO]) (by decide) (by decide)) (by rw [rngI_len]; decide) fun k hk => ⟨_, rfl, ?_⟩
        have hk := rngI_mem.mp hk
        have q := m3 (k % 3) (by omega) (by omega)
        simp (disch := omega) only [evVar, En.get, evC, evBin, evSh, evEsc, evB, evEB, evChain, evAnd, evOr, evNot, evAndV, evOrV, evNotV, evIf, evCons, evNil, evLst, evTup, evCall, callF, evSl, eoN, eoS, evUn, evC1, evIsi, evTru, erg1, erg2, evLRg, evTRg, eiSeq, eiEnum, eiZip, x_bind, x_rs, x_asB, x_asI, x_bifB, x_bifO, x_andB, x_orB, x_bifI, List.length_map, en0, List.replicate, List.cons_append, List.nil_append, T.asD, T.items, T.itL, T.itT, T.er, T.ers, T.noScr, T.noScrs, T.shs, mkL, mkT, T.isSh, T.argOk, T.toArg, T.solid, flatD, T.isL, T.parts, putAll, T.tru, T.ty, tyD, En.put, En.clr, En.share, egName, egTup, egCons, egNil, Option.map_some, Option.map_none, Option.bind_some, Option.bind, List.all_cons, List.all_nil, List.map_cons, List.map_nil, List.length_cons, List.length_nil, Bool.and_true, Bool.true_and, Bool.and_self, Bool.not_true, Bool.not_false, if_true, cond_true, cond_false, Bool.false_eq_true, if_false, true_and, and_true, Rs.P_ok, Bool.and_false, Bool.false_and, Bool.false_or, Bool.or_false, Bool.true_or, Bool.or_true, Nat.reduceAdd, Nat.reduceLeDiff, Nat.reduceEqDiff, reduceCtorEq, x_add, x_iadd, x_sub, x_lt, x_le, x_gt, x_ge, x_eq, x_ne, x_eqB, x_neB, x_eqS, x_neS, x_max2, x_min2, x_int1, x_intB, x_lenL, x_lenT, x_lenO, x_lenS, x_sumL, x_sumO, x_sortL, x_sortO, x_listL, x_listT, x_listO, x_isN, x_isNn, x_isNi, x_isNl, x_isNt, x_isNb, x_notN, x_ixL, x_ixT, x_ixO, x_ixS, x_ix0, x_ix1, x_ix2, x_sl, x_slO, x_slT, x_inL, x_inO, x_ninL, x_ninO, x_at, x_mod, x_at3]
      simp only [evVar, En.get, evC, evBin, evSh, evEsc, evB, evEB, evChain, evAnd, evOr, evNot, evAndV, evOrV, evNotV, evIf, evCons, evNil, evLst, evTup, evCall, callF, evSl, eoN, eoS, evUn, evC1, evIsi, evTru, erg1, erg2, evLRg, evTRg, eiSeq, eiEnum, eiZip, x_bind, x_rs, x_asB, x_asI, x_bifB, x_bifO, x_andB, x_orB, x_bifI, List.length_map, en0, List.replicate, List.cons_append, List.nil_append, T.asD, T.items, T.itL, T.itT, T.er, T.ers, T.noScr, T.noScrs, T.shs, mkL, mkT, T.isSh, T.argOk, T.toArg, T.solid, flatD, T.isL, T.parts, putAll, T.tru, T.ty, tyD, En.put, En.clr, En.share, egName, egTup, egCons, egNil, Option.map_some, Option.map_none, Option.bind_some, Option.bind, List.all_cons, List.all_nil, List.map_cons, List.map_nil, List.length_cons, List.length_nil, Bool.and_true, Bool.true_and, Bool.and_self, Bool.not_true, Bool.not_false, if_true, cond_true, cond_false, Bool.false_eq_true, if_false, true_and, and_true, Rs.P_ok, Bool.and_false, Bool.false_and, Bool.false_or, Bool.or_false, Bool.true_or, Bool.or_true, Nat.reduceAdd, Nat.reduceLeDiff, Nat.reduceEqDiff, reduceCtorEq, x_add, x_iadd, x_sub, x_lt, x_le, x_gt, x_ge, x_eq, x_ne, x_eqB, x_neB, x_eqS, x_neS, x_max2, x_min2, x_int1, x_intB, x_lenL, x_lenT, x_lenO, x_lenS, x_sumL, x_sumO, x_sortL, x_sortO, x_listL, x_listT, x_listO, x_isN, x_isNn, x_isNi, x_isNl, x_isNt, x_isNb, x_notN, x_ixL, x_ixT, x_ixO, x_ixS, x_ix0, x_ix1, x_ix2, x_sl, x_slO, x_slT, x_inL, x_inO, x_ninL, x_ninO]
      rw [hc]
      simp (disch := first | omega | (simp only [List.length_map, List.length_cons, List.length_nil]; omega)) only [evVar, En.get, evC, evBin, evSh, evEsc, evB, evEB, evChain, evAnd, evOr, evNot, evAndV, evOrV, evNotV, evIf, evCons, evNil, evLst, evTup, evCall, callF, evSl, eoN, eoS, evUn, evC1, evIsi, evTru, erg1, erg2, evLRg, evTRg, eiSeq, eiEnum, eiZip, x_bind, x_rs, x_asB, x_asI, x_bifB, x_bifO, x_andB, x_orB, x_bifI, List.length_map, en0, List.replicate, List.cons_append, List.nil_append, T.asD, T.items, T.itL, T.itT, T.er, T.ers, T.noScr, T.noScrs, T.shs, mkL, mkT, T.isSh, T.argOk, T.toArg, T.solid, flatD, T.isL, T.parts, putAll, T.tru, T.ty, tyD, En.put, En.clr, En.share, egName, egTup, egCons, egNil, Option.map_some, Option.map_none, Option.bind_some, Option.bind, List.all_cons, List.all_nil, List.map_cons, List.map_nil, List.length_cons, List.length_nil, Bool.and_true, Bool.true_and, Bool.and_self, Bool.not_true, Bool.not_false, if_true, cond_true, cond_false, Bool.false_eq_true, if_false, true_and, and_true, Rs.P_ok, Bool.and_false, Bool.false_and, Bool.false_or, Bool.or_false, Bool.true_or, Bool.or_true, Nat.reduceAdd, Nat.reduceLeDiff, Nat.reduceEqDiff, reduceCtorEq, x_add, x_iadd, x_sub, x_lt, x_le, x_gt, x_ge, x_eq, x_ne, x_eqB, x_neB, x_eqS, x_neS, x_max2, x_min2, x_int1, x_intB, x_lenL, x_lenT, x_lenO, x_lenS, x_sumL, x_sumO, x_sortL, x_sortO, x_listL, x_listT, x_listO, x_isN, x_isNn, x_isNi, x_isNl, x_isNt, x_isNb, x_notN, x_ixL, x_ixT, x_ixO, x_ixS, x_ix0, x_ix1, x_ix2, x_sl, x_slO, x_slT, x_inL, x_inO, x_ninL, x_ninO, x_catL]
      refine ⟨tl ++ [b], by simp only [L, List.map_append, List.map_cons, List.map_nil], fun x hx => ?_, by rw [List.length_append, tll]; rfl⟩
      rcases List.mem_append.mp hx with z | z
      · exact tlb x z
      · obtain rfl : x = b := List.mem_singleton.mp z
        omega
    rintro ρ ⟨td, rfl, tdb, tdl⟩
    refine p_seq (p_cut (N' := fun ρ => ∃ td : List Int, ρ = [some (.scr ns), some (.sh (L dr)), some (.sh (L mo)), some (.sh (.bool late)), some (.sh (I b)), some (.sh (L cl)), some (.sh (I days)), some (.sh (VL vs)), some (.sh (.str kept)), some (.sh (oD r)), some (.sh (L td)), none, none, none, none, none, none] ∧ (∀ x ∈ td, b ≤ x ∧ x ≤ 100000) ∧ td.length ≤ 20) ?_ ?_)
    · cases r with
      | none => exact p_ifB (k := false) (by simp only [evVar, En.get, evC, evBin, evSh, evEsc, evB, evEB, evChain, evAnd, evOr, evNot, evAndV, evOrV, evNotV, evIf, evCons, evNil, evLst, evTup, evCall, callF, evSl, eoN, eoS, evUn, evC1, evIsi, evTru, erg1, erg2, evLRg, evTRg, eiSeq, eiEnum, eiZip, x_bind, x_rs, x_asB, x_asI, x_bifB, x_bifO, x_andB, x_orB, x_bifI, List.length_map, en0, List.replicate, List.cons_append, List.nil_append, T.asD, T.items, T.itL, T.itT, T.er, T.ers, T.noScr, T.noScrs, T.shs, mkL, mkT, T.isSh, T.argOk, T.toArg, T.solid, flatD, T.isL, T.parts, putAll, T.tru, T.ty, tyD, En.put, En.clr, En.share, egName, egTup, egCons, egNil, Option.map_some, Option.map_none, Option.bind_some, Option.bind, List.all_cons, List.all_nil, List.map_cons, List.map_nil, List.length_cons, List.length_nil, Bool.and_true, Bool.true_and, Bool.and_self, Bool.not_true, Bool.not_false, if_true, cond_true, cond_false, Bool.false_eq_true, if_false, true_and, and_true, Rs.P_ok, Bool.and_false, Bool.false_and, Bool.false_or, Bool.or_false, Bool.true_or, Bool.or_true, Nat.reduceAdd, Nat.reduceLeDiff, Nat.reduceEqDiff, reduceCtorEq, x_add, x_iadd, x_sub, x_lt, x_le, x_gt, x_ge, x_eq, x_ne, x_eqB, x_neB, x_eqS, x_neS, x_max2, x_min2, x_int1, x_intB, x_lenL, x_lenT, x_lenO, x_lenS, x_sumL, x_sumO, x_sortL, x_sortO, x_listL, x_listT, x_listO, x_isN, x_isNn, x_isNi, x_isNl, x_isNt, x_isNb, x_notN, x_ixL, x_ixT, x_ixO, x_ixS, x_ix0, x_ix1, x_ix2, x_sl, x_slO, x_slT, x_inL, x_inO, x_ninL, x_ninO, oD]) (fun h => by cases h) fun _ => p_nil ⟨td, rfl, tdb, by omega⟩
      | some e =>
        have hr : b ≤ e ∧ days ≤ cnt cl b vs e ∧ ∀ d, b ≤ d → d < e → cnt cl b vs d < days := hr
        have hr2 : b ≤ e ∧ e ≤ highC vs ∧ _ := hr2
        refine p_ifB (k := true) (by simp only [evVar, En.get, evC, evBin, evSh, evEsc, evB, evEB, evChain, evAnd, evOr, evNot, evAndV, evOrV, evNotV, evIf, evCons, evNil, evLst, evTup, evCall, callF, evSl, eoN, eoS, evUn, evC1, evIsi, evTru, erg1, erg2, evLRg, evTRg, eiSeq, eiEnum, eiZip, x_bind, x_rs, x_asB, x_asI, x_bifB, x_bifO, x_andB, x_orB, x_bifI, List.length_map, en0, List.replicate, List.cons_append, List.nil_append, T.asD, T.items, T.itL, T.itT, T.er, T.ers, T.noScr, T.noScrs, T.shs, mkL, mkT, T.isSh, T.argOk, T.toArg, T.solid, flatD, T.isL, T.parts, putAll, T.tru, T.ty, tyD, En.put, En.clr, En.share, egName, egTup, egCons, egNil, Option.map_some, Option.map_none, Option.bind_some, Option.bind, List.all_cons, List.all_nil, List.map_cons, List.map_nil, List.length_cons, List.length_nil, Bool.and_true, Bool.true_and, Bool.and_self, Bool.not_true, Bool.not_false, if_true, cond_true, cond_false, Bool.false_eq_true, if_false, true_and, and_true, Rs.P_ok, Bool.and_false, Bool.false_and, Bool.false_or, Bool.or_false, Bool.true_or, Bool.or_true, Nat.reduceAdd, Nat.reduceLeDiff, Nat.reduceEqDiff, reduceCtorEq, x_add, x_iadd, x_sub, x_lt, x_le, x_gt, x_ge, x_eq, x_ne, x_eqB, x_neB, x_eqS, x_neS, x_max2, x_min2, x_int1, x_intB, x_lenL, x_lenT, x_lenO, x_lenS, x_sumL, x_sumO, x_sortL, x_sortO, x_listL, x_listT, x_listO, x_isN, x_isNn, x_isNi, x_isNl, x_isNt, x_isNb, x_notN, x_ixL, x_ixT, x_ixO, x_ixS, x_ix0, x_ix1, x_ix2, x_sl, x_slO, x_slT, x_inL, x_inO, x_ninL, x_ninO, oD]) (fun _ => p_share (p_set ?_)) fun h => by cases h
        simp (disch := first | omega | (simp only [List.length_map, List.length_cons, List.length_nil]; omega)) only [evVar, En.get, evC, evBin, evSh, evEsc, evB, evEB, evChain, evAnd, evOr, evNot, evAndV, evOrV, evNotV, evIf, evCons, evNil, evLst, evTup, evCall, callF, evSl, eoN, eoS, evUn, evC1, evIsi, evTru, erg1, erg2, evLRg, evTRg, eiSeq, eiEnum, eiZip, x_bind, x_rs, x_asB, x_asI, x_bifB, x_bifO, x_andB, x_orB, x_bifI, List.length_map, en0, List.replicate, List.cons_append, List.nil_append, T.asD, T.items, T.itL, T.itT, T.er, T.ers, T.noScr, T.noScrs, T.shs, mkL, mkT, T.isSh, T.argOk, T.toArg, T.solid, flatD, T.isL, T.parts, putAll, T.tru, T.ty, tyD, En.put, En.clr, En.share, egName, egTup, egCons, egNil, Option.map_some, Option.map_none, Option.bind_some, Option.bind, List.all_cons, List.all_nil, List.map_cons, List.map_nil, List.length_cons, List.length_nil, Bool.and_true, Bool.true_and, Bool.and_self, Bool.not_true, Bool.not_false, if_true, cond_true, cond_false, Bool.false_eq_true, if_false, true_and, and_true, Rs.P_ok, Bool.and_false, Bool.false_and, Bool.false_or, Bool.or_false, Bool.true_or, Bool.or_true, Nat.reduceAdd, Nat.reduceLeDiff, Nat.reduceEqDiff, reduceCtorEq, x_add, x_iadd, x_sub, x_lt, x_le, x_gt, x_ge, x_eq, x_ne, x_eqB, x_neB, x_eqS, x_neS, x_max2, x_min2, x_int1, x_intB, x_lenL, x_lenT, x_lenO, x_lenS, x_sumL, x_sumO, x_sortL, x_sortO, x_listL, x_listT, x_listO, x_isN, x_isNn, x_isNi, x_isNl, x_isNt, x_isNb, x_notN, x_ixL, x_ixT, x_ixO, x_ixS, x_ix0, x_ix1, x_ix2, x_sl, x_slO, x_slT, x_inL, x_inO, x_ninL, x_ninO, oD, x_catL]
        refine ⟨td ++ [e, e + 1, max b (e - 1)], by simp only [L, oD, List.map_append, List.map_cons, List.map_nil], fun x hx => ?_, by rw [List.length_append, tdl]; simp⟩
        rcases List.mem_append.mp hx with z | z
        · exact tdb x z
        · simp only [List.mem_cons, List.not_mem_nil, or_false] at z
          omega
    rintro ρ ⟨td, rfl, tdb, tdl⟩
    refine p_seq (p_share (p_forM (l := td) (f := PyData.int) (by simp only [evVar, En.get, evC, evBin, evSh, evEsc, evB, evEB, evChain, evAnd, evOr, evNot, evAndV, evOrV, evNotV, evIf, evCons, evNil, evLst, evTup, evCall, callF, evSl, eoN, eoS, evUn, evC1, evIsi, evTru, erg1, erg2, evLRg, evTRg, eiSeq, eiEnum, eiZip, x_bind, x_rs, x_asB, x_asI, x_bifB, x_bifO, x_andB, x_orB, x_bifI, List.length_map, en0, List.replicate, List.cons_append, List.nil_append, T.asD, T.items, T.itL, T.itT, T.er, T.ers, T.noScr, T.noScrs, T.shs, mkL, mkT, T.isSh, T.argOk, T.toArg, T.solid, flatD, T.isL, T.parts, putAll, T.tru, T.ty, tyD, En.put, En.clr, En.share, egName, egTup, egCons, egNil, Option.map_some, Option.map_none, Option.bind_some, Option.bind, List.all_cons, List.all_nil, List.map_cons, List.map_nil, List.length_cons, List.length_nil, Bool.and_true, Bool.true_and, Bool.and_self, Bool.not_true, Bool.not_false, if_true, cond_true, cond_false, Bool.false_eq_true, if_false, true_and, and_true, Rs.P_ok, Bool.and_false, Bool.false_and, Bool.false_or, Bool.or_false, Bool.true_or, Bool.or_true, Nat.reduceAdd, Nat.reduceLeDiff, Nat.reduceEqDiff, reduceCtorEq, x_add, x_iadd, x_sub, x_lt, x_le, x_gt, x_ge, x_eq, x_ne, x_eqB, x_neB, x_eqS, x_neS, x_max2, x_min2, x_int1, x_intB, x_lenL, x_lenT, x_lenO, x_lenS, x_sumL, x_sumO, x_sortL, x_sortO, x_listL, x_listT, x_listO, x_isN, x_isNn, x_isNi, x_isNl, x_isNt, x_isNb, x_notN, x_ixL, x_ixT, x_ixO, x_ixS, x_ix0, x_ix1, x_ix2, x_sl, x_slO, x_slT, x_inL, x_inO, x_ninL, x_ninO]) (fun q ρ => (∃ o11 o12, ρ = [some (.scr ns), some (.sh (L dr)), some (.sh (L mo)), some (.sh (.bool late)), some (.sh (I b)), some (.sh (L cl)), some (.sh (I days)), some (.sh (VL vs)), some (.sh (.str kept)), some (.sh (oD r)), some (.sh (L td)), o11, o12, none, none, none, none]) ∧ ∀ x ∈ q, b ≤ x ∧ x ≤ 100000) ?_ ?_ ?_))
    · exact ⟨⟨none, none, rfl⟩, tdb⟩
    · rintro x q ρ ⟨⟨o11, o12, rfl⟩, hx⟩
      have hx0 := hx x List.mem_cons_self
      refine ⟨_, rfl, ?_⟩
      refine p_seq (p_share (p_share (p_share (p_share (p_set ?_)))))
      simp only [evVar, En.get, evC, evBin, evSh, evEsc, evB, evEB, evChain, evAnd, evOr, evNot, evAndV, evOrV, evNotV, evIf, evCons, evNil, evLst, evTup, evCall, callF, evSl, eoN, eoS, evUn, evC1, evIsi, evTru, erg1, erg2, evLRg, evTRg, eiSeq, eiEnum, eiZip, x_bind, x_rs, x_asB, x_asI, x_bifB, x_bifO, x_andB, x_orB, x_bifI, List.length_map, en0, List.replicate, List.cons_append, List.nil_append, T.asD, T.items, T.itL, T.itT, T.er, T.ers, T.noScr, T.noScrs, T.shs, mkL, mkT, T.isSh, T.argOk, T.toArg, T.solid, flatD, T.isL, T.parts, putAll, T.tru, T.ty, tyD, En.put, En.clr, En.share, egName, egTup, egCons, egNil, Option.map_some, Option.map_none, Option.bind_some, Option.bind, List.all_cons, List.all_nil, List.map_cons, List.map_nil, List.length_cons, List.length_nil, Bool.and_true, Bool.true_and, Bool.and_self, Bool.not_true, Bool.not_false, if_true, cond_true, cond_false, Bool.false_eq_true, if_false, true_and, and_true, Rs.P_ok, Bool.and_false, Bool.false_and, Bool.false_or, Bool.or_false, Bool.true_or, Bool.or_true, Nat.reduceAdd, Nat.reduceLeDiff, Nat.reduceEqDiff, reduceCtorEq, x_add, x_iadd, x_sub, x_lt, x_le, x_gt, x_ge, x_eq, x_ne, x_eqB, x_neB, x_eqS, x_neS, x_max2, x_min2, x_int1, x_intB, x_lenL, x_lenT, x_lenO, x_lenS, x_sumL, x_sumO, x_sortL, x_sortO, x_listL, x_listT, x_listO, x_isN, x_isNn, x_isNi, x_isNl, x_isNt, x_isNb, x_notN, x_ixL, x_ixT, x_ixO, x_ixS, x_ix0, x_ix1, x_ix2, x_sl, x_slO, x_slT, x_inL, x_inO, x_ninL, x_ninO, hC cl vs b x hb0 (by omega) hx0.2 (by omega)]
      refine p_share (p_share (p_share (p_share (p_share (p_share (p_ifB (k := false) ?_ (fun h => by cases h) fun _ => p_nil ⟨⟨_, _, rfl⟩, fun y hy => hx y (List.mem_cons_of_mem _ hy)⟩))))))
      have hhd := holds_cnt cl days b vs cn hch x hx0.1
      have sb : ∀ k : Bool, DS [.sh (.bool k), .sh (.bool k)] = .ok (.sh (.bool true)) := fun k => hS _ rfl
      cases r with
      | none => simp only [evVar, En.get, evC, evBin, evSh, evEsc, evB, evEB, evChain, evAnd, evOr, evNot, evAndV, evOrV, evNotV, evIf, evCons, evNil, evLst, evTup, evCall, callF, evSl, eoN, eoS, evUn, evC1, evIsi, evTru, erg1, erg2, evLRg, evTRg, eiSeq, eiEnum, eiZip, x_bind, x_rs, x_asB, x_asI, x_bifB, x_bifO, x_andB, x_orB, x_bifI, List.length_map, en0, List.replicate, List.cons_append, List.nil_append, T.asD, T.items, T.itL, T.itT, T.er, T.ers, T.noScr, T.noScrs, T.shs, mkL, mkT, T.isSh, T.argOk, T.toArg, T.solid, flatD, T.isL, T.parts, putAll, T.tru, T.ty, tyD, En.put, En.clr, En.share, egName, egTup, egCons, egNil, Option.map_some, Option.map_none, Option.bind_some, Option.bind, List.all_cons, List.all_nil, List.map_cons, List.map_nil, List.length_cons, List.length_nil, Bool.and_true, Bool.true_and, Bool.and_self, Bool.not_true, Bool.not_false, if_true, cond_true, cond_false, Bool.false_eq_true, if_false, true_and, and_true, Rs.P_ok, Bool.and_false, Bool.false_and, Bool.false_or, Bool.or_false, Bool.true_or, Bool.or_true, Nat.reduceAdd, Nat.reduceLeDiff, Nat.reduceEqDiff, reduceCtorEq, x_add, x_iadd, x_sub, x_lt, x_le, x_gt, x_ge, x_eq, x_ne, x_eqB, x_neB, x_eqS, x_neS, x_max2, x_min2, x_int1, x_intB, x_lenL, x_lenT, x_lenO, x_lenS, x_sumL, x_sumO, x_sortL, x_sortO, x_listL, x_listT, x_listO, x_isN, x_isNn, x_isNi, x_isNl, x_isNt, x_isNb, x_notN, x_ixL, x_ixT, x_ixO, x_ixS, x_ix0, x_ix1, x_ix2, x_sl, x_slO, x_slT, x_inL, x_inO, x_ninL, x_ninO, oD, hH cl vs days b x (by omega) (by omega), hhd, sb]
      | some e =>
        have hr : b ≤ e ∧ days ≤ cnt cl b vs e ∧ ∀ d, b ≤ d → d < e → cnt cl b vs d < days := hr
        simp only [evVar, En.get, evC, evBin, evSh, evEsc, evB, evEB, evChain, evAnd, evOr, evNot, evAndV, evOrV, evNotV, evIf, evCons, evNil, evLst, evTup, evCall, callF, evSl, eoN, eoS, evUn, evC1, evIsi, evTru, erg1, erg2, evLRg, evTRg, eiSeq, eiEnum, eiZip, x_bind, x_rs, x_asB, x_asI, x_bifB, x_bifO, x_andB, x_orB, x_bifI, List.length_map, en0, List.replicate, List.cons_append, List.nil_append, T.asD, T.items, T.itL, T.itT, T.er, T.ers, T.noScr, T.noScrs, T.shs, mkL, mkT, T.isSh, T.argOk, T.toArg, T.solid, flatD, T.isL, T.parts, putAll, T.tru, T.ty, tyD, En.put, En.clr, En.share, egName, egTup, egCons, egNil, Option.map_some, Option.map_none, Option.bind_some, Option.bind, List.all_cons, List.all_nil, List.map_cons, List.map_nil, List.length_cons, List.length_nil, Bool.and_true, Bool.true_and, Bool.and_self, Bool.not_true, Bool.not_false, if_true, cond_true, cond_false, Bool.false_eq_true, if_false, true_and, and_true, Rs.P_ok, Bool.and_false, Bool.false_and, Bool.false_or, Bool.or_false, Bool.true_or, Bool.or_true, Nat.reduceAdd, Nat.reduceLeDiff, Nat.reduceEqDiff, reduceCtorEq, x_add, x_iadd, x_sub, x_lt, x_le, x_gt, x_ge, x_eq, x_ne, x_eqB, x_neB, x_eqS, x_neS, x_max2, x_min2, x_int1, x_intB, x_lenL, x_lenT, x_lenO, x_lenS, x_sumL, x_sumO, x_sortL, x_sortO, x_listL, x_listT, x_listO, x_isN, x_isNn, x_isNi, x_isNl, x_isNt, x_isNb, x_notN, x_ixL, x_ixT, x_ixO, x_ixS, x_ix0, x_ix1, x_ix2, x_sl, x_slO, x_slT, x_inL, x_inO, x_ninL, x_ninO, oD, hH cl vs days b x (by omega) (by omega), hhd, sb]
        have : decide (cnt cl b vs x < days) = decide (x < e) := by
          by_cases h : x < e
          · rw [decide_eq_true h, decide_eq_true (hr.2.2 x hx0.1 h)]
          · have := cnt_mono cl b vs hr.1 (show e ≤ x by omega)
            rw [decide_eq_false h, decide_eq_false (by omega)]
        rw [this]; simp
    rintro ρ ⟨⟨o11, o12, rfl⟩, _⟩
    -- which visits are free
    have cutv : ∀ k : Int, 0 ≤ k → k < (vs.length : Int) → cutD (vs.map vD) (some 0) (some k) = (vs.take k.toNat).map vD := fun k k0 k1 => by
      rw [cut_to k0 (by rw [List.length_map]; omega), List.map_take]
    have hfree : ∀ e : Option T, evComp (eiRng1 (evCons (evSh (evC1 fLen (evCons (evVar 7) evNil))) evNil)) [16] (egName 16) evYes (evBin fLtI (evSh (evCall 4 DC (evCons (evVar 5) (evCons (evVar 4) (evCons (evSh (evSl fSl (evVar 7) (eoS (evSh (evC (.int 0)))) (eoS (evVar 16)))) (evCons (evBin fIx (evBin fIx (evVar 7) (evVar 16)) (evSh (evC (.int 0)))) evNil)))))) (evVar 6))
        [some (.scr ns), some (.sh (L dr)), some (.sh (L mo)), some (.sh (.bool late)), some (.sh (I b)), some (.sh (L cl)), some (.sh (I days)), some (.sh (VL vs)), some (.sh (.str kept)), some (.sh (oD r)), some (.sh (L td)), o11, o12, none, none, none, none] = .ok (.ol ((freeL cl days b vs).map PyData.bool)) := fun _ => by
      rw [comp_all (l := rngI 0 (vs.length : Int)) (f := PyData.int) (h := fun k => .bool (decide (cnt cl b (vs.take k.toNat) (vs.getD k.toNat (0, none)).1 < days))) (x_rng1 (by simp only [evVar, En.get, evC, evBin, evSh, evEsc, evB, evEB, evChain, evAnd, evOr, evNot, evAndV, evOrV, evNotV, evIf, evCons, evNil, evLst, evTup, evCall, callF, evSl, eoN, eoS, evUn, evC1, evIsi, evTru, erg1, erg2, evLRg, evTRg, eiSeq, eiEnum, eiZip, x_bind, x_rs, x_asB, x_asI, x_bifB, x_bifO, x_andB, x_orB, x_bifI, List.length_map, en0, List.replicate, List.cons_append, List.nil_append, T.asD, T.items, T.itL, T.itT, T.er, T.ers, T.noScr, T.noScrs, T.shs, mkL, mkT, T.isSh, T.argOk, T.toArg, T.solid, flatD, T.isL, T.parts, putAll, T.tru, T.ty, tyD, En.put, En.clr, En.share, egName, egTup, egCons, egNil, Option.map_some, Option.map_none, Option.bind_some, Option.bind, List.all_cons, List.all_nil, List.map_cons, List.map_nil, List.length_cons, List.length_nil, Bool.and_true, Bool.true_and, Bool.and_self, Bool.not_true, Bool.not_false, if_true, cond_true, cond_false, Bool.false_eq_true, if_false, true_and, and_true, Rs.P_ok, Bool.and_false, Bool.false_and, Bool.false_or, Bool.or_false, Bool.true_or, Bool.or_true, Nat.reduceAdd, Nat.reduceLeDiff, Nat.reduceEqDiff, reduceCtorEq, x_add, x_iadd, x_sub, x_lt, x_le, x_gt, x_ge, x_eq, x_ne, x_eqB, x_neB, x_eqS, x_neS, x_max2, x_min2, x_int1, x_intB, x_lenL, x_lenT, x_lenO, x_lenS, x_sumL, x_sumO, x_sortL, x_sortO, x_listL, x_listT, x_listO, x_isN, x_isNn, x_isNi, x_isNl, x_isNt, x_isNb, x_notN, x_ixL, x_ixT, x_ixO, x_ixS, x_ix0, x_ix1, x_ix2, x_sl, x_slO, x_slT, x_inL, x_inO, x_ninL, x_ninO]) (by omega) (by omega)) (by rw [rngI_len]; omega) fun k hk => ⟨_, rfl, ?_⟩]
      · congr 2
        apply List.ext_getElem?
        intro i
        unfold rngI freeL
        rw [List.map_map, List.map_map, List.getElem?_map, List.getElem?_map]
        by_cases hi : i < vs.length
        · rw [List.getElem?_range (by omega), List.getElem?_eq_getElem hi]
          have hb' : b ≤ (vs[i]).1 := vle _ (List.getElem_mem _)
          have e1 := cnt_prefix' cl b (split_at hi) hch
          simp only [Option.map_some, Function.comp, List.getD_eq_getElem?_getD]
          rw [show ((0 : Int) + (i : Int)).toNat = i by omega, List.getElem?_eq_getElem hi, Option.getD_some, holds_cnt cl days b vs cn hch _ hb', e1]
        · rw [List.getElem?_eq_none (by simp; omega), List.getElem?_eq_none (by omega)]; rfl
      · have hk := rngI_mem.mp hk
        have hi : k.toNat < vs.length := by omega
        have hix : L2.atI (vs.map vD) k = some (vD vs[k.toNat]) := x_ixm (atI_get hk.1 hk.2)
        have hv1 := (vb _ (List.getElem_mem hi)).1
        have hv0 := vle _ (List.getElem_mem hi)
        simp only [evVar, En.get, evC, evBin, evSh, evEsc, evB, evEB, evChain, evAnd, evOr, evNot, evAndV, evOrV, evNotV, evIf, evCons, evNil, evLst, evTup, evCall, callF, evSl, eoN, eoS, evUn, evC1, evIsi, evTru, erg1, erg2, evLRg, evTRg, eiSeq, eiEnum, eiZip, x_bind, x_rs, x_asB, x_asI, x_bifB, x_bifO, x_andB, x_orB, x_bifI, List.length_map, en0, List.replicate, List.cons_append, List.nil_append, T.asD, T.items, T.itL, T.itT, T.er, T.ers, T.noScr, T.noScrs, T.shs, mkL, mkT, T.isSh, T.argOk, T.toArg, T.solid, flatD, T.isL, T.parts, putAll, T.tru, T.ty, tyD, En.put, En.clr, En.share, egName, egTup, egCons, egNil, Option.map_some, Option.map_none, Option.bind_some, Option.bind, List.all_cons, List.all_nil, List.map_cons, List.map_nil, List.length_cons, List.length_nil, Bool.and_true, Bool.true_and, Bool.and_self, Bool.not_true, Bool.not_false, if_true, cond_true, cond_false, Bool.false_eq_true, if_false, true_and, and_true, Rs.P_ok, Bool.and_false, Bool.false_and, Bool.false_or, Bool.or_false, Bool.true_or, Bool.or_true, Nat.reduceAdd, Nat.reduceLeDiff, Nat.reduceEqDiff, reduceCtorEq, x_add, x_iadd, x_sub, x_lt, x_le, x_gt, x_ge, x_eq, x_ne, x_eqB, x_neB, x_eqS, x_neS, x_max2, x_min2, x_int1, x_intB, x_lenL, x_lenT, x_lenO, x_lenS, x_sumL, x_sumO, x_sortL, x_sortO, x_listL, x_listT, x_listO, x_isN, x_isNn, x_isNi, x_isNl, x_isNt, x_isNb, x_notN, x_ixL, x_ixT, x_ixO, x_ixS, x_ix0, x_ix1, x_ix2, x_sl, x_slO, x_slT, x_inL, x_inO, x_ninL, x_ninO, cutv k hk.1 hk.2, hix, hC cl (vs.take k.toNat) b _ hb0 (by omega) (show (vs[k.toNat]).1 ≤ 100000 by omega) (by omega), List.getD_eq_getElem?_getD, List.getElem?_eq_getElem hi, Option.getD_some]
    have fl : (freeL cl days b vs).length = vs.length := by unfold freeL; rw [List.length_map]
    refine p_seq (p_share (p_share (p_set ?_)))
    simp only [evVar, En.get, evC, evBin, evSh, evEsc, evB, evEB, evChain, evAnd, evOr, evNot, evAndV, evOrV, evNotV, evIf, evCons, evNil, evLst, evTup, evCall, callF, evSl, eoN, eoS, evUn, evC1, evIsi, evTru, erg1, erg2, evLRg, evTRg, eiSeq, eiEnum, eiZip, x_bind, x_rs, x_asB, x_asI, x_bifB, x_bifO, x_andB, x_orB, x_bifI, List.length_map, en0, List.replicate, List.cons_append, List.nil_append, T.asD, T.items, T.itL, T.itT, T.er, T.ers, T.noScr, T.noScrs, T.shs, mkL, mkT, T.isSh, T.argOk, T.toArg, T.solid, flatD, T.isL, T.parts, putAll, T.tru, T.ty, tyD, En.put, En.clr, En.share, egName, egTup, egCons, egNil, Option.map_some, Option.map_none, Option.bind_some, Option.bind, List.all_cons, List.all_nil, List.map_cons, List.map_nil, List.length_cons, List.length_nil, Bool.and_true, Bool.true_and, Bool.and_self, Bool.not_true, Bool.not_false, if_true, cond_true, cond_false, Bool.false_eq_true, if_false, true_and, and_true, Rs.P_ok, Bool.and_false, Bool.false_and, Bool.false_or, Bool.or_false, Bool.true_or, Bool.or_true, Nat.reduceAdd, Nat.reduceLeDiff, Nat.reduceEqDiff, reduceCtorEq, x_add, x_iadd, x_sub, x_lt, x_le, x_gt, x_ge, x_eq, x_ne, x_eqB, x_neB, x_eqS, x_neS, x_max2, x_min2, x_int1, x_intB, x_lenL, x_lenT, x_lenO, x_lenS, x_sumL, x_sumO, x_sortL, x_sortO, x_listL, x_listT, x_listO, x_isN, x_isNn, x_isNi, x_isNl, x_isNt, x_isNb, x_notN, x_ixL, x_ixT, x_ixO, x_ixS, x_ix0, x_ix1, x_ix2, x_sl, x_slO, x_slT, x_inL, x_inO, x_ninL, x_ninO]
    rw [hfree none]
    simp only [evVar, En.get, evC, evBin, evSh, evEsc, evB, evEB, evChain, evAnd, evOr, evNot, evAndV, evOrV, evNotV, evIf, evCons, evNil, evLst, evTup, evCall, callF, evSl, eoN, eoS, evUn, evC1, evIsi, evTru, erg1, erg2, evLRg, evTRg, eiSeq, eiEnum, eiZip, x_bind, x_rs, x_asB, x_asI, x_bifB, x_bifO, x_andB, x_orB, x_bifI, List.length_map, en0, List.replicate, List.cons_append, List.nil_append, T.asD, T.items, T.itL, T.itT, T.er, T.ers, T.noScr, T.noScrs, T.shs, mkL, mkT, T.isSh, T.argOk, T.toArg, T.solid, flatD, T.isL, T.parts, putAll, T.tru, T.ty, tyD, En.put, En.clr, En.share, egName, egTup, egCons, egNil, Option.map_some, Option.map_none, Option.bind_some, Option.bind, List.all_cons, List.all_nil, List.map_cons, List.map_nil, List.length_cons, List.length_nil, Bool.and_true, Bool.true_and, Bool.and_self, Bool.not_true, Bool.not_false, if_true, cond_true, cond_false, Bool.false_eq_true, if_false, true_and, and_true, Rs.P_ok, Bool.and_false, Bool.false_and, Bool.false_or, Bool.or_false, Bool.true_or, Bool.or_true, Nat.reduceAdd, Nat.reduceLeDiff, Nat.reduceEqDiff, reduceCtorEq, x_add, x_iadd, x_sub, x_lt, x_le, x_gt, x_ge, x_eq, x_ne, x_eqB, x_neB, x_eqS, x_neS, x_max2, x_min2, x_int1, x_intB, x_lenL, x_lenT, x_lenO, x_lenS, x_sumL, x_sumO, x_sortL, x_sortO, x_listL, x_listT, x_listO, x_isN, x_isNn, x_isNi, x_isNl, x_isNt, x_isNb, x_notN, x_ixL, x_ixT, x_ixO, x_ixS, x_ix0, x_ix1, x_ix2, x_sl, x_slO, x_slT, x_inL, x_inO, x_ninL, x_ninO]
    generalize hfs : freeL cl days b vs = fs at fl
    have hDF : DF [.sh (L cl), .sh (I days), .sh (I b), .sh (VL vs)] = .ok (.ol (fs.map PyData.bool)) := by
      rw [← hfs]; exact hF cl vs days b (by omega) (by omega)
    have hsm := hS _ (same_bools fs (by omega))
    refine p_seq (p_forM (l := rngI 0 2) (f := PyData.int) (x_rng1 (by simp only [evVar, En.get, evC, evBin, evSh, evEsc, evB, evEB, evChain, evAnd, evOr, evNot, evAndV, evOrV, evNotV, evIf, evCons, evNil, evLst, evTup, evCall, callF, evSl, eoN, eoS, evUn, evC1, evIsi, evTru, erg1, erg2, evLRg, evTRg, eiSeq, eiEnum, eiZip, x_bind, x_rs, x_asB, x_asI, x_bifB, x_bifO, x_andB, x_orB, x_bifI, List.length_map, en0, List.replicate, List.cons_append, List.nil_append, T.asD, T.items, T.itL, T.itT, T.er, T.ers, T.noScr, T.noScrs, T.shs, mkL, mkT, T.isSh, T.argOk, T.toArg, T.solid, flatD, T.isL, T.parts, putAll, T.tru, T.ty, tyD, En.put, En.clr, En.share, egName, egTup, egCons, egNil, Option.map_some, Option.map_none, Option.bind_some, Option.bind, List.all_cons, List.all_nil, List.map_cons, List.map_nil, List.length_cons, List.length_nil, Bool.and_true, Bool.true_and, Bool.and_self, Bool.not_true, Bool.not_false, if_true, cond_true, cond_false, Bool.false_eq_true, if_false, true_and, and_true, Rs.P_ok, Bool.and_false, Bool.false_and, Bool.false_or, Bool.or_false, Bool.true_or, Bool.or_true, Nat.reduceAdd, Nat.reduceLeDiff, Nat.reduceEqDiff, reduceCtorEq, x_add, x_iadd, x_sub, x_lt, x_le, x_gt, x_ge, x_eq, x_ne, x_eqB, x_neB, x_eqS, x_neS, x_max2, x_min2, x_int1, x_intB, x_lenL, x_lenT, x_lenO, x_lenS, x_sumL, x_sumO, x_sortL, x_sortO, x_listL, x_listT, x_listO, x_isN, x_isNn, x_isNi, x_isNl, x_isNt, x_isNb, x_notN, x_ixL, x_ixT, x_ixO, x_ixS, x_ix0, x_ix1, x_ix2, x_sl, x_slO, x_slT, x_inL, x_inO, x_ninL, x_ninO]) (by decide) (by decide)) (fun q ρ => ∃ o14 o15, ρ = [some (.scr ns), some (.sh (L dr)), some (.sh (L mo)), some (.sh (.bool late)), some (.sh (I b)), some (.sh (L cl)), some (.sh (I days)), some (.sh (VL vs)), some (.sh (.str kept)), some (.sh (oD r)), some (.sh (L td)), o11, o12, some (.sh (.list (fs.map PyData.bool))), o14, o15, none]) ⟨_, _, rfl⟩ ?_ ?_)
    · rintro x q ρ ⟨o14, o15, rfl⟩
      refine ⟨_, rfl, ?_⟩
      refine p_seq (p_share (p_share (p_share (p_share (p_set ?_)))))
      simp only [evVar, En.get, evC, evBin, evSh, evEsc, evB, evEB, evChain, evAnd, evOr, evNot, evAndV, evOrV, evNotV, evIf, evCons, evNil, evLst, evTup, evCall, callF, evSl, eoN, eoS, evUn, evC1, evIsi, evTru, erg1, erg2, evLRg, evTRg, eiSeq, eiEnum, eiZip, x_bind, x_rs, x_asB, x_asI, x_bifB, x_bifO, x_andB, x_orB, x_bifI, List.length_map, en0, List.replicate, List.cons_append, List.nil_append, T.asD, T.items, T.itL, T.itT, T.er, T.ers, T.noScr, T.noScrs, T.shs, mkL, mkT, T.isSh, T.argOk, T.toArg, T.solid, flatD, T.isL, T.parts, putAll, T.tru, T.ty, tyD, En.put, En.clr, En.share, egName, egTup, egCons, egNil, Option.map_some, Option.map_none, Option.bind_some, Option.bind, List.all_cons, List.all_nil, List.map_cons, List.map_nil, List.length_cons, List.length_nil, Bool.and_true, Bool.true_and, Bool.and_self, Bool.not_true, Bool.not_false, if_true, cond_true, cond_false, Bool.false_eq_true, if_false, true_and, and_true, Rs.P_ok, Bool.and_false, Bool.false_and, Bool.false_or, Bool.or_false, Bool.true_or, Bool.or_true, Nat.reduceAdd, Nat.reduceLeDiff, Nat.reduceEqDiff, reduceCtorEq, x_add, x_iadd, x_sub, x_lt, x_le, x_gt, x_ge, x_eq, x_ne, x_eqB, x_neB, x_eqS, x_neS, x_max2, x_min2, x_int1, x_intB, x_lenL, x_lenT, x_lenO, x_lenS, x_sumL, x_sumO, x_sortL, x_sortO, x_listL, x_listT, x_listO, x_isN, x_isNn, x_isNi, x_isNl, x_isNt, x_isNb, x_notN, x_ixL, x_ixT, x_ixO, x_ixS, x_ix0, x_ix1, x_ix2, x_sl, x_slO, x_slT, x_inL, x_inO, x_ninL, x_ninO, hDF]
      refine p_seq (p_share (p_share (p_share (p_ifB (k := false) ?_ (fun h => by cases h) fun _ => p_nil (p_app rfl rfl ?_)))))
      · simp only [evVar, En.get, evC, evBin, evSh, evEsc, evB, evEB, evChain, evAnd, evOr, evNot, evAndV, evOrV, evNotV, evIf, evCons, evNil, evLst, evTup, evCall, callF, evSl, eoN, eoS, evUn, evC1, evIsi, evTru, erg1, erg2, evLRg, evTRg, eiSeq, eiEnum, eiZip, x_bind, x_rs, x_asB, x_asI, x_bifB, x_bifO, x_andB, x_orB, x_bifI, List.length_map, en0, List.replicate, List.cons_append, List.nil_append, T.asD, T.items, T.itL, T.itT, T.er, T.ers, T.noScr, T.noScrs, T.shs, mkL, mkT, T.isSh, T.argOk, T.toArg, T.solid, flatD, T.isL, T.parts, putAll, T.tru, T.ty, tyD, En.put, En.clr, En.share, egName, egTup, egCons, egNil, Option.map_some, Option.map_none, Option.bind_some, Option.bind, List.all_cons, List.all_nil, List.map_cons, List.map_nil, List.length_cons, List.length_nil, Bool.and_true, Bool.true_and, Bool.and_self, Bool.not_true, Bool.not_false, if_true, cond_true, cond_false, Bool.false_eq_true, if_false, true_and, and_true, Rs.P_ok, Bool.and_false, Bool.false_and, Bool.false_or, Bool.or_false, Bool.true_or, Bool.or_true, Nat.reduceAdd, Nat.reduceLeDiff, Nat.reduceEqDiff, reduceCtorEq, x_add, x_iadd, x_sub, x_lt, x_le, x_gt, x_ge, x_eq, x_ne, x_eqB, x_neB, x_eqS, x_neS, x_max2, x_min2, x_int1, x_intB, x_lenL, x_lenT, x_lenO, x_lenS, x_sumL, x_sumO, x_sortL, x_sortO, x_listL, x_listT, x_listO, x_isN, x_isNn, x_isNi, x_isNl, x_isNt, x_isNb, x_notN, x_ixL, x_ixT, x_ixO, x_ixS, x_ix0, x_ix1, x_ix2, x_sl, x_slO, x_slT, x_inL, x_inO, x_ninL, x_ninO, hsm, Nat.reduceLeDiff, x_repr rfl hok, decide_true]
        rw [← hkp, decide_eq_true rfl]; rfl
      · simp only [evVar, En.get, evC, evBin, evSh, evEsc, evB, evEB, evChain, evAnd, evOr, evNot, evAndV, evOrV, evNotV, evIf, evCons, evNil, evLst, evTup, evCall, callF, evSl, eoN, eoS, evUn, evC1, evIsi, evTru, erg1, erg2, evLRg, evTRg, eiSeq, eiEnum, eiZip, x_bind, x_rs, x_asB, x_asI, x_bifB, x_bifO, x_andB, x_orB, x_bifI, List.length_map, en0, List.replicate, List.cons_append, List.nil_append, T.asD, T.items, T.itL, T.itT, T.er, T.ers, T.noScr, T.noScrs, T.shs, mkL, mkT, T.isSh, T.argOk, T.toArg, T.solid, flatD, T.isL, T.parts, putAll, T.tru, T.ty, tyD, En.put, En.clr, En.share, egName, egTup, egCons, egNil, Option.map_some, Option.map_none, Option.bind_some, Option.bind, List.all_cons, List.all_nil, List.map_cons, List.map_nil, List.length_cons, List.length_nil, Bool.and_true, Bool.true_and, Bool.and_self, Bool.not_true, Bool.not_false, if_true, cond_true, cond_false, Bool.false_eq_true, if_false, true_and, and_true, Rs.P_ok, Bool.and_false, Bool.false_and, Bool.false_or, Bool.or_false, Bool.true_or, Bool.or_true, Nat.reduceAdd, Nat.reduceLeDiff, Nat.reduceEqDiff, reduceCtorEq, x_add, x_iadd, x_sub, x_lt, x_le, x_gt, x_ge, x_eq, x_ne, x_eqB, x_neB, x_eqS, x_neS, x_max2, x_min2, x_int1, x_intB, x_lenL, x_lenT, x_lenO, x_lenS, x_sumL, x_sumO, x_sortL, x_sortO, x_listL, x_listT, x_listO, x_isN, x_isNn, x_isNi, x_isNl, x_isNt, x_isNb, x_notN, x_ixL, x_ixT, x_ixO, x_ixS, x_ix0, x_ix1, x_ix2, x_sl, x_slO, x_slT, x_inL, x_inO, x_ninL, x_ninO]
        refine ⟨_, x_app (by rw [List.length_map]; omega), ?_⟩
        exact ⟨_, _, rfl⟩
    rintro ρ ⟨o14, o15, rfl⟩
    refine p_seq (p_forM (l := rngI 0 (vs.length : Int)) (f := PyData.int) (x_rng1 (by simp only [evVar, En.get, evC, evBin, evSh, evEsc, evB, evEB, evChain, evAnd, evOr, evNot, evAndV, evOrV, evNotV, evIf, evCons, evNil, evLst, evTup, evCall, callF, evSl, eoN, eoS, evUn, evC1, evIsi, evTru, erg1, erg2, evLRg, evTRg, eiSeq, eiEnum, eiZip, x_bind, x_rs, x_asB, x_asI, x_bifB, x_bifO, x_andB, x_orB, x_bifI, List.length_map, en0, List.replicate, List.cons_append, List.nil_append, T.asD, T.items, T.itL, T.itT, T.er, T.ers, T.noScr, T.noScrs, T.shs, mkL, mkT, T.isSh, T.argOk, T.toArg, T.solid, flatD, T.isL, T.parts, putAll, T.tru, T.ty, tyD, En.put, En.clr, En.share, egName, egTup, egCons, egNil, Option.map_some, Option.map_none, Option.bind_some, Option.bind, List.all_cons, List.all_nil, List.map_cons, List.map_nil, List.length_cons, List.length_nil, Bool.and_true, Bool.true_and, Bool.and_self, Bool.not_true, Bool.not_false, if_true, cond_true, cond_false, Bool.false_eq_true, if_false, true_and, and_true, Rs.P_ok, Bool.and_false, Bool.false_and, Bool.false_or, Bool.or_false, Bool.true_or, Bool.or_true, Nat.reduceAdd, Nat.reduceLeDiff, Nat.reduceEqDiff, reduceCtorEq, x_add, x_iadd, x_sub, x_lt, x_le, x_gt, x_ge, x_eq, x_ne, x_eqB, x_neB, x_eqS, x_neS, x_max2, x_min2, x_int1, x_intB, x_lenL, x_lenT, x_lenO, x_lenS, x_sumL, x_sumO, x_sortL, x_sortO, x_listL, x_listT, x_listO, x_isN, x_isNn, x_isNi, x_isNl, x_isNt, x_isNb, x_notN, x_ixL, x_ixT, x_ixO, x_ixS, x_ix0, x_ix1, x_ix2, x_sl, x_slO, x_slT, x_inL, x_inO, x_ninL, x_ninO]) (by omega) (by omega)) (fun q ρ => (∃ o16, ρ = [some (.scr ns), some (.sh (L dr)), some (.sh (L mo)), some (.sh (.bool late)), some (.sh (I b)), some (.sh (L cl)), some (.sh (I days)), some (.sh (VL vs)), some (.sh (.str kept)), some (.sh (oD r)), some (.sh (L td)), o11, o12, some (.sh (.list (fs.map PyData.bool))), o14, o15, o16]) ∧ ∀ x ∈ q, 0 ≤ x ∧ x < (vs.length : Int)) ?_ ?_ ?_)
    · exact ⟨⟨_, rfl⟩, fun x hx => rngI_mem.mp hx⟩
    · rintro k q ρ ⟨⟨o16, rfl⟩, hx⟩
      have hk := hx k List.mem_cons_self
      refine ⟨_, rfl, ?_⟩
      refine p_share (p_share (p_share (p_ifB (k := false) ?_ (fun h => by cases h) fun _ => p_nil ⟨⟨_, rfl⟩, fun y hy => hx y (List.mem_cons_of_mem _ hy)⟩)))
      have cutf : cutD (fs.map PyData.bool) (some 0) (some k) = (fs.take k.toNat).map PyData.bool := by
        rw [cut_to hk.1 (by rw [List.length_map]; omega), List.map_take]
      have hft := hF cl (vs.take k.toNat) days b (by omega) (by rw [List.length_take]; omega)
      have hfe : ((vs.take k.toNat).map fun v => holdsC cl days b (vs.take k.toNat) v.1) = fs.take k.toNat := by
        rw [← hfs]; exact free_take cl days b vs cn hch k.toNat
      rw [hfe] at hft
      have sh := shaped_of (lay_bools (fs.take k.toNat)) (depth_bools (fs.take k.toNat))
      simp only [evVar, En.get, evC, evBin, evSh, evEsc, evB, evEB, evChain, evAnd, evOr, evNot, evAndV, evOrV, evNotV, evIf, evCons, evNil, evLst, evTup, evCall, callF, evSl, eoN, eoS, evUn, evC1, evIsi, evTru, erg1, erg2, evLRg, evTRg, eiSeq, eiEnum, eiZip, x_bind, x_rs, x_asB, x_asI, x_bifB, x_bifO, x_andB, x_orB, x_bifI, List.length_map, en0, List.replicate, List.cons_append, List.nil_append, T.asD, T.items, T.itL, T.itT, T.er, T.ers, T.noScr, T.noScrs, T.shs, mkL, mkT, T.isSh, T.argOk, T.toArg, T.solid, flatD, T.isL, T.parts, putAll, T.tru, T.ty, tyD, En.put, En.clr, En.share, egName, egTup, egCons, egNil, Option.map_some, Option.map_none, Option.bind_some, Option.bind, List.all_cons, List.all_nil, List.map_cons, List.map_nil, List.length_cons, List.length_nil, Bool.and_true, Bool.true_and, Bool.and_self, Bool.not_true, Bool.not_false, if_true, cond_true, cond_false, Bool.false_eq_true, if_false, true_and, and_true, Rs.P_ok, Bool.and_false, Bool.false_and, Bool.false_or, Bool.or_false, Bool.true_or, Bool.or_true, Nat.reduceAdd, Nat.reduceLeDiff, Nat.reduceEqDiff, reduceCtorEq, x_add, x_iadd, x_sub, x_lt, x_le, x_gt, x_ge, x_eq, x_ne, x_eqB, x_neB, x_eqS, x_neS, x_max2, x_min2, x_int1, x_intB, x_lenL, x_lenT, x_lenO, x_lenS, x_sumL, x_sumO, x_sortL, x_sortO, x_listL, x_listT, x_listO, x_isN, x_isNn, x_isNi, x_isNl, x_isNt, x_isNb, x_notN, x_ixL, x_ixT, x_ixO, x_ixS, x_ix0, x_ix1, x_ix2, x_sl, x_slO, x_slT, x_inL, x_inO, x_ninL, x_ninO, cutv k hk.1 hk.2, hft, cutf, x_neG sh sh rfl, eqD_refl (lay_bools (fs.take k.toNat))]
    rintro ρ ⟨⟨o16, rfl⟩, _⟩
    refine p_seq (p_ifB (k := false) ?_ (fun h => by cases h) fun _ => p_nil (p_share (p_share (p_ret ?_))))
    · rcases List.eq_nil_or_concat vs with hvs | ⟨us, v, hvs⟩
      · have hr0 : r ≠ none := fun z => by
          obtain ⟨us, c, e, _⟩ := hnone.mp z
          rw [hvs] at e
          simp at e
        have hN : (T.sh (oD r)).isN = false := by cases r with
          | none => exact absurd rfl hr0
          | some e => rfl
        have h0 : decide ((0 : Int) < (vs.length : Nat)) = false := by rw [hvs]; rfl
        simp only [evVar, En.get, evC, evBin, evSh, evEsc, evB, evEB, evChain, evAnd, evOr, evNot, evAndV, evOrV, evNotV, evIf, evCons, evNil, evLst, evTup, evCall, callF, evSl, eoN, eoS, evUn, evC1, evIsi, evTru, erg1, erg2, evLRg, evTRg, eiSeq, eiEnum, eiZip, x_bind, x_rs, x_asB, x_asI, x_bifB, x_bifO, x_andB, x_orB, x_bifI, List.length_map, en0, List.replicate, List.cons_append, List.nil_append, T.asD, T.items, T.itL, T.itT, T.er, T.ers, T.noScr, T.noScrs, T.shs, mkL, mkT, T.isSh, T.argOk, T.toArg, T.solid, flatD, T.isL, T.parts, putAll, T.tru, T.ty, tyD, En.put, En.clr, En.share, egName, egTup, egCons, egNil, Option.map_some, Option.map_none, Option.bind_some, Option.bind, List.all_cons, List.all_nil, List.map_cons, List.map_nil, List.length_cons, List.length_nil, Bool.and_true, Bool.true_and, Bool.and_self, Bool.not_true, Bool.not_false, if_true, cond_true, cond_false, Bool.false_eq_true, if_false, true_and, and_true, Rs.P_ok, Bool.and_false, Bool.false_and, Bool.false_or, Bool.or_false, Bool.true_or, Bool.or_true, Nat.reduceAdd, Nat.reduceLeDiff, Nat.reduceEqDiff, reduceCtorEq, x_add, x_iadd, x_sub, x_lt, x_le, x_gt, x_ge, x_eq, x_ne, x_eqB, x_neB, x_eqS, x_neS, x_max2, x_min2, x_int1, x_intB, x_lenL, x_lenT, x_lenO, x_lenS, x_sumL, x_sumO, x_sortL, x_sortO, x_listL, x_listT, x_listO, x_isN, x_isNn, x_isNi, x_isNl, x_isNt, x_isNb, x_notN, x_ixL, x_ixT, x_ixO, x_ixS, x_ix0, x_ix1, x_ix2, x_sl, x_slO, x_slT, x_inL, x_inO, x_ninL, x_ninO, h0, hN, decide_true]
      · rw [List.concat_eq_append] at hvs
        have hlen : (vs.length : Int) - 1 = (us.length : Nat) := by rw [hvs]; simp
        have h0 : decide ((0 : Int) < (vs.length : Nat)) = true := decide_eq_true (by rw [hvs]; simp)
        have ixv : L2.atI (vs.map vD) ((vs.length : Int) - 1) = some (vD v) := by
          rw [hlen]
          exact x_ixm (by rw [hvs]; exact atI_app)
        have hv1 : b ≤ v.1 := vle v (by rw [hvs]; simp)
        have ixf : L2.atI (fs.map PyData.bool) ((fs.length : Int) - 1) = some (.bool (decide (cnt cl b vs v.1 < days))) := by
          rw [fl, hlen, ← holds_cnt cl days b vs cn hch v.1 hv1]
          refine x_ixm ?_
          have e : fs = us.map (fun v => holdsC cl days b vs v.1) ++ [holdsC cl days b vs v.1] := by
            have : vs.map (fun v => holdsC cl days b vs v.1) = (us ++ [v]).map (fun v => holdsC cl days b vs v.1) := congrArg (List.map fun v => holdsC cl days b vs v.1) hvs
            rw [← hfs]
            unfold freeL
            rw [this, List.map_append]; rfl
          rw [e, show ((us.length : Nat) : Int) = ((us.map fun v => holdsC cl days b vs v.1).length : Nat) by rw [List.length_map]]
          exact atI_app
        obtain ⟨c, bk⟩ := v
        cases bk with
        | none =>
          have hN : (T.sh (oD r)).isN = decide (cnt cl b vs c < days) := by
            by_cases hlt : cnt cl b vs c < days
            · rw [decide_eq_true hlt, hnone.mpr ⟨us, c, hvs, hlt⟩]; rfl
            · rw [decide_eq_false hlt]
              cases r with
              | some e => rfl
              | none =>
                obtain ⟨us', c', e, q⟩ := hnone.mp rfl
                rw [hvs] at e
                have e := List.append_inj_right' e rfl
                have e : c = c' := by simpa using e
                rw [← e] at q
                exact absurd q hlt
          have hn1 : T.isN (.sh (oD none)) = true := rfl
          simp only [evVar, En.get, evC, evBin, evSh, evEsc, evB, evEB, evChain, evAnd, evOr, evNot, evAndV, evOrV, evNotV, evIf, evCons, evNil, evLst, evTup, evCall, callF, evSl, eoN, eoS, evUn, evC1, evIsi, evTru, erg1, erg2, evLRg, evTRg, eiSeq, eiEnum, eiZip, x_bind, x_rs, x_asB, x_asI, x_bifB, x_bifO, x_andB, x_orB, x_bifI, List.length_map, en0, List.replicate, List.cons_append, List.nil_append, T.asD, T.items, T.itL, T.itT, T.er, T.ers, T.noScr, T.noScrs, T.shs, mkL, mkT, T.isSh, T.argOk, T.toArg, T.solid, flatD, T.isL, T.parts, putAll, T.tru, T.ty, tyD, En.put, En.clr, En.share, egName, egTup, egCons, egNil, Option.map_some, Option.map_none, Option.bind_some, Option.bind, List.all_cons, List.all_nil, List.map_cons, List.map_nil, List.length_cons, List.length_nil, Bool.and_true, Bool.true_and, Bool.and_self, Bool.not_true, Bool.not_false, if_true, cond_true, cond_false, Bool.false_eq_true, if_false, true_and, and_true, Rs.P_ok, Bool.and_false, Bool.false_and, Bool.false_or, Bool.or_false, Bool.true_or, Bool.or_true, Nat.reduceAdd, Nat.reduceLeDiff, Nat.reduceEqDiff, reduceCtorEq, x_add, x_iadd, x_sub, x_lt, x_le, x_gt, x_ge, x_eq, x_ne, x_eqB, x_neB, x_eqS, x_neS, x_max2, x_min2, x_int1, x_intB, x_lenL, x_lenT, x_lenO, x_lenS, x_sumL, x_sumO, x_sortL, x_sortO, x_listL, x_listT, x_listO, x_isN, x_isNn, x_isNi, x_isNl, x_isNt, x_isNb, x_notN, x_ixL, x_ixT, x_ixO, x_ixS, x_ix0, x_ix1, x_ix2, x_sl, x_slO, x_slT, x_inL, x_inO, x_ninL, x_ninO, h0, ixv, ixf, hn1, hN, decide_true]
        | some x =>
          have hr0 : r ≠ none := fun z => by
            obtain ⟨us', c', e, _⟩ := hnone.mp z
            rw [hvs] at e
            have e := List.append_inj_right' e rfl
            simp at e
          have hN : (T.sh (oD r)).isN = false := by cases r with
            | none => exact absurd rfl hr0
            | some e => rfl
          have hn1 : T.isN (.sh (oD (some x))) = false := rfl
          simp only [evVar, En.get, evC, evBin, evSh, evEsc, evB, evEB, evChain, evAnd, evOr, evNot, evAndV, evOrV, evNotV, evIf, evCons, evNil, evLst, evTup, evCall, callF, evSl, eoN, eoS, evUn, evC1, evIsi, evTru, erg1, erg2, evLRg, evTRg, eiSeq, eiEnum, eiZip, x_bind, x_rs, x_asB, x_asI, x_bifB, x_bifO, x_andB, x_orB, x_bifI, List.length_map, en0, List.replicate, List.cons_append, List.nil_append, T.asD, T.items, T.itL, T.itT, T.er, T.ers, T.noScr, T.noScrs, T.shs, mkL, mkT, T.isSh, T.argOk, T.toArg, T.solid, flatD, T.isL, T.parts, putAll, T.tru, T.ty, tyD, En.put, En.clr, En.share, egName, egTup, egCons, egNil, Option.map_some, Option.map_none, Option.bind_some, Option.bind, List.all_cons, List.all_nil, List.map_cons, List.map_nil, List.length_cons, List.length_nil, Bool.and_true, Bool.true_and, Bool.and_self, Bool.not_true, Bool.not_false, if_true, cond_true, cond_false, Bool.false_eq_true, if_false, true_and, and_true, Rs.P_ok, Bool.and_false, Bool.false_and, Bool.false_or, Bool.or_false, Bool.true_or, Bool.or_true, Nat.reduceAdd, Nat.reduceLeDiff, Nat.reduceEqDiff, reduceCtorEq, x_add, x_iadd, x_sub, x_lt, x_le, x_gt, x_ge, x_eq, x_ne, x_eqB, x_neB, x_eqS, x_neS, x_max2, x_min2, x_int1, x_intB, x_lenL, x_lenT, x_lenO, x_lenS, x_sumL, x_sumO, x_sortL, x_sortO, x_listL, x_listT, x_listO, x_isN, x_isNn, x_isNi, x_isNl, x_isNt, x_isNb, x_notN, x_ixL, x_ixT, x_ixO, x_ixS, x_ix0, x_ix1, x_ix2, x_sl, x_slO, x_slT, x_inL, x_inO, x_ninL, x_ninO, h0, ixv, ixf, hn1, hN, decide_true]
    · simp only [evVar, En.get, evC, evBin, evSh, evEsc, evB, evEB, evChain, evAnd, evOr, evNot, evAndV, evOrV, evNotV, evIf, evCons, evNil, evLst, evTup, evCall, callF, evSl, eoN, eoS, evUn, evC1, evIsi, evTru, erg1, erg2, evLRg, evTRg, eiSeq, eiEnum, eiZip, x_bind, x_rs, x_asB, x_asI, x_bifB, x_bifO, x_andB, x_orB, x_bifI, List.length_map, en0, List.replicate, List.cons_append, List.nil_append, T.asD, T.items, T.itL, T.itT, T.er, T.ers, T.noScr, T.noScrs, T.shs, mkL, mkT, T.isSh, T.argOk, T.toArg, T.solid, flatD, T.isL, T.parts, putAll, T.tru, T.ty, tyD, En.put, En.clr, En.share, egName, egTup, egCons, egNil, Option.map_some, Option.map_none, Option.bind_some, Option.bind, List.all_cons, List.all_nil, List.map_cons, List.map_nil, List.length_cons, List.length_nil, Bool.and_true, Bool.true_and, Bool.and_self, Bool.not_true, Bool.not_false, if_true, cond_true, cond_false, Bool.false_eq_true, if_false, true_and, and_true, Rs.P_ok, Bool.and_false, Bool.false_and, Bool.false_or, Bool.or_false, Bool.true_or, Bool.or_true, Nat.reduceAdd, Nat.reduceLeDiff, Nat.reduceEqDiff, reduceCtorEq, x_add, x_iadd, x_sub, x_lt, x_le, x_gt, x_ge, x_eq, x_ne, x_eqB, x_neB, x_eqS, x_neS, x_max2, x_min2, x_int1, x_intB, x_lenL, x_lenT, x_lenO, x_lenS, x_sumL, x_sumO, x_sortL, x_sortO, x_listL, x_listT, x_listO, x_isN, x_isNn, x_isNi, x_isNl, x_isNt, x_isNb, x_notN, x_ixL, x_ixT, x_ixO, x_ixS, x_ix0, x_ix1, x_ix2, x_sl, x_slO, x_slT, x_inL, x_inO, x_ninL, x_ninO, Nat.reduceLeDiff, x_repr rfl hok, decide_true]
      rw [← hkp, decide_eq_true rfl]
end G
set_option Elab.async false
set_option linter.all false
set_option maxRecDepth 100000
set_option maxHeartbeats 0
namespace G
open PySem PySem.Spec L2 PL PyProof.Rows
def e__law_cell : He.DefD := ⟨("_law_cell", none), "_law_cell", "_law_cell", defArgs st__law_cell, defBody st__law_cell, defScope st__law_cell, [], []⟩
def e__law_closed : He.DefD := ⟨("_law_closed", none), "_law_closed", "_law_closed", defArgs st__law_closed, defBody st__law_closed, defScope st__law_closed, [], []⟩
def e__law_away : He.DefD := ⟨("_law_away", none), "_law_away", "_law_away", defArgs st__law_away, defBody st__law_away, defScope st__law_away, [], []⟩
def e__law_counts : He.DefD := ⟨("_law_counts", none), "_law_counts", "_law_counts", defArgs st__law_counts, defBody st__law_counts, defScope st__law_counts, [], []⟩
def e__law_end : He.DefD := ⟨("_law_end", none), "_law_end", "_law_end", defArgs st__law_end, defBody st__law_end, defScope st__law_end, [], []⟩
def e__law_numbers : He.DefD := ⟨("_law_numbers", none), "_law_numbers", "_law_numbers", defArgs st__law_numbers, defBody st__law_numbers, defScope st__law_numbers, [], []⟩
def e__law_same : He.DefD := ⟨("_law_same", none), "_law_same", "_law_same", defArgs st__law_same, defBody st__law_same, defScope st__law_same, [], []⟩
def e__law_is_int : He.DefD := ⟨("_law_is_int", none), "_law_is_int", "_law_is_int", defArgs st__law_is_int, defBody st__law_is_int, defScope st__law_is_int, [], []⟩
def e__law_long_price : He.DefD := ⟨("_law_long_price", none), "_law_long_price", "_law_long_price", defArgs st__law_long_price, defBody st__law_long_price, defScope st__law_long_price, [], []⟩
def e__law_cents : He.DefD := ⟨("_law_cents", none), "_law_cents", "_law_cents", defArgs st__law_cents, defBody st__law_cents, defScope st__law_cents, [], []⟩
def e__law_price : He.DefD := ⟨("_law_price", none), "_law_price", "_law_price", defArgs st__law_price, defBody st__law_price, defScope st__law_price, [], []⟩
def e__law_tariff : He.DefD := ⟨("_law_tariff", none), "_law_tariff", "_law_tariff", defArgs st__law_tariff, defBody st__law_tariff, defScope st__law_tariff, [], []⟩
def e_price_of : He.DefD := ⟨("price_of", none), "price_of", "price_of", defArgs st_price_of, defBody st_price_of, defScope st_price_of, [], []⟩
def e_most_for : He.DefD := ⟨("most_for", none), "most_for", "most_for", defArgs st_most_for, defBody st_most_for, defScope st_most_for, [], []⟩
def e__law_tariffs : He.DefD := ⟨("_law_tariffs", none), "_law_tariffs", "_law_tariffs", defArgs st__law_tariffs, defBody st__law_tariffs, defScope st__law_tariffs, [], []⟩
def e__law_visits : He.DefD := ⟨("_law_visits", none), "_law_visits", "_law_visits", defArgs st__law_visits, defBody st__law_visits, defScope st__law_visits, [], []⟩
def e_open_days : He.DefD := ⟨("open_days", none), "open_days", "open_days", defArgs st_open_days, defBody st_open_days, defScope st_open_days, [], []⟩
def e_away_days : He.DefD := ⟨("away_days", none), "away_days", "away_days", defArgs st_away_days, defBody st_away_days, defScope st_away_days, [], []⟩
def e_counted : He.DefD := ⟨("counted", none), "counted", "counted", defArgs st_counted, defBody st_counted, defScope st_counted, [], []⟩
def e_holds_on : He.DefD := ⟨("holds_on", none), "holds_on", "holds_on", defArgs st_holds_on, defBody st_holds_on, defScope st_holds_on, [], []⟩
def e_end_of : He.DefD := ⟨("end_of", none), "end_of", "end_of", defArgs st_end_of, defBody st_end_of, defScope st_end_of, [], []⟩
def e_free_visits : He.DefD := ⟨("free_visits", none), "free_visits", "free_visits", defArgs st_free_visits, defBody st_free_visits, defScope st_free_visits, [], []⟩
def e_law : He.DefD := ⟨("law", none), "law", "law", defArgs st_law, defBody st_law, defScope st_law, [], []⟩
def fns : List He.DefD := [e__law_cell, e__law_closed, e__law_away, e__law_counts, e__law_end, e__law_numbers, e__law_same, e__law_is_int, e__law_long_price, e__law_cents, e__law_price, e__law_tariff, e_price_of, e_most_for, e__law_tariffs, e__law_visits, e_open_days, e_away_days, e_counted, e_holds_on, e_end_of, e_free_visits, e_law]
def facts : List He.Fa := [.glo "_law_cell", .glo "_law_closed", .glo "_law_away", .glo "_law_counts", .glo "_law_end", .glo "_law_numbers", .glo "_law_same", .glo "_law_is_int", .glo "_law_long_price", .glo "_law_cents", .glo "_law_price", .glo "_law_tariff", .glo "price_of", .glo "most_for", .glo "_law_tariffs", .glo "_law_visits", .glo "open_days", .glo "away_days", .glo "counted", .glo "holds_on", .glo "end_of", .glo "free_visits", .glo "law", .free "bool", .free "enumerate", .free "int", .free "isinstance", .free "len", .free "list", .free "max", .free "min", .free "range", .free "repr", .free "sorted", .free "str", .free "sum", .free "tuple", .int "BEYOND" 10400, .int "MOST_THINGS" 1000000000]
abbrev R0 : PySem.W.OpenRow := PySem.W.OpenLaw.row PySem.Challenge.rw_piecesturned_k77_prices_by_tariffs_and_g
abbrev hook0 : PySem.W.Hook := He.hookD 4 facts fns
def ob (s : PySem.W.SharedT) : He.AlD := He.obsDG 4 facts fns (HandSHeadRun.getT s)
theorem ob_eq (s : PySem.W.SharedT) : ob s = hook0.obs s.abs := He.obsDG_eq (HandSHeadRun.getT_eq s)
def loose0 : List Str := ["open_days", "away_days", "counted", "holds_on", "end_of", "free_visits", "price_of", "most_for", "_law_cell", "_law_numbers", "_law_same", "_law_is_int", "_law_closed", "_law_tariff", "_law_cents", "_law_price", "_law_away", "_law_counts", "_law_end", "_law_long_price", "_law_tariffs", "_law_visits", "BEYOND", "MOST_THINGS"]
theorem run0 (w : World) : HandSHeadRun.RunEq R0 (PySem.W.view R0.prog [28]) hook0 ob 1000 loose0 w := by
  intro os
  kernel_rfl
theorem says {P : Program} {w : World} {K : PySem.W.Frag} {h : Heap} {mg : Str → Option Value} {f : Addr} (X : K.In h) (G : h.Ns mainGlobals mg) (hfa : mg ("law" : Str) = some (.ref f)) (c : He.SaysD facts fns K) :
    ∃ fd : FuncData, (∀ (s : Shared) (v : Value), BindsTo s fd ⟨[v], []⟩ [("script", v)]) ∧ ∀ base : Heap, K.In base → base.Ns mainGlobals mg → RunC P w K mg base (L2.CX P w) f fd ["script"] (spD K mg 1 d_law) := by
  obtain ⟨fd__law_cell, F__law_cell⟩ := c.def_ 0 (d := e__law_cell) rfl
  have g__law_cell := He.glo_ok X G (c.fact 0 (f := .glo "_law_cell") rfl)
  have b__law_cell : Binds K fd__law_cell ["script", "k"] [] := F__law_cell.bindsN fun _ _ _ _ _ _ us hl => match us, hl with | [_, _], _ => rfl
  obtain ⟨fd__law_closed, F__law_closed⟩ := c.def_ 1 (d := e__law_closed) rfl
  have g__law_closed := He.glo_ok X G (c.fact 1 (f := .glo "_law_closed") rfl)
  have b__law_closed : Binds K fd__law_closed ["draws", "at", "most"] [] := F__law_closed.bindsN fun _ _ _ _ _ _ us hl => match us, hl with | [_, _, _], _ => rfl
  obtain ⟨fd__law_away, F__law_away⟩ := c.def_ 2 (d := e__law_away) rfl
  have g__law_away := He.glo_ok X G (c.fact 2 (f := .glo "_law_away") rfl)
  have b__law_away : Binds K fd__law_away ["visits", "day"] [] := F__law_away.bindsN fun _ _ _ _ _ _ us hl => match us, hl with | [_, _], _ => rfl
  obtain ⟨fd__law_counts, F__law_counts⟩ := c.def_ 3 (d := e__law_counts) rfl
  have g__law_counts := He.glo_ok X G (c.fact 3 (f := .glo "_law_counts") rfl)
  have b__law_counts : Binds K fd__law_counts ["closed", "begin", "visits", "stop"] [] := F__law_counts.bindsN fun _ _ _ _ _ _ us hl => match us, hl with | [_, _, _, _], _ => rfl
  obtain ⟨fd__law_end, F__law_end⟩ := c.def_ 4 (d := e__law_end) rfl
  have g__law_end := He.glo_ok X G (c.fact 4 (f := .glo "_law_end") rfl)
  have b__law_end : Binds K fd__law_end ["closed", "days", "begin", "visits"] [] := F__law_end.bindsN fun _ _ _ _ _ _ us hl => match us, hl with | [_, _, _, _], _ => rfl
  obtain ⟨fd__law_numbers, F__law_numbers⟩ := c.def_ 5 (d := e__law_numbers) rfl
  have g__law_numbers := He.glo_ok X G (c.fact 5 (f := .glo "_law_numbers") rfl)
  have b__law_numbers : Binds K fd__law_numbers ["cell", "count", "limit"] [] := F__law_numbers.bindsN fun _ _ _ _ _ _ us hl => match us, hl with | [_, _, _], _ => rfl
  obtain ⟨fd__law_same, F__law_same⟩ := c.def_ 6 (d := e__law_same) rfl
  have g__law_same := He.glo_ok X G (c.fact 6 (f := .glo "_law_same") rfl)
  have b__law_same : Binds K fd__law_same ["told", "due"] [] := F__law_same.bindsN fun _ _ _ _ _ _ us hl => match us, hl with | [_, _], _ => rfl
  obtain ⟨fd__law_is_int, F__law_is_int⟩ := c.def_ 7 (d := e__law_is_int) rfl
  have g__law_is_int := He.glo_ok X G (c.fact 7 (f := .glo "_law_is_int") rfl)
  have b__law_is_int : Binds K fd__law_is_int ["number"] [] := F__law_is_int.bindsN fun _ _ _ _ _ _ us hl => match us, hl with | [_], _ => rfl
  obtain ⟨fd__law_long_price, F__law_long_price⟩ := c.def_ 8 (d := e__law_long_price) rfl
  have g__law_long_price := He.glo_ok X G (c.fact 8 (f := .glo "_law_long_price") rfl)
  have b__law_long_price : Binds K fd__law_long_price ["tariff", "count"] [] := F__law_long_price.bindsN fun _ _ _ _ _ _ us hl => match us, hl with | [_, _], _ => rfl
  obtain ⟨fd__law_cents, F__law_cents⟩ := c.def_ 9 (d := e__law_cents) rfl
  have g__law_cents := He.glo_ok X G (c.fact 9 (f := .glo "_law_cents") rfl)
  have b__law_cents : Binds K fd__law_cents ["tariff", "count"] [] := F__law_cents.bindsN fun _ _ _ _ _ _ us hl => match us, hl with | [_, _], _ => rfl
  obtain ⟨fd__law_price, F__law_price⟩ := c.def_ 10 (d := e__law_price) rfl
  have g__law_price := He.glo_ok X G (c.fact 10 (f := .glo "_law_price") rfl)
  have b__law_price : Binds K fd__law_price ["tariff", "count"] [] := F__law_price.bindsN fun _ _ _ _ _ _ us hl => match us, hl with | [_, _], _ => rfl
  obtain ⟨fd__law_tariff, F__law_tariff⟩ := c.def_ 11 (d := e__law_tariff) rfl
  have g__law_tariff := He.glo_ok X G (c.fact 11 (f := .glo "_law_tariff") rfl)
  have b__law_tariff : Binds K fd__law_tariff ["draws", "at"] [] := F__law_tariff.bindsN fun _ _ _ _ _ _ us hl => match us, hl with | [_, _], _ => rfl
  obtain ⟨fd_price_of, F_price_of⟩ := c.def_ 12 (d := e_price_of) rfl
  have g_price_of := He.glo_ok X G (c.fact 12 (f := .glo "price_of") rfl)
  have b_price_of : Binds K fd_price_of ["tariff", "count"] [] := F_price_of.bindsN fun _ _ _ _ _ _ us hl => match us, hl with | [_, _], _ => rfl
  obtain ⟨fd_most_for, F_most_for⟩ := c.def_ 13 (d := e_most_for) rfl
  have g_most_for := He.glo_ok X G (c.fact 13 (f := .glo "most_for") rfl)
  have b_most_for : Binds K fd_most_for ["tariff", "money"] [] := F_most_for.bindsN fun _ _ _ _ _ _ us hl => match us, hl with | [_, _], _ => rfl
  obtain ⟨fd__law_tariffs, F__law_tariffs⟩ := c.def_ 14 (d := e__law_tariffs) rfl
  have g__law_tariffs := He.glo_ok X G (c.fact 14 (f := .glo "_law_tariffs") rfl)
  have b__law_tariffs : Binds K fd__law_tariffs ["script", "draws"] [] := F__law_tariffs.bindsN fun _ _ _ _ _ _ us hl => match us, hl with | [_, _], _ => rfl
  obtain ⟨fd__law_visits, F__law_visits⟩ := c.def_ 15 (d := e__law_visits) rfl
  have g__law_visits := He.glo_ok X G (c.fact 15 (f := .glo "_law_visits") rfl)
  have b__law_visits : Binds K fd__law_visits ["draws", "begin", "count", "last"] [] := F__law_visits.bindsN fun _ _ _ _ _ _ us hl => match us, hl with | [_, _, _, _], _ => rfl
  obtain ⟨fd_open_days, F_open_days⟩ := c.def_ 16 (d := e_open_days) rfl
  have g_open_days := He.glo_ok X G (c.fact 16 (f := .glo "open_days") rfl)
  have b_open_days : Binds K fd_open_days ["closed", "start", "stop"] [] := F_open_days.bindsN fun _ _ _ _ _ _ us hl => match us, hl with | [_, _, _], _ => rfl
  obtain ⟨fd_away_days, F_away_days⟩ := c.def_ 17 (d := e_away_days) rfl
  have g_away_days := He.glo_ok X G (c.fact 17 (f := .glo "away_days") rfl)
  have b_away_days : Binds K fd_away_days ["closed", "visit", "begin", "day"] [] := F_away_days.bindsN fun _ _ _ _ _ _ us hl => match us, hl with | [_, _, _, _], _ => rfl
  obtain ⟨fd_counted, F_counted⟩ := c.def_ 18 (d := e_counted) rfl
  have g_counted := He.glo_ok X G (c.fact 18 (f := .glo "counted") rfl)
  have b_counted : Binds K fd_counted ["closed", "begin", "visits", "day"] [] := F_counted.bindsN fun _ _ _ _ _ _ us hl => match us, hl with | [_, _, _, _], _ => rfl
  obtain ⟨fd_holds_on, F_holds_on⟩ := c.def_ 19 (d := e_holds_on) rfl
  have g_holds_on := He.glo_ok X G (c.fact 19 (f := .glo "holds_on") rfl)
  have b_holds_on : Binds K fd_holds_on ["closed", "days", "begin", "visits", "day"] [] := F_holds_on.bindsN fun _ _ _ _ _ _ us hl => match us, hl with | [_, _, _, _, _], _ => rfl
  obtain ⟨fd_end_of, F_end_of⟩ := c.def_ 20 (d := e_end_of) rfl
  have g_end_of := He.glo_ok X G (c.fact 20 (f := .glo "end_of") rfl)
  have b_end_of : Binds K fd_end_of ["closed", "days", "begin", "visits"] [] := F_end_of.bindsN fun _ _ _ _ _ _ us hl => match us, hl with | [_, _, _, _], _ => rfl
  obtain ⟨fd_free_visits, F_free_visits⟩ := c.def_ 21 (d := e_free_visits) rfl
  have g_free_visits := He.glo_ok X G (c.fact 21 (f := .glo "free_visits") rfl)
  have b_free_visits : Binds K fd_free_visits ["closed", "days", "begin", "visits"] [] := F_free_visits.bindsN fun _ _ _ _ _ _ us hl => match us, hl with | [_, _, _, _], _ => rfl
  obtain ⟨fd_law, F_law⟩ := c.def_ 22 (d := e_law) rfl
  have g_law := He.glo_ok X G (c.fact 22 (f := .glo "law") rfl)
  have m_bool := He.free_ok X G (c.fact 23 (f := .free "bool") rfl)
  have m_enumerate := He.free_ok X G (c.fact 24 (f := .free "enumerate") rfl)
  have m_int := He.free_ok X G (c.fact 25 (f := .free "int") rfl)
  have m_isinstance := He.free_ok X G (c.fact 26 (f := .free "isinstance") rfl)
  have m_len := He.free_ok X G (c.fact 27 (f := .free "len") rfl)
  have m_list := He.free_ok X G (c.fact 28 (f := .free "list") rfl)
  have m_max := He.free_ok X G (c.fact 29 (f := .free "max") rfl)
  have m_min := He.free_ok X G (c.fact 30 (f := .free "min") rfl)
  have m_range := He.free_ok X G (c.fact 31 (f := .free "range") rfl)
  have m_repr := He.free_ok X G (c.fact 32 (f := .free "repr") rfl)
  have m_sorted := He.free_ok X G (c.fact 33 (f := .free "sorted") rfl)
  have m_str := He.free_ok X G (c.fact 34 (f := .free "str") rfl)
  have m_sum := He.free_ok X G (c.fact 35 (f := .free "sum") rfl)
  have m_tuple := He.free_ok X G (c.fact 36 (f := .free "tuple") rfl)
  have g_BEYOND := He.int_ok X G (c.fact 37 (f := .int "BEYOND" 10400) rfl)
  have g_MOST_THINGS := He.int_ok X G (c.fact 38 (f := .int "MOST_THINGS" 1000000000) rfl)
  have e := hfa.symm.trans g_law
  cases e
  have b := FunD.bindsA (ps := ["script"]) F_law fun _ _ _ _ _ _ us hl => match us, hl with | [_], _ => rfl
  refine ⟨fd_law, fun s v => b s [v] rfl, fun base _ _ => ?_⟩
  have G__law_cell := ok__law_cell (P := P) (w := w) (mg := mg) (base := base) F__law_cell m_int m_len
  have G__law_closed := ok__law_closed (P := P) (w := w) (mg := mg) (base := base) F__law_closed m_range m_sorted
  have G__law_away := ok__law_away (P := P) (w := w) (mg := mg) (base := base) F__law_away 
  have G__law_counts := ok__law_counts (P := P) (w := w) (mg := mg) (base := base) F__law_counts G__law_away g__law_away F__law_away.kp b__law_away m_len m_range
  have G__law_end := ok__law_end (P := P) (w := w) (mg := mg) (base := base) F__law_end G__law_away g__law_away F__law_away.kp b__law_away m_int m_len m_max m_range
  have G__law_numbers := ok__law_numbers (P := P) (w := w) (mg := mg) (base := base) F__law_numbers m_int m_range
  have G__law_same := ok__law_same (P := P) (w := w) (mg := mg) (base := base) F__law_same g__law_same F__law_same.kp b__law_same m_bool m_int m_isinstance m_len m_list m_range m_str m_tuple 12
  have G__law_is_int := ok__law_is_int (P := P) (w := w) (mg := mg) (base := base) F__law_is_int m_bool m_int m_isinstance
  have G__law_long_price := ok__law_long_price (P := P) (w := w) (mg := mg) (base := base) F__law_long_price m_len m_min m_range
  have G__law_cents := ok__law_cents (P := P) (w := w) (mg := mg) (base := base) F__law_cents 
  have G__law_price := ok__law_price (P := P) (w := w) (mg := mg) (base := base) F__law_price G__law_cents g__law_cents F__law_cents.kp b__law_cents m_range
  have G__law_tariff := ok__law_tariff (P := P) (w := w) (mg := mg) (base := base) F__law_tariff m_len m_range m_sorted
  have G_price_of := ok_price_of (P := P) (w := w) (mg := mg) (base := base) F_price_of m_enumerate m_len m_max m_min
  have G_most_for := ok_most_for (P := P) (w := w) (mg := mg) (base := base) F_most_for G_price_of g_price_of F_price_of.kp b_price_of g_MOST_THINGS
  have G__law_tariffs := ok__law_tariffs (P := P) (w := w) (mg := mg) (base := base) F__law_tariffs G__law_cell g__law_cell F__law_cell.kp b__law_cell G__law_is_int g__law_is_int F__law_is_int.kp b__law_is_int G__law_long_price g__law_long_price F__law_long_price.kp b__law_long_price G__law_numbers g__law_numbers F__law_numbers.kp b__law_numbers G__law_price g__law_price F__law_price.kp b__law_price G__law_same g__law_same F__law_same.kp b__law_same G__law_tariff g__law_tariff F__law_tariff.kp b__law_tariff G_most_for g_most_for F_most_for.kp b_most_for G_price_of g_price_of F_price_of.kp b_price_of m_len m_list m_max
  have G__law_visits := ok__law_visits (P := P) (w := w) (mg := mg) (base := base) F__law_visits m_min m_range
  have G_open_days := ok_open_days (P := P) (w := w) (mg := mg) (base := base) F_open_days m_len
  have G_away_days := ok_away_days (P := P) (w := w) (mg := mg) (base := base) F_away_days G_open_days g_open_days F_open_days.kp b_open_days m_max m_min
  have G_counted := ok_counted (P := P) (w := w) (mg := mg) (base := base) F_counted G_away_days g_away_days F_away_days.kp b_away_days G_open_days g_open_days F_open_days.kp b_open_days m_sum
  have G_holds_on := ok_holds_on (P := P) (w := w) (mg := mg) (base := base) F_holds_on G_counted g_counted F_counted.kp b_counted
  have G_end_of := ok_end_of (P := P) (w := w) (mg := mg) (base := base) F_end_of G_holds_on g_holds_on F_holds_on.kp b_holds_on g_BEYOND
  have G_free_visits := ok_free_visits (P := P) (w := w) (mg := mg) (base := base) F_free_visits G_holds_on g_holds_on F_holds_on.kp b_holds_on
  exact ok_law F_law G__law_cell g__law_cell F__law_cell.kp b__law_cell G__law_closed g__law_closed F__law_closed.kp b__law_closed G__law_counts g__law_counts F__law_counts.kp b__law_counts G__law_end g__law_end F__law_end.kp b__law_end G__law_numbers g__law_numbers F__law_numbers.kp b__law_numbers G__law_same g__law_same F__law_same.kp b__law_same G__law_tariffs g__law_tariffs F__law_tariffs.kp b__law_tariffs G__law_visits g__law_visits F__law_visits.kp b__law_visits G_end_of g_end_of F_end_of.kp b_end_of G_free_visits g_free_visits F_free_visits.kp b_free_visits G_holds_on g_holds_on F_holds_on.kp b_holds_on m_int m_len m_max m_range m_repr m_sorted
end G
open PySem PySem.W PySem.Calls PyProof.Rows
theorem PySem.Challenge.cw_piecesturned_k77_prices_by_tariffs_and_g_holds : PySem.Challenge.rw_piecesturned_k77_prices_by_tariffs_and_g.Holds := by
  w_on; o_law
  refine HandSHeadRun.head_any (r := OpenLaw.row PySem.Challenge.rw_piecesturned_k77_prices_by_tariffs_and_g) (q := view (OpenLaw.row PySem.Challenge.rw_piecesturned_k77_prices_by_tariffs_and_g).prog [28]) (H := G.hook0) (ob := G.ob) (M := 1000) (loose := G.loose0) (d := HandSHeadRun.topDef (OpenLaw.row PySem.Challenge.rw_piecesturned_k77_prices_by_tariffs_and_g).prog 28) (kwd := []) G.ob_eq
    (by kernel_rfl) (fun s => by kernel_rfl) G.run0 (by kernel_rfl) (by kernel_rfl) (by kernel_rfl) (by rfl) (by first | assumption | decide +kernel) (by decide +kernel) ⟨rfl, rfl, rfl, rfl, rfl, by decide +kernel⟩ ?hw ?hc
  case hw => w_witness2
  case hc =>
    refine PL.walk_run (l := PySem.Challenge.rw_piecesturned_k77_prices_by_tariffs_and_g) (n := 63) (x := "script") (CX := L2.CX) rfl (by decide) (by kernel_rfl) ?F (fun w H s e s' z => ?G)
    case G => exact PL.cx_none z
    case F =>
      intro w mg fa h Y G0 hmg0
      obtain ⟨K, KX, c⟩ := Y
      have hmg : mg ("law" : PySem.Str) = some (.ref fa) := by
        have e : (HandSHeadRun.topDef (OpenLaw.row PySem.Challenge.rw_piecesturned_k77_prices_by_tariffs_and_g).prog 28).name = ("law" : PySem.Str) := by kernel_rfl
        rw [← e]
        exact hmg0
      obtain ⟨fd, hb, hF⟩ := G.says (P := (PySem.Challenge.rw_piecesturned_k77_prices_by_tariffs_and_g).prog) (w := w) KX G0 hmg c
      exact ⟨K, fd, PL.spD K mg 1 G.d_law, KX, hb, fun H a ns hl _ hS => PL.law_sp (G.law_true ns hl) hS, hF⟩
