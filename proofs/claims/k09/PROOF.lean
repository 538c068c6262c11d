import PyProof.Rows.All
import Wide.All
import OpenK.AllK
import Wide.FinOn
import HandS.ForMost
import HandS.ForExc
import HandS.TryMany
import HandS.ExcInit
import HandS.ExcIs
import HandS.ExcField
import HandS.CallSlots
import HandS.Lambda
import HandS.Walk
import HandS.IsInst
import HandS.TupAny
import HandS.TupMul
import HandS.Conv
import HandS.Rev
import HandS.RevRange
import HandS.Wide
import HandS.Zip
import PyProof.ListMulRoad
import PyProof.FactsAll.tuple_2
import HandS.Style
import HandS.OwnIter
import HandS.SetFor
import HandS.Remove
import HandS.Deep
import HandS.Text
import HandS.IterVal
import HandS.WordsExc
import HandS.ExcOwn
import PySem.Challenge.RW_casetables_k09_behind_one_another
import HandS.EndOwn
set_option Elab.async false
set_option linter.all false
set_option maxRecDepth 100000
set_option maxHeartbeats 1000000
/-! The data layer: what a def reckons, as a plain function of data. -/
namespace DL
open PySem L2
/-- a code object: it stays -/
def IsCodeH (o : L2.HO) : Prop := ∃ c q, o = LamX.CodeO c q

abbrev D := PyData
def lim : Nat := 1000000
theorem lim_le {n : Nat} (h : n ≤ lim) : n ≤ sizeLine := Nat.le_trans h (by rw [sizeLine_eq]; decide)
theorem lim_lt {n : Nat} (h : n < lim) : n < sizeLine := Nat.lt_of_lt_of_le h (by rw [sizeLine_eq]; decide)

mutual
/-- v stands for the data d, by what the heap M holds for good -/
inductive Rp (K : PySem.W.Frag) (M : Hp) : V → D → Prop
  | non : Rp K M .non .none
  | bl (b : Bool) : Rp K M (.bl b) (.bool b)
  | int (i : Int) : Rp K M (.int i) (.int i)
  | str (x : Str) (h : PyData.strOk x = true) (hl : x.length ≤ lim) : Rp K M (.str x) (.str x)
  | lst {a : Addr} {vs : List V} {ds : List D} (h : SqL K M a vs) (hl : vs.length ≤ lim) (r : Rps K M vs ds) : Rp K M (.ref a) (.list ds)
  | tup {a : Addr} {vs : List V} {ds : List D} (h : SqT K M a vs) (hl : vs.length ≤ lim) (r : Rps K M vs ds) : Rp K M (.ref a) (.tuple ds)
inductive Rps (K : PySem.W.Frag) (M : Hp) : List V → List D → Prop
  | nil : Rps K M [] []
  | cons {v : V} {vs : List V} {d : D} {ds : List D} (h : Rp K M v d) (r : Rps K M vs ds) : Rps K M (v :: vs) (d :: ds)
end

section
variable {K : PySem.W.Frag} {M M' : Hp}
theorem same_t {H H' : Hp} {a : Addr} {xs : List V} (e : Same H H') (h : SqT K H a xs) : SqT K H' a xs := by
  rcases h with (h | ⟨o, h⟩) | h
  · exact .inl (.inl (e _ _ h))
  · exact .inl (.inr ⟨o, e _ _ h⟩)
  · exact .inr h
mutual
theorem Rp.mono (e : Same M M') : ∀ (d : D) (v : V), Rp K M v d → Rp K M' v d
  | .none, _, h => by cases h; exact .non
  | .bool b, _, h => by cases h; exact .bl b
  | .int i, _, h => by cases h; exact .int i
  | .str x, _, h => by cases h with | str _ a b => exact .str x a b
  | .list ds, _, h => by cases h with | lst a b c => exact .lst (e.seq a) b (Rps.mono e ds _ c)
  | .tuple ds, _, h => by cases h with | tup a b c => exact .tup (same_t e a) b (Rps.mono e ds _ c)
  | .dict _, _, h => by cases h
theorem Rps.mono (e : Same M M') : ∀ (ds : List D) (vs : List V), Rps K M vs ds → Rps K M' vs ds
  | [], _, h => by cases h; exact .nil
  | d :: ds, _, h => by cases h with | cons a b => exact .cons (Rp.mono e d _ a) (Rps.mono e ds _ b)
end
mutual
theorem Rp.dp : ∀ (d : D) (v : V), Rp K M v d → Dp K M v d
  | .none, _, h => by cases h; exact .non
  | .bool b, _, h => by cases h; exact .bl b
  | .int i, _, h => by cases h; exact .int i
  | .str x, _, h => by cases h with | str _ a b => exact .str x
  | .list ds, _, h => by cases h with | lst a b c => exact .lst a (Rps.dp ds _ c)
  | .tuple ds, _, h => by cases h with | tup a b c => exact .tup a (Rps.dp ds _ c)
  | .dict _, _, h => by cases h
theorem Rps.dp : ∀ (ds : List D) (vs : List V), Rps K M vs ds → DpAll K M vs ds
  | [], _, h => by cases h; exact .nil
  | d :: ds, _, h => by cases h with | cons a b => exact .cons (Rp.dp d _ a) (Rps.dp ds _ b)
end
mutual
theorem Rp.lay : ∀ (d : D) (v : V), Rp K M v d → d.canLay0 = true
  | .none, _, h => by simp only [PyData.canLay0]
  | .bool b, _, h => by simp only [PyData.canLay0]
  | .int i, _, h => by simp only [PyData.canLay0]
  | .str x, _, h => by cases h with | str _ a b => simpa only [PyData.canLay0] using a
  | .list ds, _, h => by cases h with | lst a b c => simp only [PyData.canLay0]; exact Rps.lay ds _ c
  | .tuple ds, _, h => by cases h with | tup a b c => simp only [PyData.canLay0]; exact Rps.lay ds _ c
  | .dict _, _, h => by cases h
theorem Rps.lay : ∀ (ds : List D) (vs : List V), Rps K M vs ds → PyData.canLayAll0 ds = true
  | [], _, h => by simp only [PyData.canLayAll0]
  | d :: ds, _, h => by cases h with | cons a b => simp only [PyData.canLayAll0, Rp.lay d _ a, Rps.lay ds _ b, Bool.and_self]
end
theorem Rps.length : ∀ {ds : List D} {vs : List V}, Rps K M vs ds → vs.length = ds.length
  | [], _, h => by cases h; rfl
  | d :: ds, _, h => by cases h with | cons a b => simp [Rps.length b]
theorem Rps.get : ∀ {ds : List D} {vs : List V} {i : Nat} {d : D}, Rps K M vs ds → ds[i]? = some d → ∃ v, vs[i]? = some v ∧ Rp K M v d
  | [], _, i, d, h, e => by simp at e
  | d0 :: ds, _, 0, d, h, e => by cases h with | cons a b => simp at e; subst e; exact ⟨_, rfl, a⟩
  | d0 :: ds, _, i + 1, d, h, e => by
    cases h with
    | cons a b =>
      obtain ⟨v, h1, h2⟩ := Rps.get (i := i) (d := d) b (by simpa using e)
      exact ⟨v, by simpa using h1, h2⟩
theorem Rps.get' : ∀ {ds : List D} {vs : List V} {i : Nat} {v : V}, Rps K M vs ds → vs[i]? = some v → ∃ d, ds[i]? = some d ∧ Rp K M v d
  | [], _, i, d, h, e => by cases h; simp at e
  | d0 :: ds, _, 0, d, h, e => by cases h with | cons a b => simp at e; subst e; exact ⟨_, rfl, a⟩
  | d0 :: ds, _, i + 1, d, h, e => by
    cases h with
    | cons a b =>
      obtain ⟨v, h1, h2⟩ := Rps.get' (i := i) (v := d) b (by simpa using e)
      exact ⟨v, by simpa using h1, h2⟩
theorem Rps.append : ∀ {ds : List D} {vs : List V} {es : List D} {us : List V}, Rps K M vs ds → Rps K M us es → Rps K M (vs ++ us) (ds ++ es)
  | [], _, _, _, h, g => by cases h; exact g
  | d :: ds, _, _, _, h, g => by cases h with | cons a b => exact .cons a (Rps.append b g)
theorem Rps.set : ∀ {ds : List D} {vs : List V} {v : V} {d : D} (i : Nat), Rp K M v d → Rps K M vs ds → Rps K M (vs.set i v) (ds.set i d)
  | [], _, _, _, i, g, h => by cases h; exact .nil
  | d :: ds, _, _, _, 0, g, h => by cases h with | cons a b => exact .cons g b
  | d :: ds, _, _, _, i + 1, g, h => by cases h with | cons a b => exact .cons a (Rps.set i g b)
theorem Rps.take : ∀ {ds : List D} {vs : List V} (n : Nat), Rps K M vs ds → Rps K M (vs.take n) (ds.take n)
  | _, _, 0, _ => .nil
  | [], _, _ + 1, h => by cases h; exact .nil
  | d :: ds, _, n + 1, h => by cases h with | cons a b => exact .cons a (Rps.take n b)
theorem Rps.drop : ∀ {ds : List D} {vs : List V} (n : Nat), Rps K M vs ds → Rps K M (vs.drop n) (ds.drop n)
  | _, _, 0, h => h
  | [], _, _ + 1, h => by cases h; exact .nil
  | d :: ds, _, n + 1, h => by cases h with | cons a b => exact Rps.drop n b
theorem Rps.rev {ds : List D} {vs : List V} (h : Rps K M vs ds) : Rps K M vs.reverse ds.reverse := by
  induction ds generalizing vs with
  | nil => cases h; exact .nil
  | cons d ds ih => cases h with | cons a b => simp only [List.reverse_cons]; exact Rps.append (ih b) (.cons a .nil)
theorem Rps.eraseIdx : ∀ {ds : List D} {vs : List V} (n : Nat), Rps K M vs ds → Rps K M (vs.eraseIdx n) (ds.eraseIdx n)
  | [], _, _, h => by cases h; exact .nil
  | d :: ds, _, 0, h => by cases h with | cons a b => exact b
  | d :: ds, _, n + 1, h => by cases h with | cons a b => exact .cons a (Rps.eraseIdx n b)
theorem Rps.rep {ds : List D} {vs : List V} (h : Rps K M vs ds) : ∀ k : Nat, Rps K M (List.replicate k vs).flatten (List.replicate k ds).flatten
  | 0 => .nil
  | k + 1 => by
    simp only [List.replicate_succ, List.flatten_cons]
    exact Rps.append h (Rps.rep h k)
theorem Rps.ints : ∀ (ns : List Int), Rps K M (ns.map V.int) (ns.map PyData.int)
  | [] => .nil
  | n :: ns => .cons (.int n) (Rps.ints ns)
end

/-! ### things of one's own, with things of one's own within -/
inductive OT where
  | imm (d : D) | lst (ts : List OT) | tup (ts : List OT)
mutual
def OT.data : OT → D
  | .imm d => d
  | .lst ts => .list (OT.datas ts)
  | .tup ts => .tuple (OT.datas ts)
def OT.datas : List OT → List D
  | [] => []
  | t :: ts => OT.data t :: OT.datas ts
end
mutual
/-- the addresses of what is one's own in v -/
def foot (H : Hp) : V → OT → List Addr
  | _, .imm _ => []
  | .ref p, .lst ts => p :: (match H p with | some (.lst vs) => foots H vs ts | _ => [])
  | .ref p, .tup ts => p :: (match H p with | some (.tup vs) => foots H vs ts | _ => [])
  | _, _ => []
def foots (H : Hp) : List V → List OT → List Addr
  | _, [] => []
  | [], _ :: _ => []
  | v :: vs, t :: ts => foot H v t ++ foots H vs ts
end
mutual
inductive OwP (K : PySem.W.Frag) (M H : Hp) : V → OT → Prop
  | imm {v : V} {d : D} (h : Rp K M v d) : OwP K M H v (.imm d)
  | lst {p : Addr} {vs : List V} {ts : List OT} (h : H p = some (.lst vs)) (hl : vs.length ≤ lim) (r : OwPs K M H vs ts) : OwP K M H (.ref p) (.lst ts)
  | tup {p : Addr} {vs : List V} {ts : List OT} (h : H p = some (.tup vs)) (hl : vs.length ≤ lim) (r : OwPs K M H vs ts) : OwP K M H (.ref p) (.tup ts)
inductive OwPs (K : PySem.W.Frag) (M H : Hp) : List V → List OT → Prop
  | nil : OwPs K M H [] []
  | cons {v : V} {vs : List V} {t : OT} {ts : List OT} (h : OwP K M H v t) (r : OwPs K M H vs ts) : OwPs K M H (v :: vs) (t :: ts)
end
section
variable {K : PySem.W.Frag} {M M' H H' : Hp}
mutual
theorem foot_same : ∀ (t : OT) (v : V), OwP K M H v t → (∀ a ∈ foot H v t, H' a = H a) → foot H' v t = foot H v t
  | .imm d, v, r, h => by cases v <;> simp only [foot]
  | .lst ts, _, r, h => by
    cases r with
    | @lst p vs _ e hl r =>
      have e' : H' p = some (.lst vs) := by rw [h p (by simp only [foot, List.mem_cons, true_or])]; exact e
      have q : ∀ a ∈ foots H vs ts, H' a = H a := fun a ha => h a (by simp only [foot, e, List.mem_cons]; exact .inr ha)
      simp only [foot, e, e', foots_same ts vs r q]
  | .tup ts, _, r, h => by
    cases r with
    | @tup p vs _ e hl r =>
      have e' : H' p = some (.tup vs) := by rw [h p (by simp only [foot, List.mem_cons, true_or])]; exact e
      have q : ∀ a ∈ foots H vs ts, H' a = H a := fun a ha => h a (by simp only [foot, e, List.mem_cons]; exact .inr ha)
      simp only [foot, e, e', foots_same ts vs r q]
theorem foots_same : ∀ (ts : List OT) (vs : List V), OwPs K M H vs ts → (∀ a ∈ foots H vs ts, H' a = H a) → foots H' vs ts = foots H vs ts
  | [], _, r, h => by cases r; simp only [foots]
  | t :: ts, _, r, h => by
    cases r with
    | cons a b =>
      simp only [foots, List.mem_append] at h ⊢
      rw [foot_same t _ a fun c hc => h c (.inl hc), foots_same ts _ b fun c hc => h c (.inr hc)]
end
mutual
theorem OwP.mono (e : Same M M') : ∀ (t : OT) (v : V), OwP K M H v t → (∀ a ∈ foot H v t, H' a = H a) → OwP K M' H' v t
  | .imm d, v, r, h => by cases r with | imm r => exact .imm (Rp.mono e _ _ r)
  | .lst ts, _, r, h => by
    cases r with
    | @lst p vs _ e1 hl r =>
      have q : ∀ a ∈ foots H vs ts, H' a = H a := fun a ha => h a (by simp only [foot, e1, List.mem_cons]; exact .inr ha)
      exact .lst (by rw [h p (by simp only [foot, List.mem_cons, true_or])]; exact e1) hl (OwPs.mono e ts vs r q)
  | .tup ts, _, r, h => by
    cases r with
    | @tup p vs _ e1 hl r =>
      have q : ∀ a ∈ foots H vs ts, H' a = H a := fun a ha => h a (by simp only [foot, e1, List.mem_cons]; exact .inr ha)
      exact .tup (by rw [h p (by simp only [foot, List.mem_cons, true_or])]; exact e1) hl (OwPs.mono e ts vs r q)
theorem OwPs.mono (e : Same M M') : ∀ (ts : List OT) (vs : List V), OwPs K M H vs ts → (∀ a ∈ foots H vs ts, H' a = H a) → OwPs K M' H' vs ts
  | [], _, r, h => by cases r; exact .nil
  | t :: ts, _, r, h => by
    cases r with
    | cons a b =>
      simp only [foots, List.mem_append] at h
      exact .cons (OwP.mono e t _ a fun c hc => h c (.inl hc)) (OwPs.mono e ts _ b fun c hc => h c (.inr hc))
end
mutual
/-- what is one's own stands in the heap -/
theorem foot_live : ∀ (t : OT) (v : V), OwP K M H v t → ∀ a ∈ foot H v t, ∃ o, H a = some o
  | .imm d, v, r, a, h => by cases v <;> simp only [foot] at h <;> cases h
  | .lst ts, _, r, a, h => by
    cases r with
    | @lst p vs _ e1 hl r =>
      simp only [foot, e1, List.mem_cons] at h
      rcases h with rfl | h
      · exact ⟨_, e1⟩
      · exact foots_live ts vs r a h
  | .tup ts, _, r, a, h => by
    cases r with
    | @tup p vs _ e1 hl r =>
      simp only [foot, e1, List.mem_cons] at h
      rcases h with rfl | h
      · exact ⟨_, e1⟩
      · exact foots_live ts vs r a h
theorem foots_live : ∀ (ts : List OT) (vs : List V), OwPs K M H vs ts → ∀ a ∈ foots H vs ts, ∃ o, H a = some o
  | [], _, r, a, h => by cases r; simp only [foots] at h; cases h
  | t :: ts, _, r, a, h => by
    cases r with
    | cons x y =>
      simp only [foots, List.mem_append] at h
      exact h.elim (foot_live t _ x a) (foots_live ts _ y a)
end
mutual
/-- .. and is no code object -/
theorem foot_code : ∀ (t : OT) (v : V), OwP K M H v t → ∀ a ∈ foot H v t, ∀ o, H a = some o → ¬ IsCodeH o
  | .imm d, v, r, a, h => by cases v <;> simp only [foot] at h <;> cases h
  | .lst ts, _, r, a, h => by
    cases r with
    | @lst p vs _ e1 hl r =>
      simp only [foot, e1, List.mem_cons] at h
      rcases h with rfl | h
      · intro o ho; rw [e1] at ho; cases ho; exact fun ⟨c, q, e⟩ => by unfold LamX.CodeO at e; cases e
      · exact foots_code ts vs r a h
  | .tup ts, _, r, a, h => by
    cases r with
    | @tup p vs _ e1 hl r =>
      simp only [foot, e1, List.mem_cons] at h
      rcases h with rfl | h
      · intro o ho; rw [e1] at ho; cases ho; exact fun ⟨c, q, e⟩ => by unfold LamX.CodeO at e; cases e
      · exact foots_code ts vs r a h
theorem foots_code : ∀ (ts : List OT) (vs : List V), OwPs K M H vs ts → ∀ a ∈ foots H vs ts, ∀ o, H a = some o → ¬ IsCodeH o
  | [], _, r, a, h => by cases r; simp only [foots] at h; cases h
  | t :: ts, _, r, a, h => by
    cases r with
    | cons x y =>
      simp only [foots, List.mem_append] at h
      intro o ho
      rcases h with h | h
      · exact foot_code t _ x a h o ho
      · exact foots_code ts _ y a h o ho
end
mutual
/-- all of it stands for good: it is a datum -/
theorem OwP.rp (e : Same M M') : ∀ (t : OT) (v : V), OwP K M H v t → (∀ a ∈ foot H v t, M' a = H a) → Rp K M' v t.data
  | .imm d, v, r, h => by cases r with | imm r => simp only [OT.data]; exact Rp.mono e _ _ r
  | .lst ts, _, r, h => by
    cases r with
    | @lst p vs _ e1 hl r =>
      have q : ∀ a ∈ foots H vs ts, M' a = H a := fun a ha => h a (by simp only [foot, e1, List.mem_cons]; exact .inr ha)
      simp only [OT.data]
      exact .lst (.inl (.inl (by rw [h p (by simp only [foot, List.mem_cons, true_or])]; exact e1))) hl (OwPs.rp e ts vs r q)
  | .tup ts, _, r, h => by
    cases r with
    | @tup p vs _ e1 hl r =>
      have q : ∀ a ∈ foots H vs ts, M' a = H a := fun a ha => h a (by simp only [foot, e1, List.mem_cons]; exact .inr ha)
      simp only [OT.data]
      exact .tup (.inl (.inl (by rw [h p (by simp only [foot, List.mem_cons, true_or])]; exact e1))) hl (OwPs.rp e ts vs r q)
theorem OwPs.rp (e : Same M M') : ∀ (ts : List OT) (vs : List V), OwPs K M H vs ts → (∀ a ∈ foots H vs ts, M' a = H a) → Rps K M' vs (OT.datas ts)
  | [], _, r, h => by cases r; simp only [OT.datas]; exact .nil
  | t :: ts, _, r, h => by
    cases r with
    | cons a b =>
      simp only [foots, List.mem_append] at h
      simp only [OT.datas]
      exact .cons (OwP.rp e t _ a fun c hc => h c (.inl hc)) (OwPs.rp e ts _ b fun c hc => h c (.inr hc))
end
theorem OwPs.length : ∀ {ts : List OT} {vs : List V}, OwPs K M H vs ts → vs.length = ts.length
  | [], _, h => by cases h; rfl
  | t :: ts, _, h => by cases h with | cons a b => simp [OwPs.length b]
end

/-! ### slots, states -/
inductive Sl where
  | dead | imm (d : D) | own (ds : List D) | row | deep (t : OT) | sub (k : Nat) | me (k : Option Nat) (C : Addr) (sig : List (Str × Bool)) | raw (v : V)
abbrev Env := List Sl
abbrev Row := List D
/-- a thing that may be changed in a def's body beside its own: the row -/
inductive LP where
  | row (a : Addr) | obj (C A dx : Addr) (fl : List (Str × Option Addr)) | tbl (P : Addr) (q : Str)
abbrev IsCode := IsCodeH
theorem code_lst {xs : List V} : ¬ IsCode (.lst xs) := fun ⟨c, q, e⟩ => by unfold LamX.CodeO at e; cases e
theorem code_ins {C dx : Addr} {fs : List (Str × V)} : ¬ IsCode (.ins C dx fs) := fun ⟨c, q, e⟩ => by unfold LamX.CodeO at e; cases e
theorem code_own {x : Addr} : ¬ IsCode (.own x) := fun ⟨c, q, e⟩ => by unfold LamX.CodeO at e; cases e
theorem code_tbl {ps : Array Value} : ¬ IsCode (.tbl ps) := fun ⟨c, q, e⟩ => by unfold LamX.CodeO at e; cases e
def CodeKept (H H' : Hp) : Prop := ∀ c o, H c = some o → IsCode o → H' c = some o
theorem codeKept_all {H H' : Hp} (h : ∀ a o, H a = some o → H' a = some o) : CodeKept H H' := fun c o e _ => h c o e
theorem codeKept_upd {H : Hp} {p : Addr} {o : HO} (h : ∀ u, H p = some u → ¬ IsCode u) : CodeKept H (upd H p o) := fun c w e i => by
  by_cases z : c = p
  · subst z; exact (h w e i).elim
  · rw [upd_ne z]; exact e
/-- an object's fields: a datum, or a list of the object's own -/
inductive FldsOk (K : PySem.W.Frag) (M H : Hp) : List (Str × Option Addr) → List V → Row → Prop
  | nil : FldsOk K M H [] [] []
  | dat {n : Str} {v : V} {d : D} {fl : List (Str × Option Addr)} {vs : List V} {s : Row} (h : Rp K M v d) (r : FldsOk K M H fl vs s) : FldsOk K M H ((n, none) :: fl) (v :: vs) (d :: s)
  | own {n : Str} {p : Addr} {us : List V} {ds : List D} {fl : List (Str × Option Addr)} {vs : List V} {s : Row} (h : H p = some (.lst us)) (hl : us.length ≤ lim) (hm : M p = none) (hr : Rps K M us ds) (r : FldsOk K M H fl vs s) : FldsOk K M H ((n, some p) :: fl) (.ref p :: vs) (.list ds :: s)
def ownF (fl : List (Str × Option Addr)) : List Addr := fl.filterMap (·.2)
def LP.mem : LP → Addr → Prop
  | .row r, a => a = r
  | .obj _ A dx fl, a => a = A ∨ a = dx ∨ a ∈ ownF fl
  | .tbl P _, a => a = P
def LP.at : LP → Addr
  | .row r => r
  | .obj _ A _ _ => A
  | .tbl P _ => P
def LP.ok (K : PySem.W.Frag) : LP → Hp → Hp → Row → Prop
  | .row r, M, H, s => M r = none ∧ ∃ vs, H r = some (.lst vs) ∧ vs.length ≤ lim ∧ Rps K M vs s
  | .obj C A dx fl, M, H, s => M A = none ∧ M dx = none ∧ H dx = some (.own A) ∧ (A :: dx :: ownF fl).Nodup ∧ ∃ vs, H A = some (.ins C dx ((fl.map (·.1)).zip vs)) ∧ FldsOk K M H fl vs s
  | .tbl P q, M, H, s => s = [.dict [(.int P, .str q)]] ∧ M P = none ∧ LamX.TabS H P q
theorem FldsOk.live {K : PySem.W.Frag} {M H : Hp} {fl : List (Str × Option Addr)} {vs : List V} {s : Row} (h : FldsOk K M H fl vs s) : ∀ a ∈ ownF fl, M a = none ∧ ∃ o, H a = some o := by
  induction h with
  | nil => intro a ha; cases ha
  | dat h r ih => intro a ha; exact ih a (by simpa [ownF] using ha)
  | own h hl hm hr r ih =>
    intro a ha
    rename_i p _ _ fl _ _
    have ha : a = p ∨ a ∈ ownF fl := by simpa [ownF] using ha
    rcases ha with rfl | ha
    · exact ⟨hm, _, h⟩
    · exact ih a ha
theorem FldsOk.keep {K : PySem.W.Frag} {M H M' H' : Hp} {fl : List (Str × Option Addr)} {vs : List V} {s : Row} (h : FldsOk K M H fl vs s) (e1 : Same M M') (e2 : ∀ a ∈ ownF fl, M' a = none) (e3 : ∀ a ∈ ownF fl, ∀ o, H a = some o → H' a = some o) : FldsOk K M' H' fl vs s := by
  induction h with
  | nil => exact .nil
  | dat h r ih => exact .dat (Rp.mono e1 _ _ h) (ih (fun a ha => e2 a (by simpa [ownF] using ha)) fun a ha => e3 a (by simpa [ownF] using ha))
  | own h hl hm hr r ih => exact .own (e3 _ (by simp [ownF]) _ h) hl (e2 _ (by simp [ownF])) (Rps.mono e1 _ _ hr) (ih (fun a ha => e2 a (by simp only [ownF, List.filterMap_cons, List.mem_cons] at ha ⊢; exact .inr ha)) fun a ha => e3 a (by simp only [ownF, List.filterMap_cons, List.mem_cons] at ha ⊢; exact .inr ha))
theorem LP.live {K : PySem.W.Frag} {M H : Hp} {s : Row} {a : Addr} : ∀ {p : LP}, p.ok K M H s → p.mem a → M a = none ∧ ∃ o, H a = some o
  | .row r, h, e => by
    have e : a = r := e
    subst e
    obtain ⟨h1, vs, h2, _⟩ := h
    exact ⟨h1, _, h2⟩
  | .obj C A dx fl, h, e => by
    obtain ⟨h1, h2, h3, h4, vs, h5, h6⟩ := h
    have e : a = A ∨ a = dx ∨ a ∈ ownF fl := e
    rcases e with rfl | rfl | e
    · exact ⟨h1, _, h5⟩
    · exact ⟨h2, _, h3⟩
    · exact h6.live a e
  | .tbl P q, h, e => by
    have e : a = P := e
    subst e
    obtain ⟨_, h1, ps, h2, _⟩ := h
    exact ⟨h1, _, h2⟩
theorem FldsOk.code {K : PySem.W.Frag} {M H : Hp} {fl : List (Str × Option Addr)} {vs : List V} {s : Row} (h : FldsOk K M H fl vs s) : ∀ a ∈ ownF fl, ∀ o, H a = some o → ¬ IsCode o := by
  induction h with
  | nil => intro a ha; cases ha
  | dat h r ih => intro a ha; exact ih a (by simpa [ownF] using ha)
  | own h hl hm hr r ih =>
    intro a ha o ho
    rename_i p _ _ fl _ _
    have ha : a = p ∨ a ∈ ownF fl := by simpa [ownF] using ha
    rcases ha with rfl | ha
    · rw [h] at ho; cases ho; exact code_lst
    · exact ih a ha o ho
theorem LP.code {K : PySem.W.Frag} {M H : Hp} {s : Row} {a : Addr} {o : HO} : ∀ {p : LP}, p.ok K M H s → p.mem a → H a = some o → ¬ IsCode o
  | .row r, h, e, ho => by
    have e : a = r := e
    subst e
    obtain ⟨h1, vs, h2, _⟩ := h
    rw [h2] at ho; cases ho; exact code_lst
  | .obj C A dx fl, h, e, ho => by
    obtain ⟨h1, h2, h3, h4, vs, h5, h6⟩ := h
    have e : a = A ∨ a = dx ∨ a ∈ ownF fl := e
    rcases e with rfl | rfl | e
    · rw [h5] at ho; cases ho; exact code_ins
    · rw [h3] at ho; cases ho; exact code_own
    · exact h6.code a e o ho
  | .tbl P q, h, e, ho => by
    have e : a = P := e
    subst e
    obtain ⟨_, h1, ps, h2, _⟩ := h
    rw [h2] at ho; cases ho; exact code_tbl
theorem LP.keep {K : PySem.W.Frag} {M H M' H' : Hp} {s : Row} : ∀ {p : LP}, p.ok K M H s → Same M M' → (∀ a, p.mem a → M' a = none) → (∀ a o, p.mem a → H a = some o → H' a = some o) → CodeKept H H' → p.ok K M' H' s
  | .row r, h, e1, e2, e3, _ => by
    obtain ⟨h1, vs, h2, h3, h4⟩ := h
    exact ⟨e2 r rfl, vs, e3 r _ rfl h2, h3, Rps.mono e1 _ _ h4⟩
  | .obj C A dx fl, h, e1, e2, e3, _ => by
    obtain ⟨h1, h2, h3, h4, vs, h5, h6⟩ := h
    exact ⟨e2 A (.inl rfl), e2 dx (.inr (.inl rfl)), e3 dx _ (.inr (.inl rfl)) h3, h4, vs, e3 A _ (.inl rfl) h5, h6.keep e1 (fun a ha => e2 a (.inr (.inr ha))) fun a ha o h => e3 a o (.inr (.inr ha)) h⟩
  | .tbl P q, ⟨h0, h1, ps, h2, h3, h4⟩, _, e2, e3, e4 => ⟨h0, e2 P rfl, ps, e3 P _ rfl h2, h3, fun pos cv hc => by
    obtain ⟨c, g1, g2⟩ := h4 pos cv hc
    exact ⟨c, g1, e4 c _ g2 ⟨c, q, rfl⟩⟩⟩
/-- what may be changed: nothing, one thing, some things -/
inductive LT where
  | nil | one (p : LP) | many (ps : List LP)
def LT.mem : LT → Addr → Prop
  | .nil, _ => False
  | .one p, a => p.mem a
  | .many ps, a => ∃ p ∈ ps, p.mem a
def LT.ok (K : PySem.W.Frag) : LT → Hp → Hp → Row → Prop
  | .nil, _, _, s => s = []
  | .one p, M, H, s => p.ok K M H s
  | .many ps, M, H, s => ∃ ss : List Row, s = ss.map PyData.list ∧ ss.length = ps.length ∧ (∀ (k : Nat) p sk, ps[k]? = some p → ss[k]? = some sk → p.ok K M H sk) ∧
    ∀ (j k : Nat) p q a, j ≠ k → ps[j]? = some p → ps[k]? = some q → p.mem a → q.mem a → False
theorem many_at {ps : List LP} {ss : List Row} {p : LP} (hl : ss.length = ps.length) (h : p ∈ ps) : ∃ (k : Nat) (sk : Row), ps[k]? = some p ∧ ss[k]? = some sk := by
  obtain ⟨k, hk, e⟩ := List.getElem_of_mem h
  exact ⟨k, ss[k]'(by omega), by rw [List.getElem?_eq_getElem hk, e], List.getElem?_eq_getElem (by omega)⟩
theorem LT.live {K : PySem.W.Frag} {M H : Hp} {s : Row} {a : Addr} : ∀ (r : LT), r.ok K M H s → r.mem a → M a = none ∧ ∃ o, H a = some o
  | .nil, _, h => h.elim
  | .one p, h, e => LP.live (p := p) h e
  | .many ps, ⟨ss, _, hl, h, _⟩, ⟨p, hp, e⟩ => by
    obtain ⟨k, sk, h1, h2⟩ := many_at hl hp
    exact LP.live (h k p sk h1 h2) e
theorem LT.keep {K : PySem.W.Frag} {M H M' H' : Hp} {s : Row} : ∀ (r : LT), r.ok K M H s → Same M M' → (∀ a, r.mem a → M' a = none) → (∀ a o, r.mem a → H a = some o → H' a = some o) → CodeKept H H' → r.ok K M' H' s
  | .nil, h, _, _, _, _ => h
  | .one p, h, e1, e2, e3, e4 => LP.keep (p := p) h e1 e2 e3 e4
  | .many ps, ⟨ss, h0, hl, h, hd⟩, e1, e2, e3, e4 => ⟨ss, h0, hl, fun k p sk h1 h2 => LP.keep (h k p sk h1 h2) e1 (fun a ha => e2 a ⟨p, List.mem_of_getElem? h1, ha⟩) (fun a o ha => e3 a o ⟨p, List.mem_of_getElem? h1, ha⟩) e4, hd⟩
/-- the thing at a place: the one, or the k-th -/
def LT.at : LT → Option Nat → Option LP
  | .one p, none => some p
  | .many ps, some k => ps[k]?
  | _, _ => none
/-- what is fixed through a def's body: what may be changed, the heap at the entry, what stood for good there -/
structure Bx where
  r : LT
  H0 : Hp
  M0 : Hp

def SlotOk (K : PySem.W.Frag) (B : Bx) (M H : Hp) : Option V → Sl → Prop
  | _, .dead => True
  | some v, .imm d => Rp K M v d
  | some (.ref p), .own ds => ∃ vs, H p = some (.lst vs) ∧ vs.length ≤ lim ∧ Rps K M vs ds ∧ M p = none ∧ B.H0 p = none ∧ ¬ B.r.mem p
  | some (.ref a), .row => B.r = .one (.row a)
  | some v, .deep t => OwP K M H v t ∧ (foot H v t).Nodup ∧ ∀ a ∈ foot H v t, M a = none ∧ B.H0 a = none ∧ ¬ B.r.mem a
  | some (.ref a), .sub k => ∃ ps, B.r = .many ps ∧ ps[k]? = some (.row a)
  | some v, .raw w => v = w
  | some (.ref a), .me k C sig => ∃ dx fl, B.r.at k = some (.obj C a dx fl) ∧ fl.map (fun f => (f.1, f.2.isSome)) = sig
  | _, _ => False
/-- what of a slot's is one's own -/
def footS (H : Hp) : Option V → Sl → List Addr
  | some (.ref p), .own _ => [p]
  | some v, .deep t => foot H v t
  | _, _ => []
def RowOk (K : PySem.W.Frag) (r : LT) (M H : Hp) (s : Row) : Prop := r.ok K M H s
structure Ok (K : PySem.W.Frag) (B : Bx) (M H : Hp) (σ : L2.St) (ρ : Env) (s : Row) : Prop where
  sub : Same M H
  ext : Same B.M0 M
  keep : ∀ a o, B.H0 a = some o → ¬ B.r.mem a → H a = some o
  fresh : ∀ a o, M a = some o → B.M0 a = some o ∨ B.H0 a = none
  row : RowOk K B.r M H s
  len : σ.length = ρ.length
  slots : ∀ (i : Nat) (x : Sl), ρ[i]? = some x → SlotOk K B M H (σ[i]?.join) x
  apart : ∀ (i j : Nat) (x y : Sl) (a : Addr), i ≠ j → ρ[i]? = some x → ρ[j]? = some y → a ∈ footS H (σ[i]?.join) x → a ∈ footS H (σ[j]?.join) y → False
/-- from one state to a later one, nothing of what stood but the row changed -/
structure Step (K : PySem.W.Frag) (B : Bx) (M H M' H' : Hp) (s' : Row) : Prop where
  mm : Same M M'
  sub : Same M' H'
  keep : ∀ a o, H a = some o → ¬ B.r.mem a → H' a = some o
  fresh : ∀ a o, M' a = some o → M a = some o ∨ H a = none
  row : RowOk K B.r M' H' s'

section
variable {K : PySem.W.Frag} {B : Bx} {M H M' H' M2 H2 : Hp} {σ : L2.St} {ρ : Env} {s s' s2 : Row}
theorem Ok.refl (o : Ok K B M H σ ρ s) : Step K B M H M H s := ⟨fun _ _ h => h, o.sub, fun _ _ h _ => h, fun _ _ h => .inl h, o.row⟩
theorem Step.trans (a : Step K B M H M' H' s') (b : Step K B M' H' M2 H2 s2) : Step K B M H M2 H2 s2 where
  mm := a.mm.trans b.mm
  sub := b.sub
  keep := fun c o h hr => b.keep c o (a.keep c o h hr) hr
  fresh := fun c o h => by
    rcases b.fresh c o h with h | h
    · exact a.fresh c o h
    · refine .inr ?_
      cases e : H c with
      | none => rfl
      | some u =>
        by_cases hr : B.r.mem c
        · obtain ⟨_, w, q2⟩ := B.r.live a.row hr
          rw [q2] at h
          cases h
        · rw [a.keep c u e hr] at h
          cases h
  row := b.row
theorem slot_foot {x : Option V} {y : Sl} (h : SlotOk K B M H x y) : ∀ a ∈ footS H x y, M a = none ∧ B.H0 a = none ∧ ¬ B.r.mem a ∧ ∃ o, H a = some o := by
  intro a ha
  cases x with
  | none => cases y <;> cases ha
  | some v =>
    cases y with
    | own ds =>
      cases v with
      | ref p =>
        obtain ⟨vs, h1, h2, h3, h4, h5, h6⟩ := h
        have : a = p := by simpa [footS] using ha
        subst this
        exact ⟨h4, h5, h6, _, h1⟩
      | _ => exact h.elim
    | deep t =>
      obtain ⟨h1, h2, h3⟩ := h
      have ha : a ∈ foot H v t := by simpa [footS] using ha
      obtain ⟨q1, q2, q3⟩ := h3 a ha
      exact ⟨q1, q2, q3, foot_live t v h1 a ha⟩
    | _ => cases v <;> simp [footS] at ha
theorem slot_code {x : Option V} {y : Sl} (h : SlotOk K B M H x y) : ∀ a ∈ footS H x y, ∀ o, H a = some o → ¬ IsCode o := by
  intro a ha o ho
  cases x with
  | none => cases y <;> cases ha
  | some v =>
    cases y with
    | own ds =>
      cases v with
      | ref p =>
        obtain ⟨vs, h1, _⟩ := h
        have : a = p := by simpa [footS] using ha
        subst this
        rw [h1] at ho; cases ho; exact code_lst
      | _ => exact h.elim
    | deep t =>
      have ha : a ∈ foot H v t := by simpa [footS] using ha
      exact foot_code t v h.1 a ha o ho
    | _ => cases v <;> simp [footS] at ha
theorem footS_same {x : Option V} {y : Sl} (h : SlotOk K B M H x y) (e : ∀ a ∈ footS H x y, H' a = H a) : footS H' x y = footS H x y := by
  cases x with
  | none => cases y <;> rfl
  | some v =>
    cases y with
    | deep t =>
      have h1 : OwP K M H v t := h.1
      have e : ∀ a ∈ foot H v t, H' a = H a := by simpa [footS] using e
      simp only [footS]
      exact foot_same t v h1 e
    | _ => cases v <;> rfl
/-- a slot, where what it holds stayed -/
theorem slot_mono {x : Option V} {y : Sl} (h : SlotOk K B M H x y) (e : Same M M') (e1 : ∀ a ∈ footS H x y, H' a = H a) (e2 : ∀ a ∈ footS H x y, M' a = none) : SlotOk K B M' H' x y := by
  cases y with
  | dead => cases x <;> trivial
  | imm d =>
    cases x with
    | none => exact h.elim
    | some v => exact Rp.mono e d v h
  | own ds =>
    cases x with
    | none => exact h.elim
    | some v =>
      cases v with
      | ref p =>
        obtain ⟨vs, h1, h2, h3, h4, h5, h6⟩ := h
        exact ⟨vs, by rw [e1 p (by simp [footS])]; exact h1, h2, Rps.mono e ds vs h3, e2 p (by simp [footS]), h5, h6⟩
      | _ => exact h.elim
  | row =>
    cases x with
    | none => exact h.elim
    | some v => cases v <;> exact h
  | sub k =>
    cases x with
    | none => exact h.elim
    | some v => cases v <;> exact h
  | me k C sig =>
    cases x with
    | none => exact h.elim
    | some v => cases v <;> exact h
  | raw w =>
    cases x with
    | none => exact h.elim
    | some v => cases v <;> exact h
  | deep t =>
    cases x with
    | none => exact h.elim
    | some v =>
      obtain ⟨h1, h2, h3⟩ := h
      have e1 : ∀ a ∈ foot H v t, H' a = H a := by simpa [footS] using e1
      have e2 : ∀ a ∈ foot H v t, M' a = none := by simpa [footS] using e2
      have q := foot_same t v h1 e1
      exact ⟨OwP.mono e t v h1 e1, by rw [q]; exact h2, fun a ha => by
        rw [q] at ha
        exact ⟨e2 a ha, (h3 a ha).2⟩⟩
theorem Ok.step (o : Ok K B M H σ ρ s) (t : Step K B M H M' H' s') : Ok K B M' H' σ ρ s' := by
  have k1 : ∀ (i : Nat) (x : Sl), ρ[i]? = some x → ∀ a ∈ footS H (σ[i]?.join) x, H' a = H a := fun i x e a ha => by
    obtain ⟨_, _, h3, w, h4⟩ := slot_foot (o.slots i x e) a ha
    rw [t.keep a w h4 h3, h4]
  have k2 : ∀ (i : Nat) (x : Sl), ρ[i]? = some x → ∀ a ∈ footS H (σ[i]?.join) x, M' a = none := fun i x e a ha => by
    obtain ⟨h1, _, h3, w, h4⟩ := slot_foot (o.slots i x e) a ha
    cases z : M' a with
    | none => rfl
    | some u =>
      rcases t.fresh a u z with z1 | z1
      · rw [h1] at z1; cases z1
      · rw [h4] at z1; cases z1
  refine ⟨t.sub, o.ext.trans t.mm, fun a u h hr => t.keep a u (o.keep a u h hr) hr, fun a u h => ?_, t.row, o.len, fun i x e => slot_mono (o.slots i x e) t.mm (k1 i x e) (k2 i x e), fun i j x y a hij e1 e2 a1 a2 => ?_⟩
  · rcases t.fresh a u h with h1 | h1
    · exact o.fresh a u h1
    · refine .inr ?_
      cases e : B.H0 a with
      | none => rfl
      | some w =>
        by_cases hr : B.r.mem a
        · obtain ⟨q, _⟩ := B.r.live t.row hr
          rw [q] at h
          cases h
        · rw [o.keep a w e hr] at h1
          cases h1
  · rw [footS_same (o.slots i x e1) (k1 i x e1)] at a1
    rw [footS_same (o.slots j y e2) (k1 j y e2)] at a2
    exact o.apart i j x y a hij e1 e2 a1 a2
/-- a slot is given something: what the slot holds stands, and is nobody else's -/
theorem Ok.put (o : Ok K B M H σ ρ s) (i : Nat) (x : Option V) (y : Sl) (h : SlotOk K B M H x y) (hn : ∀ j z a, j ≠ i → ρ[j]? = some z → a ∈ footS H x y → a ∈ footS H (σ[j]?.join) z → False) : Ok K B M H (σ.set i x) (ρ.set i y) s where
  sub := o.sub
  ext := o.ext
  keep := o.keep
  fresh := o.fresh
  row := o.row
  len := by simp [o.len]
  slots := fun j z e => by
    by_cases q : i = j
    · subst q
      have hl : i < ρ.length := by
        have := (List.getElem?_eq_some_iff.mp e).1
        simpa using this
      rw [List.getElem?_set_self hl] at e
      cases e
      rw [List.getElem?_set_self (by rw [o.len]; exact hl)]
      exact h
    · rw [List.getElem?_set_ne q] at e
      rw [List.getElem?_set_ne q]
      exact o.slots j z e
  apart := fun j k u w a hjk e1 e2 a1 a2 => by
    have at_ : ∀ m, i ≠ m → (σ.set i x)[m]? = σ[m]? ∧ (ρ.set i y)[m]? = ρ[m]? := fun m hm => ⟨List.getElem?_set_ne hm, List.getElem?_set_ne hm⟩
    have self : ∀ u, (ρ.set i y)[i]? = some u → u = y ∧ ((σ.set i x)[i]?).join = x := fun u e => by
      have hl : i < ρ.length := by
        have := (List.getElem?_eq_some_iff.mp e).1
        simpa using this
      rw [List.getElem?_set_self hl] at e
      cases e
      rw [List.getElem?_set_self (by rw [o.len]; exact hl)]
      exact ⟨rfl, rfl⟩
    by_cases h1 : i = j
    · subst h1
      obtain ⟨rfl, q⟩ := self u e1
      rw [q] at a1
      rw [(at_ k hjk).1] at a2
      rw [(at_ k hjk).2] at e2
      exact hn k w a (Ne.symm hjk) e2 a1 a2
    · by_cases h2 : i = k
      · subst h2
        obtain ⟨rfl, q⟩ := self w e2
        rw [q] at a2
        rw [(at_ j h1).1] at a1
        rw [(at_ j h1).2] at e1
        exact hn j u a hjk e1 a2 a1
      · rw [(at_ j h1).1] at a1
        rw [(at_ j h1).2] at e1
        rw [(at_ k h2).1] at a2
        rw [(at_ k h2).2] at e2
        exact o.apart j k u w a hjk e1 e2 a1 a2
theorem footS_imm {x : Option V} {d : D} : footS H x (.imm d) = [] := by
  cases x with
  | none => rfl
  | some v => cases v <;> rfl
theorem footS_dead {x : Option V} : footS H x .dead = [] := by
  cases x with
  | none => rfl
  | some v => cases v <;> rfl
/-- a value that stands for a datum goes into a slot -/
theorem Ok.set (o : Ok K B M H σ ρ s) (i : Nat) {v : V} {d : D} (r : Rp K M v d) : Ok K B M H (σ.set i (some v)) (ρ.set i (.imm d)) s :=
  o.put i _ _ r fun _ _ a _ _ h _ => by rw [footS_imm] at h; cases h
/-- a slot is forgotten -/
theorem Ok.kill (o : Ok K B M H σ ρ s) (i : Nat) (x : Option V) : Ok K B M H (σ.set i x) (ρ.set i .dead) s :=
  o.put i _ _ (by cases x <;> trivial) fun _ _ a _ _ h _ => by rw [footS_dead] at h; cases h
theorem Ok.imm (o : Ok K B M H σ ρ s) {i : Nat} {d : D} (e : ρ[i]? = some (.imm d)) : ∃ v, σ[i]? = some (some v) ∧ Rp K M v d := by
  have h := o.slots i _ e
  cases q : σ[i]? with
  | none => rw [q] at h; exact h.elim
  | some w =>
    cases w with
    | none => rw [q] at h; exact h.elim
    | some v => rw [q] at h; exact ⟨v, rfl, h⟩
theorem Ok.own (o : Ok K B M H σ ρ s) {i : Nat} {ds : List D} (e : ρ[i]? = some (.own ds)) : ∃ p vs, σ[i]? = some (some (.ref p)) ∧ H p = some (.lst vs) ∧ vs.length ≤ lim ∧ Rps K M vs ds ∧ M p = none ∧ B.H0 p = none ∧ ¬ B.r.mem p := by
  have h := o.slots i _ e
  cases q : σ[i]? with
  | none => rw [q] at h; exact h.elim
  | some w =>
    cases w with
    | none => rw [q] at h; exact h.elim
    | some v =>
      rw [q] at h
      cases v with
      | ref p => obtain ⟨vs, h⟩ := h; exact ⟨p, vs, rfl, h⟩
      | _ => exact h.elim
theorem Ok.deep (o : Ok K B M H σ ρ s) {i : Nat} {t : OT} (e : ρ[i]? = some (.deep t)) : ∃ v, σ[i]? = some (some v) ∧ OwP K M H v t ∧ (foot H v t).Nodup ∧ ∀ a ∈ foot H v t, M a = none ∧ B.H0 a = none ∧ ¬ B.r.mem a := by
  have h := o.slots i _ e
  cases q : σ[i]? with
  | none => rw [q] at h; exact h.elim
  | some w =>
    cases w with
    | none => rw [q] at h; exact h.elim
    | some v => rw [q] at h; exact ⟨v, rfl, h⟩
theorem Ok.rowAt (o : Ok K B M H σ ρ s) {i : Nat} (e : ρ[i]? = some .row) : ∃ a, σ[i]? = some (some (.ref a)) ∧ B.r = .one (.row a) := by
  have h := o.slots i _ e
  cases q : σ[i]? with
  | none => rw [q] at h; exact h.elim
  | some w =>
    cases w with
    | none => rw [q] at h; exact h.elim
    | some v =>
      rw [q] at h
      cases v with
      | ref p => exact ⟨p, rfl, h⟩
      | _ => exact h.elim
theorem Ok.subAt (o : Ok K B M H σ ρ s) {i k : Nat} (e : ρ[i]? = some (.sub k)) : ∃ a, σ[i]? = some (some (.ref a)) ∧ ∃ ps, B.r = .many ps ∧ ps[k]? = some (.row a) := by
  have h := o.slots i _ e
  cases q : σ[i]? with
  | none => rw [q] at h; exact h.elim
  | some w =>
    cases w with
    | none => rw [q] at h; exact h.elim
    | some v =>
      rw [q] at h
      cases v with
      | ref p => exact ⟨p, rfl, h⟩
      | _ => exact h.elim
/-- a new thing that stands for good -/
theorem Step.new (hs : Same M H) (hr : RowOk K B.r M H s) {p : Addr} {o : HO} (hp : H p = none) : Step K B M H (upd M p o) (upd H p o) s where
  mm := fun a u h => by
    have : a ≠ p := fun e => by
      subst e
      rw [hs a u h] at hp
      cases hp
    rw [upd_ne this]; exact h
  sub := fun a u h => by
    by_cases e : a = p
    · subst e; rw [upd_same] at h ⊢; exact h
    · rw [upd_ne e] at h ⊢; exact hs a u h
  keep := fun a u h _ => by
    have : a ≠ p := fun e => by
      subst e
      rw [h] at hp
      cases hp
    rw [upd_ne this]; exact h
  fresh := fun a u h => by
    by_cases e : a = p
    · subst e; exact .inr hp
    · rw [upd_ne e] at h; exact .inl h
  row := B.r.keep hr (fun b u h => by
    have : b ≠ p := fun e => by
      subst e
      rw [hs b u h] at hp
      cases hp
    rw [upd_ne this]; exact h) (fun a ha => by
      obtain ⟨h1, w, h2⟩ := B.r.live hr ha
      rw [upd_ne (ne_of_none h2 hp)]; exact h1) (fun a w ha h => by rw [upd_ne (ne_of_none h hp)]; exact h) (codeKept_all fun a w h => by rw [upd_ne (ne_of_none h hp)]; exact h)
/-- a new thing that may still change -/
theorem Step.lay (hs : Same M H) (hr : RowOk K B.r M H s) {p : Addr} {o : HO} (hp : H p = none) : Step K B M H M (upd H p o) s where
  mm := fun _ _ h => h
  sub := fun a u h => by
    have : a ≠ p := fun e => by
      subst e
      rw [hs a u h] at hp
      cases hp
    rw [upd_ne this]; exact hs a u h
  keep := fun a u h _ => by
    have : a ≠ p := fun e => by
      subst e
      rw [h] at hp
      cases hp
    rw [upd_ne this]; exact h
  fresh := fun a u h => .inl h
  row := B.r.keep hr (fun _ _ h => h) (fun a ha => (B.r.live hr ha).1) (fun a w ha h => by rw [upd_ne (ne_of_none h hp)]; exact h) (codeKept_all fun a w h => by rw [upd_ne (ne_of_none h hp)]; exact h)
/-- what was new is now to stand for good -/
theorem Step.freeze (t : Step K B M H M' H' s') {p : Addr} {o : HO} (hp : H p = none) (hM : M' p = none) (hH : H' p = some o) (hr : ¬ B.r.mem p) : Step K B M H (upd M' p o) H' s' where
  mm := fun a u h => by
    have h1 := t.mm a u h
    have : a ≠ p := fun e => by
      subst e
      rw [h1] at hM
      cases hM
    rw [upd_ne this]; exact h1
  sub := fun a u h => by
    by_cases e : a = p
    · subst e; rw [upd_same] at h; cases h; exact hH
    · rw [upd_ne e] at h; exact t.sub a u h
  keep := t.keep
  fresh := fun a u h => by
    by_cases e : a = p
    · subst e; exact .inr hp
    · rw [upd_ne e] at h; exact t.fresh a u h
  row := B.r.keep t.row (fun b u h => by rw [upd_ne (ne_of_none h hM)]; exact h) (fun a ha => by
      have : a ≠ p := fun e => hr (by rw [← e]; exact ha)
      rw [upd_ne this]; exact (B.r.live t.row ha).1) (fun a w ha h => h) (codeKept_all fun _ _ h => h)
theorem Ok.rne (o : Ok K B M H σ ρ s) {p : Addr} (hp : H p = none) : ¬ B.r.mem p := fun e => by
  obtain ⟨_, w, h⟩ := B.r.live o.row e
  rw [hp] at h
  cases h
theorem same_new {M : Hp} {p : Addr} {o : HO} (h : M p = none) : Same M (upd M p o) := fun a u e => by
  rw [upd_ne (ne_of_none e h)]; exact e
end
end DL

namespace DL
open PySem L2

/-- an expression: a datum and the row behind it; none: nothing is told -/
abbrev SE := Env → Row → Option (D × Row)
abbrev SB := Env → Row → Option (Bool × Row)
abbrev SA := Env → Row → Option (List D × Row)
/-- what follows gets a value for the datum z -/
def Gives (K : PySem.W.Frag) (B : Bx) (M H : Hp) (s' : Row) (z : D) (Q : VK) : Prop := ∀ v H' M', Step K B M H M' H' s' → Rp K M' v z → Q v H'
def GoodE (K : PySem.W.Frag) (te : TE) (f : SE) : Prop :=
  ∀ (B : Bx) (M H : Hp) (σ : L2.St) (ρ : Env) (s : Row) (d : D) (s' : Row), Ok K B M H σ ρ s → f ρ s = some (d, s') → ∀ Q : VK, Gives K B M H s' d Q → te σ H Q
def GoodB (K : PySem.W.Frag) (tt : TT) (f : SB) : Prop :=
  ∀ (B : Bx) (M H : Hp) (σ : L2.St) (ρ : Env) (s : Row) (b : Bool) (s' : Row), Ok K B M H σ ρ s → f ρ s = some (b, s') → ∀ Q : Bool → Hp → Prop, (∀ H' M', Step K B M H M' H' s' → Q b H') → tt σ H Q
def GoodA (K : PySem.W.Frag) (ta : TA) (f : SA) : Prop :=
  ∀ (B : Bx) (M H : Hp) (σ : L2.St) (ρ : Env) (s : Row) (ds : List D) (s' : Row), Ok K B M H σ ρ s → f ρ s = some (ds, s') → ∀ Q : List V → Hp → Prop, (∀ vs H' M', Step K B M H M' H' s' → Rps K M' vs ds → Q vs H') → ta σ H Q
/-- a new list of one's own -/
def GivesL (K : PySem.W.Frag) (B : Bx) (M H : Hp) (s' : Row) (ds : List D) (Q : VK) : Prop :=
  ∀ p vs H' M', Step K B M H M' H' s' → H p = none → M' p = none → H' p = some (.lst vs) → vs.length ≤ lim → Rps K M' vs ds → Q (.ref p) H'
def GoodL (K : PySem.W.Frag) (te : TE) (f : SA) : Prop :=
  ∀ (B : Bx) (M H : Hp) (σ : L2.St) (ρ : Env) (s : Row) (ds : List D) (s' : Row), Ok K B M H σ ρ s → f ρ s = some (ds, s') → ∀ Q : VK, GivesL K B M H s' ds Q → te σ H Q
def Keep (B : Bx) (H H' : Hp) : Prop := ∀ a o, H a = some o → ¬ B.r.mem a → H' a = some o
/-- at p stands a list, a tuple, of vs, whatever is done beside it -/
def RdL (K : PySem.W.Frag) (B : Bx) (H : Hp) (p : Addr) (vs : List V) : Prop := (∀ H', Keep B H H' → SqL K H' p vs) ∨ (∀ H', Keep B H H' → SqT K H' p vs)
/-- a list or tuple that can be read -/
def GoodR (K : PySem.W.Frag) (te : TE) (f : SA) : Prop :=
  ∀ (B : Bx) (M H : Hp) (σ : L2.St) (ρ : Env) (s : Row) (ds : List D) (s' : Row), Ok K B M H σ ρ s → f ρ s = some (ds, s') → ∀ Q : VK,
    (∀ p vs H' M', Step K B M H M' H' s' → RdL K B H' p vs → vs.length ≤ lim → Rps K M' vs ds → Q (.ref p) H') → te σ H Q

theorem bnd {α β : Type} {x : Option α} {g : α → Option β} {b : β} (h : x.bind g = some b) : ∃ a, x = some a ∧ g a = some b := Option.bind_eq_some_iff.mp h

/-! ### the functions -/
def eVar (i : Nat) : SE := fun ρ s => match ρ[i]? with | some (.imm d) => some (d, s) | _ => none
def eC (d : D) : SE := fun _ s => some (d, s)
def eOp (h : D → D → Option D) (f g : SE) : SE := fun ρ s => (f ρ s).bind fun x => (g ρ x.2).bind fun y => (h x.1 y.1).bind fun z => some (z, y.2)
def eUn (h : D → Option D) (f : SE) : SE := fun ρ s => (f ρ s).bind fun x => (h x.1).bind fun z => some (z, x.2)
def eChain (h h' : D → D → Option D) (f g k : SE) : SE := fun ρ s => (f ρ s).bind fun x => (g ρ x.2).bind fun y => (h x.1 y.1).bind fun z => match z with
  | .bool true => (k ρ y.2).bind fun w => (h' y.1 w.1).bind fun z => some (z, w.2)
  | .bool false => some (.bool false, y.2)
  | _ => none
def eAnd (f g : SE) : SE := fun ρ s => (f ρ s).bind fun x => match x.1 with | .bool true => g ρ x.2 | .bool false => some (.bool false, x.2) | _ => none
def eOr (f g : SE) : SE := fun ρ s => (f ρ s).bind fun x => match x.1 with | .bool false => g ρ x.2 | .bool true => some (.bool true, x.2) | _ => none
def eNot (f : SE) : SE := fun ρ s => (f ρ s).bind fun x => match x.1 with | .bool b => some (.bool (!b), x.2) | _ => none
def eIf (c : SB) (f g : SE) : SE := fun ρ s => (c ρ s).bind fun x => if x.1 then f ρ x.2 else g ρ x.2
def bVal (f : SE) : SB := fun ρ s => (f ρ s).bind fun x => match x.1 with | .bool b => some (b, x.2) | _ => none
def bAnd (f g : SB) : SB := fun ρ s => (f ρ s).bind fun x => if x.1 then g ρ x.2 else some (false, x.2)
def bOr (f g : SB) : SB := fun ρ s => (f ρ s).bind fun x => if x.1 then some (true, x.2) else g ρ x.2
def bNot (f : SB) : SB := fun ρ s => (f ρ s).bind fun x => some (!x.1, x.2)
def aNil : SA := fun _ s => some ([], s)
def aCons (f : SE) (g : SA) : SA := fun ρ s => (f ρ s).bind fun x => (g ρ x.2).bind fun y => some (x.1 :: y.1, y.2)
def eTup (f : SA) : SE := fun ρ s => (f ρ s).bind fun x => if x.1.length ≤ lim then some (.tuple x.1, x.2) else none
def lLst (f : SA) : SA := fun ρ s => (f ρ s).bind fun x => if x.1.length ≤ lim then some (x.1, x.2) else none
def eL (f : SA) : SE := fun ρ s => (f ρ s).bind fun x => some (.list x.1, x.2)
def seqD : D → Option (List D) | .list ds => some ds | .tuple ds => some ds | _ => none
def rE (f : SE) : SA := fun ρ s => (f ρ s).bind fun x => (seqD x.1).bind fun ds => some (ds, x.2)
def rVar (i : Nat) : SA := fun ρ s => match ρ[i]? with | some (.imm (.list ds)) => some (ds, s) | some (.imm (.tuple ds)) => some (ds, s) | some (.own ds) => some (ds, s) | _ => none
def ixD (ds : List D) : D → Option D | .int i => atI ds i | _ => none
def eIx (f : SA) (g : SE) : SE := fun ρ s => (f ρ s).bind fun x => (g ρ x.2).bind fun y => (ixD x.1 y.1).bind fun z => some (z, y.2)

section
variable {K : PySem.W.Frag} {B : Bx} {M H M' H' M2 H2 : Hp} {σ : L2.St} {ρ : Env} {s s' s2 : Row} {ta tb tc te : TE} {tt tu : TT} {f g k : SE} {fa ga : SA} {fb gb : SB}
theorem gd_var (i : Nat) : GoodE K (tVar i) (eVar i) := fun B M H σ ρ s d s' o h Q q => by
  unfold eVar at h
  split at h
  · rename_i d' e
    cases h
    obtain ⟨v, e1, r⟩ := o.imm e
    exact ⟨v, e1, q v H M o.refl r⟩
  · cases h
theorem gd_c {v : V} {d : D} (r : ∀ M, Rp K M v d) : GoodE K (tC v) (eC d) := fun B M H σ ρ s d s' o h Q q => by
  cases h
  exact q v H M o.refl (r M)
/-- a two-place operation on data -/
def OpG (K : PySem.W.Frag) (r : R2) (h : D → D → Option D) : Prop :=
  ∀ (B : Bx) (M H : Hp) (s : Row) (x y : V) (d e z : D), Same M H → RowOk K B.r M H s → Rp K M x d → Rp K M y e → h d e = some z → ∀ Q : VK, Gives K B M H s z Q → r x y H Q
def UnG (K : PySem.W.Frag) (r : V → Hp → VK → Prop) (h : D → Option D) : Prop :=
  ∀ (B : Bx) (M H : Hp) (s : Row) (x : V) (d z : D), Same M H → RowOk K B.r M H s → Rp K M x d → h d = some z → ∀ Q : VK, Gives K B M H s z Q → r x H Q
theorem gd_op {r : R2} {h : D → D → Option D} (hr : OpG K r h) (ha : GoodE K ta f) (hb : GoodE K tb g) : GoodE K (tOp r ta tb) (eOp h f g) := fun B M H σ ρ s d s' o e Q q => by
  obtain ⟨⟨x, s1⟩, e1, e⟩ := bnd e
  obtain ⟨⟨y, s2⟩, e2, e⟩ := bnd e
  obtain ⟨z, e3, e⟩ := bnd e
  cases e
  refine ha B M H σ ρ s x s1 o e1 _ fun v H1 M1 t1 r1 => ?_
  refine hb B M1 H1 σ ρ s1 y _ (o.step t1) e2 _ fun u H2 M2 t2 r2 => ?_
  exact hr B M2 H2 _ v u x y d t2.sub t2.row (Rp.mono t2.mm _ _ r1) r2 e3 Q fun w H3 M3 t3 r3 => q w H3 M3 ((t1.trans t2).trans t3) r3
theorem gd_un {r : V → Hp → VK → Prop} {h : D → Option D} (hr : UnG K r h) (ha : GoodE K ta f) : GoodE K (tUn r ta) (eUn h f) := fun B M H σ ρ s d s' o e Q q => by
  obtain ⟨⟨x, s1⟩, e1, e⟩ := bnd e
  obtain ⟨z, e3, e⟩ := bnd e
  cases e
  refine ha B M H σ ρ s x _ o e1 _ fun v H1 M1 t1 r1 => ?_
  exact hr B M1 H1 _ v x d t1.sub t1.row r1 e3 Q fun w H3 M3 t3 r3 => q w H3 M3 (t1.trans t3) r3
theorem gd_chain {r r' : R2} {h h' : D → D → Option D} (hr : OpG K r h) (hr' : OpG K r' h') (ha : GoodE K ta f) (hb : GoodE K tb g) (hc : GoodE K tc k) : GoodE K (tChain r r' ta tb tc) (eChain h h' f g k) := fun B M H σ ρ s d s' o e Q q => by
  obtain ⟨⟨x, s1⟩, e1, e⟩ := bnd e
  obtain ⟨⟨y, s2⟩, e2, e⟩ := bnd e
  obtain ⟨z, e3, e⟩ := bnd e
  refine ha B M H σ ρ s x s1 o e1 _ fun v H1 M1 t1 r1 => ?_
  refine hb B M1 H1 σ ρ s1 y s2 (o.step t1) e2 _ fun u H2 M2 t2 r2 => ?_
  refine hr B M2 H2 _ v u x y z t2.sub t2.row (Rp.mono t2.mm _ _ r1) r2 e3 _ fun w H3 M3 t3 r3 => ?_
  have t13 := (t1.trans t2).trans t3
  cases r3 with
  | bl b =>
    refine ⟨b, rfl, ?_⟩
    cases b with
    | false =>
      cases e
      exact q _ _ M3 t13 (.bl false)
    | true =>
      simp only at e
      obtain ⟨⟨w', s4⟩, e4, e⟩ := bnd e
      obtain ⟨z', e5, e⟩ := bnd e
      cases e
      show tc σ H3 _
      refine hc B M3 H3 σ ρ s2 w' _ ((o.step (t1.trans t2)).step t3) e4 _ fun u' H4 M4 t4 r4 => ?_
      exact hr' B M4 H4 _ u u' y w' d t4.sub t4.row (Rp.mono (t3.mm.trans t4.mm) _ _ r2) r4 e5 Q fun w5 H5 M5 t5 r5 => q w5 H5 M5 ((t13.trans t4).trans t5) r5
  | _ => cases e
theorem gd_and (ha : GoodE K ta f) (hb : GoodE K tb g) : GoodE K (tAndV ta tb) (eAnd f g) := fun B M H σ ρ s d s' o e Q q => by
  obtain ⟨⟨x, s1⟩, e1, e⟩ := bnd e
  refine ha B M H σ ρ s x s1 o e1 _ fun v H1 M1 t1 r1 => ?_
  cases r1 with
  | bl b =>
    refine ⟨b, rfl, ?_⟩
    cases b with
    | false => cases e; exact q _ _ M1 t1 (.bl false)
    | true =>
      simp only at e
      exact hb B M1 H1 σ ρ s1 d s' (o.step t1) e Q fun w H2 M2 t2 r2 => q w H2 M2 (t1.trans t2) r2
  | _ => cases e
theorem gd_or (ha : GoodE K ta f) (hb : GoodE K tb g) : GoodE K (tOrV ta tb) (eOr f g) := fun B M H σ ρ s d s' o e Q q => by
  obtain ⟨⟨x, s1⟩, e1, e⟩ := bnd e
  refine ha B M H σ ρ s x s1 o e1 _ fun v H1 M1 t1 r1 => ?_
  cases r1 with
  | bl b =>
    refine ⟨b, rfl, ?_⟩
    cases b with
    | true => cases e; exact q _ _ M1 t1 (.bl true)
    | false =>
      simp only at e
      exact hb B M1 H1 σ ρ s1 d s' (o.step t1) e Q fun w H2 M2 t2 r2 => q w H2 M2 (t1.trans t2) r2
  | _ => cases e
theorem gd_not (ha : GoodE K ta f) : GoodE K (tNotV ta) (eNot f) := fun B M H σ ρ s d s' o e Q q => by
  obtain ⟨⟨x, s1⟩, e1, e⟩ := bnd e
  refine ha B M H σ ρ s x s1 o e1 _ fun v H1 M1 t1 r1 => ?_
  cases r1 with
  | bl b => cases e; exact ⟨b, rfl, q _ _ M1 t1 (.bl (!b))⟩
  | _ => cases e
theorem gd_if (hc : GoodB K tt fb) (ha : GoodE K ta f) (hb : GoodE K tb g) : GoodE K (tIf tt ta tb) (eIf fb f g) := fun B M H σ ρ s d s' o e Q q => by
  obtain ⟨⟨b, s1⟩, e1, e⟩ := bnd e
  refine hc B M H σ ρ s b s1 o e1 _ fun H1 M1 t1 => ?_
  cases b with
  | true => exact ha B M1 H1 σ ρ s1 d s' (o.step t1) e Q fun w H2 M2 t2 r2 => q w H2 M2 (t1.trans t2) r2
  | false => exact hb B M1 H1 σ ρ s1 d s' (o.step t1) e Q fun w H2 M2 t2 r2 => q w H2 M2 (t1.trans t2) r2
/-! tests -/
theorem gb_val (ha : GoodE K ta f) : GoodB K (tB ta) (bVal f) := fun B M H σ ρ s d s' o e Q q => by
  obtain ⟨⟨x, s1⟩, e1, e⟩ := bnd e
  refine ha B M H σ ρ s x s1 o e1 _ fun v H1 M1 t1 r1 => ?_
  cases r1 with
  | bl b => cases e; exact ⟨_, rfl, q _ M1 t1⟩
  | _ => cases e
theorem gb_test (ha : GoodE K ta f) : GoodB K (tTest ta) (bVal f) := gb_val ha
theorem gb_and (ha : GoodB K tt fb) (hb : GoodB K tu gb) : GoodB K (tAnd tt tu) (bAnd fb gb) := fun B M H σ ρ s d s' o e Q q => by
  obtain ⟨⟨b, s1⟩, e1, e⟩ := bnd e
  refine ha B M H σ ρ s b s1 o e1 _ fun H1 M1 t1 => ?_
  cases b with
  | true => exact hb B M1 H1 σ ρ s1 d s' (o.step t1) e Q fun H2 M2 t2 => q H2 M2 (t1.trans t2)
  | false => cases e; exact q H1 M1 t1
theorem gb_or (ha : GoodB K tt fb) (hb : GoodB K tu gb) : GoodB K (tOr tt tu) (bOr fb gb) := fun B M H σ ρ s d s' o e Q q => by
  obtain ⟨⟨b, s1⟩, e1, e⟩ := bnd e
  refine ha B M H σ ρ s b s1 o e1 _ fun H1 M1 t1 => ?_
  cases b with
  | false => exact hb B M1 H1 σ ρ s1 d s' (o.step t1) e Q fun H2 M2 t2 => q H2 M2 (t1.trans t2)
  | true => cases e; exact q H1 M1 t1
theorem gb_not (ha : GoodB K tt fb) : GoodB K (tNot tt) (bNot fb) := fun B M H σ ρ s d s' o e Q q => by
  obtain ⟨⟨b, s1⟩, e1, e⟩ := bnd e
  cases e
  exact ha B M H σ ρ s _ _ o e1 _ fun H1 M1 t1 => q H1 M1 t1
/-! rows of expressions -/
theorem ga_nil : GoodA K tNil aNil := fun B M H σ ρ s ds s' o e Q q => by
  cases e
  exact q [] H M o.refl .nil
theorem ga_cons {t : TA} (ha : GoodE K ta f) (hr : GoodA K t fa) : GoodA K (tCons ta t) (aCons f fa) := fun B M H σ ρ s ds s' o e Q q => by
  obtain ⟨⟨x, s1⟩, e1, e⟩ := bnd e
  obtain ⟨⟨y, s2⟩, e2, e⟩ := bnd e
  cases e
  refine ha B M H σ ρ s x s1 o e1 _ fun v H1 M1 t1 r1 => ?_
  refine hr B M1 H1 σ ρ s1 y s2 (o.step t1) e2 _ fun vs H2 M2 t2 r2 => ?_
  exact q _ H2 M2 (t1.trans t2) (.cons (Rp.mono t2.mm _ _ r1) r2)
theorem Step.free (t : Step K B M H M' H' s') {p : Addr} (hp : H' p = none) : H p = none := by
  cases z : H p with
  | none => rfl
  | some u =>
    by_cases hr : B.r.mem p
    · obtain ⟨_, ws, z2⟩ := B.r.live t.row hr
      rw [hp] at z2; cases z2
    · rw [t.keep p u z hr] at hp; cases hp
theorem upd_none {M : Hp} {p : Addr} (hs : Same M H) (hp : H p = none) : M p = none := hs.free hp
theorem gd_tup {t : TA} (ha : GoodA K t fa) : GoodE K (tTup t) (eTup fa) := fun B M H σ ρ s d s' o e Q q => by
  obtain ⟨⟨ds, s1⟩, e1, e⟩ := bnd e
  simp only at e
  split at e
  · rename_i hl
    cases e
    refine ha B M H σ ρ s _ _ o e1 _ fun vs H1 M1 t1 r1 => ⟨lim_le (by rw [r1.length]; exact hl), fun p hp => ?_⟩
    have t2 := Step.new (o := .tup vs) t1.sub t1.row hp
    exact q _ _ _ (t1.trans t2) (.tup (.inl (.inl upd_same)) (by rw [r1.length]; exact hl) (Rps.mono t2.mm _ _ r1))
  · cases e
theorem gl_lst {t : TA} (ha : GoodA K t fa) : GoodL K (tLst t) (lLst fa) := fun B M H σ ρ s d s' o e Q q => by
  obtain ⟨⟨ds, s1⟩, e1, e⟩ := bnd e
  simp only at e
  split at e
  · rename_i hl
    obtain ⟨rfl, rfl⟩ : ds = d ∧ s1 = s' := by cases e; exact ⟨rfl, rfl⟩
    refine ha B M H σ ρ s ds _ o e1 _ fun vs H1 M1 t1 r1 => ⟨lim_le (by rw [r1.length]; exact hl), fun p hp => ?_⟩
    have t2 := Step.lay (o := .lst vs) t1.sub t1.row hp
    have hp0 : H p = none := t1.free hp
    exact q p vs _ M1 (t1.trans t2) hp0 (upd_none t1.sub hp) upd_same (by rw [r1.length]; exact hl) r1
  · cases e
/-- a new list, from now on as it is -/
theorem gd_l (ha : GoodL K te fa) : GoodE K te (eL fa) := fun B M H σ ρ s d s' o e Q q => by
  obtain ⟨⟨ds, s1⟩, e1, e⟩ := bnd e
  cases e
  refine ha B M H σ ρ s ds s1 o e1 _ fun p vs H1 M1 t1 hp hM hH hl r1 => ?_
  have hr : ¬ B.r.mem p := o.rne hp
  exact q _ _ _ (t1.freeze hp hM hH hr) (.lst (.inl (.inl upd_same)) hl (Rps.mono (same_new hM) _ _ r1))
/-! reading -/
theorem keep_m (hs : Same M H) (hr : RowOk K B.r M H s) (k : Keep B H H') : Same M H' := fun a o h => k a o (hs a o h) fun e => by
  obtain ⟨z, _⟩ := B.r.live hr e
  rw [h] at z; cases z
theorem rdl_l {p : Addr} {vs : List V} (hs : Same M H) (hr : RowOk K B.r M H s) (h : SqL K M p vs) : RdL K B H p vs := .inl fun H' k => (keep_m hs hr k).seq h
theorem rdl_t {p : Addr} {vs : List V} (hs : Same M H) (hr : RowOk K B.r M H s) (h : SqT K M p vs) : RdL K B H p vs := .inr fun H' k => same_t (keep_m hs hr k) h
theorem rdl_own {p : Addr} {vs : List V} (h : H p = some (.lst vs)) (hr : ¬ B.r.mem p) : RdL K B H p vs := .inl fun H' k => .inl (.inl (k p _ h hr))
theorem gr_e (ha : GoodE K te f) : GoodR K te (rE f) := fun B M H σ ρ s ds s' o e Q q => by
  obtain ⟨⟨x, s1⟩, e1, e⟩ := bnd e
  obtain ⟨ds', e2, e⟩ := bnd e
  cases e
  refine ha B M H σ ρ s x _ o e1 _ fun v H1 M1 t1 r1 => ?_
  cases r1 with
  | lst h hl r => cases e2; exact q _ _ H1 M1 t1 (rdl_l t1.sub t1.row h) hl r
  | tup h hl r => cases e2; exact q _ _ H1 M1 t1 (rdl_t t1.sub t1.row h) hl r
  | _ => cases e2
theorem gr_l (ha : GoodL K te fa) : GoodR K te fa := fun B M H σ ρ s ds s' o e Q q =>
  ha B M H σ ρ s ds s' o e _ fun p vs H1 M1 t1 hp hM hH hl r1 => q p vs H1 M1 t1 (rdl_own hH (o.rne hp)) hl r1
theorem gr_var (i : Nat) : GoodR K (tVar i) (rVar i) := fun B M H σ ρ s ds s' o e Q q => by
  unfold rVar at e
  split at e
  · rename_i d' e'
    cases e
    obtain ⟨v, e1, r⟩ := o.imm e'
    cases r with
    | lst h hl r => exact ⟨_, e1, q _ _ H M o.refl (rdl_l o.sub o.row h) hl r⟩
  · rename_i d' e'
    cases e
    obtain ⟨v, e1, r⟩ := o.imm e'
    cases r with
    | tup h hl r => exact ⟨_, e1, q _ _ H M o.refl (rdl_t o.sub o.row h) hl r⟩
  · rename_i d' e'
    cases e
    obtain ⟨p, vs, e1, h1, h2, h3, _, _, h6⟩ := o.own e'
    exact ⟨_, e1, q _ _ H M o.refl (rdl_own h1 h6) h2 h3⟩
  · cases e
theorem gd_ix (ha : GoodR K ta fa) (hb : GoodE K tb g) : GoodE K (tOp (rIx K) ta tb) (eIx fa g) := fun B M H σ ρ s d s' o e Q q => by
  obtain ⟨⟨ds, s1⟩, e1, e⟩ := bnd e
  obtain ⟨⟨y, s2⟩, e2, e⟩ := bnd e
  obtain ⟨z, e3, e⟩ := bnd e
  cases e
  refine ha B M H σ ρ s ds s1 o e1 _ fun p vs H1 M1 t1 hs hl r1 => ?_
  refine hb B M1 H1 σ ρ s1 y _ (o.step t1) e2 _ fun u H2 M2 t2 r2 => ?_
  cases r2 with
  | int i =>
    have e3 : atI ds i = some d := e3
    obtain ⟨j, h1, h2, _⟩ := atI_get e3
    have hd : ds[j]? = some d := h2
    obtain ⟨v, hv, rv⟩ := r1.get hd
    have ev : atI vs i = some v := by
      unfold atI at e3 ⊢
      rw [r1.length]
      cases w : ixN ds.length i with
      | none => rw [w] at e3; cases e3
      | some m =>
        rw [w] at e3
        have e4 : ds[m]? = some d := e3
        show vs[m]? = some v
        obtain ⟨q1, _⟩ := ixN_seq w
        rw [h1] at q1
        cases q1
        exact hv
    have fin : Q v H2 := q v H2 M2 (t1.trans t2) (Rp.mono t2.mm _ _ rv)
    rcases hs with hs | hs
    · exact .inl ⟨p, vs, i, v, rfl, rfl, hs H2 t2.keep, ev, fin⟩
    · exact .inr (.inl ⟨p, vs, i, v, rfl, rfl, hs H2 t2.keep, ev, fin⟩)
  | _ => cases e3
end
end DL

namespace DL
open PySem PySem.Spec PyProof.Rows L2
section
variable {K : PySem.W.Frag} {B : Bx} {M H M' H' M2 H2 : Hp} {σ : L2.St} {ρ : Env} {s s' s2 : Row} {ta tb tc te tl : TE} {tt tu : TT} {f g k : SE} {fa ga : SA} {fb gb : SB}
/-! ### targets -/
def wipeE (ρ : Env) : List Nat → Env
  | [] => ρ
  | v :: vs => (wipeE ρ vs).set v .dead
theorem Ok.wipe (o : Ok K B M H σ ρ s) : ∀ vs : List Nat, Ok K B M H (L2.wipe σ vs) (wipeE ρ vs) s
  | [] => o
  | v :: vs => (Ok.wipe o vs).kill v none
theorem wipe_set {σ : L2.St} {i : Nat} {x : Option V} : ∀ {is : List Nat}, i ∈ is → L2.wipe (σ.set i x) is = L2.wipe σ is
  | [], h => by cases h
  | v :: vs, h => by
    show (L2.wipe (σ.set i x) vs).set v none = (L2.wipe σ vs).set v none
    by_cases e : i ∈ vs
    · rw [wipe_set e]
    · rcases List.mem_cons.mp h with rfl | h
      · have : ∀ (τ : L2.St) (ws : List Nat), (L2.wipe (τ.set i x) ws).set i none = (L2.wipe τ ws).set i none := fun τ ws => by
          induction ws with
          | nil =>
            show (τ.set i x).set i none = τ.set i none
            rw [List.set_set]
          | cons w ws ih =>
            show ((L2.wipe (τ.set i x) ws).set w none).set i none = ((L2.wipe τ ws).set w none).set i none
            by_cases q : w = i
            · subst q; rw [List.set_set, List.set_set]; exact ih
            · rw [List.set_comm _ _ q, List.set_comm _ _ q, ih]
        exact this σ vs
      · exact absurd h e
abbrev SG := D → Env → Option Env
def GoodG (K : PySem.W.Frag) (g : TG) (h : SG) (ws : List Nat) : Prop :=
  ∀ (B : Bx) (M H : Hp) (σ : L2.St) (ρ ρ' : Env) (s : Row) (v : V) (d : D), Ok K B M H σ ρ s → Rp K M v d → h d ρ = some ρ' → ∀ Q : L2.St → Hp → Prop,
    (∀ σ', Ok K B M H σ' ρ' s → (∀ is : List Nat, (∀ i, i ∈ ws → i ∈ is) → L2.wipe σ' is = L2.wipe σ is) → Q σ' H) → g v σ H Q
def GoodGs (K : PySem.W.Frag) (g : TGs) (h : List D → Env → Option Env) (ws : List Nat) : Prop :=
  ∀ (B : Bx) (M H : Hp) (σ : L2.St) (ρ ρ' : Env) (s : Row) (vs : List V) (ds : List D), Ok K B M H σ ρ s → Rps K M vs ds → h ds ρ = some ρ' → ∀ Q : L2.St → Hp → Prop,
    (∀ σ', Ok K B M H σ' ρ' s → (∀ is : List Nat, (∀ i, i ∈ ws → i ∈ is) → L2.wipe σ' is = L2.wipe σ is) → Q σ' H) → g vs σ H Q
def hName (i : Nat) : SG := fun d ρ => some (ρ.set i (.imm d))
def hNil : List D → Env → Option Env := fun ds ρ => match ds with | [] => some ρ | _ => none
def hCons (h : SG) (hs : List D → Env → Option Env) : List D → Env → Option Env := fun ds ρ => match ds with | [] => none | d :: ds => (h d ρ).bind fun ρ1 => hs ds ρ1
def hTup (hs : List D → Env → Option Env) : SG := fun d ρ => match d with | .tuple ds => hs ds ρ | _ => none
theorem gg_name (i : Nat) : GoodG K (gName i) (hName i) [i] := fun B M H σ ρ ρ' s v d o r e Q q => by
  cases e
  exact q _ (o.set i r) fun is h => wipe_set (h i (by simp))
theorem ggs_nil : GoodGs K gNil hNil [] := fun B M H σ ρ ρ' s vs ds o r e Q q => by
  cases r with
  | nil => cases e; exact ⟨rfl, q _ o fun _ _ => rfl⟩
  | cons _ _ => cases e
theorem ggs_cons {g : TG} {h : SG} {gs : TGs} {hs : List D → Env → Option Env} {ws us : List Nat} (a : GoodG K g h ws) (b : GoodGs K gs hs us) : GoodGs K (gCons g gs) (hCons h hs) (ws ++ us) := fun B M H σ ρ ρ' s vs ds o r e Q q => by
  cases r with
  | nil => cases e
  | cons r0 rr =>
    obtain ⟨ρ1, e1, e2⟩ := bnd e
    refine ⟨_, _, rfl, ?_⟩
    refine a B M H σ ρ ρ1 s _ _ o r0 e1 _ fun σ1 o1 w1 => ?_
    refine b B M H σ1 ρ1 ρ' s _ _ o1 rr e2 _ fun σ2 o2 w2 => ?_
    exact q _ o2 fun is h => (w2 is fun i hi => h i (List.mem_append_right _ hi)).trans (w1 is fun i hi => h i (List.mem_append_left _ hi))
theorem gg_tup {n : Nat} {gs : TGs} {hs : List D → Env → Option Env} {ws : List Nat} (b : GoodGs K gs hs ws) (hn : ∀ ds ρ ρ', hs ds ρ = some ρ' → ds.length = n) : GoodG K (gTup K n gs) (hTup hs) ws := fun B M H σ ρ ρ' s v d o r e Q q => by
  cases r with
  | tup h hl rr =>
    refine ⟨_, _, rfl, same_t o.sub h, ?_, ?_⟩
    · rw [rr.length]; exact hn _ _ _ e
    · exact b B M H σ ρ ρ' s _ _ o rr e Q q
  | _ => cases e
theorem hn_nil : ∀ ds ρ ρ', hNil ds ρ = some ρ' → ds.length = 0 := fun ds ρ ρ' e => by
  cases ds with
  | nil => rfl
  | cons _ _ => cases e
theorem hn_cons {h : SG} {hs : List D → Env → Option Env} {n : Nat} (q : ∀ ds ρ ρ', hs ds ρ = some ρ' → ds.length = n) : ∀ ds ρ ρ', hCons h hs ds ρ = some ρ' → ds.length = n + 1 := fun ds ρ ρ' e => by
  cases ds with
  | nil => cases e
  | cons d ds =>
    obtain ⟨ρ1, e1, e2⟩ := bnd e
    simp [q _ _ _ e2]

/-! ### walks -/
def ItG (K : PySem.W.Frag) (B : Bx) (J : It) (M' : Hp) (ds : List D) (stab : Hp → Prop) : Prop :=
  ds.length ≤ lim ∧ ∃ (G : Hp → Prop) (Y : Nat → Hp → V → Hp → Prop), Walk J ds.length G Y ∧ (∀ Hc, stab Hc → G Hc) ∧
    ∀ (i : Nat) (x : V) (Hc Hn Mc : Hp) (d : D) (s : Row), ds[i]? = some d → Same M' Mc → Same Mc Hc → stab Hc → RowOk K B.r Mc Hc s → Y i Hc x Hn → ∃ Mn, Step K B Mc Hc Mn Hn s ∧ Rp K Mn x d
def GoodC (K : PySem.W.Frag) (wi : TI) (fa : SA) : Prop :=
  ∀ (B : Bx) (M H : Hp) (σ : L2.St) (ρ : Env) (s : Row) (ds : List D) (s' : Row), Ok K B M H σ ρ s → fa ρ s = some (ds, s') → ∀ R : It → Hp → Prop,
    (∀ J H' M', Step K B M H M' H' s' → ItG K B J M' ds (Keep B H') → R J H') → wi σ H R
def GoodF (K : PySem.W.Frag) (wi : TI) (fa : SA) : Prop :=
  ∀ (B : Bx) (M H : Hp) (σ : L2.St) (ρ : Env) (s : Row) (ds : List D) (s' : Row), Ok K B M H σ ρ s → fa ρ s = some (ds, s') → ∀ R : It → Hp → Prop,
    (∀ J H' M', Step K B M H M' H' s' → ItG K B J M' ds (fun Hc => Same M' Hc) → R J H') → wi σ H R
theorem gc_f {wi : TI} (h : GoodF K wi fa) : GoodC K wi fa := fun B M H σ ρ s ds s' o e R q =>
  h B M H σ ρ s ds s' o e R fun J H' M' t ⟨hl, G, Y, w, st, it⟩ => q J H' M' t ⟨hl, G, Y, w, fun Hc k => st Hc (keep_m t.sub t.row k), fun i x Hc Hn Mc d s e1 e2 e3 k e4 y => it i x Hc Hn Mc d s e1 e2 e3 (keep_m t.sub t.row k) e4 y⟩
/-- a list or a tuple, which of them the value tells -/
def iSeq (K : PySem.W.Frag) (tl : TE) : TI := fun σ H R => tl σ H fun x H1 => ∃ a, x = .ref a ∧ ((∃ xs, SqL K H1 a xs ∧ R (Itl K a) H1) ∨ (∃ xs, SqT K H1 a xs ∧ R (Itt K a) H1))
theorem pi_seq {X : Cx} {tg l : Expr} {tl : TE} (hl : PE X l tl) : PI X tg l (iSeq X.K tl) := by
  refine ⟨fun pins s σ H R I h => ?_⟩
  refine thn (hl.run pins s σ H _ I h) fun v s1 ⟨x, H1, I1, r1, q1⟩ => ?_
  obtain ⟨a, e, q1⟩ := q1
  subst e
  cases r1
  rcases q1 with ⟨xs, hq, q⟩ | ⟨xs, hq, q⟩
  · obtain ⟨its, rv, p, hz⟩ := I1.list hq
    refine wpAny_pyIter_list p.isList ?_
    refine ⟨s1.heap.objs.size, [s1.heap.objs.size], _, _, H1, rfl, I1.kept (t' := s1.toks) fun b o e => Heap.get?_push_of_some _ e, turn_list a _, ⟨_, Heap.get?_push_size _ rfl, rfl, rfl⟩, fun b hb => ?_, q⟩
    have e : b = s1.heap.objs.size := by simpa using hb
    subst e
    exact I1.fpOk (Nat.le_refl _) (I1.hok.fresh (Nat.le_refl _))
  · obtain ⟨its, rv, p, hz⟩ := I1.tuple hq
    refine wpAny_pyIter_tuple (show s1.heap.IsTuple a its.toArray from p) ?_
    refine ⟨s1.heap.objs.size, [s1.heap.objs.size], _, _, H1, rfl, I1.kept (t' := s1.toks) fun b o e => Heap.get?_push_of_some _ e, turn_tuple a _, ⟨_, Heap.get?_push_size _ rfl, rfl, rfl⟩, fun b hb => ?_, q⟩
    have e : b = s1.heap.objs.size := by simpa using hb
    subst e
    exact I1.fpOk (Nat.le_refl _) (I1.hok.fresh (Nat.le_refl _))
theorem step_refl {M H : Hp} {s : Row} (hs : Same M H) (hr : RowOk K B.r M H s) : Step K B M H M H s := ⟨fun _ _ h => h, hs, fun _ _ h _ => h, fun _ _ h => .inl h, hr⟩
theorem itg_l {a : Addr} {vs : List V} {ds : List D} {stab : Hp → Prop} (hl : vs.length ≤ lim) (r : Rps K M vs ds) (h : ∀ Hc, stab Hc → SqL K Hc a vs) : ItG K B (Itl K a) M ds stab := by
  refine ⟨by rw [← r.length]; exact hl, _, _, (by rw [← r.length]; exact walk_list (xs := vs)), h, fun i x Hc Hn Mc d s e1 e2 e3 k e4 y => ?_⟩
  obtain ⟨rfl, y⟩ := y
  obtain ⟨v, hv, rv⟩ := r.get e1
  rw [y] at hv
  cases hv
  exact ⟨Mc, step_refl e3 e4, Rp.mono e2 _ _ rv⟩
theorem itg_t {a : Addr} {vs : List V} {ds : List D} {stab : Hp → Prop} (hl : vs.length ≤ lim) (r : Rps K M vs ds) (h : ∀ Hc, stab Hc → SqT K Hc a vs) : ItG K B (Itt K a) M ds stab := by
  refine ⟨by rw [← r.length]; exact hl, _, _, (by rw [← r.length]; exact walk_tup (xs := vs)), h, fun i x Hc Hn Mc d s e1 e2 e3 k e4 y => ?_⟩
  obtain ⟨rfl, y⟩ := y
  obtain ⟨v, hv, rv⟩ := r.get e1
  rw [y] at hv
  cases hv
  exact ⟨Mc, step_refl e3 e4, Rp.mono e2 _ _ rv⟩
/-- over data that stands for good -/
theorem gf_seq (ha : GoodE K te f) : GoodF K (iSeq K te) (rE f) := fun B M H σ ρ s ds s' o e R q => by
  obtain ⟨⟨x, s1⟩, e1, e⟩ := bnd e
  obtain ⟨ds', e2, e⟩ := bnd e
  cases e
  refine ha B M H σ ρ s x _ o e1 _ fun v H1 M1 t1 r1 => ?_
  cases r1 with
  | lst h hl r => cases e2; exact ⟨_, rfl, .inl ⟨_, t1.sub.seq h, q _ H1 M1 t1 (itg_l hl r fun Hc k => Same.seq k h)⟩⟩
  | tup h hl r => cases e2; exact ⟨_, rfl, .inr ⟨_, same_t t1.sub h, q _ H1 M1 t1 (itg_t hl r fun Hc k => same_t k h)⟩⟩
  | _ => cases e2
/-- over what may be read, in a comprehension -/
theorem gc_seq (ha : GoodR K te fa) : GoodC K (iSeq K te) fa := fun B M H σ ρ s ds s' o e R q => by
  refine ha B M H σ ρ s ds s' o e _ fun p vs H1 M1 t1 hs hl r1 => ?_
  rcases hs with hs | hs
  · exact ⟨_, rfl, .inl ⟨_, hs H1 fun _ _ h _ => h, q _ H1 M1 t1 (itg_l hl r1 hs)⟩⟩
  · exact ⟨_, rfl, .inr ⟨_, hs H1 fun _ _ h _ => h, q _ H1 M1 t1 (itg_t hl r1 hs)⟩⟩
def rngD (a b : Int) : List D := (List.range (b - a).toNat).map fun i => .int (a + (i : Nat))
theorem rngD_len (a b : Int) : (rngD a b).length = (b - a).toNat := by simp [rngD]
theorem rngD_get {a b : Int} {i : Nat} {d : D} (h : (rngD a b)[i]? = some d) : d = .int (a + (i : Nat)) := by
  unfold rngD at h
  rw [List.getElem?_map] at h
  cases e : (List.range (b - a).toNat)[i]? with
  | none => rw [e] at h; cases h
  | some j =>
    rw [e] at h
    have hj : j = i := by
      obtain ⟨h1, h2⟩ := List.getElem?_eq_some_iff.mp e
      simpa using h2.symm
    subst hj
    cases h
    rfl
def i1Rng (f : SE) : SA := fun ρ s => (f ρ s).bind fun x => match x.1 with | .int n => if -1000000 ≤ n ∧ n ≤ 1000000 then some (rngD 0 n, x.2) else none | _ => none
def i2Rng (f g : SE) : SA := fun ρ s => (f ρ s).bind fun x => (g ρ x.2).bind fun y => match x.1, y.1 with
  | .int a, .int b => if 0 ≤ a ∧ a ≤ 1000000 ∧ -1000000 ≤ b ∧ b ≤ 1000000 then some (rngD a b, y.2) else none | _, _ => none
theorem itg_r {lo : Int} {n : Nat} {ds : List D} {stab : Hp → Prop} (hl : n ≤ lim) (hd : ds.length = n) (hg : ∀ (i : Nat) d, ds[i]? = some d → d = .int (lo + i)) : ItG K B (Itr lo n) M ds stab := by
  refine ⟨by rw [hd]; exact hl, _, _, (by rw [hd]; exact walk_range (lo := lo)), fun _ _ => trivial, fun i x Hc Hn Mc d s e1 e2 e3 k e4 y => ?_⟩
  obtain ⟨rfl, rfl⟩ := y
  rw [hg i d e1]
  exact ⟨Mc, step_refl e3 e4, .int _⟩
theorem big62 : (1000000 : Int) < 2 ^ 62 := by decide
theorem gf_rng1 (ha : GoodE K ta f) : GoodF K (iRng1 (tCons ta tNil)) (i1Rng f) := fun B M H σ ρ s ds s' o e R q => by
  obtain ⟨⟨x, s1⟩, e1, e⟩ := bnd e
  refine ha B M H σ ρ s x s1 o e1 _ fun v H1 M1 t1 r1 => ?_
  cases r1 with
  | int n =>
    simp only at e
    split at e
    · rename_i hn
      obtain ⟨rfl, rfl⟩ : rngD 0 n = ds ∧ s1 = s' := by cases e; exact ⟨rfl, rfl⟩
      have h62 := big62
      exact ⟨n, rfl, by omega, by omega, q _ H1 M1 t1 (itg_r (by unfold lim; omega) (by rw [rngD_len]; simp) fun i d h => rngD_get h)⟩
    · cases e
  | _ => cases e
theorem gf_rng2 (ha : GoodE K ta f) (hb : GoodE K tb g) : GoodF K (iRng2 (tCons ta (tCons tb tNil))) (i2Rng f g) := fun B M H σ ρ s ds s' o e R q => by
  obtain ⟨⟨x, s1⟩, e1, e⟩ := bnd e
  obtain ⟨⟨y, s2⟩, e2, e⟩ := bnd e
  refine ha B M H σ ρ s x s1 o e1 _ fun v H1 M1 t1 r1 => ?_
  refine hb B M1 H1 σ ρ s1 y s2 (o.step t1) e2 _ fun u H2 M2 t2 r2 => ?_
  cases r1 with
  | int a =>
    cases r2 with
    | int b =>
      simp only at e
      split at e
      · rename_i hn
        obtain ⟨rfl, rfl⟩ : rngD a b = ds ∧ s2 = s' := by cases e; exact ⟨rfl, rfl⟩
        have h62 := big62
        exact ⟨a, b, rfl, ⟨by omega, by omega, by omega, by omega⟩, q _ H2 M2 (t1.trans t2) (itg_r (by unfold lim; omega) (by rw [rngD_len]) fun i d h => rngD_get h)⟩
      · cases e
    | _ => cases e
  | _ => cases e
end
end DL

namespace DL
open PySem PySem.Spec PyProof.Rows L2
section
variable {K : PySem.W.Frag} {B : Bx} {M H M' H' M2 H2 : Hp} {σ : L2.St} {ρ : Env} {s s' s2 : Row} {ta tb tc te tl : TE} {tt tu : TT} {f g k : SE} {fa ga : SA} {fb gb : SB}
/-! ### comprehensions -/
def compL (h : SG) (ft : SB) (fe : SE) (ρ : Env) : List D → Row → Option (List D × Row)
  | [], s => some ([], s)
  | d :: ds, s => (h d ρ).bind fun ρ1 => (ft ρ1 s).bind fun b => if b.1 then (fe ρ1 b.2).bind fun x => (compL h ft fe ρ ds x.2).bind fun y => some (x.1 :: y.1, y.2) else compL h ft fe ρ ds b.2
def lComp (fi : SA) (h : SG) (ft : SB) (fe : SE) (vs : List Nat) : SA := fun ρ s => (fi ρ s).bind fun x => compL h ft fe (wipeE ρ vs) x.1 x.2
def bYes : SB := fun _ s => some (true, s)
theorem gb_yes : GoodB K tYes bYes := fun B M H σ ρ s b s' o e Q q => by
  cases e
  exact q H M o.refl
theorem compL_len {h : SG} {ft : SB} {fe : SE} {ρ : Env} : ∀ {ds : List D} {s s' : Row} {es : List D}, compL h ft fe ρ ds s = some (es, s') → es.length ≤ ds.length
  | [], s, s', es, e => by cases e; exact Nat.le_refl _
  | d :: ds, s, s', es, e => by
    obtain ⟨ρ1, e1, e⟩ := bnd e
    obtain ⟨b, e2, e⟩ := bnd e
    split at e
    · obtain ⟨x, e3, e⟩ := bnd e
      obtain ⟨y, e4, e⟩ := bnd e
      cases e
      have := compL_len (es := y.1) (s' := y.2) e4
      simpa using this
    · have := compL_len e
      simp; omega
theorem gl_comp {wi : TI} {fi : SA} {tg : TG} {h : SG} {ws vs : List Nat} {ft : SB} {fe : SE} (hi : GoodC K wi fi) (hg : GoodG K tg h ws) (hw : ∀ i, i ∈ ws → i ∈ vs) (ht : GoodB K tt ft) (he : GoodE K te fe) :
    GoodL K (tLc wi tg tt te vs) (lComp fi h ft fe vs) := fun B M H σ ρ s out s' o e Q q => by
  obtain ⟨⟨ds, s1⟩, e1, e⟩ := bnd e
  simp only at e
  refine hi B M H σ ρ s ds s1 o e1 _ fun J H1 M1 t1 ⟨hlen, G, Y, w, stab, it⟩ D hD => ?_
  have oH : H D = none := t1.free hD
  have rD : ¬ B.r.mem D := o.rne oH
  have mD : M1 D = none := t1.sub.free hD
  refine lc_it w (fun i Hc => ∃ Mc sc acc pre rst, Same M1 Mc ∧ Same Mc Hc ∧ Keep B H1 Hc ∧ (∀ a u, Mc a = some u → M1 a = some u ∨ H1 a = none) ∧ RowOk K B.r Mc Hc sc ∧
    Hc D = some (.lst acc) ∧ acc.length ≤ i ∧ Rps K Mc acc pre ∧ Mc D = none ∧ compL h ft fe (wipeE ρ vs) (ds.drop i) sc = some (rst, s') ∧ pre ++ rst = out) ?_ ?_ ?_ ?_
  · have t2 := Step.lay (o := .lst []) t1.sub t1.row hD
    exact ⟨M1, s1, [], [], out, fun _ _ h => h, t2.sub, t2.keep, fun _ _ h => .inl h, t2.row, upd_same, Nat.le_refl _, .nil, mD, e, rfl⟩
  · rintro i Hc hi' ⟨Mc, sc, acc, pre, rst, c1, c2, c3, c4, c5, c6, c7, c8, c9, c10, c11⟩
    exact stab Hc c3
  · rintro i x Hc Hn hlt ⟨Mc, sc, acc, pre, rst, c1, c2, c3, c4, c5, c6, c7, c8, c9, c10, c11⟩ y
    have hd : ds[i]? = some ds[i] := List.getElem?_eq_getElem hlt
    obtain ⟨Mn, tn, rx⟩ := it i x Hc Hn Mc ds[i] sc hd c1 c2 c3 c5 y
    have e0 : ds.drop i = ds[i] :: ds.drop (i + 1) := List.drop_eq_getElem_cons hlt
    rw [e0] at c10
    obtain ⟨ρ1, e2, c10⟩ := bnd c10
    obtain ⟨⟨b, sb⟩, e3, c10⟩ := bnd c10
    simp only at c10
    have tc : Step K B M1 H1 Mc Hc sc := ⟨c1, c2, c3, c4, c5⟩
    have oc : Ok K B Mn Hn σ ρ sc := (o.step (t1.trans tc)).step tn
    have hDn : Hn D = some (.lst acc) := tn.keep D _ c6 rD
    have mDn : Mn D = none := by
      cases z : Mn D with
      | none => rfl
      | some u =>
        rcases tn.fresh D u z with z1 | z1
        · rw [c9] at z1; cases z1
        · rw [c6] at z1; cases z1
    refine hg B Mn Hn (L2.wipe σ vs) (wipeE ρ vs) ρ1 sc x ds[i] (oc.wipe vs) rx e2 _ fun σ2 o2 hwp => ⟨?_, ?_⟩
    · rw [hwp vs hw]
      have idem : ∀ (τ : L2.St) (us : List Nat), L2.wipe (L2.wipe τ us) us = L2.wipe τ us := fun τ us => by
        have key : ∀ (us2 : List Nat), (∀ i, i ∈ us2 → i ∈ us) → L2.wipe (L2.wipe τ us2) us = L2.wipe τ us := fun us2 => by
          induction us2 with
          | nil => intro _; rfl
          | cons v us2 ih =>
            intro hh
            show L2.wipe ((L2.wipe τ us2).set v none) us = _
            rw [wipe_set (hh v (by simp))]
            exact ih fun i hi => hh i (List.mem_cons_of_mem _ hi)
        exact key us fun _ h => h
      exact idem σ vs
    · refine ht B Mn Hn σ2 ρ1 sc b sb o2 e3 _ fun H3 M3 t3 => ?_
      have mD3 : M3 D = none := by
        cases z : M3 D with
        | none => rfl
        | some u =>
          rcases t3.fresh D u z with z1 | z1
          · rw [mDn] at z1; cases z1
          · rw [hDn] at z1; cases z1
      have hD3 : H3 D = some (.lst acc) := t3.keep D _ hDn rD
      have T3 := (tc.trans tn).trans t3
      cases b with
      | false =>
        exact ⟨M3, sb, acc, pre, rst, T3.mm, T3.sub, T3.keep, T3.fresh, T3.row, hD3, Nat.le_succ_of_le c7, Rps.mono (tn.mm.trans t3.mm) _ _ c8, mD3, c10, c11⟩
      | true =>
        simp only [if_true] at c10
        obtain ⟨⟨z, sz⟩, e4, c10⟩ := bnd c10
        obtain ⟨⟨rst2, s3⟩, e5, c10⟩ := bnd c10
        cases c10
        show te σ2 H3 _
        refine he B M3 H3 σ2 ρ1 sb z sz (o2.step t3) e4 _ fun v H4 M4 t4 r4 => ?_
        have hD4 : H4 D = some (.lst acc) := t4.keep D _ hD3 rD
        have mD4 : M4 D = none := by
          cases z : M4 D with
          | none => rfl
          | some u =>
            rcases t4.fresh D u z with z1 | z1
            · rw [mD3] at z1; cases z1
            · rw [hD3] at z1; cases z1
        have T4 := T3.trans t4
        have hb : acc.length < lim := by omega
        refine ⟨acc, hD4, lim_lt hb, M4, sz, acc ++ [v], pre ++ [z], rst2, T4.mm, fun a u ha => ?_, fun a u ha hr => ?_, T4.fresh, ?_, upd_same, by simp; omega, ?_, mD4, e5, by rw [← c11]; simp⟩
        · rw [upd_ne (ne_of_none ha mD4)]; exact T4.sub a u ha
        · rw [upd_ne (ne_of_none ha hD)]; exact T4.keep a u ha hr
        · exact B.r.keep T4.row (fun _ _ h => h) (fun a ha => (B.r.live T4.row ha).1) (fun a w ha h => by
            have : a ≠ D := fun z => rD (z ▸ ha)
            rw [upd_ne this]; exact h) (codeKept_upd fun u hu => by rw [hD4] at hu; cases hu; exact code_lst)
        · exact Rps.append (Rps.mono ((tn.mm.trans t3.mm).trans t4.mm) _ _ c8) (.cons r4 .nil)
  · rintro Hc ⟨Mc, sc, acc, pre, rst, c1, c2, c3, c4, c5, c6, c7, c8, c9, c10, c11⟩
    rw [List.drop_eq_nil_of_le (Nat.le_refl _)] at c10
    cases c10
    rw [List.append_nil] at c11
    subst c11
    have tc : Step K B M1 H1 Mc Hc _ := ⟨c1, c2, c3, c4, c5⟩
    exact q D acc Hc Mc (t1.trans tc) oH c9 c6 (by omega) c8
end
end DL

namespace DL
open PySem PySem.Spec PyProof.Rows L2
/-! ### operations on data -/
def iiD (h : Int → Int → D) : D → D → Option D := fun x y => match x, y with | .int a, .int b => some (h a b) | _, _ => none
def iicD (c : Int → Int → Bool) (h : Int → Int → D) : D → D → Option D := fun x y => match x, y with | .int a, .int b => if c a b then some (h a b) else none | _, _ => none
def addD : D → D → Option D := fun x y => match x, y with
  | .int a, .int b => some (.int (a + b))
  | .tuple a, .tuple b => if a.length + b.length ≤ lim then some (.tuple (a ++ b)) else none
  | .str a, .str b => if a.length + b.length ≤ lim ∧ PyData.strOk (a ++ b) = true then some (.str (a ++ b)) else none
  | .list a, .list b => if a.length + b.length ≤ lim then some (.list (a ++ b)) else none
  | _, _ => none
def subD : D → D → Option D := iiD fun a b => .int (a - b)
def mulI : D → D → Option D := iicD (fun a b => decide ((-(2 ^ 64) < a ∧ a < 2 ^ 64) ∨ (-(2 ^ 64) < b ∧ b < 2 ^ 64))) fun a b => .int (a * b)
def fdivD : D → D → Option D := iicD (fun a b => decide (0 < b ∧ b < 1073741824)) fun a b => .int (a / b)
def modD : D → D → Option D := iicD (fun a b => decide (0 < b)) fun a b => .int (a % b)
def powD : D → D → Option D := iicD (fun a b => decide (0 ≤ b ∧ b ≤ 1000000 ∧ a.natAbs < 2 ^ 64)) fun a b => .int (a ^ b.toNat)
def negD : D → Option D := fun x => match x with | .int a => some (.int (-a)) | _ => none
def ltD : D → D → Option D := iiD fun a b => .bool (decide (a < b))
def leD : D → D → Option D := iiD fun a b => .bool (decide (a ≤ b))
def gtD : D → D → Option D := iiD fun a b => .bool (decide (b < a))
def geD : D → D → Option D := iiD fun a b => .bool (decide (b ≤ a))
def eqD : D → D → Option D := fun x y => if min x.depth y.depth ≤ 64 then some (.bool (PyData.eqv x y)) else none
def neD : D → D → Option D := fun x y => if min x.depth y.depth ≤ 64 then some (.bool (!PyData.eqv x y)) else none
def isNone : D → Bool | .none => true | _ => false
def isND : D → D → Option D := fun x y => match y with | .none => some (.bool (isNone x)) | _ => none
def notND : D → D → Option D := fun x y => match y with | .none => some (.bool (!isNone x)) | _ => none
def flatD : D → Bool | .none => true | .bool _ => true | .int _ => true | .str _ => true | _ => false
def inFl (x : D) (ds : List D) : Bool := ds.any fun y => PyData.eqv y x
def inD : D → D → Option D := fun x y => (seqD y).bind fun ds => if flatD x && ds.all flatD then some (.bool (inFl x ds)) else none
def ninD : D → D → Option D := fun x y => (seqD y).bind fun ds => if flatD x && ds.all flatD then some (.bool (!inFl x ds)) else none
section
variable {K : PySem.W.Frag} {B : Bx} {M H M' H' M2 H2 : Hp} {σ : L2.St} {ρ : Env} {s s' s2 : Row} {ta tb tc te tl : TE} {tt tu : TT} {f g k : SE} {fa ga : SA} {fb gb : SB}
theorem og_ii {h : Int → Int → D} {hv : Int → Int → V} (r : ∀ a b M, Rp K M (hv a b) (h a b)) : OpG K (rI0 hv) (iiD h) := fun B M H s x y d e z hs hr rx ry e1 Q q => by
  cases rx <;> cases ry <;> first | (cases e1; done) | skip
  cases e1
  exact ⟨_, _, rfl, rfl, q _ H M (step_refl hs hr) (r _ _ _)⟩
theorem og_iic {C : Int → Int → Prop} {c : Int → Int → Bool} {h : Int → Int → D} {hv : Int → Int → V} (hc : ∀ a b, c a b = true → C a b) (r : ∀ a b M, Rp K M (hv a b) (h a b)) : OpG K (rI C hv) (iicD c h) := fun B M H s x y d e z hs hr rx ry e1 Q q => by
  cases rx <;> cases ry <;> first | (cases e1; done) | skip
  simp only [iicD] at e1
  split at e1
  · rename_i hcc
    cases e1
    exact ⟨_, _, rfl, rfl, hc _ _ hcc, q _ H M (step_refl hs hr) (r _ _ _)⟩
  · cases e1
theorem og_sub : OpG K (rI0 fun i j => .int (i - j)) subD := og_ii fun _ _ _ => .int _
theorem og_mul : OpG K (rI CMul fun i j => .int (i * j)) mulI := og_iic (fun a b h => by exact of_decide_eq_true (p := (-(2 ^ 64) < a ∧ a < 2 ^ 64) ∨ (-(2 ^ 64) < b ∧ b < 2 ^ 64)) h) fun _ _ _ => .int _
theorem og_fdiv : OpG K (rI CDiv fun i j => .int (i / j)) fdivD := og_iic (fun a b h => by exact of_decide_eq_true (p := 0 < b ∧ b < 1073741824) h) fun _ _ _ => .int _
theorem og_mod : OpG K (rI (fun _ j => 0 < j) fun i j => .int (i % j)) modD := og_iic (fun a b h => of_decide_eq_true h) fun _ _ _ => .int _
theorem og_pow : OpG K (rI CPow fun i j => .int (i ^ j.toNat)) powD := og_iic (fun a b h => by exact of_decide_eq_true (p := 0 ≤ b ∧ b ≤ 1000000 ∧ a.natAbs < 2 ^ 64) h) fun _ _ _ => .int _
theorem og_lt : OpG K (rI0 fun i j => .bl (decide (i < j))) ltD := og_ii fun _ _ _ => .bl _
theorem og_le : OpG K (rI0 fun i j => .bl (decide (i ≤ j))) leD := og_ii fun _ _ _ => .bl _
theorem og_gt : OpG K (rI0 fun i j => .bl (decide (j < i))) gtD := og_ii fun _ _ _ => .bl _
theorem og_ge : OpG K (rI0 fun i j => .bl (decide (j ≤ i))) geD := og_ii fun _ _ _ => .bl _
theorem ug_neg : UnG K (rU fun i => .int (-i)) negD := fun B M H s x d z hs hr rx e1 Q q => by
  cases rx <;> first | (cases e1; done) | skip
  cases e1
  exact ⟨_, rfl, q _ H M (step_refl hs hr) (.int _)⟩
/-- + of lists, whatever holds them -/
def rCatS (K : PySem.W.Frag) : R2 := fun x y H Q => ∃ l b xs zs, x = .ref l ∧ y = .ref b ∧ SqL K H l xs ∧ SqL K H b zs ∧ xs.length + zs.length ≤ sizeLine ∧ ∀ p, H p = none → Q (.ref p) (upd H p (.lst (xs ++ zs)))
theorem op_catS {X : Cx} : OpR X (binaryOp .Add) (rCatS X.K) := by
  intro pins s σ H x y v u Q I rx ry h
  obtain ⟨l, b, xs, zs, rfl, rfl, hH, hB, hz, q⟩ := h
  cases rx
  cases ry
  obtain ⟨its, r, p, _⟩ := I.list hH
  obtain ⟨its2, r2, p2, _⟩ := I.list hB
  have l1 := r.length
  have l2 := r2.length
  obtain ⟨⟨cls, dd, data, sl⟩, ho, hc, n, hd⟩ := id p.isList
  obtain ⟨⟨cls2, dd2, data2, sl2⟩, ho2, hc2, n2, hd2⟩ := id p2.isList
  simp only at hc hd hc2 hd2
  subst hc hd hc2 hd2
  have e : its.toArray ++ its2.toArray = (its ++ its2).toArray := by simp
  refine concat_meets ⟨_, ho, rfl⟩ ⟨_, ho2, rfl⟩ noFill_list_add seq_list_add PySem.F.slot_list_add PySem.F.entry_list_add (PySem.F.args_list_add_2 _ _) (list_addW l b its.toArray its2.toArray n n2 dd dd2 sl sl2 (by simp; omega)) ⟨ho, ho2, ?_⟩
  rw [e]
  exact ⟨.ref _, _, I.lnew (t' := s.toks) (r.append r2) (by rw [List.length_append]; omega), rfl, q _ I.fresh⟩
/-- + of whole numbers, tuples, texts, lists -/
def rAddA (K : PySem.W.Frag) : R2 := fun x y H Q => rI0 (fun i j => .int (i + j)) x y H Q ∨ rCatA K x y H Q ∨ (∃ i j, x = .str i ∧ y = .str j ∧ i.length + j.length ≤ sizeLine ∧ Q (.str (i ++ j)) H) ∨ rCatS K x y H Q
theorem op_addA {X : Cx} : OpR X (binaryOp .Add) (rAddA X.K) := op_add.or (op_catA.or (op_add_str.or op_catS))
theorem str_len_app (a b : Str) : (a ++ b).length = a.length + b.length := by
  show (a.cps ++ b.cps).size = _
  rw [Array.size_append]; rfl
theorem og_add : OpG K (rAddA K) addD := fun B M H s x y d e z hs hr rx ry e1 Q q => by
  cases rx <;> cases ry <;> first | (cases e1; done) | skip
  · cases e1
    exact .inl ⟨_, _, rfl, rfl, q _ H M (step_refl hs hr) (.int _)⟩
  · simp only [addD] at e1
    split at e1
    · rename_i h
      cases e1
      exact .inr (.inr (.inl ⟨_, _, rfl, rfl, lim_le h.1, q _ H M (step_refl hs hr) (.str _ h.2 (by rw [str_len_app]; exact h.1))⟩))
    · cases e1
  · simp only [addD] at e1
    rename_i a vs ds ha hla ra b us es hb hlb rb
    split at e1
    · rename_i h
      cases e1
      have hl : vs.length + us.length ≤ lim := by rw [ra.length, rb.length]; exact h
      refine .inr (.inr (.inr ⟨a, b, vs, us, rfl, rfl, hs.seq ha, hs.seq hb, lim_le hl, fun p hp => ?_⟩))
      have t := Step.new (o := .lst (vs ++ us)) hs hr hp
      exact q _ _ _ t (.lst (.inl (.inl upd_same)) (by rw [List.length_append]; exact hl) (Rps.mono t.mm _ _ (Rps.append ra rb)))
    · cases e1
  · simp only [addD] at e1
    rename_i a vs ds ha hla ra b us es hb hlb rb
    split at e1
    · rename_i h
      cases e1
      have hl : vs.length + us.length ≤ lim := by rw [ra.length, rb.length]; exact h
      refine .inr (.inl ⟨a, b, vs, us, rfl, rfl, same_t hs ha, same_t hs hb, lim_le hl, fun e0 => ?_, fun n0 e0 => ?_, fun n0 n1 p hp => ?_⟩)
      · subst e0
        cases ra
        exact q _ H M (step_refl hs hr) (.tup hb hlb rb)
      · subst e0
        cases rb
        rw [List.append_nil] at q
        exact q _ H M (step_refl hs hr) (.tup ha hla ra)
      · have t := Step.new (o := .tup (vs ++ us)) hs hr hp
        exact q _ _ _ t (.tup (.inl (.inl upd_same)) (by rw [List.length_append]; exact hl) (Rps.mono t.mm _ _ (Rps.append ra rb)))
    · cases e1
/-- == of any data, either of small depth -/
def rEqM (K : PySem.W.Frag) : R2 := fun x y H Q => ∃ d e, Dp K H x d ∧ Dp K H y e ∧ d.canLay0 = true ∧ e.canLay0 = true ∧ min d.depth e.depth ≤ 64 ∧ Q (.bl (PyData.eqv d e)) H
def rNeM (K : PySem.W.Frag) : R2 := fun x y H Q => ∃ d e, Dp K H x d ∧ Dp K H y e ∧ d.canLay0 = true ∧ e.canLay0 = true ∧ min d.depth e.depth ≤ 64 ∧ Q (.bl (!PyData.eqv d e)) H
theorem op_eqM {X : Cx} (hu : X.A.units + 64 < cLine) : OpR X (compareOp .Eq) (rEqM X.K) := by
  intro pins s σ H x y v u Q I rx ry h
  obtain ⟨d, e, hd, he, sd, se, hm, q⟩ := h
  obtain ⟨as, r1⟩ := Dp.reads I d x v hd rx
  obtain ⟨bs, r2⟩ := Dp.reads I e y u he ry
  exact SeqAt.compareEq_reads r1 r2 sd se (by omega) ⟨.bl _, H, I, rfl, q⟩
theorem op_neM {X : Cx} (hu : X.A.units + 64 < cLine) : OpR X (compareOp .NotEq) (rNeM X.K) := by
  intro pins s σ H x y v u Q I rx ry h
  obtain ⟨d, e, hd, he, sd, se, hm, q⟩ := h
  obtain ⟨as, r1⟩ := Dp.reads I d x v hd rx
  obtain ⟨bs, r2⟩ := Dp.reads I e y u he ry
  exact SeqAt.compareNe_reads r1 r2 sd se (by omega) ⟨.bl _, H, I, rfl, q⟩
theorem og_eq : OpG K (rEqM K) eqD := fun B M H s x y d e z hs hr rx ry e1 Q q => by
  simp only [eqD] at e1
  split at e1
  · rename_i h
    cases e1
    exact ⟨d, e, (Rp.mono hs _ _ rx).dp, (Rp.mono hs _ _ ry).dp, rx.lay, ry.lay, h, q _ H M (step_refl hs hr) (.bl _)⟩
  · cases e1
theorem og_ne : OpG K (rNeM K) neD := fun B M H s x y d e z hs hr rx ry e1 Q q => by
  simp only [neD] at e1
  split at e1
  · rename_i h
    cases e1
    exact ⟨d, e, (Rp.mono hs _ _ rx).dp, (Rp.mono hs _ _ ry).dp, rx.lay, ry.lay, h, q _ H M (step_refl hs hr) (.bl _)⟩
  · cases e1
theorem rp_none {v : V} {d : D} (r : Rp K M v d) : decide (v = .non) = isNone d := by
  cases r <;> first | rfl | simp [isNone]
def rIsNn : R2 := fun x y H Q => y = .non ∧ Q (.bl (decide (x = .non))) H
def rNotNn : R2 := fun x y H Q => y = .non ∧ Q (.bl (!decide (x = .non))) H
theorem og_isN : OpG K rIsNn isND := fun B M H s x y d e z hs hr rx ry e1 Q q => by
  cases ry <;> first | (cases e1; done) | skip
  cases e1
  refine ⟨rfl, ?_⟩
  rw [rp_none rx]
  exact q _ H M (step_refl hs hr) (.bl _)
theorem og_notN : OpG K rNotNn notND := fun B M H s x y d e z hs hr rx ry e1 Q q => by
  cases ry <;> first | (cases e1; done) | skip
  cases e1
  refine ⟨rfl, ?_⟩
  rw [rp_none rx]
  exact q _ H M (step_refl hs hr) (.bl _)
theorem rp_flat {v : V} {d : D} (r : Rp K M v d) (h : flatD d = true) : flatV v = true := by
  cases r <;> first | rfl | cases h
theorem rps_flat : ∀ {vs : List V} {ds : List D}, Rps K M vs ds → ds.all flatD = true → vs.all flatV = true
  | _, [], r, _ => by cases r; rfl
  | _, d :: ds, r, h => by
    cases r with
    | cons a b =>
      rw [List.all_cons, Bool.and_eq_true] at h
      rw [List.all_cons, rp_flat a h.1, rps_flat b h.2]; rfl
theorem eqV_eqv {v w : V} {d e : D} (r : Rp K M v d) (q : Rp K M w e) (h : flatD d = true) (h' : flatD e = true) : eqV v w = PyData.eqv d e := by
  cases r <;> first | (cases h; done) | skip
  all_goals cases q <;> first | (cases h'; done) | skip
  all_goals simp [eqV, PyData.eqv]
theorem inV_in {v : V} {x : D} (rx : Rp K M v x) (hx : flatD x = true) : ∀ {vs : List V} {ds : List D}, Rps K M vs ds → ds.all flatD = true → inV v vs = inFl x ds
  | _, [], r, _ => by cases r; rfl
  | _, d :: ds, r, h => by
    cases r with
    | cons a b =>
      rw [List.all_cons, Bool.and_eq_true] at h
      show (eqV _ v || inV v _) = (PyData.eqv d x || inFl x ds)
      rw [eqV_eqv a rx h.1 hx, inV_in rx hx b h.2]
theorem og_inn {neg : Bool} : OpG K (rIn K neg) (fun x y => (seqD y).bind fun ds => if flatD x && ds.all flatD then some (.bool (if neg then !inFl x ds else inFl x ds)) else none) := fun B M H s x y d e z hs hr rx ry e1 Q q => by
  obtain ⟨ds, e2, e1⟩ := bnd e1
  split at e1
  · rename_i hf
    rw [Bool.and_eq_true] at hf
    cases e1
    cases ry with
    | lst h hl r =>
      cases e2
      refine ⟨_, _, rfl, .inl (hs.seq h), rp_flat rx hf.1, rps_flat r hf.2, ?_⟩
      rw [inV_in rx hf.1 r hf.2]
      exact q _ H M (step_refl hs hr) (.bl _)
    | tup h hl r =>
      cases e2
      refine ⟨_, _, rfl, .inr (same_t hs h), rp_flat rx hf.1, rps_flat r hf.2, ?_⟩
      rw [inV_in rx hf.1 r hf.2]
      exact q _ H M (step_refl hs hr) (.bl _)
    | _ => cases e2
  · cases e1
theorem og_in : OpG K (rIn K false) inD := og_inn (neg := false)
theorem og_nin : OpG K (rIn K true) ninD := og_inn (neg := true)

/-! ### isinstance -/
def tyD : D → String
  | .none => "NoneType" | .bool _ => "bool" | .int _ => "int" | .str _ => "str" | .list _ => "list" | .tuple _ => "tuple" | .dict _ => "dict"
def isD (T : String) (d : D) : Option Bool := kitB (tyD d) T
def eIsI (T : String) (f : SE) : SE := fun ρ s => (f ρ s).bind fun x => (isD T x.1).bind fun b => some (.bool b, x.2)
def eIsI2 (T U : String) (f : SE) : SE := fun ρ s => (f ρ s).bind fun x => (isD T x.1).bind fun b => (isD U x.1).bind fun c => some (.bool (b || c), x.2)
theorem rp_ty {v : V} {d : D} (r : Rp K M v d) : TyX K M v (.type (tyD d)) := by
  cases r with
  | non => exact .base .non
  | bl b => exact .base (.bl b)
  | int i => exact .base (.int i)
  | str x => exact .base (.str x)
  | lst h hl r =>
    rcases h with (h | ⟨o, h⟩) | ⟨o, its, n, h, hc, _⟩
    · exact .base (.lst h)
    · exact .base (.frz h)
    · exact .kList h hc
  | tup h hl r =>
    rcases h with (h | ⟨o, h⟩) | ⟨o, its, n, h, hc, _⟩
    · exact .base (.tup h)
    · exact .fTuple h
    · exact .kTuple h hc
theorem gd_isi {T : String} (ha : GoodE K ta f) : GoodE K (tCB (rIsi K) (tCons ta (tCons (tC (.ty T)) tNil))) (eIsI T f) := fun B M H σ ρ s d s' o e Q q => by
  obtain ⟨⟨x, s1⟩, e1, e⟩ := bnd e
  obtain ⟨b, e2, e⟩ := bnd e
  cases e
  refine ha B M H σ ρ s x _ o e1 _ fun v H1 M1 t1 r1 => ?_
  exact ⟨v, _, _, _, b, rfl, .ty T, rp_ty (Rp.mono t1.sub _ _ r1), kit_ty e2, q _ H1 M1 t1 (.bl b)⟩
theorem gd_isi2 {T U : String} (ha : GoodE K ta f) : GoodE K (tCB (rIsiT K) (tCons ta (tCons (tTup (tCons (tC (.ty T)) (tCons (tC (.ty U)) tNil))) tNil))) (eIsI2 T U f) := fun B M H σ ρ s d s' o e Q q => by
  obtain ⟨⟨x, s1⟩, e1, e⟩ := bnd e
  obtain ⟨b, e2, e⟩ := bnd e
  obtain ⟨c, e3, e⟩ := bnd e
  cases e
  refine ha B M H σ ρ s x _ o e1 _ fun v H1 M1 t1 r1 => ⟨by show 2 ≤ sizeLine; rw [sizeLine_eq]; decide, fun p hp => ?_⟩
  have t2 := Step.lay (o := .tup [.ty T, .ty U]) t1.sub t1.row hp
  refine ⟨v, p, _, _, _, b || c, rfl, upd_same, .cons (.ty T) (.cons (.ty U) .nil), rp_ty (Rp.mono t2.sub _ _ r1), ?_, q _ _ M1 (t1.trans t2) (.bl _)⟩
  refine kitAny_cons (kit_ty e2) (fun hb => kitAny_cons (kit_ty e3) (fun hc => ?_) fun hc => ?_) fun hb => by rw [hb]; rfl
  · rw [hb, hc]; exact kitAny_nil
  · rw [hb, hc]; rfl
/-! ### len, tuple, list, int, min, sum -/
def eLen (fa : SA) : SE := fun ρ s => (fa ρ s).bind fun x => some (.int (x.1.length : Nat), x.2)
def rLenS (K : PySem.W.Frag) : List V → Hp → VK → Prop := fun xs H Q => ∃ p ys, xs = [.ref p] ∧ (SqL K H p ys ∨ SqT K H p ys) ∧ Q (.int ys.length) H
theorem gd_len (ha : GoodR K ta fa) : GoodE K (tCB (rLenS K) (tCons ta tNil)) (eLen fa) := fun B M H σ ρ s d s' o e Q q => by
  obtain ⟨⟨ds, s1⟩, e1, e⟩ := bnd e
  cases e
  refine ha B M H σ ρ s ds _ o e1 _ fun p vs H1 M1 t1 hs hl r1 => ?_
  refine ⟨p, vs, rfl, ?_, ?_⟩
  · rcases hs with hs | hs
    · exact .inl (hs H1 fun _ _ h _ => h)
    · exact .inr (hs H1 fun _ _ h _ => h)
  · rw [r1.length]
    exact q _ H1 M1 t1 (.int _)
/-- a list that can be read -/
def GoodQ (K : PySem.W.Frag) (te : TE) (f : SA) : Prop :=
  ∀ (B : Bx) (M H : Hp) (σ : L2.St) (ρ : Env) (s : Row) (ds : List D) (s' : Row), Ok K B M H σ ρ s → f ρ s = some (ds, s') → ∀ Q : VK,
    (∀ p vs H' M', Step K B M H M' H' s' → (∀ H2, Keep B H' H2 → SqL K H2 p vs) → vs.length ≤ lim → Rps K M' vs ds → Q (.ref p) H') → te σ H Q
def qE (f : SE) : SA := fun ρ s => (f ρ s).bind fun x => match x.1 with | .list ds => some (ds, x.2) | _ => none
def qVar (i : Nat) : SA := fun ρ s => match ρ[i]? with | some (.imm (.list ds)) => some (ds, s) | some (.own ds) => some (ds, s) | _ => none
theorem gq_l (ha : GoodL K te fa) : GoodQ K te fa := fun B M H σ ρ s ds s' o e Q q =>
  ha B M H σ ρ s ds s' o e _ fun p vs H1 M1 t1 hp hM hH hl r1 => q p vs H1 M1 t1 (fun H2 k => .inl (.inl (k p _ hH (o.rne hp)))) hl r1
theorem gq_e (ha : GoodE K te f) : GoodQ K te (qE f) := fun B M H σ ρ s ds s' o e Q q => by
  obtain ⟨⟨x, s1⟩, e1, e⟩ := bnd e
  refine ha B M H σ ρ s x _ o e1 _ fun v H1 M1 t1 r1 => ?_
  cases r1 with
  | lst h hl r => cases e; exact q _ _ H1 M1 t1 (fun H2 k => (keep_m t1.sub t1.row k).seq h) hl r
  | _ => cases e
theorem gq_var (i : Nat) : GoodQ K (tVar i) (qVar i) := fun B M H σ ρ s ds s' o e Q q => by
  unfold qVar at e
  split at e
  · rename_i d' e'
    cases e
    obtain ⟨v, e1, r⟩ := o.imm e'
    cases r with
    | lst h hl r => exact ⟨_, e1, q _ _ H M o.refl (fun H2 k => (keep_m o.sub o.row k).seq h) hl r⟩
  · rename_i d' e'
    cases e
    obtain ⟨p, vs, e1, h1, h2, h3, _, _, h6⟩ := o.own e'
    exact ⟨_, e1, q _ _ H M o.refl (fun H2 k => .inl (.inl (k p _ h1 h6))) h2 h3⟩
  · cases e
def eTupL (fa : SA) : SE := fun ρ s => (fa ρ s).bind fun x => some (.tuple x.1, x.2)
def rTupS (K : PySem.W.Frag) : List V → Hp → VK → Prop := fun xs H Q => ∃ p ys, xs = [.ref p] ∧ ((SqL K H p ys ∧ ∀ l, H l = none → Q (.ref l) (upd H l (.tup ys))) ∨ (SqT K H p ys ∧ Q (.ref p) H))
theorem gd_tupl (ha : GoodQ K ta fa) : GoodE K (tCB (rTupS K) (tCons ta tNil)) (eTupL fa) := fun B M H σ ρ s d s' o e Q q => by
  obtain ⟨⟨ds, s1⟩, e1, e⟩ := bnd e
  cases e
  refine ha B M H σ ρ s ds _ o e1 _ fun p vs H1 M1 t1 hs hl r1 => ?_
  refine ⟨p, vs, rfl, .inl ⟨hs H1 fun _ _ h _ => h, fun l hp => ?_⟩⟩
  have t2 := Step.new (o := .tup vs) t1.sub t1.row hp
  exact q _ _ _ (t1.trans t2) (.tup (.inl (.inl upd_same)) hl (Rps.mono t2.mm _ _ r1))
def eTupRng (f : SE) : SE := fun ρ s => (f ρ s).bind fun x => match x.1 with | .int n => if -1000000 ≤ n ∧ n ≤ 1000000 then some (.tuple (rngD 0 n), x.2) else none | _ => none
theorem rgV_rp (a b : Int) : Rps K M (rgV a b) (rngD a b) := by
  unfold rgV rngD
  induction (List.range (b - a).toNat) with
  | nil => exact .nil
  | cons x xs ih => exact .cons (.int _) ih
theorem gd_tuprng (ha : GoodE K ta f) : GoodE K (tTupRg (tRg1 ta)) (eTupRng f) := fun B M H σ ρ s d s' o e Q q => by
  obtain ⟨⟨x, s1⟩, e1, e⟩ := bnd e
  refine ha B M H σ ρ s x s1 o e1 _ fun v H1 M1 t1 r1 => ?_
  cases r1 with
  | int n =>
    simp only at e
    split at e
    · rename_i hn
      cases e
      have h62 := big62
      refine ⟨n, rfl, ⟨by omega, by omega, by omega, by omega, by omega⟩, fun l hp => ?_⟩
      have t2 := Step.new (o := .tup (rgV 0 n)) t1.sub t1.row hp
      exact q _ _ _ (t1.trans t2) (.tup (.inl (.inl upd_same)) (by rw [rgV_length]; unfold lim; omega) (rgV_rp _ _))
    · cases e
  | _ => cases e
def lListRng (f : SE) : SA := fun ρ s => (f ρ s).bind fun x => match x.1 with | .int n => if -1000000 ≤ n ∧ n ≤ 1000000 then some (rngD 0 n, x.2) else none | _ => none
theorem gl_listrng (ha : GoodE K ta f) : GoodL K (tLstRg (tRg1 ta)) (lListRng f) := fun B M H σ ρ s d s' o e Q q => by
  obtain ⟨⟨x, s1⟩, e1, e⟩ := bnd e
  refine ha B M H σ ρ s x s1 o e1 _ fun v H1 M1 t1 r1 => ?_
  cases r1 with
  | int n =>
    simp only at e
    split at e
    · rename_i hn
      obtain ⟨rfl, rfl⟩ : rngD 0 n = d ∧ s1 = s' := by cases e; exact ⟨rfl, rfl⟩
      have h62 := big62
      refine ⟨n, rfl, ⟨by omega, by omega, by omega, by omega, by omega⟩, fun l hp => ?_⟩
      have t2 := Step.lay (o := .lst (rgV 0 n)) t1.sub t1.row hp
      exact q l _ _ M1 (t1.trans t2) (t1.free hp) (t1.sub.free hp) upd_same (by rw [rgV_length]; unfold lim; omega) (rgV_rp _ _)
    · cases e
  | _ => cases e
def intD : D → Option D | .int i => some (.int i) | .bool b => some (.int (if b then 1 else 0)) | _ => none
def rInt1 : List V → Hp → VK → Prop := fun xs H Q => (∃ i, xs = [.int i] ∧ Q (.int i) H) ∨ ∃ k, xs = [.bl k] ∧ Q (.int (if k then 1 else 0)) H
theorem gd_int (ha : GoodE K ta f) : GoodE K (tCB rInt1 (tCons ta tNil)) (eUn intD f) := fun B M H σ ρ s d s' o e Q q => by
  obtain ⟨⟨x, s1⟩, e1, e⟩ := bnd e
  obtain ⟨z, e3, e⟩ := bnd e
  cases e
  refine ha B M H σ ρ s x _ o e1 _ fun v H1 M1 t1 r1 => ?_
  cases r1 with
  | int n => cases e3; exact .inl ⟨n, rfl, q _ H1 M1 t1 (.int _)⟩
  | bl b => cases e3; exact .inr ⟨b, rfl, q _ H1 M1 t1 (.int _)⟩
  | _ => cases e3
def minD : D → D → Option D := iiD fun a b => .int (if b < a then b else a)
def maxD : D → D → Option D := iiD fun a b => .int (if b > a then b else a)
def rMin2 : List V → Hp → VK → Prop := fun xs H Q => ∃ i j, xs = [.int i, .int j] ∧ Q (.int (if j < i then j else i)) H
theorem gd_min2 (ha : GoodE K ta f) (hb : GoodE K tb g) : GoodE K (tCB rMin2 (tCons ta (tCons tb tNil))) (eOp minD f g) := fun B M H σ ρ s d s' o e Q q => by
  obtain ⟨⟨x, s1⟩, e1, e⟩ := bnd e
  obtain ⟨⟨y, s2⟩, e2, e⟩ := bnd e
  obtain ⟨z, e3, e⟩ := bnd e
  cases e
  refine ha B M H σ ρ s x s1 o e1 _ fun v H1 M1 t1 r1 => ?_
  refine hb B M1 H1 σ ρ s1 y _ (o.step t1) e2 _ fun u H2 M2 t2 r2 => ?_
  cases r1 <;> cases r2 <;> first | (cases e3; done) | skip
  cases e3
  exact ⟨_, _, rfl, q _ H2 M2 (t1.trans t2) (.int _)⟩
def intsD : List D → Option (List Int)
  | [] => some []
  | .int n :: ds => (intsD ds).bind fun ns => some (n :: ns)
  | _ => none
theorem intsD_rp : ∀ {vs : List V} {ds : List D} {ns : List Int}, Rps K M vs ds → intsD ds = some ns → vs = ns.map V.int
  | _, [], ns, r, e => by cases r; cases e; rfl
  | _, d :: ds, ns, r, e => by
    cases r with
    | cons a b =>
      cases a <;> first | (cases e; done) | skip
      obtain ⟨ms, e1, e⟩ := bnd e
      cases e
      rw [intsD_rp b e1]; rfl
def eSum (fa : SA) : SE := fun ρ s => (fa ρ s).bind fun x => (intsD x.1).bind fun ns => some (.int ns.sum, x.2)
theorem gd_sum (ha : GoodQ K ta fa) : GoodE K (tCB (rSum K) (tCons ta tNil)) (eSum fa) := fun B M H σ ρ s d s' o e Q q => by
  obtain ⟨⟨ds, s1⟩, e1, e⟩ := bnd e
  obtain ⟨ns, e2, e⟩ := bnd e
  cases e
  refine ha B M H σ ρ s ds _ o e1 _ fun p vs H1 M1 t1 hs hl r1 => ?_
  have := intsD_rp r1 e2
  subst this
  exact ⟨p, ns, rfl, hs H1 fun _ _ h _ => h, q _ H1 M1 t1 (.int _)⟩
/-! ### slices -/
abbrev SO := Env → Row → Option (Option Int × Row)
def GoodO (K : PySem.W.Frag) (to : TO) (f : SO) : Prop :=
  ∀ (B : Bx) (M H : Hp) (σ : L2.St) (ρ : Env) (s : Row) (i : Option Int) (s' : Row), Ok K B M H σ ρ s → f ρ s = some (i, s') → ∀ Q : Option Int → Hp → Prop, (∀ H' M', Step K B M H M' H' s' → Q i H') → to σ H Q
def oNo : SO := fun _ s => some (none, s)
def oPart (f : SE) : SO := fun ρ s => (f ρ s).bind fun x => match x.1 with | .int i => some (some i, x.2) | _ => none
theorem go_no : GoodO K tNoPart oNo := fun B M H σ ρ s b s' o e Q q => by
  cases e
  exact q H M o.refl
theorem go_part (ha : GoodE K ta f) : GoodO K (tPart ta) (oPart f) := fun B M H σ ρ s b s' o e Q q => by
  obtain ⟨⟨x, s1⟩, e1, e⟩ := bnd e
  refine ha B M H σ ρ s x s1 o e1 _ fun v H1 M1 t1 r1 => ?_
  cases r1 with
  | int n => cases e; exact ⟨n, rfl, q H1 M1 t1⟩
  | _ => cases e
def cutD (ds : List D) (lo hi : Option Int) : List D := (ds.drop (HT.sIx ds.length 0 lo)).take (HT.sIx ds.length ds.length hi - HT.sIx ds.length 0 lo)
theorem rps_cut {vs : List V} {ds : List D} (r : Rps K M vs ds) (lo hi : Option Int) : Rps K M (cutV vs lo hi) (cutD ds lo hi) := by
  unfold cutV cutD
  rw [r.length]
  exact (r.drop _).take _
def eSl (f : SE) (fl fh : SO) : SE := fun ρ s => (f ρ s).bind fun x => (fl ρ x.2).bind fun l => (fh ρ l.2).bind fun u => match x.1 with | .tuple ds => some (.tuple (cutD ds l.1 u.1), u.2) | .list ds => some (.list (cutD ds l.1 u.1), u.2) | _ => none
def rSlB (K : PySem.W.Frag) : V → Option Int → Option Int → Hp → VK → Prop := fun x lo hi H Q => rSlA K x lo hi H Q ∨ rSlL K x lo hi H Q
theorem sl_b {X : Cx} : SlR X (rSlB X.K) := sl_tupA.or sl_list
theorem gd_sl {tl th : TO} {fl fh : SO} (ha : GoodE K ta f) (hl : GoodO K tl fl) (hh : GoodO K th fh) : GoodE K (tSl (rSlB K) ta tl th) (eSl f fl fh) := fun B M H σ ρ s d s' o e Q q => by
  obtain ⟨⟨x, s1⟩, e1, e⟩ := bnd e
  obtain ⟨⟨lo, s2⟩, e2, e⟩ := bnd e
  obtain ⟨⟨hi, s3⟩, e3, e⟩ := bnd e
  refine ha B M H σ ρ s x s1 o e1 _ fun v H1 M1 t1 r1 => ?_
  refine hl B M1 H1 σ ρ s1 lo s2 (o.step t1) e2 _ fun H2 M2 t2 => ?_
  refine hh B M2 H2 σ ρ s2 hi s3 ((o.step t1).step t2) e3 _ fun H3 M3 t3 => ?_
  have T := (t1.trans t2).trans t3
  have rr := Rp.mono (t2.mm.trans t3.mm) _ _ r1
  cases rr with
  | @tup a vs ds h hl' r =>
    cases e
    refine .inl ⟨_, _, rfl, same_t t3.sub h, fun hw => ?_, fun _ p hp => ?_⟩
    · have e0 : ∀ ds : List D, Rps K M3 _ ds → cutD ds lo hi = ds := fun ds r => by
        unfold cutD
        rw [← r.length, hw.1, hw.2]
        rw [List.drop_zero, Nat.sub_zero, r.length, List.take_length]
      have q' := q
      simp only [e0 _ r] at q'
      exact q' _ H3 M3 T (.tup h hl' r)
    · have t4 := Step.new (o := .tup (cutV vs lo hi)) t3.sub t3.row hp
      exact q _ _ _ (T.trans t4) (.tup (.inl (.inl upd_same)) (Nat.le_trans (cutV_length _ _ _) hl') (Rps.mono t4.mm _ _ (rps_cut r lo hi)))
  | @lst a vs ds h hl' r =>
    cases e
    refine .inr ⟨_, _, rfl, t3.sub.seq h, fun p hp => ?_⟩
    have t4 := Step.new (o := .lst (cutV vs lo hi)) t3.sub t3.row hp
    exact q _ _ _ (T.trans t4) (.lst (.inl (.inl upd_same)) (Nat.le_trans (cutV_length _ _ _) hl') (Rps.mono t4.mm _ _ (rps_cut r lo hi)))
  | _ => cases e
end
end DL

set_option maxHeartbeats 4000000
namespace L2
open PySem PySem.Spec PyProof.Rows
theorem tuple_mul1 (l : Addr) (items : Array Value) (n : Nat) (dd : Option Addr) (sl : Array (Option Value)) (x : Int) (u : Tok) (c0 : (decide (x < -(2 ^ 63)) || decide (x ≥ 2 ^ 63)) = false) (c1 : (items.isEmpty || x == 1) = true) :
    Meets (Builtin.«tuple.__mul__» ⟨[.ref l, .int x u], []⟩) (fun _ R s => s.heap.get? l = some { cls := .type "tuple", dict := dd, data := .seq items n, slots := sl } ∧ R (.ok (.ret (Value.ref l))) s) :=
  .of_wp fun prog w A R s h => by
    obtain ⟨hp, g, d, tk, os⟩ := s
    obtain ⟨hl, h⟩ := h
    have f1 := AutoSeq1.idx_int
    wp_walk using wpAny_loadPart' hl
    repeat (first
      | (refine wpAny_ite_false (decide_eq_false (by rw [c0]; exact Bool.false_ne_true)) ?_; wp_walk using wpAny_loadPart' hl)
      | (refine wpAny_ite_true (decide_eq_true c1) ?_; wp_walk using wpAny_loadPart' hl))
    exact ⟨_, rfl, h⟩
theorem tuple_mul0 (l : Addr) (items : Array Value) (n : Nat) (dd : Option Addr) (sl : Array (Option Value)) (x : Int) (u : Tok) (c0 : (decide (x < -(2 ^ 63)) || decide (x ≥ 2 ^ 63)) = false) (c1 : (items.isEmpty || x == 1) = false) (c2 : (decide (x ≤ 0) || items.isEmpty) = true) :
    Meets (Builtin.«tuple.__mul__» ⟨[.ref l, .int x u], []⟩) (fun _ R s => s.heap.get? l = some { cls := .type "tuple", dict := dd, data := .seq items n, slots := sl } ∧
      R (.ok (.ret (Value.ref s.heap.objs.size))) { s with heap := s.heap.push { cls := Value.type "tuple", data := Data.seq #[] }, toks := s.toks }) :=
  .of_wp fun prog w A R s h => by
    obtain ⟨hp, g, d, tk, os⟩ := s
    obtain ⟨hl, h⟩ := h
    have f1 := AutoSeq1.idx_int
    wp_walk using wpAny_loadPart' hl
    repeat (first
      | (refine wpAny_ite_false (decide_eq_false (by rw [c0]; exact Bool.false_ne_true)) ?_; wp_walk using wpAny_loadPart' hl)
      | (refine wpAny_ite_false (decide_eq_false (by rw [c1]; exact Bool.false_ne_true)) ?_; wp_walk using wpAny_loadPart' hl)
      | (refine wpAny_ite_true (decide_eq_true c2) ?_; wp_walk using wpAny_loadPart' hl))
    exact ⟨_, rfl, h⟩
end L2

namespace L2
open PySem PySem.Spec PyProof.Rows
/-- tuple * int, any -/
def rRepA (K : PySem.W.Frag) : R2 := fun x y H Q => ∃ l k xs, x = .ref l ∧ y = .int k ∧ SqT K H l xs ∧ -1000 ≤ k ∧ k ≤ 1000 ∧ xs.length ≤ 1000 ∧ (xs = [] ∨ k = 1 → Q (.ref l) H) ∧
  (xs ≠ [] → k ≠ 1 → ∀ p, H p = none → Q (.ref p) (upd H p (.tup (List.replicate k.toNat xs).flatten)))
theorem op_repA {X : Cx} : OpR X (binaryOp .Mult) (rRepA X.K) := by
  intro pins s σ H x y v u Q I rx ry h
  obtain ⟨l, k, xs, rfl, rfl, hT, h1, h2, hz, q1, q2⟩ := h
  by_cases hbig : xs ≠ [] ∧ 2 ≤ k
  · exact op_repT pins s σ H _ _ v u Q I rx ry ⟨l, k, xs, rfl, rfl, hT, hbig.1, hbig.2, h2, hz, q2 hbig.1 (by omega)⟩
  · cases rx
    obtain ⟨t, rfl⟩ := ry
    obtain ⟨its, r, ⟨⟨cls, dd, data, sl⟩, ho, hc, n, hd⟩, hs⟩ := I.tuple hT
    simp only at hc hd
    subst hc hd
    have hle : its.length = xs.length := r.length.symm
    have c0 : (decide (k < -(2 ^ 63)) || decide (k ≥ 2 ^ 63)) = false := by
      rw [decide_eq_false (by omega), decide_eq_false (by omega)] <;> rfl
    by_cases h1' : xs = [] ∨ k = 1
    · have c1 : (its.toArray.isEmpty || k == 1) = true := by
        rcases h1' with e | e
        · have : its = [] := List.eq_nil_of_length_eq_zero (by rw [hle, e]; rfl)
          subst this
          rfl
        · subst e; simp
      refine wpAny_binaryOp_repeat_ref (T := "tuple") (U := "int") (by decide) ⟨_, ho, rfl⟩ (fun s' => typeIs_int s' k t) noFill_tuple_mul F.fills_int_mul F.slot_int_rmul repeat_tuple F.slot_int_index.lookup
        (call_meets F.slot_int_rmul (typeIs_int s k t) F.entry_int_rmul (F.args_int_rmul_2 _ _) (int_rmul_tuple k t l its.toArray n dd sl)
          ⟨ho, rfl, ⟨_, ho, rfl⟩, call_meets F.slot_tuple_mul ⟨_, ho, rfl⟩ F.entry_tuple_mul (F.args_tuple_mul_2 _ _) (tuple_mul1 l its.toArray n dd sl k t c0 c1) ⟨ho, ?_⟩⟩)
      exact ⟨.ref l, H, I, rfl, q1 h1'⟩
    · have hne : xs ≠ [] := fun e => h1' (.inl e)
      have hk1 : k ≠ 1 := fun e => h1' (.inr e)
      have hk : k ≤ 0 := by
        rcases Int.lt_or_le 0 k with h | h
        · exact absurd ⟨hne, by omega⟩ hbig
        · exact h
      have hi : its.toArray.isEmpty = false := by
        cases its with
        | nil => exact absurd (List.eq_nil_of_length_eq_zero (by rw [← hle]; rfl)) hne
        | cons a b => rfl
      have c1 : (its.toArray.isEmpty || k == 1) = false := by
        rw [hi, Bool.false_or]
        exact beq_eq_false_iff_ne.mpr hk1
      have c2 : (decide (k ≤ 0) || its.toArray.isEmpty) = true := by
        rw [decide_eq_true hk]; rfl
      refine wpAny_binaryOp_repeat_ref (T := "tuple") (U := "int") (by decide) ⟨_, ho, rfl⟩ (fun s' => typeIs_int s' k t) noFill_tuple_mul F.fills_int_mul F.slot_int_rmul repeat_tuple F.slot_int_index.lookup
        (call_meets F.slot_int_rmul (typeIs_int s k t) F.entry_int_rmul (F.args_int_rmul_2 _ _) (int_rmul_tuple k t l its.toArray n dd sl)
          ⟨ho, rfl, ⟨_, ho, rfl⟩, call_meets F.slot_tuple_mul ⟨_, ho, rfl⟩ F.entry_tuple_mul (F.args_tuple_mul_2 _ _) (tuple_mul0 l its.toArray n dd sl k t c0 c1 c2) ⟨ho, ?_⟩⟩)
      have ek : k.toNat = 0 := by omega
      have q2' := q2 hne hk1 _ (I.hok.fresh (Nat.le_refl _))
      rw [ek] at q2'
      exact ⟨.ref s.heap.objs.size, _, I.laid (t' := s.toks) (o := .tup []) (fun b ob q => Heap.get?_push_of_some _ q) (Nat.le_refl _) ⟨Nat.zero_le _, [], .nil, IsTup.new _ _⟩, rfl, q2'⟩
end L2
namespace DL
open PySem PySem.Spec PyProof.Rows L2
def mulD : D → D → Option D := fun x y => match x, y with
  | .int a, .int b => mulI (.int a) (.int b)
  | .tuple a, .int k => if a.length ≤ 1000 ∧ -1000 ≤ k ∧ k ≤ 1000 then some (.tuple (List.replicate k.toNat a).flatten) else none
  | _, _ => none
def rMulA (K : PySem.W.Frag) : R2 := fun x y H Q => rI CMul (fun i j => .int (i * j)) x y H Q ∨ rRepA K x y H Q
theorem op_mulA {X : Cx} : OpR X (binaryOp .Mult) (rMulA X.K) := op_mul.or op_repA
theorem og_mulA {K : PySem.W.Frag} : OpG K (rMulA K) mulD := fun B M H s x y d e z hs hr rx ry e1 Q q => by
  cases rx <;> cases ry <;> first | (cases e1; done) | skip
  · exact .inl (og_mul B M H s _ _ _ _ z hs hr (.int _) (.int _) e1 Q q)
  · simp only [mulD] at e1
    split at e1
    · rename_i a vs ds ha hl r k h
      cases e1
      have hlen : ∀ m : Nat, m ≤ 1000 → (List.replicate m vs).flatten.length ≤ lim := fun m hm => by
        rw [PyProof.Rows.lm_len_rep_flat, r.length]
        have : m * ds.length ≤ 1000 * 1000 := Nat.mul_le_mul hm h.1
        exact Nat.le_trans this (by unfold lim; omega)
      refine .inr ⟨a, k, vs, rfl, rfl, same_t hs ha, h.2.1, h.2.2, by rw [r.length]; exact h.1, fun h1 => ?_, fun n1 n2 p hp => ?_⟩
      · have e0 : (List.replicate k.toNat ds).flatten = ds := by
          rcases h1 with e | e
          · subst e
            cases r
            simp
          · subst e
            simp
        rw [e0] at q
        exact q _ H M (step_refl hs hr) (.tup ha hl r)
      · have t := Step.new (o := .tup (List.replicate k.toNat vs).flatten) hs hr hp
        exact q _ _ _ t (.tup (.inl (.inl upd_same)) (hlen _ (by omega)) (Rps.mono t.mm _ _ (r.rep _)))
    · cases e1
end DL

set_option maxHeartbeats 1000000
namespace DL
open PySem PySem.Spec PyProof.Rows L2
/-! ### statements -/
/-- an error: its class, its fields -/
structure Ex where
  cls : Str
  fs : List (Str × D)
inductive Out where
  | nx (ρ : Env) (s : Row) | rt (d : D) (s : Row) | rl (ds : List D) (s : Row) | bk (ρ : Env) (s : Row) | ct (ρ : Env) (s : Row) | rd (t : OT) (s : Row) | ex (e : Ex) (ρ : Env) (s : Row)
/-- what is wanted of an error: the module's names, the wish -/
structure Wish where
  mg : Str → Option Value
  W : WX
def ExR (K : PySem.W.Frag) (mg : Str → Option Value) (M : Hp) (cls : Value) (d : Option Addr) (e : Ex) : Prop :=
  mg e.cls = some cls ∧ ((e.fs = [] ∧ d = none) ∨ e.fs ≠ [] ∧ ∃ a fvs, d = some a ∧ M a = some (.xd fvs) ∧ fvs.map (·.1) = e.fs.map (·.1) ∧ Rps K M (fvs.map (·.2)) (e.fs.map (·.2)))
abbrev SS := Env → Row → Option Out
def OutOk (K : PySem.W.Frag) (W : Wish) (B : Bx) (D : Ends) : Out → Prop
  | .nx ρ s => ∀ σ H M, Ok K B M H σ ρ s → D.nx σ H
  | .rt d s => ∀ v H M, Ok K B M H [] [] s → Rp K M v d → D.rt v H
  | .rl ds s => ∀ p vs H M, Ok K B M H [] [] s → H p = some (.lst vs) → M p = none → B.H0 p = none → ¬ B.r.mem p → vs.length ≤ lim → Rps K M vs ds → D.rt (.ref p) H
  | .bk ρ s => ∀ σ H M, Ok K B M H σ ρ s → D.bk σ H
  | .ct ρ s => ∀ σ H M, Ok K B M H σ ρ s → D.ct σ H
  | .rd t s => ∀ v H M, Ok K B M H [] [] s → OwP K M H v t → (foot H v t).Nodup → (∀ a ∈ foot H v t, M a = none ∧ B.H0 a = none ∧ ¬ B.r.mem a) → D.rt v H
  | .ex e ρ s => ∀ cls d σ H M, Ok K B M H σ ρ s → ExR K W.mg M cls d e → W.W cls d σ H
def GoodS (K : PySem.W.Frag) (W : Wish) (ts : TS) (f : SS) : Prop :=
  ∀ (B : Bx) (M H : Hp) (σ : L2.St) (ρ : Env) (s : Row) (o : Out), Ok K B M H σ ρ s → f ρ s = some o → ∀ D : Ends, OutOk K W B D o → ts D σ H
def sNext : SS := fun ρ s => some (.nx ρ s)
def sSeq (f g : SS) : SS := fun ρ s => (f ρ s).bind fun o => match o with
  | .nx ρ' s' => g ρ' s'
  | .rt d s' => some (.rt d s') | .rl d s' => some (.rl d s') | .bk a s' => some (.bk a s') | .ct a s' => some (.ct a s') | .rd d s' => some (.rd d s') | .ex e a s' => some (.ex e a s')
def sIf (c : SB) (f g : SS) : SS := fun ρ s => (c ρ s).bind fun b => if b.1 then f ρ b.2 else g ρ b.2
def sRet (f : SE) : SS := fun ρ s => (f ρ s).bind fun x => some (.rt x.1 x.2)
def sRetL (f : SA) : SS := fun ρ s => (f ρ s).bind fun x => some (.rl x.1 x.2)
def sRetOwn (i : Nat) : SS := fun ρ s => match ρ[i]? with | some (.own ds) => some (.rl ds s) | _ => none
def sRetN : SS := fun ρ s => some (.rt .none s)
def sSet (i : Nat) (f : SE) : SS := fun ρ s => (f ρ s).bind fun x => some (.nx (ρ.set i (.imm x.1)) x.2)
def sSetL (i : Nat) (f : SA) : SS := fun ρ s => (f ρ s).bind fun x => some (.nx (ρ.set i (.own x.1)) x.2)
def sMove (i j : Nat) : SS := fun ρ s => match ρ[j]? with | some (.own ds) => if i = j then none else some (.nx ((ρ.set j .dead).set i (.own ds)) s) | _ => none
def sTgt (h : SG) (f : SE) : SS := fun ρ s => (f ρ s).bind fun x => (h x.1 ρ).bind fun ρ' => some (.nx ρ' x.2)
def sPar (i j : Nat) (f g : SE) : SS := fun ρ s => (f ρ s).bind fun x => (g ρ x.2).bind fun y => some (.nx ((ρ.set i (.imm x.1)).set j (.imm y.1)) y.2)
def sDrop (f : SE) : SS := fun ρ s => (f ρ s).bind fun x => some (.nx ρ x.2)
def sApp (i : Nat) (f : SE) : SS := fun ρ s => (f ρ s).bind fun x => match ρ[i]? with | some (.own ds) => if ds.length < lim then some (.nx (ρ.set i (.own (ds ++ [x.1]))) x.2) else none | _ => none
def sExt (i : Nat) (f : SA) : SS := fun ρ s => (f ρ s).bind fun x => match ρ[i]? with | some (.own ds) => if ds.length + x.1.length ≤ lim then some (.nx (ρ.set i (.own (ds ++ x.1))) x.2) else none | _ => none
def intOf : D → Option Int | .int k => some k | _ => none
def ownAt (ρ : Env) (i : Nat) : Option (List D) := match ρ[i]? with | some (.own ds) => some ds | _ => none
def isRow (ρ : Env) (i : Nat) : Option Unit := match ρ[i]? with | some .row => some () | _ => none
theorem ownAt_eq {ρ : Env} {i : Nat} {ds : List D} (h : ownAt ρ i = some ds) : ρ[i]? = some (.own ds) := by
  unfold ownAt at h
  split at h
  · cases h; assumption
  · cases h
theorem isRow_eq {ρ : Env} {i : Nat} {u : Unit} (h : isRow ρ i = some u) : ρ[i]? = some .row := by
  unfold isRow at h
  split at h
  · assumption
  · cases h
theorem intOf_eq {d : D} {k : Int} (h : intOf d = some k) : d = .int k := by
  cases d <;> first | (cases h; done) | (cases h; rfl)
def sOwnSet (i : Nat) (g f : SE) : SS := fun ρ s => (f ρ s).bind fun x => (g ρ x.2).bind fun y => (ownAt ρ i).bind fun ds => (intOf y.1).bind fun k => (ixN ds.length k).bind fun j => some (.nx (ρ.set i (.own (ds.set j x.1))) y.2)
def sRowSet (i : Nat) (g f : SE) : SS := fun ρ s => (f ρ s).bind fun x => (g ρ x.2).bind fun y => (isRow ρ i).bind fun _ => (intOf y.1).bind fun k => (ixN y.2.length k).bind fun j => some (.nx ρ (y.2.set j x.1))
def frzE (i : Nat) (ρ : Env) : Env := match ρ[i]? with | some (.own ds) => ρ.set i (.imm (.list ds)) | some (.deep t) => ρ.set i (.imm t.data) | _ => ρ
def sFrz (i : Nat) (f : SS) : SS := fun ρ s => f (frzE i ρ) s
def forL (h : SG) (body : SS) : List D → SS
  | [], ρ, s => some (.nx ρ s)
  | d :: ds, ρ, s => (h d ρ).bind fun ρ1 => (body ρ1 s).bind fun o => match o with
    | .nx ρ2 s2 => forL h body ds ρ2 s2
    | .ct ρ2 s2 => forL h body ds ρ2 s2
    | .bk ρ2 s2 => some (.nx ρ2 s2)
    | .rt d s2 => some (.rt d s2)
    | .rl d s2 => some (.rl d s2)
    | .rd d s2 => some (.rd d s2)
    | .ex e ρ2 s2 => some (.ex e ρ2 s2)
def sFor (fi : SA) (h : SG) (body : SS) : SS := fun ρ s => (fi ρ s).bind fun x => forL h body x.1 ρ x.2
def whileL (c : SB) (body : SS) : Nat → SS
  | 0, _, _ => none
  | n + 1, ρ, s => (c ρ s).bind fun b => if b.1 then (body ρ b.2).bind fun o => match o with
    | .nx ρ2 s2 => whileL c body n ρ2 s2
    | .ct ρ2 s2 => whileL c body n ρ2 s2
    | .bk ρ2 s2 => some (.nx ρ2 s2)
    | .rt d s2 => some (.rt d s2)
    | .rl d s2 => some (.rl d s2)
    | .rd d s2 => some (.rd d s2)
    | .ex e ρ2 s2 => some (.ex e ρ2 s2) else some (.nx ρ b.2)
def sNone : SS := fun _ _ => none
def eRowIx (i : Nat) (g : SE) : SE := fun ρ s => (g ρ s).bind fun y => (isRow ρ i).bind fun _ => (intOf y.1).bind fun k => (atI y.2 k).bind fun z => some (z, y.2)
section
variable {K : PySem.W.Frag} {W : Wish} {B : Bx} {M H M' H' M2 H2 : Hp} {σ : L2.St} {ρ : Env} {s s' s2 : Row} {ta tb tc te tl : TE} {tt : TT} {t u : TS} {f g k : SE} {fa ga : SA} {fb gb : SB} {sf sg : SS}
theorem gs_next : GoodS K W tNext sNext := fun B M H σ ρ s o ok e D q => by
  cases e
  exact q σ H M ok
theorem gs_never : GoodS K W tNever sNone := fun B M H σ ρ s o ok e D q => by cases e
theorem gs_seq (a : GoodS K W t sf) (b : GoodS K W u sg) : GoodS K W (tSeq t u) (sSeq sf sg) := fun B M H σ ρ s o ok e D q => by
  obtain ⟨o1, e1, e⟩ := bnd e
  refine a B M H σ ρ s o1 ok e1 _ ?_
  cases o1 with
  | nx ρ1 s1 => exact fun σ1 H1 M1 ok1 => b B M1 H1 σ1 ρ1 s1 o ok1 e D q
  | rt d s1 => cases e; exact q
  | rl d s1 => cases e; exact q
  | bk a s1 => cases e; exact q
  | ct a s1 => cases e; exact q
  | rd a s1 => cases e; exact q
  | ex x a s1 => cases e; exact q
theorem gs_if (c : GoodB K tt fb) (a : GoodS K W t sf) (b : GoodS K W u sg) : GoodS K W (tIfS tt t u) (sIf fb sf sg) := fun B M H σ ρ s o ok e D q => by
  obtain ⟨⟨x, s1⟩, e1, e⟩ := bnd e
  refine c B M H σ ρ s x s1 ok e1 _ fun H1 M1 t1 => ?_
  cases x with
  | true => exact a B M1 H1 σ ρ s1 o (ok.step t1) e D q
  | false => exact b B M1 H1 σ ρ s1 o (ok.step t1) e D q
theorem Ok.bare (o : Ok K B M H σ ρ s) : Ok K B M H [] [] s := ⟨o.sub, o.ext, o.keep, o.fresh, o.row, rfl, fun i x e => by simp at e, fun i j x y a _ e => by simp at e⟩
theorem gs_ret (a : GoodE K te f) : GoodS K W (tRet te) (sRet f) := fun B M H σ ρ s o ok e D q => by
  obtain ⟨⟨x, s1⟩, e1, e⟩ := bnd e
  cases e
  exact a B M H σ ρ s x s1 ok e1 _ fun v H1 M1 t1 r1 => q v H1 M1 (ok.step t1).bare r1
theorem Ok.hfree (o : Ok K B M H σ ρ s) {p : Addr} (hp : H p = none) : B.H0 p = none := by
  cases z : B.H0 p with
  | none => rfl
  | some w =>
    rw [o.keep p w z (o.rne hp)] at hp
    cases hp
theorem gs_retL (a : GoodL K te fa) : GoodS K W (tRet te) (sRetL fa) := fun B M H σ ρ s o ok e D q => by
  obtain ⟨⟨x, s1⟩, e1, e⟩ := bnd e
  cases e
  exact a B M H σ ρ s x s1 ok e1 _ fun p vs H1 M1 t1 h1 h2 h3 h4 r1 => q p vs H1 M1 (ok.step t1).bare h3 h2 (ok.hfree h1) (ok.rne h1) h4 r1
theorem gs_retOwn (i : Nat) : GoodS K W (tRet (tVar i)) (sRetOwn i) := fun B M H σ ρ s o ok e D q => by
  unfold sRetOwn at e
  split at e
  · rename_i ds e'
    cases e
    obtain ⟨p, vs, e1, h1, h2, h3, h4, h5, h6⟩ := ok.own e'
    exact ⟨_, e1, q p vs H M ok.bare h1 h4 h5 h6 h2 h3⟩
  · cases e
theorem gs_retN : GoodS K W tRetN sRetN := fun B M H σ ρ s o ok e D q => by
  cases e
  exact q _ H M ok.bare .non
theorem gs_set (i : Nat) (a : GoodE K te f) : GoodS K W (tAsg te (gName i)) (sSet i f) := fun B M H σ ρ s o ok e D q => by
  obtain ⟨⟨x, s1⟩, e1, e⟩ := bnd e
  cases e
  exact a B M H σ ρ s x s1 ok e1 _ fun v H1 M1 t1 r1 => q _ H1 M1 ((ok.step t1).set i r1)
/-- a list of one's own goes into a slot -/
theorem Ok.setOwn (o : Ok K B M H σ ρ s) (i : Nat) {p : Addr} {vs : List V} {ds : List D} (h1 : H p = some (.lst vs)) (h2 : vs.length ≤ lim) (h3 : Rps K M vs ds) (h4 : M p = none) (h5 : B.H0 p = none) (h6 : ¬ B.r.mem p)
    (ha : ∀ (j : Nat) (z : Sl), j ≠ i → ρ[j]? = some z → p ∉ footS H (σ[j]?.join) z) : Ok K B M H (σ.set i (some (.ref p))) (ρ.set i (.own ds)) s :=
  o.put i _ _ ⟨vs, h1, h2, h3, h4, h5, h6⟩ fun j z a hj hz e1 e2 => by
    have : a = p := by simpa [footS] using e1
    subst this
    exact ha j z hj hz e2
/-- what is new is in no slot -/
theorem Ok.newFoot (o : Ok K B M H σ ρ s) {p : Addr} (hp : H p = none) {M' H' : Hp} {s' : Row} (t : Step K B M H M' H' s') : ∀ (j : Nat) (z : Sl), ρ[j]? = some z → p ∉ footS H' (σ[j]?.join) z := fun j z e h => by
  have ks : ∀ a ∈ footS H (σ[j]?.join) z, H' a = H a := fun a ha => by
    obtain ⟨_, _, h3, w, h4⟩ := slot_foot (o.slots j z e) a ha
    rw [t.keep a w h4 h3, h4]
  rw [footS_same (o.slots j z e) ks] at h
  obtain ⟨_, _, _, w, h4⟩ := slot_foot (o.slots j z e) p h
  rw [hp] at h4; cases h4
theorem gs_setL (i : Nat) (a : GoodL K te fa) : GoodS K W (tAsg te (gName i)) (sSetL i fa) := fun B M H σ ρ s o ok e D q => by
  obtain ⟨⟨x, s1⟩, e1, e⟩ := bnd e
  cases e
  refine a B M H σ ρ s x s1 ok e1 _ fun p vs H1 M1 t1 h1 h2 h3 h4 r1 => ?_
  exact q _ H1 M1 ((ok.step t1).setOwn i h3 h4 r1 h2 (ok.hfree h1) (ok.rne h1) fun j z hj e2 => ok.newFoot h1 t1 j z e2)
theorem gs_move (i j : Nat) : GoodS K W (tAsg (tVar j) (gName i)) (sMove i j) := fun B M H σ ρ s o ok e D q => by
  unfold sMove at e
  split at e
  · rename_i ds e'
    split at e
    · cases e
    · rename_i hij
      cases e
      obtain ⟨p, vs, e1, h1, h2, h3, h4, h5, h6⟩ := ok.own e'
      refine ⟨_, e1, ?_⟩
      have hj : j < σ.length := (List.getElem?_eq_some_iff.mp e1).1
      have ok1 := ok.kill j (some (.ref p))
      have es : σ.set j (some (.ref p)) = σ := by
        apply List.ext_getElem?
        intro n
        by_cases hn : j = n
        · subst hn; rw [List.getElem?_set_self hj, e1]
        · rw [List.getElem?_set_ne hn]
      rw [es] at ok1
      refine q _ H M (ok1.setOwn i h1 h2 h3 h4 h5 h6 fun m es hm e2 e3 => ?_)
      by_cases hmj : j = m
      · subst hmj
        rw [List.getElem?_set_self (by rw [← ok.len]; exact hj)] at e2
        cases e2
        rw [footS_dead] at e3
        cases e3
      · rw [List.getElem?_set_ne hmj] at e2
        exact ok.apart m j es _ p (fun z => hmj z.symm) e2 e' e3 (by rw [e1]; simp [footS])
  · cases e
theorem gs_tgt {tg : TG} {h : SG} {ws : List Nat} (a : GoodE K te f) (hg : GoodG K tg h ws) : GoodS K W (tAsg te tg) (sTgt h f) := fun B M H σ ρ s o ok e D q => by
  obtain ⟨⟨x, s1⟩, e1, e⟩ := bnd e
  obtain ⟨ρ1, e2, e⟩ := bnd e
  cases e
  refine a B M H σ ρ s x s1 ok e1 _ fun v H1 M1 t1 r1 => ?_
  exact hg B M1 H1 σ ρ ρ1 s1 v x (ok.step t1) r1 e2 _ fun σ1 ok1 _ => q σ1 H1 M1 ok1
theorem gs_par {i j : Nat} (a : GoodE K ta f) (b : GoodE K tb g) : GoodS K W (tPar i j (tCons ta (tCons tb tNil))) (sPar i j f g) := fun B M H σ ρ s o ok e D q => by
  obtain ⟨⟨x, s1⟩, e1, e⟩ := bnd e
  obtain ⟨⟨y, s2⟩, e2, e⟩ := bnd e
  cases e
  refine a B M H σ ρ s x s1 ok e1 _ fun v H1 M1 t1 r1 => ?_
  refine b B M1 H1 σ ρ s1 y s2 (ok.step t1) e2 _ fun w H2 M2 t2 r2 => ?_
  exact ⟨v, w, rfl, q _ H2 M2 ((((ok.step t1).step t2).set i (Rp.mono t2.mm _ _ r1)).set j r2)⟩
theorem gs_drop (a : GoodE K te f) : GoodS K W (tDrop te) (sDrop f) := fun B M H σ ρ s o ok e D q => by
  obtain ⟨⟨x, s1⟩, e1, e⟩ := bnd e
  cases e
  exact a B M H σ ρ s x s1 ok e1 _ fun v H1 M1 t1 r1 => q _ H1 M1 (ok.step t1)
/-- the heap is changed at a place that one slot holds -/
theorem Ok.change (o : Ok K B M H σ ρ s) {i : Nat} {x y : Sl} {p : Addr} {w : HO} (e' : ρ[i]? = some x) (hp : p ∈ footS H (σ[i]?.join) x) (hy : SlotOk K B M (upd H p w) (σ[i]?.join) y) (hf : ∀ a ∈ footS (upd H p w) (σ[i]?.join) y, a ∈ footS H (σ[i]?.join) x) :
    Ok K B M (upd H p w) σ (ρ.set i y) s := by
  obtain ⟨h4, h5, h6, w0, h1⟩ := slot_foot (o.slots i x e') p hp
  have hi : i < ρ.length := (List.getElem?_eq_some_iff.mp e').1
  have same : ∀ (j : Nat) (z : Sl), i ≠ j → ρ[j]? = some z → ∀ a ∈ footS H (σ[j]?.join) z, upd H p w a = H a := fun j z hj e a ha => by
    have : a ≠ p := fun q => by
      subst q
      exact o.apart i j x z a hj e' e hp ha
    rw [upd_ne this]
  have self : ∀ u, (ρ.set i y)[i]? = some u → u = y := fun u e => by
    rw [List.getElem?_set_self hi] at e
    cases e; rfl
  refine ⟨fun a u h => ?_, o.ext, fun a u h hr => ?_, o.fresh, ?_, by rw [List.length_set]; exact o.len, fun j z e => ?_, fun j k u z a hjk e1 e2 a1 a2 => ?_⟩
  · rw [upd_ne (ne_of_none h h4)]; exact o.sub a u h
  · rw [upd_ne (ne_of_none h h5)]; exact o.keep a u h hr
  · exact B.r.keep o.row (fun _ _ h => h) (fun a ha => (B.r.live o.row ha).1) (fun a u ha h => by
      have : a ≠ p := fun z => h6 (by rw [← z]; exact ha)
      rw [upd_ne this]; exact h) (codeKept_upd fun u hu => slot_code (o.slots i x e') p hp u hu)
  · by_cases hj : i = j
    · subst hj
      rw [self z e]
      exact hy
    · rw [List.getElem?_set_ne hj] at e
      exact slot_mono (o.slots j z e) (fun _ _ h => h) (same j z hj e) fun a ha => (slot_foot (o.slots j z e) a ha).1
  · have at_ : ∀ (m : Nat) (v : Sl), i ≠ m → (ρ.set i y)[m]? = some v → a ∈ footS (upd H p w) (σ[m]?.join) v → ρ[m]? = some v ∧ a ∈ footS H (σ[m]?.join) v := fun m v hm e h => by
      rw [List.getElem?_set_ne hm] at e
      rw [footS_same (o.slots m v e) (same m v hm e)] at h
      exact ⟨e, h⟩
    by_cases h1 : i = j
    · subst h1
      have := self u e1
      subst this
      obtain ⟨e2, a2⟩ := at_ k z hjk e2 a2
      exact o.apart i k x z a hjk e' e2 (hf a a1) a2
    · by_cases h2 : i = k
      · subst h2
        have := self z e2
        subst this
        obtain ⟨e1, a1⟩ := at_ j u h1 e1 a1
        exact o.apart j i u x a hjk e1 e' a1 (hf a a2)
      · obtain ⟨e1, a1⟩ := at_ j u h1 e1 a1
        obtain ⟨e2, a2⟩ := at_ k z h2 e2 a2
        exact o.apart j k u z a hjk e1 e2 a1 a2
/-- the list of a slot is changed -/
theorem Ok.write (o : Ok K B M H σ ρ s) {i : Nat} {p : Addr} {ds es : List D} {us : List V} (e' : ρ[i]? = some (.own ds)) (e1 : σ[i]? = some (some (.ref p))) (hl : us.length ≤ lim) (r : Rps K M us es) :
    Ok K B M (upd H p (.lst us)) σ (ρ.set i (.own es)) s := by
  obtain ⟨p', vs, q1, h1, h2, h3, h4, h5, h6⟩ := o.own e'
  rw [e1] at q1
  cases q1
  refine o.change e' (by rw [e1]; simp [footS]) ?_ ?_
  · rw [e1]; exact ⟨us, upd_same, hl, r, h4, h5, h6⟩
  · rw [e1]; intro a ha; simpa [footS] using ha
theorem gs_app (i : Nat) (a : GoodE K te f) : GoodS K W (tDrop (tBM K "list" rAppend (tVar i) (tCons te tNil))) (sApp i f) := fun B M H σ ρ s o ok e D q => by
  obtain ⟨⟨x, s1⟩, e1, e⟩ := bnd e
  simp only at e
  split at e
  · rename_i ds e'
    split at e
    · rename_i hl
      cases e
      obtain ⟨p, vs, e2, h1, h2, h3, h4, h5, h6⟩ := ok.own e'
      refine ⟨_, e2, .inl ⟨rfl, _, .inl (.inl h1)⟩, ?_⟩
      refine a B M H σ ρ s x s1 ok e1 _ fun v H1 M1 t1 r1 => ?_
      have hv : vs.length < lim := by rw [h3.length]; exact hl
      refine ⟨p, vs, v, rfl, rfl, t1.keep p _ h1 h6, lim_lt hv, ?_⟩
      exact q σ _ M1 ((ok.step t1).write e' e2 (by rw [List.length_append]; simp; omega) (Rps.append (Rps.mono t1.mm _ _ h3) (.cons r1 .nil)))
    · cases e
  · cases e
theorem gs_ext (i : Nat) (a : GoodL K te fa) : GoodS K W (tDrop (tBM K "list" rExtend (tVar i) (tCons te tNil))) (sExt i fa) := fun B M H σ ρ s o ok e D q => by
  obtain ⟨⟨x, s1⟩, e1, e⟩ := bnd e
  simp only at e
  split at e
  · rename_i ds e'
    split at e
    · rename_i hl
      cases e
      obtain ⟨p, vs, e2, h1, h2, h3, h4, h5, h6⟩ := ok.own e'
      refine ⟨_, e2, .inl ⟨rfl, _, .inl (.inl h1)⟩, ?_⟩
      refine a B M H σ ρ s x s1 ok e1 _ fun b us H1 M1 t1 g1 g2 g3 g4 r1 => ?_
      have hv : vs.length + us.length ≤ lim := by rw [h3.length, r1.length]; exact hl
      refine ⟨p, b, vs, us, rfl, rfl, t1.keep p _ h1 h6, g3, lim_le hv, ?_⟩
      exact q σ _ M1 ((ok.step t1).write e' e2 (by rw [List.length_append]; exact hv) (Rps.append (Rps.mono t1.mm _ _ h3) r1))
    · cases e
  · cases e
theorem gs_ownSet (i : Nat) (b : GoodE K tb g) (a : GoodE K ta f) : GoodS K W (tAsg ta (gSub (tVar i) tb rSetL)) (sOwnSet i g f) := fun B M H σ ρ s o ok e D q => by
  obtain ⟨⟨x, s1⟩, e1, e⟩ := bnd e
  obtain ⟨⟨y, s2⟩, e2, e⟩ := bnd e
  obtain ⟨ds, e', e⟩ := bnd e
  obtain ⟨k, ek, e⟩ := bnd e
  obtain ⟨j, e3, e⟩ := bnd e
  have e' := ownAt_eq e'
  have ek := intOf_eq ek
  cases e
  simp only at ek
  subst ek
  refine a B M H σ ρ s x s1 ok e1 _ fun v H1 M1 t1 r1 => ?_
  obtain ⟨p, vs, e4, h1, h2, h3, h4, h5, h6⟩ := ok.own e'
  refine ⟨_, e4, ?_⟩
  refine b B M1 H1 σ ρ s1 _ s2 (ok.step t1) e2 _ fun w H2 M2 t2 r2 => ?_
  cases r2 with
  | int k =>
    refine ⟨p, vs, k, j, rfl, rfl, t2.keep p _ (t1.keep p _ h1 h6) h6, by rw [h3.length]; exact e3, ?_⟩
    exact q σ _ M2 (((ok.step t1).step t2).write e' e4 (by rw [List.length_set]; exact h2) (Rps.set j (Rp.mono t2.mm _ _ r1) (Rps.mono (t1.mm.trans t2.mm) _ _ h3)))
theorem gs_rowSet (i : Nat) (b : GoodE K tb g) (a : GoodE K ta f) : GoodS K W (tAsg ta (gSub (tVar i) tb rSetL)) (sRowSet i g f) := fun B M H σ ρ s o ok e D q => by
  obtain ⟨⟨x, s1⟩, e1, e⟩ := bnd e
  obtain ⟨⟨y, s2⟩, e2, e⟩ := bnd e
  obtain ⟨_, e', e⟩ := bnd e
  obtain ⟨k, ek, e⟩ := bnd e
  obtain ⟨j, e3, e⟩ := bnd e
  have e' := isRow_eq e'
  have ek := intOf_eq ek
  cases e
  simp only at ek
  subst ek
  refine a B M H σ ρ s x s1 ok e1 _ fun v H1 M1 t1 r1 => ?_
  obtain ⟨p, e4, hr⟩ := ok.rowAt e'
  refine ⟨_, e4, ?_⟩
  refine b B M1 H1 σ ρ s1 _ s2 (ok.step t1) e2 _ fun w H2 M2 t2 r2 => ?_
  cases r2 with
  | int k =>
    have hrow := t2.row
    have hrow : (LT.one (.row p)).ok K M2 H2 s2 := by rw [← hr]; exact hrow
    obtain ⟨m1, vs, m2, m3, m4⟩ := hrow
    refine ⟨p, vs, k, j, rfl, rfl, m2, by rw [m4.length]; exact e3, ?_⟩
    have ok2 := (ok.step t1).step t2
    have same : ∀ (w : HO) (j : Nat) (z : Sl), ρ[j]? = some z → ∀ a ∈ footS H2 (σ[j]?.join) z, upd H2 p w a = H2 a := fun w j z e a ha => by
      have : a ≠ p := fun q => (slot_foot (ok2.slots j z e) a ha).2.2.1 (by rw [q, hr]; exact (rfl : p = p))
      rw [upd_ne this]
    refine q σ _ M2 ⟨fun a w h => ?_, ok2.ext, fun a w h hr' => ?_, ok2.fresh, ?_, ok2.len, fun j' x' e' => slot_mono (ok2.slots j' x' e') (fun _ _ h => h) (same _ j' x' e') fun a ha => (slot_foot (ok2.slots j' x' e') a ha).1, fun i' j' x' y' a h1 e1 e2 a1 a2 => ?_⟩
    · rw [upd_ne (ne_of_none h m1)]; exact ok2.sub a w h
    · have : a ≠ p := fun z => hr' (by rw [z, hr]; exact (rfl : p = p))
      rw [upd_ne this]; exact ok2.keep a w h hr'
    · show B.r.ok K M2 _ _
      rw [hr]
      exact ⟨m1, _, upd_same, by rw [List.length_set]; exact m3, Rps.set j (Rp.mono t2.mm _ _ r1) m4⟩
    · rw [footS_same (ok2.slots i' x' e1) (same _ i' x' e1)] at a1
      rw [footS_same (ok2.slots j' y' e2) (same _ j' y' e2)] at a2
      exact ok2.apart i' j' x' y' a h1 e1 e2 a1 a2
theorem gd_rowIx (i : Nat) (b : GoodE K tb g) : GoodE K (tOp (rIx K) (tVar i) tb) (eRowIx i g) := fun B M H σ ρ s d s' o e Q q => by
  obtain ⟨⟨y, s1⟩, e1, e⟩ := bnd e
  obtain ⟨_, e', e⟩ := bnd e
  obtain ⟨k, ek, e⟩ := bnd e
  obtain ⟨z, e3, e⟩ := bnd e
  have e' := isRow_eq e'
  have ek := intOf_eq ek
  cases e
  simp only at ek
  subst ek
  obtain ⟨p, e4, hr⟩ := o.rowAt e'
  refine ⟨_, e4, ?_⟩
  refine b B M H σ ρ s _ _ o e1 _ fun w H1 M1 t1 r1 => ?_
  cases r1 with
  | int k =>
    have hrow := t1.row
    have hrow : (LT.one (.row p)).ok K M1 H1 s1 := by rw [← hr]; exact hrow
    obtain ⟨m1, vs, m2, m3, m4⟩ := hrow
    obtain ⟨j, h1, h2, _⟩ := atI_get e3
    obtain ⟨v, hv, rv⟩ := m4.get h2
    refine .inl ⟨p, vs, k, v, rfl, rfl, .inl (.inl m2), ?_, q v H1 M1 t1 rv⟩
    unfold atI at e3 ⊢
    rw [m4.length]
    cases w : ixN s1.length k with
    | none => rw [w] at e3; cases e3
    | some m =>
      obtain ⟨q1, _⟩ := ixN_seq w
      rw [h1] at q1
      cases q1
      exact hv
/-- what a slot holds is from now on to stand for good -/
theorem Ok.settle (o : Ok K B M H σ ρ s) {i : Nat} {x : Sl} {d : D} {M' : Hp} (e' : ρ[i]? = some x) (hs : Same M M') (hM : ∀ a o, M' a = some o → M a = some o ∨ (a ∈ footS H (σ[i]?.join) x ∧ H a = some o)) (hd : SlotOk K B M' H (σ[i]?.join) (.imm d)) :
    Ok K B M' H σ (ρ.set i (.imm d)) s := by
  have hi : i < ρ.length := (List.getElem?_eq_some_iff.mp e').1
  have self : ∀ u, (ρ.set i (.imm d))[i]? = some u → u = .imm d := fun u e => by
    rw [List.getElem?_set_self hi] at e
    cases e; rfl
  refine ⟨fun a w h => ?_, o.ext.trans hs, o.keep, fun a w h => ?_, ?_, by rw [List.length_set]; exact o.len, fun j z e => ?_, fun j k u z a hjk e1 e2 a1 a2 => ?_⟩
  · exact (hM a w h).elim (o.sub a w) (·.2)
  · rcases hM a w h with h1 | ⟨h1, _⟩
    · exact o.fresh a w h1
    · exact .inr (slot_foot (o.slots i x e') a h1).2.1
  · refine B.r.keep o.row hs (fun a ha => ?_) (fun _ _ _ h => h) (codeKept_all fun _ _ h => h)
    cases z : M' a with
    | none => rfl
    | some w =>
      rcases hM a w z with h1 | ⟨h1, _⟩
      · rw [(B.r.live o.row ha).1] at h1; cases h1
      · exact ((slot_foot (o.slots i x e') a h1).2.2.1 ha).elim
  · by_cases hj : i = j
    · subst hj
      rw [self z e]
      exact hd
    · rw [List.getElem?_set_ne hj] at e
      refine slot_mono (o.slots j z e) hs (fun _ _ => rfl) fun a ha => ?_
      cases q : M' a with
      | none => rfl
      | some w =>
        rcases hM a w q with h1 | ⟨h1, _⟩
        · rw [(slot_foot (o.slots j z e) a ha).1] at h1; cases h1
        · exact (o.apart i j x z a hj e' e h1 ha).elim
  · by_cases h1 : i = j
    · subst h1
      rw [self u e1, footS_imm] at a1
      cases a1
    · by_cases h2 : i = k
      · subst h2
        rw [self z e2, footS_imm] at a2
        cases a2
      · rw [List.getElem?_set_ne h1] at e1
        rw [List.getElem?_set_ne h2] at e2
        exact o.apart j k u z a hjk e1 e2 a1 a2
theorem Ok.frz (o : Ok K B M H σ ρ s) (i : Nat) : ∃ M', Same M M' ∧ Ok K B M' H σ (frzE i ρ) s := by
  unfold frzE
  split
  · rename_i ds e'
    obtain ⟨p, vs, e1, h1, h2, h3, h4, h5, h6⟩ := o.own e'
    have hs : Same M (upd M p (.lst vs)) := same_new h4
    refine ⟨_, hs, o.settle e' hs (fun a w h => ?_) ?_⟩
    · by_cases z : a = p
      · subst z; rw [upd_same] at h; cases h; exact .inr ⟨by rw [e1]; simp [footS], h1⟩
      · rw [upd_ne z] at h; exact .inl h
    · rw [e1]
      exact .lst (.inl (.inl upd_same)) h2 (Rps.mono hs _ _ h3)
  · rename_i t e'
    obtain ⟨v, e1, h1, h2, h3⟩ := o.deep e'
    let M1 : Hp := fun a => if a ∈ foot H v t then H a else M a
    have in1 : ∀ a, a ∈ foot H v t → M1 a = H a := fun a h => by show (if _ then _ else _) = _; rw [if_pos h]
    have out1 : ∀ a, a ∉ foot H v t → M1 a = M a := fun a h => by show (if _ then _ else _) = _; rw [if_neg h]
    have hs : Same M M1 := fun a w h => by
      by_cases q : a ∈ foot H v t
      · rw [(h3 a q).1] at h; cases h
      · rw [out1 a q]; exact h
    refine ⟨M1, hs, o.settle e' hs (fun a w h => ?_) ?_⟩
    · by_cases q : a ∈ foot H v t
      · rw [in1 a q] at h
        exact .inr ⟨by rw [e1]; simp [footS]; exact q, h⟩
      · rw [out1 a q] at h; exact .inl h
    · rw [e1]
      exact OwP.rp hs t v h1 in1
  · exact ⟨M, fun _ _ h => h, o⟩
theorem gs_frz (i : Nat) (a : GoodS K W t sf) : GoodS K W t (sFrz i sf) := fun B M H σ ρ s o ok e D q => by
  obtain ⟨M', _, ok'⟩ := ok.frz i
  exact a B M' H σ _ s o ok' e D q
theorem gs_for {wi : TI} {fi : SA} {tg : TG} {h : SG} {ws : List Nat} (hi : GoodF K wi fi) (hg : GoodG K tg h ws) (hb : GoodS K W t sf) : GoodS K W (tFor wi tg t) (sFor fi h sf) := fun B M H σ ρ s o ok e D q => by
  obtain ⟨⟨ds, s1⟩, e1, e⟩ := bnd e
  simp only at e
  refine hi B M H σ ρ s ds s1 ok e1 _ fun J H1 M1 t1 ⟨hlen, G, Y, w, stab, it⟩ => ?_
  refine for_it w (fun i σ2 H2 => ∃ M2 ρ2 sc, Ok K B M2 H2 σ2 ρ2 sc ∧ Same M1 M2 ∧ forL h sf (ds.drop i) ρ2 sc = some o) ?_ ?_ ?_ ?_
  · exact ⟨M1, ρ, s1, ok.step t1, fun _ _ h => h, e⟩
  · rintro i σ2 H2 _ ⟨M2, ρ2, sc, ok2, hs, _⟩
    exact stab H2 (hs.trans ok2.sub)
  · rintro i x σ2 Hc Hn hlt ⟨M2, ρ2, sc, ok2, hs, e2⟩ y
    have hd : ds[i]? = some ds[i] := List.getElem?_eq_getElem hlt
    obtain ⟨Mn, tn, rx⟩ := it i x Hc Hn M2 ds[i] sc hd hs ok2.sub (hs.trans ok2.sub) ok2.row y
    have e0 : ds.drop i = ds[i] :: ds.drop (i + 1) := List.drop_eq_getElem_cons hlt
    rw [e0] at e2
    obtain ⟨ρ3, e3, e2⟩ := bnd e2
    obtain ⟨o3, e4, e2⟩ := bnd e2
    refine hg B Mn Hn σ2 ρ2 ρ3 sc x ds[i] (ok2.step tn) rx e3 _ fun σ3 ok3 _ => ?_
    have hb' : GoodS K W t (fun ρ s => (sf ρ s)) := hb
    -- the body goes on from what already stands
    refine hb ⟨B.r, B.H0, Mn⟩ Mn Hn σ3 ρ3 sc o3 ⟨ok3.sub, fun _ _ h => h, ok3.keep, fun a w h => .inl h, ok3.row, ok3.len, ok3.slots, ok3.apart⟩ e4 _ ?_
    have back : ∀ {M4 H4 : Hp} {σ4 : L2.St} {ρ4 : Env} {s4 : Row}, Ok K ⟨B.r, B.H0, Mn⟩ M4 H4 σ4 ρ4 s4 → Ok K B M4 H4 σ4 ρ4 s4 ∧ Same M1 M4 := fun o4 =>
      ⟨⟨o4.sub, (ok3.ext.trans o4.ext), o4.keep, fun a w h => (o4.fresh a w h).elim (fun z => ok3.fresh a w z) .inr, o4.row, o4.len, o4.slots, o4.apart⟩, (hs.trans tn.mm).trans o4.ext⟩
    cases o3 with
    | nx ρ4 s4 => exact fun σ4 H4 M4 o4 => ⟨M4, ρ4, s4, (back o4).1, (back o4).2, e2⟩
    | ct ρ4 s4 => exact fun σ4 H4 M4 o4 => ⟨M4, ρ4, s4, (back o4).1, (back o4).2, e2⟩
    | bk ρ4 s4 => cases e2; exact fun σ4 H4 M4 o4 => q σ4 H4 M4 (back o4).1
    | rt d s4 => cases e2; exact fun v H4 M4 o4 r => q v H4 M4 (back o4).1 r
    | rl d s4 => cases e2; exact fun p vs H4 M4 o4 a b c d e f => q p vs H4 M4 (back o4).1 a b c d e f
    | rd d s4 => cases e2; exact fun v H4 M4 o4 a b c => q v H4 M4 (back o4).1 a b c
    | ex x ρ4 s4 => cases e2; exact fun cls d σ4 H4 M4 o4 a => q cls d σ4 H4 M4 (back o4).1 a
  · rintro σ2 Hc ⟨M2, ρ2, sc, ok2, hs, e2⟩
    rw [List.drop_eq_nil_of_le (Nat.le_refl _)] at e2
    cases e2
    exact q σ2 Hc M2 ok2
theorem gs_while (n : Nat) (hc : GoodB K tt fb) (hb : GoodS K W t sf) : GoodS K W (tWhile tt t) (whileL fb sf n) := fun B M H σ ρ s o ok e D q => by
  refine ⟨fun m σ2 H2 => ∃ M2 ρ2 sc, Ok K B M2 H2 σ2 ρ2 sc ∧ whileL fb sf m ρ2 sc = some o, ⟨n, M, ρ, s, ok, e⟩, ?_⟩
  rintro m σ2 H2 ⟨M2, ρ2, sc, ok2, e2⟩
  cases m with
  | zero => cases e2
  | succ m =>
    obtain ⟨⟨b, s3⟩, e3, e2⟩ := bnd e2
    refine hc B M2 H2 σ2 ρ2 sc b s3 ok2 e3 _ fun H3 M3 t3 => ?_
    cases b with
    | false => cases e2; exact q σ2 H3 M3 (ok2.step t3)
    | true =>
      simp only [if_true] at e2
      obtain ⟨o3, e4, e2⟩ := bnd e2
      refine ⟨fun σ4 H4 => ∃ M4 ρ4 s4, Ok K B M4 H4 σ4 ρ4 s4 ∧ whileL fb sf m ρ4 s4 = some o, fun σ4 H4 h => ⟨m, Nat.lt_succ_self m, h⟩, ?_⟩
      refine hb B M3 H3 σ2 ρ2 s3 o3 (ok2.step t3) e4 _ ?_
      cases o3 with
      | nx ρ4 s4 => exact fun σ4 H4 M4 o4 => ⟨M4, ρ4, s4, o4, e2⟩
      | ct ρ4 s4 => exact fun σ4 H4 M4 o4 => ⟨M4, ρ4, s4, o4, e2⟩
      | bk ρ4 s4 => cases e2; exact fun σ4 H4 M4 o4 => q σ4 H4 M4 o4
      | rt d s4 => cases e2; exact fun v H4 M4 o4 r => q v H4 M4 o4 r
      | rl d s4 => cases e2; exact fun p vs H4 M4 o4 a b c d e f => q p vs H4 M4 o4 a b c d e f
      | rd d s4 => cases e2; exact fun v H4 M4 o4 a b c => q v H4 M4 o4 a b c
      | ex x ρ4 s4 => cases e2; exact fun cls d σ4 H4 M4 o4 a => q cls d σ4 H4 M4 o4 a
end
end DL

namespace DL
open PySem PySem.Spec PyProof.Rows L2
/-! ### promises -/
/-- what is wanted behind a call that hands back a datum, all that stood kept -/
def BackP (K : PySem.W.Frag) (M H : Hp) (d : D) (Q : VK) : Prop :=
  ∀ v H' M', Same M M' → Same M' H' → Same H H' → (∀ a o, M' a = some o → M a = some o ∨ H a = none) → Rp K M' v d → Q v H'
/-- a def of data alone -/
def spP (K : PySem.W.Frag) (n : Nat) (fn : List D → Option D) : Sp := fun vs H Q _ => ∃ M ds d, Same M H ∧ Rps K M vs ds ∧ ds.length = n ∧ fn ds = some d ∧ BackP K M H d Q
/-- .. that hands back a new list of its own -/
def spPL (K : PySem.W.Frag) (n : Nat) (fn : List D → Option (List D)) : Sp := fun vs H Q _ => ∃ M ds es, Same M H ∧ Rps K M vs ds ∧ ds.length = n ∧ fn ds = some es ∧
  ∀ p us H' M', Same M M' → Same M' H' → Same H H' → (∀ a o, M' a = some o → M a = some o ∨ H a = none) → H p = none → M' p = none → H' p = some (.lst us) → us.length ≤ lim → Rps K M' us es → Q (.ref p) H'
/-- a def that is handed the row first -/
def spR (K : PySem.W.Frag) (n : Nat) (fn : List D → Row → Option (D × Row)) : Sp := fun vs H Q _ => ∃ a M us ds s d s', vs = .ref a :: us ∧ Same M H ∧ RowOk K (.one (.row a)) M H s ∧ Rps K M us ds ∧ ds.length + 1 = n ∧ fn ds s = some (d, s') ∧
  ∀ v H' M', Step K ⟨.one (.row a), H, M⟩ M H M' H' s' → Rp K M' v d → Q v H'
def spRL (K : PySem.W.Frag) (n : Nat) (fn : List D → Row → Option (List D × Row)) : Sp := fun vs H Q _ => ∃ a M us ds s es s', vs = .ref a :: us ∧ Same M H ∧ RowOk K (.one (.row a)) M H s ∧ Rps K M us ds ∧ ds.length + 1 = n ∧ fn ds s = some (es, s') ∧
  ∀ p ws H' M', Step K ⟨.one (.row a), H, M⟩ M H M' H' s' → H p = none → M' p = none → H' p = some (.lst ws) → ws.length ≤ lim → Rps K M' ws es → Q (.ref p) H'

def envP (N : Nat) (ds : List D) : Env := ds.map Sl.imm ++ List.replicate (N - ds.length) .dead
def envR (N : Nat) (ds : List D) : Env := .row :: (ds.map Sl.imm ++ List.replicate (N - (ds.length + 1)) .dead)
def runP (N : Nat) (b : SS) (ds : List D) : Option D := (b (envP N ds) []).bind fun o => match o with | .rt d _ => some d | .rl es _ => some (.list es) | .nx _ _ => some .none | .rd t _ => some t.data | _ => none
def runPL (N : Nat) (b : SS) (ds : List D) : Option (List D) := (b (envP N ds) []).bind fun o => match o with | .rl es _ => some es | _ => none
def runPD (N : Nat) (b : SS) (ds : List D) : Option OT := (b (envP N ds) []).bind fun o => match o with | .rd t _ => some t | .rl es _ => some (.lst (es.map .imm)) | .rt d _ => some (.imm d) | _ => none
/-- a def that may raise -/
inductive RX where
  | ok (d : D) | ex (e : Ex)
def runX (N : Nat) (b : SS) (ds : List D) : Option RX := (b (envP N ds) []).bind fun o => match o with | .rt d _ => some (.ok d) | .rl es _ => some (.ok (.list es)) | .nx _ _ => some (.ok .none) | .rd t _ => some (.ok t.data) | .ex e _ _ => some (.ex e) | _ => none
def runR (N : Nat) (b : SS) (ds : List D) (s : Row) : Option (D × Row) := (b (envR N ds) s).bind fun o => match o with | .rt d s' => some (d, s') | .rl es s' => some (.list es, s') | .nx _ s' => some (.none, s') | .rd t s' => some (t.data, s') | _ => none
def runRL (N : Nat) (b : SS) (ds : List D) (s : Row) : Option (List D × Row) := (b (envR N ds) s).bind fun o => match o with | .rl es s' => some (es, s') | _ => none
section
variable {K : PySem.W.Frag} {W : Wish} {B : Bx} {M H M' H' M2 H2 : Hp} {σ : L2.St} {ρ : Env} {s s' s2 : Row} {ta tb tc te tl : TE} {tt : TT} {f g k : SE} {fa ga : SA} {fb gb : SB} {b : SS}
theorem rowOk_none : RowOk K .nil M H [] := rfl
theorem slots_data {B : Bx} : ∀ {vs : List V} {ds : List D} {m : Nat}, Rps K M vs ds → ∀ (i : Nat) (x : Sl), (ds.map Sl.imm ++ List.replicate m Sl.dead)[i]? = some x → SlotOk K B M H ((vs.map some ++ List.replicate m none)[i]?.join) x
  | _, [], m, r, i, x, e => by
    have : x = .dead := by
      have := List.mem_of_getElem? e
      simpa using List.eq_of_mem_replicate (by simpa using this)
    subst this
    trivial
  | _, d :: ds, m, r, 0, x, e => by
    cases r with
    | cons a b => cases e; exact a
  | _, d :: ds, m, r, i + 1, x, e => by
    cases r with
    | cons a b => exact slots_data (m := m) b i x e
theorem no_foot {ds : List D} {m : Nat} {i : Nat} {x : Sl} {y : Option V} (e : (ds.map Sl.imm ++ List.replicate m Sl.dead)[i]? = some x) : footS H y x = [] := by
  have h := List.mem_of_getElem? e
  rcases List.mem_append.mp h with h | h
  · obtain ⟨d, _, e⟩ := List.mem_map.mp h; subst e; exact footS_imm
  · have := List.eq_of_mem_replicate h; subst this; exact footS_dead
theorem ok_start {vs : List V} {ds : List D} {N : List Str} (hs : Same M H) (r : Rps K M vs ds) (hn : ds.length ≤ N.length) : Ok K ⟨.nil, H, M⟩ M H (L2.start N vs) (envP N.length ds) [] := by
  have hl := r.length
  refine ⟨hs, fun _ _ h => h, fun _ _ h _ => h, fun _ _ h => .inl h, rowOk_none, ?_, ?_, fun i j x y a _ e1 _ a1 _ => by
    unfold envP at e1
    rw [no_foot e1] at a1; cases a1⟩
  · unfold L2.start envP; simp [hl]
  · unfold L2.start envP
    rw [hl]
    exact slots_data r
theorem ok_startR {vs : List V} {ds : List D} {N : List Str} {a : Addr} (hs : Same M H) (hr : RowOk K (.one (.row a)) M H s) (r : Rps K M vs ds) (hn : ds.length + 1 ≤ N.length) : Ok K ⟨.one (.row a), H, M⟩ M H (L2.start N (.ref a :: vs)) (envR N.length ds) s := by
  have hl := r.length
  refine ⟨hs, fun _ _ h => h, fun _ _ h _ => h, fun _ _ h => .inl h, hr, ?_, fun i x e => ?_, fun i j x y c _ e1 _ a1 _ => ?_⟩
  · unfold L2.start envR; simp [hl]
  · unfold L2.start
    cases i with
    | zero => cases e; rfl
    | succ i =>
      have := slots_data (B := ⟨.one (.row a), H, M⟩) (H := H) (m := N.length - (ds.length + 1)) r i x e
      simpa [hl] using this
  · cases i with
    | zero =>
      cases e1
      have : footS H ((L2.start N (.ref a :: vs))[0]?.join) .row = [] := by unfold L2.start; rfl
      rw [this] at a1; cases a1
    | succ i =>
      unfold envR at e1
      rw [no_foot (by simpa using e1)] at a1; cases a1
/-- what is handed back is from now on to stand for good -/
theorem Ok.grow {M1 : Hp} (ok : Ok K B M H [] [] s) (hs : Same M M1) (hM : ∀ a o, M1 a = some o → M a = some o ∨ (B.H0 a = none ∧ ¬ B.r.mem a ∧ H a = some o)) : Ok K B M1 H [] [] s := by
  refine ⟨fun a w h => (hM a w h).elim (ok.sub a w) (·.2.2), ok.ext.trans hs, ok.keep, fun a w h => (hM a w h).elim (ok.fresh a w) (fun z => .inr z.1), ?_, rfl, fun i x e => by simp at e, fun i j x y a _ e => by simp at e⟩
  refine B.r.keep ok.row hs (fun a ha => ?_) (fun _ _ _ h => h) (codeKept_all fun _ _ h => h)
  cases z : M1 a with
  | none => rfl
  | some w =>
    rcases hM a w z with h1 | ⟨_, h1, _⟩
    · rw [(B.r.live ok.row ha).1] at h1; cases h1
    · exact (h1 ha).elim
theorem back_of {p : Addr} {vs : List V} {D : Ends} (ok : Ok K B M H [] [] s) (h1 : H p = some (.lst vs)) (h2 : M p = none) (h3 : B.H0 p = none) (h6 : ¬ B.r.mem p) : Ok K B (upd M p (.lst vs)) H [] [] s :=
  ok.grow (same_new h2) fun a w h => by
    by_cases z : a = p
    · subst z; rw [upd_same] at h; cases h; exact .inr ⟨h3, h6, h1⟩
    · rw [upd_ne z] at h; exact .inl h
open Classical in
theorem back_deep {v : V} {t : OT} (ok : Ok K B M H [] [] s) (h1 : OwP K M H v t) (h3 : ∀ a ∈ foot H v t, M a = none ∧ B.H0 a = none ∧ ¬ B.r.mem a) : ∃ M1, Same M M1 ∧ Ok K B M1 H [] [] s ∧ Rp K M1 v t.data := by
  let M1 : Hp := fun a => if a ∈ foot H v t then H a else M a
  have in1 : ∀ a, a ∈ foot H v t → M1 a = H a := fun a h => by show (if _ then _ else _) = _; rw [if_pos h]
  have out1 : ∀ a, a ∉ foot H v t → M1 a = M a := fun a h => by show (if _ then _ else _) = _; rw [if_neg h]
  have hs : Same M M1 := fun a w h => by
    by_cases q : a ∈ foot H v t
    · rw [(h3 a q).1] at h; cases h
    · rw [out1 a q]; exact h
  refine ⟨M1, hs, ok.grow hs fun a w h => ?_, OwP.rp hs t v h1 in1⟩
  by_cases q : a ∈ foot H v t
  · rw [in1 a q] at h; exact .inr ⟨(h3 a q).2.1, (h3 a q).2.2, h⟩
  · rw [out1 a q] at h; exact .inl h
/-- the reading of a body, from its goodness -/
theorem body_P {t : TS} {vs : List V} {ds : List D} {d : D} {N : List Str} {Q : VK} (hb : GoodS K W t b) (hs : Same M H) (r : Rps K M vs ds) (hn : ds.length ≤ N.length) (e : runP N.length b ds = some d) (q : BackP K M H d Q) :
    t { nx := fun _ H' => Q .non H', rt := Q } (L2.start N vs) H := by
  obtain ⟨o, e1, e⟩ := bnd e
  refine hb _ M H _ _ _ o (ok_start hs r hn) e1 _ ?_
  have fin : ∀ {v M1 H1 s1}, Ok K ⟨.nil, H, M⟩ M1 H1 [] [] s1 → Rp K M1 v d → Q v H1 := fun ok rr => q _ _ _ ok.ext ok.sub (fun a w h => ok.keep a w h (fun z => z)) ok.fresh rr
  cases o with
  | nx ρ s1 => cases e; exact fun σ1 H1 M1 ok => fin ok.bare .non
  | rt x s1 => cases e; exact fun v H1 M1 ok rr => fin ok rr
  | rl xs s1 =>
    cases e
    exact fun p us H1 M1 ok h1 h2 h3 h4 h5 rr => fin (back_of (D := ⟨fun _ _ => True, fun _ _ => True, fun _ _ => True, fun _ _ => True⟩) ok h1 h2 h3 h4) (.lst (.inl (.inl upd_same)) h5 (Rps.mono (same_new h2) _ _ rr))
  | bk ρ s1 => cases e
  | ct ρ s1 => cases e
  | ex x ρ s1 => cases e
  | rd t s1 =>
    cases e
    exact fun v H1 M1 ok rr _ h3 => let ⟨M2, _, ok2, rp⟩ := back_deep ok rr h3; fin ok2 rp
theorem body_PL {t : TS} {vs : List V} {ds : List D} {es : List D} {N : List Str} {Q : VK} (hb : GoodS K W t b) (hs : Same M H) (r : Rps K M vs ds) (hn : ds.length ≤ N.length) (e : runPL N.length b ds = some es)
    (q : ∀ p us H' M', Same M M' → Same M' H' → Same H H' → (∀ a o, M' a = some o → M a = some o ∨ H a = none) → H p = none → M' p = none → H' p = some (.lst us) → us.length ≤ lim → Rps K M' us es → Q (.ref p) H') :
    t { nx := fun _ H' => Q .non H', rt := Q } (L2.start N vs) H := by
  obtain ⟨o, e1, e⟩ := bnd e
  refine hb _ M H _ _ _ o (ok_start hs r hn) e1 _ ?_
  cases o with
  | rl xs s1 =>
    cases e
    exact fun p us H1 M1 ok h1 h2 h3 h4 h5 rr => q p us H1 M1 ok.ext ok.sub (fun a w h => ok.keep a w h (fun z => z)) ok.fresh h3 h2 h1 h5 rr
  | _ => cases e
theorem stepR {a : Addr} {M1 H1 : Hp} {s1 : Row} (ok : Ok K ⟨.one (.row a), H, M⟩ M1 H1 [] [] s1) : Step K ⟨.one (.row a), H, M⟩ M H M1 H1 s1 := ⟨ok.ext, ok.sub, ok.keep, ok.fresh, ok.row⟩
theorem body_R {t : TS} {vs : List V} {ds : List D} {d : D} {N : List Str} {Q : VK} {a : Addr} (hb : GoodS K W t b) (hs : Same M H) (hr : RowOk K (.one (.row a)) M H s) (r : Rps K M vs ds) (hn : ds.length + 1 ≤ N.length) (e : runR N.length b ds s = some (d, s'))
    (q : ∀ v H' M', Step K ⟨.one (.row a), H, M⟩ M H M' H' s' → Rp K M' v d → Q v H') : t { nx := fun _ H' => Q .non H', rt := Q } (L2.start N (.ref a :: vs)) H := by
  obtain ⟨o, e1, e⟩ := bnd e
  refine hb _ M H _ _ _ o (ok_startR hs hr r hn) e1 _ ?_
  cases o with
  | nx ρ s1 => cases e; exact fun σ1 H1 M1 ok => q _ _ _ (stepR ok.bare) .non
  | rt x s1 => cases e; exact fun v H1 M1 ok rr => q _ _ _ (stepR ok) rr
  | rl xs s1 =>
    cases e
    exact fun p us H1 M1 ok h1 h2 h3 h4 h5 rr => q _ _ _ (stepR (back_of (D := ⟨fun _ _ => True, fun _ _ => True, fun _ _ => True, fun _ _ => True⟩) ok h1 h2 h3 h4)) (.lst (.inl (.inl upd_same)) h5 (Rps.mono (same_new h2) _ _ rr))
  | bk ρ s1 => cases e
  | ct ρ s1 => cases e
  | ex x ρ s1 => cases e
  | rd t s1 =>
    cases e
    exact fun v H1 M1 ok rr _ h3 => let ⟨M2, _, ok2, rp⟩ := back_deep ok rr h3; q _ _ _ (stepR ok2) rp
theorem body_RL {t : TS} {vs : List V} {ds : List D} {es : List D} {N : List Str} {Q : VK} {a : Addr} (hb : GoodS K W t b) (hs : Same M H) (hr : RowOk K (.one (.row a)) M H s) (r : Rps K M vs ds) (hn : ds.length + 1 ≤ N.length) (e : runRL N.length b ds s = some (es, s'))
    (q : ∀ p ws H' M', Step K ⟨.one (.row a), H, M⟩ M H M' H' s' → H p = none → M' p = none → H' p = some (.lst ws) → ws.length ≤ lim → Rps K M' ws es → Q (.ref p) H') : t { nx := fun _ H' => Q .non H', rt := Q } (L2.start N (.ref a :: vs)) H := by
  obtain ⟨o, e1, e⟩ := bnd e
  refine hb _ M H _ _ _ o (ok_startR hs hr r hn) e1 _ ?_
  cases o with
  | rl xs s1 =>
    cases e
    exact fun p us H1 M1 ok h1 h2 h3 h4 h5 rr => q p us H1 M1 (stepR ok) h3 h2 h1 h5 rr
  | _ => cases e
/-! ### calls -/
def eCall (n : Nat) (fn : List D → Option D) (fa : SA) : SE := fun ρ s => (fa ρ s).bind fun x => if x.1.length = n then (fn x.1).bind fun d => some (d, x.2) else none
def lCall (n : Nat) (fn : List D → Option (List D)) (fa : SA) : SA := fun ρ s => (fa ρ s).bind fun x => if x.1.length = n then (fn x.1).bind fun d => some (d, x.2) else none
def eCallR (i n : Nat) (fn : List D → Row → Option (D × Row)) (fa : SA) : SE := fun ρ s => (isRow ρ i).bind fun _ => (fa ρ s).bind fun x => if x.1.length + 1 = n then fn x.1 x.2 else none
def lCallR (i n : Nat) (fn : List D → Row → Option (List D × Row)) (fa : SA) : SA := fun ρ s => (isRow ρ i).bind fun _ => (fa ρ s).bind fun x => if x.1.length + 1 = n then fn x.1 x.2 else none
theorem step_of_back {M' H' : Hp} (h0 : Same M H) (hr : RowOk K B.r M H s) (h1 : Same M M') (h2 : Same M' H') (h3 : Same H H') (h4 : ∀ a o, M' a = some o → M a = some o ∨ H a = none) : Step K B M H M' H' s :=
  ⟨h1, h2, fun a o h _ => h3 a o h, h4, B.r.keep hr h1 (fun a ha => by
    obtain ⟨a1, w, a2⟩ := B.r.live hr ha
    cases z : M' a with
    | none => rfl
    | some u =>
      rcases h4 a u z with z1 | z1
      · rw [a1] at z1; cases z1
      · rw [a2] at z1; cases z1) (fun a w _ h => h3 a w h) (codeKept_all h3)⟩
theorem gd_call {n : Nat} {fn : List D → Option D} {t : TA} {E : XK} (ha : GoodA K t fa) : GoodE K (tCall (spP K n fn) [] E t) (eCall n fn fa) := fun B M H σ ρ s d s' o e Q q => by
  obtain ⟨⟨ds, s1⟩, e1, e⟩ := bnd e
  simp only at e
  split at e
  · rename_i hn
    obtain ⟨x, e2, e⟩ := bnd e
    cases e
    refine ha B M H σ ρ s ds _ o e1 _ fun vs H1 M1 t1 r1 => ?_
    refine ⟨M1, ds, d, t1.sub, by rw [List.append_nil]; exact r1, hn, e2, fun v H2 M2 a1 a2 a3 a4 r => ?_⟩
    exact q v H2 M2 (t1.trans (step_of_back t1.sub t1.row a1 a2 a3 a4)) r
  · cases e
theorem gl_call {n : Nat} {fn : List D → Option (List D)} {t : TA} {E : XK} (ha : GoodA K t fa) : GoodL K (tCall (spPL K n fn) [] E t) (lCall n fn fa) := fun B M H σ ρ s d s' o e Q q => by
  obtain ⟨⟨ds, s1⟩, e1, e⟩ := bnd e
  simp only at e
  split at e
  · rename_i hn
    obtain ⟨x, e2, e⟩ := bnd e
    obtain ⟨rfl, rfl⟩ : x = d ∧ s1 = s' := by cases e; exact ⟨rfl, rfl⟩
    refine ha B M H σ ρ s ds _ o e1 _ fun vs H1 M1 t1 r1 => ?_
    refine ⟨M1, ds, _, t1.sub, by rw [List.append_nil]; exact r1, hn, e2, fun p us H2 M2 a1 a2 a3 a4 b1 b2 b3 b4 r => ?_⟩
    exact q p us H2 M2 (t1.trans (step_of_back t1.sub t1.row a1 a2 a3 a4)) (t1.free b1) b2 b3 b4 r
  · cases e
theorem step_r {a : Addr} {B : Bx} {M1 H1 : Hp} (hr : B.r = .one (.row a)) (t : Step K ⟨.one (.row a), H, M⟩ M H M1 H1 s) : Step K B M H M1 H1 s := ⟨t.mm, t.sub, fun c o h hc => t.keep c o h (by rw [← hr]; exact hc), t.fresh, by rw [hr]; exact t.row⟩
theorem gd_callR (i : Nat) {n : Nat} {fn : List D → Row → Option (D × Row)} {t : TA} {E : XK} (ha : GoodA K t fa) : GoodE K (tCall (spR K n fn) [] E (tCons (tVar i) t)) (eCallR i n fn fa) := fun B M H σ ρ s d s' o e Q q => by
  obtain ⟨_, e0, e⟩ := bnd e
  obtain ⟨⟨ds, s1⟩, e1, e⟩ := bnd e
  simp only at e
  split at e
  · rename_i hn
    obtain ⟨p, e4, hr⟩ := o.rowAt (isRow_eq e0)
    refine ⟨_, e4, ?_⟩
    refine ha B M H σ ρ s ds _ o e1 _ fun vs H1 M1 t1 r1 => ?_
    refine ⟨p, M1, vs, ds, s1, d, s', by rw [List.append_nil], t1.sub, by rw [← hr]; exact t1.row, r1, hn, e, fun v H2 M2 t2 r => ?_⟩
    exact q v H2 M2 (t1.trans (step_r hr t2)) r
  · cases e
theorem gl_callR (i : Nat) {n : Nat} {fn : List D → Row → Option (List D × Row)} {t : TA} {E : XK} (ha : GoodA K t fa) : GoodL K (tCall (spRL K n fn) [] E (tCons (tVar i) t)) (lCallR i n fn fa) := fun B M H σ ρ s d s' o e Q q => by
  obtain ⟨_, e0, e⟩ := bnd e
  obtain ⟨⟨ds, s1⟩, e1, e⟩ := bnd e
  simp only at e
  split at e
  · rename_i hn
    obtain ⟨p, e4, hr⟩ := o.rowAt (isRow_eq e0)
    refine ⟨_, e4, ?_⟩
    refine ha B M H σ ρ s ds _ o e1 _ fun vs H1 M1 t1 r1 => ?_
    refine ⟨p, M1, vs, ds, s1, d, s', by rw [List.append_nil], t1.sub, by rw [← hr]; exact t1.row, r1, hn, e, fun v us H2 M2 t2 b1 b2 b3 b4 r => ?_⟩
    exact q v us H2 M2 (t1.trans (step_r hr t2)) (t1.free b1) b2 b3 b4 r
  · cases e
/-! ### lists of one's own lent out -/
def lendE (ρ : Env) : Env := ρ.map fun x => match x with | .own ds => .imm (.list ds) | .deep t => .imm t.data | .row => .dead | .sub _ => .dead | .me _ _ _ => .dead | .raw _ => .dead | x => x
def scalD : D → Bool | .none => true | .bool _ => true | .int _ => true | .str _ => true | _ => false
def eLend (f : SE) : SE := fun ρ s => (f (lendE ρ) []).bind fun x => if scalD x.1 then some (x.1, s) else none
theorem scal_any {v : V} {d : D} {M' : Hp} (h : scalD d = true) (r : Rp K M v d) : Rp K M' v d := by
  cases r <;> first | (cases h; done) | skip
  · exact .non
  · exact .bl _
  · exact .int _
  · exact .str _ (by assumption) (by assumption)
open Classical in
theorem gd_lend (a : GoodE K te f) : GoodE K te (eLend f) := fun B M H σ ρ s d s' o e Q q => by
  obtain ⟨⟨x, s1⟩, e1, e⟩ := bnd e
  simp only at e
  split at e
  · rename_i hsc
    cases e
    let In : Addr → Prop := fun a => ∃ (i : Nat) (x : Sl), ρ[i]? = some x ∧ a ∈ footS H (σ[i]?.join) x
    let Mf : Hp := fun a => if In a then H a else M a
    have in1 : ∀ a, In a → Mf a = H a := fun a h => by show (if _ then _ else _) = _; rw [if_pos h]
    have out1 : ∀ a, ¬ In a → Mf a = M a := fun a h => by show (if _ then _ else _) = _; rw [if_neg h]
    have hs : Same M Mf := fun a w h => by
      by_cases z : In a
      · rw [in1 a z]; exact o.sub a w h
      · rw [out1 a z]; exact h
    have hsub : Same Mf H := fun a w h => by
      by_cases z : In a
      · rw [in1 a z] at h; exact h
      · rw [out1 a z] at h; exact o.sub a w h
    have at_ : ∀ (i : Nat) (y : Sl), (lendE ρ)[i]? = some y → y = .dead ∨ ∃ d v, y = .imm d ∧ σ[i]?.join = some v ∧ Rp K Mf v d := fun i y e => by
      unfold lendE at e
      rw [List.getElem?_map] at e
      cases z : ρ[i]? with
      | none => rw [z] at e; cases e
      | some y' =>
        rw [z] at e
        cases y' with
        | dead => cases e; exact .inl rfl
        | row => cases e; exact .inl rfl
        | sub k => cases e; exact .inl rfl
        | me k C sig => cases e; exact .inl rfl
        | raw w => cases e; exact .inl rfl
        | imm d =>
          cases e
          obtain ⟨v, b1, b2⟩ := o.imm z
          exact .inr ⟨d, v, rfl, by rw [b1]; rfl, Rp.mono hs _ _ b2⟩
        | own ds =>
          cases e
          obtain ⟨p, vs, b1, h1, h2, h3, h4, h5, h6⟩ := o.own z
          refine .inr ⟨_, _, rfl, by rw [b1]; rfl, .lst (.inl (.inl ?_)) h2 (Rps.mono hs _ _ h3)⟩
          rw [in1 p ⟨i, _, z, by rw [b1]; simp [footS]⟩]
          exact h1
        | deep t =>
          cases e
          obtain ⟨v, b1, h1, h2, h3⟩ := o.deep z
          exact .inr ⟨_, _, rfl, by rw [b1]; rfl, OwP.rp hs t v h1 fun c hc => in1 c ⟨i, _, z, by rw [b1]; simp [footS]; exact hc⟩⟩
    have ok : Ok K ⟨.nil, H, Mf⟩ Mf H σ (lendE ρ) [] := by
      refine ⟨hsub, fun _ _ h => h, fun _ _ h _ => h, fun _ _ h => .inl h, rowOk_none, by unfold lendE; rw [List.length_map]; exact o.len, fun i y e => ?_, fun i j y z c _ e _ c1 _ => ?_⟩
      · rcases at_ i y e with rfl | ⟨d, v, rfl, b1, b2⟩
        · cases σ[i]?.join <;> trivial
        · rw [b1]; exact b2
      · rcases at_ i y e with rfl | ⟨d, v, rfl, b1, b2⟩
        · rw [footS_dead] at c1; cases c1
        · rw [footS_imm] at c1; cases c1
    refine a ⟨.nil, H, Mf⟩ Mf H σ (lendE ρ) [] _ s1 ok e1 Q fun v H1 M1 t1 r1 => ?_
    have hk : Same H H1 := fun a w h => t1.keep a w h (fun z => z)
    exact q v H1 M (step_of_back o.sub o.row (fun _ _ h => h) (o.sub.trans hk) hk fun _ _ h => .inl h) (scal_any hsc r1)
  · cases e
end
end DL

namespace DL
open PySem PySem.Spec PyProof.Rows L2
/-! ### a piece of text with its reading and its function -/
structure DE (X : Cx) (K : PySem.W.Frag) (e : Expr) (t : TE) (f : SE) : Prop where
  hk : X.K = K
  pe : PE X e t
  gd : GoodE K t f
structure DT (X : Cx) (K : PySem.W.Frag) (e : Expr) (t : TT) (f : SB) : Prop where
  hk : X.K = K
  pt : PT X e t
  gd : GoodB K t f
structure DW (X : Cx) (K : PySem.W.Frag) (e : Expr) (t : TT) (f : SB) : Prop where
  hk : X.K = K
  pw : PW X e t
  gd : GoodB K t f
structure DA (X : Cx) (K : PySem.W.Frag) (es : List Expr) (t : TA) (f : SA) : Prop where
  hk : X.K = K
  pa : PA X es t
  gd : GoodA K t f
structure DN (X : Cx) (K : PySem.W.Frag) (e : Expr) (t : TE) (f : SA) : Prop where
  hk : X.K = K
  pe : PE X e t
  gd : GoodL K t f
structure DR (X : Cx) (K : PySem.W.Frag) (e : Expr) (t : TE) (f : SA) : Prop where
  hk : X.K = K
  pe : PE X e t
  gd : GoodR K t f
structure DQ (X : Cx) (K : PySem.W.Frag) (e : Expr) (t : TE) (f : SA) : Prop where
  hk : X.K = K
  pe : PE X e t
  gd : GoodQ K t f
structure DC (X : Cx) (K : PySem.W.Frag) (tg e : Expr) (t : TI) (f : SA) : Prop where
  hk : X.K = K
  pi : PI X tg e t
  gd : GoodC K t f
structure DF (X : Cx) (K : PySem.W.Frag) (tg e : Expr) (t : TI) (f : SA) : Prop where
  hk : X.K = K
  pi : PI X tg e t
  gd : GoodF K t f
structure DG (X : Cx) (K : PySem.W.Frag) (e : Expr) (t : TG) (h : SG) (ws : List Nat) : Prop where
  hk : X.K = K
  pg : PG X e t
  gd : GoodG K t h ws
structure DGs (X : Cx) (K : PySem.W.Frag) (es : List Expr) (t : TGs) (h : List D → Env → Option Env) (ws : List Nat) (n : Nat) : Prop where
  hk : X.K = K
  pg : PGs X es t
  gd : GoodGs K t h ws
  ln : ∀ ds ρ ρ', h ds ρ = some ρ' → ds.length = n
structure DP (X : Cx) (K : PySem.W.Frag) (ifs : List Expr) (t : TT) (f : SB) : Prop where
  hk : X.K = K
  pt : PTs X ifs t
  gd : GoodB K t f
structure DO (X : Cx) (K : PySem.W.Frag) (e : Option Expr) (t : TO) (f : SO) : Prop where
  hk : X.K = K
  po : PO X e t
  gd : GoodO K t f
structure DS (X : Cx) (K : PySem.W.Frag) (W : Wish) (st : Stmt) (t : TS) (f : SS) : Prop where
  hk : X.K = K
  ps : PS X st t
  gd : GoodS K W t f
structure DSs (X : Cx) (K : PySem.W.Frag) (W : Wish) (st : List Stmt) (t : TS) (f : SS) : Prop where
  hk : X.K = K
  ps : PSs X st t
  gd : GoodS K W t f
/-- a def that may be called by its name -/
structure Callee (P : Program) (w : World) (K : PySem.W.Frag) (mg : Str → Option Value) (base : Heap) (k : Nat) (x : Str) (sp : Sp) : Prop where
  ex : ∃ f fd ps, FnOk P w K mg base CX0 k f fd ps sp ∧ mg x = some (.ref f) ∧ PySem.W.keepIn K (.ref f) = true ∧ Binds K fd ps []
theorem Callee.mono {P : Program} {w : World} {K : PySem.W.Frag} {mg : Str → Option Value} {base : Heap} {j k : Nat} {x : Str} {sp : Sp} (C : Callee P w K mg base j x sp) (h : j ≤ k) : Callee P w K mg base k x sp := by
  obtain ⟨f, fd, ps, F, r⟩ := C.ex
  exact ⟨f, fd, ps, F.mono h, r⟩
section
variable {X : Cx} {K : PySem.W.Frag} {W : Wish} {a b c e : Expr} {es : List Expr} {pos p p2 : Pos} {ta tb tc te : TE} {tt tu : TT} {f g k : SE} {fb gb : SB} {fa ga : SA} {t : TA}
theorem d_var (i : Nat) {x : Str} (hN : X.N[i]? = some x := by rfl) (hv : Vis X.env.scope x := by first | exact Or.inl rfl | exact Or.inr (Or.inl rfl) | exact Or.inr (Or.inr rfl)) (hd : (x == ("__debug__" : Str)) = false := by decide)
    (hcd : (x == ("__classdict__" : Str)) = false := by decide) (hK : X.K = K := by rfl) : DE X K (.Name x pos) (tVar i) (eVar i) := by
  subst hK
  exact ⟨rfl, pe_var hN hv hd hcd, gd_var i⟩
theorem r_var (i : Nat) {x : Str} (hN : X.N[i]? = some x := by rfl) (hv : Vis X.env.scope x := by first | exact Or.inl rfl | exact Or.inr (Or.inl rfl) | exact Or.inr (Or.inr rfl)) (hd : (x == ("__debug__" : Str)) = false := by decide)
    (hcd : (x == ("__classdict__" : Str)) = false := by decide) (hK : X.K = K := by rfl) : DR X K (.Name x pos) (tVar i) (rVar i) := by
  subst hK
  exact ⟨rfl, pe_var hN hv hd hcd, gr_var i⟩
theorem q_var (i : Nat) {x : Str} (hN : X.N[i]? = some x := by rfl) (hv : Vis X.env.scope x := by first | exact Or.inl rfl | exact Or.inr (Or.inl rfl) | exact Or.inr (Or.inr rfl)) (hd : (x == ("__debug__" : Str)) = false := by decide)
    (hcd : (x == ("__classdict__" : Str)) = false := by decide) (hK : X.K = K := by rfl) : DQ X K (.Name x pos) (tVar i) (qVar i) := by
  subst hK
  exact ⟨rfl, pe_var hN hv hd hcd, gq_var i⟩
theorem d_int {i j} (hK : X.K = K := by rfl) : DE X K (.Constant (.int i) j pos) (tC (.int i)) (eC (.int i)) := by
  subst hK
  exact ⟨rfl, pe_int, gd_c fun _ => .int i⟩
theorem d_bl {b j} (hK : X.K = K := by rfl) : DE X K (.Constant (.bool b) j pos) (tC (.bl b)) (eC (.bool b)) := by
  subst hK
  exact ⟨rfl, pe_bl, gd_c fun _ => .bl b⟩
theorem d_non {j} (hK : X.K = K := by rfl) : DE X K (.Constant .none j pos) (tC .non) (eC .none) := by
  subst hK
  exact ⟨rfl, pe_non, gd_c fun _ => .non⟩
theorem d_str {x j} (h : PyData.strOk x = true := by decide +kernel) (hl : decide (x.length ≤ lim) = true := by decide +kernel) (hK : X.K = K := by rfl) : DE X K (.Constant (.str x) j pos) (tC (.str x)) (eC (.str x)) := by
  subst hK
  exact ⟨rfl, pe_str, gd_c fun _ => .str x h (of_decide_eq_true hl)⟩
/-- a module's constant -/
theorem d_glob {x : Str} {v : V} {d : D} (hm : ∃ u, X.mg x = some u ∧ RelV v u) (r : ∀ M, Rp K M v d) (hg : Gl X x := by rfl) (hd : (x == ("__debug__" : Str)) = false := by decide) (hK : X.K = K := by rfl) : DE X K (.Name x pos) (tC v) (eC d) := by
  subst hK
  obtain ⟨u, h1, h2⟩ := hm
  exact ⟨rfl, pe_glob hg h1 h2 hd, gd_c r⟩
theorem d_add (A : DE X K a ta f) (B : DE X K b tb g) : DE X K (.BinOp a .Add b pos) (tOp (rAddA K) ta tb) (eOp addD f g) := by
  have hK := A.hk
  subst hK
  exact ⟨rfl, pe_op op_addA A.pe B.pe, gd_op og_add A.gd B.gd⟩
theorem d_sub (A : DE X K a ta f) (B : DE X K b tb g) : DE X K (.BinOp a .Sub b pos) (tOp (rI0 fun i j => .int (i - j)) ta tb) (eOp subD f g) := by
  have hK := A.hk
  subst hK
  exact ⟨rfl, pe_op op_sub A.pe B.pe, gd_op og_sub A.gd B.gd⟩
theorem d_mul (A : DE X K a ta f) (B : DE X K b tb g) : DE X K (.BinOp a .Mult b pos) (tOp (rMulA K) ta tb) (eOp mulD f g) := by
  have hK := A.hk
  subst hK
  exact ⟨rfl, pe_op op_mulA A.pe B.pe, gd_op og_mulA A.gd B.gd⟩
theorem d_fdiv (A : DE X K a ta f) (B : DE X K b tb g) : DE X K (.BinOp a .FloorDiv b pos) (tOp (rI CDiv fun i j => .int (i / j)) ta tb) (eOp fdivD f g) := by
  have hK := A.hk
  subst hK
  exact ⟨rfl, pe_op op_fdiv A.pe B.pe, gd_op og_fdiv A.gd B.gd⟩
theorem d_mod (A : DE X K a ta f) (B : DE X K b tb g) : DE X K (.BinOp a .Mod b pos) (tOp (rI (fun _ j => 0 < j) fun i j => .int (i % j)) ta tb) (eOp modD f g) := by
  have hK := A.hk
  subst hK
  exact ⟨rfl, pe_op op_mod A.pe B.pe, gd_op og_mod A.gd B.gd⟩
theorem d_pow (A : DE X K a ta f) (B : DE X K b tb g) : DE X K (.BinOp a .Pow b pos) (tOp (rI CPow fun i j => .int (i ^ j.toNat)) ta tb) (eOp powD f g) := by
  have hK := A.hk
  subst hK
  exact ⟨rfl, pe_op op_pow A.pe B.pe, gd_op og_pow A.gd B.gd⟩
theorem d_neg (A : DE X K a ta f) : DE X K (.UnaryOp .USub a pos) (tUn (rU fun i => .int (-i)) ta) (eUn negD f) := by
  have hK := A.hk
  subst hK
  exact ⟨rfl, pe_un un_neg A.pe, gd_un ug_neg A.gd⟩
/-! comparisons: the operator's rule and its function in one -/
structure CmpOk (X : Cx) (K : PySem.W.Frag) (op : CmpOp) (r : R2) (h : D → D → Option D) : Prop where
  op : X.K = K → OpR X (compareOp op) r
  og : OpG K r h
theorem c_lt : CmpOk X K .Lt (rI0 fun i j => .bl (decide (i < j))) ltD := ⟨fun hK => by subst hK; exact op_lt, og_lt⟩
theorem c_le : CmpOk X K .LtE (rI0 fun i j => .bl (decide (i ≤ j))) leD := ⟨fun hK => by subst hK; exact op_le, og_le⟩
theorem c_gt : CmpOk X K .Gt (rI0 fun i j => .bl (decide (j < i))) gtD := ⟨fun hK => by subst hK; exact op_gt, og_gt⟩
theorem c_ge : CmpOk X K .GtE (rI0 fun i j => .bl (decide (j ≤ i))) geD := ⟨fun hK => by subst hK; exact op_ge, og_ge⟩
theorem c_eq (hu : X.A.units + 64 < cLine) : CmpOk X K .Eq (rEqM K) eqD := ⟨fun hK => by subst hK; exact op_eqM hu, og_eq⟩
theorem c_ne (hu : X.A.units + 64 < cLine) : CmpOk X K .NotEq (rNeM K) neD := ⟨fun hK => by subst hK; exact op_neM hu, og_ne⟩
theorem c_is : CmpOk X K .Is rIsNn isND := ⟨fun hK => by subst hK; exact op_isN, og_isN⟩
theorem c_isnot : CmpOk X K .IsNot rNotNn notND := ⟨fun hK => by subst hK; exact op_notN, og_notN⟩
theorem c_in : CmpOk X K .In (rIn K false) inD := ⟨fun hK => by subst hK; exact op_in_seq, og_in⟩
theorem c_nin : CmpOk X K .NotIn (rIn K true) ninD := ⟨fun hK => by subst hK; exact op_notIn_seq, og_nin⟩
variable {op op' : CmpOp} {r r' : R2} {h h' : D → D → Option D}
theorem d_cmp (C : CmpOk X K op r h) (A : DE X K a ta f) (B : DE X K b tb g) (hm : behindInMarks op b = false := by first | exact nomark _ | rfl) : DE X K (.Compare a [op] [b] pos) (tOp r ta tb) (eOp h f g) := by
  have hK := A.hk
  subst hK
  exact ⟨rfl, pe_cmpR (C.op rfl) A.pe B.pe hm, gd_op C.og A.gd B.gd⟩
theorem t_cmp (C : CmpOk X K op r h) (A : DE X K a ta f) (B : DE X K b tb g) (hm : behindInMarks op b = false := by first | exact nomark _ | rfl) : DT X K (.Compare a [op] [b] pos) (tTest (tOp r ta tb)) (bVal (eOp h f g)) := by
  have hK := A.hk
  subst hK
  exact ⟨rfl, pt_cmpR (C.op rfl) A.pe B.pe hm, gb_test (gd_op C.og A.gd B.gd)⟩
/-- .. with lists of one's own lent -/
theorem t_cmpLend (C : CmpOk X K op r h) (A : DE X K a ta f) (B : DE X K b tb g) (hm : behindInMarks op b = false := by first | exact nomark _ | rfl) : DT X K (.Compare a [op] [b] pos) (tTest (tOp r ta tb)) (bVal (eLend (eOp h f g))) := by
  have hK := A.hk
  subst hK
  exact ⟨rfl, pt_cmpR (C.op rfl) A.pe B.pe hm, gb_test (gd_lend (gd_op C.og A.gd B.gd))⟩
theorem d_lend (A : DE X K a ta f) : DE X K a ta (eLend f) := by
  have hK := A.hk
  subst hK
  exact ⟨rfl, A.pe, gd_lend A.gd⟩
theorem d_chain (C : CmpOk X K op r h) (C' : CmpOk X K op' r' h') (A : DE X K a ta f) (B : DE X K b tb g) (B' : DE X K c tc k) (hm : lastMarks [op, op'] [b, c] = false := by with_unfolding_all rfl) : DE X K (.Compare a [op, op'] [b, c] pos) (tChain r r' ta tb tc) (eChain h h' f g k) := by
  have hK := A.hk
  subst hK
  exact ⟨rfl, pe_chain (C.op rfl) (C'.op rfl) A.pe B.pe B'.pe hm, gd_chain C.og C'.og A.gd B.gd B'.gd⟩
theorem t_chain (C : CmpOk X K op r h) (C' : CmpOk X K op' r' h') (A : DE X K a ta f) (B : DE X K b tb g) (B' : DE X K c tc k) (hm : lastMarks [op, op'] [b, c] = false := by with_unfolding_all rfl) : DT X K (.Compare a [op, op'] [b, c] pos) (tTest (tChain r r' ta tb tc)) (bVal (eChain h h' f g k)) := by
  have hK := A.hk
  subst hK
  exact ⟨rfl, pt_chain (C.op rfl) (C'.op rfl) A.pe B.pe B'.pe hm, gb_test (gd_chain C.og C'.og A.gd B.gd B'.gd)⟩
theorem t_val (A : DE X K a ta f) (he : ∀ whole, isTrue a X.env whole = (do let v ← whole; standAt a.pos; holding [v] (truthy v)) := by intro _; rfl) : DT X K a (tB ta) (bVal f) := by
  have hK := A.hk
  subst hK
  exact ⟨rfl, pt_val A.pe he, gb_val A.gd⟩
theorem t_not (A : DT X K a tt fb) : DT X K (.UnaryOp .Not a pos) (tNot tt) (bNot fb) := by
  have hK := A.hk
  subst hK
  exact ⟨rfl, pt_not A.pt, gb_not A.gd⟩
theorem w_and1 (A : DT X K a tt fb) : DW X K (.BoolOp .And [a] pos) tt fb := by
  have hK := A.hk
  subst hK
  exact ⟨rfl, pw_and1 A.pt, A.gd⟩
theorem w_or1 (A : DT X K a tt fb) : DW X K (.BoolOp .Or [a] pos) tt fb := by
  have hK := A.hk
  subst hK
  exact ⟨rfl, pw_or1 A.pt, A.gd⟩
theorem w_and (A : DT X K a tt fb) (B : DW X K (.BoolOp .And (b :: es) pos) tu gb) : DW X K (.BoolOp .And (a :: b :: es) pos) (tAnd tt tu) (bAnd fb gb) := by
  have hK := A.hk
  subst hK
  exact ⟨rfl, pw_and A.pt B.pw, gb_and A.gd B.gd⟩
theorem w_or (A : DT X K a tt fb) (B : DW X K (.BoolOp .Or (b :: es) pos) tu gb) : DW X K (.BoolOp .Or (a :: b :: es) pos) (tOr tt tu) (bOr fb gb) := by
  have hK := A.hk
  subst hK
  exact ⟨rfl, pw_or A.pt B.pw, gb_or A.gd B.gd⟩
theorem t_w (A : DW X K a tt fb) : DT X K a tt fb := by
  have hK := A.hk
  subst hK
  exact ⟨rfl, A.pw.pt, A.gd⟩
theorem d_one {op} (A : DE X K a ta f) : DE X K (.BoolOp op [a] pos) ta f := by
  have hK := A.hk
  subst hK
  exact ⟨rfl, pe_one A.pe, A.gd⟩
theorem d_and (A : DE X K a ta f) (B : DE X K (.BoolOp .And (b :: es) pos) tb g) : DE X K (.BoolOp .And (a :: b :: es) pos) (tAndV ta tb) (eAnd f g) := by
  have hK := A.hk
  subst hK
  exact ⟨rfl, pe_and A.pe B.pe, gd_and A.gd B.gd⟩
theorem d_or (A : DE X K a ta f) (B : DE X K (.BoolOp .Or (b :: es) pos) tb g) : DE X K (.BoolOp .Or (a :: b :: es) pos) (tOrV ta tb) (eOr f g) := by
  have hK := A.hk
  subst hK
  exact ⟨rfl, pe_or A.pe B.pe, gd_or A.gd B.gd⟩
theorem d_not (A : DE X K a ta f) : DE X K (.UnaryOp .Not a pos) (tNotV ta) (eNot f) := by
  have hK := A.hk
  subst hK
  exact ⟨rfl, pe_not A.pe, gd_not A.gd⟩
theorem d_if (C : DT X K c tt fb) (A : DE X K a ta f) (B : DE X K b tb g) : DE X K (.IfExp c a b pos) (tIf tt ta tb) (eIf fb f g) := by
  have hK := A.hk
  subst hK
  exact ⟨rfl, pe_ifExp C.pt A.pe B.pe, gd_if C.gd A.gd B.gd⟩
theorem a_nil (hK : X.K = K := by rfl) : DA X K [] tNil aNil := by
  subst hK
  exact ⟨rfl, pa_nil, ga_nil⟩
theorem a_cons (A : DE X K a ta f) (B : DA X K es t fa) (hs : starEach (a :: es) X.env = (false, eval a X.env) :: starEach es X.env := by rfl) : DA X K (a :: es) (tCons ta t) (aCons f fa) := by
  have hK := A.hk
  subst hK
  exact ⟨rfl, pa_cons A.pe B.pa hs, ga_cons A.gd B.gd⟩
theorem d_tup {x1} (A : DA X K es t fa) : DE X K (.Tuple es x1 pos) (tTup t) (eTup fa) := by
  have hK := A.hk
  subst hK
  exact ⟨rfl, pe_tup A.pa, gd_tup A.gd⟩
theorem n_lst (A : DA X K es t fa) : DN X K (.List es pos) (tLst t) (lLst fa) := by
  have hK := A.hk
  subst hK
  exact ⟨rfl, pe_lst A.pa, gl_lst A.gd⟩
theorem d_n (A : DN X K a ta fa) : DE X K a ta (eL fa) := by
  have hK := A.hk
  subst hK
  exact ⟨rfl, A.pe, gd_l A.gd⟩
theorem r_d (A : DE X K a ta f) : DR X K a ta (rE f) := by
  have hK := A.hk
  subst hK
  exact ⟨rfl, A.pe, gr_e A.gd⟩
theorem r_n (A : DN X K a ta fa) : DR X K a ta fa := by
  have hK := A.hk
  subst hK
  exact ⟨rfl, A.pe, gr_l A.gd⟩
theorem q_n (A : DN X K a ta fa) : DQ X K a ta fa := by
  have hK := A.hk
  subst hK
  exact ⟨rfl, A.pe, gq_l A.gd⟩
theorem q_d (A : DE X K a ta f) : DQ X K a ta (qE f) := by
  have hK := A.hk
  subst hK
  exact ⟨rfl, A.pe, gq_e A.gd⟩
theorem d_ix (A : DR X K a ta fa) (B : DE X K b tb g) (hs : PlainIx b := by exact fun _ _ => rfl) : DE X K (.Subscript a b pos) (tOp (rIx K) ta tb) (eIx fa g) := by
  have hK := A.hk
  subst hK
  exact ⟨rfl, pe_ix ix_seq A.pe B.pe hs, gd_ix A.gd B.gd⟩
theorem d_rowIx (i : Nat) {x : Str} (B : DE X K b tb g) (hN : X.N[i]? = some x := by rfl) (hv : Vis X.env.scope x := by first | exact Or.inl rfl | exact Or.inr (Or.inl rfl) | exact Or.inr (Or.inr rfl)) (hd : (x == ("__debug__" : Str)) = false := by decide)
    (hcd : (x == ("__classdict__" : Str)) = false := by decide) (hs : PlainIx b := by exact fun _ _ => rfl) : DE X K (.Subscript (.Name x p) b pos) (tOp (rIx K) (tVar i) tb) (eRowIx i g) := by
  have hK := B.hk
  subst hK
  exact ⟨rfl, pe_ix ix_seq (pe_var hN hv hd hcd) B.pe hs, gd_rowIx i B.gd⟩
theorem o_no (hK : X.K = K := by rfl) : DO X K none tNoPart oNo := by
  subst hK
  exact ⟨rfl, po_none, go_no⟩
theorem o_some (A : DE X K a ta f) : DO X K (some a) (tPart ta) (oPart f) := by
  have hK := A.hk
  subst hK
  exact ⟨rfl, po_some A.pe, go_part A.gd⟩
theorem d_sl {lo hi : Option Expr} {tl th : TO} {fl fh : SO} (A : DE X K a ta f) (L : DO X K lo tl fl) (U : DO X K hi th fh) : DE X K (.Subscript a (.Slice lo hi none p2) pos) (tSl (rSlB K) ta tl th) (eSl f fl fh) := by
  have hK := A.hk
  subst hK
  exact ⟨rfl, pe_slice sl_b A.pe L.po U.po, gd_sl A.gd L.gd U.gd⟩
/-! built-ins -/
theorem d_len (A : DR X K a ta fa) (hm : X.mg "len" = none) (hg : Gl X "len" := by rfl) (hs : starEach (a :: []) X.env = (false, eval a X.env) :: starEach [] X.env := by rfl) (hpl : (backTo pos (starEach [] X.env)).any (·.1) = false := by rfl) : DE X K (.Call (.Name "len" p) [a] [] pos) (tCB (rLenS K) (tCons ta tNil)) (eLen fa) := by
  have hK := A.hk
  subst hK
  exact ⟨rfl, pe_callB call_len_seq hg hm PySem.boot_len (pa_cons A.pe pa_nil hs) (by decide) (by decide) hs hpl, gd_len A.gd⟩
theorem d_tupl (A : DQ X K a ta fa) (hm : X.mg "tuple" = none) (hg : Gl X "tuple" := by rfl) (hs : starEach (a :: []) X.env = (false, eval a X.env) :: starEach [] X.env := by rfl) (hpl : (backTo pos (starEach [] X.env)).any (·.1) = false := by rfl) : DE X K (.Call (.Name "tuple" p) [a] [] pos) (tCB (rTupS K) (tCons ta tNil)) (eTupL fa) := by
  have hK := A.hk
  subst hK
  exact ⟨rfl, pe_callTy call_tuple_of hg hm (by decide +kernel) (pa_cons A.pe pa_nil hs) (by decide) (by decide) hs hpl, gd_tupl A.gd⟩
theorem d_int1 (A : DE X K a ta f) (hm : X.mg "int" = none) (hg : Gl X "int" := by rfl) (hs : starEach (a :: []) X.env = (false, eval a X.env) :: starEach [] X.env := by rfl) (hpl : (backTo pos (starEach [] X.env)).any (·.1) = false := by rfl) : DE X K (.Call (.Name "int" p) [a] [] pos) (tCB rInt1 (tCons ta tNil)) (eUn intD f) := by
  have hK := A.hk
  subst hK
  exact ⟨rfl, pe_callTy call_int1 hg hm (by decide +kernel) (pa_cons A.pe pa_nil hs) (by decide) (by decide) hs hpl, gd_int A.gd⟩
theorem d_min2 (A : DE X K a ta f) (B : DE X K b tb g) (hm : X.mg "min" = none) (hc : X.calm = true := by rfl) (hg : Gl X "min" := by rfl) (hs : starEach (a :: [b]) X.env = (false, eval a X.env) :: starEach [b] X.env := by rfl) (hs2 : starEach (b :: []) X.env = (false, eval b X.env) :: starEach [] X.env := by rfl)
    (hpl : (backTo pos (starEach [b] X.env)).any (·.1) = false := by rfl) :
    DE X K (.Call (.Name "min" p) [a, b] [] pos) (tCB rMin2 (tCons ta (tCons tb tNil))) (eOp minD f g) := by
  have hK := A.hk
  subst hK
  exact ⟨rfl, pe_callB (call_min2 hc) hg hm (by decide +kernel) (pa_cons A.pe (pa_cons B.pe pa_nil hs2) hs) (by decide) (by decide) hs hpl, gd_min2 A.gd B.gd⟩
theorem d_sum (A : DQ X K a ta fa) (hm : X.mg "sum" = none) (hc : X.calm = true := by rfl) (hg : Gl X "sum" := by rfl) (hs : starEach (a :: []) X.env = (false, eval a X.env) :: starEach [] X.env := by rfl) (hpl : (backTo pos (starEach [] X.env)).any (·.1) = false := by rfl) : DE X K (.Call (.Name "sum" p) [a] [] pos) (tCB (rSum K) (tCons ta tNil)) (eSum fa) := by
  have hK := A.hk
  subst hK
  exact ⟨rfl, pe_callB (cr_sum hc) hg hm (by decide +kernel) (pa_cons A.pe pa_nil hs) (by decide) (by decide) hs hpl, gd_sum A.gd⟩
theorem ty_pe {x : Str} {T : String} (hb : bootBuiltins x = some (.type T)) (hm : X.mg x = none) (hg : Gl X x) (hn : x ≠ "__name__" := by decide) (hd : (x == ("__debug__" : Str)) = false := by decide) : PE X (.Name x pos) (tC (.ty T)) := pe_bltn hg hm hb rfl hn hd
theorem d_isi {x : Str} {T : String} (A : DE X K a ta f) (mi : X.mg "isinstance" = none) (mt : X.mg x = none) (hb : bootBuiltins x = some (.type T) := by decide +kernel) (hgi : Gl X "isinstance" := by rfl) (hg : Gl X x := by rfl) (hn : x ≠ "__name__" := by decide) (hd : (x == ("__debug__" : Str)) = false := by decide)
    (hs : starEach (a :: [.Name x p2]) X.env = (false, eval a X.env) :: starEach [.Name x p2] X.env := by rfl) (hs2 : starEach (.Name x p2 :: []) X.env = (false, eval (.Name x p2) X.env) :: starEach [] X.env := by rfl) (hpl : (backTo pos (starEach [.Name x p2] X.env)).any (·.1) = false := by rfl) :
    DE X K (.Call (.Name "isinstance" p) [a, .Name x p2] [] pos) (tCB (rIsi K) (tCons ta (tCons (tC (.ty T)) tNil))) (eIsI T f) := by
  have hK := A.hk
  subst hK
  exact ⟨rfl, pe_callB call_isi hgi mi (by decide +kernel) (pa_cons A.pe (pa_cons (ty_pe hb mt hg hn hd) pa_nil hs2) hs) (by decide) (by decide) hs hpl, gd_isi A.gd⟩
theorem d_isi2 {x y : Str} {T U : String} {q1 q2 pt : Pos} {kt} (A : DE X K a ta f) (mi : X.mg "isinstance" = none) (mt : X.mg x = none) (mu : X.mg y = none) (hb : bootBuiltins x = some (.type T) := by decide +kernel) (hb2 : bootBuiltins y = some (.type U) := by decide +kernel) (hgi : Gl X "isinstance" := by rfl) (hg : Gl X x := by rfl) (hg2 : Gl X y := by rfl)
    (hn : x ≠ "__name__" := by decide) (hd : (x == ("__debug__" : Str)) = false := by decide) (hn2 : y ≠ "__name__" := by decide) (hd2 : (y == ("__debug__" : Str)) = false := by decide)
    (hs : starEach (a :: [.Tuple [.Name x q1, .Name y q2] kt pt]) X.env = (false, eval a X.env) :: starEach [.Tuple [.Name x q1, .Name y q2] kt pt] X.env := by rfl) (hs2 : starEach (.Tuple [.Name x q1, .Name y q2] kt pt :: []) X.env = (false, eval (.Tuple [.Name x q1, .Name y q2] kt pt) X.env) :: starEach [] X.env := by rfl)
    (hs3 : starEach (.Name x q1 :: [.Name y q2]) X.env = (false, eval (.Name x q1) X.env) :: starEach [.Name y q2] X.env := by rfl) (hs4 : starEach (.Name y q2 :: []) X.env = (false, eval (.Name y q2) X.env) :: starEach [] X.env := by rfl)
    (hpl : (backTo pos (starEach [.Tuple [.Name x q1, .Name y q2] kt pt] X.env)).any (·.1) = false := by rfl) :
    DE X K (.Call (.Name "isinstance" p) [a, .Tuple [.Name x q1, .Name y q2] kt pt] [] pos) (tCB (rIsiT K) (tCons ta (tCons (tTup (tCons (tC (.ty T)) (tCons (tC (.ty U)) tNil))) tNil))) (eIsI2 T U f) := by
  have hK := A.hk
  subst hK
  exact ⟨rfl, pe_callB call_isiT hgi mi (by decide +kernel) (pa_cons A.pe (pa_cons (pe_tup (pa_cons (ty_pe hb mt hg hn hd) (pa_cons (ty_pe hb2 mu hg2 hn2 hd2) pa_nil hs4) hs3)) pa_nil hs2) hs) (by decide) (by decide) hs hpl, gd_isi2 A.gd⟩
theorem d_tuprng {pr : Pos} (A : DE X K a ta f) (hm : X.mg "tuple" = none) (hm2 : X.mg "range" = none) (hc : X.calm = true := by rfl) (hg : Gl X "tuple" := by rfl) (hg2 : Gl X "range" := by rfl)
    (hs : starEach [a] X.env = (false, eval a X.env) :: starEach [] X.env := by rfl) (hs2 : starEach [.Call (.Name "range" p2) [a] [] pr] X.env = (false, eval (.Call (.Name "range" p2) [a] [] pr) X.env) :: starEach [] X.env := by rfl) :
    DE X K (.Call (.Name "tuple" p) [.Call (.Name "range" p2) [a] [] pr] [] pos) (tTupRg (tRg1 ta)) (eTupRng f) := by
  have hK := A.hk
  subst hK
  exact ⟨rfl, pe_tupRg hc hg hm (prg_1 hg2 hm2 A.pe hs) hs2, gd_tuprng A.gd⟩
theorem n_listrng {pr : Pos} (A : DE X K a ta f) (hm : X.mg "list" = none) (hm2 : X.mg "range" = none) (hc : X.calm = true := by rfl) (hg : Gl X "list" := by rfl) (hg2 : Gl X "range" := by rfl)
    (hs : starEach [a] X.env = (false, eval a X.env) :: starEach [] X.env := by rfl) (hs2 : starEach [.Call (.Name "range" p2) [a] [] pr] X.env = (false, eval (.Call (.Name "range" p2) [a] [] pr) X.env) :: starEach [] X.env := by rfl) :
    DN X K (.Call (.Name "list" p) [.Call (.Name "range" p2) [a] [] pr] [] pos) (tLstRg (tRg1 ta)) (lListRng f) := by
  have hK := A.hk
  subst hK
  exact ⟨rfl, pe_listRg hc hg hm (prg_1 hg2 hm2 A.pe hs) hs2, gl_listrng A.gd⟩
/-! calls -/
section
variable {kk n : Nat} {x : Str}
theorem d_call {fn : List D → Option D} (C : Callee X.prog X.w K X.mg X.base kk x (spP K n fn)) (hr : Room kk X.A) (A : DA X K (e :: es) t fa) (hg : Gl X x := by rfl) (hdb : (x == ("__debug__" : Str)) = false := by decide)
    (he : starEach (e :: es) X.env = (false, eval e X.env) :: starEach es X.env := by rfl) (hpl : (backTo pos (starEach es X.env)).any (·.1) = false := by rfl) : DE X K (.Call (.Name x p) (e :: es) [] pos) (tCall (spP K n fn) [] E0 t) (eCall n fn fa) := by
  have hK := A.hk
  subst hK
  obtain ⟨f, fd, ps, F, hm, hk, hb⟩ := C.ex
  exact ⟨rfl, pe_call F hr hg hm hk hb .nil pass0 A.pa hdb he hpl, gd_call A.gd⟩
theorem n_call {fn : List D → Option (List D)} (C : Callee X.prog X.w K X.mg X.base kk x (spPL K n fn)) (hr : Room kk X.A) (A : DA X K (e :: es) t fa) (hg : Gl X x := by rfl) (hdb : (x == ("__debug__" : Str)) = false := by decide)
    (he : starEach (e :: es) X.env = (false, eval e X.env) :: starEach es X.env := by rfl) (hpl : (backTo pos (starEach es X.env)).any (·.1) = false := by rfl) : DN X K (.Call (.Name x p) (e :: es) [] pos) (tCall (spPL K n fn) [] E0 t) (lCall n fn fa) := by
  have hK := A.hk
  subst hK
  obtain ⟨f, fd, ps, F, hm, hk, hb⟩ := C.ex
  exact ⟨rfl, pe_call F hr hg hm hk hb .nil pass0 A.pa hdb he hpl, gl_call A.gd⟩
theorem d_callR (i : Nat) {y : Str} {fn : List D → Row → Option (D × Row)} (C : Callee X.prog X.w K X.mg X.base kk x (spR K n fn)) (hr : Room kk X.A) (A : DA X K es t fa) (hN : X.N[i]? = some y := by rfl) (hv : Vis X.env.scope y := by first | exact Or.inl rfl | exact Or.inr (Or.inl rfl) | exact Or.inr (Or.inr rfl))
    (hd2 : (y == ("__debug__" : Str)) = false := by decide) (hcd : (y == ("__classdict__" : Str)) = false := by decide) (hg : Gl X x := by rfl) (hdb : (x == ("__debug__" : Str)) = false := by decide)
    (he : starEach (.Name y p2 :: es) X.env = (false, eval (.Name y p2) X.env) :: starEach es X.env := by rfl) (hpl : (backTo pos (starEach es X.env)).any (·.1) = false := by rfl) : DE X K (.Call (.Name x p) (.Name y p2 :: es) [] pos) (tCall (spR K n fn) [] E0 (tCons (tVar i) t)) (eCallR i n fn fa) := by
  have hK := A.hk
  subst hK
  obtain ⟨f, fd, ps, F, hm, hk, hb⟩ := C.ex
  exact ⟨rfl, pe_call F hr hg hm hk hb .nil pass0 (pa_cons (pe_var hN hv hd2 hcd) A.pa he) hdb he hpl, gd_callR i A.gd⟩
theorem n_callR (i : Nat) {y : Str} {fn : List D → Row → Option (List D × Row)} (C : Callee X.prog X.w K X.mg X.base kk x (spRL K n fn)) (hr : Room kk X.A) (A : DA X K es t fa) (hN : X.N[i]? = some y := by rfl) (hv : Vis X.env.scope y := by first | exact Or.inl rfl | exact Or.inr (Or.inl rfl) | exact Or.inr (Or.inr rfl))
    (hd2 : (y == ("__debug__" : Str)) = false := by decide) (hcd : (y == ("__classdict__" : Str)) = false := by decide) (hg : Gl X x := by rfl) (hdb : (x == ("__debug__" : Str)) = false := by decide)
    (he : starEach (.Name y p2 :: es) X.env = (false, eval (.Name y p2) X.env) :: starEach es X.env := by rfl) (hpl : (backTo pos (starEach es X.env)).any (·.1) = false := by rfl) : DN X K (.Call (.Name x p) (.Name y p2 :: es) [] pos) (tCall (spRL K n fn) [] E0 (tCons (tVar i) t)) (lCallR i n fn fa) := by
  have hK := A.hk
  subst hK
  obtain ⟨f, fd, ps, F, hm, hk, hb⟩ := C.ex
  exact ⟨rfl, pe_call F hr hg hm hk hb .nil pass0 (pa_cons (pe_var hN hv hd2 hcd) A.pa he) hdb he hpl, gl_callR i A.gd⟩
end
/-! targets, walks, comprehensions -/
section
variable {tg : Expr} {T : TG} {hh : SG} {ws : List Nat}
theorem g_name (i : Nat) {x : Str} (nd : X.N.Nodup) (hi : X.N[i]? = some x := by rfl) (hx : Loc X.env.scope x := by first | exact .inl rfl | exact .inr rfl) (hf : X.fn x = true ∨ X.env.scope.names.lookup x = some .local := by first | exact .inl rfl | exact .inr rfl) (hK : X.K = K := by rfl) : DG X K (.Name x pos) (gName i) (hName i) [i] := by
  subst hK
  exact ⟨rfl, pg_name nd hi hx hf, gg_name i⟩
theorem gs_nil (hK : X.K = K := by rfl) : DGs X K [] gNil hNil [] 0 := by
  subst hK
  exact ⟨rfl, pgs_nil, ggs_nil, hn_nil⟩
theorem gs_cons {T : TG} {h : SG} {ws us : List Nat} {n : Nat} {Ts : TGs} {hs : List D → Env → Option Env} (A : DG X K e T h ws) (B : DGs X K es Ts hs us n) (q : (assignEach (e :: es) X.env).map (·.2) = assign e X.env :: (assignEach es X.env).map (·.2) := by rfl) : DGs X K (e :: es) (gCons T Ts) (hCons h hs) (ws ++ us) (n + 1) := by
  have hK := A.hk
  subst hK
  exact ⟨rfl, pgs_cons A.pg B.pg q, ggs_cons A.gd B.gd, hn_cons B.ln⟩
theorem g_tup {kq n : Nat} {Ts : TGs} {hs : List D → Env → Option Env} (B : DGs X K es Ts hs ws n) (hc : X.calm = true := by rfl) (hn : (assignEach es X.env).length = n := by rfl) (hst : (assignEach es X.env).findIdx? (·.1) = none := by rfl) : DG X K (.Tuple es kq pos) (gTup K n Ts) (hTup hs) ws := by
  have hK := B.hk
  subst hK
  exact ⟨rfl, pg_tup hc B.pg hn hst, gg_tup B.gd B.ln⟩
theorem i_seq (A : DE X K a ta f) : DF X K tg a (iSeq K ta) (rE f) := by
  have hK := A.hk
  subst hK
  exact ⟨rfl, pi_seq A.pe, gf_seq A.gd⟩
theorem i_rng1 (A : DE X K a ta f) (hm : X.mg "range" = none) (hg : Gl X "range" := by rfl) (hs : starEach [a] X.env = (false, eval a X.env) :: starEach [] X.env := by rfl) (hs1 : starEach [a] X.env = [(false, eval a X.env)] := by rfl) : DF X K tg (.Call (.Name "range" p) [a] [] pos) (iRng1 (tCons ta tNil)) (i1Rng f) := by
  have hK := A.hk
  subst hK
  exact ⟨rfl, pi_range1 hg hm (pa_cons A.pe pa_nil hs) hs1, gf_rng1 A.gd⟩
theorem i_rng2 (A : DE X K a ta f) (B : DE X K b tb g) (hm : X.mg "range" = none) (hg : Gl X "range" := by rfl) (hs : starEach (a :: [b]) X.env = (false, eval a X.env) :: starEach [b] X.env := by rfl) (hs2 : starEach (b :: []) X.env = (false, eval b X.env) :: starEach [] X.env := by rfl)
    (hs3 : starEach [a, b] X.env = [(false, eval a X.env), (false, eval b X.env)] := by rfl) (hs4 : starEach [b] X.env = [(false, eval b X.env)] := by rfl) : DF X K tg (.Call (.Name "range" p) [a, b] [] pos) (iRng2 (tCons ta (tCons tb tNil))) (i2Rng f g) := by
  have hK := A.hk
  subst hK
  exact ⟨rfl, pi_range2 hg hm (pa_cons A.pe (pa_cons B.pe pa_nil hs2) hs) hs3 hs4, gf_rng2 A.gd B.gd⟩
theorem ic_f {wi : TI} (A : DF X K tg a wi fa) : DC X K tg a wi fa := by
  have hK := A.hk
  subst hK
  exact ⟨rfl, A.pi, gc_f A.gd⟩
theorem ic_seq (A : DR X K a ta fa) : DC X K tg a (iSeq K ta) fa := by
  have hK := A.hk
  subst hK
  exact ⟨rfl, pi_seq A.pe, gc_seq A.gd⟩
theorem p_nil (hK : X.K = K := by rfl) : DP X K [] tYes bYes := by
  subst hK
  exact ⟨rfl, pts_nil, gb_yes⟩
theorem p_one (A : DT X K c tt fb) : DP X K [c] tt fb := by
  have hK := A.hk
  subst hK
  exact ⟨rfl, pts_one A.pt, A.gd⟩
theorem n_lc {elt iter : Expr} {ifs : List Expr} {scope : Scope} {own : List (Str × Nat)} {wi : TI} {fi : SA} {vs : List Nat} (I : DC X K tg iter wi fi) (ok : BlkOk X.N X.env.scope scope own) (nd : X.N.Nodup) (hw : ∀ i, i ∈ ws → i ∈ own.map (·.2))
    (G : ∀ (s : Shared) (H : Hp) (C : Addr) (cl : List (Str × Addr)) (fp : List Addr), DG (X.blk s H scope (compEnvC scope cl C X.env) fp) K tg T hh ws) (P : ∀ (s : Shared) (H : Hp) (C : Addr) (cl : List (Str × Addr)) (fp : List Addr), DP (X.blk s H scope (compEnvC scope cl C X.env) fp) K ifs tt fb)
    (E : ∀ (s : Shared) (H : Hp) (C : Addr) (cl : List (Str × Addr)) (fp : List Addr), DE (X.blk s H scope (compEnvC scope cl C X.env) fp) K elt te f) (hc : X.calm = true := by rfl) (hs : ∀ x, foldedSetIterable iter X.env x = pure x := by intro _; rfl) (hvs : own.map (·.2) = vs := by rfl) :
    DN X K (.ListComp elt [⟨tg, iter, ifs, 0⟩] scope pos) (tLc wi T tt te (own.map (·.2))) (lComp fi hh fb f vs) := by
  have hK := I.hk
  subst hK
  subst hvs
  exact ⟨rfl, pe_lc hc nd I.pi ok (fun s H C cl fp => (G s H C cl fp).pg) (fun s H C cl fp => (P s H C cl fp).pt) (fun s H C cl fp => (E s H C cl fp).pe) hs,
    gl_comp I.gd (G X.s_0 X.H_0 0 [] []).gd hw (P X.s_0 X.H_0 0 [] []).gd (E X.s_0 X.H_0 0 [] []).gd⟩
end
/-! statements -/
section
variable {st : Stmt} {rest : List Stmt} {ts us : TS} {sf sg : SS} {tg : Expr} {T : TG} {hh : SG} {ws : List Nat}
theorem ss_nil (hK : X.K = K := by rfl) : DSs X K W [] tNext sNext := by
  subst hK
  exact ⟨rfl, pss_nil, gs_next⟩
theorem ss_cons (A : DS X K W st ts sf) (B : DSs X K W rest us sg) : DSs X K W (st :: rest) (tSeq ts us) (sSeq sf sg) := by
  have hK := A.hk
  subst hK
  exact ⟨rfl, pss_cons A.ps B.ps, gs_seq A.gd B.gd⟩
theorem ss_one (A : DS X K W st ts sf) : DSs X K W [st] ts sf := by
  have hK := A.hk
  subst hK
  exact ⟨rfl, pss_one A.ps, A.gd⟩
theorem s_never (hK : X.K = K := by rfl) : DS X K W st tNever sNone := by
  subst hK
  exact ⟨rfl, ps_never, gs_never⟩
theorem s_pass (hK : X.K = K := by rfl) : DS X K W (.Pass pos) tNext sNext := by
  subst hK
  exact ⟨rfl, ps_pass, gs_next⟩
theorem s_if {x y : List Stmt} (C : DT X K c tt fb) (A : DSs X K W x ts sf) (B : DSs X K W y us sg) : DS X K W (.If c x y pos) (tIfS tt ts us) (sIf fb sf sg) := by
  have hK := A.hk
  subst hK
  exact ⟨rfl, ps_if C.pt A.ps B.ps, gs_if C.gd A.gd B.gd⟩
theorem s_ret (A : DE X K e te f) : DS X K W (.Return (some e) pos) (tRet te) (sRet f) := by
  have hK := A.hk
  subst hK
  exact ⟨rfl, ps_ret A.pe, gs_ret A.gd⟩
theorem s_retL (A : DN X K e te fa) : DS X K W (.Return (some e) pos) (tRet te) (sRetL fa) := by
  have hK := A.hk
  subst hK
  exact ⟨rfl, ps_ret A.pe, gs_retL A.gd⟩
theorem s_retN (hK : X.K = K := by rfl) : DS X K W (.Return none pos) tRetN sRetN := by
  subst hK
  exact ⟨rfl, ps_retN, gs_retN⟩
theorem s_retOwn (i : Nat) {x : Str} (hN : X.N[i]? = some x := by rfl) (hv : Vis X.env.scope x := by first | exact Or.inl rfl | exact Or.inr (Or.inl rfl) | exact Or.inr (Or.inr rfl)) (hd : (x == ("__debug__" : Str)) = false := by decide)
    (hcd : (x == ("__classdict__" : Str)) = false := by decide) (hK : X.K = K := by rfl) : DS X K W (.Return (some (.Name x p)) pos) (tRet (tVar i)) (sRetOwn i) := by
  subst hK
  exact ⟨rfl, ps_ret (pe_var hN hv hd hcd), gs_retOwn i⟩
theorem s_set (i : Nat) {x : Str} {q : Pos} (A : DE X K e te f) (nd : X.N.Nodup) (hi : X.N[i]? = some x := by rfl) (hx : Loc X.env.scope x := by first | exact .inl rfl | exact .inr rfl) (hs : swapsWith e (some (.Name x q)) pos.line X.env = pure false := by rfl)
    (hf : X.fn x = true ∨ X.env.scope.names.lookup x = some .local := by first | exact .inl rfl | exact .inr rfl) : DS X K W (.Assign [.Name x q] e pos) (tAsg te (gName i)) (sSet i f) := by
  have hK := A.hk
  subst hK
  exact ⟨rfl, ps_set nd hi hx A.pe hs hf, gs_set i A.gd⟩
theorem s_setL (i : Nat) {x : Str} {q : Pos} (A : DN X K e te fa) (nd : X.N.Nodup) (hi : X.N[i]? = some x := by rfl) (hx : Loc X.env.scope x := by first | exact .inl rfl | exact .inr rfl) (hs : swapsWith e (some (.Name x q)) pos.line X.env = pure false := by rfl)
    (hf : X.fn x = true ∨ X.env.scope.names.lookup x = some .local := by first | exact .inl rfl | exact .inr rfl) : DS X K W (.Assign [.Name x q] e pos) (tAsg te (gName i)) (sSetL i fa) := by
  have hK := A.hk
  subst hK
  exact ⟨rfl, ps_set nd hi hx A.pe hs hf, gs_setL i A.gd⟩
theorem s_move (i j : Nat) {x y : Str} {q : Pos} (nd : X.N.Nodup) (hN : X.N[j]? = some y := by rfl) (hv : Vis X.env.scope y := by first | exact Or.inl rfl | exact Or.inr (Or.inl rfl) | exact Or.inr (Or.inr rfl)) (hd : (y == ("__debug__" : Str)) = false := by decide)
    (hcd : (y == ("__classdict__" : Str)) = false := by decide) (hi : X.N[i]? = some x := by rfl) (hx : Loc X.env.scope x := by first | exact .inl rfl | exact .inr rfl) (hs : swapsWith (.Name y p) (some (.Name x q)) pos.line X.env = pure false := by rfl)
    (hf : X.fn x = true ∨ X.env.scope.names.lookup x = some .local := by first | exact .inl rfl | exact .inr rfl) (hK : X.K = K := by rfl) : DS X K W (.Assign [.Name x q] (.Name y p) pos) (tAsg (tVar j) (gName i)) (sMove i j) := by
  subst hK
  exact ⟨rfl, ps_set nd hi hx (pe_var hN hv hd hcd) hs hf, gs_move i j⟩
/-- x = [.. for ..] on one line, x a plain local -/
theorem s_lc (i : Nat) {x : Str} {q p' : Pos} {elt iter : Expr} {ifs : List Expr} {scope : Scope} {own : List (Str × Nat)} {wi : TI} {fi : SA} {vs : List Nat} (I : DC X K tg iter wi fi) (ok : BlkOk X.N X.env.scope scope own) (nd : X.N.Nodup) (hw : ∀ i, i ∈ ws → i ∈ own.map (·.2))
    (G : ∀ (s : Shared) (H : Hp) (C : Addr) (cl : List (Str × Addr)) (fp : List Addr), DG (X.blk s H scope (compEnvC scope cl C X.env) fp) K tg T hh ws) (P : ∀ (s : Shared) (H : Hp) (C : Addr) (cl : List (Str × Addr)) (fp : List Addr), DP (X.blk s H scope (compEnvC scope cl C X.env) fp) K ifs tt fb)
    (E : ∀ (s : Shared) (H : Hp) (C : Addr) (cl : List (Str × Addr)) (fp : List Addr), DE (X.blk s H scope (compEnvC scope cl C X.env) fp) K elt te f) (hy : X.N[i]? = some x := by rfl) (hyl : X.env.scope.names.lookup x = some .local := by rfl)
    (hsw : swapsWith (.ListComp elt [⟨tg, iter, ifs, 0⟩] scope pos) (some (.Name x q)) p'.line X.env = pure true := by exact sw_true rfl rfl rfl (by decide +kernel)) (hc : X.calm = true := by rfl) (hs : ∀ x, foldedSetIterable iter X.env x = pure x := by intro _; rfl) (hvs : own.map (·.2) = vs := by rfl) :
    DS X K W (.Assign [.Name x q] (.ListComp elt [⟨tg, iter, ifs, 0⟩] scope pos) p') (tAsg (tLc wi T tt te (own.map (·.2))) (gName i)) (sSetL i (lComp fi hh fb f vs)) := by
  have hK := I.hk
  subst hK
  subst hvs
  exact ⟨rfl, ps_setLc hc nd hy hyl hsw I.pi ok (fun s H C cl fp => (G s H C cl fp).pg) (fun s H C cl fp => (P s H C cl fp).pt) (fun s H C cl fp => (E s H C cl fp).pe) hs,
    gs_setL i (gl_comp I.gd (G X.s_0 X.H_0 0 [] []).gd hw (P X.s_0 X.H_0 0 [] []).gd (E X.s_0 X.H_0 0 [] []).gd)⟩
/-- a slot's list, from now on as it is -/
def sFrzB (i : Nat) (f : SS) : SS := fun ρ s => (f ρ s).bind fun o => match o with | .nx ρ' s' => some (.nx (frzE i ρ') s') | .rt d s' => some (.rt d s') | .rl d s' => some (.rl d s') | .bk a s' => some (.bk a s') | .ct a s' => some (.ct a s') | .rd a s' => some (.rd a s') | .ex e a s' => some (.ex e a s')
theorem gs_frzB (i : Nat) {K : PySem.W.Frag} {W : Wish} (a : GoodS K W ts sf) : GoodS K W ts (sFrzB i sf) := fun B M H σ ρ s o ok e D q => by
  obtain ⟨o1, e1, e⟩ := bnd e
  refine a B M H σ ρ s o1 ok e1 D ?_
  cases o1 with
  | nx ρ' s' => cases e; exact fun σ1 H1 M1 ok1 => let ⟨M2, _, ok2⟩ := ok1.frz i; q σ1 H1 M2 ok2
  | rt d s' => cases e; exact q
  | rl d s' => cases e; exact q
  | bk d s' => cases e; exact q
  | ct d s' => cases e; exact q
  | rd d s' => cases e; exact q
  | ex x d s' => cases e; exact q
theorem s_frzB (i : Nat) (A : DS X K W st ts sf) : DS X K W st ts (sFrzB i sf) := by
  have hK := A.hk
  subst hK
  exact ⟨rfl, A.ps, gs_frzB i A.gd⟩
theorem s_frz (i : Nat) (A : DS X K W st ts sf) : DS X K W st ts (sFrz i sf) := by
  have hK := A.hk
  subst hK
  exact ⟨rfl, A.ps, gs_frz i A.gd⟩
theorem s_tgt (A : DE X K e te f) (G : DG X K tg T hh ws) (hs : swapsWithSole [tg] e pos.line X.env = pure false := by rfl) (hw : swappedStores [tg] e X.env = pure none := by rfl) (h1 : (assignEach [tg] X.env).map (·.2) = [assign tg X.env] := by rfl) :
    DS X K W (.Assign [tg] e pos) (tAsg te T) (sTgt hh f) := by
  have hK := A.hk
  subst hK
  exact ⟨rfl, ps_asg A.pe G.pg hs hw h1, gs_tgt A.gd G.gd⟩
theorem s_par (i j : Nat) {x y : Str} {px py pt pt2 : Pos} {kt k2} (A : DE X K a ta f) (B : DE X K b tb g) (nd : X.N.Nodup) (hij : i ≠ j := by decide) (hc : X.calm = true := by rfl) (hi : X.N[i]? = some x := by rfl) (hj : X.N[j]? = some y := by rfl)
    (hx : X.env.scope.names.lookup x = some .local := by rfl) (hy : X.env.scope.names.lookup y = some .local := by rfl) (hs1 : starEach (a :: [b]) X.env = (false, eval a X.env) :: starEach [b] X.env := by rfl) (hs2 : starEach (b :: []) X.env = (false, eval b X.env) :: starEach [] X.env := by rfl)
    (hw : swappedStores [.Tuple [.Name x px, .Name y py] kt pt] (.Tuple [a, b] k2 pt2) X.env = pure (some [x, y]) := by rfl) (hs : swapsWithSole [.Tuple [.Name x px, .Name y py] kt pt] (.Tuple [a, b] k2 pt2) pos.line X.env = pure false := by rfl) :
    DS X K W (.Assign [.Tuple [.Name x px, .Name y py] kt pt] (.Tuple [a, b] k2 pt2) pos) (tPar i j (tCons ta (tCons tb tNil))) (sPar i j f g) := by
  have hK := A.hk
  subst hK
  exact ⟨rfl, ps_par hc nd hi hj hij hx hy (pa_cons A.pe (pa_cons B.pe pa_nil hs2) hs1) hw hs, gs_par A.gd B.gd⟩
theorem s_expr (A : DE X K e te f) (hs : swapsWith e none pos.line X.env = pure false := by rfl) : DS X K W (.Expr e pos) (tDrop te) (sDrop f) := by
  have hK := A.hk
  subst hK
  exact ⟨rfl, ps_expr A.pe hs, gs_drop A.gd⟩
theorem s_app (i : Nat) {x : Str} {q : Pos} (A : DE X K e te f) (hN : X.N[i]? = some x := by rfl) (hv : Vis X.env.scope x := by first | exact Or.inl rfl | exact Or.inr (Or.inl rfl) | exact Or.inr (Or.inr rfl)) (hd : (x == ("__debug__" : Str)) = false := by decide)
    (hcd : (x == ("__classdict__" : Str)) = false := by decide) (hse : starEach (e :: []) X.env = (false, eval e X.env) :: starEach [] X.env := by rfl)
    (hbase : attributeBase (.Name x p2) "append" X.env (eval (.Name x p2) X.env) = eval (.Name x p2) X.env := by rfl)
    (hfew : ((backTo p (starEach (e :: []) X.env)).all (fun x => !x.1) && (backToKw p (keywordEach [] X.env)).all (fun x => x.1.isSome)
      && decide ((e :: []).length + ([] : List Keyword).length + (if ([] : List Keyword).isEmpty then 0 else 1) < 30)) = true := by rfl)
    (hline : (q.endLine == p.line) = true := by rfl) (hplain : (backTo p (starEach [] X.env)).any (·.1) = false := by rfl) (hs : swapsWith (.Call (.Attribute (.Name x p2) "append" q) [e] [] p) none pos.line X.env = pure false := by rfl) :
    DS X K W (.Expr (.Call (.Attribute (.Name x p2) "append" q) [e] [] p) pos) (tDrop (tBM K "list" rAppend (tVar i) (tCons te tNil))) (sApp i f) := by
  have hK := A.hk
  subst hK
  exact ⟨rfl, ps_expr (pe_bm PySem.F.plainAttrs_list PySem.F.slot_list_append PySem.F.type_list_append mt_append (pe_var hN hv hd hcd) (pa_cons A.pe pa_nil hse) hbase hfew hline hse hplain) hs, gs_app i A.gd⟩
theorem s_ext (i : Nat) {x : Str} {q : Pos} (A : DN X K e te fa) (hN : X.N[i]? = some x := by rfl) (hv : Vis X.env.scope x := by first | exact Or.inl rfl | exact Or.inr (Or.inl rfl) | exact Or.inr (Or.inr rfl)) (hd : (x == ("__debug__" : Str)) = false := by decide)
    (hcd : (x == ("__classdict__" : Str)) = false := by decide) (hse : starEach (e :: []) X.env = (false, eval e X.env) :: starEach [] X.env := by rfl)
    (hbase : attributeBase (.Name x p2) "extend" X.env (eval (.Name x p2) X.env) = eval (.Name x p2) X.env := by rfl)
    (hfew : ((backTo p (starEach (e :: []) X.env)).all (fun x => !x.1) && (backToKw p (keywordEach [] X.env)).all (fun x => x.1.isSome)
      && decide ((e :: []).length + ([] : List Keyword).length + (if ([] : List Keyword).isEmpty then 0 else 1) < 30)) = true := by rfl)
    (hline : (q.endLine == p.line) = true := by rfl) (hplain : (backTo p (starEach [] X.env)).any (·.1) = false := by rfl) (hs : swapsWith (.Call (.Attribute (.Name x p2) "extend" q) [e] [] p) none pos.line X.env = pure false := by rfl) :
    DS X K W (.Expr (.Call (.Attribute (.Name x p2) "extend" q) [e] [] p) pos) (tDrop (tBM K "list" rExtend (tVar i) (tCons te tNil))) (sExt i fa) := by
  have hK := A.hk
  subst hK
  exact ⟨rfl, ps_expr (pe_bm PySem.F.plainAttrs_list PySem.F.slot_list_extend PySem.F.type_list_extend mt_extend (pe_var hN hv hd hcd) (pa_cons A.pe pa_nil hse) hbase hfew hline hse hplain) hs, gs_ext i A.gd⟩
theorem s_ownSet (i : Nat) {x : Str} {q pq : Pos} (B : DE X K b tb g) (A : DE X K a ta f) (hN : X.N[i]? = some x := by rfl) (hv : Vis X.env.scope x := by first | exact Or.inl rfl | exact Or.inr (Or.inl rfl) | exact Or.inr (Or.inr rfl)) (hd : (x == ("__debug__" : Str)) = false := by decide)
    (hcd : (x == ("__classdict__" : Str)) = false := by decide) (hsub : ∀ v, assign (.Subscript (.Name x q) b pq) X.env v = (do
      let ov ← holding [v] (eval (.Name x q) X.env)
      let iv ← holding [v, ov] (eval b X.env)
      standAt pq
      holding [v, ov, iv] (setItem ov iv v)
      release [v, ov, iv] []) := by intro _; rfl) (hs : swapsWithSole [.Subscript (.Name x q) b pq] a pos.line X.env = pure false := by rfl) (hw : swappedStores [.Subscript (.Name x q) b pq] a X.env = pure none := by rfl)
    (h1 : (assignEach [.Subscript (.Name x q) b pq] X.env).map (·.2) = [assign (.Subscript (.Name x q) b pq) X.env] := by rfl) : DS X K W (.Assign [.Subscript (.Name x q) b pq] a pos) (tAsg ta (gSub (tVar i) tb rSetL)) (sOwnSet i g f) := by
  have hK := A.hk
  subst hK
  exact ⟨rfl, ps_asg A.pe (pg_sub (pe_var hN hv hd hcd) B.pe set_list hsub) hs hw h1, gs_ownSet i B.gd A.gd⟩
theorem s_rowSet (i : Nat) {x : Str} {q pq : Pos} (B : DE X K b tb g) (A : DE X K a ta f) (hN : X.N[i]? = some x := by rfl) (hv : Vis X.env.scope x := by first | exact Or.inl rfl | exact Or.inr (Or.inl rfl) | exact Or.inr (Or.inr rfl)) (hd : (x == ("__debug__" : Str)) = false := by decide)
    (hcd : (x == ("__classdict__" : Str)) = false := by decide) (hsub : ∀ v, assign (.Subscript (.Name x q) b pq) X.env v = (do
      let ov ← holding [v] (eval (.Name x q) X.env)
      let iv ← holding [v, ov] (eval b X.env)
      standAt pq
      holding [v, ov, iv] (setItem ov iv v)
      release [v, ov, iv] []) := by intro _; rfl) (hs : swapsWithSole [.Subscript (.Name x q) b pq] a pos.line X.env = pure false := by rfl) (hw : swappedStores [.Subscript (.Name x q) b pq] a X.env = pure none := by rfl)
    (h1 : (assignEach [.Subscript (.Name x q) b pq] X.env).map (·.2) = [assign (.Subscript (.Name x q) b pq) X.env] := by rfl) : DS X K W (.Assign [.Subscript (.Name x q) b pq] a pos) (tAsg ta (gSub (tVar i) tb rSetL)) (sRowSet i g f) := by
  have hK := A.hk
  subst hK
  exact ⟨rfl, ps_asg A.pe (pg_sub (pe_var hN hv hd hcd) B.pe set_list hsub) hs hw h1, gs_rowSet i B.gd A.gd⟩
theorem s_for {iter : Expr} {body : List Stmt} {wi : TI} {fi : SA} (hp : PassesOwn (model X.prog X.w) X.A X.env X.xe) (I : DF X K tg iter wi fi) (G : DG X K tg T hh ws) (B : DSs X K W body ts sf) (hc : X.calm = true := by rfl) (hs : ∀ x, foldedSetIterable iter X.env x = pure x := by intro _; rfl) :
    DS X K W (.For tg iter body [] pos) (tFor wi T ts) (sFor fi hh sf) := by
  have hK := B.hk
  subst hK
  exact ⟨rfl, ps_for hp hc I.pi G.pg B.ps hs, gs_for I.gd G.gd B.gd⟩
theorem s_while {body : List Stmt} (n : Nat) (hp : PassesOwn (model X.prog X.w) X.A X.env X.xe) (C : DT X K c tt fb) (B : DSs X K W body ts sf) : DS X K W (.While c body [] pos) (tWhile tt ts) (whileL fb sf n) := by
  have hK := B.hk
  subst hK
  exact ⟨rfl, ps_while hp C.pt B.ps, gs_while n C.gd B.gd⟩
end
end
/-! ### a def's promise, from its body -/
section
variable {P : Program} {w : World} {K : PySem.W.Frag} {mg : Str → Option Value} {base : Heap} {x qual : Str} {st : Stmt} {f : Addr} {fd : FuncData} {N ps : List Str} {k : Nat} {b : SS}
abbrev W0 : Wish := ⟨fun _ => none, fun _ _ _ _ => False⟩
abbrev BodyX (P : Program) (w : World) (K : PySem.W.Frag) (mg : Str → Option Value) (base : Heap) (k : Nat) (qual : Str) (st : Stmt) (N : List Str) (f : Addr) (b : SS) : Prop :=
  ∀ (cdv : Value) (A : Around) (outer : List PySem.Env) (s : Shared) (H : Hp) (E : XK), Room k (A.deeper (envOfC qual (defScope st) s.heap.objs.size f cdv)) → ∃ t, DSs (cxOf CX0 P w K mg base N qual (defScope st) f cdv A outer s H E).nox K W0 (defBody st) t b
abbrev bindsBy (x qual : Str) (st : Stmt) (ps : List Str) : Prop := ∀ (kV doc pm : Value) (an : Option Addr) (cdv ct : Value) (us : List Value), us.length = ps.length → bindArgs (PySem.W.fnOf x qual (defArgs st) (defBody st) (defScope st) .none kV doc pm an cdv ct) ⟨us, []⟩ = pure (ps.zip us)
theorem callee_P (F : Fun K x qual st f fd) (hm : mg x = some (.ref f)) (S : FnScope N ps (defScope st)) (hb : BodyX P w K mg base k qual st N f b) (bb : bindsBy x qual st ps) (hl : ps.length ≤ N.length := by decide) :
    Callee P w K mg base (k + 1) x (spP K ps.length (runP N.length b)) := by
  refine ⟨f, fd, ps, F.ok S (fun vs H Q E h => ?_) (fun cdv A outer s H vs Q E hr h => ?_), hm, F.kp, F.binds bb⟩
  · obtain ⟨M, ds, d, _, r, hn, _⟩ := h
    rw [r.length]; exact hn
  · obtain ⟨M, ds, d, hs, r, hn, e, q⟩ := h
    obtain ⟨t, T⟩ := hb cdv A outer s H E hr
    exact ⟨t, T.ps, body_P T.gd hs r (by rw [hn]; exact hl) e q⟩
theorem callee_PL (F : Fun K x qual st f fd) (hm : mg x = some (.ref f)) (S : FnScope N ps (defScope st)) (hb : BodyX P w K mg base k qual st N f b) (bb : bindsBy x qual st ps) (hl : ps.length ≤ N.length := by decide) :
    Callee P w K mg base (k + 1) x (spPL K ps.length (runPL N.length b)) := by
  refine ⟨f, fd, ps, F.ok S (fun vs H Q E h => ?_) (fun cdv A outer s H vs Q E hr h => ?_), hm, F.kp, F.binds bb⟩
  · obtain ⟨M, ds, d, _, r, hn, _⟩ := h
    rw [r.length]; exact hn
  · obtain ⟨M, ds, d, hs, r, hn, e, q⟩ := h
    obtain ⟨t, T⟩ := hb cdv A outer s H E hr
    exact ⟨t, T.ps, body_PL T.gd hs r (by rw [hn]; exact hl) e q⟩
theorem callee_R (F : Fun K x qual st f fd) (hm : mg x = some (.ref f)) (S : FnScope N ps (defScope st)) (hb : BodyX P w K mg base k qual st N f b) (bb : bindsBy x qual st ps) (hl : ps.length ≤ N.length := by decide) :
    Callee P w K mg base (k + 1) x (spR K ps.length (runR N.length b)) := by
  refine ⟨f, fd, ps, F.ok S (fun vs H Q E h => ?_) (fun cdv A outer s H vs Q E hr h => ?_), hm, F.kp, F.binds bb⟩
  · obtain ⟨a, M, us, ds, s, d, s', rfl, _, _, r, hn, _⟩ := h
    rw [List.length_cons, r.length]; exact hn
  · obtain ⟨a, M, us, ds, s0, d, s', rfl, hs, hrow, r, hn, e, q⟩ := h
    obtain ⟨t, T⟩ := hb cdv A outer s H E hr
    exact ⟨t, T.ps, body_R T.gd hs hrow r (by rw [hn]; exact hl) e q⟩
theorem callee_RL (F : Fun K x qual st f fd) (hm : mg x = some (.ref f)) (S : FnScope N ps (defScope st)) (hb : BodyX P w K mg base k qual st N f b) (bb : bindsBy x qual st ps) (hl : ps.length ≤ N.length := by decide) :
    Callee P w K mg base (k + 1) x (spRL K ps.length (runRL N.length b)) := by
  refine ⟨f, fd, ps, F.ok S (fun vs H Q E h => ?_) (fun cdv A outer s H vs Q E hr h => ?_), hm, F.kp, F.binds bb⟩
  · obtain ⟨a, M, us, ds, s, d, s', rfl, _, _, r, hn, _⟩ := h
    rw [List.length_cons, r.length]; exact hn
  · obtain ⟨a, M, us, ds, s0, d, s', rfl, hs, hrow, r, hn, e, q⟩ := h
    obtain ⟨t, T⟩ := hb cdv A outer s H E hr
    exact ⟨t, T.ps, body_RL T.gd hs hrow r (by rw [hn]; exact hl) e q⟩
end
end DL

namespace DL
open PySem PySem.Spec PyProof.Rows L2
/-! ### xs.count(x), flat data -/
def rCntF (K : PySem.W.Frag) : V → List V → Hp → VK → Prop := fun x xs H Q => ∃ (p : Addr) (ys : List V) (y : V), x = .ref p ∧ xs = [y] ∧ SqL K H p ys ∧ flatV y = true ∧ ys.all flatV = true ∧ Q (.int (ys.countP (fun z => eqV z y) : Nat)) H
theorem count_eqU {x : V} : ∀ {xs : List V} {us : List Value}, Vals xs us → xs.all flatV = true → us.countP (eqU x) = xs.countP fun y => eqV y x
  | _, _, .nil, _ => rfl
  | y :: xs, u :: us, .cons r t, f => by
    rw [List.all_cons, Bool.and_eq_true] at f
    rw [List.countP_cons, List.countP_cons, eqU_of r f.1, count_eqU t f.2]
theorem mt_cntF {X : Cx} : MtR X "list.count" (rCntF X.K) := by
  intro pins s σ H x xs v us Q I rx rxs h
  obtain ⟨p, ys, y, rfl, rfl, hs, fy, fs, q⟩ := h
  cases rx
  obtain ⟨u, rfl, ru⟩ := rxs.one
  obtain ⟨its, rv, ⟨⟨cls, dd, data, sl⟩, n, ho, hc, hdn, hd⟩, hlen⟩ := I.list hs
  simp only at hc hd
  subst hc hd
  refine call_meets PySem.F.slot_list_count ⟨_, ho, rfl⟩ PySem.F.entry_list_count (PySem.F.args_list_count_2 _ _)
    (SeqAt.list_countAt p its.toArray n dd sl u (eqU y)) ⟨ho, fun w hw => mem_eqAt ru fy rv fs w (by simpa using hw), ?_⟩
  refine ⟨.int (ys.countP (fun z => eqV z y) : Nat), H, I.tok _, ⟨s.toks, ?_⟩, q⟩
  show Value.int ((its.toArray.toList.countP (eqU y) : Nat) : Int) s.toks = _
  rw [show its.toArray.toList = its by simp, count_eqU rv fs]
def eCnt (fa : SA) (g : SE) : SE := fun ρ s => (fa ρ s).bind fun x => (g ρ x.2).bind fun y => if flatD y.1 && x.1.all flatD then some (.int (x.1.countP (fun z => PyData.eqv z y.1) : Nat), y.2) else none
section
variable {K : PySem.W.Frag} {M H : Hp} {ta tb : TE} {g : SE} {fa : SA}
theorem count_eqv {v : V} {x : D} (rx : Rp K M v x) (hx : flatD x = true) : ∀ {vs : List V} {ds : List D}, Rps K M vs ds → ds.all flatD = true → vs.countP (fun z => eqV z v) = ds.countP (fun z => PyData.eqv z x)
  | _, [], r, _ => by cases r; rfl
  | _, d :: ds, r, h => by
    cases r with
    | cons a b =>
      rw [List.all_cons, Bool.and_eq_true] at h
      rw [List.countP_cons, List.countP_cons, eqV_eqv a rx h.1 hx, count_eqv rx hx b h.2]
theorem gd_cnt (ha : GoodQ K ta fa) (hb : GoodE K tb g) : GoodE K (tBM K "list" (rCntF K) ta (tCons tb tNil)) (eCnt fa g) := fun B M H σ ρ s d s' o e Q q => by
  obtain ⟨⟨ds, s1⟩, e1, e⟩ := bnd e
  obtain ⟨⟨y, s2⟩, e2, e⟩ := bnd e
  simp only at e
  split at e
  · rename_i hf
    rw [Bool.and_eq_true] at hf
    cases e
    refine ha B M H σ ρ s ds s1 o e1 _ fun p vs H1 M1 t1 hs hl r1 => ⟨.inl ⟨rfl, vs, hs H1 fun _ _ h _ => h⟩, ?_⟩
    refine hb B M1 H1 σ ρ s1 y _ (o.step t1) e2 _ fun v H2 M2 t2 r2 => ?_
    refine ⟨p, vs, v, rfl, rfl, hs H2 t2.keep, rp_flat r2 hf.1, rps_flat r1 hf.2, ?_⟩
    rw [count_eqv r2 hf.1 (Rps.mono t2.mm _ _ r1) hf.2]
    exact q _ H2 M2 (t1.trans t2) (.int _)
  · cases e
theorem d_cnt {X : Cx} {a b : Expr} {p q : Pos} (A : DQ X K a ta fa) (B : DE X K b tb g) (hse : starEach (b :: []) X.env = (false, eval b X.env) :: starEach [] X.env := by rfl)
    (hbase : attributeBase a "count" X.env (eval a X.env) = eval a X.env := by rfl)
    (hfew : ((backTo p (starEach (b :: []) X.env)).all (fun x => !x.1) && (backToKw p (keywordEach [] X.env)).all (fun x => x.1.isSome)
      && decide ((b :: []).length + ([] : List Keyword).length + (if ([] : List Keyword).isEmpty then 0 else 1) < 30)) = true := by rfl)
    (hline : (q.endLine == p.line) = true := by rfl) (hplain : (backTo p (starEach [] X.env)).any (·.1) = false := by rfl) : DE X K (.Call (.Attribute a "count" q) [b] [] p) (tBM K "list" (rCntF K) ta (tCons tb tNil)) (eCnt fa g) := by
  have hK := A.hk
  subst hK
  exact ⟨rfl, pe_bm PySem.F.plainAttrs_list PySem.F.slot_list_count PySem.F.type_list_count mt_cntF A.pe (pa_cons B.pe pa_nil hse) hbase hfew hline hse hplain, gd_cnt A.gd B.gd⟩
end
/-! ### the row is made: from here on a list of one's own is the row -/
def deadE (ρ : Env) : Env := ρ.map fun x => match x with | .imm d => .imm d | _ => .dead
def sMkRow (j : Nat) (f : SS) : SS := fun ρ s => (ownAt ρ j).bind fun ds => (f ((deadE ρ).set j .row) ds).bind fun o => match o with | .rt d _ => some (.rt d s) | _ => none
theorem gs_mkRow (j : Nat) {K : PySem.W.Frag} {W : Wish} {ts : TS} {f : SS} (a : GoodS K W ts f) : GoodS K W ts (sMkRow j f) := fun B M H σ ρ s o ok e D q => by
  obtain ⟨ds, e1, e⟩ := bnd e
  obtain ⟨o1, e2, e⟩ := bnd e
  obtain ⟨p, vs, h0, h1, h2, h3, h4, h5, h6⟩ := ok.own (ownAt_eq e1)
  have hj : j < ρ.length := (List.getElem?_eq_some_iff.mp (ownAt_eq e1)).1
  have hj' : j < (deadE ρ).length := by unfold deadE; rw [List.length_map]; exact hj
  have at_ : ∀ (i : Nat) (x : Sl), (deadE ρ)[i]? = some x → x = .dead ∨ ∃ d, x = .imm d ∧ ρ[i]? = some (.imm d) := fun i x e => by
    unfold deadE at e
    rw [List.getElem?_map] at e
    cases z : ρ[i]? with
    | none => rw [z] at e; cases e
    | some y => rw [z] at e; cases y <;> cases e <;> first | exact .inl rfl | exact .inr ⟨_, rfl, rfl⟩
  have ok1 : Ok K ⟨.one (.row p), H, M⟩ M H σ ((deadE ρ).set j .row) ds := by
    refine ⟨ok.sub, fun _ _ h => h, fun _ _ h _ => h, fun _ _ h => .inl h, ⟨h4, vs, h1, h2, h3⟩, by rw [List.length_set]; unfold deadE; rw [List.length_map]; exact ok.len, fun i x e => ?_, fun i k x y c hik a1 a2 a3 a4 => ?_⟩
    · by_cases hi : j = i
      · subst hi
        rw [List.getElem?_set_self hj'] at e
        cases e
        rw [h0]; rfl
      · rw [List.getElem?_set_ne hi] at e
        rcases at_ i x e with rfl | ⟨d, rfl, e'⟩
        · trivial
        · obtain ⟨v, b1, b2⟩ := ok.imm e'
          rw [b1]; exact b2
    · by_cases hi : j = i
      · subst hi
        rw [List.getElem?_set_self hj'] at a1
        cases a1
        rw [h0] at a3
        cases a3
      · rw [List.getElem?_set_ne hi] at a1
        rcases at_ i _ a1 with e | ⟨d, e, _⟩
        · subst e; rw [footS_dead] at a3; cases a3
        · subst e; rw [footS_imm] at a3; cases a3
  refine a _ M H σ _ _ o1 ok1 e2 D ?_
  cases o1 with
  | rt d s1 =>
    cases e
    refine fun v H1 M1 ok2 rr => q v H1 M1 ⟨ok2.sub, ok.ext.trans ok2.ext, fun c u h hr => ?_, fun c u h => ?_, ?_, rfl, fun i x e => by simp at e, fun i k x y c _ e => by simp at e⟩ rr
    · exact ok2.keep c u (ok.keep c u h hr) fun z => by
        have z : c = p := z
        subst z
        rw [h5] at h
        cases h
    · rcases ok2.fresh c u h with z | z
      · exact ok.fresh c u z
      · refine .inr ?_
        cases w : B.H0 c with
        | none => rfl
        | some x =>
          have z : H c = none := z
          by_cases hr : B.r.mem c
          · obtain ⟨_, w, g⟩ := B.r.live ok.row hr
            rw [g] at z; cases z
          · have g := ok.keep c x w hr
            rw [g] at z; cases z
    · refine B.r.keep ok.row ok2.ext (fun c hc => ?_) (fun c w hc h => ok2.keep c _ h fun z => h6 (by rw [← (z : c = p)]; exact hc)) (fun c w h hi => ok2.keep c _ h fun z => by
        have z : c = p := z
        subst z
        rw [h1] at h; cases h; exact code_lst hi)
      obtain ⟨g1, w, g2⟩ := B.r.live ok.row hc
      cases q : M1 c with
      | none => rfl
      | some u =>
        rcases ok2.fresh c u q with z | z
        · have z : M c = some u := z
          rw [g1] at z; cases z
        · have z : H c = none := z
          rw [g2] at z; cases z
  | _ => cases e
theorem ss_mkRow (j : Nat) {X : Cx} {K : PySem.W.Frag} {W : Wish} {st : List Stmt} {ts : TS} {f : SS} (A : DSs X K W st ts f) : DSs X K W st ts (sMkRow j f) := ⟨A.hk, A.ps, gs_mkRow j A.gd⟩
/-! ### the law's promise: a list of at most n ints is handed in, True comes out -/
def spLaw (K : PySem.W.Frag) (n : Nat) : Sp := fun vs H Q _ => ∃ (a : Addr) (ns : List Int), vs = [.ref a] ∧ SqL K H a (ns.map V.int) ∧ ns.length ≤ n ∧ ∀ H', Q (.bl true) H'
theorem law_of {P : Program} {w : World} {K : PySem.W.Frag} {mg : Str → Option Value} {base : Heap} {k n : Nat} {x : Str} {fn : List D → Option D} (C : Callee P w K mg base k x (spP K 1 fn)) (hn : n ≤ lim)
    (h : ∀ ns : List Int, ns.length ≤ n → fn [.list (ns.map PyData.int)] = some (.bool true)) : Callee P w K mg base k x (spLaw K n) := by
  obtain ⟨f, fd, ps, F, r⟩ := C.ex
  refine ⟨f, fd, ps, F.imp fun vs H Q E hs => ?_, r⟩
  obtain ⟨a, ns, rfl, hS, hl, q⟩ := hs
  refine ⟨H, _, _, fun _ _ h => h, .cons (.lst hS (by rw [List.length_map]; omega) (Rps.ints ns)) .nil, rfl, h ns hl, fun v H' M' _ _ _ _ r => ?_⟩
  cases r
  exact q H'
end DL
namespace DL
open PySem PySem.Spec PyProof.Rows L2
section
variable {P : Program} {w : World} {K : PySem.W.Frag} {mg : Str → Option Value} {base : Heap} {x qual : Str} {st : Stmt} {f : Addr} {fd : FuncData} {N ps : List Str} {k : Nat} {b : SS}
theorem fnok_P (F : Fun K x qual st f fd) (S : FnScope N ps (defScope st)) (hb : BodyX P w K mg base k qual st N f b) (hl : ps.length ≤ N.length := by decide) :
    FnOk P w K mg base CX0 (k + 1) f fd ps (spP K ps.length (runP N.length b)) := by
  refine F.ok S (fun vs H Q E h => ?_) (fun cdv A outer s H vs Q E hr h => ?_)
  · obtain ⟨M, ds, d, _, r, hn, _⟩ := h
    rw [r.length]; exact hn
  · obtain ⟨M, ds, d, hs, r, hn, e, q⟩ := h
    obtain ⟨t, T⟩ := hb cdv A outer s H E hr
    exact ⟨t, T.ps, body_P T.gd hs r (by rw [hn]; exact hl) e q⟩
theorem law_fnok {n : Nat} {fn : List D → Option D} (F : FnOk P w K mg base CX0 k f fd ps (spP K 1 fn)) (hn : n ≤ lim)
    (h : ∀ ns : List Int, ns.length ≤ n → fn [.list (ns.map PyData.int)] = some (.bool true)) : FnOk P w K mg base CX0 k f fd ps (spLaw K n) := by
  refine F.imp fun vs H Q E hs => ?_
  obtain ⟨a, ns, rfl, hS, hl, q⟩ := hs
  refine ⟨H, _, _, fun _ _ h => h, .cons (.lst hS (by rw [List.length_map]; omega) (Rps.ints ns)) .nil, rfl, h ns hl, fun v H' M' _ _ _ _ r => ?_⟩
  cases r
  exact q H'
/-- a def at depth nought of its recursion: nothing is promised -/
theorem callee_0 {n : Nat} (F : Fun K x qual st f fd) (hm : mg x = some (.ref f)) (S : FnScope N ps (defScope st)) (bb : bindsBy x qual st ps) : Callee P w K mg base (k + 1) x (spP K n fun _ => none) := by
  refine ⟨f, fd, ps, F.ok S (fun vs H Q E h => ?_) (fun cdv A outer s H vs Q E hr h => ?_), hm, F.kp, F.binds bb⟩
  · obtain ⟨M, ds, d, _, r, hn, e, _⟩ := h
    cases e
  · obtain ⟨M, ds, d, hs, r, hn, e, q⟩ := h
    cases e
theorem callee_0L {n : Nat} (F : Fun K x qual st f fd) (hm : mg x = some (.ref f)) (S : FnScope N ps (defScope st)) (bb : bindsBy x qual st ps) : Callee P w K mg base (k + 1) x (spPL K n fun _ => none) := by
  refine ⟨f, fd, ps, F.ok S (fun vs H Q E h => ?_) (fun cdv A outer s H vs Q E hr h => ?_), hm, F.kp, F.binds bb⟩
  · obtain ⟨M, ds, d, _, r, hn, e, _⟩ := h
    cases e
  · obtain ⟨M, ds, d, hs, r, hn, e, q⟩ := h
    cases e
theorem callee_0R {n : Nat} (F : Fun K x qual st f fd) (hm : mg x = some (.ref f)) (S : FnScope N ps (defScope st)) (bb : bindsBy x qual st ps) : Callee P w K mg base (k + 1) x (spR K n fun _ _ => none) := by
  refine ⟨f, fd, ps, F.ok S (fun vs H Q E h => ?_) (fun cdv A outer s H vs Q E hr h => ?_), hm, F.kp, F.binds bb⟩
  · obtain ⟨a, M, us, ds, s, d, s', rfl, _, _, r, hn, e, _⟩ := h
    cases e
  · obtain ⟨a, M, us, ds, s, d, s', rfl, _, _, r, hn, e, _⟩ := h
    cases e
end
end DL

/-! The plain side: how the functions of data are reckoned. -/
namespace DL
open PySem
section
variable {ρ : Env} {s s' : Row} {f g k : SE} {fa ga : SA} {fb gb : SB} {sf sg : SS} {d e : D} {ds es : List D} {i : Nat}
/-! a truth value decides -/
def boolK {α : Type} (d : D) (x y : Option α) : Option α := match d with | .bool b => if b then x else y | _ => none
@[simp] theorem boolK_b {α : Type} (b : Bool) (x y : Option α) : boolK (.bool b) x y = if b then x else y := rfl
theorem boolK_eq {α : Type} (d : D) (x y : Option α) : (match d with | .bool true => x | .bool false => y | _ => none) = boolK d x y := by
  cases d <;> try rfl
  rename_i b
  cases b <;> rfl
@[simp] theorem eVar_ap : eVar i ρ s = match ρ[i]? with | some (.imm d) => some (d, s) | _ => none := rfl
@[simp] theorem eC_ap : eC d ρ s = some (d, s) := rfl
@[simp] theorem eOp_ap {h : D → D → Option D} : eOp h f g ρ s = (f ρ s).bind fun x => (g ρ x.2).bind fun y => (h x.1 y.1).bind fun z => some (z, y.2) := rfl
@[simp] theorem eUn_ap {h : D → Option D} : eUn h f ρ s = (f ρ s).bind fun x => (h x.1).bind fun z => some (z, x.2) := rfl
@[simp] theorem eChain_ap {h h' : D → D → Option D} : eChain h h' f g k ρ s = (f ρ s).bind fun x => (g ρ x.2).bind fun y => (h x.1 y.1).bind fun z => boolK z ((k ρ y.2).bind fun w => (h' y.1 w.1).bind fun z => some (z, w.2)) (some (.bool false, y.2)) := by
  unfold eChain
  congr 1
  funext x
  congr 1
  funext y
  congr 1
  funext z
  exact boolK_eq z _ _
@[simp] theorem eAnd_ap : eAnd f g ρ s = (f ρ s).bind fun x => boolK x.1 (g ρ x.2) (some (.bool false, x.2)) := by
  unfold eAnd
  congr 1
  funext x
  exact boolK_eq x.1 _ _
@[simp] theorem eOr_ap : eOr f g ρ s = (f ρ s).bind fun x => boolK x.1 (some (.bool true, x.2)) (g ρ x.2) := by
  unfold eOr
  congr 1
  funext x
  cases x.1 <;> try rfl
  rename_i b
  cases b <;> rfl
@[simp] theorem eNot_ap : eNot f ρ s = (f ρ s).bind fun x => boolK x.1 (some (.bool false, x.2)) (some (.bool true, x.2)) := by
  unfold eNot
  congr 1
  funext x
  cases x.1 <;> try rfl
  rename_i b
  cases b <;> rfl
@[simp] theorem eIf_ap : eIf fb f g ρ s = (fb ρ s).bind fun x => if x.1 then f ρ x.2 else g ρ x.2 := rfl
def isB (d : D) : Option Bool := match d with | .bool b => some b | _ => none
@[simp] theorem isB_b (b : Bool) : isB (.bool b) = some b := rfl
@[simp] theorem bVal_ap : bVal f ρ s = (f ρ s).bind fun x => (isB x.1).bind fun b => some (b, x.2) := by
  unfold bVal
  congr 1
  funext x
  cases x.1 <;> rfl
@[simp] theorem bAnd_ap : bAnd fb gb ρ s = (fb ρ s).bind fun x => if x.1 then gb ρ x.2 else some (false, x.2) := rfl
@[simp] theorem bOr_ap : bOr fb gb ρ s = (fb ρ s).bind fun x => if x.1 then some (true, x.2) else gb ρ x.2 := rfl
@[simp] theorem bNot_ap : bNot fb ρ s = (fb ρ s).bind fun x => some (!x.1, x.2) := rfl
@[simp] theorem bYes_ap : bYes ρ s = some (true, s) := rfl
@[simp] theorem aNil_ap : aNil ρ s = some ([], s) := rfl
@[simp] theorem aCons_ap : aCons f fa ρ s = (f ρ s).bind fun x => (fa ρ x.2).bind fun y => some (x.1 :: y.1, y.2) := rfl
def chk {α : Type} (n : Nat) (x : α) : Option α := if n ≤ lim then some x else none
@[simp] theorem chk0 {α : Type} (x : α) : chk 0 x = some x := rfl
theorem chk_le {α : Type} {n : Nat} {x : α} (h : n ≤ 1000000) : chk n x = some x := if_pos h
@[simp] theorem eTup_ap : eTup fa ρ s = (fa ρ s).bind fun x => chk x.1.length (.tuple x.1, x.2) := rfl
@[simp] theorem lLst_ap : lLst fa ρ s = (fa ρ s).bind fun x => chk x.1.length (x.1, x.2) := rfl
@[simp] theorem chk_s {α : Type} {n : Nat} {x : α} (h : decide (n ≤ 1000) = true) : chk n x = some x := chk_le (Nat.le_trans (of_decide_eq_true h) (by omega))
@[simp] theorem eL_ap : eL fa ρ s = (fa ρ s).bind fun x => some (.list x.1, x.2) := rfl
@[simp] theorem seqD_l : seqD (.list ds) = some ds := rfl
@[simp] theorem seqD_t : seqD (.tuple ds) = some ds := rfl
@[simp] theorem rE_ap : rE f ρ s = (f ρ s).bind fun x => (seqD x.1).bind fun ds => some (ds, x.2) := rfl
def rdSl : Sl → Option (List D) | .imm (.list ds) => some ds | .imm (.tuple ds) => some ds | .own ds => some ds | _ => none
@[simp] theorem rdSl_l : rdSl (.imm (.list ds)) = some ds := rfl
@[simp] theorem rdSl_t : rdSl (.imm (.tuple ds)) = some ds := rfl
@[simp] theorem rdSl_o : rdSl (.own ds) = some ds := rfl
@[simp] theorem rVar_ap : rVar i ρ s = (ρ[i]?).bind fun x => (rdSl x).bind fun ds => some (ds, s) := by
  unfold rVar
  cases ρ[i]? with
  | none => rfl
  | some x =>
    cases x <;> try rfl
    rename_i d
    cases d <;> rfl
def rdQ : Sl → Option (List D) | .imm (.list ds) => some ds | .own ds => some ds | _ => none
@[simp] theorem rdQ_l : rdQ (.imm (.list ds)) = some ds := rfl
@[simp] theorem rdQ_o : rdQ (.own ds) = some ds := rfl
@[simp] theorem qVar_ap : qVar i ρ s = (ρ[i]?).bind fun x => (rdQ x).bind fun ds => some (ds, s) := by
  unfold qVar
  cases ρ[i]? with
  | none => rfl
  | some x =>
    cases x <;> try rfl
    rename_i d
    cases d <;> rfl
def lstD : D → Option (List D) | .list ds => some ds | _ => none
@[simp] theorem lstD_l : lstD (.list ds) = some ds := rfl
@[simp] theorem qE_ap : qE f ρ s = (f ρ s).bind fun x => (lstD x.1).bind fun ds => some (ds, x.2) := by
  unfold qE
  congr 1
  funext x
  cases x.1 <;> rfl
@[simp] theorem ixD_i (n : Int) : ixD ds (.int n) = L2.atI ds n := rfl
@[simp] theorem eIx_ap : eIx fa g ρ s = (fa ρ s).bind fun x => (g ρ x.2).bind fun y => (ixD x.1 y.1).bind fun z => some (z, y.2) := rfl
@[simp] theorem intOf_i (n : Int) : intOf (.int n) = some n := rfl
@[simp] theorem ownAt_ap : ownAt ρ i = (ρ[i]?).bind fun x => match x with | .own ds => some ds | _ => none := by
  unfold ownAt
  cases ρ[i]? with
  | none => rfl
  | some x => cases x <;> rfl
@[simp] theorem isRow_ap : isRow ρ i = (ρ[i]?).bind fun x => match x with | .row => some () | _ => none := by
  unfold isRow
  cases ρ[i]? with
  | none => rfl
  | some x => cases x <;> rfl
@[simp] theorem eRowIx_ap : eRowIx i g ρ s = (g ρ s).bind fun y => (isRow ρ i).bind fun _ => (intOf y.1).bind fun k => (L2.atI y.2 k).bind fun z => some (z, y.2) := rfl
@[simp] theorem eLen_ap : eLen fa ρ s = (fa ρ s).bind fun x => some (.int (x.1.length : Nat), x.2) := rfl
@[simp] theorem eTupL_ap : eTupL fa ρ s = (fa ρ s).bind fun x => some (.tuple x.1, x.2) := rfl
@[simp] theorem eSum_ap : eSum fa ρ s = (fa ρ s).bind fun x => (intsD x.1).bind fun ns => some (.int ns.sum, x.2) := rfl
def rng1 (d : D) : Option (List D) := match d with | .int n => if -1000000 ≤ n ∧ n ≤ 1000000 then some (rngD 0 n) else none | _ => none
def rng2 (d e : D) : Option (List D) := match d, e with | .int a, .int b => if 0 ≤ a ∧ a ≤ 1000000 ∧ -1000000 ≤ b ∧ b ≤ 1000000 then some (rngD a b) else none | _, _ => none
theorem rng1_n {n : Nat} (h : n ≤ 1000000) : rng1 (.int (n : Int)) = some ((List.range n).map fun i => .int (i : Nat)) := by
  unfold rng1
  simp only
  rw [if_pos (by omega)]
  unfold rngD
  simp
theorem rng1_i {n : Int} (h0 : 0 ≤ n) (h : n ≤ 1000000) : rng1 (.int n) = some ((List.range n.toNat).map fun i => .int (i : Nat)) := by
  have := rng1_n (n := n.toNat) (by omega)
  rw [show ((n.toNat : Nat) : Int) = n by omega] at this
  exact this
theorem rng2_n {a : Int} {n : Nat} (ha : 0 ≤ a) (ha2 : a ≤ 1000000) (h : n ≤ 1000000) : rng2 (.int a) (.int (n : Int)) = some ((List.range ((n : Int) - a).toNat).map fun i => .int (a + (i : Nat))) := by
  unfold rng2
  simp only
  rw [if_pos (by omega)]
  rfl
@[simp] theorem i1Rng_ap : i1Rng f ρ s = (f ρ s).bind fun x => (rng1 x.1).bind fun ds => some (ds, x.2) := by
  unfold i1Rng
  congr 1
  funext x
  cases x.1 <;> try rfl
  unfold rng1
  simp only
  split <;> rfl
@[simp] theorem i2Rng_ap : i2Rng f g ρ s = (f ρ s).bind fun x => (g ρ x.2).bind fun y => (rng2 x.1 y.1).bind fun ds => some (ds, y.2) := by
  unfold i2Rng
  congr 1
  funext x
  congr 1
  funext y
  cases x.1 <;> cases y.1 <;> try rfl
  unfold rng2
  simp only
  split <;> rfl
@[simp] theorem eTupRng_ap : eTupRng f ρ s = (f ρ s).bind fun x => (rng1 x.1).bind fun ds => some (.tuple ds, x.2) := by
  unfold eTupRng
  congr 1
  funext x
  cases x.1 <;> try rfl
  unfold rng1
  simp only
  split <;> rfl
@[simp] theorem lListRng_ap : lListRng f ρ s = (f ρ s).bind fun x => (rng1 x.1).bind fun ds => some (ds, x.2) := by
  unfold lListRng
  congr 1
  funext x
  cases x.1 <;> try rfl
  unfold rng1
  simp only
  split <;> rfl
@[simp] theorem oNo_ap : oNo ρ s = some (none, s) := rfl
@[simp] theorem oPart_ap : oPart f ρ s = (f ρ s).bind fun x => (intOf x.1).bind fun n => some (some n, x.2) := by
  unfold oPart
  congr 1
  funext x
  cases x.1 <;> rfl
def slD (d : D) (l u : Option Int) : Option D := match d with | .tuple ds => some (.tuple (cutD ds l u)) | .list ds => some (.list (cutD ds l u)) | _ => none
@[simp] theorem slD_t (l u : Option Int) : slD (.tuple ds) l u = some (.tuple (cutD ds l u)) := rfl
@[simp] theorem slD_l (l u : Option Int) : slD (.list ds) l u = some (.list (cutD ds l u)) := rfl
@[simp] theorem eSl_ap {fl fh : SO} : eSl f fl fh ρ s = (f ρ s).bind fun x => (fl ρ x.2).bind fun l => (fh ρ l.2).bind fun u => (slD x.1 l.1 u.1).bind fun z => some (z, u.2) := by
  unfold eSl
  congr 1
  funext x
  congr 1
  funext y
  congr 1
  funext z
  cases x.1 <;> rfl
@[simp] theorem eIsI_ap {T : String} : eIsI T f ρ s = (f ρ s).bind fun x => (isD T x.1).bind fun b => some (.bool b, x.2) := rfl
@[simp] theorem eIsI2_ap {T U : String} : eIsI2 T U f ρ s = (f ρ s).bind fun x => (isD T x.1).bind fun b => (isD U x.1).bind fun c => some (.bool (b || c), x.2) := rfl
theorem kit_tab : (L2.kitB "NoneType" "int" = some false ∧ L2.kitB "bool" "int" = some true ∧ L2.kitB "int" "int" = some true ∧ L2.kitB "str" "int" = some false ∧ L2.kitB "list" "int" = some false ∧ L2.kitB "tuple" "int" = some false) ∧
    (L2.kitB "NoneType" "bool" = some false ∧ L2.kitB "bool" "bool" = some true ∧ L2.kitB "int" "bool" = some false ∧ L2.kitB "str" "bool" = some false ∧ L2.kitB "list" "bool" = some false ∧ L2.kitB "tuple" "bool" = some false) ∧
    (L2.kitB "NoneType" "str" = some false ∧ L2.kitB "bool" "str" = some false ∧ L2.kitB "int" "str" = some false ∧ L2.kitB "str" "str" = some true ∧ L2.kitB "list" "str" = some false ∧ L2.kitB "tuple" "str" = some false) ∧
    (L2.kitB "NoneType" "list" = some false ∧ L2.kitB "bool" "list" = some false ∧ L2.kitB "int" "list" = some false ∧ L2.kitB "str" "list" = some false ∧ L2.kitB "list" "list" = some true ∧ L2.kitB "tuple" "list" = some false) ∧
    (L2.kitB "NoneType" "tuple" = some false ∧ L2.kitB "bool" "tuple" = some false ∧ L2.kitB "int" "tuple" = some false ∧ L2.kitB "str" "tuple" = some false ∧ L2.kitB "list" "tuple" = some false ∧ L2.kitB "tuple" "tuple" = some true) := by decide +kernel
def isIB : D → Bool | .int _ => true | .bool _ => true | _ => false
def isBB : D → Bool | .bool _ => true | _ => false
def isSB : D → Bool | .str _ => true | _ => false
def isLB : D → Bool | .list _ => true | _ => false
def isTB : D → Bool | .tuple _ => true | _ => false
def noDict : D → Bool | .dict _ => false | _ => true
theorem isD_int (h : noDict d = true) : isD "int" d = some (isIB d) := by
  obtain ⟨⟨a1, a2, a3, a4, a5, a6⟩, _⟩ := kit_tab
  cases d <;> first | assumption | cases h
theorem isD_bool (h : noDict d = true) : isD "bool" d = some (isBB d) := by
  obtain ⟨_, ⟨a1, a2, a3, a4, a5, a6⟩, _⟩ := kit_tab
  cases d <;> first | assumption | cases h
theorem isD_str (h : noDict d = true) : isD "str" d = some (isSB d) := by
  obtain ⟨_, _, ⟨a1, a2, a3, a4, a5, a6⟩, _⟩ := kit_tab
  cases d <;> first | assumption | cases h
theorem isD_list (h : noDict d = true) : isD "list" d = some (isLB d) := by
  obtain ⟨_, _, _, ⟨a1, a2, a3, a4, a5, a6⟩, _⟩ := kit_tab
  cases d <;> first | assumption | cases h
theorem isD_tuple (h : noDict d = true) : isD "tuple" d = some (isTB d) := by
  obtain ⟨_, _, _, _, a1, a2, a3, a4, a5, a6⟩ := kit_tab
  cases d <;> first | assumption | cases h
@[simp] theorem isD_ii (n : Int) : isD "int" (.int n) = some true := isD_int rfl
@[simp] theorem isD_ib (n : Bool) : isD "int" (.bool n) = some true := isD_int rfl
@[simp] theorem isD_in : isD "int" .none = some false := isD_int rfl
@[simp] theorem isD_is (x : Str) : isD "int" (.str x) = some false := isD_int rfl
@[simp] theorem isD_il : isD "int" (.list ds) = some false := isD_int rfl
@[simp] theorem isD_it : isD "int" (.tuple ds) = some false := isD_int rfl
@[simp] theorem isD_bi (n : Int) : isD "bool" (.int n) = some false := isD_bool rfl
@[simp] theorem isD_bb (n : Bool) : isD "bool" (.bool n) = some true := isD_bool rfl
@[simp] theorem isD_bn : isD "bool" .none = some false := isD_bool rfl
@[simp] theorem isD_bs (x : Str) : isD "bool" (.str x) = some false := isD_bool rfl
@[simp] theorem isD_bl : isD "bool" (.list ds) = some false := isD_bool rfl
@[simp] theorem isD_bt : isD "bool" (.tuple ds) = some false := isD_bool rfl
@[simp] theorem isD_si (n : Int) : isD "str" (.int n) = some false := isD_str rfl
@[simp] theorem isD_sb (n : Bool) : isD "str" (.bool n) = some false := isD_str rfl
@[simp] theorem isD_sn : isD "str" .none = some false := isD_str rfl
@[simp] theorem isD_ss (x : Str) : isD "str" (.str x) = some true := isD_str rfl
@[simp] theorem isD_sl : isD "str" (.list ds) = some false := isD_str rfl
@[simp] theorem isD_st : isD "str" (.tuple ds) = some false := isD_str rfl
@[simp] theorem isD_li (n : Int) : isD "list" (.int n) = some false := isD_list rfl
@[simp] theorem isD_lb (n : Bool) : isD "list" (.bool n) = some false := isD_list rfl
@[simp] theorem isD_ln : isD "list" .none = some false := isD_list rfl
@[simp] theorem isD_ls (x : Str) : isD "list" (.str x) = some false := isD_list rfl
@[simp] theorem isD_ll : isD "list" (.list ds) = some true := isD_list rfl
@[simp] theorem isD_lt : isD "list" (.tuple ds) = some false := isD_list rfl
@[simp] theorem isD_ti (n : Int) : isD "tuple" (.int n) = some false := isD_tuple rfl
@[simp] theorem isD_tb (n : Bool) : isD "tuple" (.bool n) = some false := isD_tuple rfl
@[simp] theorem isD_tn : isD "tuple" .none = some false := isD_tuple rfl
@[simp] theorem isD_ts (x : Str) : isD "tuple" (.str x) = some false := isD_tuple rfl
@[simp] theorem isD_tl : isD "tuple" (.list ds) = some false := isD_tuple rfl
@[simp] theorem isD_tt : isD "tuple" (.tuple ds) = some true := isD_tuple rfl
/-! operations -/
@[simp] theorem addD_i (a b : Int) : addD (.int a) (.int b) = some (.int (a + b)) := rfl
@[simp] theorem addD_t : addD (.tuple ds) (.tuple es) = chk (ds.length + es.length) (.tuple (ds ++ es)) := rfl
@[simp] theorem subD_i (a b : Int) : subD (.int a) (.int b) = some (.int (a - b)) := rfl
theorem mulD_i {a b : Int} (h : (-(2 ^ 64) < a ∧ a < 2 ^ 64) ∨ (-(2 ^ 64) < b ∧ b < 2 ^ 64)) : mulD (.int a) (.int b) = some (.int (a * b)) := by
  show (if decide _ then some _ else none) = _
  rw [if_pos (decide_eq_true h)]
theorem mulD_t {k : Int} (h : ds.length ≤ 1000) (h1 : -1000 ≤ k) (h2 : k ≤ 1000) : mulD (.tuple ds) (.int k) = some (.tuple (List.replicate k.toNat ds).flatten) := if_pos ⟨h, h1, h2⟩
theorem fdivD_i {a b : Int} (h : 0 < b) (h2 : b < 1073741824) : fdivD (.int a) (.int b) = some (.int (a / b)) := by
  show (if decide _ then some _ else none) = _
  rw [if_pos (decide_eq_true ⟨h, h2⟩)]
theorem modD_i {a b : Int} (h : 0 < b) : modD (.int a) (.int b) = some (.int (a % b)) := by
  show (if decide _ then some _ else none) = _
  rw [if_pos (decide_eq_true h)]
@[simp] theorem powD_c : powD (.int 10) (.int 18) = some (.int 1000000000000000000) := by
  unfold powD iicD
  simp
@[simp] theorem negD_i (a : Int) : negD (.int a) = some (.int (-a)) := rfl
@[simp] theorem ltD_i (a b : Int) : ltD (.int a) (.int b) = some (.bool (decide (a < b))) := rfl
@[simp] theorem leD_i (a b : Int) : leD (.int a) (.int b) = some (.bool (decide (a ≤ b))) := rfl
@[simp] theorem gtD_i (a b : Int) : gtD (.int a) (.int b) = some (.bool (decide (b < a))) := rfl
@[simp] theorem geD_i (a b : Int) : geD (.int a) (.int b) = some (.bool (decide (b ≤ a))) := rfl
@[simp] theorem isND_n : isND d .none = some (.bool (isNone d)) := rfl
@[simp] theorem notND_n : notND d .none = some (.bool (!isNone d)) := rfl
@[simp] theorem isNone_n : isNone .none = true := rfl
@[simp] theorem isNone_i (a : Int) : isNone (.int a) = false := rfl
@[simp] theorem isNone_b (a : Bool) : isNone (.bool a) = false := rfl
@[simp] theorem isNone_s (a : Str) : isNone (.str a) = false := rfl
@[simp] theorem isNone_l : isNone (.list ds) = false := rfl
@[simp] theorem isNone_t : isNone (.tuple ds) = false := rfl
@[simp] theorem intD_i (a : Int) : intD (.int a) = some (.int a) := rfl
@[simp] theorem intD_b (a : Bool) : intD (.bool a) = some (.int (if a then 1 else 0)) := rfl
@[simp] theorem minD_i (a b : Int) : minD (.int a) (.int b) = some (.int (if b < a then b else a)) := rfl
theorem inD_ap (h : flatD d = true) (h2 : es.all flatD = true) (e' : seqD e = some es) : inD d e = some (.bool (inFl d es)) := by
  unfold inD
  rw [e', Option.bind_some, h, h2]
  rfl
theorem ninD_ap (h : flatD d = true) (h2 : es.all flatD = true) (e' : seqD e = some es) : ninD d e = some (.bool (!inFl d es)) := by
  unfold ninD
  rw [e', Option.bind_some, h, h2]
  rfl
/-! == -/
def flatE (d e : D) : Prop := min d.depth e.depth ≤ 64
theorem eqD_ap (h : flatE d e) : eqD d e = some (.bool (PyData.eqv d e)) := if_pos h
theorem neD_ap (h : flatE d e) : neD d e = some (.bool (!PyData.eqv d e)) := if_pos h
theorem depth_nil : PyData.depthAll [] = 0 := by simp [PyData.depthAll]
theorem flatE_l0 : flatE d (.list []) := by
  unfold flatE
  simp only [PyData.depth, depth_nil]
  omega
theorem flatE_t0 : flatE d (.tuple []) := by
  unfold flatE
  simp only [PyData.depth, depth_nil]
  omega
theorem flatE_i (n : Int) : flatE d (.int n) := by unfold flatE; simp only [PyData.depth]; omega
theorem flatE_i' (n : Int) : flatE (.int n) d := by unfold flatE; simp only [PyData.depth]; omega
theorem flatE_s (n : Str) : flatE d (.str n) := by unfold flatE; simp only [PyData.depth]; omega
theorem flatE_s' (n : Str) : flatE (.str n) d := by unfold flatE; simp only [PyData.depth]; omega
theorem flatE_n : flatE d .none := by unfold flatE; simp only [PyData.depth]; omega
theorem flatE_n' : flatE .none d := by unfold flatE; simp only [PyData.depth]; omega
theorem flatE_b (n : Bool) : flatE d (.bool n) := by unfold flatE; simp only [PyData.depth]; omega
@[simp] theorem eqD_l0 : eqD (.list ds) (.list []) = some (.bool ds.isEmpty) := by
  rw [eqD_ap flatE_l0]
  cases ds <;> simp [PyData.eqv, PyData.eqvAll]
@[simp] theorem neD_l0 : neD (.list ds) (.list []) = some (.bool (!ds.isEmpty)) := by
  rw [neD_ap flatE_l0]
  cases ds <;> simp [PyData.eqv, PyData.eqvAll]
@[simp] theorem eqD_t0 : eqD (.tuple ds) (.tuple []) = some (.bool ds.isEmpty) := by
  rw [eqD_ap flatE_t0]
  cases ds <;> simp [PyData.eqv, PyData.eqvAll]
@[simp] theorem eqD_i (a b : Int) : eqD (.int a) (.int b) = some (.bool (decide (a = b))) := by
  rw [eqD_ap (flatE_i _)]
  simp only [PyData.eqv, Bool.beq_eq_decide_eq]
@[simp] theorem neD_i (a b : Int) : neD (.int a) (.int b) = some (.bool (!decide (a = b))) := by
  rw [neD_ap (flatE_i _)]
  simp only [PyData.eqv, Bool.beq_eq_decide_eq]
@[simp] theorem eqD_s (a b : Str) : eqD (.str a) (.str b) = some (.bool (decide (a = b))) := by
  rw [eqD_ap (flatE_s _)]
  simp only [PyData.eqv, Bool.beq_eq_decide_eq]
@[simp] theorem neD_s (a b : Str) : neD (.str a) (.str b) = some (.bool (!decide (a = b))) := by
  rw [neD_ap (flatE_s _)]
  simp only [PyData.eqv, Bool.beq_eq_decide_eq]
/-! statements -/
def thenO (o : Out) (g : SS) : Option Out := match o with | .nx ρ s => g ρ s | .rt d s => some (.rt d s) | .rl d s => some (.rl d s) | .bk a s => some (.bk a s) | .ct a s => some (.ct a s) | .rd d s => some (.rd d s) | .ex e a s => some (.ex e a s)
@[simp] theorem thenO_rd {t : OT} : thenO (.rd t s) sf = some (.rd t s) := rfl
@[simp] theorem thenO_ex {x : Ex} : thenO (.ex x ρ s) sf = some (.ex x ρ s) := rfl
@[simp] theorem thenO_nx : thenO (.nx ρ s) sf = sf ρ s := rfl
@[simp] theorem thenO_rt : thenO (.rt d s) sf = some (.rt d s) := rfl
@[simp] theorem thenO_rl : thenO (.rl ds s) sf = some (.rl ds s) := rfl
@[simp] theorem sSeq_ap : sSeq sf sg ρ s = (sf ρ s).bind fun o => thenO o sg := rfl
@[simp] theorem sNext_ap : sNext ρ s = some (.nx ρ s) := rfl
@[simp] theorem sIf_ap : sIf fb sf sg ρ s = (fb ρ s).bind fun b => if b.1 then sf ρ b.2 else sg ρ b.2 := rfl
@[simp] theorem sRet_ap : sRet f ρ s = (f ρ s).bind fun x => some (.rt x.1 x.2) := rfl
@[simp] theorem sRetL_ap : sRetL fa ρ s = (fa ρ s).bind fun x => some (.rl x.1 x.2) := rfl
@[simp] theorem sRetOwn_ap : sRetOwn i ρ s = (ownAt ρ i).bind fun ds => some (.rl ds s) := by
  unfold sRetOwn ownAt
  cases ρ[i]? with
  | none => rfl
  | some x => cases x <;> rfl
@[simp] theorem sRetN_ap : sRetN ρ s = some (.rt .none s) := rfl
@[simp] theorem sSet_ap : sSet i f ρ s = (f ρ s).bind fun x => some (.nx (ρ.set i (.imm x.1)) x.2) := rfl
@[simp] theorem sSetL_ap : sSetL i fa ρ s = (fa ρ s).bind fun x => some (.nx (ρ.set i (.own x.1)) x.2) := rfl
@[simp] theorem sFrzB_ap : sFrzB i sf ρ s = (sf ρ s).bind fun o => match o with | .nx ρ' s' => some (.nx (frzE i ρ') s') | .rt d s' => some (.rt d s') | .rl d s' => some (.rl d s') | .bk a s' => some (.bk a s') | .ct a s' => some (.ct a s') | .rd a s' => some (.rd a s') | .ex e a s' => some (.ex e a s') := rfl
@[simp] theorem sTgt_ap {h : SG} : sTgt h f ρ s = (f ρ s).bind fun x => (h x.1 ρ).bind fun ρ' => some (.nx ρ' x.2) := rfl
@[simp] theorem sPar_ap {j : Nat} : sPar i j f g ρ s = (f ρ s).bind fun x => (g ρ x.2).bind fun y => some (.nx ((ρ.set i (.imm x.1)).set j (.imm y.1)) y.2) := rfl
@[simp] theorem sDrop_ap : sDrop f ρ s = (f ρ s).bind fun x => some (.nx ρ x.2) := rfl
def chkA (n : Nat) {α : Type} (x : α) : Option α := if n < lim then some x else none
theorem chkA_lt {n : Nat} {α : Type} {x : α} (h : n < 1000000) : chkA n x = some x := if_pos h
@[simp] theorem sApp_ap : sApp i f ρ s = (f ρ s).bind fun x => (ownAt ρ i).bind fun ds => chkA ds.length (.nx (ρ.set i (.own (ds ++ [x.1]))) x.2) := by
  unfold sApp ownAt
  congr 1
  funext x
  cases ρ[i]? with
  | none => rfl
  | some y => cases y <;> rfl
@[simp] theorem sExt_ap : sExt i fa ρ s = (fa ρ s).bind fun x => (ownAt ρ i).bind fun ds => chk (ds.length + x.1.length) (.nx (ρ.set i (.own (ds ++ x.1))) x.2) := by
  unfold sExt ownAt
  congr 1
  funext x
  cases ρ[i]? with
  | none => rfl
  | some y => cases y <;> rfl
@[simp] theorem sOwnSet_ap : sOwnSet i g f ρ s = (f ρ s).bind fun x => (g ρ x.2).bind fun y => (ownAt ρ i).bind fun ds => (intOf y.1).bind fun k => (L2.ixN ds.length k).bind fun j => some (.nx (ρ.set i (.own (ds.set j x.1))) y.2) := rfl
@[simp] theorem sRowSet_ap : sRowSet i g f ρ s = (f ρ s).bind fun x => (g ρ x.2).bind fun y => (isRow ρ i).bind fun _ => (intOf y.1).bind fun k => (L2.ixN y.2.length k).bind fun j => some (.nx ρ (y.2.set j x.1)) := rfl
@[simp] theorem sFor_ap {fi : SA} {h : SG} : sFor fi h sf ρ s = (fi ρ s).bind fun x => forL h sf x.1 ρ x.2 := rfl
@[simp] theorem sFrz_ap : sFrz i sf ρ s = sf (frzE i ρ) s := rfl
@[simp] theorem sNone_ap : sNone ρ s = none := rfl
@[simp] theorem lComp_ap {fi : SA} {h : SG} {vs : List Nat} : lComp fi h fb f vs ρ s = (fi ρ s).bind fun x => compL h fb f (wipeE ρ vs) x.1 x.2 := rfl
@[simp] theorem wipeE_nil : wipeE ρ [] = ρ := rfl
@[simp] theorem wipeE_cons {v : Nat} {vs : List Nat} : wipeE ρ (v :: vs) = (wipeE ρ vs).set v .dead := rfl
@[simp] theorem hName_ap : hName i d ρ = some (ρ.set i (.imm d)) := rfl
@[simp] theorem hNil_ap : hNil [] ρ = some ρ := rfl
@[simp] theorem hCons_ap {h : SG} {hs : List D → Env → Option Env} : hCons h hs (d :: ds) ρ = (h d ρ).bind fun ρ1 => hs ds ρ1 := rfl
@[simp] theorem hTup_ap {hs : List D → Env → Option Env} : hTup hs (.tuple ds) ρ = hs ds ρ := rfl
@[simp] theorem eCall_ap {n : Nat} {fn : List D → Option D} : eCall n fn fa ρ s = (fa ρ s).bind fun x => if x.1.length = n then (fn x.1).bind fun d => some (d, x.2) else none := rfl
@[simp] theorem lCall_ap {n : Nat} {fn : List D → Option (List D)} : lCall n fn fa ρ s = (fa ρ s).bind fun x => if x.1.length = n then (fn x.1).bind fun d => some (d, x.2) else none := rfl
@[simp] theorem eCallR_ap {n : Nat} {fn : List D → Row → Option (D × Row)} : eCallR i n fn fa ρ s = (isRow ρ i).bind fun _ => (fa ρ s).bind fun x => if x.1.length + 1 = n then fn x.1 x.2 else none := rfl
@[simp] theorem lCallR_ap {n : Nat} {fn : List D → Row → Option (List D × Row)} : lCallR i n fn fa ρ s = (isRow ρ i).bind fun _ => (fa ρ s).bind fun x => if x.1.length + 1 = n then fn x.1 x.2 else none := rfl
@[simp] theorem eLend_ap : eLend f ρ s = (f (lendE ρ) []).bind fun x => if scalD x.1 then some (x.1, s) else none := rfl
@[simp] theorem scalD_i (n : Int) : scalD (.int n) = true := rfl
@[simp] theorem scalD_b (n : Bool) : scalD (.bool n) = true := rfl
@[simp] theorem lendE_nil : lendE [] = [] := rfl
@[simp] theorem lendE_imm : lendE (.imm d :: ρ) = .imm d :: lendE ρ := rfl
@[simp] theorem lendE_own : lendE (.own ds :: ρ) = .imm (.list ds) :: lendE ρ := rfl
@[simp] theorem lendE_row : lendE (.row :: ρ) = .dead :: lendE ρ := rfl
@[simp] theorem lendE_dead : lendE (.dead :: ρ) = .dead :: lendE ρ := rfl
@[simp] theorem deadE_nil : deadE [] = [] := rfl
@[simp] theorem deadE_imm : deadE (.imm d :: ρ) = .imm d :: deadE ρ := rfl
@[simp] theorem deadE_own : deadE (.own ds :: ρ) = .dead :: deadE ρ := rfl
@[simp] theorem deadE_dead : deadE (.dead :: ρ) = .dead :: deadE ρ := rfl
@[simp] theorem sMkRow_ap : sMkRow i sf ρ s = (ownAt ρ i).bind fun ds => (sf ((deadE ρ).set i .row) ds).bind fun o => match o with | .rt d _ => some (.rt d s) | _ => none := rfl
@[simp] theorem sMove_ap {j : Nat} : sMove i j ρ s = (ownAt ρ j).bind fun ds => if i = j then none else some (.nx ((ρ.set j .dead).set i (.own ds)) s) := by
  unfold sMove ownAt
  cases ρ[j]? with
  | none => rfl
  | some y => cases y <;> rfl
def cntD (ds : List D) (d : D) : Option D := if flatD d && ds.all flatD then some (.int (ds.countP (fun z => PyData.eqv z d) : Nat)) else none
@[simp] theorem eCnt_ap : eCnt fa g ρ s = (fa ρ s).bind fun x => (g ρ x.2).bind fun y => (cntD x.1 y.1).bind fun z => some (z, y.2) := by
  unfold eCnt
  congr 1
  funext x
  congr 1
  funext y
  unfold cntD
  split <;> rfl
def outP (o : Out) : Option D := match o with | .rt d _ => some d | .rl es _ => some (.list es) | .nx _ _ => some .none | .rd t _ => some t.data | _ => none
@[simp] theorem outP_rd {t : OT} : outP (.rd t s) = some t.data := rfl
@[simp] theorem outP_rt : outP (.rt d s) = some d := rfl
@[simp] theorem outP_rl : outP (.rl ds s) = some (.list ds) := rfl
@[simp] theorem outP_nx : outP (.nx ρ s) = some .none := rfl
theorem runP_ap {N : Nat} : runP N sf ds = (sf (envP N ds) []).bind outP := rfl
def outPL (o : Out) : Option (List D) := match o with | .rl es _ => some es | _ => none
@[simp] theorem outPL_rl : outPL (.rl ds s) = some ds := rfl
theorem runPL_ap {N : Nat} : runPL N sf ds = (sf (envP N ds) []).bind outPL := rfl
def outPD (o : Out) : Option OT := match o with | .rd t _ => some t | .rl es _ => some (.lst (es.map .imm)) | .rt d _ => some (.imm d) | _ => none
@[simp] theorem outPD_rd {t : OT} : outPD (.rd t s) = some t := rfl
@[simp] theorem outPD_rl : outPD (.rl ds s) = some (.lst (ds.map .imm)) := rfl
@[simp] theorem outPD_rt : outPD (.rt d s) = some (.imm d) := rfl
theorem runPD_ap {N : Nat} : runPD N sf ds = (sf (envP N ds) []).bind outPD := rfl
def outX (o : Out) : Option RX := match o with | .rt d _ => some (.ok d) | .rl es _ => some (.ok (.list es)) | .nx _ _ => some (.ok .none) | .rd t _ => some (.ok t.data) | .ex e _ _ => some (.ex e) | _ => none
@[simp] theorem outX_rt : outX (.rt d s) = some (.ok d) := rfl
@[simp] theorem outX_rl : outX (.rl ds s) = some (.ok (.list ds)) := rfl
@[simp] theorem outX_nx : outX (.nx ρ s) = some (.ok .none) := rfl
@[simp] theorem outX_rd {t : OT} : outX (.rd t s) = some (.ok t.data) := rfl
@[simp] theorem outX_ex {x : Ex} : outX (.ex x ρ s) = some (.ex x) := rfl
theorem runX_ap {N : Nat} : runX N sf ds = (sf (envP N ds) []).bind outX := rfl
def outR (o : Out) : Option (D × Row) := match o with | .rt d s' => some (d, s') | .rl es s' => some (.list es, s') | .nx _ s' => some (.none, s') | .rd t s' => some (t.data, s') | _ => none
@[simp] theorem outR_rd {t : OT} : outR (.rd t s) = some (t.data, s) := rfl
@[simp] theorem outR_rt : outR (.rt d s) = some (d, s) := rfl
@[simp] theorem outR_rl : outR (.rl ds s) = some (.list ds, s) := rfl
@[simp] theorem outR_nx : outR (.nx ρ s) = some (.none, s) := rfl
theorem runR_ap {N : Nat} : runR N sf ds s = (sf (envR N ds) s).bind outR := rfl
@[simp] theorem envP_ap {N : Nat} : envP N ds = ds.map Sl.imm ++ List.replicate (N - ds.length) .dead := rfl
@[simp] theorem envR_ap {N : Nat} : envR N ds = .row :: (ds.map Sl.imm ++ List.replicate (N - (ds.length + 1)) .dead) := rfl
inductive Pw {α β : Type} (R : α → β → Prop) : List α → List β → Prop
  | nil : Pw R [] []
  | cons {x : α} {y : β} {xs : List α} {ys : List β} (h : R x y) (t : Pw R xs ys) : Pw R (x :: xs) (y :: ys)
/-! ### comprehensions that leave the row -/
theorem comp_map {α : Type} {h : SG} {ft : SB} {fe : SE} (xs : List α) (enc : α → D) (p : α → Bool) (q : α → D) (H : ∀ x, x ∈ xs → ∃ ρ1, h (enc x) ρ = some ρ1 ∧ ft ρ1 s = some (p x, s) ∧ (p x = true → fe ρ1 s = some (q x, s))) :
    compL h ft fe ρ (xs.map enc) s = some ((xs.filter p).map q, s) := by
  induction xs with
  | nil => rfl
  | cons x xs ih =>
    obtain ⟨ρ1, h1, h2, h3⟩ := H x (by simp)
    have ih := ih fun y hy => H y (by simp [hy])
    show (h (enc x) ρ).bind _ = _
    rw [h1, Option.bind_some, h2, Option.bind_some]
    cases hp : p x with
    | true =>
      rw [h3 hp]
      simp only [if_true, Option.bind_some, ih, List.filter_cons, hp, List.map_cons]
    | false => simp only [Bool.false_eq_true, if_false, ih, List.filter_cons, hp]
theorem comp_map' {α : Type} {h : SG} {fe : SE} (xs : List α) (enc : α → D) (q : α → D) (H : ∀ x, x ∈ xs → ∃ ρ1, h (enc x) ρ = some ρ1 ∧ fe ρ1 s = some (q x, s)) :
    compL h bYes fe ρ (xs.map enc) s = some (xs.map q, s) := by
  have := comp_map (ft := bYes) xs enc (fun _ => true) q fun x hx => by
    obtain ⟨ρ1, h1, h2⟩ := H x hx
    exact ⟨ρ1, h1, rfl, fun _ => h2⟩
  rw [this, List.filter_eq_self.mpr (fun _ _ => rfl)]
/-- .. whose every turn may change the row -/
theorem comp_inv {α β : Type} {h : SG} {fe : SE} (I : Row → Prop) (R : α → β → Prop) (enc : α → D) (enc' : β → D) (xs : List α)
    (H : ∀ x, x ∈ xs → ∀ s, I s → ∃ ρ1 y s', h (enc x) ρ = some ρ1 ∧ fe ρ1 s = some (enc' y, s') ∧ I s' ∧ R x y) : ∀ s, I s → ∃ ys s', compL h bYes fe ρ (xs.map enc) s = some (ys.map enc', s') ∧ I s' ∧ Pw R xs ys := by
  induction xs with
  | nil => exact fun s hs => ⟨[], s, rfl, hs, .nil⟩
  | cons x xs ih =>
    intro s hs
    obtain ⟨ρ1, y, s1, h1, h2, h3, h4⟩ := H x (by simp) s hs
    obtain ⟨ys, s2, g1, g2, g3⟩ := ih (fun z hz => H z (by simp [hz])) s1 h3
    refine ⟨y :: ys, s2, ?_, g2, .cons h4 g3⟩
    show (h (enc x) ρ).bind _ = _
    rw [h1, Option.bind_some]
    simp only [bYes_ap, Option.bind_some, if_true, h2, g1, List.map_cons]
end
end DL

/-! Tables as plain data of Lean's own kinds. -/
namespace DL
open PySem
abbrev Want := Option (List Int)
abbrev Rule := List Want × Option Int
abbrev Table := List Int × List Rule
def eI (n : Int) : D := .int n
def eN (n : Nat) : D := .int (n : Int)
def eW : Want → D | none => .none | some l => .tuple (l.map eI)
def eO : Option Int → D | none => .none | some n => .int n
def eIs (l : List Int) : D := .tuple (l.map eI)
def eWs (l : List Want) : D := .tuple (l.map eW)
def eR (r : Rule) : D := .tuple [eWs r.1, eO r.2]
def eRs (l : List Rule) : D := .tuple (l.map eR)
def eT (t : Table) : D := .tuple [eIs t.1, eRs t.2]
def WW (size : Int) (w : Want) : Prop := ∀ l, w = some l → l ≠ [] ∧ (∀ x ∈ l, 0 ≤ x ∧ x < size) ∧ l.Pairwise (· < ·)
def WD (d : Option Int) : Prop := ∀ n, d = some n → 0 ≤ n ∧ n ≤ 9
def WR (sizes : List Int) (r : Rule) : Prop := Pw WW sizes r.1 ∧ WD r.2
def WS (sizes : List Int) : Prop := sizes ≠ [] ∧ sizes.length ≤ 5 ∧ ∀ x ∈ sizes, 2 ≤ x ∧ x ≤ 4
def WT (t : Table) : Prop := WS t.1 ∧ t.2.length ≤ 40 ∧ ∀ r ∈ t.2, WR t.1 r
def WC (sizes c : List Int) : Prop := Pw (fun s v => 0 ≤ v ∧ v < s) sizes c
def okW : Want → Int → Bool | none, _ => true | some l, v => l.contains v
def holdsB : List Want → List Int → Bool
  | w :: ws, v :: c => okW w v && holdsB ws c
  | _, _ => true
/-- the numbers of the rules that hold -/
def hAt (rs : List Rule) (c : List Int) (k : Nat) : Bool := match rs[k]? with | some r => holdsB r.1 c | none => false
def holdL (t : Table) (c : List Int) : List Nat := (List.range t.2.length).filter (hAt t.2 c)
def okAt (ws : List Want) (c : List Int) (k : Nat) : Bool := match ws[k]?, c[k]? with | some w, some v => okW w v | _, _ => true
def eNs (l : List Nat) : List D := l.map eN
section
variable {α β : Type} {R : α → β → Prop}
theorem Pw.length : ∀ {xs : List α} {ys : List β}, Pw R xs ys → xs.length = ys.length
  | _, _, .nil => rfl
  | _, _, .cons _ t => by simp [Pw.length t]
theorem Pw.get : ∀ {xs : List α} {ys : List β} {i : Nat} {x : α} {y : β}, Pw R xs ys → xs[i]? = some x → ys[i]? = some y → R x y
  | _, _, 0, _, _, .cons h _, e1, e2 => by
    simp at e1 e2
    subst e1 e2
    exact h
  | _, _, i + 1, _, _, .cons _ t, e1, e2 => Pw.get (i := i) t (by simpa using e1) (by simpa using e2)
theorem Pw.imp {S : α → β → Prop} (f : ∀ x y, R x y → S x y) : ∀ {xs : List α} {ys : List β}, Pw R xs ys → Pw S xs ys
  | _, _, .nil => .nil
  | _, _, .cons h t => .cons (f _ _ h) (Pw.imp f t)
theorem Pw.right {p : β → Prop} (f : ∀ x y, R x y → p y) : ∀ {xs : List α} {ys : List β}, Pw R xs ys → ∀ y ∈ ys, p y
  | _, _, .nil, y, h => by cases h
  | _, _, .cons h t, y, hy => by
    rcases List.mem_cons.mp hy with rfl | hy
    · exact f _ _ h
    · exact Pw.right f t y hy
end
@[simp] theorem atI_map {α : Type} (xs : List α) (f : α → D) (k : Nat) : L2.atI (xs.map f) (k : Int) = (xs[k]?).map f := by
  cases e : (xs.map f)[k]? with
  | none =>
    have h : xs[k]? = none := by
      rw [List.getElem?_map] at e
      cases q : xs[k]? with
      | none => rfl
      | some x => rw [q] at e; cases e
    rw [h]
    have hl : xs.length ≤ k := List.getElem?_eq_none_iff.mp h
    unfold L2.atI L2.ixN
    rw [if_pos (by omega), if_neg (by rw [List.length_map]; omega)]
    rfl
  | some v =>
    rw [L2.atI_nat e, ← List.getElem?_map, e]
theorem atI_n {ds : List D} {k : Nat} {v : D} (h : ds[k]? = some v) : L2.atI ds (k : Int) = some v := L2.atI_nat h
@[simp] theorem atI_0 {d : D} {ds : List D} : L2.atI (d :: ds) 0 = some d := L2.atI_nat (j := 0) rfl
@[simp] theorem atI_1 {d e : D} {ds : List D} : L2.atI (d :: e :: ds) 1 = some e := L2.atI_nat (j := 1) rfl
@[simp] theorem atI_2 {d e f : D} {ds : List D} : L2.atI (d :: e :: f :: ds) 2 = some f := L2.atI_nat (j := 2) rfl
@[simp] theorem atI_3 {d e f g : D} {ds : List D} : L2.atI (d :: e :: f :: g :: ds) 3 = some g := L2.atI_nat (j := 3) rfl
theorem filter_empty {n : Nat} {p : Nat → Bool} : ((List.range n).filter p).isEmpty = true ↔ ∀ k, k < n → p k = false := by
  rw [List.isEmpty_iff, List.filter_eq_nil_iff]
  constructor
  · intro h k hk
    have := h k (List.mem_range.mpr hk)
    cases q : p k with
    | false => rfl
    | true => exact absurd q this
  · intro h k hk
    rw [h k (List.mem_range.mp hk)]
    exact Bool.false_ne_true
theorem filter_empty_l {α : Type} {xs : List α} {p : α → Bool} : (xs.filter p).isEmpty = true ↔ ∀ x, x ∈ xs → p x = false := by
  rw [List.isEmpty_iff, List.filter_eq_nil_iff]
  constructor
  · intro h k hk
    have := h k hk
    cases q : p k with
    | false => rfl
    | true => exact absurd q this
  · intro h k hk
    rw [h k hk]
    exact Bool.false_ne_true
theorem holdsB_all : ∀ {ws : List Want} {c : List Int}, ws.length = c.length → (holdsB ws c = true ↔ ∀ k, k < c.length → okAt ws c k = true)
  | [], [], _ => ⟨fun _ k hk => by simp at hk, fun _ => rfl⟩
  | w :: ws, v :: c, h => by
    have ih := holdsB_all (ws := ws) (c := c) (by simpa using h)
    show (okW w v && holdsB ws c) = true ↔ _
    rw [Bool.and_eq_true, ih]
    constructor
    · rintro ⟨h1, h2⟩ k hk
      cases k with
      | zero => exact h1
      | succ k => exact h2 k (by simpa using hk)
    · intro h
      refine ⟨h 0 (by simp), fun k hk => ?_⟩
      exact h (k + 1) (by simpa using hk)
theorem inFl_map (l : List Int) (v : Int) : inFl (.int v) (l.map eI) = l.contains v := by
  induction l with
  | nil => rfl
  | cons x l ih =>
    show (PyData.eqv (.int x) (.int v) || inFl (.int v) (l.map eI)) = (x :: l).contains v
    rw [ih]
    simp only [PyData.eqv, List.contains_cons]
    rw [Bool.beq_comm]
theorem flat_map (l : List Int) : (l.map eI).all flatD = true := by
  induction l with
  | nil => rfl
  | cons x l ih => simp only [List.map_cons, List.all_cons, ih]; rfl
end DL
namespace DL
open PySem
theorem rise_len : ∀ {l : List Int} {a b : Int}, (∀ x ∈ l, a ≤ x ∧ x < b) → l.Pairwise (· < ·) → l ≠ [] → (l.length : Int) ≤ b - a
  | [x], a, b, h, _, _ => by
    have := h x (by simp)
    simp
    omega
  | x :: y :: l, a, b, h, hp, _ => by
    have hx := h x (by simp)
    have h2 : ∀ z ∈ y :: l, x + 1 ≤ z ∧ z < b := fun z hz => ⟨by
      have := (List.pairwise_cons.mp hp).1 z hz
      omega, (h z (List.mem_cons_of_mem _ hz)).2⟩
    have := rise_len h2 (List.pairwise_cons.mp hp).2 (by simp)
    simp only [List.length_cons] at this ⊢
    omega
theorem WW.len {size : Int} {l : List Int} (h : WW size (some l)) (hs : size ≤ 4) : l.length ≤ 4 := by
  obtain ⟨h1, h2, h3⟩ := h l rfl
  have := rise_len h2 h3 h1
  omega
/-- the law's row -/
def rowD (sc : List Int) (i m r : Int) : Row := [.list (sc.map PyData.int), .int i, .int m, .int r]
def RowI (sc : List Int) (s : Row) : Prop := ∃ i m r, s = rowD sc i m r ∧ 0 ≤ i
end DL
namespace DL
open PySem
@[simp] theorem atI_map1 {α : Type} (xs : List α) (f : α → D) (k : Nat) : L2.atI (xs.map f) ((k : Int) + 1) = (xs[k + 1]?).map f := by
  have := atI_map xs f (k + 1)
  rw [← this]
  rfl
theorem atI_pos {α : Type} (xs : List α) (f : α → D) {i : Int} (h : 0 ≤ i) : L2.atI (xs.map f) i = (xs[i.toNat]?).map f := by
  have := atI_map xs f i.toNat
  rw [show ((i.toNat : Nat) : Int) = i by omega] at this
  exact this
@[simp] theorem ixN_3 (n : Nat) : L2.ixN (n + 4) 3 = some 3 := by
  unfold L2.ixN
  rw [if_pos (by omega), if_pos (by omega)]
  rfl
@[simp] theorem ixN_2 (n : Nat) : L2.ixN (n + 4) 2 = some 2 := by
  unfold L2.ixN
  rw [if_pos (by omega), if_pos (by omega)]
  rfl
@[simp] theorem ixN_1 (n : Nat) : L2.ixN (n + 4) 1 = some 1 := by
  unfold L2.ixN
  rw [if_pos (by omega), if_pos (by omega)]
  rfl
theorem ix4_3 : L2.ixN 4 3 = some 3 := by decide
theorem ix4_2 : L2.ixN 4 2 = some 2 := by decide
theorem ix4_1 : L2.ixN 4 1 = some 1 := by decide
/-- a for whose turns all go on, the invariant said of what is still to come -/
theorem for_inv {h : SG} {body : SS} (I : List D → Env → Row → Prop) (step : ∀ d ds ρ s, I (d :: ds) ρ s → ∃ ρ1 ρ2 s2, h d ρ = some ρ1 ∧ (body ρ1 s = some (.nx ρ2 s2) ∨ body ρ1 s = some (.ct ρ2 s2)) ∧ I ds ρ2 s2) :
    ∀ ds ρ s, I ds ρ s → ∃ ρ' s', forL h body ds ρ s = some (.nx ρ' s') ∧ I [] ρ' s'
  | [], ρ, s, hI => ⟨ρ, s, rfl, hI⟩
  | d :: ds, ρ, s, hI => by
    obtain ⟨ρ1, ρ2, s2, h1, h2, h3⟩ := step d ds ρ s hI
    obtain ⟨ρ', s', g1, g2⟩ := for_inv I step ds ρ2 s2 h3
    refine ⟨ρ', s', ?_, g2⟩
    show (h d ρ).bind _ = _
    rw [h1, Option.bind_some]
    rcases h2 with h2 | h2
    · rw [h2, Option.bind_some]
      exact g1
    · rw [h2, Option.bind_some]
      exact g1
/-- .. over a mapped list, by the place -/
theorem for_at {α : Type} {h : SG} {body : SS} (enc : α → D) (xs : List α) (I : Nat → Env → Row → Prop) (step : ∀ (i : Nat) (x : α) ρ s, xs[i]? = some x → I i ρ s → ∃ ρ1 ρ2 s2, h (enc x) ρ = some ρ1 ∧ (body ρ1 s = some (.nx ρ2 s2) ∨ body ρ1 s = some (.ct ρ2 s2)) ∧ I (i + 1) ρ2 s2)
    {ρ : Env} {s : Row} (h0 : I 0 ρ s) : ∃ ρ' s', forL h body (xs.map enc) ρ s = some (.nx ρ' s') ∧ I xs.length ρ' s' := by
  have key : ∀ (m i : Nat) (ρ : Env) (s : Row), i + m = xs.length → I i ρ s → ∃ ρ' s', forL h body ((xs.drop i).map enc) ρ s = some (.nx ρ' s') ∧ I xs.length ρ' s' := by
    intro m
    induction m with
    | zero =>
      intro i ρ s e hI
      have : i = xs.length := by omega
      subst this
      rw [List.drop_eq_nil_of_le (Nat.le_refl _)]
      exact ⟨ρ, s, rfl, hI⟩
    | succ m ih =>
      intro i ρ s e hI
      have hi : i < xs.length := by omega
      rw [List.drop_eq_getElem_cons hi]
      obtain ⟨ρ1, ρ2, s2, h1, h2, h3⟩ := step i xs[i] ρ s (List.getElem?_eq_getElem hi) hI
      obtain ⟨ρ', s', g1, g2⟩ := ih (i + 1) ρ2 s2 (by omega) h3
      refine ⟨ρ', s', ?_, g2⟩
      show (h (enc xs[i]) ρ).bind _ = _
      rw [h1, Option.bind_some]
      rcases h2 with h2 | h2
      · rw [h2, Option.bind_some]
        exact g1
      · rw [h2, Option.bind_some]
        exact g1
  exact key xs.length 0 ρ s (by omega) h0
end DL

namespace DL
open PySem
/-- it comes to an answer of which Φ holds -/
def Rs {α : Type} (o : Option α) (Φ : α → Prop) : Prop := ∃ a, o = some a ∧ Φ a
section
variable {α β : Type} {Φ Ψ : α → Prop} {o : Option α}
@[simp] theorem Rs_some {a : α} : Rs (some a) Φ ↔ Φ a := ⟨fun ⟨b, e, h⟩ => by cases e; exact h, fun h => ⟨a, rfl, h⟩⟩
@[simp] theorem Rs_none : Rs (none : Option α) Φ ↔ False := ⟨fun ⟨b, e, h⟩ => (by cases e), fun h => h.elim⟩
@[simp] theorem Rs_bind {x : Option β} {f : β → Option α} : Rs (x.bind f) Φ ↔ Rs x fun b => Rs (f b) Φ := by
  constructor
  · rintro ⟨a, e, h⟩
    obtain ⟨b, e1, e2⟩ := bnd e
    exact ⟨b, e1, a, e2, h⟩
  · rintro ⟨b, e1, a, e2, h⟩
    exact ⟨a, by rw [e1]; exact e2, h⟩
theorem Rs.mono (h : Rs o Φ) (f : ∀ a, Φ a → Ψ a) : Rs o Ψ := let ⟨a, e, q⟩ := h; ⟨a, e, f a q⟩
theorem Rs_eq {a : α} : Rs o (fun b => b = a) ↔ o = some a := ⟨fun ⟨b, e, h⟩ => by rw [e, h], fun h => ⟨a, h, rfl⟩⟩
theorem Rs_ite {c : Prop} [Decidable c] {x y : Option α} (h1 : c → Rs x Φ) (h2 : ¬ c → Rs y Φ) : Rs (if c then x else y) Φ := by
  split
  · exact h1 ‹_›
  · exact h2 ‹_›
end
def lendS : Sl → Sl
  | .own ds => .imm (.list ds)
  | .row => .dead
  | .sub _ => .dead
  | .me _ _ _ => .dead
  | .raw _ => .dead
  | .deep t => .imm t.data
  | x => x
@[simp low] theorem lendE_any {x : Sl} {ρ : DL.Env} : lendE (x :: ρ) = lendS x :: lendE ρ := by cases x <;> rfl
/-- a for over a mapped list whose turns go on -/
theorem for_rs {α : Type} {h : SG} {body : SS} {enc : α → D} {xs : List α} {ρ : Env} {s : Row} {Φ : Out → Prop} (I : Nat → Env → Row → Prop) (h0 : I 0 ρ s)
    (step : ∀ (i : Nat) (x : α) ρ s, xs[i]? = some x → I i ρ s → Rs (h (enc x) ρ) fun ρ1 => Rs (body ρ1 s) fun o => ∃ ρ2 s2, (o = .nx ρ2 s2 ∨ o = .ct ρ2 s2) ∧ I (i + 1) ρ2 s2)
    (hd : ∀ ρ' s', I xs.length ρ' s' → Φ (.nx ρ' s')) : Rs (forL h body (xs.map enc) ρ s) Φ := by
  obtain ⟨ρ', s', e, q⟩ := for_at (h := h) (body := body) enc xs I (fun i x ρ s hx hI => by
    obtain ⟨ρ1, e1, o, e2, ρ2, s2, ho, hI2⟩ := step i x ρ s hx hI
    refine ⟨ρ1, ρ2, s2, e1, ?_, hI2⟩
    rcases ho with rfl | rfl
    · exact .inl e2
    · exact .inr e2) h0
  exact ⟨_, e, hd ρ' s' q⟩
/-- a comprehension without a test, whose turns may change the row -/
theorem comp_rs {α β : Type} {h : SG} {fe : SE} {enc : α → D} {xs : List α} {ρ : Env} {s : Row} {Φ : List D × Row → Prop} (I : Row → Prop) (R : α → β → Prop) (enc' : β → D) (h0 : I s)
    (H : ∀ x, x ∈ xs → ∀ s, I s → Rs (h (enc x) ρ) fun ρ1 => Rs (fe ρ1 s) fun a => ∃ y s', a = (enc' y, s') ∧ I s' ∧ R x y)
    (hd : ∀ (ys : List β) (s' : Row), I s' → Pw R xs ys → Φ (ys.map enc', s')) : Rs (compL h bYes fe ρ (xs.map enc) s) Φ := by
  obtain ⟨ys, s', e, h1, h2⟩ := comp_inv (h := h) (fe := fe) (ρ := ρ) I R enc enc' xs (fun x hx s hs => by
    obtain ⟨ρ1, e1, a, e2, y, s', rfl, h3, h4⟩ := H x hx s hs
    exact ⟨ρ1, y, s', e1, e2, h3, h4⟩) s h0
  exact ⟨_, e, hd ys s' h1 h2⟩
/-- .. with a test, the item itself kept -/
theorem comp_rsF {α : Type} {h : SG} {ft : SB} {fe : SE} {enc : α → D} {xs : List α} {ρ : Env} {s : Row} {Φ : List D × Row → Prop} (I : Row → Prop) (enc' : α → D) (h0 : I s)
    (H : ∀ x, x ∈ xs → ∀ s, I s → Rs (h (enc x) ρ) fun ρ1 => Rs (ft ρ1 s) fun b => I b.2 ∧ (b.1 = true → fe ρ1 b.2 = some (enc' x, b.2)))
    (hd : ∀ (ys : List α) (s' : Row), I s' → List.Sublist ys xs → Φ (ys.map enc', s')) : Rs (compL h ft fe ρ (xs.map enc) s) Φ := by
  induction xs generalizing s Φ with
  | nil => exact ⟨_, rfl, hd [] s h0 (List.Sublist.refl _)⟩
  | cons x xs ih =>
    obtain ⟨ρ1, e1, b, e2, h1, h2⟩ := H x (by simp) s h0
    obtain ⟨b, s1⟩ := b
    have ih := fun {Ψ : List D × Row → Prop} => ih (s := s1) (Φ := Ψ) h1 fun y hy => H y (by simp [hy])
    show Rs ((h (enc x) ρ).bind _) Φ
    rw [e1, Option.bind_some, e2, Option.bind_some]
    cases b with
    | true =>
      simp only [if_true]
      rw [h2 rfl, Option.bind_some]
      refine Rs_bind.mpr (ih fun ys s' hs hsub => ?_)
      exact Rs_some.mpr (hd (x :: ys) s' hs (hsub.cons_cons x))
    | false =>
      simp only [Bool.false_eq_true, if_false]
      exact ih fun ys s' hs hsub => hd ys s' hs (hsub.cons x)
end DL
namespace DL
open PySem
@[simp] theorem eqD_b (a b : Bool) : eqD (.bool a) (.bool b) = some (.bool (decide (a = b))) := by
  rw [eqD_ap (flatE_b _)]
  simp only [PyData.eqv, Bool.beq_eq_decide_eq]
@[simp] theorem neD_b (a b : Bool) : neD (.bool a) (.bool b) = some (.bool (!decide (a = b))) := by
  rw [neD_ap (flatE_b _)]
  simp only [PyData.eqv, Bool.beq_eq_decide_eq]
theorem str_ne1 : ¬ ("one" : Str) = "first" := by decide +kernel
theorem str_ne2 : ¬ ("one" : Str) = "same" := by decide +kernel
theorem str_ne3 : ¬ ("first" : Str) = "one" := by decide +kernel
theorem str_ne4 : ¬ ("first" : Str) = "same" := by decide +kernel
theorem str_ne5 : ¬ ("same" : Str) = "one" := by decide +kernel
theorem str_ne6 : ¬ ("same" : Str) = "first" := by decide +kernel
def WWay (w : Str) : Prop := w = "one" ∨ w = "first" ∨ w = "same"
theorem sIx_k {n k : Nat} (h : k ≤ n) : HT.sIx n 0 (some (k : Int)) = k := by
  rw [HT.sIx_nat]; omega
theorem sIx_k' {n k : Nat} (h : k ≤ n) : HT.sIx n n (some (k : Int)) = k := by
  rw [HT.sIx_nat]; omega
theorem cut_take {ds : List D} {k : Nat} (h : k ≤ ds.length) : cutD ds none (some (k : Int)) = ds.take k := by
  unfold cutD
  rw [sIx_k' h]
  show (ds.drop 0).take (k - 0) = ds.take k
  rfl
theorem cut_drop {ds : List D} {k : Nat} (h : k ≤ ds.length) : cutD ds (some (k : Int)) none = ds.drop k := by
  unfold cutD
  rw [sIx_k h]
  show (ds.drop k).take (ds.length - k) = ds.drop k
  rw [List.take_of_length_le (by rw [List.length_drop]; omega)]
theorem cut_drop1 {ds : List D} {k : Nat} (h : k + 1 ≤ ds.length) : cutD ds (some ((k : Int) + 1)) none = ds.drop (k + 1) := by
  have := cut_drop (ds := ds) (k := k + 1) h
  rw [← this]
  rfl
/-- what a table tells -/
def deedAt (rs : List Rule) (k : Nat) : Option Int := match rs[k]? with | some r => r.2 | none => none
def clashM (rs : List Rule) (w : Str) (l : List Nat) : Option (Nat × Nat) :=
  match l with
  | a :: b :: r => if w = "first" then none else if w = "one" then some (a, b) else
    match (a :: b :: r).filter (fun k => decide (¬ deedAt rs k = deedAt rs a)) with
    | [] => none
    | x :: _ => some (a, x)
  | _ => none
def ansM (rs : List Rule) (w : Str) (l : List Nat) : D :=
  match l with
  | [] => .tuple [.str "gap"]
  | a :: r => match clashM rs w (a :: r) with
    | none => .tuple [.str "deed", eO (deedAt rs a)]
    | some (x, y) => .tuple [.str "clash", eN x, eN y]
def toldM (t : Table) (w : Str) (c : List Int) : D := ansM t.2 w (holdL t c)
theorem eqv_eO (a b : Option Int) : PyData.eqv (eO a) (eO b) = decide (a = b) := by
  cases a <;> cases b <;> simp [eO, PyData.eqv, Bool.beq_eq_decide_eq]
theorem flatE_eO (a b : Option Int) : flatE (eO a) (eO b) := by
  cases b
  · exact flatE_n
  · exact flatE_i _
@[simp] theorem neD_eO (a b : Option Int) : neD (eO a) (eO b) = some (.bool (!decide (a = b))) := by
  rw [neD_ap (flatE_eO a b), eqv_eO]
@[simp] theorem eqD_eO (a b : Option Int) : eqD (eO a) (eO b) = some (.bool (decide (a = b))) := by
  rw [eqD_ap (flatE_eO a b), eqv_eO]
theorem flat_eO (a : Option Int) : flatD (eO a) = true := by cases a <;> rfl
theorem holdL_lt {t : Table} {c : List Int} : ∀ k, k ∈ holdL t c → k < t.2.length := fun k hk => by
  have := (List.mem_filter.mp hk).1
  exact List.mem_range.mp this
theorem holdL_len {t : Table} {c : List Int} : (holdL t c).length ≤ t.2.length := by
  have := List.length_filter_le (hAt t.2 c) (List.range t.2.length)
  simpa [holdL] using this
end DL
namespace DL
open PySem
theorem ninD_bools {n : Nat} {p : Nat → Bool} : ninD (.bool false) (.list ((List.range n).map fun j => .bool (p j))) = some (.bool ((List.range n).all p)) := by
  have key : ∀ l : List Nat, inFl (.bool false) (l.map fun j => .bool (p j)) = !l.all p := fun l => by
    induction l with
    | nil => rfl
    | cons x l ih =>
      show (PyData.eqv (.bool (p x)) (.bool false) || inFl (.bool false) (l.map fun j => .bool (p j))) = _
      rw [ih, List.all_cons]
      cases p x <;> simp [PyData.eqv]
  have fl : ∀ l : List Nat, (l.map fun j => PyData.bool (p j)).all flatD = true := fun l => by
    induction l with
    | nil => rfl
    | cons x l ih => simp only [List.map_cons, List.all_cons, ih]; rfl
  rw [ninD_ap rfl (fl _) rfl, key, Bool.not_not]
theorem range_holdsB {ws : List Want} {c : List Int} (h : ws.length = c.length) : (List.range c.length).all (okAt ws c) = holdsB ws c := by
  rw [Bool.eq_iff_iff, List.all_eq_true, holdsB_all h]
  exact ⟨fun h k hk => h k (List.mem_range.mpr hk), fun h k hk => h k (List.mem_range.mp hk)⟩
theorem range_filter_succ (p : Nat → Bool) (k : Nat) : (List.range (k + 1)).filter p = if p k then (List.range k).filter p ++ [k] else (List.range k).filter p := by
  rw [List.range_succ, List.filter_append]
  cases h : p k <;> simp [h]
theorem range_filter_len (p : Nat → Bool) (k : Nat) : ((List.range k).filter p).length ≤ k := by
  have := List.length_filter_le p (List.range k)
  simpa using this
theorem at_range {n i k : Nat} (h : (List.range n)[i]? = some k) : i < n ∧ k = i := by
  obtain ⟨h1, h2⟩ := List.getElem?_eq_some_iff.mp h
  exact ⟨by simpa using h1, by simpa using h2.symm⟩
theorem inD_ints (l : List Int) (v : Int) : inD (.int v) (.tuple (l.map eI)) = some (.bool (l.contains v)) := by
  rw [inD_ap rfl (flat_map l) rfl, inFl_map]
/-- data that alike can look at, to a depth -/
def Lv : Nat → D → Prop
  | 0, d => flatD d = true
  | n + 1, d => flatD d = true ∨ ∃ ds : List D, (d = .list ds ∨ d = .tuple ds) ∧ ds.length ≤ 1000000 ∧ ∀ x ∈ ds, Lv n x
end DL
namespace DL
open PySem
def neqs (rs : List Rule) (a : Nat) (l : List Nat) : List Nat := (a :: l).filter fun k => decide (¬ deedAt rs k = deedAt rs a)
theorem clash_same (rs : List Rule) (a : Nat) (l : List Nat) : clashM rs "same" (a :: l) = match neqs rs a l with | [] => none | x :: _ => some (a, x) := by
  cases l with
  | nil => simp [clashM, neqs]
  | cons b r => simp only [clashM, if_neg str_ne5, if_neg str_ne6, neqs]
theorem count_deeds (rs : List Rule) (d : Option Int) (l : List Nat) : (l.map fun k => eO (deedAt rs k)).countP (fun z => PyData.eqv z (eO d)) = l.countP fun k => decide (deedAt rs k = d) := by
  induction l with
  | nil => rfl
  | cons x l ih => rw [List.map_cons, List.countP_cons, List.countP_cons, ih, eqv_eO]
theorem count_filter (rs : List Rule) (d : Option Int) (l : List Nat) : (l.countP fun k => decide (deedAt rs k = d)) + (l.filter fun k => decide (¬ deedAt rs k = d)).length = l.length := by
  induction l with
  | nil => rfl
  | cons x l ih =>
    rw [List.countP_cons, List.filter_cons]
    by_cases h : deedAt rs x = d
    · simp [h] at ih ⊢; omega
    · simp [h] at ih ⊢; omega
theorem flat_deeds (rs : List Rule) (l : List Nat) : (l.map fun k => eO (deedAt rs k)).all flatD = true := by
  induction l with
  | nil => rfl
  | cons x l ih => simp only [List.map_cons, List.all_cons, ih, flat_eO]; rfl
theorem cnt_deeds (rs : List Rule) (a : Nat) (l : List Nat) : cntD (eO (deedAt rs a) :: l.map fun k => eO (deedAt rs k)) (eO (deedAt rs a)) = some (.int ((l.length : Int) + 1 - ((neqs rs a l).length : Int))) := by
  have h1 := count_deeds rs (deedAt rs a) (a :: l)
  have h2 := count_filter rs (deedAt rs a) (a :: l)
  have h3 := flat_deeds rs (a :: l)
  unfold cntD
  rw [show (eO (deedAt rs a) :: l.map fun k => eO (deedAt rs k)) = (a :: l).map fun k => eO (deedAt rs k) from rfl, h3, flat_eO, h1]
  simp only [Bool.and_self, if_true]
  have h4 : (neqs rs a l).length = ((a :: l).filter fun k => decide (¬ deedAt rs k = deedAt rs a)).length := rfl
  simp only [List.length_cons] at h2
  congr 2
  omega
@[simp] theorem frzE_0o {ds : List D} {ρ : Env} : frzE 0 (.own ds :: ρ) = .imm (.list ds) :: ρ := rfl
@[simp] theorem frzE_0i {d : D} {ρ : Env} : frzE 0 (.imm d :: ρ) = .imm d :: ρ := rfl
@[simp] theorem frzE_s {n : Nat} {x : Sl} {ρ : Env} : frzE (n + 1) (x :: ρ) = x :: frzE n ρ := by
  unfold frzE
  rw [List.getElem?_cons_succ]
  cases ρ[n]? with
  | none => rfl
  | some y => cases y <;> rfl
end DL
namespace DL
open PySem
section
variable {α β γ : Type} {R : α → β → Prop}
theorem Pw.range_len {n : Nat} {ys : List β} {R : Nat → β → Prop} (h : Pw R (List.range n) ys) : ys.length = n := by
  have := h.length
  simpa using this.symm
theorem Pw.of_forall {p : β → Prop} {xs : List α} {ys : List β} (hl : xs.length = ys.length) (h : ∀ (i : Nat) x y, xs[i]? = some x → ys[i]? = some y → R x y) : Pw R xs ys := by
  induction xs generalizing ys with
  | nil =>
    cases ys with
    | nil => exact .nil
    | cons _ _ => simp at hl
  | cons x xs ih =>
    cases ys with
    | nil => simp at hl
    | cons y ys => exact .cons (h 0 x y rfl rfl) (ih (by simpa using hl) fun i a b e1 e2 => h (i + 1) a b (by simpa using e1) (by simpa using e2))
theorem Pw.get? {xs : List α} {ys : List β} (h : Pw R xs ys) {i : Nat} {y : β} (e : ys[i]? = some y) : ∃ x, xs[i]? = some x ∧ R x y := by
  have hl := h.length
  obtain ⟨h1, h2⟩ := List.getElem?_eq_some_iff.mp e
  have e1 : xs[i]? = some (xs[i]'(by omega)) := List.getElem?_eq_getElem (by omega)
  exact ⟨_, e1, h.get e1 e⟩
end
theorem wd_none : WD none := fun n h => by cases h
theorem ww_none {s : Int} : WW s none := fun l h => by cases h
theorem ww_one {s v : Int} (h0 : 0 ≤ v) (h1 : v < s) : WW s (some [v]) := fun l h => by
  cases h
  exact ⟨by simp, fun x hx => by simp at hx; subst hx; exact ⟨h0, h1⟩, by simp⟩
theorem range_rise (n : Nat) : ((List.range n).map fun (k : Nat) => (k : Int)).Pairwise (· < ·) := by
  rw [List.pairwise_map]
  exact List.pairwise_lt_range.imp fun h => by omega
theorem ww_sub {s : Int} {n : Nat} {l : List Nat} (hn : (n : Int) ≤ s) (h : List.Sublist l (List.range n)) (hne : l ≠ []) : WW s (some (l.map fun (k : Nat) => (k : Int))) := fun m e => by
  cases e
  refine ⟨by simpa using hne, fun x hx => ?_, ?_⟩
  · obtain ⟨k, hk, rfl⟩ := List.mem_map.mp hx
    have := List.mem_range.mp (h.subset hk)
    omega
  · exact (range_rise n).sublist (h.map _)
theorem map_eI_nat (l : List Nat) : (l.map fun (k : Nat) => (k : Int)).map eI = l.map eN := by
  rw [List.map_map]; rfl
end DL

namespace DL
open PySem PySem.Spec PyProof.Rows L2
section
variable {prog : Program} {w : World} {A : Around} {E : Value → Shared → Prop} {s : Shared}
theorem rev_pick (xs : Array Value) : ((List.range xs.size).filterMap fun (m : Nat) => xs[(((xs.size : Int) - 1) + (m : Int) * (-1)).toNat]?).toArray = xs.toList.reverse.toArray := by
  have h : ∀ n, n ≤ xs.size → ((List.range n).filterMap fun (m : Nat) => xs[(((xs.size : Int) - 1) + (m : Int) * (-1)).toNat]?) = (xs.toList.drop (xs.size - n)).reverse := by
    intro n
    induction n with
    | zero =>
      intro _
      rw [List.drop_eq_nil_of_le (by rw [Array.length_toList]; omega)]
      rfl
    | succ n ih =>
      intro hn
      rw [List.range_succ, List.filterMap_append, ih (by omega)]
      have e : (((xs.size : Int) - 1) + (n : Int) * (-1)).toNat = xs.size - (n + 1) := by omega
      have g : xs[xs.size - (n + 1)]? = some (xs[xs.size - (n + 1)]'(by omega)) := Array.getElem?_eq_getElem (by omega)
      simp only [List.filterMap_cons, List.filterMap_nil, e, g]
      rw [List.drop_eq_getElem_cons (i := xs.size - (n + 1)) (by rw [Array.length_toList]; omega)]
      rw [List.reverse_cons, show xs.size - (n + 1) + 1 = xs.size - n by omega]
      rfl
  rw [h _ (Nat.le_refl _)]
  simp
theorem sliceApplied_rev {sl : Addr} {t : Tok} {n : Nat} {Q : Int × Int × Nat → Shared → Prop} (hs : s.heap.IsSliceOf sl .none .none (.int (-1) t))
    (h : Q ((n : Int) - 1, -1, n) s) : wpAny (model prog w) A (Builtin.Slice.sliceApplied (.ref sl) (pure (n : Int))) Q E s := by
  obtain ⟨os, hos, hcs, hds⟩ := id hs
  unfold Builtin.Slice.sliceApplied Builtin.Slice.sliceFields
  refine wpAny_bind (wpAny_bind (wpAny_field hos hds (x := .none) rfl (wpAny_bind (wpAny_field hos hds (x := .none) rfl (wpAny_bind (wpAny_field hos hds (x := .int (-1) t) rfl (wpAny_pure ?_)))))))
  refine wpAny_bind (HT.slicePart_ (.int _ _) ?_)
  show wpAny _ _ (if ((-1 : Int) == 0) = true then _ else _) _ _ s
  rw [if_neg (by decide)]
  refine wpAny_bind (HT.slicePart_ .none (wpAny_bind (HT.slicePart_ .none (wpAny_bind (wpAny_pure ?_)))))
  show wpAny _ _ (pure ((n : Int) - 1, (-1 : Int), Builtin.Slice.slicePlaces ((n : Int) - 1) (-1) (-1))) _ _ s
  have e : Builtin.Slice.slicePlaces ((n : Int) - 1) (-1) (-1) = n := by
    unfold Builtin.Slice.slicePlaces
    have h1 : ¬ ((-1 : Int) > 0) := by omega
    simp only [h1, if_false]
    by_cases hn : n = 0
    · subst hn; rfl
    · rw [if_pos (by omega), show -(-1 : Int) = 1 from rfl, Int.ediv_one]; omega
  rw [e]
  exact wpAny_pure h
theorem getItem_tuple_rev {t sl : Addr} {u : Tok} {items : Array Value} {Q : Value → Shared → Prop} (ht : IsTup s.heap t items) (hs : s.heap.IsSliceOf sl .none .none (.int (-1) u))
    (h : Q (.ref s.heap.objs.size) { s with heap := s.heap.push { cls := .type "tuple", data := .seq items.toList.reverse.toArray } })
    (hsz : items.size ≤ sizeLine) : wpAny (model prog w) A (getItem (.ref t) (.ref sl)) Q E s := by
  have htake : sizeOk (.seq items.toList.reverse.toArray) := by
    show items.toList.reverse.toArray.size ≤ sizeLine
    rw [List.size_toArray, List.length_reverse, Array.length_toList]
    omega
  obtain ⟨os, hos, hcs, hds⟩ := id hs
  have hTs : s.TypeIs (.ref sl) "slice" := ⟨os, hos, hcs⟩
  unfold getItem
  try with_reducible refine wpAny_holding ?_
  first | refine wpAny_bind (wpAny_pure ?_) | skip
  refine wpAny_bind (wpAny_sequenceKey ht.typeIs (by decide) ?_)
  refine wpAny_bind (wpAny_callSpecial?_slot (name := Str.ofString "__getitem__") ht.typeIs PyProof.Rows.slot_tuple_getitem
    (wpAny_call_entry PyProof.Rows.slot_tuple_getitem ht.typeIs entry_tuple_getitem ?_ (args_tuple_getitem _ _)))
  show wpAny _ _ (Builtin.Tuple.tupleItemsOf (.ref t) >>= _) _ _ s
  refine wpAny_bind (tupleItemsOf_ ht ?_)
  refine wpAny_bind (wpAny_typeOf hTs ?_)
  rw [if_pos (by decide)]
  refine wpAny_bind (sliceApplied_rev hs ?_)
  have hno : ¬ ((((items.size : Int) - 1) == 0 && (-1 : Int) == 1 && items.size == items.size) = true) := by
    intro q
    rw [Bool.and_eq_true, Bool.and_eq_true] at q
    exact absurd q.1.2 (by decide)
  show wpAny _ _ (if (((items.size : Int) - 1) == 0 && (-1 : Int) == 1 && items.size == items.size) = true then _ else _) _ _ s
  rw [if_neg hno, rev_pick]
  first
    | exact wpAny_bind (m := Builtin.Tuple.tupleExact _) (wpAny_newObj_type (wpAny_pure ⟨_, rfl, wpAny_pure h⟩) htake)
    | exact wpAny_bind (m := Builtin.Tuple.tupleExact _) (wpAny_newObj_type (wpAny_bind (wpAny_pure (wpAny_pure ⟨_, rfl, wpAny_pure h⟩))) htake)
    | exact wpAny_bind (wpAny_bind (m := Builtin.Tuple.tupleExact _) (wpAny_newObj_type (wpAny_pure (wpAny_pure ⟨_, rfl, wpAny_pure h⟩)) htake))
    | exact wpAny_bind (wpAny_bind (m := Builtin.Tuple.tupleExact _) (wpAny_newObj_type (wpAny_pure ⟨_, rfl, wpAny_pure h⟩) htake))
end
section
variable {X : Cx}
def tRevB (K : PySem.W.Frag) (te : TE) : TE := fun σ H Q => te σ H fun x H1 => ∃ a xs, x = .ref a ∧ ((SqL K H1 a xs ∧ ∀ p, H1 p = none → Q (.ref p) (upd H1 p (.lst xs.reverse))) ∨ (SqT K H1 a xs ∧ ∀ p, H1 p = none → Q (.ref p) (upd H1 p (.tup xs.reverse))))
theorem pe_revB {e : Expr} {te : TE} {k : Nat} {p1 p2 p3 pos : Pos} (he : PE X e te) : PE X (.Subscript e (.Slice none none (some (.UnaryOp .USub (.Constant (.int 1) k p1) p2)) p3) pos) (tRevB X.K te) := by
  refine ⟨fun pins s σ H Q I h => ?_⟩
  refine Subscript_ (thn (he.run pins s σ H _ I h) fun v s1 ⟨x, H1, I1, r1, q1⟩ => ?_)
  obtain ⟨a, xs, ex, q1⟩ := q1
  subst ex
  cases r1
  have hst : PO X (some (.UnaryOp .USub (.Constant (.int 1) k p1) p2)) (tPart (tUn (rU fun i => .int (-i)) (tC (.int 1)))) := po_some (pe_un un_neg pe_int)
  refine wpAny_Slice (thn (po_none.run pins s1 σ H1 (fun o H2 => o = none ∧ H2 = H1) I1 ⟨rfl, rfl⟩) fun vl s2 ⟨l, H2, I2, pl, el, e2⟩ => ?_)
  subst el e2
  refine thn (po_none.run pins s2 σ H2 (fun o H3 => o = none ∧ H3 = H2) I2 ⟨rfl, rfl⟩) fun vu s3 ⟨u, H3, I3, pu, eu, e3⟩ => ?_
  subst eu e3
  refine thn (hst.run pins s3 σ H3 (fun o H4 => o = some (-1) ∧ H4 = H3) I3 ⟨1, rfl, -1, rfl, rfl, rfl⟩) fun vs s4 ⟨o, H4, I4, ps, eo, e4⟩ => ?_
  subst eo e4
  have I5 : Inv X pins σ H4 { s4 with heap := s4.heap.push { cls := .type "slice", data := .fields #[vl, vu, vs] } } := I4.kept (t' := s4.toks) fun b ob q => Heap.get?_push_of_some _ q
  show wpAny (model X.prog X.w) X.A (subscriptTail e (.Slice none none (some (.UnaryOp .USub (.Constant (.int 1) k p1) p2)) p3) (.ref a) (.ref s4.heap.objs.size)) (EP X pins σ Q) X.xe { s4 with heap := s4.heap.push { cls := .type "slice", data := .fields #[vl, vu, vs] } }
  rcases q1 with ⟨hx, q⟩ | ⟨hx, q⟩
  · obtain ⟨its, r, ht, hz⟩ := I5.list hx
    have hlen := r.length
    refine tail_any (ops := [.ref a, .ref s4.heap.objs.size]) ht.isList.typeIs (PySem.slot_list_getitem.lookup) ?_ (by with_unfolding_all rfl)
    refine wpAny_getItem_list_slice ht.isList (Heap.IsSliceOf.new _ vl vu vs) pl pu ps (by decide) ?_ (by rw [List.size_toArray]; omega)
    rw [PySem.W.krv_pick]
    refine ⟨.ref _, _, I5.laid (t' := s4.toks) (o := .lst xs.reverse) (fun b ob q => Heap.get?_push_of_some _ q) (Nat.le_refl _) ?_, rfl, q _ (I5.hok.fresh (Nat.le_refl _))⟩
    exact ⟨by rw [List.length_reverse]; exact hz, _, 0, r.reverse, Heap.get?_push_size _ rfl⟩
  · obtain ⟨its, r, ht, hz⟩ := I5.tuple hx
    have hlen := r.length
    cases pl
    cases pu
    cases ps with
    | int i t =>
      refine tail_any (ops := [.ref a, .ref s4.heap.objs.size]) (IsTup.typeIs (show IsTup _ a its.toArray from ht)) (PyProof.Rows.slot_tuple_getitem.lookup) ?_ (by with_unfolding_all rfl)
      refine getItem_tuple_rev (show IsTup _ a its.toArray from ht) (Heap.IsSliceOf.new _ .none .none (.int (-1) t)) ?_ (by rw [List.size_toArray]; omega)
      refine ⟨.ref _, _, I5.laid (t' := s4.toks) (o := .tup xs.reverse) (fun b ob q => Heap.get?_push_of_some _ q) (Nat.le_refl _) ?_, rfl, q _ (I5.hok.fresh (Nat.le_refl _))⟩
      exact ⟨by rw [List.length_reverse]; exact hz, _, r.reverse, IsTup.new _ _⟩
end
end DL
namespace DL
open PySem PySem.Spec PyProof.Rows L2
section
variable {K : PySem.W.Frag} {B : Bx} {M H M' H' M2 H2 : Hp} {σ : L2.St} {ρ : Env} {s s' s2 : Row} {ta tb tc te tl : TE} {f g k : SE} {fa ga : SA}
theorem Rps.reverse {vs : List V} {ds : List D} (r : Rps K M vs ds) : Rps K M vs.reverse ds.reverse := by
  have app : ∀ {xs ys : List V} {as bs : List D}, Rps K M xs as → Rps K M ys bs → Rps K M (xs ++ ys) (as ++ bs) := by
    intro xs ys as bs h1 h2
    induction xs generalizing as with
    | nil => cases h1; exact h2
    | cons x xs ih => cases h1 with | cons a b => exact .cons a (ih b)
  induction vs generalizing ds with
  | nil => cases r; exact .nil
  | cons v vs ih =>
    cases r with
    | cons a b =>
      rw [List.reverse_cons, List.reverse_cons]
      exact app (ih b) (.cons a .nil)
def revD : D → Option D | .list ds => some (.list ds.reverse) | .tuple ds => some (.tuple ds.reverse) | _ => none
@[simp] theorem revD_l {ds : List D} : revD (.list ds) = some (.list ds.reverse) := rfl
@[simp] theorem revD_t {ds : List D} : revD (.tuple ds) = some (.tuple ds.reverse) := rfl
theorem gd_rev (ha : GoodE K ta f) : GoodE K (tRevB K ta) (eUn revD f) := fun B M H σ ρ s d s' o e Q q => by
  obtain ⟨⟨x, s1⟩, e1, e⟩ := bnd e
  obtain ⟨z, e2, e⟩ := bnd e
  cases e
  refine ha B M H σ ρ s x _ o e1 _ fun v H1 M1 t1 r1 => ?_
  cases r1 with
  | @lst a vs ds h hl r =>
    cases e2
    refine ⟨_, _, rfl, .inl ⟨t1.sub.seq h, fun p hp => ?_⟩⟩
    have t2 := Step.new (o := .lst vs.reverse) t1.sub t1.row hp
    exact q _ _ _ (t1.trans t2) (.lst (.inl (.inl upd_same)) (by rw [List.length_reverse]; exact hl) (Rps.mono t2.mm _ _ r.reverse))
  | @tup a vs ds h hl r =>
    cases e2
    refine ⟨_, _, rfl, .inr ⟨same_t t1.sub h, fun p hp => ?_⟩⟩
    have t2 := Step.new (o := .tup vs.reverse) t1.sub t1.row hp
    exact q _ _ _ (t1.trans t2) (.tup (.inl (.inl upd_same)) (by rw [List.length_reverse]; exact hl) (Rps.mono t2.mm _ _ r.reverse))
  | _ => cases e2
/-- own list backwards, a new one -/
def lRev (fa : SA) : SA := fun ρ s => (fa ρ s).bind fun x => some (x.1.reverse, x.2)
@[simp] theorem lRev_ap : lRev fa ρ s = (fa ρ s).bind fun x => some (x.1.reverse, x.2) := rfl
theorem gl_rev (ha : GoodQ K ta fa) : GoodL K (tRevB K ta) (lRev fa) := fun B M H σ ρ s d s' o e Q q => by
  obtain ⟨⟨ds, s1⟩, e1, e⟩ := bnd e
  cases e
  refine ha B M H σ ρ s ds _ o e1 _ fun p vs H1 M1 t1 hs hl r1 => ?_
  refine ⟨p, vs, rfl, .inl ⟨hs H1 fun _ _ h _ => h, fun l hp => ?_⟩⟩
  have t2 := Step.lay (o := .lst vs.reverse) t1.sub t1.row hp
  exact q l vs.reverse _ M1 (t1.trans t2) (t1.free hp) (upd_none t1.sub hp) upd_same (by rw [List.length_reverse]; exact hl) r1.reverse
/-! reversed(range(n)) -/
def iRevRng (f : SE) : SA := fun ρ s => (f ρ s).bind fun x => match x.1 with | .int n => if -1000000 ≤ n ∧ n ≤ 1000000 then some ((rngD 0 n).reverse, x.2) else none | _ => none
theorem rngD_rev {n : Int} {i : Nat} {d : D} (h : (rngD 0 n).reverse[i]? = some d) : d = .int ((0 + (((n - 0).toNat : Nat) : Int) - 1) + (i : Nat) * (-1)) := by
  have hl : i < (rngD 0 n).length := by
    have := (List.getElem?_eq_some_iff.mp h).1
    rwa [List.length_reverse] at this
  rw [List.getElem?_reverse hl] at h
  have := rngD_get h
  rw [rngD_len] at hl
  rw [rngD_len] at this
  rw [this]
  congr 1
  omega
theorem gf_revRng (ha : GoodE K ta f) : GoodF K (iRevR (tRg1 ta)) (iRevRng f) := fun B M H σ ρ s ds s' o e R q => by
  obtain ⟨⟨x, s1⟩, e1, e⟩ := bnd e
  refine ha B M H σ ρ s x s1 o e1 _ fun v H1 M1 t1 r1 => ?_
  cases r1 with
  | int n =>
    simp only at e
    split at e
    · rename_i hn
      obtain ⟨rfl, rfl⟩ : (rngD 0 n).reverse = ds ∧ s1 = s' := by cases e; exact ⟨rfl, rfl⟩
      have h62 := big62
      refine ⟨n, rfl, by omega, by omega, by omega, by omega, q _ H1 M1 t1 ⟨?_, _, _, (by rw [List.length_reverse, rngD_len]; exact walk_rangeC), fun _ _ => trivial, fun i x Hc Hn Mc d s e1 e2 e3 k e4 y => ?_⟩⟩
      · rw [List.length_reverse, rngD_len]; unfold lim; omega
      · obtain ⟨rfl, rfl⟩ := y
        rw [rngD_rev e1]
        exact ⟨Mc, step_refl e3 e4, .int _⟩
    · cases e
  | _ => cases e
@[simp] theorem iRevRng_ap : iRevRng f ρ s = (f ρ s).bind fun x => (rng1 x.1).bind fun y => some (y.reverse, x.2) := by
  have h := fun x : D × Row => (show i1Rng (fun _ _ => some x) ρ s = (rng1 x.1).bind fun y => some (y, x.2) from by simp)
  unfold iRevRng
  congr 1
  funext x
  have := h x
  unfold i1Rng at this
  simp only [Option.bind_some] at this
  cases hx : x.1 with
  | int n =>
    simp only [hx] at this ⊢
    split
    · rename_i hn
      rw [if_pos hn] at this
      cases q : rng1 (.int n) with
      | none => rw [q] at this; cases this
      | some y => rw [q] at this; cases this; rfl
    · rename_i hn
      rw [if_neg hn] at this
      cases q : rng1 (.int n) with
      | none => rfl
      | some y => rw [q] at this; cases this
  | _ =>
    simp only [hx] at this ⊢
    revert this
    cases rng1 _ with
    | none => intro _; rfl
    | some y => intro h; cases h
end
section
variable {X : Cx} {K : PySem.W.Frag} {a b c e : Expr} {ta tb te : TE} {f g : SE} {fa ga : SA} {pos p p1 p2 p3 : Pos} {tg : Expr}
theorem d_rev {k : Nat} (A : DE X K a ta f) : DE X K (.Subscript a (.Slice none none (some (.UnaryOp .USub (.Constant (.int 1) k p1) p2)) p3) pos) (tRevB K ta) (eUn revD f) := by
  obtain ⟨hk, pe, gd⟩ := A
  subst hk
  exact ⟨rfl, pe_revB pe, gd_rev gd⟩
theorem n_rev {k : Nat} (A : DQ X K a ta fa) : DN X K (.Subscript a (.Slice none none (some (.UnaryOp .USub (.Constant (.int 1) k p1) p2)) p3) pos) (tRevB K ta) (lRev fa) := by
  obtain ⟨hk, pe, gd⟩ := A
  subst hk
  exact ⟨rfl, pe_revB pe, gl_rev gd⟩
theorem i_revRng {pr : Pos} (A : DE X K a ta f) (hm : X.mg "reversed" = none) (hm2 : X.mg "range" = none) (hg : Gl X "reversed" := by rfl) (hg2 : Gl X "range" := by rfl) (hs : starEach [a] X.env = (false, eval a X.env) :: starEach [] X.env := by rfl)
    (hs2 : starEach [(.Call (.Name "range" pr) [a] [] p2)] X.env = (false, eval (.Call (.Name "range" pr) [a] [] p2) X.env) :: starEach [] X.env := by rfl) :
    DF X K tg (.Call (.Name "reversed" p) [(.Call (.Name "range" pr) [a] [] p2)] [] pos) (iRevR (tRg1 ta)) (iRevRng f) := by
  obtain ⟨hk, pe, gd⟩ := A
  exact ⟨hk, pi_revR hg hm (prg_1 hg2 hm2 pe hs) hs2, gf_revRng gd⟩
end
end DL

namespace DL
open PySem
/-- a for that may give an answer at once -/
theorem for_rsF {α : Type} {h : SG} {body : SS} {enc : α → D} {xs : List α} {ρ : DL.Env} {s : DL.Row} {Φ : Out → Prop} (I : DL.Env → DL.Row → Prop) (p : α → Option D) (h0 : I ρ s)
    (step : ∀ (x : α) ρ s, x ∈ xs → I ρ s → Rs (h (enc x) ρ) fun ρ1 => Rs (body ρ1 s) fun o => match p x with
      | some d => ∃ s2, o = .rt d s2 ∧ Φ (.rt d s2)
      | none => ∃ ρ2 s2, (o = .nx ρ2 s2 ∨ o = .ct ρ2 s2) ∧ I ρ2 s2)
    (hd : ∀ ρ' s', xs.findSome? p = none → I ρ' s' → Φ (.nx ρ' s')) : Rs (forL h body (xs.map enc) ρ s) Φ := by
  induction xs generalizing ρ s with
  | nil => exact ⟨_, rfl, hd ρ s rfl h0⟩
  | cons x xs ih =>
    obtain ⟨ρ1, e1, o, e2, q⟩ := step x ρ s (by simp) h0
    show Rs ((h (enc x) ρ).bind _) Φ
    rw [e1, Option.bind_some, e2, Option.bind_some]
    cases hp : p x with
    | some d =>
      rw [hp] at q
      obtain ⟨s2, rfl, q⟩ := q
      exact ⟨_, rfl, q⟩
    | none =>
      rw [hp] at q
      obtain ⟨ρ2, s2, ho, hI⟩ := q
      have hd' : ∀ ρ' s', xs.findSome? p = none → I ρ' s' → Φ (.nx ρ' s') := fun ρ' s' e hI => hd ρ' s' (by rw [List.findSome?_cons, hp]; exact e) hI
      have st' := fun (y : α) ρ s (hy : y ∈ xs) hI => step y ρ s (by simp [hy]) hI
      rcases ho with rfl | rfl
      · exact ih hI st' hd'
      · exact ih hI st' hd'
/-- .. of which it is known whether and what -/
theorem for_find {α : Type} {h : SG} {body : SS} {enc : α → D} {xs : List α} {ρ : DL.Env} {s : DL.Row} {Φ : Out → Prop} (I : DL.Env → DL.Row → Prop) (p : α → Option D) (h0 : I ρ s)
    (step : ∀ (x : α) ρ s, x ∈ xs → I ρ s → Rs (h (enc x) ρ) fun ρ1 => Rs (body ρ1 s) fun o => match p x with
      | some d => ∃ s2, o = .rt d s2 ∧ s2 = s
      | none => ∃ ρ2 s2, (o = .nx ρ2 s2 ∨ o = .ct ρ2 s2) ∧ I ρ2 s2)
    (hr : ∀ d ρ' s', xs.findSome? p = some d → I ρ' s' → Φ (.rt d s'))
    (hd : ∀ ρ' s', xs.findSome? p = none → I ρ' s' → Φ (.nx ρ' s')) : Rs (forL h body (xs.map enc) ρ s) Φ := by
  induction xs generalizing ρ s with
  | nil => exact ⟨_, rfl, hd ρ s rfl h0⟩
  | cons x xs ih =>
    obtain ⟨ρ1, e1, o, e2, q⟩ := step x ρ s (by simp) h0
    show Rs ((h (enc x) ρ).bind _) Φ
    rw [e1, Option.bind_some, e2, Option.bind_some]
    cases hp : p x with
    | some d =>
      rw [hp] at q
      obtain ⟨s2, rfl, rfl⟩ := q
      exact ⟨_, rfl, hr d ρ s2 (by rw [List.findSome?_cons, hp]) h0⟩
    | none =>
      rw [hp] at q
      obtain ⟨ρ2, s2, ho, hI⟩ := q
      have hd' : ∀ ρ' s', xs.findSome? p = none → I ρ' s' → Φ (.nx ρ' s') := fun ρ' s' e hI => hd ρ' s' (by rw [List.findSome?_cons, hp]; exact e) hI
      have hr' : ∀ d ρ' s', xs.findSome? p = some d → I ρ' s' → Φ (.rt d s') := fun d ρ' s' e hI => hr d ρ' s' (by rw [List.findSome?_cons, hp]; exact e) hI
      have st' := fun (y : α) ρ s (hy : y ∈ xs) hI => step y ρ s (by simp [hy]) hI
      rcases ho with rfl | rfl
      · exact ih hI st' hr' hd'
      · exact ih hI st' hr' hd'
/-- a for that folds -/
theorem for_fold {α β : Type} {h : SG} {body : SS} {enc : α → D} {xs : List α} {ρ : DL.Env} {s : DL.Row} {Φ : Out → Prop} (I : β → DL.Env → DL.Row → Prop) (g : β → α → β) (b : β) (h0 : I b ρ s)
    (step : ∀ (x : α) (b : β) ρ s, x ∈ xs → I b ρ s → Rs (h (enc x) ρ) fun ρ1 => Rs (body ρ1 s) fun o => ∃ ρ2 s2, (o = .nx ρ2 s2 ∨ o = .ct ρ2 s2) ∧ I (g b x) ρ2 s2)
    (hd : ∀ ρ' s', I (xs.foldl g b) ρ' s' → Φ (.nx ρ' s')) : Rs (forL h body (xs.map enc) ρ s) Φ := by
  induction xs generalizing ρ s b with
  | nil => exact ⟨_, rfl, hd ρ s h0⟩
  | cons x xs ih =>
    obtain ⟨ρ1, e1, o, e2, ρ2, s2, ho, hI⟩ := step x b ρ s (by simp) h0
    show Rs ((h (enc x) ρ).bind _) Φ
    rw [e1, Option.bind_some, e2, Option.bind_some]
    have st' := fun (y : α) b ρ s (hy : y ∈ xs) hI => step y b ρ s (by simp [hy]) hI
    rcases ho with rfl | rfl
    · exact ih _ hI st' hd
    · exact ih _ hI st' hd
/-- .. with the number of turns so far -/
theorem for_foldI {α β : Type} {h : SG} {body : SS} {enc : α → D} {xs : List α} {ρ : DL.Env} {s : DL.Row} {Φ : Out → Prop} (I : Nat → β → DL.Env → DL.Row → Prop) (g : β → α → β) (b : β) (h0 : I 0 b ρ s)
    (step : ∀ (i : Nat) (x : α) (b : β) ρ s, x ∈ xs → i < xs.length → I i b ρ s → Rs (h (enc x) ρ) fun ρ1 => Rs (body ρ1 s) fun o => ∃ ρ2 s2, (o = .nx ρ2 s2 ∨ o = .ct ρ2 s2) ∧ I (i + 1) (g b x) ρ2 s2)
    (hd : ∀ ρ' s', I xs.length (xs.foldl g b) ρ' s' → Φ (.nx ρ' s')) : Rs (forL h body (xs.map enc) ρ s) Φ := by
  have key : ∀ (ys : List α) (i : Nat) (b : β) (ρ : DL.Env) (s : DL.Row), (∀ y ∈ ys, y ∈ xs) → i + ys.length = xs.length → I i b ρ s → (∀ ρ' s', I xs.length (ys.foldl g b) ρ' s' → Φ (.nx ρ' s')) → Rs (forL h body (ys.map enc) ρ s) Φ := by
    intro ys
    induction ys with
    | nil =>
      intro i b ρ s _ hl hI hd
      have : i = xs.length := by simpa using hl
      subst this
      exact ⟨_, rfl, hd ρ s hI⟩
    | cons x ys ih =>
      intro i b ρ s hm hl hI hd
      have hl' : i + (ys.length + 1) = xs.length := by simpa using hl
      obtain ⟨ρ1, e1, o, e2, ρ2, s2, ho, hI⟩ := step i x b ρ s (hm x (by simp)) (by omega) hI
      show Rs ((h (enc x) ρ).bind _) Φ
      rw [e1, Option.bind_some, e2, Option.bind_some]
      rcases ho with rfl | rfl
      · exact ih (i + 1) _ ρ2 s2 (fun y hy => hm y (by simp [hy])) (by omega) hI hd
      · exact ih (i + 1) _ ρ2 s2 (fun y hy => hm y (by simp [hy])) (by omega) hI hd
  exact key xs 0 b ρ s (fun _ h => h) (by omega) h0 hd
@[simp] theorem rdSl_eT {t : Table} : rdSl (.imm (eT t)) = some [eIs t.1, eRs t.2] := rfl
@[simp] theorem rdSl_eIs {l : List Int} : rdSl (.imm (eIs l)) = some (l.map eI) := rfl
@[simp] theorem rdSl_eRs {l : List Rule} : rdSl (.imm (eRs l)) = some (l.map eR) := rfl
@[simp] theorem rdSl_eR {r : Rule} : rdSl (.imm (eR r)) = some [eWs r.1, eO r.2] := rfl
@[simp] theorem seqD_eT {t : Table} : seqD (eT t) = some [eIs t.1, eRs t.2] := rfl
@[simp] theorem seqD_eIs {l : List Int} : seqD (eIs l) = some (l.map eI) := rfl
@[simp] theorem seqD_eRs {l : List Rule} : seqD (eRs l) = some (l.map eR) := rfl
@[simp] theorem seqD_eR {r : Rule} : seqD (eR r) = some [eWs r.1, eO r.2] := rfl
/-! all cases -/
def moreC (found : List (List Int)) (size : Int) : List (List Int) := found.flatMap fun c => (List.range size.toNat).map fun v => c ++ [((v : Nat) : Int)]
def casesL (sizes : List Int) : List (List Int) := sizes.foldl moreC [[]]
def decR : List Int → Nat → List Int
  | [], _ => []
  | s :: r, n => decR r (n / s.toNat) ++ [((n % s.toNat : Nat) : Int)]
def prodR : List Int → Nat
  | [] => 1
  | s :: r => prodR r * s.toNat
theorem casesL_snoc (p : List Int) (s : Int) : casesL (p ++ [s]) = moreC (casesL p) s := by
  unfold casesL
  rw [List.foldl_append]
  rfl
theorem range_mul (p s : Nat) (f : Nat → List Int) : (List.range (p * s)).map f = (List.range p).flatMap fun q => (List.range s).map fun r => f (q * s + r) := by
  induction p with
  | zero => simp
  | succ p ih =>
    rw [Nat.succ_mul, List.range_add, List.map_append, ih, List.range_succ, List.flatMap_append, List.map_map]
    simp [Function.comp_def]
theorem cases_dec : ∀ r : List Int, (∀ x ∈ r, 2 ≤ x) → casesL r.reverse = (List.range (prodR r)).map (decR r)
  | [], _ => rfl
  | s :: r, h => by
    rw [List.reverse_cons, casesL_snoc, cases_dec r fun x hx => h x (by simp [hx])]
    have hs : 0 < s.toNat := by
      have := h s (by simp)
      omega
    show moreC _ s = (List.range (prodR r * s.toNat)).map (decR (s :: r))
    rw [range_mul]
    unfold moreC
    rw [List.flatMap_map]
    congr 1
    funext q
    apply List.map_congr_left
    intro v hv
    have hv := List.mem_range.mp hv
    show decR r q ++ [(v : Int)] = decR r ((q * s.toNat + v) / s.toNat) ++ [(((q * s.toNat + v) % s.toNat : Nat) : Int)]
    have e1 : (q * s.toNat + v) / s.toNat = q := by
      rw [Nat.add_comm, Nat.add_mul_div_right _ _ hs, Nat.div_eq_of_lt hv, Nat.zero_add]
    have e2 : (q * s.toNat + v) % s.toNat = v := by
      rw [Nat.add_comm, Nat.add_mul_mod_self_right, Nat.mod_eq_of_lt hv]
    rw [e1, e2]
theorem pw_append {α β : Type} {R : α → β → Prop} : ∀ {xs xs' : List α} {ys ys' : List β}, Pw R xs ys → Pw R xs' ys' → Pw R (xs ++ xs') (ys ++ ys')
  | _, _, _, _, .nil, h => h
  | _, _, _, _, .cons a t, h => .cons a (pw_append t h)
theorem decR_wc : ∀ (r : List Int) (n : Nat), (∀ x ∈ r, 2 ≤ x) → WC r.reverse (decR r n)
  | [], _, _ => .nil
  | s :: r, n, h => by
    rw [List.reverse_cons]
    refine pw_append (decR_wc r _ fun x hx => h x (by simp [hx])) (.cons ?_ .nil)
    have := h s (by simp)
    have hm := Nat.mod_lt n (show 0 < s.toNat by omega)
    omega
theorem casesL_wc {sizes : List Int} (h : ∀ x ∈ sizes, 2 ≤ x) : ∀ c ∈ casesL sizes, WC sizes c := by
  intro c hc
  have := cases_dec sizes.reverse (fun x hx => h x (by simpa using hx))
  rw [List.reverse_reverse] at this
  rw [this] at hc
  obtain ⟨n, _, rfl⟩ := List.mem_map.mp hc
  have := decR_wc sizes.reverse n (fun x hx => h x (by simpa using hx))
  rwa [List.reverse_reverse] at this
theorem prodR_pos : ∀ {r : List Int}, (∀ x ∈ r, 2 ≤ x ∧ x ≤ 4) → 0 < prodR r
  | [], _ => Nat.zero_lt_one
  | s :: r, h => by
    have := h s (by simp)
    exact Nat.mul_pos (prodR_pos fun x hx => h x (by simp [hx])) (by omega)
theorem prodR_le : ∀ {r : List Int}, (∀ x ∈ r, 2 ≤ x ∧ x ≤ 4) → prodR r ≤ 4 ^ r.length
  | [], _ => Nat.le_refl _
  | s :: r, h => by
    have := h s (by simp)
    rw [List.length_cons, Nat.pow_succ]
    exact Nat.mul_le_mul (prodR_le fun x hx => h x (by simp [hx])) (by omega)
theorem ws_cases {sizes : List Int} (h : WS sizes) : casesL sizes = (List.range (prodR sizes.reverse)).map (decR sizes.reverse) ∧ 0 < prodR sizes.reverse ∧ prodR sizes.reverse ≤ 1024 := by
  have hh : ∀ x ∈ sizes.reverse, 2 ≤ x ∧ x ≤ 4 := fun x hx => h.2.2 x (by simpa using hx)
  refine ⟨?_, prodR_pos hh, ?_⟩
  · have := cases_dec sizes.reverse fun x hx => (hh x hx).1
    rwa [List.reverse_reverse] at this
  · have := prodR_le hh
    have h5 : sizes.reverse.length ≤ 5 := by rw [List.length_reverse]; exact h.2.1
    exact Nat.le_trans this (Nat.le_trans (Nat.pow_le_pow_right (by omega) h5) (by decide))
theorem ws_len {sizes : List Int} (h : WS sizes) : (casesL sizes).length ≤ 1024 := by
  obtain ⟨e, _, h2⟩ := ws_cases h
  rw [e, List.length_map, List.length_range]
  exact h2
end DL

/-! zip whose result tuples are kept: two and three lists. -/
namespace ZK
open PySem
open PySem.Sem (wp)
section
variable {prog : Program} {w : World} {A : Around} {E : Value → Shared → Prop} {s : Shared}
theorem wpAny_loadIfAlive {M : Model} {a : Addr} {o : Obj} {Q : Option Obj → Shared → Prop} (ho : s.heap.get? a = some o) (h : Q (some o) s) : wpAny M A (loadIfAlive a) Q E s := fun Γ p _ => by
  unfold loadIfAlive
  rw [Sem.wp_loadIfAlive, ho]
  exact h
abbrev IsZipG (h : Heap) (z TI TO : Addr) (f0 f1 : Value) : Prop :=
  h.get? z = some { cls := .type "zip", dict := none, data := .fields #[f0, f1, .bool false, .ref TI, .ref TO], slots := #[] }
abbrev IsTrip (h : Heap) (T : Addr) (a b c : Value) : Prop := h.get? T = some { cls := .type "tuple", data := .seq #[a, b, c] }
theorem held_not_free {z TI TO T : Addr} {b : Bool} {Q : Bool → Shared → Prop} (hz : IsZipG s.heap z TI TO (rawInt T) (.bool b)) {o : Obj} (hT : s.heap.get? T = some o)
    (h : ∀ h', IsZipG h' z TI TO (rawInt T) (.bool true) → Heap.SameBut z s.heap h' → Q false { s with heap := h' }) : wpAny (model prog w) A (Builtin.SmallTypes.ownedTupleIsFree (.ref z)) Q E s := by
  unfold Builtin.SmallTypes.ownedTupleIsFree
  refine wpAny_bind (wpAny_field hz rfl (x := rawInt T) rfl ?_)
  show wpAny _ _ (loadIfAlive ((T : Int)).toNat >>= _) _ _ _
  rw [Int.toNat_natCast]
  refine wpAny_bind (wpAny_loadIfAlive hT ?_)
  show wpAny _ _ (field (.ref z) 1 >>= _) _ _ _
  refine wpAny_bind (wpAny_field hz rfl (x := .bool b) rfl ?_)
  cases b with
  | true => exact wpAny_pure (h s.heap hz ⟨rfl, fun _ _ => rfl⟩)
  | false =>
    refine wpAny_bind (wpAny_setField_rec hz (by simp) fun h₁ hz₁ hs₁ => wpAny_pure ?_)
    exact h h₁ hz₁ hs₁
theorem wpAny_loadIfDead {M : Model} {a : Addr} {Q : Option Obj → Shared → Prop} (ho : s.heap.get? a = none) (h : Q none s) : wpAny M A (loadIfAlive a) Q E s := fun Γ p _ => by
  unfold loadIfAlive
  rw [Sem.wp_loadIfAlive, ho]
  exact h
def F0 (f0 : Value) : Prop := f0 = .none ∨ ∃ T : Nat, f0 = rawInt T
theorem is_free {z TI TO : Addr} {f0 f1 : Value} {Q : Bool → Shared → Prop} (hz : IsZipG s.heap z TI TO f0 f1) (hf : f0 = .none ∨ ∃ T : Nat, f0 = rawInt T ∧ s.heap.get? T = none)
    (h : Q true s) : wpAny (model prog w) A (Builtin.SmallTypes.ownedTupleIsFree (.ref z)) Q E s := by
  unfold Builtin.SmallTypes.ownedTupleIsFree
  rcases hf with rfl | ⟨T, rfl, hT⟩
  · exact wpAny_bind (wpAny_field hz rfl (x := .none) rfl (wpAny_pure h))
  · refine wpAny_bind (wpAny_field hz rfl (x := rawInt T) rfl ?_)
    show wpAny _ _ (loadIfAlive ((T : Int)).toNat >>= _) _ _ _
    rw [Int.toNat_natCast]
    refine wpAny_bind (wpAny_loadIfDead hT ?_)
    exact wpAny_pure h
theorem zip2_held_item {z TI TO i1 i2 l1 l2 T : Addr} {f1 : Bool} {k1 k2 : Nat} {xs ys : Array Value} {x y : Value} {o : Obj} {Q : Value → Shared → Prop} (D : ZipApart z TI TO i1 i2 l1 l2)
    (hz : IsZipG s.heap z TI TO (rawInt T) (.bool f1)) (hT : s.heap.get? T = some o) (hTI : IsPair s.heap TI (.ref i1) (.ref i2))
    (h1 : s.heap.IsListIter i1 l1 k1) (h2 : s.heap.IsListIter i2 l2 k2) (hl1 : s.heap.IsList l1 xs) (hl2 : s.heap.IsList l2 ys) (hx : xs[k1]? = some x) (hy : ys[k2]? = some y)
    (hQ : ∀ h', IsZipG h' z TI TO (rawInt T) (.bool true) → h'.IsListIter i1 l1 (k1 + 1) → h'.IsListIter i2 l2 (k2 + 1) → IsPair h' s.heap.objs.size x y → h'.objs.size = s.heap.objs.size + 1 →
      (∀ c o, c ≠ z → c ≠ i1 → c ≠ i2 → s.heap.get? c = some o → h'.get? c = some o) → Q (.ref s.heap.objs.size) { s with heap := h' }) :
    wpAny (model prog w) A (Builtin.«zip.__next__» ⟨[.ref z], []⟩) (fun fin s' => ∃ v, fin = .done (.ret v) ∧ Q v s') E s := by
  show wpAny _ _ (field (.ref z) 2 >>= _) _ _ _
  refine wpAny_bind (wpAny_field hz rfl (x := .bool false) rfl ?_)
  show wpAny _ _ (field (.ref z) 3 >>= _) _ _ _
  refine wpAny_bind (wpAny_field hz rfl (x := .ref TI) rfl ?_)
  refine wpAny_bind (wpAny_seqItems hTI rfl ?_)
  show wpAny _ _ (Builtin.SmallTypes.ownedTupleIsFree (.ref z) >>= _) _ _ _
  refine wpAny_bind (held_not_free hz hT fun h₁ hz₁ hs₁ => ?_)
  rw [if_neg (by decide)]
  refine wpAny_bind ?_
  rw [← Array.forIn_toList]
  simp only [List.forIn_cons, List.forIn_nil]
  refine wpAny_bind (wpAny_bind ?_)
  refine wpAny_holding ?_
  show wpAny _ _ (Builtin.SmallTypes.nextOf (.ref i1) >>= _) _ _ _
  refine wpAny_bind (wpAny_nextOf_list_item (h1.extBut hs₁.extBut D.i1z) (hl1.extBut hs₁.extBut D.l1z) hx fun h₂ h1₂ hs₂ => wpAny_pure ?_)
  refine wpAny_pure ?_
  refine wpAny_bind (wpAny_bind ?_)
  refine wpAny_holding ?_
  show wpAny _ _ (Builtin.SmallTypes.nextOf (.ref i2) >>= _) _ _ _
  refine wpAny_bind (wpAny_nextOf_list_item ((h2.extBut hs₁.extBut D.i2z).extBut hs₂.extBut D.i12.symm) ((hl2.extBut hs₁.extBut D.l2z).extBut hs₂.extBut D.l2i1) hy fun h₃ h2₃ hs₃ => wpAny_pure ?_)
  refine wpAny_pure (wpAny_pure ?_)
  refine wpAny_bind (wpAny_newTuple ?_ (hsz := by show 2 ≤ sizeLine; rw [sizeLine_eq]; decide))
  have hsz : h₃.objs.size = s.heap.objs.size := by rw [hs₃.1, hs₂.1, hs₁.1]
  have up : ∀ c o, c ≠ z → c ≠ i1 → c ≠ i2 → s.heap.get? c = some o → h₃.get? c = some o := fun c o c1 c3 c4 e => hs₃.extBut _ _ c4 (hs₂.extBut _ _ c3 (hs₁.extBut _ _ c1 e))
  have hz₃ : IsZipG h₃ z TI TO (rawInt T) (.bool true) := hs₃.extBut _ _ D.i2z.symm (hs₂.extBut _ _ D.i1z.symm hz₁)
  refine wpAny_pure ⟨_, rfl, ?_⟩
  show Q (.ref h₃.objs.size) _
  rw [hsz]
  refine hQ _ (Heap.get?_push_of_some _ hz₃) ((h1₂.extBut hs₃.extBut D.i12).at fun o e => Heap.get?_push_of_some _ e) (h2₃.at fun o e => Heap.get?_push_of_some _ e) ?_ (by rw [Heap.size_push, hsz]) fun c o c1 c2 c3 e => Heap.get?_push_of_some _ (up c o c1 c2 c3 e)
  rw [← hsz]
  exact Heap.get?_push_size _ rfl
theorem zip2_held_end {z TI TO i1 i2 l1 l2 T : Addr} {f1 : Bool} {k1 k2 : Nat} {xs ys : Array Value} {o : Obj} {Q : Fin → Shared → Prop} (hh : A.handled = none) (D : ZipApart z TI TO i1 i2 l1 l2)
    (hz : IsZipG s.heap z TI TO (rawInt T) (.bool f1)) (hT : s.heap.get? T = some o) (hTI : IsPair s.heap TI (.ref i1) (.ref i2))
    (h1 : s.heap.IsListIter i1 l1 k1) (h2 : s.heap.IsListIter i2 l2 k2) (hl1 : s.heap.IsList l1 xs) (hl2 : s.heap.IsList l2 ys) (hend : xs[k1]? = none ∨ ys[k2]? = none)
    (hE : ∀ h' e, (∀ c o, c ≠ z → c ≠ i1 → c ≠ i2 → s.heap.get? c = some o → h'.get? c = some o) → (∃ o, h'.get? e = some o ∧ o.cls = .type "StopIteration") → E (.ref e) { s with heap := h' }) :
    wpAny (model prog w) A (Builtin.«zip.__next__» ⟨[.ref z], []⟩) Q E s := by
  show wpAny _ _ (field (.ref z) 2 >>= _) _ _ _
  refine wpAny_bind (wpAny_field hz rfl (x := .bool false) rfl ?_)
  show wpAny _ _ (field (.ref z) 3 >>= _) _ _ _
  refine wpAny_bind (wpAny_field hz rfl (x := .ref TI) rfl ?_)
  refine wpAny_bind (wpAny_seqItems hTI rfl ?_)
  show wpAny _ _ (Builtin.SmallTypes.ownedTupleIsFree (.ref z) >>= _) _ _ _
  refine wpAny_bind (held_not_free hz hT fun h₁ hz₁ hs₁ => ?_)
  rw [if_neg (by decide)]
  refine wpAny_bind ?_
  rw [← Array.forIn_toList]
  simp only [List.forIn_cons, List.forIn_nil]
  refine wpAny_bind (wpAny_bind ?_)
  refine wpAny_holding ?_
  show wpAny _ _ (Builtin.SmallTypes.nextOf (.ref i1) >>= _) _ _ _
  cases hx : xs[k1]? with
  | none =>
    refine wpAny_bind (wpAny_nextOf_list_end hh (h1.extBut hs₁.extBut D.i1z) (hl1.extBut hs₁.extBut D.l1z) hx fun h₂ e hs₂ he => ?_)
    exact hE h₂ e (fun c o c1 c3 _ x => hs₂ _ _ c3 (hs₁.extBut _ _ c1 x)) he
  | some x =>
    have hy : ys[k2]? = none := by rcases hend with h | h; rw [hx] at h; cases h; exact h
    refine wpAny_bind (wpAny_nextOf_list_item (h1.extBut hs₁.extBut D.i1z) (hl1.extBut hs₁.extBut D.l1z) hx fun h₂ h1₂ hs₂ => wpAny_pure ?_)
    refine wpAny_pure ?_
    refine wpAny_bind (wpAny_bind ?_)
    refine wpAny_holding ?_
    show wpAny _ _ (Builtin.SmallTypes.nextOf (.ref i2) >>= _) _ _ _
    refine wpAny_bind (wpAny_nextOf_list_end hh ((h2.extBut hs₁.extBut D.i2z).extBut hs₂.extBut D.i12.symm) ((hl2.extBut hs₁.extBut D.l2z).extBut hs₂.extBut D.l2i1) hy fun h₃ e hs₃ he => ?_)
    exact hE h₃ e (fun c o c1 c3 c4 x => hs₃ _ _ c4 (hs₂.extBut _ _ c3 (hs₁.extBut _ _ c1 x))) he
/-! three -/
structure Apart3 (z TI TO i1 i2 i3 l1 l2 l3 : Addr) : Prop where
  TIz : TI ≠ z
  TOz : TO ≠ z
  i1z : i1 ≠ z
  i2z : i2 ≠ z
  i3z : i3 ≠ z
  TITO : TI ≠ TO
  TIi1 : TI ≠ i1
  TIi2 : TI ≠ i2
  TIi3 : TI ≠ i3
  TOi1 : TO ≠ i1
  TOi2 : TO ≠ i2
  TOi3 : TO ≠ i3
  i12 : i1 ≠ i2
  i13 : i1 ≠ i3
  i23 : i2 ≠ i3
  l1z : l1 ≠ z
  l1TO : l1 ≠ TO
  l1i1 : l1 ≠ i1
  l1i2 : l1 ≠ i2
  l1i3 : l1 ≠ i3
  l2z : l2 ≠ z
  l2TO : l2 ≠ TO
  l2i1 : l2 ≠ i1
  l2i2 : l2 ≠ i2
  l2i3 : l2 ≠ i3
  l3z : l3 ≠ z
  l3TO : l3 ≠ TO
  l3i1 : l3 ≠ i1
  l3i2 : l3 ≠ i2
  l3i3 : l3 ≠ i3
theorem wpAny_updateSeq_trip {T : Addr} {a b c x : Value} {k : Nat} {Q : Unit → Shared → Prop} (hT : IsTrip s.heap T a b c)
    (h : ∀ h', h'.get? T = some { cls := .type "tuple", data := .seq ((#[a, b, c] : Array Value).setIfInBounds k x) } → Heap.SameBut T s.heap h' → Q () { s with heap := h' }) :
    wpAny (model prog w) A (updateSeq T (·.setIfInBounds k x)) Q E s := by
  refine wpAny_updateSeq hT rfl (h _ ?_ (Heap.SameBut.update ..))
  rw [Heap.get?_update_self _ hT rfl]
  simp [Obj.mapSeq]
theorem zip3_free_item {z TI TO i1 i2 i3 l1 l2 l3 : Addr} {k : Nat} {xs ys zs : Array Value} {x y u a b c f0 f1 : Value} {Q : Value → Shared → Prop} (D : Apart3 z TI TO i1 i2 i3 l1 l2 l3)
    (hz : IsZipG s.heap z TI TO f0 f1) (hfr : f0 = .none ∨ ∃ T : Nat, f0 = rawInt T ∧ s.heap.get? T = none) (hTI : IsTrip s.heap TI (.ref i1) (.ref i2) (.ref i3)) (hTO : IsTrip s.heap TO a b c)
    (h1 : s.heap.IsListIter i1 l1 k) (h2 : s.heap.IsListIter i2 l2 k) (h3 : s.heap.IsListIter i3 l3 k) (hl1 : s.heap.IsList l1 xs) (hl2 : s.heap.IsList l2 ys) (hl3 : s.heap.IsList l3 zs) (hx : xs[k]? = some x) (hy : ys[k]? = some y) (hu : zs[k]? = some u)
    (hQ : ∀ h', IsZipG h' z TI TO (rawInt s.heap.objs.size) (.bool false) → IsTrip h' TO x y u → h'.IsListIter i1 l1 (k + 1) → h'.IsListIter i2 l2 (k + 1) → h'.IsListIter i3 l3 (k + 1) → IsTrip h' s.heap.objs.size x y u → h'.objs.size = s.heap.objs.size + 1 →
      (∀ c o, c ≠ z → c ≠ TO → c ≠ i1 → c ≠ i2 → c ≠ i3 → s.heap.get? c = some o → h'.get? c = some o) → Q (.ref s.heap.objs.size) { s with heap := h' }) :
    wpAny (model prog w) A (Builtin.«zip.__next__» ⟨[.ref z], []⟩) (fun fin s' => ∃ v, fin = .done (.ret v) ∧ Q v s') E s := by
  show wpAny _ _ (field (.ref z) 2 >>= _) _ _ _
  refine wpAny_bind (wpAny_field hz rfl (x := .bool false) rfl ?_)
  show wpAny _ _ (field (.ref z) 3 >>= _) _ _ _
  refine wpAny_bind (wpAny_field hz rfl (x := .ref TI) rfl ?_)
  refine wpAny_bind (wpAny_seqItems hTI rfl ?_)
  show wpAny _ _ (Builtin.SmallTypes.ownedTupleIsFree (.ref z) >>= _) _ _ _
  refine wpAny_bind (is_free hz hfr ?_)
  simp only [if_true]
  refine wpAny_bind (wpAny_rule ?_)
  refine wpAny_bind (wpAny_field hz rfl (x := .ref TO) rfl ?_)
  refine wpAny_bind (wpAny_setField_rec hz (by simp) fun h₁ hz₁ hs₁ => ?_)
  replace hz₁ : IsZipG h₁ z TI TO .ellipsis f1 := hz₁
  refine wpAny_bind ?_
  simp only [List.zipIdx_cons, List.zipIdx_nil, List.forIn_cons, List.forIn_nil]
  refine wpAny_bind (wpAny_bind (wpAny_onRaise ?_))
  show wpAny _ _ (Builtin.SmallTypes.nextOf (.ref i1) >>= _) _ _ _
  refine wpAny_bind (wpAny_nextOf_list_item (h1.extBut hs₁.extBut D.i1z) (hl1.extBut hs₁.extBut D.l1z) hx fun h₂ h1₂ hs₂ => wpAny_pure ?_)
  have hTO₂ : IsTrip h₂ TO a b c := hs₂.extBut _ _ D.TOi1 (hs₁.extBut _ _ D.TOz hTO)
  refine wpAny_bind (wpAny_seqItems hTO₂ rfl ?_)
  refine wpAny_bind (wpAny_updateSeq_trip hTO₂ fun h₃ hTO₃ hs₃ => ?_)
  replace hTO₃ : IsTrip h₃ TO x b c := hTO₃
  refine wpAny_bind (wpAny_letGo (wpAny_pure ?_))
  refine wpAny_bind (wpAny_bind (wpAny_onRaise ?_))
  show wpAny _ _ (Builtin.SmallTypes.nextOf (.ref i2) >>= _) _ _ _
  refine wpAny_bind (wpAny_nextOf_list_item (((h2.extBut hs₁.extBut D.i2z).extBut hs₂.extBut D.i12.symm).extBut hs₃.extBut D.TOi2.symm)
    (((hl2.extBut hs₁.extBut D.l2z).extBut hs₂.extBut D.l2i1).extBut hs₃.extBut D.l2TO) hy fun h₄ h2₄ hs₄ => wpAny_pure ?_)
  have hTO₄ : IsTrip h₄ TO x b c := hs₄.extBut _ _ D.TOi2 hTO₃
  refine wpAny_bind (wpAny_seqItems hTO₄ rfl ?_)
  refine wpAny_bind (wpAny_updateSeq_trip hTO₄ fun h₅ hTO₅ hs₅ => ?_)
  replace hTO₅ : IsTrip h₅ TO x y c := hTO₅
  refine wpAny_bind (wpAny_letGo (wpAny_pure ?_))
  refine wpAny_bind (wpAny_bind (wpAny_onRaise ?_))
  show wpAny _ _ (Builtin.SmallTypes.nextOf (.ref i3) >>= _) _ _ _
  refine wpAny_bind (wpAny_nextOf_list_item (((((h3.extBut hs₁.extBut D.i3z).extBut hs₂.extBut D.i13.symm).extBut hs₃.extBut D.TOi3.symm).extBut hs₄.extBut D.i23.symm).extBut hs₅.extBut D.TOi3.symm)
    (((((hl3.extBut hs₁.extBut D.l3z).extBut hs₂.extBut D.l3i1).extBut hs₃.extBut D.l3TO).extBut hs₄.extBut D.l3i2).extBut hs₅.extBut D.l3TO) hu fun h₆ h3₆ hs₆ => wpAny_pure ?_)
  have hTO₆ : IsTrip h₆ TO x y c := hs₆.extBut _ _ D.TOi3 hTO₅
  refine wpAny_bind (wpAny_seqItems hTO₆ rfl ?_)
  refine wpAny_bind (wpAny_updateSeq_trip hTO₆ fun h₇ hTO₇ hs₇ => ?_)
  replace hTO₇ : IsTrip h₇ TO x y u := hTO₇
  refine wpAny_bind (wpAny_letGo (wpAny_pure (wpAny_pure ?_)))
  refine wpAny_bind (wpAny_seqItems hTO₇ rfl ?_)
  refine wpAny_bind (wpAny_newTuple ?_)
  have hsz : h₇.objs.size = s.heap.objs.size := by rw [hs₇.1, hs₆.1, hs₅.1, hs₄.1, hs₃.1, hs₂.1, hs₁.1]
  have hz₇ : IsZipG h₇ z TI TO .ellipsis f1 := hs₇.extBut _ _ D.TOz.symm (hs₆.extBut _ _ D.i3z.symm (hs₅.extBut _ _ D.TOz.symm (hs₄.extBut _ _ D.i2z.symm (hs₃.extBut _ _ D.TOz.symm (hs₂.extBut _ _ D.i1z.symm hz₁)))))
  have hk₇ : ∀ c o, c ≠ z → c ≠ TO → c ≠ i1 → c ≠ i2 → c ≠ i3 → s.heap.get? c = some o → h₇.get? c = some o := fun c o c1 c2 c3 c4 c5 e =>
    hs₇.extBut _ _ c2 (hs₆.extBut _ _ c5 (hs₅.extBut _ _ c2 (hs₄.extBut _ _ c4 (hs₃.extBut _ _ c2 (hs₂.extBut _ _ c3 (hs₁.extBut _ _ c1 e))))))
  have h1₇ : h₇.IsListIter i1 l1 (k + 1) := ((((h1₂.extBut hs₃.extBut D.TOi1.symm).extBut hs₄.extBut D.i12).extBut hs₅.extBut D.TOi1.symm).extBut hs₆.extBut D.i13).extBut hs₇.extBut D.TOi1.symm
  have h2₇ : h₇.IsListIter i2 l2 (k + 1) := ((h2₄.extBut hs₅.extBut D.TOi2.symm).extBut hs₆.extBut D.i23).extBut hs₇.extBut D.TOi2.symm
  have h3₇ : h₇.IsListIter i3 l3 (k + 1) := h3₆.extBut hs₇.extBut D.TOi3.symm
  have hzlt : z < h₇.objs.size := Heap.lt_size hz₇
  show wpAny _ _ (Builtin.SmallTypes.ownedTupleHandOut (.ref z) (.ref h₇.objs.size) >>= _) _ _ _
  refine wpAny_bind ?_
  unfold Builtin.SmallTypes.ownedTupleHandOut
  have hz₈ : IsZipG (h₇.push { cls := .type "tuple", data := .seq #[x, y, u] }) z TI TO .ellipsis f1 := Heap.get?_push_of_some _ hz₇
  refine wpAny_bind (wpAny_setField_rec hz₈ (by simp) fun h₉ hz₉ hs₉ => ?_)
  replace hz₉ : IsZipG h₉ z TI TO (rawInt h₇.objs.size) f1 := hz₉
  refine wpAny_setField_rec hz₉ (by simp) fun ha hza hsa => ?_
  replace hza : IsZipG ha z TI TO (rawInt h₇.objs.size) (.bool false) := hza
  have up : ∀ c o, c ≠ z → h₇.get? c = some o → ha.get? c = some o := fun c o c1 e => hsa.extBut _ _ c1 (hs₉.extBut _ _ c1 (Heap.get?_push_of_some _ e))
  have hTa : IsTrip ha h₇.objs.size x y u := hsa.extBut _ _ (Nat.ne_of_gt hzlt) (hs₉.extBut _ _ (Nat.ne_of_gt hzlt) (Heap.get?_push_size _ rfl))
  have hza8 : ha.objs.size = h₇.objs.size + 1 := by rw [hsa.1, hs₉.1, Heap.size_push]
  rw [hsz] at hza hTa hza8
  refine wpAny_pure ⟨_, rfl, ?_⟩
  show Q (.ref h₇.objs.size) _
  rw [hsz]
  exact hQ ha hza (up _ _ D.TOz hTO₇) (h1₇.at fun o e => up _ o D.i1z e) (h2₇.at fun o e => up _ o D.i2z e) (h3₇.at fun o e => up _ o D.i3z e) hTa hza8 fun c o c1 c2 c3 c4 c5 e => up c o c1 (hk₇ c o c1 c2 c3 c4 c5 e)
theorem zip3_held_item {z TI TO i1 i2 i3 l1 l2 l3 T : Addr} {f1 : Bool} {k : Nat} {xs ys zs : Array Value} {x y u : Value} {o : Obj} {Q : Value → Shared → Prop} (D : Apart3 z TI TO i1 i2 i3 l1 l2 l3)
    (hz : IsZipG s.heap z TI TO (rawInt T) (.bool f1)) (hT : s.heap.get? T = some o) (hTI : IsTrip s.heap TI (.ref i1) (.ref i2) (.ref i3))
    (h1 : s.heap.IsListIter i1 l1 k) (h2 : s.heap.IsListIter i2 l2 k) (h3 : s.heap.IsListIter i3 l3 k) (hl1 : s.heap.IsList l1 xs) (hl2 : s.heap.IsList l2 ys) (hl3 : s.heap.IsList l3 zs) (hx : xs[k]? = some x) (hy : ys[k]? = some y) (hu : zs[k]? = some u)
    (hQ : ∀ h', IsZipG h' z TI TO (rawInt T) (.bool true) → h'.IsListIter i1 l1 (k + 1) → h'.IsListIter i2 l2 (k + 1) → h'.IsListIter i3 l3 (k + 1) → IsTrip h' s.heap.objs.size x y u → h'.objs.size = s.heap.objs.size + 1 →
      (∀ c o, c ≠ z → c ≠ i1 → c ≠ i2 → c ≠ i3 → s.heap.get? c = some o → h'.get? c = some o) → Q (.ref s.heap.objs.size) { s with heap := h' }) :
    wpAny (model prog w) A (Builtin.«zip.__next__» ⟨[.ref z], []⟩) (fun fin s' => ∃ v, fin = .done (.ret v) ∧ Q v s') E s := by
  show wpAny _ _ (field (.ref z) 2 >>= _) _ _ _
  refine wpAny_bind (wpAny_field hz rfl (x := .bool false) rfl ?_)
  show wpAny _ _ (field (.ref z) 3 >>= _) _ _ _
  refine wpAny_bind (wpAny_field hz rfl (x := .ref TI) rfl ?_)
  refine wpAny_bind (wpAny_seqItems hTI rfl ?_)
  show wpAny _ _ (Builtin.SmallTypes.ownedTupleIsFree (.ref z) >>= _) _ _ _
  refine wpAny_bind (held_not_free hz hT fun h₁ hz₁ hs₁ => ?_)
  rw [if_neg (by decide)]
  refine wpAny_bind ?_
  rw [← Array.forIn_toList]
  simp only [List.forIn_cons, List.forIn_nil]
  refine wpAny_bind (wpAny_bind ?_)
  refine wpAny_holding ?_
  show wpAny _ _ (Builtin.SmallTypes.nextOf (.ref i1) >>= _) _ _ _
  refine wpAny_bind (wpAny_nextOf_list_item (h1.extBut hs₁.extBut D.i1z) (hl1.extBut hs₁.extBut D.l1z) hx fun h₂ h1₂ hs₂ => wpAny_pure ?_)
  refine wpAny_pure ?_
  refine wpAny_bind (wpAny_bind ?_)
  refine wpAny_holding ?_
  show wpAny _ _ (Builtin.SmallTypes.nextOf (.ref i2) >>= _) _ _ _
  refine wpAny_bind (wpAny_nextOf_list_item ((h2.extBut hs₁.extBut D.i2z).extBut hs₂.extBut D.i12.symm) ((hl2.extBut hs₁.extBut D.l2z).extBut hs₂.extBut D.l2i1) hy fun h₃ h2₃ hs₃ => wpAny_pure ?_)
  refine wpAny_pure ?_
  refine wpAny_bind (wpAny_bind ?_)
  refine wpAny_holding ?_
  show wpAny _ _ (Builtin.SmallTypes.nextOf (.ref i3) >>= _) _ _ _
  refine wpAny_bind (wpAny_nextOf_list_item (((h3.extBut hs₁.extBut D.i3z).extBut hs₂.extBut D.i13.symm).extBut hs₃.extBut D.i23.symm) (((hl3.extBut hs₁.extBut D.l3z).extBut hs₂.extBut D.l3i1).extBut hs₃.extBut D.l3i2) hu fun h₄ h3₄ hs₄ => wpAny_pure ?_)
  refine wpAny_pure (wpAny_pure ?_)
  refine wpAny_bind (wpAny_newTuple ?_ (hsz := by show 3 ≤ sizeLine; rw [sizeLine_eq]; decide))
  have hsz : h₄.objs.size = s.heap.objs.size := by rw [hs₄.1, hs₃.1, hs₂.1, hs₁.1]
  have up : ∀ c o, c ≠ z → c ≠ i1 → c ≠ i2 → c ≠ i3 → s.heap.get? c = some o → h₄.get? c = some o := fun c o c1 c3 c4 c5 e => hs₄.extBut _ _ c5 (hs₃.extBut _ _ c4 (hs₂.extBut _ _ c3 (hs₁.extBut _ _ c1 e)))
  have hz₄ : IsZipG h₄ z TI TO (rawInt T) (.bool true) := hs₄.extBut _ _ D.i3z.symm (hs₃.extBut _ _ D.i2z.symm (hs₂.extBut _ _ D.i1z.symm hz₁))
  refine wpAny_pure ⟨_, rfl, ?_⟩
  show Q (.ref h₄.objs.size) _
  rw [hsz]
  refine hQ _ (Heap.get?_push_of_some _ hz₄) (((h1₂.extBut hs₃.extBut D.i12).extBut hs₄.extBut D.i13).at fun o e => Heap.get?_push_of_some _ e) ((h2₃.extBut hs₄.extBut D.i23).at fun o e => Heap.get?_push_of_some _ e) (h3₄.at fun o e => Heap.get?_push_of_some _ e) ?_ (by rw [Heap.size_push, hsz]) fun c o c1 c2 c3 c4 e => Heap.get?_push_of_some _ (up c o c1 c2 c3 c4 e)
  rw [← hsz]
  exact Heap.get?_push_size _ rfl
theorem zip3_held_end {z TI TO i1 i2 i3 l1 l2 l3 T : Addr} {f1 : Bool} {k : Nat} {xs : Array Value} {o : Obj} {Q : Fin → Shared → Prop} (hh : A.handled = none) (D : Apart3 z TI TO i1 i2 i3 l1 l2 l3)
    (hz : IsZipG s.heap z TI TO (rawInt T) (.bool f1)) (hT : s.heap.get? T = some o) (hTI : IsTrip s.heap TI (.ref i1) (.ref i2) (.ref i3))
    (h1 : s.heap.IsListIter i1 l1 k) (hl1 : s.heap.IsList l1 xs) (hx : xs[k]? = none)
    (hE : ∀ h' e, (∀ c o, c ≠ z → c ≠ TO → c ≠ i1 → c ≠ i2 → c ≠ i3 → s.heap.get? c = some o → h'.get? c = some o) → (∃ o, h'.get? e = some o ∧ o.cls = .type "StopIteration") → E (.ref e) { s with heap := h' }) :
    wpAny (model prog w) A (Builtin.«zip.__next__» ⟨[.ref z], []⟩) Q E s := by
  show wpAny _ _ (field (.ref z) 2 >>= _) _ _ _
  refine wpAny_bind (wpAny_field hz rfl (x := .bool false) rfl ?_)
  show wpAny _ _ (field (.ref z) 3 >>= _) _ _ _
  refine wpAny_bind (wpAny_field hz rfl (x := .ref TI) rfl ?_)
  refine wpAny_bind (wpAny_seqItems hTI rfl ?_)
  show wpAny _ _ (Builtin.SmallTypes.ownedTupleIsFree (.ref z) >>= _) _ _ _
  refine wpAny_bind (held_not_free hz hT fun h₁ hz₁ hs₁ => ?_)
  rw [if_neg (by decide)]
  refine wpAny_bind ?_
  rw [← Array.forIn_toList]
  simp only [List.forIn_cons, List.forIn_nil]
  refine wpAny_bind (wpAny_bind ?_)
  refine wpAny_holding ?_
  show wpAny _ _ (Builtin.SmallTypes.nextOf (.ref i1) >>= _) _ _ _
  refine wpAny_bind (wpAny_nextOf_list_end hh (h1.extBut hs₁.extBut D.i1z) (hl1.extBut hs₁.extBut D.l1z) hx fun h₂ e hs₂ he => ?_)
  exact hE h₂ e (fun c o c1 _ c3 _ _ x => hs₂ _ _ c3 (hs₁.extBut _ _ c1 x)) he
theorem zip3_free_end {z TI TO i1 i2 i3 l1 l2 l3 : Addr} {k : Nat} {xs : Array Value} {a b c f0 f1 : Value} {Q : Fin → Shared → Prop} (hh : A.handled = none) (D : Apart3 z TI TO i1 i2 i3 l1 l2 l3)
    (hz : IsZipG s.heap z TI TO f0 f1) (hfr : f0 = .none ∨ ∃ T : Nat, f0 = rawInt T ∧ s.heap.get? T = none) (hTI : IsTrip s.heap TI (.ref i1) (.ref i2) (.ref i3)) (hTO : IsTrip s.heap TO a b c)
    (h1 : s.heap.IsListIter i1 l1 k) (hl1 : s.heap.IsList l1 xs) (hx : xs[k]? = none)
    (hE : ∀ h' e, (∀ c o, c ≠ z → c ≠ TO → c ≠ i1 → c ≠ i2 → c ≠ i3 → s.heap.get? c = some o → h'.get? c = some o) → (∃ o, h'.get? e = some o ∧ o.cls = .type "StopIteration") → E (.ref e) { s with heap := h' }) :
    wpAny (model prog w) A (Builtin.«zip.__next__» ⟨[.ref z], []⟩) Q E s := by
  show wpAny _ _ (field (.ref z) 2 >>= _) _ _ _
  refine wpAny_bind (wpAny_field hz rfl (x := .bool false) rfl ?_)
  show wpAny _ _ (field (.ref z) 3 >>= _) _ _ _
  refine wpAny_bind (wpAny_field hz rfl (x := .ref TI) rfl ?_)
  refine wpAny_bind (wpAny_seqItems hTI rfl ?_)
  show wpAny _ _ (Builtin.SmallTypes.ownedTupleIsFree (.ref z) >>= _) _ _ _
  refine wpAny_bind (is_free hz hfr ?_)
  simp only [if_true]
  refine wpAny_bind (wpAny_rule ?_)
  refine wpAny_bind (wpAny_field hz rfl (x := .ref TO) rfl ?_)
  refine wpAny_bind (wpAny_setField_rec hz (by simp) fun h₁ hz₁ hs₁ => ?_)
  replace hz₁ : IsZipG h₁ z TI TO .ellipsis f1 := hz₁
  refine wpAny_bind ?_
  simp only [List.zipIdx_cons, List.zipIdx_nil, List.forIn_cons, List.forIn_nil]
  refine wpAny_bind (wpAny_bind (wpAny_onRaise ?_))
  show wpAny _ _ (Builtin.SmallTypes.nextOf (.ref i1) >>= _) _ _ _
  refine wpAny_bind (wpAny_nextOf_list_end hh (h1.extBut hs₁.extBut D.i1z) (hl1.extBut hs₁.extBut D.l1z) hx fun h₂ e hs₂ he => ?_)
  obtain ⟨oe, hoe, hce⟩ := he
  have hz₂ : IsZipG h₂ z TI TO .ellipsis f1 := hs₂ _ _ D.i1z.symm hz₁
  have hez : e ≠ z := fun x => by subst x; rw [hz₂] at hoe; cases hoe; simp at hce
  refine wpAny_setField_rec hz₂ (by simp) fun h₃ _ hs₃ => hE h₃ e (fun c o c1 _ c3 _ _ x => hs₃.extBut _ _ c1 (hs₂ _ _ c3 (hs₁.extBut _ _ c1 x))) ⟨oe, hs₃.extBut _ _ hez hoe, hce⟩
/-- the zip of three, in whatever state -/
def St3 (z TI TO i1 i2 i3 l1 l2 l3 : Addr) (k : Nat) (h : Heap) : Prop :=
  (∃ f0 f1, F0 f0 ∧ IsZipG h z TI TO f0 (.bool f1)) ∧ IsTrip h TI (.ref i1) (.ref i2) (.ref i3) ∧ (∃ a b c, IsTrip h TO a b c) ∧ h.IsListIter i1 l1 k ∧ h.IsListIter i2 l2 k ∧ h.IsListIter i3 l3 k
theorem f0_cases {f0 : Value} {h : Heap} (x : F0 f0) : (f0 = .none ∨ ∃ T : Nat, f0 = rawInt T ∧ h.get? T = none) ∨ ∃ T : Nat, ∃ o, f0 = rawInt T ∧ h.get? T = some o := by
  rcases x with x | ⟨T, x⟩
  · exact .inl (.inl x)
  · cases hT : h.get? T with
    | none => exact .inl (.inr ⟨T, x, hT⟩)
    | some o => exact .inr ⟨T, o, x, hT⟩
theorem pyNext_zip3_item {z TI TO i1 i2 i3 l1 l2 l3 : Addr} {k : Nat} {xs ys zs : Array Value} {x y u : Value} {Q : Option Value → Shared → Prop} (D : Apart3 z TI TO i1 i2 i3 l1 l2 l3) (st : St3 z TI TO i1 i2 i3 l1 l2 l3 k s.heap)
    (hl1 : s.heap.IsList l1 xs) (hl2 : s.heap.IsList l2 ys) (hl3 : s.heap.IsList l3 zs) (hx : xs[k]? = some x) (hy : ys[k]? = some y) (hu : zs[k]? = some u)
    (hQ : ∀ h', St3 z TI TO i1 i2 i3 l1 l2 l3 (k + 1) h' → IsTrip h' s.heap.objs.size x y u → h'.objs.size = s.heap.objs.size + 1 →
      (∀ c o, c ≠ z → c ≠ TO → c ≠ i1 → c ≠ i2 → c ≠ i3 → s.heap.get? c = some o → h'.get? c = some o) → Q (some (.ref s.heap.objs.size)) { s with heap := h' }) :
    wpAny (model prog w) A (pyNext (.ref z)) Q E s := by
  obtain ⟨⟨f0, f1, hf, hz⟩, hTI, ⟨a, b, c, hTO⟩, h1, h2, h3⟩ := st
  have hT : s.TypeIs (.ref z) "zip" := ⟨_, hz, rfl⟩
  unfold pyNext
  refine wpAny_bind (wpAny_attempt (wpAny_callSpecial?_slot (name := Str.ofString "__next__") hT F.slot_zip_next
    (wpAny_call_entry F.slot_zip_next hT F.entry_zip_next ?_ (F.args_zip_next_1 _))))
  rcases f0_cases (h := s.heap) hf with hfr | ⟨T, o, rfl, ho⟩
  · refine zip3_free_item D hz hfr hTI hTO h1 h2 h3 hl1 hl2 hl3 hx hy hu fun h' a1 a2 a3 a4 a5 a6 a7 a8 => wpAny_pure (hQ h' ⟨⟨_, _, .inr ⟨_, rfl⟩, a1⟩, a8 _ _ D.TIz D.TITO D.TIi1 D.TIi2 D.TIi3 hTI, ⟨_, _, _, a2⟩, a3, a4, a5⟩ a6 a7 a8)
  · refine zip3_held_item D hz ho hTI h1 h2 h3 hl1 hl2 hl3 hx hy hu fun h' a1 a3 a4 a5 a6 a7 a8 => wpAny_pure (hQ h' ⟨⟨_, _, .inr ⟨_, rfl⟩, a1⟩, a8 _ _ D.TIz D.TIi1 D.TIi2 D.TIi3 hTI, ⟨_, _, _, a8 _ _ D.TOz D.TOi1 D.TOi2 D.TOi3 hTO⟩, a3, a4, a5⟩ a6 a7 fun c o c1 _ c3 c4 c5 e => a8 c o c1 c3 c4 c5 e)
theorem pyNext_zip3_end {z TI TO i1 i2 i3 l1 l2 l3 : Addr} {k : Nat} {xs : Array Value} {Q : Option Value → Shared → Prop} (hh : A.handled = none) (D : Apart3 z TI TO i1 i2 i3 l1 l2 l3) (st : St3 z TI TO i1 i2 i3 l1 l2 l3 k s.heap)
    (hl1 : s.heap.IsList l1 xs) (hx : xs[k]? = none)
    (hQ : ∀ h', (∀ c o, c ≠ z → c ≠ TO → c ≠ i1 → c ≠ i2 → c ≠ i3 → s.heap.get? c = some o → h'.get? c = some o) → Q none { s with heap := h' }) :
    wpAny (model prog w) A (pyNext (.ref z)) Q E s := by
  obtain ⟨⟨f0, f1, hf, hz⟩, hTI, ⟨a, b, c, hTO⟩, h1, h2, h3⟩ := st
  have hT : s.TypeIs (.ref z) "zip" := ⟨_, hz, rfl⟩
  unfold pyNext
  refine wpAny_bind (wpAny_attempt (wpAny_callSpecial?_slot (name := Str.ofString "__next__") hT F.slot_zip_next
    (wpAny_call_entry F.slot_zip_next hT F.entry_zip_next ?_ (F.args_zip_next_1 _))))
  rcases f0_cases (h := s.heap) hf with hfr | ⟨T, o, rfl, ho⟩
  · refine zip3_free_end hh D hz hfr hTI hTO h1 hl1 hx fun h' e hk he => ?_
    obtain ⟨o, ho, hc⟩ := he
    refine wpAny_bind (wpAny_isInstance (T := "StopIteration") (b := true) ⟨o, ho, hc⟩ isSubtype_stop ?_)
    exact wpAny_pure (hQ _ hk)
  · refine zip3_held_end hh D hz ho hTI h1 hl1 hx fun h' e hk he => ?_
    obtain ⟨o, ho, hc⟩ := he
    refine wpAny_bind (wpAny_isInstance (T := "StopIteration") (b := true) ⟨o, ho, hc⟩ isSubtype_stop ?_)
    exact wpAny_pure (hQ _ hk)
end
end ZK
namespace ZK
open PySem
open PySem.Sem (wp)
theorem typeCall_zip_3 (a b c : Value) : checkTypeCall "zip" ⟨[a, b, c], []⟩ = pure () := by kernel_rfl
theorem newCall_zip_3 (a b c : Value) : checkBuiltinCall "zip.__new__" ⟨[.type "zip", a, b, c], []⟩ = pure () := by kernel_rfl
theorem args_object_init_4 (a b c d : Value) : argsOk "object.__init__" ⟨[a, b, c, d], []⟩ := by
  unfold argsOk; rw [signature?_of (id := "object.__init__") (n := ['_', '_', 't', 'i', 'n', 'i', '_', '_']) (o := ['t', 'c', 'e', 'j', 'b', 'o']) (by kernel_rfl) F.owner_object]; kernel_rfl
abbrev zH1 (h : Heap) (l1 : Addr) : Heap := h.push { cls := .type "list_iterator", data := .fields #[.ref l1, .int 0 0] }
abbrev zH2 (h : Heap) (l1 l2 : Addr) : Heap := (zH1 h l1).push { cls := .type "list_iterator", data := .fields #[.ref l2, .int 0 0] }
abbrev zH3 (h : Heap) (l1 l2 l3 : Addr) : Heap := (zH2 h l1 l2).push { cls := .type "list_iterator", data := .fields #[.ref l3, .int 0 0] }
abbrev zH4 (h : Heap) (l1 l2 l3 : Addr) : Heap := (zH3 h l1 l2 l3).push { cls := .type "tuple", data := .seq #[.ref h.objs.size, .ref (zH1 h l1).objs.size, .ref (zH2 h l1 l2).objs.size] }
abbrev zH5 (h : Heap) (l1 l2 l3 : Addr) : Heap := (zH4 h l1 l2 l3).push { cls := .type "tuple", data := .seq #[.none, .none, .none] }
abbrev zH6 (h : Heap) (l1 l2 l3 : Addr) : Heap := (zH5 h l1 l2 l3).push { cls := .type "zip", data := .fields #[.none, .bool false, .bool false, .ref (zH3 h l1 l2 l3).objs.size, .ref (zH4 h l1 l2 l3).objs.size] }
theorem meets_zip3_new (l1 l2 l3 : Addr) (xs ys zs : Array Value) :
    Meets (Builtin.«zip.__new__» ⟨[.type "zip", .ref l1, .ref l2, .ref l3], []⟩) (fun _ R s => s.heap.IsList l1 xs ∧ s.heap.IsList l2 ys ∧ s.heap.IsList l3 zs ∧
      R (.ok (.ret (.ref (zH5 s.heap l1 l2 l3).objs.size))) { s with heap := zH6 s.heap l1 l2 l3 }) :=
  .of_wp fun prog w A R s h => by
    obtain ⟨hp, g, d, tk, os⟩ := s; obtain ⟨hl1, hl2, hl3, h⟩ := h
    have hsub := sub_zip
    have hL1 : Heap.IsList (Shared.heap ⟨hp, g, d, tk, os⟩) l1 xs := hl1
    have hL2 : Heap.IsList (Shared.heap ⟨hp.push { cls := .type "list_iterator", data := .fields #[.ref l1, .int 0 0] }, g, d, tk, os⟩) l2 ys := Heap.IsList.push hl2 _
    have hL3 : Heap.IsList (Shared.heap ⟨(hp.push { cls := .type "list_iterator", data := .fields #[.ref l1, .int 0 0] }).push { cls := .type "list_iterator", data := .fields #[.ref l2, .int 0 0] }, g, d, tk, os⟩) l3 zs := Heap.IsList.push (Heap.IsList.push hl3 _) _
    wp_walk using wpAny_pyIter_list hL1, wpAny_pyIter_list hL2, wpAny_pyIter_list hL3
    exact ⟨_, rfl, h⟩
section
variable {prog : Program} {w : World} {A : Around} {E : Value → Shared → Prop} {s : Shared}
theorem call_zip_3 {l1 l2 l3 : Addr} {xs ys zs : Array Value} {Q : Value → Shared → Prop} (hl1 : s.heap.IsList l1 xs) (hl2 : s.heap.IsList l2 ys) (hl3 : s.heap.IsList l3 zs)
    (h : ∀ h', St3 (s.heap.objs.size + 5) (s.heap.objs.size + 3) (s.heap.objs.size + 4) s.heap.objs.size (s.heap.objs.size + 1) (s.heap.objs.size + 2) l1 l2 l3 0 h' → h'.objs.size = s.heap.objs.size + 6 →
      (∀ c o, s.heap.get? c = some o → h'.get? c = some o) → Q (.ref (s.heap.objs.size + 5)) { s with heap := h' }) :
    wpAny (model prog w) A (call (.type "zip") [.ref l1, .ref l2, .ref l3]) Q E s := by
  refine callType_new F.called_zip (by decide) (typeCall_zip_3 _ _ _) (newCall_zip_3 _ _ _) (fun obj => args_object_init_4 obj _ _ _) F.entry_zip_new
    (meets_zip3_new l1 l2 l3 xs ys zs) ⟨hl1, hl2, hl3, ?_⟩
  have z1 : (zH1 s.heap l1).objs.size = s.heap.objs.size + 1 := Heap.size_push ..
  have z2 : (zH2 s.heap l1 l2).objs.size = s.heap.objs.size + 2 := by rw [Heap.size_push, z1]
  have z3 : (zH3 s.heap l1 l2 l3).objs.size = s.heap.objs.size + 3 := by rw [Heap.size_push, z2]
  have z4 : (zH4 s.heap l1 l2 l3).objs.size = s.heap.objs.size + 4 := by rw [Heap.size_push, z3]
  have z5 : (zH5 s.heap l1 l2 l3).objs.size = s.heap.objs.size + 5 := by rw [Heap.size_push, z4]
  have z6 : (zH6 s.heap l1 l2 l3).objs.size = s.heap.objs.size + 6 := by rw [Heap.size_push, z5]
  have g6 : (zH6 s.heap l1 l2 l3).get? (zH5 s.heap l1 l2 l3).objs.size = some _ := Heap.get?_push_size _ rfl
  have g5 : (zH6 s.heap l1 l2 l3).get? (zH4 s.heap l1 l2 l3).objs.size = some _ := Heap.get?_push_of_some _ (Heap.get?_push_size _ rfl)
  have g4 : (zH6 s.heap l1 l2 l3).get? (zH3 s.heap l1 l2 l3).objs.size = some _ := Heap.get?_push_of_some _ (Heap.get?_push_of_some _ (Heap.get?_push_size _ rfl))
  have g3 : (zH6 s.heap l1 l2 l3).get? (zH2 s.heap l1 l2).objs.size = some _ := Heap.get?_push_of_some _ (Heap.get?_push_of_some _ (Heap.get?_push_of_some _ (Heap.get?_push_size _ rfl)))
  have g2 : (zH6 s.heap l1 l2 l3).get? (zH1 s.heap l1).objs.size = some _ := Heap.get?_push_of_some _ (Heap.get?_push_of_some _ (Heap.get?_push_of_some _ (Heap.get?_push_of_some _ (Heap.get?_push_size _ rfl))))
  have g1 : (zH6 s.heap l1 l2 l3).get? s.heap.objs.size = some _ := Heap.get?_push_of_some _ (Heap.get?_push_of_some _ (Heap.get?_push_of_some _ (Heap.get?_push_of_some _ (Heap.get?_push_of_some _ (Heap.get?_push_size _ rfl)))))
  show _ ∧ _
  rw [z3, z4, z5] at g6
  rw [z1, z2, z3] at g4
  rw [z4] at g5
  rw [z2] at g3
  rw [z1] at g2
  rw [z5]
  exact ⟨⟨_, g6, rfl⟩, h _ ⟨⟨_, _, .inl rfl, g6⟩, g4, ⟨_, _, _, g5⟩, ⟨_, g1, rfl, rfl⟩, ⟨_, g2, rfl, rfl⟩, ⟨_, g3, rfl, rfl⟩⟩ z6 fun c o x =>
    Heap.get?_push_of_some _ (Heap.get?_push_of_some _ (Heap.get?_push_of_some _ (Heap.get?_push_of_some _ (Heap.get?_push_of_some _ (Heap.get?_push_of_some _ x)))))⟩
theorem apart3 {n l1 l2 l3 : Nat} (h1 : l1 < n) (h2 : l2 < n) (h3 : l3 < n) : Apart3 (n + 5) (n + 3) (n + 4) n (n + 1) (n + 2) l1 l2 l3 := by
  constructor <;> (intro e; have e : (_ : Nat) = (_ : Nat) := e; omega)
end
end ZK
namespace ZK
open PySem PySem.Spec PyProof.Rows L2
def It3 (K : PySem.W.Frag) (a b c : Addr) : It :=
  ⟨fun i H => ∃ (xs ys zs : List V) (x y z : V), SqL K H a xs ∧ SqL K H b ys ∧ SqL K H c zs ∧ xs[i]? = some x ∧ ys[i]? = some y ∧ zs[i]? = some z,
    fun i H v H' => ∃ T x y z, v = .ref T ∧ H T = none ∧ H' = upd H T (.tup [x, y, z]) ∧ (∀ xs, SqL K H a xs → xs[i]? = some x) ∧ (∀ ys, SqL K H b ys → ys[i]? = some y) ∧ ∀ zs, SqL K H c zs → zs[i]? = some z,
    fun i H => ∃ xs : List V, SqL K H a xs ∧ xs.length ≤ i⟩
theorem turn_zip3 {P : Program} {w : World} {K : PySem.W.Frag} {x : Str} {tpos : Pos} {a b c z TI TO i1 i2 i3 : Addr} (D : Apart3 z TI TO i1 i2 i3 a b c) :
    Turn P w K (.Name x tpos) (It3 K a b c) [z, TI, TO, i1, i2, i3] z (fun i h => St3 z TI TO i1 i2 i3 a b c i h) where
  mem := by simp
  obj := fun i h st q hq => by
    obtain ⟨⟨f0, f1, _, hz⟩, hTI, ⟨x, y, u, hTO⟩, ⟨o1, e1, _, d1⟩, ⟨o2, e2, _, d2⟩, ⟨o3, e3, _, d3⟩⟩ := st
    have e' : q = z ∨ q = TI ∨ q = TO ∨ q = i1 ∨ q = i2 ∨ q = i3 := by simpa using hq
    rcases e' with r | r | r | r | r | r
    · rw [r]; exact ⟨_, hz, fun v q => nomatch q⟩
    · rw [r]; exact ⟨_, hTI, fun v q => nomatch q⟩
    · rw [r]; exact ⟨_, hTO, fun v q => nomatch q⟩
    · rw [r]; exact ⟨o1, e1, fun v q => by rw [d1] at q; cases q⟩
    · rw [r]; exact ⟨o2, e2, fun v q => by rw [d2] at q; cases q⟩
    · rw [r]; exact ⟨o3, e3, fun v q => by rw [d3] at q; cases q⟩
  keep := fun i h h' st k => by
    obtain ⟨⟨f0, f1, hf, hz⟩, hTI, ⟨x, y, u, hTO⟩, h1, h2, h3⟩ := st
    exact ⟨⟨f0, f1, hf, k z (by simp) _ hz⟩, k TI (by simp) _ hTI, ⟨x, y, u, k TO (by simp) _ hTO⟩, h1.at fun o q => k i1 (by simp) o q, h2.at fun o q => k i2 (by simp) o q, h3.at fun o q => k i3 (by simp) o q⟩
  item := by
    intro X hP hw hK hc i pins s σ H E I hf st hg
    subst hP hw hK
    obtain ⟨xs, ys, zs, x, y, u, hqx, hqy, hqz, hx, hy, hu⟩ := hg
    obtain ⟨its, rv, p, _⟩ := I.list hqx
    obtain ⟨its2, rv2, p2, _⟩ := I.list hqy
    obtain ⟨its3, rv3, p3, _⟩ := I.list hqz
    obtain ⟨v, hv, r1⟩ := rv.get hx
    obtain ⟨v2, hv2, r2⟩ := rv2.get hy
    obtain ⟨v3, hv3, r3⟩ := rv3.get hu
    refine pyNext_zip3_item D st p.isList p2.isList p3.isList (x := v) (y := v2) (u := v3) (by simpa using hv) (by simpa using hv2) (by simpa using hv3) fun h' st' hT hsz hk => ?_
    refine ⟨_, rfl, wpAny_pure ?_⟩
    have new : ObjOk X.prog X.w (upd H s.heap.objs.size (.tup [x, y, u])) h' s.heap.objs.size (.tup [x, y, u]) :=
      ⟨by show 3 ≤ sizeLine; rw [sizeLine_eq]; decide, [v, v2, v3], .cons r1 (.cons r2 (.cons r3 .nil)), ⟨_, hT, rfl, _, rfl⟩⟩
    have I1 : Inv X pins σ (upd H s.heap.objs.size (.tup [x, y, u])) { s with heap := h' } :=
      I.turnedNew (t' := s.toks) (ch := [z, TI, TO, i1, i2, i3]) (fun c o hb q => hk c o (fun q' => hb (by simp [q'])) (fun q' => hb (by simp [q'])) (fun q' => hb (by simp [q'])) (fun q' => hb (by simp [q'])) (fun q' => hb (by simp [q'])) q) hf (Nat.le_refl _) new
    refine ⟨.ref s.heap.objs.size, _, I1, rfl, ⟨_, x, y, u, rfl, I.hok.fresh (Nat.le_refl _), rfl, fun l hl => by rw [I.list_inj hl hqx]; exact hx, fun l hl => by rw [I.list_inj hl hqy]; exact hy, fun l hl => by rw [I.list_inj hl hqz]; exact hu⟩, st', fun q hqm => ?_⟩
    have hlt : q < s.heap.objs.size := by
      obtain ⟨⟨f0, f1, _, hz⟩, hTI, ⟨x, y, u, hTO⟩, ⟨o1, e1, _, d1⟩, ⟨o2, e2, _, d2⟩, ⟨o3, e3, _, d3⟩⟩ := st
      have e' : q = z ∨ q = TI ∨ q = TO ∨ q = i1 ∨ q = i2 ∨ q = i3 := by simpa using hqm
      rcases e' with r | r | r | r | r | r
      · rw [r]; exact Heap.lt_size hz
      · rw [r]; exact Heap.lt_size hTI
      · rw [r]; exact Heap.lt_size hTO
      · rw [r]; exact Heap.lt_size e1
      · rw [r]; exact Heap.lt_size e2
      · rw [r]; exact Heap.lt_size e3
    rw [upd_ne (Nat.ne_of_lt hlt)]
    exact (hf q hqm).1
  done := by
    intro X hP hw hK hc i pins s σ H E I hf st hg
    subst hP hw hK
    obtain ⟨xs, hqx, hend⟩ := hg
    obtain ⟨its, rv, p, _⟩ := I.list hqx
    have l1 := rv.length
    exact pyNext_zip3_end (I.ok.hd hc) D st p.isList (by simp; omega) fun h' hk => ⟨rfl, I.turnedL (t' := s.toks) (ch := [z, TI, TO, i1, i2, i3]) (fun c o hb q =>
      hk c o (fun q' => hb (by simp [q'])) (fun q' => hb (by simp [q'])) (fun q' => hb (by simp [q'])) (fun q' => hb (by simp [q'])) (fun q' => hb (by simp [q'])) q) hf⟩
  self := fun A i s Q E st h => by
    obtain ⟨⟨f0, f1, _, hz⟩, _⟩ := st
    have hT : s.TypeIs (.ref z) "zip" := ⟨_, hz, rfl⟩
    refine wpAny_pyIter_slot hT F.slot_zip_iter (wpAny_call_entry F.slot_zip_iter hT F.entry_zip_iter ?_ (F.args_zip_iter_1 _))
    show wpAny _ _ (ret (.ref z)) _ _ s
    exact wpAny_pure ⟨_, rfl, "zip", _, hT, F.slot_zip_next.lookup, h⟩
def iZip3 (K : PySem.W.Frag) (ta : TA) : TI := fun σ H R => ta σ H fun vs H1 => ∃ a b c xs ys zs, vs = [.ref a, .ref b, .ref c] ∧ SqL K H1 a xs ∧ SqL K H1 b ys ∧ SqL K H1 c zs ∧ R (It3 K a b c) H1
theorem pi_zip3 {X : Cx} {e e2 e3 : Expr} {ta : TA} {p pos tpos : Pos} {x : Str} (hg : Gl X "zip") (hm : X.mg "zip" = none) (ha : PA X [e, e2, e3] ta)
    (hs : starEach [e, e2, e3] X.env = (false, eval e X.env) :: starEach [e2, e3] X.env := by rfl) (hpl : (backTo pos (starEach [e2, e3] X.env)).any (·.1) = false := by rfl) :
    PI X (.Name x tpos) (.Call (.Name "zip" p) [e, e2, e3] [] pos) (iZip3 X.K ta) := by
  refine ⟨fun pins s σ H R I h => ?_⟩
  refine Call_ (ld_blt I hg hm PyProof.Rows.boot_zip (PyProof.Rows.callWith_type1 (thn (ha.run pos pins s σ H _ I h) fun us s1 ⟨vs, H1, I1, r1, q1⟩ => ?_) hs hpl))
  obtain ⟨a, b, c, xs, ys, zs, ex, hqx, hqy, hqz, q⟩ := q1
  subst ex
  cases r1 with
  | cons r rr =>
    cases rr with
    | cons r' rr =>
      cases rr with
      | cons r'' rr =>
        cases rr
        cases r
        cases r'
        cases r''
        obtain ⟨its, rv, p1, _⟩ := I1.list hqx
        obtain ⟨its2, rv2, p2, _⟩ := I1.list hqy
        obtain ⟨its3, rv3, p3, _⟩ := I1.list hqz
        have fresh6 : ∀ c, c ∈ [s1.heap.objs.size + 5, s1.heap.objs.size + 3, s1.heap.objs.size + 4, s1.heap.objs.size, s1.heap.objs.size + 1, s1.heap.objs.size + 2] → FpOk X pins H1 c := fun c hcm => by
          have hle : s1.heap.objs.size ≤ c := by
            have e' : c = s1.heap.objs.size + 5 ∨ c = s1.heap.objs.size + 3 ∨ c = s1.heap.objs.size + 4 ∨ c = s1.heap.objs.size ∨ c = s1.heap.objs.size + 1 ∨ c = s1.heap.objs.size + 2 := by simpa using hcm
            rcases e' with z | z | z | z | z | z
            · rw [z]; exact Nat.le_add_right _ _
            · rw [z]; exact Nat.le_add_right _ _
            · rw [z]; exact Nat.le_add_right _ _
            · rw [z]; exact Nat.le_refl _
            · rw [z]; exact Nat.le_add_right _ _
            · rw [z]; exact Nat.le_add_right _ _
          exact I1.fpOk hle (I1.hok.fresh hle)
        refine call_zip_3 p1.isList p2.isList p3.isList fun h' st hsz hk => ?_
        have I2 : Inv X pins σ H1 { s1 with heap := h' } := I1.kept (t' := s1.toks) hk
        have T3 := turn_zip3 (P := X.prog) (w := X.w) (K := X.K) (x := x) (tpos := tpos) (apart3 p1.lt p2.lt p3.lt)
        exact T3.self X.A 0 { s1 with heap := h' } _ X.xe st ⟨s1.heap.objs.size + 5, [s1.heap.objs.size + 5, s1.heap.objs.size + 3, s1.heap.objs.size + 4, s1.heap.objs.size, s1.heap.objs.size + 1, s1.heap.objs.size + 2], _, _, H1, rfl, I2, T3, st, fresh6, q⟩
end ZK
namespace DL
open PySem PySem.Spec PyProof.Rows L2
section
variable {K : PySem.W.Frag} {B : Bx} {M H M' H' : Hp} {σ : L2.St} {ρ : DL.Env} {s s' : DL.Row} {fa : SA} {ta : TA}
def zip3L : List D → List D → List D → List D
  | x :: xs, y :: ys, z :: zs => .tuple [x, y, z] :: zip3L xs ys zs
  | _, _, _ => []
theorem zip3L_len : ∀ {a b c : List D}, a.length = b.length → b.length = c.length → (zip3L a b c).length = a.length
  | [], [], [], _, _ => rfl
  | _ :: _, _ :: _, _ :: _, h1, h2 => by
    simp only [zip3L, List.length_cons]
    rw [zip3L_len (by simpa using h1) (by simpa using h2)]
theorem zip3L_get {a b c : List D} {i : Nat} {d : D} (h : (zip3L a b c)[i]? = some d) : ∃ x y z, d = .tuple [x, y, z] ∧ a[i]? = some x ∧ b[i]? = some y ∧ c[i]? = some z := by
  induction a generalizing b c i with
  | nil => simp [zip3L] at h
  | cons x a ih =>
    cases b with
    | nil => simp [zip3L] at h
    | cons y b =>
      cases c with
      | nil => simp [zip3L] at h
      | cons z c =>
        cases i with
        | zero =>
          simp only [zip3L, List.getElem?_cons_zero, Option.some.injEq] at h
          exact ⟨_, _, _, h.symm, rfl, rfl, rfl⟩
        | succ i =>
          simp only [zip3L, List.getElem?_cons_succ] at h
          exact ih h
def zip3D : List D → Option (List D)
  | [.list a, .list b, .list c] => if a.length = b.length ∧ b.length = c.length then some (zip3L a b c) else none
  | _ => none
@[simp] theorem zip3D_ap {a b c : List D} : zip3D [.list a, .list b, .list c] = if a.length = b.length ∧ b.length = c.length then some (zip3L a b c) else none := rfl
def i3Zip (fa : SA) : SA := fun ρ s => (fa ρ s).bind fun x => (zip3D x.1).bind fun y => some (y, x.2)
@[simp] theorem i3Zip_ap : i3Zip fa ρ s = (fa ρ s).bind fun x => (zip3D x.1).bind fun y => some (y, x.2) := rfl
theorem gf_zip3 (ha : GoodA K ta fa) : GoodF K (ZK.iZip3 K ta) (i3Zip fa) := fun B M H σ ρ s ds s' o e R q => by
  obtain ⟨⟨xs, s1⟩, e1, e⟩ := bnd e
  obtain ⟨ys, e2, e⟩ := bnd e
  obtain ⟨rfl, rfl⟩ : ys = ds ∧ s1 = s' := by cases e; exact ⟨rfl, rfl⟩
  refine ha B M H σ ρ s xs _ o e1 _ fun vs H1 M1 t1 r1 => ?_
  simp only at e2
  unfold zip3D at e2
  split at e2
  · rename_i a b c
    split at e2
    · rename_i hl
      cases e2
      cases r1 with
      | cons ra r1 =>
        cases r1 with
        | cons rb r1 =>
          cases r1 with
          | cons rc r1 =>
            cases r1
            cases ra with
            | @lst pa va da ha hla ra =>
              cases rb with
              | @lst pb vb db hb hlb rb =>
                cases rc with
                | @lst pc vc dc hc hlc rc =>
                  have hlen := zip3L_len hl.1 hl.2
                  refine ⟨pa, pb, pc, va, vb, vc, rfl, t1.sub.seq ha, t1.sub.seq hb, t1.sub.seq hc, q _ H1 M1 t1 ⟨?_, (fun Hc => SqL K Hc pa va ∧ SqL K Hc pb vb ∧ SqL K Hc pc vc), (fun i Hc v Hn => ∃ T x y z, v = .ref T ∧ Hc T = none ∧ Hn = upd Hc T (.tup [x, y, z]) ∧ va[i]? = some x ∧ vb[i]? = some y ∧ vc[i]? = some z), ?_, fun Hc k => ⟨Same.seq k ha, Same.seq k hb, Same.seq k hc⟩, fun i x Hc Hn Mc d s e1 e2 e3 k e4 y => ?_⟩⟩
                  · rw [hlen, ← ra.length]; exact hla
                  · refine ⟨fun i Hc hi g => ?_, fun Hc g => ⟨va, g.1, by rw [hlen, ra.length]; exact Nat.le_refl _⟩, fun i Hc v Hn hi g y => ?_⟩
                    · have l1 := ra.length
                      have l2 := rb.length
                      have l3 := rc.length
                      rw [hlen] at hi
                      exact ⟨va, vb, vc, _, _, _, g.1, g.2.1, g.2.2, List.getElem?_eq_getElem (by omega), List.getElem?_eq_getElem (by omega), List.getElem?_eq_getElem (by omega)⟩
                    · obtain ⟨T, x, y, z, r1, r2, r3, g1, g2, g3⟩ := y
                      exact ⟨T, x, y, z, r1, r2, r3, g1 _ g.1, g2 _ g.2.1, g3 _ g.2.2⟩
                  · obtain ⟨T, u1, u2, u3, rfl, hT, rfl, g1, g2, g3⟩ := y
                    obtain ⟨d1, d2, d3, rfl, k1, k2, k3⟩ := zip3L_get e1
                    obtain ⟨w1, hw1, rw1⟩ := ra.get k1
                    obtain ⟨w2, hw2, rw2⟩ := rb.get k2
                    obtain ⟨w3, hw3, rw3⟩ := rc.get k3
                    rw [g1] at hw1; cases hw1
                    rw [g2] at hw2; cases hw2
                    rw [g3] at hw3; cases hw3
                    have t2 := Step.new (K := K) (B := B) (o := .tup [u1, u2, u3]) e3 e4 hT
                    exact ⟨_, t2, .tup (.inl (.inl upd_same)) (by show 3 ≤ lim; decide) (Rps.mono t2.mm _ _ (Rps.mono e2 _ _ (.cons rw1 (.cons rw2 (.cons rw3 .nil)))))⟩
    · cases e2
  · cases e2
end
section
variable {X : Cx} {K : PySem.W.Frag} {a b c : Expr} {ta : TA} {fa : SA} {pos p : Pos} {x : Str} {tpos : Pos}
theorem i_zip3 (A : DA X K [a, b, c] ta fa) (hm : X.mg "zip" = none) (hg : Gl X "zip" := by rfl) (hs : starEach [a, b, c] X.env = (false, eval a X.env) :: starEach [b, c] X.env := by rfl) (hpl : (backTo pos (starEach [b, c] X.env)).any (·.1) = false := by rfl) :
    DF X K (.Name x tpos) (.Call (.Name "zip" p) [a, b, c] [] pos) (ZK.iZip3 K ta) (i3Zip fa) := by
  obtain ⟨hk, pa, gd⟩ := A
  subst hk
  exact ⟨rfl, ZK.pi_zip3 hg hm pa hs hpl, gf_zip3 gd⟩
end
end DL

/-! Kinds, and where two tables answer otherwise. -/
namespace DL
open PySem
def kindM (t : Table) (w : Str) (l : List Nat) : D := match l with
  | [] => .tuple [.str "gap"]
  | a :: r => match clashM t.2 w (a :: r) with
    | some _ => .tuple [.str "clash"]
    | none => .tuple [.str "deed", eO (deedAt t.2 a)]
def kindD (t : Table) (w : Str) (c : List Int) : D := kindM t w (holdL t c)
theorem kind_cases (t : Table) (w : Str) (c : List Int) : kindD t w c = .tuple [.str "gap"] ∨ kindD t w c = .tuple [.str "clash"] ∨ ∃ o, kindD t w c = .tuple [.str "deed", eO o] := by
  unfold kindD
  cases holdL t c with
  | nil => exact .inl rfl
  | cons a r =>
    unfold kindM
    simp only
    cases clashM t.2 w (a :: r) with
    | none => exact .inr (.inr ⟨_, rfl⟩)
    | some _ => exact .inr (.inl rfl)
theorem kind_depth (t : Table) (w : Str) (c : List Int) : (kindD t w c).depth ≤ 2 := by
  rcases kind_cases t w c with h | h | ⟨o, h⟩
  · rw [h]; decide
  · rw [h]; decide
  · rw [h]
    cases o <;> simp [PyData.depth, PyData.depthAll, eO]
theorem kind_flat {d : D} (t : Table) (w : Str) (c : List Int) : flatE d (kindD t w c) := by
  have := kind_depth t w c
  unfold flatE
  omega
theorem kind_refl (t : Table) (w : Str) (c : List Int) : PyData.eqv (kindD t w c) (kindD t w c) = true := by
  rcases kind_cases t w c with h | h | ⟨o, h⟩
  · rw [h]; decide +kernel
  · rw [h]; decide +kernel
  · rw [h]
    have := eqv_eO o o
    simp [PyData.eqv, PyData.eqvAll, this]
theorem lv_kind (t : Table) (w : Str) (c : List Int) : Lv 1 (kindD t w c) := by
  rcases kind_cases t w c with h | h | ⟨o, h⟩
  · rw [h]; exact .inr ⟨_, .inr rfl, by simp, fun x hx => by simp at hx; subst hx; rfl⟩
  · rw [h]; exact .inr ⟨_, .inr rfl, by simp, fun x hx => by simp at hx; subst hx; rfl⟩
  · rw [h]
    refine .inr ⟨_, .inr rfl, by simp, fun x hx => ?_⟩
    simp at hx
    rcases hx with rfl | rfl
    · rfl
    · exact flat_eO o
theorem Lv.up : ∀ {n : Nat} {d : D}, Lv n d → Lv (n + 1) d
  | 0, d, h => .inl h
  | n + 1, d, h => by
    rcases h with h | ⟨ds, e, hl, h⟩
    · exact .inl h
    · exact .inr ⟨ds, e, hl, fun x hx => Lv.up (h x hx)⟩
theorem Lv.tup {n : Nat} {ds : List D} (hl : ds.length ≤ 1000000) (h : ∀ x ∈ ds, Lv n x) : Lv (n + 1) (.tuple ds) := .inr ⟨ds, .inr rfl, hl, h⟩
theorem Lv.lst {n : Nat} {ds : List D} (hl : ds.length ≤ 1000000) (h : ∀ x ∈ ds, Lv n x) : Lv (n + 1) (.list ds) := .inr ⟨ds, .inl rfl, hl, h⟩
theorem Lv.int {n : Nat} (i : Int) : Lv n (.int i) := by cases n with | zero => rfl | succ n => exact .inl rfl
theorem Lv.non {n : Nat} : Lv n .none := by cases n with | zero => rfl | succ n => exact .inl rfl
theorem Lv.ints {n : Nat} {c : List Int} (h : c.length ≤ 1000000) : Lv (n + 1) (eIs c) := Lv.tup (by simpa using h) fun x hx => by
  obtain ⟨v, _, rfl⟩ := List.mem_map.mp hx
  exact Lv.int v
theorem eqvAll_ints : ∀ a b : List Int, PyData.eqvAll (a.map eI) (b.map eI) = decide (a = b)
  | [], [] => by simp [PyData.eqvAll]
  | [], _ :: _ => by simp [PyData.eqvAll]
  | _ :: _, [] => by simp [PyData.eqvAll]
  | x :: a, y :: b => by
    simp only [List.map_cons, PyData.eqvAll, eqvAll_ints a b]
    simp [eI, PyData.eqv, Bool.beq_eq_decide_eq]
theorem eqv_ints (a b : List Int) : PyData.eqv (eIs a) (eIs b) = decide (a = b) := by
  show PyData.eqv (.tuple _) (.tuple _) = _
  rw [PyData.eqv, eqvAll_ints]
theorem depth_ints (a : List Int) : (eIs a).depth ≤ 2 := by
  have : ∀ l : List Int, PyData.depthAll (l.map eI) ≤ 1 := by
    intro l
    induction l with
    | nil => simp [PyData.depthAll]
    | cons x l ih =>
      simp only [List.map_cons, PyData.depthAll, eI, PyData.depth]
      omega
  have := this a
  show PyData.depth (.tuple _) ≤ 2
  simp only [PyData.depth]
  omega
theorem flatE_ints {d : D} (a : List Int) : flatE d (eIs a) := by
  have := depth_ints a
  unfold flatE
  omega
@[simp] theorem neD_ints (a b : List Int) : neD (eIs a) (eIs b) = some (.bool (!decide (a = b))) := by rw [neD_ap (flatE_ints b), eqv_ints]
@[simp] theorem eqD_ints (a b : List Int) : eqD (eIs a) (eIs b) = some (.bool (decide (a = b))) := by rw [eqD_ap (flatE_ints b), eqv_ints]
@[simp] theorem hTup_eT {hs : List D → DL.Env → Option DL.Env} {t : Table} {ρ : DL.Env} : hTup hs (eT t) ρ = hs [eIs t.1, eRs t.2] ρ := rfl
@[simp] theorem hTup_any {hs : List D → DL.Env → Option DL.Env} {ds : List D} {ρ : DL.Env} : hTup hs (.tuple ds) ρ = hs ds ρ := rfl
@[simp] theorem hCons_any {h : SG} {hs : List D → DL.Env → Option DL.Env} {d : D} {ds : List D} {ρ : DL.Env} : hCons h hs (d :: ds) ρ = (h d ρ).bind fun ρ1 => hs ds ρ1 := rfl
@[simp] theorem hNil_any {ρ : DL.Env} : hNil [] ρ = some ρ := rfl
/-- two tables differ at a case -/
def difB (t o : Table) (w : Str) (c : List Int) : Bool := !PyData.eqv (kindD t w c) (kindD o w c)
theorem dif_self (t : Table) (w : Str) (c : List Int) : difB t t w c = false := by
  unfold difB
  rw [kind_refl]
  rfl
def otherD (t o : Table) (w : Str) (c : List Int) : D := .tuple [eIs c, kindD t w c, kindD o w c]
def difL (t o : Table) (w : Str) : List (List Int) := (casesL t.1).filter (difB t o w)
def partedM (t o : Table) (w : Str) : D := match difL t o w with | [] => .none | c :: _ => otherD t o w c
def reachM (t o : Table) (w : Str) : D := .tuple [.int ((difL t o w).length : Int), match difL t o w with | [] => .none | c :: _ => eIs c]
theorem zip3L_map {α : Type} (f g h : α → D) : ∀ cs : List α, zip3L (cs.map f) (cs.map g) (cs.map h) = cs.map fun c => .tuple [f c, g c, h c]
  | [] => rfl
  | c :: cs => by simp only [List.map_cons, zip3L, zip3L_map f g h cs]
/-- the places of a list's chosen items -/
def placesL {α : Type} (xs : List α) (p : α → Bool) : List Nat := (List.range xs.length).filter fun k => (xs[k]?).any p
theorem places_snoc {α : Type} (xs : List α) (x : α) (p : α → Bool) : placesL (xs ++ [x]) p = placesL xs p ++ (if p x then [xs.length] else []) := by
  have e1 : (List.range xs.length).filter (fun k => ((xs ++ [x])[k]?).any p) = placesL xs p := by
    unfold placesL
    apply List.filter_congr
    intro k hk
    have hk := List.mem_range.mp hk
    rw [List.getElem?_append_left hk]
  have e2 : [xs.length].filter (fun k => ((xs ++ [x])[k]?).any p) = if p x then [xs.length] else [] := by
    cases hp : p x <;> simp [hp]
  rw [← e1, ← e2]
  unfold placesL
  rw [List.length_append, List.length_singleton, List.range_succ, List.filter_append]
theorem fm_congr {α β : Type} {f g : α → Option β} : ∀ {l : List α}, (∀ x ∈ l, f x = g x) → l.filterMap f = l.filterMap g
  | [], _ => rfl
  | x :: l, h => by rw [List.filterMap_cons, List.filterMap_cons, h x (by simp), fm_congr fun y hy => h y (by simp [hy])]
theorem places_filter {α : Type} (xs : List α) (p : α → Bool) : (placesL xs p).filterMap (xs[·]?) = xs.filter p := by
  have key : ∀ r : List α, (placesL r.reverse p).filterMap (r.reverse[·]?) = r.reverse.filter p := by
    intro r
    induction r with
    | nil => rfl
    | cons x r ih =>
      have e1 : (placesL r.reverse p).filterMap ((r.reverse ++ [x])[·]?) = (placesL r.reverse p).filterMap (r.reverse[·]?) := fm_congr fun k hk => by
        have hk := List.mem_range.mp (List.mem_filter.mp hk).1
        rw [List.getElem?_append_left hk]
      rw [List.reverse_cons, places_snoc, List.filterMap_append, List.filter_append, ← ih, e1]
      cases hp : p x <;> simp [hp]
  have := key xs.reverse
  rwa [List.reverse_reverse] at this
theorem places_lt {α : Type} {xs : List α} {p : α → Bool} {k : Nat} (h : k ∈ placesL xs p) : k < xs.length := List.mem_range.mp (List.mem_filter.mp h).1
theorem places_len {α : Type} (xs : List α) (p : α → Bool) : (placesL xs p).length = (xs.filter p).length := by
  have key : ∀ r : List α, (placesL r.reverse p).length = (r.reverse.filter p).length := by
    intro r
    induction r with
    | nil => rfl
    | cons x r ih =>
      rw [List.reverse_cons, places_snoc, List.filter_append, List.length_append, List.length_append, ih]
      cases hp : p x <;> simp [hp]
  have := key xs.reverse
  rwa [List.reverse_reverse] at this
/-- the first place and the first item go together -/
theorem places_head {α : Type} {xs : List α} {p : α → Bool} {k : Nat} {r : List Nat} (h : placesL xs p = k :: r) : ∃ x q, xs[k]? = some x ∧ xs.filter p = x :: q := by
  have h2 := places_filter xs p
  have hk := places_lt (xs := xs) (p := p) (k := k) (by rw [h]; simp)
  rw [h, List.filterMap_cons, List.getElem?_eq_getElem hk] at h2
  exact ⟨xs[k], _, List.getElem?_eq_getElem hk, h2.symm⟩
theorem places_nil {α : Type} {xs : List α} {p : α → Bool} (h : placesL xs p = []) : xs.filter p = [] := by
  have := places_len xs p
  rw [h] at this
  exact List.length_eq_zero_iff.mp this.symm
end DL

/-! list(zip(xs, ys)): the list of new pairs. -/
namespace ZK
open PySem
open PySem.Sem (wp)
section
variable {prog : Program} {w : World} {A : Around} {E : Value → Shared → Prop} {s : Shared}
/-- the zip at its turn k: the last pair that it handed out, if any, still stands -/
def St2 (z TI TO i1 i2 l1 l2 : Addr) (k : Nat) (h : Heap) : Prop :=
  (IsZip h z TI TO .none ∨ ∃ (T : Addr) (f1 : Bool) (o : Obj), IsZipG h z TI TO (rawInt T) (.bool f1) ∧ h.get? T = some o ∧ T ≠ z ∧ T ≠ TO ∧ T ≠ i1 ∧ T ≠ i2) ∧
    IsPair h TI (.ref i1) (.ref i2) ∧ (∃ a b, IsPair h TO a b) ∧ h.IsListIter i1 l1 k ∧ h.IsListIter i2 l2 k
theorem St2.keep {z TI TO i1 i2 l1 l2 : Addr} {k : Nat} {h h' : Heap} (st : St2 z TI TO i1 i2 l1 l2 k h) (kp : ∀ c o, h.get? c = some o → (c = z ∨ c = TI ∨ c = TO ∨ c = i1 ∨ c = i2 ∨ (c ≠ z ∧ c ≠ TO ∧ c ≠ i1 ∧ c ≠ i2 ∧ ∃ f1, IsZipG h z TI TO (rawInt c) f1)) → ∃ o', h'.get? c = some o' ∧ ((c = z ∨ c = TI ∨ c = TO ∨ c = i1 ∨ c = i2) → o' = o)) : St2 z TI TO i1 i2 l1 l2 k h' := by
  have kp' : ∀ c o, h.get? c = some o → (c = z ∨ c = TI ∨ c = TO ∨ c = i1 ∨ c = i2) → h'.get? c = some o := fun c o e hc => by
    obtain ⟨o', e1, e2⟩ := kp c o e (by rcases hc with q | q | q | q | q <;> simp [q])
    rw [e1, e2 hc]
  obtain ⟨hz, hTI, ⟨a, b, hTO⟩, h1, h2⟩ := st
  refine ⟨?_, kp' _ _ hTI (by simp), ⟨a, b, kp' _ _ hTO (by simp)⟩, h1.at fun o e => kp' _ o e (by simp), h2.at fun o e => kp' _ o e (by simp)⟩
  rcases hz with hz | ⟨T, f1, o, hz, ho, t1, t2, t3, t4⟩
  · exact .inl (kp' _ _ hz (by simp))
  · obtain ⟨o', e1, _⟩ := kp T o ho (.inr (.inr (.inr (.inr (.inr ⟨t1, t2, t3, t4, _, hz⟩)))))
    exact .inr ⟨T, f1, o', kp' _ _ hz (by simp), e1, t1, t2, t3, t4⟩
theorem St2.lt {z TI TO i1 i2 l1 l2 : Addr} {k : Nat} (st : St2 z TI TO i1 i2 l1 l2 k s.heap) : z < s.heap.objs.size ∧ TO < s.heap.objs.size ∧ i1 < s.heap.objs.size ∧ i2 < s.heap.objs.size ∧ TI < s.heap.objs.size := by
  obtain ⟨hz, hTI, ⟨a, b, hTO⟩, ⟨o1, e1, _⟩, ⟨o2, e2, _⟩⟩ := st
  refine ⟨?_, Heap.lt_size hTO, Heap.lt_size e1, Heap.lt_size e2, Heap.lt_size hTI⟩
  rcases hz with hz | ⟨T, f1, o, hz, _⟩
  · exact Heap.lt_size hz
  · exact Heap.lt_size hz
theorem pyNext_zip2_item {z TI TO i1 i2 l1 l2 : Addr} {k : Nat} {xs ys : Array Value} {x y : Value} {Q : Option Value → Shared → Prop} (D : ZipApart z TI TO i1 i2 l1 l2) (st : St2 z TI TO i1 i2 l1 l2 k s.heap)
    (hl1 : s.heap.IsList l1 xs) (hl2 : s.heap.IsList l2 ys) (hx : xs[k]? = some x) (hy : ys[k]? = some y)
    (hQ : ∀ h', St2 z TI TO i1 i2 l1 l2 (k + 1) h' → IsPair h' s.heap.objs.size x y → h'.objs.size = s.heap.objs.size + 1 →
      (∀ c o, c ≠ z → c ≠ TO → c ≠ i1 → c ≠ i2 → s.heap.get? c = some o → h'.get? c = some o) → Q (some (.ref s.heap.objs.size)) { s with heap := h' }) :
    wpAny (model prog w) A (pyNext (.ref z)) Q E s := by
  have slt := st.lt
  obtain ⟨hz, hTI, ⟨a, b, hTO⟩, h1, h2⟩ := st
  have fresh : s.heap.objs.size ≠ z ∧ s.heap.objs.size ≠ TO ∧ s.heap.objs.size ≠ i1 ∧ s.heap.objs.size ≠ i2 := by
    obtain ⟨q1, q2, q3, q4, _⟩ := slt
    exact ⟨Nat.ne_of_gt q1, Nat.ne_of_gt q2, Nat.ne_of_gt q3, Nat.ne_of_gt q4⟩
  obtain ⟨f1, f2, f3, f4⟩ := fresh
  rcases hz with hz | ⟨T, f1', o, hz, ho, t1, t2, t3, t4⟩
  · refine wpAny_pyNext_zip_item D hz hTI hTO h1 h2 hl1 hl2 hx hy fun h' a1 a2 a3 a4 a5 a6 hk => ?_
    exact hQ h' ⟨.inr ⟨s.heap.objs.size, false, _, a1, a5, f1, f2, f3, f4⟩, hk _ _ D.TIz D.TITO D.TIi1 D.TIi2 hTI, ⟨_, _, a2⟩, a3, a4⟩ a5 a6 hk
  · have hT : s.TypeIs (.ref z) "zip" := ⟨_, hz, rfl⟩
    unfold pyNext
    refine wpAny_bind (wpAny_attempt (wpAny_callSpecial?_slot (name := Str.ofString "__next__") hT F.slot_zip_next
      (wpAny_call_entry F.slot_zip_next hT F.entry_zip_next ?_ (F.args_zip_next_1 _))))
    refine zip2_held_item D hz ho hTI h1 h2 hl1 hl2 hx hy fun h' a1 a3 a4 a5 a6 a7 => wpAny_pure (hQ h' ?_ a5 a6 fun c o c1 _ c3 c4 e => a7 c o c1 c3 c4 e)
    exact ⟨.inr ⟨T, true, o, a1, a7 _ _ t1 t3 t4 ho, t1, t2, t3, t4⟩, a7 _ _ D.TIz D.TIi1 D.TIi2 hTI, ⟨_, _, a7 _ _ D.TOz D.TOi1 D.TOi2 hTO⟩, a3, a4⟩
theorem pyNext_zip2_end {z TI TO i1 i2 l1 l2 : Addr} {k : Nat} {xs ys : Array Value} {Q : Option Value → Shared → Prop} (hh : A.handled = none) (D : ZipApart z TI TO i1 i2 l1 l2) (st : St2 z TI TO i1 i2 l1 l2 k s.heap)
    (hl1 : s.heap.IsList l1 xs) (hl2 : s.heap.IsList l2 ys) (hend : xs[k]? = none ∨ ys[k]? = none)
    (hQ : ∀ h', (∀ c o, c ≠ z → c ≠ TO → c ≠ i1 → c ≠ i2 → s.heap.get? c = some o → h'.get? c = some o) → Q none { s with heap := h' }) :
    wpAny (model prog w) A (pyNext (.ref z)) Q E s := by
  obtain ⟨hz, hTI, ⟨a, b, hTO⟩, h1, h2⟩ := st
  rcases hz with hz | ⟨T, f1', o, hz, ho, t1, t2, t3, t4⟩
  · exact wpAny_pyNext_zip_end hh D hz hTI hTO h1 h2 hl1 hl2 hend fun h' hk => hQ h' hk
  · have hT : s.TypeIs (.ref z) "zip" := ⟨_, hz, rfl⟩
    unfold pyNext
    refine wpAny_bind (wpAny_attempt (wpAny_callSpecial?_slot (name := Str.ofString "__next__") hT F.slot_zip_next
      (wpAny_call_entry F.slot_zip_next hT F.entry_zip_next ?_ (F.args_zip_next_1 _))))
    refine zip2_held_end hh D hz ho hTI h1 h2 hl1 hl2 hend fun h' e hk he => ?_
    obtain ⟨o, ho, hc⟩ := he
    refine wpAny_bind (wpAny_isInstance (T := "StopIteration") (b := true) ⟨o, ho, hc⟩ isSubtype_stop ?_)
    exact wpAny_pure (hQ _ fun c o c1 _ c3 c4 e => hk c o c1 c3 c4 e)
end
theorem zip_no_len : typeLookup (.type "zip") "__len__" = pure none := by rw [typeLookup_type, builtinLookup_eq_fast]; kernel_rfl
theorem zip_no_hint : typeLookup (.type "zip") "__length_hint__" = pure none := by rw [typeLookup_type, builtinLookup_eq_fast]; kernel_rfl
end ZK
namespace ZK
open PySem PySem.Spec PyProof.Rows L2
/-- what stands behind: the list at q, of new pairs -/
def Pairs (H0 Hn : Hp) (q : Addr) (acc : List V) (n : Nat) (xs ys : List V) : Prop :=
  Same H0 Hn ∧ H0 q = none ∧ Hn q = some (.lst acc) ∧ acc.length = n ∧ ∀ j x y, j < n → xs[j]? = some x → ys[j]? = some y → ∃ T, acc[j]? = some (.ref T) ∧ Hn T = some (.tup [x, y]) ∧ H0 T = none ∧ T ≠ q
section
variable {X : Cx} {pins : List (Addr × Obj)} {σ : L2.St} {s : Shared}
theorem zip_loop {A1 : Around} {z TI TO i1 i2 a b q : Addr} {xs ys : List V} {H0 : Hp} {Rs : Result → Shared → Prop} (hh : A1.in1.handled = none) (D : ZipApart z TI TO i1 i2 a b) (hx : SqL X.K H0 a xs) (hy : SqL X.K H0 b ys) (hxy : xs.length = ys.length) (hlim : xs.length < sizeLine)
    (hdone : ∀ s' Hn acc, Inv X pins σ Hn s' → Pairs H0 Hn q acc xs.length xs ys → Rs (.ok (.ret .none)) s') :
    ∀ (m i : Nat) (acc : List V) (H : Hp) (s : Shared), i + m = xs.length → Inv X pins σ H s → (∀ c ∈ [z, TI, TO, i1, i2], FpOk X pins H c) → St2 z TI TO i1 i2 a b i s.heap → Pairs H0 H q acc i xs ys →
      codeAny (model X.prog X.w) A1 (.builtin "list.extend.loop" ⟨[.ref q, .ref z, .none], []⟩) Rs s := by
  intro m
  induction m with
  | zero =>
    intro i acc H s him I hf st P
    obtain ⟨hs, hq0, hq, hl, hp⟩ := id P
    obtain ⟨its, rv, p, _⟩ := I.list (hs.seq hx)
    obtain ⟨its2, rv2, p2, _⟩ := I.list (hs.seq hy)
    refine codeAny_builtin PySem.F.entry_extend_loop ?_
    rw [Around.under_plainId PySem.F.plain_extend_loop _]
    show wpAny _ A1.in1 (pyNext (.ref z) >>= _) _ _ s
    refine wpAny_bind (pyNext_zip2_end hh D st p.isList p2.isList (.inl (by have := rv.length; simp; omega)) fun h' hk => ?_)
    refine wpAny_pure ?_
    have e : i = xs.length := by omega
    subst e
    exact hdone _ H acc (I.turnedL (t' := s.toks) (ch := [z, TI, TO, i1, i2]) (fun c o hb q => hk c o (fun q' => hb (by simp [q'])) (fun q' => hb (by simp [q'])) (fun q' => hb (by simp [q'])) (fun q' => hb (by simp [q'])) q) hf) P
  | succ m ih =>
    intro i acc H s him I hf st P
    obtain ⟨hs, hq0, hq, hl, hp⟩ := id P
    obtain ⟨its, rv, p, _⟩ := I.list (hs.seq hx)
    obtain ⟨its2, rv2, p2, _⟩ := I.list (hs.seq hy)
    have hi : i < xs.length := by omega
    have hi2 : i < ys.length := by omega
    obtain ⟨v, hv, r1⟩ := rv.get (List.getElem?_eq_getElem hi)
    obtain ⟨v2, hv2, r2⟩ := rv2.get (List.getElem?_eq_getElem hi2)
    refine codeAny_builtin PySem.F.entry_extend_loop ?_
    rw [Around.under_plainId PySem.F.plain_extend_loop _]
    show wpAny _ A1.in1 (pyNext (.ref z) >>= _) _ _ s
    refine wpAny_bind (pyNext_zip2_item D st p.isList p2.isList (x := v) (y := v2) (by simpa using hv) (by simpa using hv2) fun h' st' hT hsz hk => ?_)
    have new : ObjOk X.prog X.w (upd H s.heap.objs.size (.tup [xs[i], ys[i]])) h' s.heap.objs.size (.tup [xs[i], ys[i]]) :=
      ⟨by show 2 ≤ sizeLine; rw [sizeLine_eq]; decide, [v, v2], .cons r1 (.cons r2 .nil), ⟨_, hT, rfl, _, rfl⟩⟩
    have hfT : H s.heap.objs.size = none := I.hok.fresh (Nat.le_refl _)
    have hqT : q ≠ s.heap.objs.size := ne_of_none hq hfT
    have I1 : Inv X pins σ (upd H s.heap.objs.size (.tup [xs[i], ys[i]])) { s with heap := h' } :=
      I.turnedNew (t' := s.toks) (ch := [z, TI, TO, i1, i2]) (fun c o hb q => hk c o (fun q' => hb (by simp [q'])) (fun q' => hb (by simp [q'])) (fun q' => hb (by simp [q'])) (fun q' => hb (by simp [q'])) q) hf (Nat.le_refl _) new
    show wpAny _ A1.in1 (updateSeq q (·.push (.ref s.heap.objs.size)) >>= _) _ _ _
    have hq1 : upd H s.heap.objs.size (.tup [xs[i], ys[i]]) q = some (.lst acc) := by rw [upd_ne hqT]; exact hq
    obtain ⟨z', its', k, r3, hl3, e3⟩ := I1.lstM hq1
    have slt := st.lt
    refine wpAny_bind (wpAny_updateSeq e3 rfl (wpAny_pure ⟨plainId_quiet PySem.F.plain_extend_loop _, ?_⟩) (by rw [List.size_toArray]; omega) (by show (its'.toArray.push _).size ≤ sizeLine + 1; rw [Array.size_push, List.size_toArray]; omega))
    have I2 := I1.lset (f := (·.push (Value.ref s.heap.objs.size))) (its' := its' ++ [Value.ref s.heap.objs.size]) (ys := acc ++ [V.ref s.heap.objs.size]) (t' := s.toks) hq1 e3 (by simp) (r3.append (.cons (show RelV (V.ref s.heap.objs.size) _ from rfl) .nil)) (by rw [List.length_append, List.length_singleton]; omega)
    have fne : ∀ c ∈ [z, TI, TO, i1, i2], c ≠ q ∧ c ≠ s.heap.objs.size := fun c hc => by
      refine ⟨fun e => ?_, ?_⟩
      · subst e
        have := (hf _ hc).1
        rw [hq] at this; cases this
      · obtain ⟨q1, q2, q3, q4, q5⟩ := slt
        have e' : c = z ∨ c = TI ∨ c = TO ∨ c = i1 ∨ c = i2 := by simpa using hc
        rcases e' with r | r | r | r | r <;> (rw [r]; first | exact Nat.ne_of_lt q1 | exact Nat.ne_of_lt q2 | exact Nat.ne_of_lt q3 | exact Nat.ne_of_lt q4 | exact Nat.ne_of_lt q5)
    refine ih (i + 1) (acc ++ [.ref s.heap.objs.size]) _ _ (by omega) I2 (fun c hc => ?_) (St2.keep st' fun c o hc hcc => ?_) ?_
    · obtain ⟨n1, n2⟩ := fne c hc
      obtain ⟨g1, g2⟩ := hf c hc
      exact ⟨by rw [upd_ne n1, upd_ne n2]; exact g1, g2⟩
    · by_cases hcq : c = q
      · subst hcq
        refine ⟨_, Heap.get?_update_self _ e3 rfl, fun hm => ?_⟩
        have : c ∈ [z, TI, TO, i1, i2] := by simpa using hm
        exact ((fne c this).1 rfl).elim
      · exact ⟨o, (Heap.get?_update_other _ _ (Ne.symm hcq)).trans hc, fun _ => rfl⟩
    · refine ⟨fun c o e => ?_, hq0, upd_same, by rw [List.length_append, hl]; rfl, fun j x y hj e1 e2 => ?_⟩
      · have e0 := hs c o e
        rw [upd_ne (ne_of_none e hq0), upd_ne (ne_of_none e0 hfT)]
        exact e0
      · by_cases hji : j < i
        · obtain ⟨T, g1, g2, g3, g4⟩ := hp j x y hji e1 e2
          refine ⟨T, by rw [List.getElem?_append_left (by omega)]; exact g1, ?_, g3, g4⟩
          rw [upd_ne g4, upd_ne (ne_of_none g2 hfT)]
          exact g2
        · have : j = i := by omega
          subst this
          rw [List.getElem?_eq_getElem hi] at e1
          rw [List.getElem?_eq_getElem hi2] at e2
          cases e1
          cases e2
          refine ⟨s.heap.objs.size, by rw [List.getElem?_append_right (by omega), hl]; simp, ?_, ?_, Ne.symm hqT⟩
          · rw [upd_ne (Ne.symm hqT), upd_same]
          · cases e : H0 s.heap.objs.size with
            | none => rfl
            | some o => rw [hs _ _ e] at hfT; cases hfT
/-- list(z) of a zip that was just made -/
theorem list_zip {z TI TO i1 i2 a b : Addr} {xs ys : List V} {H : Hp} {Q : VK} (hh : X.A.handled = none) (I : Inv X pins σ H s) (D : ZipApart z TI TO i1 i2 a b) (st : St2 z TI TO i1 i2 a b 0 s.heap) (hf : ∀ c ∈ [z, TI, TO, i1, i2], FpOk X pins H c)
    (hx : SqL X.K H a xs) (hy : SqL X.K H b ys) (hxy : xs.length = ys.length) (hlim : xs.length < sizeLine) (h : ∀ q acc Hn, Pairs H Hn q acc xs.length xs ys → Q (.ref q) Hn) :
    wpAny (model X.prog X.w) X.A (call (.type "list") [.ref z]) (EP X pins σ Q) X.xe s := by
  refine callType_codes (Q₁ := fun obj s₁ => obj = .ref s.heap.objs.size ∧ s₁ = { s with heap := s.heap.push { cls := .type "list", data := .seq #[] } }) PySem.F.called_list (PySem.F.typeCall_list_1 _) PySem.F.entry_list_init
    (code_list_new _ ⟨rfl, rfl⟩) fun obj s₁ h₁ => ?_
  obtain ⟨rfl, rfl⟩ := h₁
  have hS : (s.heap.push { cls := .type "list", data := .seq #[] }).get? s.heap.objs.size = some { cls := .type "list", data := .seq #[] } := Heap.get?_push_size _ rfl
  refine ⟨⟨_, hS, rfl⟩, PySem.F.args_list_init_2 _ _, ?_⟩
  have fr : H s.heap.objs.size = none := I.hok.fresh (Nat.le_refl _)
  have slt := st.lt
  have fne : ∀ c ∈ [z, TI, TO, i1, i2], c ≠ s.heap.objs.size := fun c hc => by
    obtain ⟨q1, q2, q3, q4, q5⟩ := slt
    have e' : c = z ∨ c = TI ∨ c = TO ∨ c = i1 ∨ c = i2 := by simpa using hc
    rcases e' with r | r | r | r | r <;> (rw [r]; first | exact Nat.ne_of_lt q1 | exact Nat.ne_of_lt q2 | exact Nat.ne_of_lt q3 | exact Nat.ne_of_lt q4 | exact Nat.ne_of_lt q5)
  have hzS : s.heap.objs.size ≠ z := Nat.ne_of_gt slt.1
  have I1 : Inv X pins σ (upd H s.heap.objs.size (.lst [])) { s with heap := s.heap.push { cls := .type "list", data := .seq #[] } } := I.lnew (its := []) (t' := s.toks) .nil (Nat.zero_le _)
  have st1 : St2 z TI TO i1 i2 a b 0 (s.heap.push { cls := .type "list", data := .seq #[] }) := st.keep fun c o e _ => ⟨o, Heap.get?_push_of_some _ e, fun _ => rfl⟩
  show wpAny _ _ (do let old ← Builtin.List.listItems (.ref s.heap.objs.size); Builtin.List.listUpdate (.ref s.heap.objs.size) (fun _ => #[]); letGo old.toList.reverse; Builtin.List.listExtendWith (.ref s.heap.objs.size) (.ref z) .none) _ _ _
  refine wpAny_bind ?_
  unfold Builtin.List.listItems
  refine wpAny_bind (wpAny_seqItems hS rfl (wpAny_pure ?_))
  show wpAny _ _ (updateSeq s.heap.objs.size (fun _ => #[]) >>= fun _ => letGo (#[] : Array Value).toList.reverse >>= fun _ => Builtin.List.listExtendWith (.ref s.heap.objs.size) (.ref z) .none) _ _ _
  refine wpAny_bind (wpAny_updateSeq hS rfl ?_)
  have I2 := I1.lset (f := fun _ => #[]) (its := []) (its' := []) (ys := []) (t' := s.toks) upd_same hS rfl .nil (Nat.zero_le _)
  rw [upd_upd] at I2
  have upS : ∀ {h : Heap} {f : Obj → Obj} {c : Addr} {o : Obj}, c ≠ s.heap.objs.size → h.get? c = some o → (h.update s.heap.objs.size f).get? c = some o := fun hc e => (Heap.get?_update_other _ _ (Ne.symm hc)).trans e
  have stU : ∀ {h : Heap} {f : Obj → Obj}, (∀ o, h.get? s.heap.objs.size = some o → ∃ o', (h.update s.heap.objs.size f).get? s.heap.objs.size = some o') → St2 z TI TO i1 i2 a b 0 h → St2 z TI TO i1 i2 a b 0 (h.update s.heap.objs.size f) := fun hu st => st.keep fun c o e _ => by
    by_cases hc : c = s.heap.objs.size
    · subst hc
      obtain ⟨o', e'⟩ := hu o e
      refine ⟨o', e', fun hm => ?_⟩
      exact (fne _ (by simpa using hm) rfl).elim
    · exact ⟨o, upS hc e, fun _ => rfl⟩
  have st2 := stU (f := Obj.mapSeq (fun _ => (#[] : Array Value))) (fun o e => by rw [hS] at e; cases e; exact ⟨_, Heap.get?_update_self _ hS rfl⟩) st1
  refine wpAny_bind (wpAny_letGo ?_)
  unfold Builtin.List.listExtendWith
  have zty : ∀ {h : Heap}, St2 z TI TO i1 i2 a b 0 h → ∀ (s' : Shared), s'.heap = h → s'.TypeIs (.ref z) "zip" := fun st s' e => by
    subst e
    rcases st.1 with hz | ⟨T, f1, o, hz, _⟩
    · exact ⟨_, hz, rfl⟩
    · exact ⟨_, hz, rfl⟩
  refine wpAny_bind (wpAny_typeOf (zty st2 _ rfl) ?_)
  have h1 : Builtin.List.listSameRef (.ref s.heap.objs.size) (.ref z) = false := by simp [Builtin.List.listSameRef, hzS]
  have h2 : (Value.type "zip" == Value.type "list") = false := by decide
  have h3 : (Value.type "zip" == Value.type "tuple") = false := by decide
  simp only [h1, h2, h3, Bool.or_false, Bool.false_eq_true, if_false]
  refine wpAny_bind (wpAny_pyIter_slot (zty st2 _ rfl) F.slot_zip_iter (wpAny_call_entry F.slot_zip_iter (zty st2 _ rfl) F.entry_zip_iter ?_ (F.args_zip_iter_1 _)))
  show wpAny _ _ (ret (.ref z)) _ _ _
  refine wpAny_pure ⟨_, rfl, "zip", _, zty st2 _ rfl, F.slot_zip_next.lookup, ?_⟩
  refine wpAny_bind (wpAny_holding ?_)
  unfold Builtin.List.listLengthHint
  refine wpAny_bind (wpAny_specialOf (zty st2 _ rfl) zip_no_len ?_)
  show wpAny _ _ (specialOf (Value.ref z) (Str.ofString "__length_hint__") >>= _) _ _ _
  refine wpAny_bind (wpAny_specialOf (zty st2 _ rfl) zip_no_hint ?_)
  refine wpAny_pure ?_
  show wpAny _ _ (rule "list.extend.makes-room" >>= fun _ => Builtin.List.listTouch (.ref s.heap.objs.size) >>= fun _ =>
    again (.builtin "list.extend.loop" ⟨[.ref s.heap.objs.size, .ref z, .none], []⟩)) _ _ _
  refine wpAny_bind (wpAny_rule ?_)
  refine wpAny_bind ?_
  show wpAny _ _ (updateSeq s.heap.objs.size (·.push .none) >>= fun _ => updateSeq s.heap.objs.size (·.pop)) _ _ _
  obtain ⟨z4, its4, k4, r4, hl4, e4⟩ := I2.lstM upd_same
  cases r4
  refine wpAny_bind (wpAny_updateSeq e4 rfl ?_)
  have st3 := stU (f := Obj.mapSeq (·.push Value.none)) (fun o e => ⟨_, Heap.get?_update_self _ e4 rfl⟩) st2
  have I3 := I2.lset (f := (·.push Value.none)) (its' := [Value.none]) (ys := [.non]) (t' := s.toks) upd_same e4 (by simp) (.cons rfl .nil) (by rw [List.length_singleton, sizeLine_eq]; decide)
  obtain ⟨z5, its5, k5, r5, hl5, e5⟩ := I3.lstM upd_same
  obtain ⟨u5, rfl, ru5⟩ := r5.one
  refine wpAny_updateSeq e5 rfl ?_ (by show 1 ≤ sizeLine; rw [sizeLine_eq]; decide) (by show 0 ≤ sizeLine + 1; exact Nat.zero_le _)
  have st4 := stU (f := Obj.mapSeq (·.pop)) (fun o e => ⟨_, Heap.get?_update_self _ e5 rfl⟩) st3
  have I4 := I3.lset (f := (·.pop)) (its := [u5]) (its' := []) (ys := []) (t' := s.toks) upd_same e5 (by rfl) .nil (Nat.zero_le _)
  rw [upd_upd, upd_upd] at I4
  refine wpAny_pure ⟨plainId_quiet PySem.F.plain_extend_loop _, ?_⟩
  refine zip_loop (H0 := H) (q := s.heap.objs.size) (by exact hh) D hx hy hxy hlim (fun s' Hn acc I' P => ⟨rfl, .ref s.heap.objs.size, Hn, I', rfl, h _ acc Hn P⟩) xs.length 0 [] _ _ (by omega) I4 (fun c hc => ?_) st4 ?_
  · obtain ⟨g1, g2⟩ := hf c hc
    exact ⟨by rw [upd_ne (fne c hc)]; exact g1, g2⟩
  · exact ⟨fun c o e => by rw [upd_ne (ne_of_none e fr)]; exact e, fr, upd_same, rfl, fun j x y hj => absurd hj (Nat.not_lt_zero _)⟩
/-- list(zip(xs, ys)) -/
def tListZip (K : PySem.W.Frag) (ta : TA) : TE := fun σ H Q => ta σ H fun vs H1 => ∃ a b xs ys, vs = [.ref a, .ref b] ∧ SqL K H1 a xs ∧ SqL K H1 b ys ∧ xs.length = ys.length ∧ xs.length < sizeLine ∧ ∀ q acc Hn, Pairs H1 Hn q acc xs.length xs ys → Q (.ref q) Hn
theorem zapart {n l1 l2 : Nat} (h1 : l1 < n) (h2 : l2 < n) : ZipApart (n + 4) (n + 2) (n + 3) n (n + 1) l1 l2 := by
  constructor <;> (intro e; have e : (_ : Nat) = (_ : Nat) := e; omega)
theorem pe_listzip {X : Cx} {e e2 : Expr} {ta : TA} {p p2 pos pos2 : Pos} (hc : X.calm = true) (hg : Gl X "zip") (hm : X.mg "zip" = none) (hg2 : Gl X "list") (hm2 : X.mg "list" = none) (ha : PA X [e, e2] ta)
    (hs : starEach [e, e2] X.env = (false, eval e X.env) :: starEach [e2] X.env := by rfl) (hpl : (backTo pos (starEach [e2] X.env)).any (·.1) = false := by rfl)
    (hs2 : starEach [.Call (.Name "zip" p) [e, e2] [] pos] X.env = (false, eval (.Call (.Name "zip" p) [e, e2] [] pos) X.env) :: starEach [] X.env := by rfl) :
    PE X (.Call (.Name "list" p2) [.Call (.Name "zip" p) [e, e2] [] pos] [] pos2) (tListZip X.K ta) := by
  refine ⟨fun pins s σ H Q I h => ?_⟩
  refine Call_ (ld_blt I hg2 hm2 (by decide +kernel : bootBuiltins "list" = some (.type "list")) (PyProof.Rows.callWith_type1 (Calls.spliced_cons (Call_ (ld_blt I hg hm PyProof.Rows.boot_zip (PyProof.Rows.callWith_type1 (thn (ha.run pos pins s σ H _ I h) fun us s1 ⟨vs, H1, I1, r1, q1⟩ => ?_) hs hpl))) ) hs2 rfl))
  obtain ⟨a, b, xs, ys, ex, hqx, hqy, hxy, hlim, q⟩ := q1
  subst ex
  cases r1 with
  | cons r rr =>
    cases rr with
    | cons r' rr =>
      cases rr
      cases r
      cases r'
      obtain ⟨its, rv, p1, _⟩ := I1.list hqx
      obtain ⟨its2, rv2, p2, _⟩ := I1.list hqy
      refine call_zip_2 p1.isList p2.isList fun h' hz hTI hTO h1 h2 hsz hk => ?_
      have I2 : Inv X pins σ H1 { s1 with heap := h' } := I1.kept (t' := s1.toks) hk
      have fresh : ∀ c ∈ [s1.heap.objs.size + 4, s1.heap.objs.size + 2, s1.heap.objs.size + 3, s1.heap.objs.size, s1.heap.objs.size + 1], FpOk X pins H1 c := fun c hcm => by
        have hle : s1.heap.objs.size ≤ c := by
          have e' : c = s1.heap.objs.size + 4 ∨ c = s1.heap.objs.size + 2 ∨ c = s1.heap.objs.size + 3 ∨ c = s1.heap.objs.size ∨ c = s1.heap.objs.size + 1 := by simpa using hcm
          rcases e' with z | z | z | z | z
          · rw [z]; exact Nat.le_add_right _ _
          · rw [z]; exact Nat.le_add_right _ _
          · rw [z]; exact Nat.le_add_right _ _
          · rw [z]; exact Nat.le_refl _
          · rw [z]; exact Nat.le_add_right _ _
        exact I1.fpOk hle (I1.hok.fresh hle)
      refine Calls.spliced_nil ?_
      exact list_zip (I1.ok.hd hc) I2 (zapart p1.lt p2.lt) ⟨.inl hz, hTI, ⟨_, _, hTO⟩, h1, h2⟩ fresh hqx hqy hxy hlim q
end
end ZK

/-! list(zip(..)), [x] * n, a, b = .., xs.remove(k); things of one's own within others. -/
namespace DL
open PySem PySem.Spec PyProof.Rows L2
section
variable {K : PySem.W.Frag} {W : Wish} {B : Bx} {M H M' H' M2 H2 : Hp} {σ : L2.St} {ρ : Env} {s s' s2 : Row} {ta tb tc te tl : TE} {tt : TT} {f g k : SE} {fa fb ga : SA}
/-! ### list(zip(xs, ys)) -/
def zip2L : List D → List D → List D
  | x :: xs, y :: ys => .tuple [x, y] :: zip2L xs ys
  | _, _ => []
theorem zip2L_len : ∀ {a b : List D}, a.length = b.length → (zip2L a b).length = a.length
  | [], [], _ => rfl
  | _ :: _, _ :: _, h => by simp only [zip2L, List.length_cons]; rw [zip2L_len (by simpa using h)]
theorem zip2_rps {M : Hp} : ∀ {acc xs ys : List V} {a b : List D}, Rps K M xs a → Rps K M ys b → a.length = b.length → acc.length = xs.length → (∀ (j : Nat) (x y : V), xs[j]? = some x → ys[j]? = some y → ∃ T : Addr, acc[j]? = some (V.ref T) ∧ M T = some (.tup [x, y])) → Rps K M acc (zip2L a b)
  | acc, _, _, [], [], r1, r2, hl, h, _ => by
    cases r1
    cases acc with
    | nil => exact .nil
    | cons _ _ => simp at h
  | [], _, _, x :: a, y :: b, r1, r2, hl, h, _ => by cases r1; simp at h
  | v :: acc, _, _, x :: a, y :: b, r1, r2, hl, h, hp => by
    cases r1 with
    | cons h1 t1 =>
      cases r2 with
      | cons h2 t2 =>
        obtain ⟨T, e1, e2⟩ := hp 0 _ _ rfl rfl
        cases e1
        refine .cons (.tup (.inl (.inl e2)) (by show 2 ≤ 1000000; decide) (.cons h1 (.cons h2 .nil))) ?_
        exact zip2_rps t1 t2 (by simpa using hl) (by simpa using h) fun j x y e1 e2 => by simpa using hp (j + 1) x y (by simpa using e1) (by simpa using e2)
def lZip2 (fa fb : SA) : SA := fun ρ s => (fa ρ s).bind fun x => (fb ρ x.2).bind fun y => if x.1.length = y.1.length then some (zip2L x.1 y.1, y.2) else none
open Classical in
theorem gl_zip2 (ha : GoodQ K ta fa) (hb : GoodQ K tb fb) : GoodL K (ZK.tListZip K (tCons ta (tCons tb tNil))) (lZip2 fa fb) := fun B M H σ ρ s d s' o e Q q => by
  obtain ⟨⟨xs, s1⟩, e1, e⟩ := bnd e
  obtain ⟨⟨ys, s2⟩, e2, e⟩ := bnd e
  simp only at e
  split at e
  · rename_i hl
    obtain ⟨rfl, rfl⟩ : zip2L xs ys = d ∧ s2 = s' := by cases e; exact ⟨rfl, rfl⟩
    refine ha B M H σ ρ s xs s1 o e1 _ fun p vs H1 M1 t1 hs hl1 r1 => ?_
    refine hb B M1 H1 σ ρ s1 ys _ (o.step t1) e2 _ fun p2 us H2 M2 t2 hs2 hl2 r2 => ?_
    have r1' := Rps.mono t2.mm _ _ r1
    refine ⟨p, p2, vs, us, rfl, hs H2 t2.keep, hs2 H2 fun _ _ h _ => h, by rw [r1.length, r2.length]; exact hl, lim_lt' hl1, fun z acc Hn P => ?_⟩
    obtain ⟨p1, p3, p4, p5, p6⟩ := P
    let M3 : Hp := fun a => if H2 a = none ∧ a ≠ z then Hn a else M2 a
    have new : ∀ a, H2 a = none → a ≠ z → M3 a = Hn a := fun a h1 h2 => by show (if _ then _ else _) = _; rw [if_pos ⟨h1, h2⟩]
    have old : ∀ a, ¬ (H2 a = none ∧ a ≠ z) → M3 a = M2 a := fun a h => by show (if _ then _ else _) = _; rw [if_neg h]
    have hs3 : Same M2 M3 := fun a w h => by
      have := t2.sub a w h
      rw [old a fun q => by rw [this] at q; cases q.1]; exact h
    have t3 : Step K B M2 H2 M3 Hn s2 := by
      refine ⟨hs3, fun a w h => ?_, fun a w h _ => p1 a w h, fun a w h => ?_, ?_⟩
      · by_cases q : H2 a = none ∧ a ≠ z
        · rw [new a q.1 q.2] at h; exact h
        · rw [old a q] at h; exact p1 a w (t2.sub a w h)
      · by_cases q : H2 a = none ∧ a ≠ z
        · exact .inr q.1
        · rw [old a q] at h; exact .inl h
      · refine B.r.keep t2.row hs3 (fun a ha => ?_) (fun a w _ h => p1 a w h) (codeKept_all p1)
        obtain ⟨g1, w, g2⟩ := B.r.live t2.row ha
        rw [old a fun q => by rw [g2] at q; cases q.1]; exact g1
    have T := (t1.trans t2).trans t3
    refine q z acc Hn M3 T (t1.free (t2.free p3)) ?_ p4 (by rw [p5]; exact hl1) ?_
    · rw [old z fun q => q.2 rfl]; exact t2.sub.free p3
    · refine zip2_rps (Rps.mono hs3 _ _ r1') (Rps.mono hs3 _ _ r2) hl p5 fun j x y ex ey => ?_
      obtain ⟨T', g1, g2, g3, g4⟩ := p6 j x y (List.getElem?_eq_some_iff.mp ex).1 ex ey
      exact ⟨T', g1, by rw [new T' g3 g4]; exact g2⟩
  · cases e
where lim_lt' {n : Nat} (h : n ≤ lim) : n < sizeLine := Nat.lt_of_le_of_lt h (by rw [sizeLine_eq]; decide)
/-! ### [x] * n -/
def lRep (fa : SA) (g : SE) : SA := fun ρ s => (fa ρ s).bind fun x => (g ρ x.2).bind fun y => match y.1 with | .int k => if x.1.length ≤ 1000 ∧ -1000 ≤ k ∧ k ≤ 1000 then some ((List.replicate k.toNat x.1).flatten, y.2) else none | _ => none
theorem gl_rep (ha : GoodL K ta fa) (hb : GoodE K tb g) : GoodL K (tOp rRep ta tb) (lRep fa g) := fun B M H σ ρ s d s' o e Q q => by
  obtain ⟨⟨xs, s1⟩, e1, e⟩ := bnd e
  obtain ⟨⟨y, s2⟩, e2, e⟩ := bnd e
  refine ha B M H σ ρ s xs s1 o e1 _ fun p vs H1 M1 t1 h1 h2 h3 hl1 r1 => ?_
  refine hb B M1 H1 σ ρ s1 y s2 (o.step t1) e2 _ fun w H2 M2 t2 r2 => ?_
  cases r2 with
  | int k =>
    simp only at e
    split at e
    · rename_i h
      obtain ⟨rfl, rfl⟩ : (List.replicate k.toNat xs).flatten = d ∧ s2 = s' := by cases e; exact ⟨rfl, rfl⟩
      have hlen : (List.replicate k.toNat vs).flatten.length ≤ lim := by
        rw [PyProof.Rows.lm_len_rep_flat, r1.length]
        have : k.toNat * xs.length ≤ 1000 * 1000 := Nat.mul_le_mul (by omega) h.1
        exact Nat.le_trans this (by unfold lim; omega)
      have h4 : H2 p = some (.lst vs) := t2.keep p _ h3 (o.rne h1)
      refine ⟨p, k, vs, rfl, rfl, h4, by omega, by omega, ?_, fun z hz => ?_⟩
      · rw [Nat.mul_comm]
        rw [PyProof.Rows.lm_len_rep_flat] at hlen
        exact lim_le hlen
      · have t3 := Step.lay (o := .lst (List.replicate k.toNat vs).flatten) t2.sub t2.row hz
        exact q z _ _ M2 ((t1.trans t2).trans t3) (t1.free (t2.free hz)) (t2.sub.free hz) upd_same hlen (Rps.rep (Rps.mono t2.mm _ _ r1) _)
    · cases e
  | _ => cases e
/-! ### values for slots -/
abbrev SV := Env → Row → Option (Sl × Row)
def GoodV (K : PySem.W.Frag) (te : TE) (f : SV) : Prop :=
  ∀ (B : Bx) (M H : Hp) (σ : L2.St) (ρ : Env) (s : Row) (x : Sl) (s' : Row), Ok K B M H σ ρ s → f ρ s = some (x, s') → ∀ Q : VK,
    (∀ v H' M', Step K B M H M' H' s' → SlotOk K B M' H' (some v) x → (∀ a ∈ footS H' (some v) x, H a = none) → Q v H') → te σ H Q
def vE (f : SE) : SV := fun ρ s => (f ρ s).bind fun x => some (.imm x.1, x.2)
def vL (f : SA) : SV := fun ρ s => (f ρ s).bind fun x => some (.own x.1, x.2)
theorem gv_e (ha : GoodE K te f) : GoodV K te (vE f) := fun B M H σ ρ s x s' o e Q q => by
  obtain ⟨⟨d, s1⟩, e1, e⟩ := bnd e
  cases e
  exact ha B M H σ ρ s d _ o e1 _ fun v H1 M1 t1 r1 => q v H1 M1 t1 r1 fun a h => by rw [footS_imm] at h; cases h
theorem gv_l (ha : GoodL K te fa) : GoodV K te (vL fa) := fun B M H σ ρ s x s' o e Q q => by
  obtain ⟨⟨d, s1⟩, e1, e⟩ := bnd e
  cases e
  exact ha B M H σ ρ s d _ o e1 _ fun p vs H1 M1 t1 h1 h2 h3 hl r1 => q _ H1 M1 t1 ⟨vs, h3, hl, r1, h2, o.hfree h1, o.rne h1⟩ fun a h => by
    have : a = p := by simpa [footS] using h
    rw [this]; exact h1
theorem Ok.setV (o : Ok K B M H σ ρ s) (t : Step K B M H M' H' s') (i : Nat) {v : V} {x : Sl} (h : SlotOk K B M' H' (some v) x) (hf : ∀ a ∈ footS H' (some v) x, H a = none) : Ok K B M' H' (σ.set i (some v)) (ρ.set i x) s' :=
  (o.step t).put i _ _ h fun j z a hj hz e1 e2 => o.newFoot (hf a e1) t j z hz e2
def sSetV (i : Nat) (f : SV) : SS := fun ρ s => (f ρ s).bind fun x => some (.nx (ρ.set i x.1) x.2)
theorem gs_setV (i : Nat) {f : SV} (a : GoodV K te f) : GoodS K W (tAsg te (gName i)) (sSetV i f) := fun B M H σ ρ s o ok e D q => by
  obtain ⟨⟨x, s1⟩, e1, e⟩ := bnd e
  cases e
  exact a B M H σ ρ s x s1 ok e1 _ fun v H1 M1 t1 h hf => q _ H1 M1 (ok.setV t1 i h hf)
def sParV (i j : Nat) (f g : SV) : SS := fun ρ s => (f ρ s).bind fun x => (g ρ x.2).bind fun y => some (.nx ((ρ.set i x.1).set j y.1) y.2)
/-- a value that waits while another is reckoned -/
theorem Ok.wait (o : Ok K B M H σ ρ s) (t1 : Step K B M H M' H' s') {v : V} {x : Sl} (h : SlotOk K B M' H' (some v) x) (hf : ∀ a ∈ footS H' (some v) x, H a = none) (t2 : Step K B M' H' M2 H2 s2) :
    SlotOk K B M2 H2 (some v) x ∧ footS H2 (some v) x = footS H' (some v) x := by
  have k1 : ∀ a ∈ footS H' (some v) x, H2 a = H' a := fun a ha => by
    obtain ⟨_, _, h3, w, h4⟩ := slot_foot h a ha
    rw [t2.keep a w h4 h3, h4]
  refine ⟨slot_mono h t2.mm k1 fun a ha => ?_, footS_same h k1⟩
  obtain ⟨h1, _, h3, w, h4⟩ := slot_foot h a ha
  cases z : M2 a with
  | none => rfl
  | some u =>
    rcases t2.fresh a u z with z1 | z1
    · rw [h1] at z1; cases z1
    · rw [h4] at z1; cases z1
theorem gs_parV {i j : Nat} {f g : SV} (a : GoodV K ta f) (b : GoodV K tb g) : GoodS K W (tPar i j (tCons ta (tCons tb tNil))) (sParV i j f g) := fun B M H σ ρ s o ok e D q => by
  obtain ⟨⟨x, s1⟩, e1, e⟩ := bnd e
  obtain ⟨⟨y, s2⟩, e2, e⟩ := bnd e
  cases e
  refine a B M H σ ρ s x s1 ok e1 _ fun v H1 M1 t1 h1 f1 => ?_
  refine b B M1 H1 σ ρ s1 y s2 (ok.step t1) e2 _ fun w H2 M2 t2 h2 f2 => ?_
  obtain ⟨h1', fe⟩ := ok.wait t1 h1 f1 t2
  have ok1 : Ok K B M2 H2 (σ.set i (some v)) (ρ.set i x) s2 := ok.setV (t1.trans t2) i h1' fun a ha => f1 a (by rw [fe] at ha; exact ha)
  refine ⟨v, w, rfl, q _ H2 M2 (ok1.put j _ _ h2 fun m z c hm hz c1 c2 => ?_)⟩
  have c0 := f2 c c1
  by_cases him : i = m
  · subst him
    have hi : i < ρ.length := by
      have := (List.getElem?_eq_some_iff.mp hz).1
      simpa using this
    rw [List.getElem?_set_self hi] at hz
    cases hz
    rw [List.getElem?_set_self (by rw [ok.len]; exact hi)] at c2
    have c2 : c ∈ footS H2 (some v) x := c2
    rw [fe] at c2
    obtain ⟨_, _, _, w, h4⟩ := slot_foot h1 c c2
    rw [c0] at h4; cases h4
  · rw [List.getElem?_set_ne him] at hz c2
    exact (ok.step t1).newFoot c0 t2 m z hz c2
/-! ### xs.remove(k): whole numbers -/
theorem intsD_of {ds : List D} {ns : List Int} (e : intsD ds = some ns) : ds = ns.map PyData.int := by
  induction ds generalizing ns with
  | nil => cases e; rfl
  | cons d ds ih =>
    cases d <;> first | (cases e; done) | skip
    obtain ⟨ms, e1, e⟩ := bnd e
    cases e
    rw [ih e1]; rfl
def sRem (i : Nat) (f : SE) : SS := fun ρ s => (f ρ s).bind fun x => (ownAt ρ i).bind fun ds => (intsD ds).bind fun ns => (intOf x.1).bind fun k => if k ∈ ns then some (.nx (ρ.set i (.own ((ns.erase k).map PyData.int))) x.2) else none
theorem gs_rem (i : Nat) (a : GoodE K te f) : GoodS K W (tDrop (tBM K "list" rRemI (tVar i) (tCons te tNil))) (sRem i f) := fun B M H σ ρ s o ok e D q => by
  obtain ⟨⟨x, s1⟩, e1, e⟩ := bnd e
  obtain ⟨ds, e', e⟩ := bnd e
  obtain ⟨ns, en, e⟩ := bnd e
  obtain ⟨k, ek, e⟩ := bnd e
  have e' := ownAt_eq e'
  have ek := intOf_eq ek
  simp only at ek
  subst ek
  split at e
  · rename_i hk
    cases e
    obtain ⟨p, vs, e2, h1, h2, h3, h4, h5, h6⟩ := ok.own e'
    refine ⟨_, e2, .inl ⟨rfl, _, .inl (.inl h1)⟩, ?_⟩
    refine a B M H σ ρ s _ s1 ok e1 _ fun v H1 M1 t1 r1 => ?_
    cases r1 with
    | int k =>
      obtain ⟨j, hj, hj2, hno, he⟩ := first_at hk
      have hv := intsD_rp h3 en
      have h1' := t1.keep p _ h1 h6
      rw [hv] at h1'
      refine ⟨p, ns, k, j, rfl, rfl, h1', hj2, hno, ?_⟩
      rw [he]
      refine q σ _ M1 ((ok.step t1).write e' e2 ?_ ?_)
      · have := List.length_erase_le (a := k) (l := ns)
        rw [hv, List.length_map] at h2
        rw [List.length_map]; omega
      · exact Rps.ints _
  · cases e
end
end DL

/-! Things of one's own within others: made, changed, handed back. -/
namespace DL
open PySem PySem.Spec PyProof.Rows L2
section
variable {K : PySem.W.Frag} {W : Wish} {B : Bx} {M H M' H' M2 H2 : Hp} {σ : L2.St} {ρ : Env} {s s' s2 : Row} {ta tb tc te tl : TE} {tt : TT} {f g k : SE} {fa fb ga : SA}
theorem foot_imm {v : V} {d : D} : foot H v (.imm d) = [] := by cases v <;> simp only [foot]
theorem foots_imm : ∀ {vs : List V} {ds : List D}, foots H vs (ds.map OT.imm) = []
  | [], [] => by simp only [List.map_nil, foots]
  | _ :: _, [] => by simp only [List.map_nil, foots]
  | [], _ :: _ => by simp only [List.map_cons, foots]
  | v :: vs, d :: ds => by simp only [List.map_cons, foots, foot_imm, foots_imm, List.append_nil]
theorem rps_ow : ∀ {vs : List V} {ds : List D}, Rps K M vs ds → OwPs K M H vs (ds.map OT.imm)
  | _, [], r => by cases r; exact .nil
  | _, d :: ds, r => by cases r with | cons a b => exact .cons (.imm a) (rps_ow b)
theorem datas_imm : ∀ {ds : List D}, OT.datas (ds.map OT.imm) = ds
  | [] => rfl
  | d :: ds => by simp only [List.map_cons, OT.datas, OT.data, datas_imm]
theorem datas_map {ts : List OT} : OT.datas ts = ts.map OT.data := by
  induction ts with
  | nil => rfl
  | cons t ts ih => simp only [OT.datas, ih, List.map_cons]
abbrev ST := Env → Row → Option (OT × Row)
abbrev SAT := Env → Row → Option (List OT × Row)
/-- a new thing of one's own, with things of one's own within -/
def GivesT (K : PySem.W.Frag) (B : Bx) (M H : Hp) (s' : Row) (t : OT) (Q : VK) : Prop :=
  ∀ v H' M', Step K B M H M' H' s' → OwP K M' H' v t → (foot H' v t).Nodup → (∀ a ∈ foot H' v t, M' a = none ∧ H a = none) → Q v H'
def GoodT (K : PySem.W.Frag) (te : TE) (f : ST) : Prop :=
  ∀ (B : Bx) (M H : Hp) (σ : L2.St) (ρ : Env) (s : Row) (t : OT) (s' : Row), Ok K B M H σ ρ s → f ρ s = some (t, s') → ∀ Q : VK, GivesT K B M H s' t Q → te σ H Q
def GoodTs (K : PySem.W.Frag) (ta : TA) (f : SAT) : Prop :=
  ∀ (B : Bx) (M H : Hp) (σ : L2.St) (ρ : Env) (s : Row) (ts : List OT) (s' : Row), Ok K B M H σ ρ s → f ρ s = some (ts, s') → ∀ Q : List V → Hp → Prop,
    (∀ vs H' M', Step K B M H M' H' s' → OwPs K M' H' vs ts → (foots H' vs ts).Nodup → (∀ a ∈ foots H' vs ts, M' a = none ∧ H a = none) → Q vs H') → ta σ H Q
def oE (f : SE) : ST := fun ρ s => (f ρ s).bind fun x => some (.imm x.1, x.2)
def oL (f : SA) : ST := fun ρ s => (f ρ s).bind fun x => some (.lst (x.1.map .imm), x.2)
def oNil : SAT := fun _ s => some ([], s)
def oCons (f : ST) (g : SAT) : SAT := fun ρ s => (f ρ s).bind fun x => (g ρ x.2).bind fun y => some (x.1 :: y.1, y.2)
def oLst (f : SAT) : ST := fun ρ s => (f ρ s).bind fun x => if x.1.length ≤ lim then some (.lst x.1, x.2) else none
def oTup (f : SAT) : ST := fun ρ s => (f ρ s).bind fun x => if x.1.length ≤ lim then some (.tup x.1, x.2) else none
def vT (f : ST) : SV := fun ρ s => (f ρ s).bind fun x => some (.deep x.1, x.2)
theorem gt_e (ha : GoodE K te f) : GoodT K te (oE f) := fun B M H σ ρ s t s' o e Q q => by
  obtain ⟨⟨d, s1⟩, e1, e⟩ := bnd e
  cases e
  exact ha B M H σ ρ s d _ o e1 _ fun v H1 M1 t1 r1 => q v H1 M1 t1 (.imm r1) (by rw [foot_imm]; exact List.nodup_nil) fun a h => by rw [foot_imm] at h; cases h
theorem gt_l (ha : GoodL K te fa) : GoodT K te (oL fa) := fun B M H σ ρ s t s' o e Q q => by
  obtain ⟨⟨d, s1⟩, e1, e⟩ := bnd e
  cases e
  refine ha B M H σ ρ s d _ o e1 _ fun p vs H1 M1 t1 h1 h2 h3 hl r1 => ?_
  have hf : foot H1 (.ref p) (.lst (d.map OT.imm)) = [p] := by simp only [foot, h3, foots_imm]
  exact q _ H1 M1 t1 (.lst h3 hl (rps_ow r1)) (by rw [hf]; simp) fun a h => by
    rw [hf] at h
    have : a = p := by simpa using h
    rw [this]; exact ⟨h2, h1⟩
theorem gts_nil : GoodTs K tNil oNil := fun B M H σ ρ s t s' o e Q q => by
  cases e
  exact q [] H M o.refl .nil (by simp only [foots]; exact List.nodup_nil) fun a h => by simp only [foots] at h; cases h
/-- what stands by itself stays behind a step -/
theorem stays (o : Ok K B M H σ ρ s) {a : Addr} (h0 : H a = none) (h1 : M' a = none) {u : HO} (hl : H' a = some u) (t2 : Step K B M' H' M2 H2 s2) : H2 a = H' a ∧ M2 a = none := by
  refine ⟨by rw [t2.keep a u hl (o.rne h0), hl], ?_⟩
  cases z : M2 a with
  | none => rfl
  | some w =>
    rcases t2.fresh a w z with z1 | z1
    · rw [h1] at z1; cases z1
    · rw [hl] at z1; cases z1
theorem gts_cons {t : TA} {ft : ST} {fts : SAT} (ha : GoodT K ta ft) (hr : GoodTs K t fts) : GoodTs K (tCons ta t) (oCons ft fts) := fun B M H σ ρ s ts s' o e Q q => by
  obtain ⟨⟨x, s1⟩, e1, e⟩ := bnd e
  obtain ⟨⟨y, s2⟩, e2, e⟩ := bnd e
  cases e
  refine ha B M H σ ρ s x s1 o e1 _ fun v H1 M1 t1 h1 n1 f1 => ?_
  refine hr B M1 H1 σ ρ s1 y s2 (o.step t1) e2 _ fun vs H2 M2 t2 h2 n2 f2 => ?_
  have live := foot_live x v h1
  have st : ∀ a ∈ foot H1 v x, H2 a = H1 a ∧ M2 a = none := fun a h => by
    obtain ⟨u, hu⟩ := live a h
    exact stays o (f1 a h).2 (f1 a h).1 hu t2
  have fe : foot H2 v x = foot H1 v x := foot_same x v h1 fun a h => (st a h).1
  refine q _ H2 M2 (t1.trans t2) (.cons (OwP.mono t2.mm x v h1 fun a h => (st a h).1) h2) ?_ fun a h => ?_
  · simp only [foots]
    rw [fe]
    refine List.nodup_append.mpr ⟨n1, n2, fun a h3 b h4 e => ?_⟩
    subst e
    obtain ⟨u, hu⟩ := live a h3
    rw [(f2 a h4).2] at hu; cases hu
  · simp only [foots, List.mem_append] at h
    rcases h with h | h
    · rw [fe] at h
      exact ⟨(st a h).2, (f1 a h).2⟩
    · exact ⟨(f2 a h).1, t1.free (f2 a h).2⟩
theorem lay_owps {ts : List OT} {vs : List V} {p : Addr} {u : HO} (h : OwPs K M H vs ts) (hp : H p = none) : OwPs K M (upd H p u) vs ts ∧ foots (upd H p u) vs ts = foots H vs ts ∧ p ∉ foots H vs ts := by
  have ne : ∀ a ∈ foots H vs ts, upd H p u a = H a := fun a ha => by
    obtain ⟨w, hw⟩ := foots_live ts vs h a ha
    rw [upd_ne (ne_of_none hw hp)]
  refine ⟨OwPs.mono (fun _ _ z => z) ts vs h ne, foots_same ts vs h ne, fun ha => ?_⟩
  obtain ⟨w, hw⟩ := foots_live ts vs h p ha
  rw [hp] at hw; cases hw
theorem OwPs.len {ts : List OT} {vs : List V} (h : OwPs K M H vs ts) : vs.length = ts.length := OwPs.length h
theorem gt_lst {t : TA} {fts : SAT} (ha : GoodTs K t fts) : GoodT K (tLst t) (oLst fts) := fun B M H σ ρ s d s' o e Q q => by
  obtain ⟨⟨ts, s1⟩, e1, e⟩ := bnd e
  simp only at e
  split at e
  · rename_i hl
    cases e
    refine ha B M H σ ρ s ts _ o e1 _ fun vs H1 M1 t1 h1 n1 f1 => ⟨lim_le (by rw [h1.len]; exact hl), fun p hp => ?_⟩
    obtain ⟨g1, g2, g3⟩ := lay_owps (u := .lst vs) h1 hp
    have t2 := Step.lay (o := .lst vs) t1.sub t1.row hp
    have hf : foot (upd H1 p (.lst vs)) (.ref p) (.lst ts) = p :: foots H1 vs ts := by simp only [foot, upd_same, g2]
    refine q _ _ M1 (t1.trans t2) (.lst upd_same (by rw [h1.len]; exact hl) g1) (by rw [hf]; exact List.nodup_cons.mpr ⟨g3, n1⟩) fun a h => ?_
    rw [hf] at h
    rcases List.mem_cons.mp h with rfl | h
    · exact ⟨t1.sub.free hp, t1.free hp⟩
    · exact f1 a h
  · cases e
theorem gt_tup {t : TA} {fts : SAT} (ha : GoodTs K t fts) : GoodT K (tTup t) (oTup fts) := fun B M H σ ρ s d s' o e Q q => by
  obtain ⟨⟨ts, s1⟩, e1, e⟩ := bnd e
  simp only at e
  split at e
  · rename_i hl
    cases e
    refine ha B M H σ ρ s ts _ o e1 _ fun vs H1 M1 t1 h1 n1 f1 => ⟨lim_le (by rw [h1.len]; exact hl), fun p hp => ?_⟩
    obtain ⟨g1, g2, g3⟩ := lay_owps (u := .tup vs) h1 hp
    have t2 := Step.lay (o := .tup vs) t1.sub t1.row hp
    have hf : foot (upd H1 p (.tup vs)) (.ref p) (.tup ts) = p :: foots H1 vs ts := by simp only [foot, upd_same, g2]
    refine q _ _ M1 (t1.trans t2) (.tup upd_same (by rw [h1.len]; exact hl) g1) (by rw [hf]; exact List.nodup_cons.mpr ⟨g3, n1⟩) fun a h => ?_
    rw [hf] at h
    rcases List.mem_cons.mp h with rfl | h
    · exact ⟨t1.sub.free hp, t1.free hp⟩
    · exact f1 a h
  · cases e
theorem gv_t {ft : ST} (ha : GoodT K te ft) : GoodV K te (vT ft) := fun B M H σ ρ s x s' o e Q q => by
  obtain ⟨⟨t, s1⟩, e1, e⟩ := bnd e
  cases e
  exact ha B M H σ ρ s t _ o e1 _ fun v H1 M1 t1 h1 n1 f1 => q v H1 M1 t1 ⟨h1, n1, fun a h => ⟨(f1 a h).1, o.hfree (f1 a h).2, o.rne (f1 a h).2⟩⟩ fun a h => (f1 a (by simpa [footS] using h)).2
/-! ### [.. for ..] of new things -/
def compT (h : SG) (fe : ST) (ρ : Env) : List D → Row → Option (List OT × Row)
  | [], s => some ([], s)
  | d :: ds, s => (h d ρ).bind fun ρ1 => (fe ρ1 s).bind fun x => (compT h fe ρ ds x.2).bind fun y => some (x.1 :: y.1, y.2)
def oComp (fi : SA) (h : SG) (fe : ST) (vs : List Nat) : ST := fun ρ s => (fi ρ s).bind fun x => (compT h fe (wipeE ρ vs) x.1 x.2).bind fun y => some (.lst y.1, y.2)
theorem compT_len {h : SG} {fe : ST} {ρ : Env} : ∀ {ds : List D} {s s' : Row} {es : List OT}, compT h fe ρ ds s = some (es, s') → es.length = ds.length
  | [], s, s', es, e => by cases e; rfl
  | d :: ds, s, s', es, e => by
    obtain ⟨ρ1, e1, e⟩ := bnd e
    obtain ⟨x, e3, e⟩ := bnd e
    obtain ⟨y, e4, e⟩ := bnd e
    cases e
    have := compT_len (es := y.1) (s' := y.2) e4
    simpa using this
theorem wipe_twice (τ : L2.St) (us : List Nat) : L2.wipe (L2.wipe τ us) us = L2.wipe τ us := by
  have key : ∀ (us2 : List Nat), (∀ i, i ∈ us2 → i ∈ us) → L2.wipe (L2.wipe τ us2) us = L2.wipe τ us := fun us2 => by
    induction us2 with
    | nil => intro _; rfl
    | cons v us2 ih =>
      intro hh
      show L2.wipe ((L2.wipe τ us2).set v none) us = _
      rw [wipe_set (hh v (by simp))]
      exact ih fun i hi => hh i (List.mem_cons_of_mem _ hi)
  exact key us fun _ h => h
theorem gt_comp {wi : TI} {fi : SA} {tg : TG} {h : SG} {ws vs : List Nat} {fe : ST} (hi : GoodC K wi fi) (hg : GoodG K tg h ws) (hw : ∀ i, i ∈ ws → i ∈ vs) (he : GoodT K te fe) :
    GoodT K (tLc wi tg tYes te vs) (oComp fi h fe vs) := fun B M H σ ρ s out s' o e Q q => by
  obtain ⟨⟨ds, s1⟩, e1, e⟩ := bnd e
  obtain ⟨⟨out', s3⟩, e2, e⟩ := bnd e
  obtain ⟨rfl, rfl⟩ : OT.lst out' = out ∧ s3 = s' := by cases e; exact ⟨rfl, rfl⟩
  simp only at e2
  refine hi B M H σ ρ s ds s1 o e1 _ fun J H1 M1 t1 ⟨hlen, G, Y, w, stab, it⟩ D hD => ?_
  have oH : H D = none := t1.free hD
  have rD : ¬ B.r.mem D := o.rne oH
  have mD : M1 D = none := t1.sub.free hD
  refine lc_it w (fun i Hc => ∃ Mc sc acc pre rst, Same M1 Mc ∧ Same Mc Hc ∧ Keep B H1 Hc ∧ (∀ a u, Mc a = some u → M1 a = some u ∨ H1 a = none) ∧ RowOk K B.r Mc Hc sc ∧
    Hc D = some (.lst acc) ∧ acc.length = i ∧ OwPs K Mc Hc acc pre ∧ Mc D = none ∧ compT h fe (wipeE ρ vs) (ds.drop i) sc = some (rst, s3) ∧ pre ++ rst = out' ∧
    (foots Hc acc pre).Nodup ∧ ∀ a ∈ foots Hc acc pre, Mc a = none ∧ H a = none ∧ a ≠ D) ?_ ?_ ?_ ?_
  · have t2 := Step.lay (o := .lst []) t1.sub t1.row hD
    exact ⟨M1, s1, [], [], out', fun _ _ h => h, t2.sub, t2.keep, fun _ _ h => .inl h, t2.row, upd_same, rfl, .nil, mD, e2, rfl, by simp only [foots]; exact List.nodup_nil, fun a h => by simp only [foots] at h; cases h⟩
  · rintro i Hc hi' ⟨Mc, sc, acc, pre, rst, c1, c2, c3, c4, c5, c6, c7, c8, c9, c10, c11, c12, c13⟩
    exact stab Hc c3
  · rintro i x Hc Hn hlt ⟨Mc, sc, acc, pre, rst, c1, c2, c3, c4, c5, c6, c7, c8, c9, c10, c11, c12, c13⟩ y
    have hd : ds[i]? = some ds[i] := List.getElem?_eq_getElem hlt
    have e0 : ds.drop i = ds[i] :: ds.drop (i + 1) := List.drop_eq_getElem_cons hlt
    rw [e0] at c10
    obtain ⟨ρ1, e3, c10⟩ := bnd c10
    obtain ⟨⟨z, sz⟩, e4, c10⟩ := bnd c10
    obtain ⟨⟨rst2, s5⟩, e5, c10⟩ := bnd c10
    cases c10
    have tc : Step K B M1 H1 Mc Hc sc := ⟨c1, c2, c3, c4, c5⟩
    obtain ⟨Mn, tn, rx⟩ := it i x Hc Hn Mc ds[i] sc hd c1 c2 c3 c5 y
    have ok0 : Ok K B Mn Hn σ ρ sc := ((o.step t1).step tc).step tn
    have hDc : Hc D = some (.lst acc) := c6
    have hDn : Hn D = some (.lst acc) := tn.keep D _ c6 rD
    have mDn : Mn D = none := by
      cases q : Mn D with
      | none => rfl
      | some u =>
        rcases tn.fresh D u q with z1 | z1
        · rw [c9] at z1; cases z1
        · rw [hDc] at z1; cases z1
    refine hg B Mn Hn (L2.wipe σ vs) (wipeE ρ vs) ρ1 sc x ds[i] (ok0.wipe vs) rx e3 _ fun σ2 o2 w2 => ?_
    refine ⟨?_, ?_⟩
    · rw [w2 vs hw]
      exact wipe_twice σ vs
    show te σ2 Hn _
    refine he B Mn Hn σ2 ρ1 sc z sz o2 e4 _ fun v H4 M4 t4 h4 n4 f4 => ?_
    have tt := tn.trans t4
    have hD4 : H4 D = some (.lst acc) := t4.keep D _ hDn rD
    have mD4 : M4 D = none := by
      cases q : M4 D with
      | none => rfl
      | some u =>
        rcases t4.fresh D u q with z1 | z1
        · rw [mDn] at z1; cases z1
        · rw [hDn] at z1; cases z1
    have T4 := tc.trans tt
    have st : ∀ a ∈ foots Hc acc pre, H4 a = Hc a ∧ M4 a = none := fun a ha => by
      obtain ⟨u, hu⟩ := foots_live pre acc c8 a ha
      exact stays o (c13 a ha).2.1 (c13 a ha).1 hu tt
    have fe1 : foots H4 acc pre = foots Hc acc pre := foots_same pre acc c8 fun a ha => (st a ha).1
    have own4 : OwPs K M4 H4 acc pre := OwPs.mono tt.mm pre acc c8 fun a ha => (st a ha).1
    have hDf : D ∉ foot H4 v z := fun ha => by
      have := (f4 D ha).2
      rw [hDn] at this; cases this
    have app : ∀ {vs : List V} {ts : List OT}, OwPs K M4 H4 vs ts → OwPs K M4 H4 (vs ++ [v]) (ts ++ [z]) ∧ foots H4 (vs ++ [v]) (ts ++ [z]) = foots H4 vs ts ++ foot H4 v z := fun {vs ts} hh => by
      induction ts generalizing vs with
      | nil =>
        cases hh
        exact ⟨.cons h4 .nil, by simp [foots]⟩
      | cons t ts ih =>
        cases hh with
        | cons a b =>
          obtain ⟨i1, i2⟩ := ih b
          exact ⟨.cons a i1, by simp only [List.cons_append, foots, i2, List.append_assoc]⟩
    obtain ⟨own5, fe2⟩ := app own4
    have ne5 : ∀ a ∈ foots H4 (acc ++ [v]) (pre ++ [z]), upd H4 D (.lst (acc ++ [v])) a = H4 a := fun a ha => by
      rw [fe2, fe1] at ha
      have : a ≠ D := by
        rcases List.mem_append.mp ha with h | h
        · exact (c13 a h).2.2
        · exact fun q => hDf (q ▸ h)
      rw [upd_ne this]
    have fe3 : foots (upd H4 D (.lst (acc ++ [v]))) (acc ++ [v]) (pre ++ [z]) = foots Hc acc pre ++ foot H4 v z := by rw [foots_same _ _ own5 ne5, fe2, fe1]
    have hb : acc.length < lim := by omega
    refine ⟨acc, hD4, lim_lt hb, M4, sz, acc ++ [v], pre ++ [z], rst2, T4.mm, fun a u ha => ?_, fun a u ha hr => ?_, T4.fresh, ?_, upd_same, by simp [c7], OwPs.mono (fun _ _ z => z) _ _ own5 ne5, mD4, e5, by rw [← c11]; simp, ?_, fun a ha => ?_⟩
    · rw [upd_ne (ne_of_none ha mD4)]; exact T4.sub a u ha
    · rw [upd_ne (ne_of_none ha hD)]; exact T4.keep a u ha hr
    · exact B.r.keep T4.row (fun _ _ h => h) (fun a ha => (B.r.live T4.row ha).1) (fun a w ha h => by
        have : a ≠ D := fun z => rD (z ▸ ha)
        rw [upd_ne this]; exact h) (codeKept_upd fun u hu => by rw [hD4] at hu; cases hu; exact code_lst)
    · rw [fe3]
      refine List.nodup_append.mpr ⟨c12, n4, fun a h3 b h5 e => ?_⟩
      subst e
      obtain ⟨u, hu⟩ := foots_live pre acc c8 a h3
      have := tn.keep a u hu (o.rne (c13 a h3).2.1)
      rw [(f4 a h5).2] at this; cases this
    · rw [fe3] at ha
      rcases List.mem_append.mp ha with h | h
      · exact ⟨(st a h).2, (c13 a h).2⟩
      · exact ⟨(f4 a h).1, t1.free (tc.free (tn.free (f4 a h).2)), fun q => hDf (q ▸ h)⟩
  · rintro Hc ⟨Mc, sc, acc, pre, rst, c1, c2, c3, c4, c5, c6, c7, c8, c9, c10, c11, c12, c13⟩
    rw [List.drop_eq_nil_of_le (Nat.le_refl _)] at c10
    cases c10
    rw [List.append_nil] at c11
    subst c11
    have tc : Step K B M1 H1 Mc Hc _ := ⟨c1, c2, c3, c4, c5⟩
    have hf : foot Hc (.ref D) (.lst pre) = D :: foots Hc acc pre := by simp only [foot, c6]
    refine q _ Hc Mc (t1.trans tc) (.lst c6 (by omega) c8) (by rw [hf]; exact List.nodup_cons.mpr ⟨fun h => (c13 D h).2.2 rfl, c12⟩) fun a h => ?_
    rw [hf] at h
    rcases List.mem_cons.mp h with rfl | h
    · exact ⟨c9, oH⟩
    · exact ⟨(c13 a h).1, (c13 a h).2.1⟩
end
end DL

/-! Things of one's own within others, further: changes within, returns, calls; the bundles of DL19 and DL20. -/
namespace DL
open PySem PySem.Spec PyProof.Rows L2
section
variable {K : PySem.W.Frag} {W : Wish} {B : Bx} {M H M' H' M2 H2 : Hp} {σ : L2.St} {ρ : Env} {s s' s2 : Row} {ta tb tc te tl : TE} {tt : TT} {f g k : SE} {fa fb ga : SA}
/-- a list within is changed; what it holds of its own stays -/
theorem foots_set {us us' : List OT} {ws ws' : List V} {q : Addr} (hq : H q = some (.lst ws)) (hw : OwPs K M H ws' us') (hf : foots H ws' us' = foots H ws us) (hl : ws'.length ≤ lim) :
    ∀ {ts : List OT} {vs : List V} {k : Nat}, OwPs K M H vs ts → (foots H vs ts).Nodup → ts[k]? = some (.lst us) → vs[k]? = some (.ref q) →
      OwPs K M (upd H q (.lst ws')) vs (ts.set k (.lst us')) ∧ foots (upd H q (.lst ws')) vs (ts.set k (.lst us')) = foots H vs ts
  | [], _, k, h, _, e, _ => by simp at e
  | t :: ts, _, 0, h, nd, e1, e2 => by
    cases h with
    | @cons v vs _ _ a b =>
      have e1 : t = .lst us := by simpa using e1
      have e2 : v = .ref q := by simpa using e2
      subst e1 e2
      have hh : foot H (.ref q) (.lst us) = q :: foots H ws us := by simp only [foot, hq]
      simp only [foots, hh] at nd
      have nd1 : q ∉ foots H ws us ∧ q ∉ foots H vs ts := by
        simp at nd
        exact nd.1
      have n1 : ∀ c ∈ foots H ws' us', upd H q (.lst ws') c = H c := fun c hc => by
        rw [hf] at hc
        exact upd_ne fun z => nd1.1 (z ▸ hc)
      have n2 : ∀ c ∈ foots H vs ts, upd H q (.lst ws') c = H c := fun c hc => upd_ne fun z => nd1.2 (z ▸ hc)
      simp only [List.set_cons_zero]
      refine ⟨.cons (.lst upd_same hl (OwPs.mono (fun _ _ z => z) _ _ hw n1)) (OwPs.mono (fun _ _ z => z) _ _ b n2), ?_⟩
      simp only [foots, hh]
      rw [foots_same ts vs b n2]
      simp only [foot, upd_same]
      rw [foots_same us' ws' hw n1, hf]
  | t :: ts, _, k + 1, h, nd, e1, e2 => by
    cases h with
    | @cons v vs _ _ a b =>
      simp only [foots] at nd
      obtain ⟨d1, d2, d3⟩ := List.nodup_append.mp nd
      obtain ⟨i1, i2⟩ := foots_set hq hw hf hl b d2 (by simpa using e1) (by simpa using e2)
      have qin : q ∈ foots H vs ts := by
        have key : ∀ {ts : List OT} {vs : List V} {k : Nat}, OwPs K M H vs ts → ts[k]? = some (.lst us) → vs[k]? = some (.ref q) → q ∈ foots H vs ts := by
          intro ts
          induction ts with
          | nil => intro vs k _ e; simp at e
          | cons t ts ih =>
            intro vs k h e1 e2
            cases h with
            | @cons v vs _ _ a b =>
              cases k with
              | zero =>
                have e1 : t = .lst us := by simpa using e1
                have e2 : v = .ref q := by simpa using e2
                subst e1 e2
                simp [foots, foot]
              | succ k => simp only [foots, List.mem_append]; exact .inr (ih b (by simpa using e1) (by simpa using e2))
        exact key b (by simpa using e1) (by simpa using e2)
      have n1 : ∀ c ∈ foot H v t, upd H q (.lst ws') c = H c := fun c hc => upd_ne fun z => d3 c hc q qin z
      simp only [List.set_cons_succ]
      refine ⟨.cons (OwP.mono (fun _ _ z => z) _ _ a n1) i1, ?_⟩
      simp only [foots]
      rw [foot_same t v a n1, i2]
def kids : OT → Option (List OT)
  | .lst ts => some ts | .tup ts => some ts | .imm _ => none
def OT.upK (t : OT) (k : Nat) (t' : OT) : OT := match t with
  | .lst ts => .lst (ts.set k t') | .tup ts => .tup (ts.set k t') | t => t
def deepAt (ρ : Env) (i : Nat) : Option OT := match ρ[i]? with | some (.deep t) => some t | _ => none
theorem deepAt_eq {ρ : Env} {i : Nat} {t : OT} (h : deepAt ρ i = some t) : ρ[i]? = some (.deep t) := by
  unfold deepAt at h
  split at h
  · cases h; assumption
  · cases h
def lstOT : OT → Option (List OT)
  | .lst ts => some ts | _ => none
/-- a slot's thing: a list within it is changed -/
theorem Ok.inner (o : Ok K B M H σ ρ s) {i k : Nat} {t : OT} {ts us us' : List OT} {ws ws' : List V} {p q : Addr} {vs : List V} (e' : ρ[i]? = some (.deep t)) (ek : kids t = some ts) (e1 : σ[i]? = some (some (.ref p)))
    (hp : H p = some (.lst vs) ∨ H p = some (.tup vs)) (hk : ts[k]? = some (.lst us)) (hv : vs[k]? = some (.ref q)) (hq : H q = some (.lst ws)) (hw : OwPs K M H ws' us') (hf : foots H ws' us' = foots H ws us) (hl : ws'.length ≤ lim) :
    Ok K B M (upd H q (.lst ws')) σ (ρ.set i (.deep (t.upK k (.lst us')))) s := by
  obtain ⟨v, b1, h1, h2, h3⟩ := o.deep e'
  rw [e1] at b1
  cases b1
  have main : ∃ hh : OwPs K M H vs ts, q ∈ foot H (.ref p) t ∧ OwP K M (upd H q (.lst ws')) (.ref p) (t.upK k (.lst us')) ∧ foot (upd H q (.lst ws')) (.ref p) (t.upK k (.lst us')) = foot H (.ref p) t := by
    have qin : ∀ {ts : List OT} {vs : List V} {k : Nat}, OwPs K M H vs ts → ts[k]? = some (.lst us) → vs[k]? = some (.ref q) → q ∈ foots H vs ts := by
      intro ts
      induction ts with
      | nil => intro vs k _ e; simp at e
      | cons t ts ih =>
        intro vs k h e1 e2
        cases h with
        | @cons v vs _ _ a b =>
          cases k with
          | zero =>
            have e1 : t = .lst us := by simpa using e1
            have e2 : v = .ref q := by simpa using e2
            subst e1 e2
            simp [foots, foot]
          | succ k => simp only [foots, List.mem_append]; exact .inr (ih b (by simpa using e1) (by simpa using e2))
    cases t with
    | imm d => cases ek
    | lst ts' =>
      cases ek
      cases h1 with
      | @lst _ vs' _ z1 z2 z3 =>
        have : vs' = vs := by rcases hp with hp | hp <;> rw [z1] at hp <;> cases hp; rfl
        subst this
        have hfp : foot H (.ref p) (.lst ts) = p :: foots H vs' ts := by simp only [foot, z1]
        rw [hfp] at h2
        obtain ⟨g1, g2⟩ := List.nodup_cons.mp h2
        have hqi := qin z3 hk hv
        obtain ⟨i1, i2⟩ := foots_set hq hw hf hl z3 g2 hk hv
        have hne : p ≠ q := fun z => g1 (z ▸ hqi)
        refine ⟨z3, by rw [hfp]; exact List.mem_cons_of_mem _ hqi, .lst (by rw [upd_ne hne]; exact z1) z2 i1, ?_⟩
        simp only [OT.upK, foot, upd_ne hne, z1, i2]
    | tup ts' =>
      cases ek
      cases h1 with
      | @tup _ vs' _ z1 z2 z3 =>
        have : vs' = vs := by rcases hp with hp | hp <;> rw [z1] at hp <;> cases hp; rfl
        subst this
        have hfp : foot H (.ref p) (.tup ts) = p :: foots H vs' ts := by simp only [foot, z1]
        rw [hfp] at h2
        obtain ⟨g1, g2⟩ := List.nodup_cons.mp h2
        have hqi := qin z3 hk hv
        obtain ⟨i1, i2⟩ := foots_set hq hw hf hl z3 g2 hk hv
        have hne : p ≠ q := fun z => g1 (z ▸ hqi)
        refine ⟨z3, by rw [hfp]; exact List.mem_cons_of_mem _ hqi, .tup (by rw [upd_ne hne]; exact z1) z2 i1, ?_⟩
        simp only [OT.upK, foot, upd_ne hne, z1, i2]
  obtain ⟨_, m1, m2, m3⟩ := main
  refine o.change e' (by rw [e1]; simp [footS]; exact m1) ?_ ?_
  · rw [e1]
    exact ⟨m2, by rw [m3]; exact h2, fun a ha => h3 a (by rw [m3] at ha; exact ha)⟩
  · rw [e1]
    intro a ha
    have ha : a ∈ foot (upd H q (.lst ws')) (.ref p) (t.upK k (.lst us')) := by simpa [footS] using ha
    rw [m3] at ha
    simpa [footS] using ha
theorem owps_get : ∀ {ts : List OT} {vs : List V} {i : Nat} {t : OT}, OwPs K M H vs ts → ts[i]? = some t → ∃ v, vs[i]? = some v ∧ OwP K M H v t
  | [], _, i, t, h, e => by simp at e
  | t0 :: ts, _, 0, t, h, e => by cases h with | cons a b => simp at e; subst e; exact ⟨_, rfl, a⟩
  | t0 :: ts, _, i + 1, t, h, e => by
    cases h with
    | cons a b =>
      obtain ⟨v, h1, h2⟩ := owps_get (i := i) (t := t) b (by simpa using e)
      exact ⟨v, by simpa using h1, h2⟩
/-- where a thing's kids stand -/
theorem kids_at {v : V} {t : OT} {ts : List OT} (h : OwP K M H v t) (ek : kids t = some ts) : ∃ p vs, v = .ref p ∧ (H p = some (.lst vs) ∨ H p = some (.tup vs)) ∧ vs.length ≤ lim ∧ OwPs K M H vs ts ∧ p ∈ foot H v t ∧ ∀ a ∈ foots H vs ts, a ∈ foot H v t := by
  cases t with
  | imm d => cases ek
  | lst ts' =>
    cases ek
    cases h with
    | @lst p vs _ a b c => exact ⟨p, vs, rfl, .inl a, b, c, by simp [foot], fun z hz => by simp only [foot, a, List.mem_cons]; exact .inr hz⟩
  | tup ts' =>
    cases ek
    cases h with
    | @tup p vs _ a b c => exact ⟨p, vs, rfl, .inr a, b, c, by simp [foot], fun z hz => by simp only [foot, a, List.mem_cons]; exact .inr hz⟩
theorem foots_sub : ∀ {ts : List OT} {vs : List V} {k : Nat} {us : List OT} {q : Addr} {ws : List V}, OwPs K M H vs ts → ts[k]? = some (.lst us) → vs[k]? = some (.ref q) → H q = some (.lst ws) → q ∈ foots H vs ts ∧ ∀ a ∈ foots H ws us, a ∈ foots H vs ts
  | [], _, k, us, q, ws, h, e, _, _ => by simp at e
  | t :: ts, _, 0, us, q, ws, h, e1, e2, e3 => by
    cases h with
    | @cons v vs _ _ a b =>
      have e1 : t = .lst us := by simpa using e1
      have e2 : v = .ref q := by simpa using e2
      subst e1 e2
      have hh : foot H (.ref q) (.lst us) = q :: foots H ws us := by simp only [foot, e3]
      simp only [foots, hh]
      exact ⟨by simp, fun a ha => by simp [ha]⟩
  | t :: ts, _, k + 1, us, q, ws, h, e1, e2, e3 => by
    cases h with
    | @cons v vs _ _ a b =>
      obtain ⟨i1, i2⟩ := foots_sub b (by simpa using e1) (by simpa using e2) e3
      simp only [foots, List.mem_append]
      exact ⟨.inr i1, fun a ha => .inr (i2 a ha)⟩
/-- behind a step a slot's thing still stands -/
theorem Ok.deepStep (o : Ok K B M H σ ρ s) {i : Nat} {t : OT} (e' : ρ[i]? = some (.deep t)) (t1 : Step K B M H M' H' s') : ∃ v, σ[i]? = some (some v) ∧ OwP K M' H' v t ∧ (foot H' v t).Nodup ∧ (∀ a ∈ foot H' v t, ¬ B.r.mem a) := by
  obtain ⟨v, b1, h1, h2, h3⟩ := (o.step t1).deep e'
  exact ⟨v, b1, h1, h2, fun a ha => (h3 a ha).2.2⟩
/-- xs[i].append(e) -/
def sDeepApp (i : Nat) (g f : SE) : SS := fun ρ s => (g ρ s).bind fun y => (f ρ y.2).bind fun x => (deepAt ρ i).bind fun t => (kids t).bind fun ts => (intOf y.1).bind fun k => (ixN ts.length k).bind fun j => (ts[j]?).bind fun u => (lstOT u).bind fun us =>
  if us.length < lim then some (.nx (ρ.set i (.deep (t.upK j (.lst (us ++ [.imm x.1]))))) x.2) else none
theorem lstOT_eq {u : OT} {us : List OT} (h : lstOT u = some us) : u = .lst us := by cases u <;> first | (cases h; done) | (cases h; rfl)
theorem foots_snoc : ∀ {vs : List V} {ts : List OT} {v : V} {d : D}, OwPs K M H vs ts → foots H (vs ++ [v]) (ts ++ [.imm d]) = foots H vs ts
  | _, [], v, d, h => by cases h; simp [foots, foot_imm]
  | _, t :: ts, v, d, h => by cases h with | cons a b => simp only [List.cons_append, foots, foots_snoc b]
theorem owps_snoc : ∀ {vs : List V} {ts : List OT} {v : V} {d : D}, OwPs K M H vs ts → Rp K M v d → OwPs K M H (vs ++ [v]) (ts ++ [.imm d])
  | _, [], v, d, h, r => by cases h; exact .cons (.imm r) .nil
  | _, t :: ts, v, d, h, r => by cases h with | cons a b => exact .cons a (owps_snoc b r)
theorem atI_of {vs : List V} {k : Int} {j n : Nat} (hn : vs.length = n) (h : ixN n k = some j) : atI vs k = vs[j]? := by
  unfold atI
  rw [hn, h]; rfl
theorem gs_deepApp (i : Nat) (b : GoodE K tb g) (a : GoodE K ta f) : GoodS K W (tDrop (tBM K "list" rAppend (tOp (rIx K) (tVar i) tb) (tCons ta tNil))) (sDeepApp i g f) := fun B M H σ ρ s o ok e D q => by
  obtain ⟨⟨y, s1⟩, e1, e⟩ := bnd e
  obtain ⟨⟨x, s2⟩, e2, e⟩ := bnd e
  obtain ⟨t, e', e⟩ := bnd e
  obtain ⟨ts, ek, e⟩ := bnd e
  obtain ⟨k, ei, e⟩ := bnd e
  obtain ⟨j, ej, e⟩ := bnd e
  obtain ⟨u, eu, e⟩ := bnd e
  obtain ⟨us, el, eF⟩ := bnd e
  have e' := deepAt_eq e'
  have ei := intOf_eq ei
  have el := lstOT_eq el
  simp only at ei
  subst ei el
  split at eF
  · rename_i hlt
    cases eF
    obtain ⟨v0, b0, w1, w2, w3⟩ := ok.deep e'
    refine ⟨v0, b0, ?_⟩
    refine b B M H σ ρ s _ s1 ok e1 _ fun vy H1 M1 t1 r1 => ?_
    cases r1 with
    | int k =>
      obtain ⟨v, b1, h1, h2, h3⟩ := ok.deepStep e' t1
      rw [b0] at b1
      cases b1
      obtain ⟨p, vs, rfl, hp, hl, hk, hpi, hsub⟩ := kids_at h1 ek
      obtain ⟨vq, hv, hvq⟩ := owps_get hk eu
      obtain ⟨q', ws, rfl, hq, hlq, hkq, _, _⟩ := kids_at hvq (rfl : kids (.lst us) = some us)
      have hq : H1 q' = some (.lst ws) := by
        cases hvq with
        | lst z1 z2 z3 => rcases hq with hq | hq <;> rw [z1] at hq <;> cases hq; exact z1
      have hat : atI vs k = some (.ref q') := by rw [atI_of hk.len ej]; exact hv
      obtain ⟨f1, f2⟩ := foots_sub hk eu hv hq
      have fin : tyV K "list" (.ref q') H1 ∧ (tCons ta tNil σ H1 fun xs H2 => rAppend (.ref q') xs H2 fun _ H3 => D.nx σ H3) := by
        refine ⟨.inl ⟨rfl, _, .inl (.inl hq)⟩, ?_⟩
        refine a B M1 H1 σ ρ s1 x s2 (ok.step t1) e2 _ fun vx H2 M2 t2 r2 => ?_
        have T := t1.trans t2
        obtain ⟨v, b1, h1', h2', h3'⟩ := ok.deepStep e' T
        rw [b0] at b1
        cases b1
        have hqn : ¬ B.r.mem q' := h3 q' (hsub q' f1)
        have hq2 : H2 q' = some (.lst ws) := t2.keep q' _ hq hqn
        have same : ∀ c ∈ foot H1 (.ref p) t, H2 c = H1 c := fun c hc => by
          obtain ⟨w, hw⟩ := foot_live t _ h1 c hc
          rw [t2.keep c w hw (h3 c hc), hw]
        have hp2 : H2 p = some (.lst vs) ∨ H2 p = some (.tup vs) := by rw [same p hpi]; exact hp
        have hkq2 : OwPs K M2 H2 ws us := OwPs.mono t2.mm us ws hkq fun c hc => same c (hsub c (f2 c hc))
        refine ⟨q', ws, vx, rfl, rfl, hq2, lim_lt (by rw [hkq.len]; exact hlt), ?_⟩
        exact q σ _ M2 ((ok.step T).inner e' ek b0 hp2 eu hv hq2 (owps_snoc hkq2 r2) (foots_snoc hkq2) (by rw [List.length_append, hkq.len]; simp; omega))
      rcases hp with hp | hp
      · exact .inl ⟨p, vs, k, .ref q', rfl, rfl, .inl (.inl hp), hat, fin⟩
      · exact .inr (.inl ⟨p, vs, k, .ref q', rfl, rfl, .inl (.inl hp), hat, fin⟩)
  · cases eF
/-- xs[i][j] = e -/
def sDeepSet (i : Nat) (g h f : SE) : SS := fun ρ s => (f ρ s).bind fun x => (g ρ x.2).bind fun y => (h ρ y.2).bind fun z => (deepAt ρ i).bind fun t => (kids t).bind fun ts => (intOf y.1).bind fun k => (ixN ts.length k).bind fun j => (ts[j]?).bind fun u => (lstOT u).bind fun us =>
  (intOf z.1).bind fun m => (ixN us.length m).bind fun n => match us[n]? with | some (.imm _) => some (.nx (ρ.set i (.deep (t.upK j (.lst (us.set n (.imm x.1)))))) z.2) | _ => none
theorem owps_set : ∀ {ts : List OT} {vs : List V} {n : Nat} {v : V} {d d0 : D}, OwPs K M H vs ts → ts[n]? = some (.imm d0) → Rp K M v d → OwPs K M H (vs.set n v) (ts.set n (.imm d)) ∧ foots H (vs.set n v) (ts.set n (.imm d)) = foots H vs ts
  | [], _, n, v, d, d0, h, e, r => by simp at e
  | t :: ts, _, 0, v, d, d0, h, e, r => by
    cases h with
    | cons a b =>
      have e : t = .imm d0 := by simpa using e
      subst e
      exact ⟨.cons (.imm r) b, by simp only [List.set_cons_zero, foots, foot_imm]⟩
  | t :: ts, _, n + 1, v, d, d0, h, e, r => by
    cases h with
    | cons a b =>
      obtain ⟨i1, i2⟩ := owps_set b (by simpa using e) r
      exact ⟨.cons a i1, by simp only [List.set_cons_succ, foots, i2]⟩
theorem gs_deepSet (i : Nat) (b : GoodE K tb g) (c : GoodE K tc k) (a : GoodE K ta f) : GoodS K W (tAsg ta (gSub (tOp (rIx K) (tVar i) tb) tc rSetL)) (sDeepSet i g k f) := fun B M H σ ρ s o ok e D q => by
  obtain ⟨⟨x, s1⟩, e1, e⟩ := bnd e
  obtain ⟨⟨y, s2⟩, e2, e⟩ := bnd e
  obtain ⟨⟨z, s3⟩, e3, e⟩ := bnd e
  obtain ⟨t, e', e⟩ := bnd e
  obtain ⟨ts, ek, e⟩ := bnd e
  obtain ⟨kk, ei, e⟩ := bnd e
  obtain ⟨j, ej, e⟩ := bnd e
  obtain ⟨u, eu, e⟩ := bnd e
  obtain ⟨us, el, e⟩ := bnd e
  obtain ⟨m, em, e⟩ := bnd e
  obtain ⟨n, en, eF⟩ := bnd e
  have e' := deepAt_eq e'
  have ei := intOf_eq ei
  have em := intOf_eq em
  have el := lstOT_eq el
  simp only at ei em
  subst ei em el
  split at eF
  · rename_i d0 ed
    cases eF
    refine a B M H σ ρ s x s1 ok e1 _ fun vx H1 M1 t1 r1 => ?_
    obtain ⟨v0, b0, w1, w2, w3⟩ := ok.deep e'
    refine ⟨v0, b0, ?_⟩
    refine b B M1 H1 σ ρ s1 _ s2 (ok.step t1) e2 _ fun vy H2 M2 t2 r2 => ?_
    cases r2 with
    | int kk =>
      have T2 := t1.trans t2
      obtain ⟨v, b1, h1, h2, h3⟩ := ok.deepStep e' T2
      rw [b0] at b1
      cases b1
      obtain ⟨p, vs, rfl, hp, hl, hk, hpi, hsub⟩ := kids_at h1 ek
      obtain ⟨vq, hv, hvq⟩ := owps_get hk eu
      obtain ⟨q', ws, rfl, hq, hlq, hkq, _, _⟩ := kids_at hvq (rfl : kids (.lst us) = some us)
      have hq : H2 q' = some (.lst ws) := by
        cases hvq with
        | lst z1 z2 z3 => rcases hq with hq | hq <;> rw [z1] at hq <;> cases hq; exact z1
      have hat : atI vs kk = some (.ref q') := by rw [atI_of hk.len ej]; exact hv
      obtain ⟨f1, f2⟩ := foots_sub hk eu hv hq
      have fin : tc σ H2 fun i H3 => rSetL (.ref q') i vx H3 fun H4 => D.nx σ H4 := by
        refine c B M2 H2 σ ρ s2 _ _ (ok.step T2) e3 _ fun vz H3 M3 t3 r3 => ?_
        cases r3 with
        | int m =>
          have T := T2.trans t3
          have hqn : ¬ B.r.mem q' := h3 q' (hsub q' f1)
          have hq2 : H3 q' = some (.lst ws) := t3.keep q' _ hq hqn
          have same : ∀ c ∈ foot H2 (.ref p) t, H3 c = H2 c := fun c hc => by
            obtain ⟨w, hw⟩ := foot_live t _ h1 c hc
            rw [t3.keep c w hw (h3 c hc), hw]
          have hp2 : H3 p = some (.lst vs) ∨ H3 p = some (.tup vs) := by rw [same p hpi]; exact hp
          have hkq2 : OwPs K M3 H3 ws us := OwPs.mono t3.mm us ws hkq fun c hc => same c (hsub c (f2 c hc))
          obtain ⟨i1, i2⟩ := owps_set hkq2 ed (Rp.mono (t2.mm.trans t3.mm) _ _ r1)
          refine ⟨q', ws, m, n, rfl, rfl, hq2, by rw [hkq.len]; exact en, ?_⟩
          exact q σ _ M3 ((ok.step T).inner e' ek b0 hp2 eu hv hq2 i1 i2 (by rw [List.length_set]; exact hlq))
      rcases hp with hp | hp
      · exact .inl ⟨p, vs, kk, .ref q', rfl, rfl, .inl (.inl hp), hat, fin⟩
      · exact .inr (.inl ⟨p, vs, kk, .ref q', rfl, rfl, .inl (.inl hp), hat, fin⟩)
  · cases eF
/-! ### returns, calls -/
def sRetT (f : ST) : SS := fun ρ s => (f ρ s).bind fun x => some (.rd x.1 x.2)
theorem gs_retT {ft : ST} (a : GoodT K te ft) : GoodS K W (tRet te) (sRetT ft) := fun B M H σ ρ s o ok e D q => by
  obtain ⟨⟨x, s1⟩, e1, e⟩ := bnd e
  cases e
  exact a B M H σ ρ s x s1 ok e1 _ fun v H1 M1 t1 h1 n1 f1 => q v H1 M1 (ok.step t1).bare h1 n1 fun a ha => ⟨(f1 a ha).1, ok.hfree (f1 a ha).2, ok.rne (f1 a ha).2⟩
/-- return (xs, e, ..), xs a list of one's own -/
def sRetTO (i : Nat) (fa : SA) : SS := fun ρ s => (ownAt ρ i).bind fun ds => (fa ρ s).bind fun x => if x.1.length < lim then some (.rd (.tup (.lst (ds.map .imm) :: x.1.map .imm)) x.2) else none
theorem gs_retTO (i : Nat) {t : TA} (a : GoodA K t fa) : GoodS K W (tRet (tTup (tCons (tVar i) t))) (sRetTO i fa) := fun B M H σ ρ s o ok e D q => by
  obtain ⟨ds, e', e⟩ := bnd e
  obtain ⟨⟨x, s1⟩, e1, e⟩ := bnd e
  have e' := ownAt_eq e'
  simp only at e
  split at e
  · rename_i hlt
    cases e
    obtain ⟨p, vs, e2, h1, h2, h3, h4, h5, h6⟩ := ok.own e'
    refine ⟨_, e2, ?_⟩
    refine a B M H σ ρ s x s1 ok e1 _ fun us H1 M1 t1 r1 => ⟨lim_le (by rw [List.length_cons, r1.length]; exact hlt), fun z hz => ?_⟩
    have ok1 := ok.step t1
    obtain ⟨p', vs', e3, g1, g2, g3, g4, g5, g6⟩ := ok1.own e'
    rw [e2] at e3
    cases e3
    have hne : p ≠ z := ne_of_none g1 hz
    have t2 := Step.lay (o := .tup (.ref p :: us)) t1.sub t1.row hz
    have hf : foot (upd H1 z (.tup (.ref p :: us))) (.ref z) (.tup (.lst (ds.map .imm) :: x.map .imm)) = [z, p] := by
      simp only [foot, upd_same, foots, upd_ne hne, g1, foots_imm, List.append_nil]
    refine q _ _ M1 (ok1.step t2).bare (.tup upd_same (by rw [List.length_cons, r1.length]; exact hlt) (.cons (.lst (by rw [upd_ne hne]; exact g1) g2 (rps_ow g3)) (rps_ow r1))) ?_ fun a ha => ?_
    · rw [hf]; simp [hne.symm]
    · rw [hf] at ha
      have : a = z ∨ a = p := by simpa using ha
      rcases this with rfl | rfl
      · exact ⟨t1.sub.free hz, ok.hfree (t1.free hz), ok.rne (t1.free hz)⟩
      · exact ⟨g4, g5, g6⟩
  · cases e
def spPD (K : PySem.W.Frag) (n : Nat) (fn : List D → Option OT) : Sp := fun vs H Q _ => ∃ M ds t, Same M H ∧ Rps K M vs ds ∧ ds.length = n ∧ fn ds = some t ∧
  ∀ v H' M', Same M M' → Same M' H' → Same H H' → (∀ a o, M' a = some o → M a = some o ∨ H a = none) → OwP K M' H' v t → (foot H' v t).Nodup → (∀ a ∈ foot H' v t, M' a = none ∧ H a = none) → Q v H'
theorem body_PD {t : TS} {vs : List V} {ds : List D} {u : OT} {N : List Str} {Q : VK} {b : SS} (hb : GoodS K W t b) (hs : Same M H) (r : Rps K M vs ds) (hn : ds.length ≤ N.length) (e : runPD N.length b ds = some u)
    (q : ∀ v H' M', Same M M' → Same M' H' → Same H H' → (∀ a o, M' a = some o → M a = some o ∨ H a = none) → OwP K M' H' v u → (foot H' v u).Nodup → (∀ a ∈ foot H' v u, M' a = none ∧ H a = none) → Q v H') :
    t { nx := fun _ H' => Q .non H', rt := Q } (L2.start N vs) H := by
  obtain ⟨o, e1, e⟩ := bnd e
  refine hb _ M H _ _ _ o (ok_start hs r hn) e1 _ ?_
  cases o with
  | rd x s1 =>
    cases e
    exact fun v H1 M1 ok h1 n1 f1 => q v H1 M1 ok.ext ok.sub (fun a w h => ok.keep a w h (fun z => z)) ok.fresh h1 n1 fun a ha => ⟨(f1 a ha).1, (f1 a ha).2.1⟩
  | rl xs s1 =>
    cases e
    exact fun p us H1 M1 ok h1 h2 h3 h4 h5 rr => q _ H1 M1 ok.ext ok.sub (fun a w h => ok.keep a w h (fun z => z)) ok.fresh (.lst h1 h5 (rps_ow rr)) (by simp [foot, h1, foots_imm]) fun a ha => by
      have : a = p := by simpa [foot, h1, foots_imm] using ha
      rw [this]; exact ⟨h2, h3⟩
  | rt x s1 =>
    cases e
    exact fun v H1 M1 ok rr => q v H1 M1 ok.ext ok.sub (fun a w h => ok.keep a w h (fun z => z)) ok.fresh (.imm rr) (by rw [foot_imm]; exact List.nodup_nil) fun a ha => by rw [foot_imm] at ha; cases ha
  | _ => cases e
def oCall (n : Nat) (fn : List D → Option OT) (fa : SA) : ST := fun ρ s => (fa ρ s).bind fun x => if x.1.length = n then (fn x.1).bind fun d => some (d, x.2) else none
theorem gt_call {n : Nat} {fn : List D → Option OT} {t : TA} {E : XK} (ha : GoodA K t fa) : GoodT K (tCall (spPD K n fn) [] E t) (oCall n fn fa) := fun B M H σ ρ s d s' o e Q q => by
  obtain ⟨⟨ds, s1⟩, e1, e⟩ := bnd e
  simp only at e
  split at e
  · rename_i hn
    obtain ⟨x, e2, e⟩ := bnd e
    cases e
    refine ha B M H σ ρ s ds _ o e1 _ fun vs H1 M1 t1 r1 => ?_
    refine ⟨M1, ds, d, t1.sub, by rw [List.append_nil]; exact r1, hn, e2, fun v H2 M2 a1 a2 a3 a4 h1 n1 f1 => ?_⟩
    exact q v H2 M2 (t1.trans (step_of_back t1.sub t1.row a1 a2 a3 a4)) h1 n1 fun a ha => ⟨(f1 a ha).1, t1.free (f1 a ha).2⟩
  · cases e
end
end DL

/-! The bundles of DL19, DL20, DL21. -/
namespace DL
open PySem PySem.Spec PyProof.Rows L2
structure DV (X : Cx) (K : PySem.W.Frag) (e : Expr) (t : TE) (f : SV) : Prop where
  hk : X.K = K
  pe : PE X e t
  gd : GoodV K t f
structure DD (X : Cx) (K : PySem.W.Frag) (e : Expr) (t : TE) (f : ST) : Prop where
  hk : X.K = K
  pe : PE X e t
  gd : GoodT K t f
structure DDs (X : Cx) (K : PySem.W.Frag) (es : List Expr) (t : TA) (f : SAT) : Prop where
  hk : X.K = K
  pa : PA X es t
  gd : GoodTs K t f
section
variable {X : Cx} {K : PySem.W.Frag} {W : Wish} {a b c e : Expr} {es : List Expr} {pos p p2 : Pos} {ta tb tc te : TE} {tt tu : TT} {f g k : SE} {fb gb : SB} {fa ga : SA} {fv gv : SV} {ft gt : ST} {fts : SAT} {t : TA}
theorem n_zip2 {pz : Pos} (A : DQ X K a ta fa) (B : DQ X K b tb ga) (hm2 : X.mg "list" = none) (hm : X.mg "zip" = none) (hc : X.calm = true := by rfl) (hg2 : Gl X "list" := by rfl) (hg : Gl X "zip" := by rfl) (hs : starEach [a, b] X.env = (false, eval a X.env) :: starEach [b] X.env := by rfl)
    (hsb : starEach [b] X.env = (false, eval b X.env) :: starEach [] X.env := by rfl) (hpl : (backTo pz (starEach [b] X.env)).any (·.1) = false := by rfl)
    (hs2 : starEach [.Call (.Name "zip" p) [a, b] [] pz] X.env = (false, eval (.Call (.Name "zip" p) [a, b] [] pz) X.env) :: starEach [] X.env := by rfl) :
    DN X K (.Call (.Name "list" p2) [.Call (.Name "zip" p) [a, b] [] pz] [] pos) (ZK.tListZip K (tCons ta (tCons tb tNil))) (lZip2 fa ga) := by
  have hK := A.hk
  subst hK
  exact ⟨rfl, ZK.pe_listzip hc hg hm hg2 hm2 (pa_cons A.pe (pa_cons B.pe pa_nil hsb) hs) hs hpl hs2, gl_zip2 A.gd B.gd⟩
theorem n_rep (A : DN X K a ta fa) (B : DE X K b tb g) : DN X K (.BinOp a .Mult b pos) (tOp rRep ta tb) (lRep fa g) := by
  have hK := A.hk
  subst hK
  exact ⟨rfl, pe_op op_rep A.pe B.pe, gl_rep A.gd B.gd⟩
theorem v_e (A : DE X K a ta f) : DV X K a ta (vE f) := ⟨A.hk, A.pe, gv_e A.gd⟩
theorem v_n (A : DN X K a ta fa) : DV X K a ta (vL fa) := ⟨A.hk, A.pe, gv_l A.gd⟩
theorem v_d (A : DD X K a ta ft) : DV X K a ta (vT ft) := ⟨A.hk, A.pe, gv_t A.gd⟩
theorem dd_e (A : DE X K a ta f) : DD X K a ta (oE f) := ⟨A.hk, A.pe, gt_e A.gd⟩
theorem dd_n (A : DN X K a ta fa) : DD X K a ta (oL fa) := ⟨A.hk, A.pe, gt_l A.gd⟩
theorem dds_nil (hK : X.K = K := by rfl) : DDs X K [] tNil oNil := ⟨hK, pa_nil, gts_nil⟩
theorem dds_cons (A : DD X K a ta ft) (B : DDs X K es t fts) (hs : starEach (a :: es) X.env = (false, eval a X.env) :: starEach es X.env := by rfl) : DDs X K (a :: es) (tCons ta t) (oCons ft fts) := ⟨A.hk, pa_cons A.pe B.pa hs, gts_cons A.gd B.gd⟩
theorem dd_lst (A : DDs X K es t fts) : DD X K (.List es pos) (tLst t) (oLst fts) := ⟨A.hk, pe_lst A.pa, gt_lst A.gd⟩
theorem dd_tup {x1} (A : DDs X K es t fts) : DD X K (.Tuple es x1 pos) (tTup t) (oTup fts) := ⟨A.hk, pe_tup A.pa, gt_tup A.gd⟩
theorem s_setV (i : Nat) {x : Str} {q : Pos} (A : DV X K e te fv) (nd : X.N.Nodup) (hi : X.N[i]? = some x := by rfl) (hx : Loc X.env.scope x := by first | exact .inl rfl | exact .inr rfl) (hs : swapsWith e (some (.Name x q)) pos.line X.env = pure false := by rfl)
    (hf : X.fn x = true ∨ X.env.scope.names.lookup x = some .local := by first | exact .inl rfl | exact .inr rfl) : DS X K W (.Assign [.Name x q] e pos) (tAsg te (gName i)) (sSetV i fv) :=
  ⟨A.hk, ps_set nd hi hx A.pe hs hf, gs_setV i A.gd⟩
theorem s_parV (i j : Nat) {x y : Str} {px py pt pt2 : Pos} {kt k2} (A : DV X K a ta fv) (B : DV X K b tb gv) (nd : X.N.Nodup) (hij : i ≠ j := by decide) (hc : X.calm = true := by rfl) (hi : X.N[i]? = some x := by rfl) (hj : X.N[j]? = some y := by rfl)
    (hx : X.env.scope.names.lookup x = some .local := by rfl) (hy : X.env.scope.names.lookup y = some .local := by rfl) (hs1 : starEach (a :: [b]) X.env = (false, eval a X.env) :: starEach [b] X.env := by rfl) (hs2 : starEach (b :: []) X.env = (false, eval b X.env) :: starEach [] X.env := by rfl)
    (hw : swappedStores [.Tuple [.Name x px, .Name y py] kt pt] (.Tuple [a, b] k2 pt2) X.env = pure (some [x, y]) := by rfl) (hs : swapsWithSole [.Tuple [.Name x px, .Name y py] kt pt] (.Tuple [a, b] k2 pt2) pos.line X.env = pure false := by rfl) :
    DS X K W (.Assign [.Tuple [.Name x px, .Name y py] kt pt] (.Tuple [a, b] k2 pt2) pos) (tPar i j (tCons ta (tCons tb tNil))) (sParV i j fv gv) :=
  ⟨A.hk, ps_par hc nd hi hj hij hx hy (pa_cons A.pe (pa_cons B.pe pa_nil hs2) hs1) hw hs, gs_parV A.gd B.gd⟩
theorem s_rem (i : Nat) {x : Str} {q : Pos} (A : DE X K e te f) (hN : X.N[i]? = some x := by rfl) (hv : Vis X.env.scope x := by first | exact Or.inl rfl | exact Or.inr (Or.inl rfl) | exact Or.inr (Or.inr rfl)) (hd : (x == ("__debug__" : Str)) = false := by decide)
    (hcd : (x == ("__classdict__" : Str)) = false := by decide) (hse : starEach (e :: []) X.env = (false, eval e X.env) :: starEach [] X.env := by rfl)
    (hbase : attributeBase (.Name x p2) "remove" X.env (eval (.Name x p2) X.env) = eval (.Name x p2) X.env := by rfl)
    (hfew : ((backTo p (starEach (e :: []) X.env)).all (fun x => !x.1) && (backToKw p (keywordEach [] X.env)).all (fun x => x.1.isSome)
      && decide ((e :: []).length + ([] : List Keyword).length + (if ([] : List Keyword).isEmpty then 0 else 1) < 30)) = true := by rfl)
    (hline : (q.endLine == p.line) = true := by rfl) (hplain : (backTo p (starEach [] X.env)).any (·.1) = false := by rfl) (hs : swapsWith (.Call (.Attribute (.Name x p2) "remove" q) [e] [] p) none pos.line X.env = pure false := by rfl) :
    DS X K W (.Expr (.Call (.Attribute (.Name x p2) "remove" q) [e] [] p) pos) (tDrop (tBM K "list" rRemI (tVar i) (tCons te tNil))) (sRem i f) := by
  have hK := A.hk
  subst hK
  exact ⟨rfl, ps_expr (pe_bm PySem.F.plainAttrs_list PySem.F.slot_list_remove PySem.F.type_list_remove mt_remove (pe_var hN hv hd hcd) (pa_cons A.pe pa_nil hse) hbase hfew hline hse hplain) hs, gs_rem i A.gd⟩
theorem s_deepApp (i : Nat) {x : Str} {q ps : Pos} (B : DE X K b tb g) (A : DE X K e te f) (hN : X.N[i]? = some x := by rfl) (hv : Vis X.env.scope x := by first | exact Or.inl rfl | exact Or.inr (Or.inl rfl) | exact Or.inr (Or.inr rfl)) (hd : (x == ("__debug__" : Str)) = false := by decide)
    (hcd : (x == ("__classdict__" : Str)) = false := by decide) (hix : PlainIx b := by exact fun _ _ => rfl) (hse : starEach (e :: []) X.env = (false, eval e X.env) :: starEach [] X.env := by rfl)
    (hbase : attributeBase (.Subscript (.Name x p2) b ps) "append" X.env (eval (.Subscript (.Name x p2) b ps) X.env) = eval (.Subscript (.Name x p2) b ps) X.env := by rfl)
    (hfew : ((backTo p (starEach (e :: []) X.env)).all (fun x => !x.1) && (backToKw p (keywordEach [] X.env)).all (fun x => x.1.isSome)
      && decide ((e :: []).length + ([] : List Keyword).length + (if ([] : List Keyword).isEmpty then 0 else 1) < 30)) = true := by rfl)
    (hline : (q.endLine == p.line) = true := by rfl) (hplain : (backTo p (starEach [] X.env)).any (·.1) = false := by rfl) (hs : swapsWith (.Call (.Attribute (.Subscript (.Name x p2) b ps) "append" q) [e] [] p) none pos.line X.env = pure false := by rfl) :
    DS X K W (.Expr (.Call (.Attribute (.Subscript (.Name x p2) b ps) "append" q) [e] [] p) pos) (tDrop (tBM K "list" rAppend (tOp (rIx K) (tVar i) tb) (tCons te tNil))) (sDeepApp i g f) := by
  have hK := A.hk
  subst hK
  exact ⟨rfl, ps_expr (pe_bm PySem.F.plainAttrs_list PySem.F.slot_list_append PySem.F.type_list_append mt_append (pe_ix ix_seq (pe_var hN hv hd hcd) B.pe hix) (pa_cons A.pe pa_nil hse) hbase hfew hline hse hplain) hs, gs_deepApp i B.gd A.gd⟩
theorem s_deepSet (i : Nat) {x : Str} {q pq ps : Pos} (B : DE X K b tb g) (C : DE X K c tc k) (A : DE X K a ta f) (hN : X.N[i]? = some x := by rfl) (hv : Vis X.env.scope x := by first | exact Or.inl rfl | exact Or.inr (Or.inl rfl) | exact Or.inr (Or.inr rfl)) (hd : (x == ("__debug__" : Str)) = false := by decide)
    (hcd : (x == ("__classdict__" : Str)) = false := by decide) (hix : PlainIx b := by exact fun _ _ => rfl) (hsub : ∀ v, assign (.Subscript (.Subscript (.Name x q) b ps) c pq) X.env v = (do
      let ov ← holding [v] (eval (.Subscript (.Name x q) b ps) X.env)
      let iv ← holding [v, ov] (eval c X.env)
      standAt pq
      holding [v, ov, iv] (setItem ov iv v)
      release [v, ov, iv] []) := by intro _; rfl) (hs : swapsWithSole [.Subscript (.Subscript (.Name x q) b ps) c pq] a pos.line X.env = pure false := by rfl) (hw : swappedStores [.Subscript (.Subscript (.Name x q) b ps) c pq] a X.env = pure none := by rfl)
    (h1 : (assignEach [.Subscript (.Subscript (.Name x q) b ps) c pq] X.env).map (·.2) = [assign (.Subscript (.Subscript (.Name x q) b ps) c pq) X.env] := by rfl) : DS X K W (.Assign [.Subscript (.Subscript (.Name x q) b ps) c pq] a pos) (tAsg ta (gSub (tOp (rIx K) (tVar i) tb) tc rSetL)) (sDeepSet i g k f) := by
  have hK := A.hk
  subst hK
  exact ⟨rfl, ps_asg A.pe (pg_sub (pe_ix ix_seq (pe_var hN hv hd hcd) B.pe hix) C.pe set_list hsub) hs hw h1, gs_deepSet i B.gd C.gd A.gd⟩
theorem s_retT (A : DD X K e te ft) : DS X K W (.Return (some e) pos) (tRet te) (sRetT ft) := ⟨A.hk, ps_ret A.pe, gs_retT A.gd⟩
theorem s_retTO (i : Nat) {x : Str} {x1} (A : DA X K es t fa) (hN : X.N[i]? = some x := by rfl) (hv : Vis X.env.scope x := by first | exact Or.inl rfl | exact Or.inr (Or.inl rfl) | exact Or.inr (Or.inr rfl)) (hd : (x == ("__debug__" : Str)) = false := by decide)
    (hcd : (x == ("__classdict__" : Str)) = false := by decide) (hs : starEach (.Name x p :: es) X.env = (false, eval (.Name x p) X.env) :: starEach es X.env := by rfl) : DS X K W (.Return (some (.Tuple (.Name x p :: es) x1 p2)) pos) (tRet (tTup (tCons (tVar i) t))) (sRetTO i fa) :=
  ⟨A.hk, ps_ret (pe_tup (pa_cons (pe_var hN hv hd hcd) A.pa hs)), gs_retTO i A.gd⟩
section
variable {tg : Expr} {T : TG} {hh : SG} {ws : List Nat}
theorem dd_lc {elt iter : Expr} {scope : Scope} {own : List (Str × Nat)} {wi : TI} {fi : SA} {vs : List Nat} (I : DC X K tg iter wi fi) (ok : BlkOk X.N X.env.scope scope own) (nd : X.N.Nodup) (hw : ∀ i, i ∈ ws → i ∈ own.map (·.2))
    (G : ∀ (s : Shared) (H : Hp) (C : Addr) (cl : List (Str × Addr)) (fp : List Addr), DG (X.blk s H scope (compEnvC scope cl C X.env) fp) K tg T hh ws)
    (E : ∀ (s : Shared) (H : Hp) (C : Addr) (cl : List (Str × Addr)) (fp : List Addr), DD (X.blk s H scope (compEnvC scope cl C X.env) fp) K elt te ft) (hc : X.calm = true := by rfl) (hs : ∀ x, foldedSetIterable iter X.env x = pure x := by intro _; rfl) (hvs : own.map (·.2) = vs := by rfl) :
    DD X K (.ListComp elt [⟨tg, iter, [], 0⟩] scope pos) (tLc wi T tYes te (own.map (·.2))) (oComp fi hh ft vs) := by
  have hK := I.hk
  subst hK
  subst hvs
  exact ⟨rfl, pe_lc hc nd I.pi ok (fun s H C cl fp => (G s H C cl fp).pg) (fun s H C cl fp => pts_nil) (fun s H C cl fp => (E s H C cl fp).pe) hs,
    gt_comp I.gd (G X.s_0 X.H_0 0 [] []).gd hw (E X.s_0 X.H_0 0 [] []).gd⟩
/-- x = [.. for ..] of new things, on one line, x a plain local -/
theorem s_lcD (i : Nat) {x : Str} {q p' : Pos} {elt iter : Expr} {scope : Scope} {own : List (Str × Nat)} {wi : TI} {fi : SA} {vs : List Nat} (I : DC X K tg iter wi fi) (ok : BlkOk X.N X.env.scope scope own) (nd : X.N.Nodup) (hw : ∀ i, i ∈ ws → i ∈ own.map (·.2))
    (G : ∀ (s : Shared) (H : Hp) (C : Addr) (cl : List (Str × Addr)) (fp : List Addr), DG (X.blk s H scope (compEnvC scope cl C X.env) fp) K tg T hh ws)
    (E : ∀ (s : Shared) (H : Hp) (C : Addr) (cl : List (Str × Addr)) (fp : List Addr), DD (X.blk s H scope (compEnvC scope cl C X.env) fp) K elt te ft) (hy : X.N[i]? = some x := by rfl) (hyl : X.env.scope.names.lookup x = some .local := by rfl)
    (hsw : swapsWith (.ListComp elt [⟨tg, iter, [], 0⟩] scope pos) (some (.Name x q)) p'.line X.env = pure true := by exact sw_true rfl rfl rfl (by decide +kernel)) (hc : X.calm = true := by rfl) (hs : ∀ x, foldedSetIterable iter X.env x = pure x := by intro _; rfl) (hvs : own.map (·.2) = vs := by rfl) :
    DS X K W (.Assign [.Name x q] (.ListComp elt [⟨tg, iter, [], 0⟩] scope pos) p') (tAsg (tLc wi T tYes te (own.map (·.2))) (gName i)) (sSetV i (vT (oComp fi hh ft vs))) := by
  have hK := I.hk
  subst hK
  subst hvs
  exact ⟨rfl, ps_setLc hc nd hy hyl hsw I.pi ok (fun s H C cl fp => (G s H C cl fp).pg) (fun s H C cl fp => pts_nil) (fun s H C cl fp => (E s H C cl fp).pe) hs,
    gs_setV i (gv_t (gt_comp I.gd (G X.s_0 X.H_0 0 [] []).gd hw (E X.s_0 X.H_0 0 [] []).gd))⟩
end
section
variable {kk n : Nat} {x : Str}
theorem dd_call {fn : List D → Option OT} (C : Callee X.prog X.w K X.mg X.base kk x (spPD K n fn)) (hr : Room kk X.A) (A : DA X K (e :: es) t fa) (hg : Gl X x := by rfl) (hdb : (x == ("__debug__" : Str)) = false := by decide)
    (he : starEach (e :: es) X.env = (false, eval e X.env) :: starEach es X.env := by rfl) (hpl : (backTo pos (starEach es X.env)).any (·.1) = false := by rfl) : DD X K (.Call (.Name x p) (e :: es) [] pos) (tCall (spPD K n fn) [] E0 t) (oCall n fn fa) := by
  have hK := A.hk
  subst hK
  obtain ⟨f, fd, ps, F, hm, hk, hb⟩ := C.ex
  exact ⟨rfl, pe_call F hr hg hm hk hb .nil pass0 A.pa hdb he hpl, gt_call A.gd⟩
end
end
section
variable {P : Program} {w : World} {K : PySem.W.Frag} {mg : Str → Option Value} {base : Heap} {x qual : Str} {st : Stmt} {f : Addr} {fd : FuncData} {N ps : List Str} {k : Nat} {b : SS}
theorem callee_PD (F : Fun K x qual st f fd) (hm : mg x = some (.ref f)) (S : FnScope N ps (defScope st)) (hb : BodyX P w K mg base k qual st N f b) (bb : bindsBy x qual st ps) (hl : ps.length ≤ N.length := by decide) :
    Callee P w K mg base (k + 1) x (spPD K ps.length (runPD N.length b)) := by
  refine ⟨f, fd, ps, F.ok S (fun vs H Q E h => ?_) (fun cdv A outer s H vs Q E hr h => ?_), hm, F.kp, F.binds bb⟩
  · obtain ⟨M, ds, d, _, r, hn, _⟩ := h
    rw [r.length]; exact hn
  · obtain ⟨M, ds, d, hs, r, hn, e, q⟩ := h
    obtain ⟨t, T⟩ := hb cdv A outer s H E hr
    exact ⟨t, T.ps, body_PD T.gd hs r (by rw [hn]; exact hl) e q⟩
end
/-! ### the plain side -/
section
variable {ρ : Env} {s : Row} {f g k : SE} {fa fb : SA} {fv gv : SV} {ft : ST} {fts : SAT} {d : D} {ds : List D} {i j n : Nat} {t : OT} {ts : List OT}
@[simp] theorem lZip2_ap : lZip2 fa fb ρ s = (fa ρ s).bind fun x => (fb ρ x.2).bind fun y => if x.1.length = y.1.length then some (zip2L x.1 y.1, y.2) else none := rfl
theorem zip2L_map {α : Type} (f g : α → D) : ∀ cs : List α, zip2L (cs.map f) (cs.map g) = cs.map fun c => .tuple [f c, g c]
  | [] => rfl
  | c :: cs => by simp only [List.map_cons, zip2L, zip2L_map f g cs]
def repD (xs : List D) (d : D) : Option (List D) := match d with | .int k => if xs.length ≤ 1000 ∧ -1000 ≤ k ∧ k ≤ 1000 then some ((List.replicate k.toNat xs).flatten) else none | _ => none
@[simp] theorem lRep_ap : lRep fa g ρ s = (fa ρ s).bind fun x => (g ρ x.2).bind fun y => (repD x.1 y.1).bind fun z => some (z, y.2) := by
  unfold lRep
  congr 1
  funext x
  congr 1
  funext y
  unfold repD
  cases y.1 <;> try rfl
  simp only
  split <;> rfl
theorem repD_n {x : D} {k : Nat} (h : k ≤ 1000) : repD [x] (.int (k : Int)) = some (List.replicate k x) := by
  unfold repD
  simp only
  rw [if_pos ⟨by simp, by omega, by omega⟩]
  congr 1
  rw [Int.toNat_natCast]
  induction k with
  | zero => rfl
  | succ k ih => rw [List.replicate_succ, List.replicate_succ, List.flatten_cons, ih (by omega)]; rfl
@[simp] theorem vE_ap : vE f ρ s = (f ρ s).bind fun x => some (.imm x.1, x.2) := rfl
@[simp] theorem vL_ap : vL fa ρ s = (fa ρ s).bind fun x => some (.own x.1, x.2) := rfl
@[simp] theorem vT_ap : vT ft ρ s = (ft ρ s).bind fun x => some (.deep x.1, x.2) := rfl
@[simp] theorem sSetV_ap : sSetV i fv ρ s = (fv ρ s).bind fun x => some (.nx (ρ.set i x.1) x.2) := rfl
@[simp] theorem sParV_ap : sParV i j fv gv ρ s = (fv ρ s).bind fun x => (gv ρ x.2).bind fun y => some (.nx ((ρ.set i x.1).set j y.1) y.2) := rfl
@[simp] theorem oE_ap : oE f ρ s = (f ρ s).bind fun x => some (.imm x.1, x.2) := rfl
@[simp] theorem oL_ap : oL fa ρ s = (fa ρ s).bind fun x => some (.lst (x.1.map .imm), x.2) := rfl
@[simp] theorem oNil_ap : oNil ρ s = some ([], s) := rfl
@[simp] theorem oCons_ap : oCons ft fts ρ s = (ft ρ s).bind fun x => (fts ρ x.2).bind fun y => some (x.1 :: y.1, y.2) := rfl
@[simp] theorem oLst_ap : oLst fts ρ s = (fts ρ s).bind fun x => chk x.1.length (.lst x.1, x.2) := rfl
@[simp] theorem oTup_ap : oTup fts ρ s = (fts ρ s).bind fun x => chk x.1.length (.tup x.1, x.2) := rfl
@[simp] theorem oComp_ap {fi : SA} {h : SG} {vs : List Nat} : oComp fi h ft vs ρ s = (fi ρ s).bind fun x => (compT h ft (wipeE ρ vs) x.1 x.2).bind fun y => some (.lst y.1, y.2) := rfl
@[simp] theorem oCall_ap {fn : List D → Option OT} : oCall n fn fa ρ s = (fa ρ s).bind fun x => if x.1.length = n then (fn x.1).bind fun d => some (d, x.2) else none := rfl
@[simp] theorem sRetT_ap : sRetT ft ρ s = (ft ρ s).bind fun x => some (.rd x.1 x.2) := rfl
@[simp] theorem sRetTO_ap : sRetTO i fa ρ s = (ownAt ρ i).bind fun ds => (fa ρ s).bind fun x => chk (x.1.length + 1) (.rd (.tup (.lst (ds.map .imm) :: x.1.map .imm)) x.2) := by
  unfold sRetTO
  congr 1
@[simp] theorem sRem_ap : sRem i f ρ s = (f ρ s).bind fun x => (ownAt ρ i).bind fun ds => (intsD ds).bind fun ns => (intOf x.1).bind fun k => if k ∈ ns then some (.nx (ρ.set i (.own ((ns.erase k).map PyData.int))) x.2) else none := rfl
@[simp] theorem deepAt_ap : deepAt ρ i = (ρ[i]?).bind fun x => match x with | .deep t => some t | _ => none := by
  unfold deepAt
  cases ρ[i]? with
  | none => rfl
  | some x => cases x <;> rfl
@[simp] theorem kids_l : kids (.lst ts) = some ts := rfl
@[simp] theorem kids_t : kids (.tup ts) = some ts := rfl
@[simp] theorem upK_l : OT.upK (.lst ts) n t = .lst (ts.set n t) := rfl
@[simp] theorem upK_t : OT.upK (.tup ts) n t = .tup (ts.set n t) := rfl
@[simp] theorem lstOT_l : lstOT (.lst ts) = some ts := rfl
@[simp] theorem sDeepApp_ap : sDeepApp i g f ρ s = (g ρ s).bind fun y => (f ρ y.2).bind fun x => (deepAt ρ i).bind fun t => (kids t).bind fun ts => (intOf y.1).bind fun k => (ixN ts.length k).bind fun j => (ts[j]?).bind fun u => (lstOT u).bind fun us =>
  if us.length < lim then some (.nx (ρ.set i (.deep (t.upK j (.lst (us ++ [.imm x.1]))))) x.2) else none := rfl
def immOT : OT → Option Unit | .imm _ => some () | _ => none
@[simp] theorem immOT_i : immOT (.imm d) = some () := rfl
@[simp] theorem sDeepSet_ap : sDeepSet i g k f ρ s = (f ρ s).bind fun x => (g ρ x.2).bind fun y => (k ρ y.2).bind fun z => (deepAt ρ i).bind fun t => (kids t).bind fun ts => (intOf y.1).bind fun k => (ixN ts.length k).bind fun j => (ts[j]?).bind fun u => (lstOT u).bind fun us =>
  (intOf z.1).bind fun m => (ixN us.length m).bind fun n => (us[n]?).bind fun w => (immOT w).bind fun _ => some (.nx (ρ.set i (.deep (t.upK j (.lst (us.set n (.imm x.1)))))) z.2) := by
  unfold sDeepSet
  congr 1; funext x
  congr 1; funext y
  congr 1; funext z
  congr 1; funext t
  congr 1; funext ts
  congr 1; funext kk
  congr 1; funext j
  congr 1; funext u
  congr 1; funext us
  congr 1; funext m
  congr 1; funext n
  cases us[n]? with
  | none => rfl
  | some w => cases w <;> rfl
@[simp] theorem data_i : (OT.imm d).data = d := rfl
@[simp] theorem data_l : (OT.lst ts).data = .list (ts.map OT.data) := by show PyData.list (OT.datas ts) = _; rw [datas_map]
@[simp] theorem data_t : (OT.tup ts).data = .tuple (ts.map OT.data) := by show PyData.tuple (OT.datas ts) = _; rw [datas_map]
@[simp] theorem frzE_0d {ρ : Env} : frzE 0 (.deep t :: ρ) = .imm t.data :: ρ := rfl
end
end DL

/-! for a, b in zip(xs, ys); xs.count(x) of any data; own things settled as data; a if t else b of lists. -/
namespace DL
open PySem PySem.Spec PyProof.Rows L2
/-! ### xs.count(x), data of any depth -/
def rCntD (K : PySem.W.Frag) : V → List V → Hp → VK → Prop := fun x xs H Q => ∃ (a : Addr) (y : V) (d : PyData) (ds : List PyData), x = V.ref a ∧ xs = [y] ∧ Dp K H (V.ref a) (.list ds) ∧ Dp K H y d ∧ PyData.canLayAll0 ds = true ∧ d.canLay0 = true ∧ d.depth ≤ 60 ∧ Q (.int (ds.countP (fun z => PyData.eqv z d) : Nat)) H
theorem mt_cntD {X : Cx} (hu : X.A.units + 64 < cLine) : MtR X "list.count" (rCntD X.K) := by
  intro pins s σ H x xs v us Q I rx rxs h
  obtain ⟨a, y, d, ds, rfl, rfl, hl, hy, hxs, hyl, hdep, q⟩ := h
  cases rx
  cases rxs with
  | cons ry rt =>
    rename_i uy ut
    cases rt
    obtain ⟨bs, r1⟩ := Dp.reads I d y uy hy ry
    have hroom : X.A.units + 1 + min (PyData.depthAll ds) d.depth < cLine := by omega
    cases hl with
    | lst hs ha =>
      obtain ⟨its, rv, ⟨⟨cls, dd, data, sls⟩, n, ho, hc, hdn, hdt⟩, hlen⟩ := I.list hs
      simp only at hc hdt
      subst hc hdt
      obtain ⟨as, h4⟩ := Dp.readsAll I ds _ its ha rv
      have hmap : its.map (SeqAt.readOf s.heap) = ds := SeqAt.readsAll_map ds its as hxs h4
      refine call_meets PySem.F.slot_list_count ⟨_, ho, rfl⟩ PySem.F.entry_list_count (PySem.F.args_list_count_2 _ _)
        (SeqAt.list_countAt a its.toArray n dd sls uy (fun u => PyData.eqv (SeqAt.readOf s.heap u) d)) ⟨ho, SeqAt.items_eqAt (vs := its.toArray) (show ReadsAll s.heap its.toArray.toList ds as from h4) r1 hxs hyl hroom, ?_⟩
      refine ⟨.int (ds.countP (fun z => PyData.eqv z d) : Nat), H, I.tok _, ⟨s.toks, ?_⟩, q⟩
      show Value.int ((its.toArray.toList.countP (fun u => PyData.eqv (SeqAt.readOf s.heap u) d) : Nat) : Int) s.toks = _
      rw [show its.toArray.toList = its by simp, ← hmap, List.countP_map]
      rfl
def eCntD (fa : SA) (g : SE) : SE := fun ρ s => (fa ρ s).bind fun x => (g ρ x.2).bind fun y => if y.1.depth ≤ 60 then some (.int (x.1.countP (fun z => PyData.eqv z y.1) : Nat), y.2) else none
def zip2D (l : List D) : Option (List D) := match l with | [.list a, .list b] => if a.length = b.length then some (zip2L a b) else none | _ => none
def i2Zip (fa : SA) : SA := fun ρ s => (fa ρ s).bind fun x => (zip2D x.1).bind fun y => some (y, x.2)
theorem zip2L_get : ∀ {a b : List D} {i : Nat} {d : D}, (zip2L a b)[i]? = some d → ∃ x y, d = .tuple [x, y] ∧ a[i]? = some x ∧ b[i]? = some y
  | [], _, i, d, h => by simp [zip2L] at h
  | _ :: _, [], i, d, h => by simp [zip2L] at h
  | x :: a, y :: b, 0, d, h => by simp [zip2L] at h; exact ⟨x, y, h.symm, rfl, rfl⟩
  | x :: a, y :: b, i + 1, d, h => by
    simp only [zip2L, List.getElem?_cons_succ] at h ⊢
    exact zip2L_get h
def eD (f : ST) : SE := fun ρ s => (f ρ s).bind fun x => some (x.1.data, x.2)
def lIf (c : SB) (f g : SA) : SA := fun ρ s => (c ρ s).bind fun x => if x.1 then f ρ x.2 else g ρ x.2
section
variable {K : PySem.W.Frag} {W : Wish} {B : Bx} {M H M' H' M2 H2 : Hp} {σ : L2.St} {ρ : Env} {s s' s2 : Row} {ta tb tc te tl : TE} {tt : TT} {f g k : SE} {fa ga : SA} {fb : SB} {ft : ST} {t : TA}
theorem gd_cntD (ha : GoodQ K ta fa) (hb : GoodE K tb g) : GoodE K (tBM K "list" (rCntD K) ta (tCons tb tNil)) (eCntD fa g) := fun B M H σ ρ s d s' o e Q q => by
  obtain ⟨⟨ds, s1⟩, e1, e⟩ := bnd e
  obtain ⟨⟨y, s2⟩, e2, e⟩ := bnd e
  simp only at e
  split at e
  · rename_i hdep
    cases e
    refine ha B M H σ ρ s ds s1 o e1 _ fun p vs H1 M1 t1 hs hl r1 => ⟨.inl ⟨rfl, vs, hs H1 fun _ _ h _ => h⟩, ?_⟩
    refine hb B M1 H1 σ ρ s1 y _ (o.step t1) e2 _ fun v H2 M2 t2 r2 => ?_
    have r1' := Rps.mono (t2.mm.trans t2.sub) _ _ r1
    exact ⟨p, v, y, ds, rfl, rfl, .lst (hs H2 t2.keep) (Rps.dp _ _ r1'), Rp.dp _ _ (Rp.mono t2.sub _ _ r2), Rps.lay _ _ r1, Rp.lay _ _ r2, hdep, q _ H2 M2 (t1.trans t2) (.int _)⟩
  · cases e
theorem gf_zip2 (ha : GoodA K t fa) : GoodF K (iZip K t) (i2Zip fa) := fun B M H σ ρ s ds s' o e R q => by
  obtain ⟨⟨xs, s1⟩, e1, e⟩ := bnd e
  refine ha B M H σ ρ s xs _ o e1 _ fun vs H1 M1 t1 r1 => ?_
  simp only at e
  obtain ⟨zs, e2, e⟩ := bnd e
  obtain ⟨rfl, rfl⟩ : zs = ds ∧ s1 = s' := by cases e; exact ⟨rfl, rfl⟩
  unfold zip2D at e2
  split at e2
  · rename_i a b
    split at e2
    · rename_i hl
      obtain rfl : zip2L a b = zs := by cases e2; rfl
      cases r1 with
      | cons ra r1 =>
        cases r1 with
        | cons rb r1 =>
          cases r1
          cases ra with
          | @lst pa va da ha hla ra =>
            cases rb with
            | @lst pb vb db hb hlb rb =>
              have hlen := zip2L_len hl
              have l1 := ra.length
              have l2 := rb.length
              refine ⟨pa, pb, va, vb, rfl, t1.sub.seq ha, t1.sub.seq hb, q _ H1 M1 t1 ⟨by rw [hlen, ← l1]; exact hla, _, _, walk_zip (xs := va) (ys := vb) (by rw [hlen]; omega), fun Hc k => ⟨Same.seq k ha, Same.seq k hb⟩, fun i x Hc Hn Mc d s e1 e2 e3 k e4 y => ?_⟩⟩
              obtain ⟨T, u1, u2, rfl, hT, rfl, g1, g2⟩ := y
              obtain ⟨d1, d2, rfl, k1, k2⟩ := zip2L_get e1
              obtain ⟨w1, hw1, rw1⟩ := ra.get k1
              obtain ⟨w2, hw2, rw2⟩ := rb.get k2
              have g1 : va[i]? = some u1 := g1
              have g2 : vb[i]? = some u2 := g2
              rw [g1] at hw1; cases hw1
              rw [g2] at hw2; cases hw2
              have t2 := Step.new (K := K) (B := B) (o := .tup [u1, u2]) e3 e4 hT
              exact ⟨_, t2, .tup (.inl (.inl upd_same)) (by show 2 ≤ lim; decide) (Rps.mono t2.mm _ _ (Rps.mono e2 _ _ (.cons rw1 (.cons rw2 .nil))))⟩
    · cases e2
  · cases e2
open Classical in
/-- a new thing of one's own is from now on to stand for good -/
theorem gd_d (ha : GoodT K te ft) : GoodE K te (eD ft) := fun B M H σ ρ s d s' o e Q q => by
  obtain ⟨⟨t, s1⟩, e1, e⟩ := bnd e
  cases e
  refine ha B M H σ ρ s t _ o e1 _ fun v H1 M1 t1 h1 n1 f1 => ?_
  let M3 : Hp := fun a => if a ∈ foot H1 v t then H1 a else M1 a
  have in1 : ∀ a, a ∈ foot H1 v t → M3 a = H1 a := fun a h => by show (if _ then _ else _) = _; rw [if_pos h]
  have out1 : ∀ a, a ∉ foot H1 v t → M3 a = M1 a := fun a h => by show (if _ then _ else _) = _; rw [if_neg h]
  have hs : Same M1 M3 := fun a w h => by
    by_cases z : a ∈ foot H1 v t
    · rw [(f1 a z).1] at h; cases h
    · rw [out1 a z]; exact h
  have t3 : Step K B M H M3 H1 s1 := by
    refine ⟨t1.mm.trans hs, fun a w h => ?_, t1.keep, fun a w h => ?_, ?_⟩
    · by_cases z : a ∈ foot H1 v t
      · rw [in1 a z] at h; exact h
      · rw [out1 a z] at h; exact t1.sub a w h
    · by_cases z : a ∈ foot H1 v t
      · exact .inr (f1 a z).2
      · rw [out1 a z] at h; exact t1.fresh a w h
    · refine B.r.keep t1.row hs (fun a ha => ?_) (fun _ _ _ h => h) (codeKept_all fun _ _ h => h)
      have : a ∉ foot H1 v t := fun z => o.rne (f1 a z).2 ha
      rw [out1 a this]
      exact (B.r.live t1.row ha).1
  exact q v H1 M3 t3 (OwP.rp hs t v h1 in1)
theorem gl_if (hc : GoodB K tt fb) (ha : GoodL K ta fa) (hb : GoodL K tb ga) : GoodL K (tIf tt ta tb) (lIf fb fa ga) := fun B M H σ ρ s d s' o e Q q => by
  obtain ⟨⟨b, s1⟩, e1, e⟩ := bnd e
  refine hc B M H σ ρ s b s1 o e1 _ fun H1 M1 t1 => ?_
  cases b with
  | true => exact ha B M1 H1 σ ρ s1 d s' (o.step t1) e Q fun p vs H2 M2 t2 h1 h2 h3 h4 r => q p vs H2 M2 (t1.trans t2) (t1.free h1) h2 h3 h4 r
  | false => exact hb B M1 H1 σ ρ s1 d s' (o.step t1) e Q fun p vs H2 M2 t2 h1 h2 h3 h4 r => q p vs H2 M2 (t1.trans t2) (t1.free h1) h2 h3 h4 r
end
section
variable {X : Cx} {K : PySem.W.Frag} {W : Wish} {a b c e : Expr} {es : List Expr} {pos p p2 tpos : Pos} {ta tb tc te : TE} {tt tu : TT} {f g k : SE} {fb gb : SB} {fa ga : SA} {ft : ST} {t : TA}
theorem i_zip2 {elts : List Expr} {kk : Nat} (A : DA X K [a, b] t fa) (hm : X.mg "zip" = none) (hg : Gl X "zip" := by rfl) (hs : starEach [a, b] X.env = (false, eval a X.env) :: starEach [b] X.env := by rfl) (hpl : (backTo pos (starEach [b] X.env)).any (·.1) = false := by rfl) :
    DF X K (.Tuple elts kk tpos) (.Call (.Name "zip" p) [a, b] [] pos) (iZip K t) (i2Zip fa) := by
  have hK := A.hk
  subst hK
  exact ⟨rfl, pi_zip hg hm A.pa hs hpl, gf_zip2 A.gd⟩
theorem d_d (A : DD X K a ta ft) : DE X K a ta (eD ft) := ⟨A.hk, A.pe, gd_d A.gd⟩
theorem n_if (C : DT X K c tt fb) (A : DN X K a ta fa) (B : DN X K b tb ga) : DN X K (.IfExp c a b pos) (tIf tt ta tb) (lIf fb fa ga) := by
  have hK := A.hk
  subst hK
  exact ⟨rfl, pe_ifExp C.pt A.pe B.pe, gl_if C.gd A.gd B.gd⟩
theorem d_cntD {p q : Pos} (hu : X.A.units + 64 < cLine) (A : DQ X K a ta fa) (B : DE X K b tb g) (hse : starEach (b :: []) X.env = (false, eval b X.env) :: starEach [] X.env := by rfl)
    (hbase : attributeBase a "count" X.env (eval a X.env) = eval a X.env := by rfl)
    (hfew : ((backTo p (starEach (b :: []) X.env)).all (fun x => !x.1) && (backToKw p (keywordEach [] X.env)).all (fun x => x.1.isSome)
      && decide ((b :: []).length + ([] : List Keyword).length + (if ([] : List Keyword).isEmpty then 0 else 1) < 30)) = true := by rfl)
    (hline : (q.endLine == p.line) = true := by rfl) (hplain : (backTo p (starEach [] X.env)).any (·.1) = false := by rfl) : DE X K (.Call (.Attribute a "count" q) [b] [] p) (tBM K "list" (rCntD K) ta (tCons tb tNil)) (eCntD fa g) := by
  have hK := A.hk
  subst hK
  exact ⟨rfl, pe_bm PySem.F.plainAttrs_list PySem.F.slot_list_count PySem.F.type_list_count (mt_cntD hu) A.pe (pa_cons B.pe pa_nil hse) hbase hfew hline hse hplain, gd_cntD A.gd B.gd⟩
end
section
variable {P : Program} {w : World} {K : PySem.W.Frag} {mg : Str → Option Value} {base : Heap} {x qual : Str} {st : Stmt} {f : Addr} {fd : FuncData} {N ps : List Str} {k : Nat}
theorem callee_0PD {n : Nat} (F : Fun K x qual st f fd) (hm : mg x = some (.ref f)) (S : FnScope N ps (defScope st)) (bb : bindsBy x qual st ps) : Callee P w K mg base (k + 1) x (spPD K n fun _ => none) := by
  refine ⟨f, fd, ps, F.ok S (fun vs H Q E h => ?_) (fun cdv A outer s H vs Q E hr h => ?_), hm, F.kp, F.binds bb⟩
  · obtain ⟨M, ds, d, _, r, hn, e, _⟩ := h
    cases e
  · obtain ⟨M, ds, d, hs, r, hn, e, q⟩ := h
    cases e
end
section
variable {ρ : Env} {s : Row} {f g k : SE} {fa ga : SA} {fb : SB} {ft : ST}
@[simp] theorem eCntD_ap : eCntD fa g ρ s = (fa ρ s).bind fun x => (g ρ x.2).bind fun y => if y.1.depth ≤ 60 then some (.int (x.1.countP (fun z => PyData.eqv z y.1) : Nat), y.2) else none := rfl
@[simp] theorem eD_ap : eD ft ρ s = (ft ρ s).bind fun x => some (x.1.data, x.2) := rfl
@[simp] theorem lIf_ap : lIf fb fa ga ρ s = (fb ρ s).bind fun x => if x.1 then fa ρ x.2 else ga ρ x.2 := rfl
@[simp] theorem zip2D_ap {a b : List D} : zip2D [.list a, .list b] = if a.length = b.length then some (zip2L a b) else none := rfl
@[simp] theorem i2Zip_ap : i2Zip fa ρ s = (fa ρ s).bind fun x => (zip2D x.1).bind fun y => some (y, x.2) := rfl
@[simp] theorem addD_l {a b : List D} : addD (.list a) (.list b) = chk (a.length + b.length) (.list (a ++ b)) := rfl
end
end DL

/-! Texts: str(n), int(text), len, a sign in a text, join, split; enumerate; x in a list of any data. -/
namespace DL
open PySem PySem.Spec PyProof.Rows L2
def okS (x : Str) : Bool := PyData.strOk x && decide (x.length ≤ lim)
theorem okS_rp {K : PySem.W.Frag} {M : Hp} {x : Str} (h : okS x = true) : Rp K M (.str x) (.str x) := by
  unfold okS at h
  rw [Bool.and_eq_true] at h
  exact .str x h.1 (of_decide_eq_true h.2)
theorem okS_rps {K : PySem.W.Frag} {M : Hp} : ∀ {l : List Str}, l.all okS = true → Rps K M (l.map V.str) (l.map PyData.str)
  | [], _ => .nil
  | x :: l, h => by
    rw [List.all_cons, Bool.and_eq_true] at h
    exact .cons (okS_rp h.1) (okS_rps h.2)
def strsD : List D → Option (List Str)
  | [] => some []
  | .str n :: ds => (strsD ds).bind fun ns => some (n :: ns)
  | _ => none
theorem strsD_rp {K : PySem.W.Frag} {M : Hp} : ∀ {vs : List V} {ds : List D} {ns : List Str}, Rps K M vs ds → strsD ds = some ns → vs = ns.map V.str
  | _, [], ns, r, e => by cases r; cases e; rfl
  | _, d :: ds, ns, r, e => by
    cases r with
    | cons a b =>
      cases a <;> first | (cases e; done) | skip
      obtain ⟨ms, e1, e⟩ := bnd e
      cases e
      rw [strsD_rp b e1]; rfl
/-- str(n), n below ten -/
def strND : D → Option D | .int i => if 0 ≤ i ∧ i ≤ 9 ∧ okS (toString i) = true then some (.str (toString i)) else none | _ => none
def intSD : D → Option D | .str a => if a.length ≤ 640 then (PySem.intText? a).bind fun n => some (.int n) else none | _ => none
def lenSD : D → Option D | .str a => some (.int (a.length : Nat)) | _ => none
def inSD : D → D → Option D := fun x y => match x, y with
  | .str a, .str b => if a.cps.size = 1 then some (.bool (decide (a.cps.getD 0 0 ∈ b.cps.toList))) else none
  | _, _ => none
def inDD : D → D → Option D := fun x y => match y with
  | .list ds => if SeqAt.shaped x && SeqAt.shaped (.list ds) then some (.bool (ds.any fun z => PyData.eqv z x)) else none
  | _ => none
def eJoin (f : SE) (fa : SA) : SE := fun ρ s => (f ρ s).bind fun x => (fa ρ x.2).bind fun y => match x.1 with
  | .str a => (strsD y.1).bind fun ys => if (ys.map (·.length)).sum + ys.length * a.length ≤ 16777216 ∧ okS (Txt.join a ys) = true then some (.str (Txt.join a ys), y.2) else none
  | _ => none
def splitD : D → D → Option (List D) := fun x y => match x, y with
  | .str a, .str b => if (b.length == 0) = false ∧ (Txt.split a b).length ≤ lim ∧ (Txt.split a b).all okS = true then some ((Txt.split a b).map .str) else none
  | _, _ => none
def lSplit (f g : SE) : SA := fun ρ s => (f ρ s).bind fun x => (g ρ x.2).bind fun y => (splitD x.1 y.1).bind fun z => some (z, y.2)
def enumL (l : List D) : List D := (List.range l.length).map fun i => .tuple [.int (i : Nat), l.getD i .none]
def enumD (l : List D) : Option (List D) := match l with | [.list a] => some (enumL a) | _ => none
def i1Enum (fa : SA) : SA := fun ρ s => (fa ρ s).bind fun x => (enumD x.1).bind fun y => some (y, x.2)
abbrev rStrN : List V → Hp → VK → Prop := fun xs H Q => ∃ i, xs = [.int i] ∧ i.natAbs.log2 < 1920 ∧ Q (.str (toString i)) H
abbrev rIntS : List V → Hp → VK → Prop := fun xs H Q => ∃ a n, xs = [.str a] ∧ PySem.intText? a = some n ∧ a.length ≤ 640 ∧ Q (.int n) H
abbrev rLenV (K : PySem.W.Frag) : List V → Hp → VK → Prop := fun xs H Q => ∃ x n, xs = [x] ∧ LenV K x H n ∧ Q (.int n) H
abbrev rInS : R2 := fun x y H Q => ∃ (c : Nat) (z : Str), x = .str ⟨#[c]⟩ ∧ y = .str z ∧ Q (.bl (decide (c ∈ z.cps.toList))) H
abbrev rJoin (K : PySem.W.Frag) : V → List V → Hp → VK → Prop := fun x xs H Q => ∃ a p, ∃ ys : List Str, x = .str a ∧ xs = [.ref p] ∧ (SqL K H p (ys.map V.str) ∨ SqT K H p (ys.map V.str)) ∧ (ys.map (·.length)).sum + ys.length * a.length ≤ 16777216 ∧ Q (.str (Txt.join a ys)) H
abbrev rSplit : V → List V → Hp → VK → Prop := fun x xs H Q => ∃ a b, x = .str a ∧ xs = [.str b] ∧ (b.length == 0) = false ∧ a.length + 2 ≤ sizeLine ∧ rNewStrs (Txt.split a b) H Q
theorem u65 {k : Nat} {A : Around} (r : Room k A) : A.units + 65 < cLine := by have := r.un; omega
theorem line_lim : lim + 2 ≤ sizeLine := by rw [sizeLine_eq]; decide
section
variable {K : PySem.W.Frag} {W : Wish} {B : Bx} {M H M' H' M2 H2 : Hp} {σ : L2.St} {ρ : Env} {s s' s2 : Row} {ta tb tc te tl : TE} {tt : TT} {f g k : SE} {fa ga : SA} {fb : SB} {ft : ST} {t : TA}
theorem gd_strN (ha : GoodE K ta f) : GoodE K (tCB rStrN (tCons ta tNil)) (eUn strND f) := fun B M H σ ρ s d s' o e Q q => by
  obtain ⟨⟨x, s1⟩, e1, e⟩ := bnd e
  obtain ⟨z, e3, e⟩ := bnd e
  cases e
  refine ha B M H σ ρ s x _ o e1 _ fun v H1 M1 t1 r1 => ?_
  cases r1 with
  | int n =>
    simp only [strND] at e3
    split at e3
    · rename_i h
      cases e3
      refine ⟨n, rfl, ?_, q _ H1 M1 t1 (okS_rp h.2.2)⟩
      have : n.natAbs ≤ 9 := by omega
      have : n.natAbs.log2 ≤ n.natAbs := Nat.log2_le_self _
      omega
    · cases e3
  | _ => cases e3
theorem gd_intS (ha : GoodE K ta f) : GoodE K (tCB rIntS (tCons ta tNil)) (eUn intSD f) := fun B M H σ ρ s d s' o e Q q => by
  obtain ⟨⟨x, s1⟩, e1, e⟩ := bnd e
  obtain ⟨z, e3, e⟩ := bnd e
  cases e
  refine ha B M H σ ρ s x _ o e1 _ fun v H1 M1 t1 r1 => ?_
  cases r1 with
  | str a h hl =>
    simp only [intSD] at e3
    split at e3
    · rename_i h6
      obtain ⟨n, e4, e3⟩ := bnd e3
      cases e3
      exact ⟨a, n, rfl, e4, h6, q _ H1 M1 t1 (.int _)⟩
    · cases e3
  | _ => cases e3
theorem gd_lenS (ha : GoodE K ta f) : GoodE K (tCB (rLenV K) (tCons ta tNil)) (eUn lenSD f) := fun B M H σ ρ s d s' o e Q q => by
  obtain ⟨⟨x, s1⟩, e1, e⟩ := bnd e
  obtain ⟨z, e3, e⟩ := bnd e
  cases e
  refine ha B M H σ ρ s x _ o e1 _ fun v H1 M1 t1 r1 => ?_
  cases r1 with
  | str a h hl =>
    cases e3
    exact ⟨.str a, a.length, rfl, ⟨Nat.le_trans hl (by have := line_lim; omega), rfl⟩, q _ H1 M1 t1 (.int _)⟩
  | _ => cases e3
theorem og_inS : OpG K rInS inSD := fun B M H s x y d e z hs hr rx ry e1 Q q => by
  cases rx <;> cases ry <;> first | (cases e1; done) | skip
  rename_i a ha1 ha2 b hb1 hb2
  simp only [inSD] at e1
  split at e1
  · rename_i h1
    cases e1
    refine ⟨a.cps.getD 0 0, b, ?_, rfl, q _ H M (step_refl hs hr) (.bl _)⟩
    have : a = ⟨#[a.cps.getD 0 0]⟩ := by
      obtain ⟨cps⟩ := a
      congr 1
      have h1 : cps.size = 1 := h1
      apply Array.ext
      · simp [h1]
      · intro i hi hi2
        have : i = 0 := by omega
        subst this
        simp [Array.getD, h1]
    rw [← this]
  · cases e1
theorem og_inDD : OpG K (rInD K) inDD := fun B M H s x y d e z hs hr rx ry e1 Q q => by
  cases ry with
  | lst h hl r =>
    simp only [inDD] at e1
    split at e1
    · rename_i hsh
      rw [Bool.and_eq_true] at hsh
      cases e1
      exact ⟨d, _, Rp.dp _ _ (Rp.mono (fun a w h => hs _ _ h) _ _ rx), .lst (hs.seq h) (Rps.dp _ _ (Rps.mono (fun a w h => hs _ _ h) _ _ r)), hsh.1, hsh.2, q _ H M (step_refl hs hr) (.bl _)⟩
    · cases e1
  | _ => cases e1
theorem gd_join (ha : GoodE K ta f) (hb : GoodQ K tb fa) : GoodE K (tM1 (rJoin K) ta tb) (eJoin f fa) := fun B M H σ ρ s d s' o e Q q => by
  obtain ⟨⟨x, s1⟩, e1, e⟩ := bnd e
  obtain ⟨⟨ds, s2⟩, e2, e⟩ := bnd e
  refine ha B M H σ ρ s x _ o e1 _ fun v H1 M1 t1 r1 => ?_
  cases r1 with
  | str a h hl =>
    obtain ⟨ys, e3, e⟩ := bnd e
    split at e
    · rename_i hc
      cases e
      refine ⟨⟨a, rfl⟩, hb B M1 H1 σ ρ s1 ds _ (o.step t1) e2 _ fun p vs H2 M2 t2 hs hl2 r2 => ?_⟩
      have := strsD_rp r2 e3
      subst this
      exact ⟨a, p, ys, rfl, rfl, .inl (hs H2 fun _ _ h _ => h), hc.1, q _ H2 M2 (t1.trans t2) (okS_rp hc.2)⟩
    · cases e
  | _ => cases e
theorem gl_split (ha : GoodE K ta f) (hb : GoodE K tb g) : GoodL K (tM1 rSplit ta tb) (lSplit f g) := fun B M H σ ρ s d s' o e Q q => by
  obtain ⟨⟨x, s1⟩, e1, e⟩ := bnd e
  obtain ⟨⟨y, s2⟩, e2, e⟩ := bnd e
  obtain ⟨zs, e3, e⟩ := bnd e
  obtain ⟨rfl, rfl⟩ : zs = d ∧ s2 = s' := by cases e; exact ⟨rfl, rfl⟩
  refine ha B M H σ ρ s x _ o e1 _ fun v H1 M1 t1 r1 => ?_
  cases r1 with
  | str a h hl =>
    refine ⟨⟨a, rfl⟩, hb B M1 H1 σ ρ s1 y _ (o.step t1) e2 _ fun u H2 M2 t2 r2 => ?_⟩
    cases r2 with
    | str b h2 hl2 =>
      simp only [splitD] at e3
      split at e3
      · rename_i hc
        obtain rfl : (Txt.split a b).map PyData.str = zs := by cases e3; rfl
        have t3 := t1.trans t2
        refine ⟨a, b, rfl, rfl, hc.1, Nat.le_trans (Nat.add_le_add_right hl 2) line_lim, fun l hp => ?_⟩
        have t4 := Step.lay (K := K) (B := B) (o := .lst ((Txt.split a b).map V.str)) t2.sub t2.row hp
        exact q l _ _ M2 (t3.trans t4) (t3.free hp) (t2.sub.free hp) upd_same (by rw [List.length_map]; exact hc.2.1) (okS_rps hc.2.2)
      · cases e3
    | _ => cases e3
  | _ => cases e3
theorem gf_enum (ha : GoodA K t fa) : GoodF K (iEnum K t) (i1Enum fa) := fun B M H σ ρ s ds s' o e R q => by
  obtain ⟨⟨xs, s1⟩, e1, e⟩ := bnd e
  obtain ⟨zs, e2, e⟩ := bnd e
  obtain ⟨rfl, rfl⟩ : zs = ds ∧ s1 = s' := by cases e; exact ⟨rfl, rfl⟩
  refine ha B M H σ ρ s xs _ o e1 _ fun vs H1 M1 t1 r1 => ?_
  simp only at e2
  unfold enumD at e2
  split at e2
  · rename_i a _
    obtain rfl : enumL a = zs := by cases e2; rfl
    cases r1 with
    | cons ra r1 =>
      cases r1
      cases ra with
      | @lst pa va da ha hla ra =>
        have l1 := ra.length
        refine ⟨pa, va, rfl, t1.sub.seq ha, q _ H1 M1 t1 ⟨by unfold enumL; rw [List.length_map, List.length_range, ← l1]; exact hla, _, _, by
          have := walk_enum (K := K) (a := pa) (xs := va)
          rw [l1] at this
          unfold enumL
          rw [List.length_map, List.length_range]
          exact this, fun Hc k => Same.seq k ha, fun i x Hc Hn Mc d s e1 e2 e3 k e4 y => ?_⟩⟩
        obtain ⟨T, u1, u2, rfl, hT, rfl, g1, g2⟩ := y
        have hi : i < a.length := by
          have := (List.getElem?_eq_some_iff.mp e1).1
          unfold enumL at this
          simpa using this
        have hd : d = .tuple [.int (i : Nat), a.getD i .none] := by
          unfold enumL at e1
          rw [List.getElem?_map, List.getElem?_range hi] at e1
          exact (Option.some.inj e1).symm
        subst hd
        obtain ⟨w2, hw2, rw2⟩ := ra.get (List.getElem?_eq_getElem hi)
        have g1 : some (V.int (i : Nat)) = some u1 := g1
        have g2 : va[i]? = some u2 := g2
        cases g1
        rw [g2] at hw2; cases hw2
        have t2 := Step.new (K := K) (B := B) (o := .tup [.int (i : Nat), u2]) e3 e4 hT
        have ea : a.getD i .none = a[i] := by simp [hi]
        rw [ea]
        exact ⟨_, t2, .tup (.inl (.inl upd_same)) (by show 2 ≤ lim; decide) (.cons (.int _) (Rps.mono t2.mm _ _ (Rps.mono e2 _ _ (.cons rw2 .nil))))⟩
  · cases e2
end
section
variable {X : Cx} {K : PySem.W.Frag} {W : Wish} {a b c e : Expr} {es : List Expr} {pos p p2 tpos : Pos} {ta tb tc te : TE} {tt tu : TT} {f g k : SE} {fb gb : SB} {fa ga : SA} {ft : ST} {t : TA}
theorem d_strN (A : DE X K a ta f) (hm : X.mg "str" = none) (hg : Gl X "str" := by rfl) (hs : starEach (a :: []) X.env = (false, eval a X.env) :: starEach [] X.env := by rfl) (hpl : (backTo pos (starEach [] X.env)).any (·.1) = false := by rfl) : DE X K (.Call (.Name "str" p) [a] [] pos) (tCB rStrN (tCons ta tNil)) (eUn strND f) := by
  have hK := A.hk
  subst hK
  exact ⟨rfl, pe_callTy call_str_int hg hm (by decide +kernel) (pa_cons A.pe pa_nil hs) (by decide) (by decide) hs hpl, gd_strN A.gd⟩
theorem d_intS (A : DE X K a ta f) (hm : X.mg "int" = none) (hg : Gl X "int" := by rfl) (hs : starEach (a :: []) X.env = (false, eval a X.env) :: starEach [] X.env := by rfl) (hpl : (backTo pos (starEach [] X.env)).any (·.1) = false := by rfl) : DE X K (.Call (.Name "int" p) [a] [] pos) (tCB rIntS (tCons ta tNil)) (eUn intSD f) := by
  have hK := A.hk
  subst hK
  exact ⟨rfl, pe_callTy call_int_str hg hm (by decide +kernel) (pa_cons A.pe pa_nil hs) (by decide) (by decide) hs hpl, gd_intS A.gd⟩
theorem d_lenS (A : DE X K a ta f) (hm : X.mg "len" = none) (hg : Gl X "len" := by rfl) (hs : starEach (a :: []) X.env = (false, eval a X.env) :: starEach [] X.env := by rfl) (hpl : (backTo pos (starEach [] X.env)).any (·.1) = false := by rfl) : DE X K (.Call (.Name "len" p) [a] [] pos) (tCB (rLenV K) (tCons ta tNil)) (eUn lenSD f) := by
  have hK := A.hk
  subst hK
  exact ⟨rfl, pe_callB call_len hg hm PySem.boot_len (pa_cons A.pe pa_nil hs) (by decide) (by decide) hs hpl, gd_lenS A.gd⟩
theorem c_inS : CmpOk X K .In rInS inSD := ⟨fun hK => by subst hK; exact op_in_sign, og_inS⟩
theorem c_inDD (hu : X.A.units + 65 < cLine) : CmpOk X K .In (rInD K) inDD := ⟨fun hK => by subst hK; exact op_inD hu, og_inDD⟩
theorem d_join {apos : Pos} (A : DE X K a ta f) (B : DQ X K b tb fa) (hs : starEach [b] X.env = [(false, eval b X.env)] := by rfl) (hbase : attributeBase a "join" X.env (eval a X.env) = eval a X.env := by rfl) (hline : (apos.endLine == pos.line) = true := by rfl) :
    DE X K (.Call (.Attribute a "join" apos) [b] [] pos) (tM1 (rJoin K) ta tb) (eJoin f fa) := by
  have hK := A.hk
  subst hK
  exact ⟨rfl, pe_join A.pe B.pe hs hbase hline, gd_join A.gd B.gd⟩
theorem n_split {apos : Pos} (A : DE X K a ta f) (B : DE X K b tb g) (hs : starEach [b] X.env = [(false, eval b X.env)] := by rfl) (hbase : attributeBase a "split" X.env (eval a X.env) = eval a X.env := by rfl) (hline : (apos.endLine == pos.line) = true := by rfl) :
    DN X K (.Call (.Attribute a "split" apos) [b] [] pos) (tM1 rSplit ta tb) (lSplit f g) := by
  have hK := A.hk
  subst hK
  exact ⟨rfl, pe_split A.pe B.pe hs hbase hline, gl_split A.gd B.gd⟩
theorem i_enum {elts : List Expr} {kk : Nat} (A : DA X K [a] t fa) (hm : X.mg "enumerate" = none) (hg : Gl X "enumerate" := by rfl) (hs : starEach [a] X.env = [(false, eval a X.env)] := by rfl) :
    DF X K (.Tuple elts kk tpos) (.Call (.Name "enumerate" p) [a] [] pos) (iEnum K t) (i1Enum fa) := by
  have hK := A.hk
  subst hK
  exact ⟨rfl, pi_enum hg hm A.pa hs, gf_enum A.gd⟩
end
section
variable {ρ : Env} {s : Row} {f g k : SE} {fa ga : SA} {fb : SB} {ft : ST}
def joinD (x : D) (y : List D) : Option D := match x with
  | .str a => (strsD y).bind fun ys => if (ys.map (·.length)).sum + ys.length * a.length ≤ 16777216 ∧ okS (Txt.join a ys) = true then some (.str (Txt.join a ys)) else none
  | _ => none
@[simp] theorem eJoin_ap : eJoin f fa ρ s = (f ρ s).bind fun x => (fa ρ x.2).bind fun y => (joinD x.1 y.1).bind fun z => some (z, y.2) := by
  unfold eJoin joinD
  congr 1
  funext x
  congr 1
  funext y
  split
  · cases strsD y.1 with
    | none => rfl
    | some ys =>
      simp only [Option.bind_some]
      split <;> rfl
  · rfl
@[simp] theorem lSplit_ap : lSplit f g ρ s = (f ρ s).bind fun x => (g ρ x.2).bind fun y => (splitD x.1 y.1).bind fun z => some (z, y.2) := rfl
@[simp] theorem i1Enum_ap : i1Enum fa ρ s = (fa ρ s).bind fun x => (enumD x.1).bind fun y => some (y, x.2) := rfl
@[simp] theorem enumD_ap {a : List D} : enumD [.list a] = some (enumL a) := rfl
end
end DL

/-! Objects with fields: read, written, their lists, their methods. -/
namespace DL
open PySem PySem.Spec PyProof.Rows L2
/-! ### the state of a thing among others -/
def stAt : Option Nat → Row → Option Row
  | none, s => some s
  | some k, s => match s[k]? with | some (.list sk) => some sk | _ => none
def stPut : Option Nat → Row → Row → Row
  | none, _, sk => sk
  | some k, s, sk => s.set k (.list sk)
section
variable {K : PySem.W.Frag} {B : Bx} {M H M' H' M2 H2 : Hp} {s s' sk sk' : Row} {p : LP} {k : Option Nat} {r : LT}
theorem at_mem (e : r.at k = some p) {a : Addr} (h : p.mem a) : r.mem a := by
  cases r with
  | nil => cases k <;> cases e
  | one q => cases k <;> cases e; exact h
  | many ps =>
    cases k with
    | none => cases e
    | some k => exact ⟨p, List.mem_of_getElem? e, h⟩
theorem at_ok (h : RowOk K r M H s) (e : r.at k = some p) : ∃ sk, stAt k s = some sk ∧ p.ok K M H sk := by
  cases r with
  | nil => cases k <;> cases e
  | one q => cases k <;> cases e; exact ⟨s, rfl, h⟩
  | many ps =>
    cases k with
    | none => cases e
    | some k =>
      obtain ⟨ss, h0, hl, h1, h2⟩ := h
      have e : ps[k]? = some p := e
      have hk := (List.getElem?_eq_some_iff.mp e).1
      refine ⟨ss[k]'(by omega), ?_, h1 k p _ e (List.getElem?_eq_getElem (by omega))⟩
      subst h0
      simp [stAt, List.getElem?_eq_getElem (show k < ss.length by omega)]
theorem at_put (h : RowOk K r M H s) (e : r.at k = some p) (hp : p.ok K M' H' sk') (h1 : Same M M') (h2 : ∀ a o, H a = some o → ¬ p.mem a → H' a = some o) (h3 : ∀ a o, M' a = some o → M a = some o ∨ H a = none) : RowOk K r M' H' (stPut k s sk') := by
  cases r with
  | nil => cases k <;> cases e
  | one q => cases k <;> cases e; exact hp
  | many ps =>
    cases k with
    | none => cases e
    | some k =>
      obtain ⟨ss, h0, hl, h4, h5⟩ := h
      have e : ps[k]? = some p := e
      have hk := (List.getElem?_eq_some_iff.mp e).1
      subst h0
      refine ⟨ss.set k sk', ?_, by rw [List.length_set]; exact hl, fun j q sj e1 e2 => ?_, h5⟩
      · show (ss.map PyData.list).set k (.list sk') = _
        rw [List.map_set]
      · by_cases hjk : j = k
        · subst hjk
          rw [e] at e1
          cases e1
          rw [List.getElem?_set_self (by omega)] at e2
          cases e2
          exact hp
        · rw [List.getElem?_set_ne (fun z => hjk z.symm)] at e2
          have hq := h4 j q sj e1 e2
          have hpo := h4 k p (ss[k]'(by omega)) e (List.getElem?_eq_getElem (by omega))
          refine LP.keep hq h1 (fun a ha => ?_) (fun a o ha ho => h2 a o ho fun z => h5 j k q p a hjk e1 e ha z) fun c o ho hi => h2 c o ho fun z => LP.code hpo z ho hi
          obtain ⟨g1, o, g2⟩ := LP.live hq ha
          cases z : M' a with
          | none => rfl
          | some w =>
            rcases h3 a w z with z1 | z1
            · rw [g1] at z1; cases z1
            · rw [g2] at z1; cases z1
theorem at_step (h : RowOk K B.r M H s) (e : B.r.at k = some p) (t : Step K ⟨.one p, H, M⟩ M H M' H' sk') : Step K B M H M' H' (stPut k s sk') :=
  ⟨t.mm, t.sub, fun a o h hr => t.keep a o h fun z => hr (at_mem e z), t.fresh, at_put h e t.row t.mm (fun a o h1 h2 => t.keep a o h1 h2) t.fresh⟩
/-- .. where a field's list or the fields were written -/
theorem at_write (h : RowOk K B.r M H s) (hs : Same M H) (e : B.r.at k = some p) {a : Addr} {o : HO} (ha : p.mem a) (hp : p.ok K M (upd H a o) sk') : Step K B M H M (upd H a o) (stPut k s sk') := by
  obtain ⟨sk, _, g⟩ := at_ok h e
  obtain ⟨g1, u, g2⟩ := LP.live g ha
  have keep : ∀ b w, H b = some w → ¬ p.mem b → upd H a o b = some w := fun b w h1 h2 => by
    rw [upd_ne (fun (z : b = a) => h2 (by rw [z]; exact ha))]; exact h1
  refine ⟨fun _ _ h => h, fun b w h1 => ?_, fun b w h1 hr => keep b w h1 fun z => hr (at_mem e z), fun _ _ h => .inl h, at_put h e hp (fun _ _ h => h) keep fun _ _ h => .inl h⟩
  rw [upd_ne (fun z => by rw [z, g1] at h1; cases h1)]
  exact hs _ _ h1
end
/-! ### fields by name -/
def fldD (n : Str) : List (Str × Bool) → Row → Option D
  | (m, o) :: sig, d :: s => if m = n then (if o then none else some d) else fldD n sig s
  | _, _ => none
def fldL (n : Str) : List (Str × Bool) → Row → Option (List D)
  | (m, o) :: sig, d :: s => if m = n then (match o, d with | true, .list ds => some ds | _, _ => none) else fldL n sig s
  | _, _ => none
def fldPut (n : Str) (x : D) : List (Str × Bool) → Row → Row
  | (m, _) :: sig, d :: s => if m = n then x :: s else d :: fldPut n x sig s
  | _, s => s
def sigOf (fl : List (Str × Option Addr)) : List (Str × Bool) := fl.map fun f => (f.1, f.2.isSome)
section
variable {K : PySem.W.Frag} {M H : Hp} {fl : List (Str × Option Addr)} {vs : List V} {s : Row} {n : Str}
theorem lookup_hd {m n : Str} {v : V} {l : List (Str × V)} : ((m, v) :: l).lookup n = if m = n then some v else l.lookup n := by
  rw [List.lookup_cons]
  by_cases e : m = n
  · subst e; simp
  · rw [if_neg e]
    have : (n == m) = false := by rw [beq_eq_false_iff_ne]; exact fun z => e z.symm
    rw [this]
theorem fldD_ok (h : FldsOk K M H fl vs s) {d : D} (e : fldD n (sigOf fl) s = some d) : ∃ v, ((fl.map (·.1)).zip vs).lookup n = some v ∧ Rp K M v d := by
  induction h with
  | nil => cases e
  | @dat m v x fl vs s h r ih =>
    show ∃ w, ((m, v) :: ((fl.map (·.1)).zip vs)).lookup n = some w ∧ _
    rw [lookup_hd]
    have e : (if m = n then (if false = true then none else some x) else fldD n (sigOf fl) s) = some d := e
    by_cases q : m = n
    · rw [if_pos q] at e ⊢
      cases e
      exact ⟨v, rfl, h⟩
    · rw [if_neg q] at e ⊢
      exact ih e
  | @own m p us ds fl vs s h hl hm hr r ih =>
    show ∃ w, ((m, V.ref p) :: ((fl.map (·.1)).zip vs)).lookup n = some w ∧ _
    rw [lookup_hd]
    have e : (if m = n then (if true = true then none else some (.list ds)) else fldD n (sigOf fl) s) = some d := e
    by_cases q : m = n
    · rw [if_pos q] at e; cases e
    · rw [if_neg q] at e ⊢
      exact ih e
theorem fldL_ok (h : FldsOk K M H fl vs s) (hnd : (ownF fl).Nodup) {ds : List D} (e : fldL n (sigOf fl) s = some ds) : ∃ p us, ((fl.map (·.1)).zip vs).lookup n = some (.ref p) ∧ p ∈ ownF fl ∧ H p = some (.lst us) ∧ us.length ≤ lim ∧ Rps K M us ds ∧
    ∀ us' ds', us'.length ≤ lim → Rps K M us' ds' → FldsOk K M (upd H p (.lst us')) fl vs (fldPut n (.list ds') (sigOf fl) s) := by
  induction h with
  | nil => cases e
  | @dat m v x fl vs s h r ih =>
    have e : (if m = n then none else fldL n (sigOf fl) s) = some ds := e
    by_cases q : m = n
    · rw [if_pos q] at e; cases e
    · rw [if_neg q] at e
      obtain ⟨p, us, h1, h2, h3, h4, h5, h6⟩ := ih (by simpa [ownF] using hnd) e
      refine ⟨p, us, ?_, by simpa [ownF] using h2, h3, h4, h5, fun us' ds' g1 g2 => ?_⟩
      · show ((m, v) :: ((fl.map (·.1)).zip vs)).lookup n = _
        rw [lookup_hd, if_neg q]; exact h1
      · show FldsOk K M _ _ _ (if m = n then _ else x :: fldPut n (.list ds') (sigOf fl) s)
        rw [if_neg q]
        exact .dat h (h6 us' ds' g1 g2)
  | @own m p us0 ds0 fl vs s h hl hm hr r ih =>
    have hnd2 : p ∉ ownF fl ∧ (ownF fl).Nodup := by simpa [ownF] using hnd
    have e : (if m = n then some ds0 else fldL n (sigOf fl) s) = some ds := e
    by_cases q : m = n
    · rw [if_pos q] at e
      cases e
      refine ⟨p, us0, ?_, by simp [ownF], h, hl, hr, fun us' ds' g1 g2 => ?_⟩
      · show ((m, V.ref p) :: ((fl.map (·.1)).zip vs)).lookup n = _
        rw [lookup_hd, if_pos q]
      · show FldsOk K M _ _ _ (if m = n then .list ds' :: s else _)
        rw [if_pos q]
        exact .own upd_same g1 hm g2 (r.keep (fun _ _ h => h) (fun a ha => (r.live a ha).1) fun a ha o ho => by rw [upd_ne (fun (z : a = p) => hnd2.1 (by rw [← z]; exact ha))]; exact ho)
    · rw [if_neg q] at e
      obtain ⟨p', us, h1, h2, h3, h4, h5, h6⟩ := ih hnd2.2 e
      refine ⟨p', us, ?_, by simp only [ownF, List.filterMap_cons, List.mem_cons]; exact .inr h2, h3, h4, h5, fun us' ds' g1 g2 => ?_⟩
      · show ((m, V.ref p) :: ((fl.map (·.1)).zip vs)).lookup n = _
        rw [lookup_hd, if_neg q]; exact h1
      · show FldsOk K M _ _ _ (if m = n then _ else .list ds0 :: fldPut n (.list ds') (sigOf fl) s)
        rw [if_neg q]
        exact .own (by rw [upd_ne (fun (z : p = p') => hnd2.1 (by rw [z]; exact h2))]; exact h) hl hm hr (h6 us' ds' g1 g2)
/-- a field of data is written -/
theorem fldPut_ok (h : FldsOk K M H fl vs s) {d x : D} {v : V} (e : fldD n (sigOf fl) s = some d) (hx : Rp K M v x) : ∃ vs', putF n v ((fl.map (·.1)).zip vs) = (fl.map (·.1)).zip vs' ∧ FldsOk K M H fl vs' (fldPut n x (sigOf fl) s) := by
  induction h with
  | nil => cases e
  | @dat m w y fl vs s h r ih =>
    have e : (if m = n then (if false = true then none else some y) else fldD n (sigOf fl) s) = some d := e
    by_cases q : m = n
    · refine ⟨v :: vs, ?_, ?_⟩
      · show (if m = n then (m, v) :: _ else _) = _
        rw [if_pos q]; rfl
      · show FldsOk K M H _ _ (if m = n then x :: s else _)
        rw [if_pos q]
        exact .dat hx r
    · rw [if_neg q] at e
      obtain ⟨vs', h1, h2⟩ := ih e
      refine ⟨w :: vs', ?_, ?_⟩
      · show (if m = n then _ else (m, w) :: putF n v ((fl.map (·.1)).zip vs)) = _
        rw [if_neg q, h1]; rfl
      · show FldsOk K M H _ _ (if m = n then _ else y :: fldPut n x (sigOf fl) s)
        rw [if_neg q]
        exact .dat h h2
  | @own m p us ds fl vs s h hl hm hr r ih =>
    have e : (if m = n then (if true = true then none else some (.list ds)) else fldD n (sigOf fl) s) = some d := e
    by_cases q : m = n
    · rw [if_pos q] at e; cases e
    · rw [if_neg q] at e
      obtain ⟨vs', h1, h2⟩ := ih e
      refine ⟨.ref p :: vs', ?_, ?_⟩
      · show (if m = n then _ else (m, V.ref p) :: putF n v ((fl.map (·.1)).zip vs)) = _
        rw [if_neg q, h1]; rfl
      · show FldsOk K M H _ _ (if m = n then _ else .list ds :: fldPut n x (sigOf fl) s)
        rw [if_neg q]
        exact .own h hl hm hr h2
end
end DL

/-! Objects with fields: the rules. -/
namespace DL
open PySem PySem.Spec PyProof.Rows L2
def fldP (n : Str) : List (Str × Option Addr) → Option Addr
  | (m, o) :: fl => if m = n then o else fldP n fl
  | [] => none
theorem fldL_p {K : PySem.W.Frag} {M H : Hp} {fl : List (Str × Option Addr)} {vs : List V} {s : Row} {n : Str} (h : FldsOk K M H fl vs s) {p : Addr} {ds : List D} (e : fldL n (sigOf fl) s = some ds) (h1 : ((fl.map (·.1)).zip vs).lookup n = some (.ref p)) : fldP n fl = some p := by
  induction h with
  | nil => cases e
  | @dat m v x fl vs s h r ih =>
    have e : (if m = n then none else fldL n (sigOf fl) s) = some ds := e
    have h1 : ((m, v) :: ((fl.map (·.1)).zip vs)).lookup n = some (.ref p) := h1
    rw [lookup_hd] at h1
    by_cases q : m = n
    · rw [if_pos q] at e; cases e
    · rw [if_neg q] at e h1
      show (if m = n then none else fldP n fl) = _
      rw [if_neg q]; exact ih e h1
  | @own m p' us0 ds0 fl vs s h hl hm hr r ih =>
    have e : (if m = n then some ds0 else fldL n (sigOf fl) s) = some ds := e
    have h1 : ((m, V.ref p') :: ((fl.map (·.1)).zip vs)).lookup n = some (.ref p) := h1
    rw [lookup_hd] at h1
    show (if m = n then some p' else fldP n fl) = _
    by_cases q : m = n
    · rw [if_pos q] at h1 ⊢; cases h1; rfl
    · rw [if_neg q] at e h1 ⊢
      exact ih e h1
def meAt (C : Addr) (ρ : Env) (i : Nat) : Option (Option Nat × List (Str × Bool)) := match ρ[i]? with | some (.me k C' sig) => if C' = C then some (k, sig) else none | _ => none
def eFld (C : Addr) (i : Nat) (n : Str) : SE := fun ρ s => (meAt C ρ i).bind fun m => (stAt m.1 s).bind fun sk => (fldD n m.2 sk).bind fun d => some (d, s)
def eFldNil (C : Addr) (i : Nat) (n : Str) : SE := fun ρ s => (meAt C ρ i).bind fun m => (stAt m.1 s).bind fun sk => (fldL n m.2 sk).bind fun ds => if PyData.depthAll ds ≤ 60 then some (.bool ds.isEmpty, s) else none
def eFldPop (C : Addr) (i : Nat) (n : Str) : SE := fun ρ s => (meAt C ρ i).bind fun m => (stAt m.1 s).bind fun sk => (fldL n m.2 sk).bind fun ds => (ds.getLast?).bind fun d => some (d, stPut m.1 s (fldPut n (.list ds.dropLast) m.2 sk))
def sFldSet (C : Addr) (i : Nat) (n : Str) (f : SE) : SS := fun ρ s => (f ρ s).bind fun x => (meAt C ρ i).bind fun m => (stAt m.1 x.2).bind fun sk => (fldD n m.2 sk).bind fun _ => if m.2.length < 1000 then some (.nx ρ (stPut m.1 x.2 (fldPut n x.1 m.2 sk))) else none
def sFldApp (C : Addr) (i : Nat) (n : Str) (f : SE) : SS := fun ρ s => (meAt C ρ i).bind fun m => (stAt m.1 s).bind fun sk => (fldL n m.2 sk).bind fun _ => (f ρ s).bind fun x => (stAt m.1 x.2).bind fun sk1 => (fldL n m.2 sk1).bind fun ds => if ds.length < lim then some (.nx ρ (stPut m.1 x.2 (fldPut n (.list (ds ++ [x.1])) m.2 sk1))) else none
/-- a method: handed the object first -/
def spS (K : PySem.W.Frag) (C : Addr) (sig : List (Str × Bool)) (n : Nat) (fn : List D → Row → Option (D × Row)) : Sp := fun vs H Q _ => ∃ A dx fl M us ds s d s', vs = .ref A :: us ∧ Same M H ∧ RowOk K (.one (.obj C A dx fl)) M H s ∧ sigOf fl = sig ∧ Rps K M us ds ∧ ds.length + 1 = n ∧ fn ds s = some (d, s') ∧
  ∀ v H' M', Step K ⟨.one (.obj C A dx fl), H, M⟩ M H M' H' s' → Rp K M' v d → Q v H'
def eMeth (C : Addr) (i : Nat) (nm : Str) (sig : List (Str × Bool)) (n : Nat) (fn : List D → Row → Option (D × Row)) (fa : SA) : SE := fun ρ s => (meAt C ρ i).bind fun m => if m.2 = sig then (stAt m.1 s).bind fun _ => (fa ρ s).bind fun x => if x.1.length + 1 = n then (stAt m.1 x.2).bind fun sk => (fn x.1 sk).bind fun r => some (r.1, stPut m.1 x.2 r.2) else none else none
section
variable {K : PySem.W.Frag} {W : Wish} {B : Bx} {M H M' H' M2 H2 : Hp} {σ : L2.St} {ρ : Env} {s s' s2 : Row} {ta tb tc te tl : TE} {tt : TT} {f g k : SE} {fa ga : SA} {fb : SB} {ft : ST} {t : TA} {C : Addr} {i : Nat} {n : Str}
theorem Ok.me (o : Ok K B M H σ ρ s) {i : Nat} {m : Option Nat × List (Str × Bool)} (e : meAt C ρ i = some m) : ∃ A dx fl, σ[i]? = some (some (.ref A)) ∧ B.r.at m.1 = some (.obj C A dx fl) ∧ sigOf fl = m.2 := by
  unfold meAt at e
  split at e
  · rename_i k C' sig z
    split at e
    · rename_i hC
      subst hC
      cases e
      have h := o.slots i _ z
      cases q : σ[i]? with
      | none => rw [q] at h; exact h.elim
      | some w =>
        cases w with
        | none => rw [q] at h; exact h.elim
        | some v =>
          rw [q] at h
          cases v with
          | ref A =>
            obtain ⟨dx, fl, h1, h2⟩ := h
            exact ⟨A, dx, fl, rfl, h1, h2⟩
          | _ => exact h.elim
    · cases e
  · cases e
theorem gd_fld (c : Cls K C) (na : NoAttr K C n) : GoodE K (tFld K (tVar i) n) (eFld C i n) := fun B M H σ ρ s d s' o e Q q => by
  obtain ⟨m, e1, e⟩ := bnd e
  obtain ⟨sk, e2, e⟩ := bnd e
  obtain ⟨d', e3, e⟩ := bnd e
  cases e
  obtain ⟨A, dx, fl, h1, h2, h3⟩ := o.me e1
  obtain ⟨sk', g1, g2, g3, g4, g5, vs, g6, g7⟩ := at_ok o.row h2
  rw [g1] at e2
  cases e2
  rw [← h3] at e3
  obtain ⟨v, l1, l2⟩ := fldD_ok g7 e3
  exact ⟨_, h1, A, C, dx, _, v, rfl, g6, c, na, l1, q v H M o.refl l2⟩
theorem gd_fldNil (c : Cls K C) (na : NoAttr K C n) : GoodE K (tOp (rEqM K) (tFld K (tVar i) n) (tLst tNil)) (eFldNil C i n) := fun B M H σ ρ s d s' o e Q q => by
  obtain ⟨m, e1, e⟩ := bnd e
  obtain ⟨sk, e2, e⟩ := bnd e
  obtain ⟨ds, e3, e⟩ := bnd e
  split at e
  · rename_i hdep
    cases e
    obtain ⟨A, dx, fl, h1, h2, h3⟩ := o.me e1
    obtain ⟨sk', g1, g2, g3, g4, g5, vs, g6, g7⟩ := at_ok o.row h2
    rw [g1] at e2
    cases e2
    rw [← h3] at e3
    have hnd : (ownF fl).Nodup := by
      have := g5
      simp only [List.nodup_cons] at this
      exact this.2.2
    obtain ⟨p, us, l1, l2, l3, l4, l5, l6⟩ := fldL_ok g7 hnd e3
    refine ⟨_, h1, A, C, dx, _, _, rfl, g6, c, na, l1, ?_⟩
    refine ⟨by show 0 ≤ sizeLine; omega, fun r hr => ?_⟩
    have t2 := Step.lay (K := K) (B := B) (o := .lst []) o.sub o.row hr
    have hpr : p ≠ r := fun z => by rw [z, hr] at l3; cases l3
    have lay := Rps.lay _ _ l5
    have hlay : PyData.canLay0 (.list ds) = true := by simpa [PyData.canLay0] using lay
    refine ⟨.list ds, .list [], .lst (.inl (.inl (by rw [upd_ne hpr]; exact l3))) (Rps.dp _ _ (Rps.mono (fun a w h => t2.sub a w h) _ _ l5)), .lst (.inl (.inl upd_same)) .nil, hlay, rfl, ?_, ?_⟩
    · simp [PyData.depth]; omega
    · have : PyData.eqv (.list ds) (.list []) = ds.isEmpty := by
        cases ds with
        | nil => simp [PyData.eqv, PyData.eqvAll]
        | cons a b => simp [PyData.eqv, PyData.eqvAll]
      rw [this]
      exact q _ _ M t2 (.bl _)
  · cases e
theorem rps_last : ∀ {us : List V} {ds : List D} {d : D}, Rps K M us ds → ds.getLast? = some d → ∃ v, us[us.length - 1]? = some v ∧ Rp K M v d ∧ Rps K M us.dropLast ds.dropLast
  | _, [], d, h, e => by simp at e
  | _, [x], d, h, e => by
    cases h with
    | cons a b =>
      cases b
      simp at e
      subst e
      exact ⟨_, rfl, a, .nil⟩
  | _, x :: y :: ds, d, h, e => by
    cases h with
    | cons a b =>
      rename_i u us
      have e2 : (y :: ds).getLast? = some d := by simpa [List.getLast?_cons_cons] using e
      obtain ⟨v, h1, h2, h3⟩ := rps_last b e2
      cases b with
      | cons a2 b2 =>
        rename_i u2 us2
        refine ⟨v, by simpa using h1, h2, ?_⟩
        rw [List.dropLast_cons_cons, List.dropLast_cons_cons]
        exact .cons a h3
theorem ty_list {p : Addr} {us : List V} (h : H p = some (.lst us)) : tyV K "list" (.ref p) H := .inl ⟨rfl, us, .inl (.inl h)⟩
theorem gd_fldPop (c : Cls K C) (na : NoAttr K C n) : GoodE K (tBM0 K "list" rPop (tFld K (tVar i) n)) (eFldPop C i n) := fun B M H σ ρ s d s' o e Q q => by
  obtain ⟨m, e1, e⟩ := bnd e
  obtain ⟨sk, e2, e⟩ := bnd e
  obtain ⟨ds, e3, e⟩ := bnd e
  obtain ⟨x, e4, e⟩ := bnd e
  cases e
  obtain ⟨A, dx, fl, h1, h2, h3⟩ := o.me e1
  obtain ⟨sk', g1, g2, g3, g4, g5, vs, g6, g7⟩ := at_ok o.row h2
  rw [g1] at e2
  cases e2
  rw [← h3] at e3
  have hnd : (ownF fl).Nodup := by
    have := g5
    simp only [List.nodup_cons] at this
    exact this.2.2
  have hnA : A ∉ ownF fl ∧ dx ∉ ownF fl := by
    have := g5
    simp only [List.nodup_cons, List.mem_cons, not_or] at this
    exact ⟨this.1.2, this.2.1⟩
  obtain ⟨p, us, l1, l2, l3, l4, l5, l6⟩ := fldL_ok g7 hnd e3
  obtain ⟨v, r1, r2, r3⟩ := rps_last l5 e4
  refine ⟨_, h1, A, C, dx, _, _, rfl, g6, c, na, l1, ty_list l3, p, us, v, rfl, rfl, l3, r1, ?_⟩
  have tw := at_write (o := .lst us.dropLast) o.row o.sub h2 (a := p) (.inr (.inr l2)) (sk' := fldPut n (.list ds.dropLast) (sigOf fl) sk) ⟨g2, g3, by rw [upd_ne (fun (z : dx = p) => hnA.2 (by rw [z]; exact l2))]; exact g4, g5, vs, by rw [upd_ne (fun (z : A = p) => hnA.1 (by rw [z]; exact l2))]; exact g6, l6 _ _ (by simp; omega) r3⟩
  rw [h3] at tw
  exact q v _ M tw r2
theorem gs_fldSet (c : Cls K C) (na : NoAttr K C n) (a : GoodE K te f) : GoodS K W (sFld K (tVar i) te n) (sFldSet C i n f) := fun B M H σ ρ s o ok e D q => by
  obtain ⟨⟨x, s1⟩, e0, e⟩ := bnd e
  obtain ⟨m, e1, e⟩ := bnd e
  obtain ⟨sk, e2, e⟩ := bnd e
  obtain ⟨d0, e3, e⟩ := bnd e
  split at e
  · rename_i hlen
    cases e
    refine a B M H σ ρ s x s1 ok e0 _ fun v H1 M1 t1 r1 => ?_
    have o1 := ok.step t1
    obtain ⟨A, dx, fl, h1, h2, h3⟩ := o1.me e1
    obtain ⟨sk', g1, g2, g3, g4, g5, vs, g6, g7⟩ := at_ok o1.row h2
    rw [g1] at e2
    cases e2
    rw [← h3] at e3
    have hnA : A ∉ ownF fl ∧ dx ∉ ownF fl ∧ A ≠ dx := by
      have := g5
      simp only [List.nodup_cons, List.mem_cons, not_or] at this
      exact ⟨this.1.2, this.2.1, this.1.1⟩
    obtain ⟨vs', p1, p2⟩ := fldPut_ok g7 e3 r1
    refine ⟨_, h1, A, C, dx, _, rfl, g6, c, na, ?_, ?_⟩
    · have : m.2.length = fl.length := by rw [← h3]; simp [sigOf]
      simp only [List.length_zip, List.length_map]
      omega
    · rw [p1]
      have tw := at_write (o := .ins C dx ((fl.map (·.1)).zip vs')) o1.row o1.sub h2 (a := A) (.inl rfl) (sk' := fldPut n x (sigOf fl) sk) ⟨g2, g3, by rw [upd_ne (fun (z : dx = A) => hnA.2.2 z.symm)]; exact g4, g5, vs', upd_same, p2.keep (fun _ _ h => h) (fun b hb => (p2.live b hb).1) fun b hb w hw => by rw [upd_ne (fun (z : b = A) => hnA.1 (by rw [← z]; exact hb))]; exact hw⟩
      rw [h3] at tw
      exact q σ _ M1 (o1.step tw)
  · cases e
theorem gs_fldApp (c : Cls K C) (na : NoAttr K C n) (a : GoodE K te f) : GoodS K W (tDrop (tBM K "list" rAppend (tFld K (tVar i) n) (tCons te tNil))) (sFldApp C i n f) := fun B M H σ ρ s o ok e DD q => by
  obtain ⟨m, e1, e⟩ := bnd e
  obtain ⟨sk, e2, e⟩ := bnd e
  obtain ⟨ds0, e3, e⟩ := bnd e
  obtain ⟨⟨x, s1⟩, e0, e⟩ := bnd e
  obtain ⟨sk1, e4, e⟩ := bnd e
  obtain ⟨ds, e5, e⟩ := bnd e
  split at e
  · rename_i hlen
    cases e
    obtain ⟨A, dx, fl, h1, h2, h3⟩ := ok.me e1
    have part : ∀ {M H : Hp} {s sk : Row} {ds : List D}, RowOk K B.r M H s → stAt m.1 s = some sk → fldL n m.2 sk = some ds → ∃ vs p us, H A = some (.ins C dx ((fl.map (·.1)).zip vs)) ∧ ((fl.map (·.1)).zip vs).lookup n = some (.ref p) ∧ fldP n fl = some p ∧ p ∈ ownF fl ∧ H p = some (.lst us) ∧ us.length ≤ lim ∧ Rps K M us ds ∧
        (∀ us' ds', us'.length ≤ lim → Rps K M us' ds' → LP.ok K (.obj C A dx fl) M (upd H p (.lst us')) (fldPut n (.list ds') m.2 sk)) := fun {M H s sk ds} hr e2 e3 => by
      obtain ⟨sk', g1, g2, g3, g4, g5, vs, g6, g7⟩ := at_ok hr h2
      rw [g1] at e2
      cases e2
      rw [← h3] at e3
      have hnd : (ownF fl).Nodup := by
        have := g5
        simp only [List.nodup_cons] at this
        exact this.2.2
      have hnA : A ∉ ownF fl ∧ dx ∉ ownF fl := by
        have := g5
        simp only [List.nodup_cons, List.mem_cons, not_or] at this
        exact ⟨this.1.2, this.2.1⟩
      obtain ⟨p, us, l1, l2, l3, l4, l5, l6⟩ := fldL_ok g7 hnd e3
      refine ⟨vs, p, us, g6, l1, fldL_p g7 e3 l1, l2, l3, l4, l5, fun us' ds' q1 q2 => ?_⟩
      rw [← h3]
      exact ⟨g2, g3, by rw [upd_ne (fun (z : dx = p) => hnA.2 (by rw [z]; exact l2))]; exact g4, g5, vs, by rw [upd_ne (fun (z : A = p) => hnA.1 (by rw [z]; exact l2))]; exact g6, l6 _ _ q1 q2⟩
    obtain ⟨vs, p, us, a1, a2, a3, a4, a5, a6, a7, a8⟩ := part ok.row e2 e3
    refine ⟨_, h1, A, C, dx, _, _, rfl, a1, c, na, a2, ty_list a5, ?_⟩
    refine a B M H σ ρ s x s1 ok e0 _ fun v H1 M1 t1 r1 => ?_
    have o1 := ok.step t1
    obtain ⟨vs1, p1, us1, b1, b2, b3, b4, b5, b6, b7, b8⟩ := part o1.row e4 e5
    rw [a3] at b3
    cases b3
    have hv : us1.length < lim := by rw [b7.length]; exact hlen
    refine ⟨p, us1, v, rfl, rfl, b5, lim_lt hv, ?_⟩
    have tw := at_write (o := .lst (us1 ++ [v])) o1.row o1.sub h2 (a := p) (.inr (.inr a4)) (b8 (us1 ++ [v]) (ds ++ [x]) (by rw [List.length_append]; simp; omega) (Rps.append b7 (.cons r1 .nil)))
    exact q σ _ M1 (o1.step tw)
  · cases e
theorem zip_none {n : Str} : ∀ {fl : List (Str × Option Addr)} {vs : List V}, (fl.map (·.1)).contains n = false → ((fl.map (·.1)).zip vs).lookup n = none
  | [], _, _ => rfl
  | _ :: _, [], _ => rfl
  | (m, o) :: fl, v :: vs, h => by
    show ((m, v) :: ((fl.map (·.1)).zip vs)).lookup n = none
    simp only [List.map_cons, List.contains_cons, Bool.or_eq_false_iff] at h
    rw [lookup_hd, if_neg (fun z => by rw [z] at h; simp at h)]
    exact zip_none h.2
theorem gd_meth {nm : Str} {sig : List (Str × Bool)} {k : Nat} {fn : List D → Row → Option (D × Row)} {E : XK} (hnm : (sig.map (·.1)).contains nm = false) (ha : GoodA K t fa) : GoodE K (tMeth C nm (spS K C sig k fn) [] E (tVar i) t) (eMeth C i nm sig k fn fa) := fun B M H σ ρ s d s' o e Q q => by
  obtain ⟨m, e1, e⟩ := bnd e
  split at e
  · rename_i hsig
    obtain ⟨sk, e2, e⟩ := bnd e
    obtain ⟨⟨ds, s1⟩, e3, e⟩ := bnd e
    split at e
    · rename_i hn
      obtain ⟨sk1, e4, e⟩ := bnd e
      obtain ⟨⟨y, sk2⟩, e5, e⟩ := bnd e
      cases e
      obtain ⟨A, dx, fl, h1, h2, h3⟩ := o.me e1
      obtain ⟨sk', g1, g2, g3, g4, g5, vs, g6, g7⟩ := at_ok o.row h2
      have hnm2 : (fl.map (·.1)).contains nm = false := by
        have : fl.map (·.1) = sig.map (·.1) := by rw [← hsig, ← h3]; simp [sigOf]
        rw [this]; exact hnm
      refine ⟨_, h1, A, dx, _, rfl, g6, zip_none hnm2, ?_⟩
      refine ha B M H σ ρ s ds _ o e3 _ fun us H1 M1 t1 r1 => ?_
      obtain ⟨sk3, q1, q2⟩ := at_ok t1.row h2
      have e4 : stAt m.1 s1 = some sk1 := e4
      rw [q1] at e4
      cases e4
      refine ⟨A, dx, fl, M1, us, ds, sk1, y, sk2, by rw [List.append_nil], t1.sub, q2, h3.trans hsig, r1, hn, e5, fun v H2 M2 t2 r => ?_⟩
      exact q v H2 M2 (t1.trans (at_step t1.row h2 t2)) r
    · cases e
  · cases e
end
end DL

/-! Methods: their promises; rules as bundles. -/
namespace DL
open PySem PySem.Spec PyProof.Rows L2
def envS (C : Addr) (sig : List (Str × Bool)) (N : Nat) (ds : List D) : Env := .me none C sig :: (ds.map Sl.imm ++ List.replicate (N - (ds.length + 1)) .dead)
def outS (o : Out) : Option (D × Row) := match o with | .rt d s' => some (d, s') | .rl es s' => some (.list es, s') | .nx _ s' => some (.none, s') | .rd t s' => some (t.data, s') | _ => none
def runS (C : Addr) (sig : List (Str × Bool)) (N : Nat) (b : SS) (ds : List D) (s : Row) : Option (D × Row) := (b (envS C sig N ds) s).bind outS
section
variable {K : PySem.W.Frag} {W : Wish} {B : Bx} {M H M' H' M2 H2 : Hp} {σ : L2.St} {ρ : Env} {s s' s2 : Row} {C A dx : Addr} {fl : List (Str × Option Addr)} {b : SS} {fa : SA}
theorem ok_startS {vs : List V} {ds : List D} {N : List Str} (hs : Same M H) (hr : RowOk K (.one (.obj C A dx fl)) M H s) (r : Rps K M vs ds) (hn : ds.length + 1 ≤ N.length) : Ok K ⟨.one (.obj C A dx fl), H, M⟩ M H (L2.start N (.ref A :: vs)) (envS C (sigOf fl) N.length ds) s := by
  have hl := r.length
  refine ⟨hs, fun _ _ h => h, fun _ _ h _ => h, fun _ _ h => .inl h, hr, ?_, fun i x e => ?_, fun i j x y c _ e1 _ a1 _ => ?_⟩
  · unfold L2.start envS; simp [hl]
  · unfold L2.start
    cases i with
    | zero => cases e; exact ⟨dx, fl, rfl, rfl⟩
    | succ i =>
      have := slots_data (B := ⟨.one (.obj C A dx fl), H, M⟩) (H := H) (m := N.length - (ds.length + 1)) r i x e
      simpa [hl] using this
  · cases i with
    | zero =>
      cases e1
      have : footS H ((L2.start N (.ref A :: vs))[0]?.join) (.me none C (sigOf fl)) = [] := by unfold L2.start; rfl
      rw [this] at a1; cases a1
    | succ i =>
      unfold envS at e1
      rw [no_foot (by simpa using e1)] at a1; cases a1
theorem stepS {p : LP} {M1 H1 : Hp} {s1 : Row} (ok : Ok K ⟨.one p, H, M⟩ M1 H1 [] [] s1) : Step K ⟨.one p, H, M⟩ M H M1 H1 s1 := ⟨ok.ext, ok.sub, ok.keep, ok.fresh, ok.row⟩
theorem body_S {t : TS} {vs : List V} {ds : List D} {d : D} {N : List Str} {Q : VK} (hb : GoodS K W t b) (hs : Same M H) (hr : RowOk K (.one (.obj C A dx fl)) M H s) (r : Rps K M vs ds) (hn : ds.length + 1 ≤ N.length) (e : runS C (sigOf fl) N.length b ds s = some (d, s'))
    (q : ∀ v H' M', Step K ⟨.one (.obj C A dx fl), H, M⟩ M H M' H' s' → Rp K M' v d → Q v H') : t { nx := fun _ H' => Q .non H', rt := Q } (L2.start N (.ref A :: vs)) H := by
  obtain ⟨o, e1, e⟩ := bnd e
  refine hb _ M H _ _ _ o (ok_startS hs hr r hn) e1 _ ?_
  cases o with
  | nx ρ s1 => cases e; exact fun σ1 H1 M1 ok => q _ _ _ (stepS ok.bare) .non
  | rt x s1 => cases e; exact fun v H1 M1 ok rr => q _ _ _ (stepS ok) rr
  | rl xs s1 =>
    cases e
    exact fun p us H1 M1 ok h1 h2 h3 h4 h5 rr => q _ _ _ (stepS (back_of (D := ⟨fun _ _ => True, fun _ _ => True, fun _ _ => True, fun _ _ => True⟩) ok h1 h2 h3 h4)) (.lst (.inl (.inl upd_same)) h5 (Rps.mono (same_new h2) _ _ rr))
  | bk ρ s1 => cases e
  | ct ρ s1 => cases e
  | ex x ρ s1 => cases e
  | rd t s1 =>
    cases e
    exact fun v H1 M1 ok rr _ h3 => let ⟨M2, _, ok2, rp⟩ := back_deep ok rr h3; q _ _ _ (stepS ok2) rp
/-! the row among others -/
def subAt (ρ : Env) (i : Nat) : Option Nat := match ρ[i]? with | some (.sub k) => some k | _ => none
def eCallRs (i n : Nat) (fn : List D → Row → Option (D × Row)) (fa : SA) : SE := fun ρ s => (subAt ρ i).bind fun k => (fa ρ s).bind fun x => if x.1.length + 1 = n then (stAt (some k) x.2).bind fun sk => (fn x.1 sk).bind fun r => some (r.1, stPut (some k) x.2 r.2) else none
theorem subAt_eq {i k : Nat} (h : subAt ρ i = some k) : ρ[i]? = some (.sub k) := by
  unfold subAt at h
  split at h
  · cases h; assumption
  · cases h
theorem gd_callRs (i : Nat) {n : Nat} {fn : List D → Row → Option (D × Row)} {t : TA} {E : XK} (ha : GoodA K t fa) : GoodE K (tCall (spR K n fn) [] E (tCons (tVar i) t)) (eCallRs i n fn fa) := fun B M H σ ρ s d s' o e Q q => by
  obtain ⟨k, e0, e⟩ := bnd e
  obtain ⟨⟨ds, s1⟩, e1, e⟩ := bnd e
  simp only at e
  split at e
  · rename_i hn
    obtain ⟨sk, e2, e⟩ := bnd e
    obtain ⟨⟨y, sk2⟩, e3, e⟩ := bnd e
    cases e
    obtain ⟨a, e4, ps, hr, hk⟩ := o.subAt (subAt_eq e0)
    have hat : B.r.at (some k) = some (.row a) := by rw [hr]; exact hk
    refine ⟨_, e4, ?_⟩
    refine ha B M H σ ρ s ds _ o e1 _ fun vs H1 M1 t1 r1 => ?_
    obtain ⟨sk3, q1, q2⟩ := at_ok t1.row hat
    rw [q1] at e2
    cases e2
    refine ⟨a, M1, vs, ds, sk, y, sk2, by rw [List.append_nil], t1.sub, q2, r1, hn, e3, fun v H2 M2 t2 r => ?_⟩
    exact q v H2 M2 (t1.trans (at_step t1.row hat t2)) r
  · cases e
end
/-- a method that may be called -/
structure MCallee (P : Program) (w : World) (K : PySem.W.Frag) (mg : Str → Option Value) (base : Heap) (k : Nat) (C : Addr) (nm : Str) (sp : Sp) : Prop where
  ex : ∃ f fd ps, FnOk P w K mg base CX0 k f fd ps sp ∧ Meth K C nm f ∧ Binds K fd ps []
theorem MCallee.mono {P : Program} {w : World} {K : PySem.W.Frag} {mg : Str → Option Value} {base : Heap} {j k : Nat} {C : Addr} {nm : Str} {sp : Sp} (A : MCallee P w K mg base j C nm sp) (h : j ≤ k) : MCallee P w K mg base k C nm sp := by
  obtain ⟨f, fd, ps, F, r⟩ := A.ex
  exact ⟨f, fd, ps, F.mono h, r⟩
section
variable {P : Program} {w : World} {K : PySem.W.Frag} {mg : Str → Option Value} {base : Heap} {x qual : Str} {st : Stmt} {f : Addr} {fd : FuncData} {N ps : List Str} {k : Nat} {b : SS} {C : Addr} {sig : List (Str × Bool)} {nm : Str}
theorem callee_S (F : Fun K x qual st f fd) (hm : Meth K C nm f) (S : FnScope N ps (defScope st)) (hb : BodyX P w K mg base k qual st N f b) (bb : bindsBy x qual st ps) (hl : ps.length ≤ N.length := by decide) :
    MCallee P w K mg base (k + 1) C nm (spS K C sig ps.length (runS C sig N.length b)) := by
  refine ⟨f, fd, ps, F.ok S (fun vs H Q E h => ?_) (fun cdv A outer s H vs Q E hr h => ?_), hm, F.binds bb⟩
  · obtain ⟨A, dx, fl, M, us, ds, s, d, s', rfl, _, _, _, r, hn, _⟩ := h
    rw [List.length_cons, r.length]; exact hn
  · obtain ⟨A, dx, fl, M, us, ds, s0, d, s', rfl, hs, hrow, hsig, r, hn, e, q⟩ := h
    subst hsig
    obtain ⟨t, T⟩ := hb cdv _ outer s H E hr
    exact ⟨t, T.ps, body_S T.gd hs hrow r (by rw [hn]; exact hl) e q⟩
end
section
variable {X : Cx} {K : PySem.W.Frag} {W : Wish} {a b c e : Expr} {es : List Expr} {pos p p2 apos : Pos} {ta tb tc te : TE} {tt tu : TT} {f g k : SE} {fb gb : SB} {fa ga : SA} {t : TA} {C : Addr} {n : Str}
theorem d_fld (i : Nat) {x : Str} (cl : Cls K C) (na : NoAttr K C n) (hN : X.N[i]? = some x := by rfl) (hv : Vis X.env.scope x := by first | exact Or.inl rfl | exact Or.inr (Or.inl rfl) | exact Or.inr (Or.inr rfl)) (hd : (x == ("__debug__" : Str)) = false := by decide)
    (hcd : (x == ("__classdict__" : Str)) = false := by decide) (hK : X.K = K := by rfl) (hb : attributeBase (.Name x p) n X.env (eval (.Name x p) X.env) = eval (.Name x p) X.env := by rfl) : DE X K (.Attribute (.Name x p) n pos) (tFld K (tVar i) n) (eFld C i n) := by
  subst hK
  exact ⟨rfl, pe_fld (pe_var hN hv hd hcd) hb, gd_fld cl na⟩
theorem t_fldNil (i : Nat) {x : Str} {lpos apos : Pos} (cl : Cls K C) (na : NoAttr K C n) (hu : X.A.units + 64 < cLine) (hN : X.N[i]? = some x := by rfl) (hv : Vis X.env.scope x := by first | exact Or.inl rfl | exact Or.inr (Or.inl rfl) | exact Or.inr (Or.inr rfl)) (hd : (x == ("__debug__" : Str)) = false := by decide)
    (hcd : (x == ("__classdict__" : Str)) = false := by decide) (hK : X.K = K := by rfl) (hb : attributeBase (.Name x p) n X.env (eval (.Name x p) X.env) = eval (.Name x p) X.env := by rfl) (hm : behindInMarks .Eq (.List [] lpos) = false := by first | exact nomark _ | rfl) :
    DT X K (.Compare (.Attribute (.Name x p) n apos) [.Eq] [.List [] lpos] pos) (tTest (tOp (rEqM K) (tFld K (tVar i) n) (tLst tNil))) (bVal (eFldNil C i n)) := by
  subst hK
  exact ⟨rfl, pt_cmpR (op_eqM hu) (pe_fld (pe_var hN hv hd hcd) hb) (pe_lst pa_nil) hm, gb_test (gd_fldNil cl na)⟩
theorem d_fldPop (i : Nat) {x : Str} {ap1 ap2 : Pos} (cl : Cls K C) (na : NoAttr K C n) (hN : X.N[i]? = some x := by rfl) (hv : Vis X.env.scope x := by first | exact Or.inl rfl | exact Or.inr (Or.inl rfl) | exact Or.inr (Or.inr rfl)) (hd : (x == ("__debug__" : Str)) = false := by decide)
    (hcd : (x == ("__classdict__" : Str)) = false := by decide) (hK : X.K = K := by rfl) (hb : attributeBase (.Name x p) n X.env (eval (.Name x p) X.env) = eval (.Name x p) X.env := by rfl)
    (hbase : attributeBase (.Attribute (.Name x p) n ap1) "pop" X.env (eval (.Attribute (.Name x p) n ap1) X.env) = eval (.Attribute (.Name x p) n ap1) X.env := by rfl) (hline : (ap2.endLine == pos.line) = true := by rfl) :
    DE X K (.Call (.Attribute (.Attribute (.Name x p) n ap1) "pop" ap2) [] [] pos) (tBM0 K "list" rPop (tFld K (tVar i) n)) (eFldPop C i n) := by
  subst hK
  exact ⟨rfl, pe_bm0 PySem.F.plainAttrs_list PySem.F.slot_list_pop PySem.F.type_list_pop mt_pop (pe_fld (pe_var hN hv hd hcd) hb) hbase hline, gd_fldPop cl na⟩
theorem s_fldSet (i : Nat) {x : Str} {ap1 : Pos} (cl : Cls K C) (na : NoAttr K C n) (A : DE X K e te f) (hN : X.N[i]? = some x := by rfl) (hv : Vis X.env.scope x := by first | exact Or.inl rfl | exact Or.inr (Or.inl rfl) | exact Or.inr (Or.inr rfl)) (hd : (x == ("__debug__" : Str)) = false := by decide)
    (hcd : (x == ("__classdict__" : Str)) = false := by decide) (hK : X.K = K := by rfl) (hb : swapsWith e (some (.Attribute (.Name x p) n ap1)) pos.line X.env = pure false := by rfl) :
    DS X K W (.Assign [.Attribute (.Name x p) n ap1] e pos) (sFld K (tVar i) te n) (sFldSet C i n f) := by
  subst hK
  exact ⟨rfl, ps_fld (pe_var hN hv hd hcd) A.pe hb, gs_fldSet cl na A.gd⟩
theorem s_fldApp (i : Nat) {x : Str} {ap1 q : Pos} (cl : Cls K C) (na : NoAttr K C n) (A : DE X K e te f) (hN : X.N[i]? = some x := by rfl) (hv : Vis X.env.scope x := by first | exact Or.inl rfl | exact Or.inr (Or.inl rfl) | exact Or.inr (Or.inr rfl)) (hd : (x == ("__debug__" : Str)) = false := by decide)
    (hcd : (x == ("__classdict__" : Str)) = false := by decide) (hK : X.K = K := by rfl) (hb : attributeBase (.Name x p) n X.env (eval (.Name x p) X.env) = eval (.Name x p) X.env := by rfl)
    (hse : starEach (e :: []) X.env = (false, eval e X.env) :: starEach [] X.env := by rfl)
    (hbase : attributeBase (.Attribute (.Name x p) n ap1) "append" X.env (eval (.Attribute (.Name x p) n ap1) X.env) = eval (.Attribute (.Name x p) n ap1) X.env := by rfl)
    (hfew : ((backTo p2 (starEach (e :: []) X.env)).all (fun x => !x.1) && (backToKw p2 (keywordEach [] X.env)).all (fun x => x.1.isSome)
      && decide ((e :: []).length + ([] : List Keyword).length + (if ([] : List Keyword).isEmpty then 0 else 1) < 30)) = true := by rfl)
    (hline : (q.endLine == p2.line) = true := by rfl) (hplain : (backTo p2 (starEach [] X.env)).any (·.1) = false := by rfl) (hs : swapsWith (.Call (.Attribute (.Attribute (.Name x p) n ap1) "append" q) [e] [] p2) none pos.line X.env = pure false := by rfl) :
    DS X K W (.Expr (.Call (.Attribute (.Attribute (.Name x p) n ap1) "append" q) [e] [] p2) pos) (tDrop (tBM K "list" rAppend (tFld K (tVar i) n) (tCons te tNil))) (sFldApp C i n f) := by
  subst hK
  exact ⟨rfl, ps_expr (pe_bm PySem.F.plainAttrs_list PySem.F.slot_list_append PySem.F.type_list_append mt_append (pe_fld (pe_var hN hv hd hcd) hb) (pa_cons A.pe pa_nil hse) hbase hfew hline hse hplain) hs, gs_fldApp cl na A.gd⟩
theorem d_meth (i : Nat) {x nm : Str} {kk m : Nat} {sig : List (Str × Bool)} {fn : List D → Row → Option (D × Row)} (cl : Cls K C) (Mc : MCallee X.prog X.w K X.mg X.base kk C nm (spS K C sig m fn)) (hr : Room kk X.A) (A : DA X K (e :: es) t fa) (hN : X.N[i]? = some x := by rfl) (hv : Vis X.env.scope x := by first | exact Or.inl rfl | exact Or.inr (Or.inl rfl) | exact Or.inr (Or.inr rfl)) (hd : (x == ("__debug__" : Str)) = false := by decide)
    (hcd : (x == ("__classdict__" : Str)) = false := by decide) (hK : X.K = K := by rfl) (hnm : (sig.map (·.1)).contains nm = false := by decide +kernel)
    (hst : starEach (e :: es) X.env = (false, eval e X.env) :: starEach es X.env := by rfl) (hpl : (backTo pos (starEach es X.env)).any (·.1) = false := by rfl)
    (ht : ∃ pl : Sem Bool, eval (.Call (.Attribute (.Name x p) nm apos) (e :: es) [] pos) X.env = (do
      let ov ← eval (.Name x p) X.env
      standAt apos.atName
      let (f, first) ← holding [ov] (getMethod ov nm pl)
      callWith pos f first (backTo pos (starEach (e :: es) X.env)) (backToKw pos (keywordEach [] X.env))) := by exact ⟨_, rfl⟩) :
    DE X K (.Call (.Attribute (.Name x p) nm apos) (e :: es) [] pos) (tMeth C nm (spS K C sig m fn) [] E0 (tVar i) t) (eMeth C i nm sig m fn fa) := by
  subst hK
  obtain ⟨f, fd, ps, F, hm, hb⟩ := Mc.ex
  obtain ⟨pl, ht⟩ := ht
  exact ⟨rfl, pe_meth (pl := pl) (pe_var hN hv hd hcd) cl hm F hr hb .nil pass0 A.pa hst hpl ht, gd_meth hnm A.gd⟩
theorem d_meth0 (i : Nat) {x nm : Str} {kk m : Nat} {sig : List (Str × Bool)} {fn : List D → Row → Option (D × Row)} (cl : Cls K C) (Mc : MCallee X.prog X.w K X.mg X.base kk C nm (spS K C sig m fn)) (hr : Room kk X.A) (hN : X.N[i]? = some x := by rfl) (hv : Vis X.env.scope x := by first | exact Or.inl rfl | exact Or.inr (Or.inl rfl) | exact Or.inr (Or.inr rfl)) (hd : (x == ("__debug__" : Str)) = false := by decide)
    (hcd : (x == ("__classdict__" : Str)) = false := by decide) (hK : X.K = K := by rfl) (hnm : (sig.map (·.1)).contains nm = false := by decide +kernel)
    (ht : ∃ pl : Sem Bool, eval (.Call (.Attribute (.Name x p) nm apos) [] [] pos) X.env = (do
      let ov ← eval (.Name x p) X.env
      standAt apos.atName
      let (f, first) ← holding [ov] (getMethod ov nm pl)
      callWith pos f first (backTo pos (starEach [] X.env)) (backToKw pos (keywordEach [] X.env))) := by exact ⟨_, rfl⟩) :
    DE X K (.Call (.Attribute (.Name x p) nm apos) [] [] pos) (tMeth C nm (spS K C sig m fn) [] E0 (tVar i) tNil) (eMeth C i nm sig m fn aNil) := by
  subst hK
  obtain ⟨f, fd, ps, F, hm, hb⟩ := Mc.ex
  obtain ⟨pl, ht⟩ := ht
  exact ⟨rfl, pe_meth0 (pl := pl) (pe_var hN hv hd hcd) cl hm F hr hb .nil pass0 ht, gd_meth hnm ga_nil⟩
theorem d_callRs (i : Nat) {kk n : Nat} {x y : Str} {fn : List D → Row → Option (D × Row)} (C : Callee X.prog X.w K X.mg X.base kk x (spR K n fn)) (hr : Room kk X.A) (A : DA X K es t fa) (hN : X.N[i]? = some y := by rfl) (hv : Vis X.env.scope y := by first | exact Or.inl rfl | exact Or.inr (Or.inl rfl) | exact Or.inr (Or.inr rfl))
    (hd2 : (y == ("__debug__" : Str)) = false := by decide) (hcd : (y == ("__classdict__" : Str)) = false := by decide) (hg : Gl X x := by rfl) (hdb : (x == ("__debug__" : Str)) = false := by decide)
    (he : starEach (.Name y p2 :: es) X.env = (false, eval (.Name y p2) X.env) :: starEach es X.env := by rfl) (hpl : (backTo pos (starEach es X.env)).any (·.1) = false := by rfl) : DE X K (.Call (.Name x p) (.Name y p2 :: es) [] pos) (tCall (spR K n fn) [] E0 (tCons (tVar i) t)) (eCallRs i n fn fa) := by
  have hK := A.hk
  subst hK
  obtain ⟨f, fd, ps, F, hm, hk, hb⟩ := C.ex
  exact ⟨rfl, pe_call F hr hg hm hk hb .nil pass0 (pa_cons (pe_var hN hv hd2 hcd) A.pa he) hdb he hpl, gd_callRs i A.gd⟩
end
section
variable {ρ : Env} {s : Row} {f g k : SE} {fa ga : SA} {C : Addr} {i : Nat} {n : Str}
def meOf (C : Addr) : Option Sl → Option (Option Nat × List (Str × Bool)) | some (.me k C' sig) => if C' = C then some (k, sig) else none | _ => none
@[simp] theorem meAt_ap : meAt C ρ i = meOf C ρ[i]? := by
  unfold meAt meOf
  rfl
@[simp] theorem meOf_me {k : Option Nat} {sig : List (Str × Bool)} : meOf C (some (.me k C sig)) = some (k, sig) := if_pos rfl
@[simp] theorem stAt_none : stAt none s = some s := rfl
@[simp] theorem stPut_none {sk : Row} : stPut none s sk = sk := rfl
def lstOf : Option D → Option Row | some (.list l) => some l | _ => none
@[simp] theorem lstOf_l {l : Row} : lstOf (some (.list l)) = some l := rfl
@[simp] theorem stAt_some {k : Nat} : stAt (some k) s = lstOf s[k]? := rfl
@[simp] theorem stPut_some {k : Nat} {sk : Row} : stPut (some k) s sk = s.set k (.list sk) := rfl
def subOf : Option Sl → Option Nat | some (.sub k) => some k | _ => none
@[simp] theorem subOf_s {k : Nat} : subOf (some (.sub k)) = some k := rfl
@[simp] theorem subAt_ap : subAt ρ i = subOf ρ[i]? := rfl
@[simp] theorem eFld_ap : eFld C i n ρ s = (meAt C ρ i).bind fun m => (stAt m.1 s).bind fun sk => (fldD n m.2 sk).bind fun d => some (d, s) := rfl
@[simp] theorem eFldNil_ap : eFldNil C i n ρ s = (meAt C ρ i).bind fun m => (stAt m.1 s).bind fun sk => (fldL n m.2 sk).bind fun ds => if PyData.depthAll ds ≤ 60 then some (.bool ds.isEmpty, s) else none := rfl
@[simp] theorem eFldPop_ap : eFldPop C i n ρ s = (meAt C ρ i).bind fun m => (stAt m.1 s).bind fun sk => (fldL n m.2 sk).bind fun ds => (ds.getLast?).bind fun d => some (d, stPut m.1 s (fldPut n (.list ds.dropLast) m.2 sk)) := rfl
@[simp] theorem sFldSet_ap : sFldSet C i n f ρ s = (f ρ s).bind fun x => (meAt C ρ i).bind fun m => (stAt m.1 x.2).bind fun sk => (fldD n m.2 sk).bind fun _ => if m.2.length < 1000 then some (.nx ρ (stPut m.1 x.2 (fldPut n x.1 m.2 sk))) else none := rfl
@[simp] theorem sFldApp_ap : sFldApp C i n f ρ s = (meAt C ρ i).bind fun m => (stAt m.1 s).bind fun sk => (fldL n m.2 sk).bind fun _ => (f ρ s).bind fun x => (stAt m.1 x.2).bind fun sk1 => (fldL n m.2 sk1).bind fun ds => chkA ds.length (.nx ρ (stPut m.1 x.2 (fldPut n (.list (ds ++ [x.1])) m.2 sk1))) := rfl
@[simp] theorem eMeth_ap {nm : Str} {sig : List (Str × Bool)} {k : Nat} {fn : List D → Row → Option (D × Row)} : eMeth C i nm sig k fn fa ρ s = (meAt C ρ i).bind fun m => if m.2 = sig then (stAt m.1 s).bind fun _ => (fa ρ s).bind fun x => if x.1.length + 1 = k then (stAt m.1 x.2).bind fun sk => (fn x.1 sk).bind fun r => some (r.1, stPut m.1 x.2 r.2) else none else none := rfl
@[simp] theorem eCallRs_ap {k : Nat} {fn : List D → Row → Option (D × Row)} : eCallRs i k fn fa ρ s = (subAt ρ i).bind fun m => (fa ρ s).bind fun x => if x.1.length + 1 = k then (stAt (some m) x.2).bind fun sk => (fn x.1 sk).bind fun r => some (r.1, stPut (some m) x.2 r.2) else none := rfl
@[simp] theorem outS_rt {d : D} : outS (.rt d s) = some (d, s) := rfl
@[simp] theorem outS_rl {ds : List D} : outS (.rl ds s) = some (.list ds, s) := rfl
@[simp] theorem outS_nx : outS (.nx ρ s) = some (.none, s) := rfl
end
end DL

/-! Objects made: from here to the block's end they are among what may be changed. -/
namespace DL
open PySem PySem.Spec PyProof.Rows L2
/-- a class called: what __init__ makes of the arguments -/
def spI (K : PySem.W.Frag) (C : Addr) (sig : List (Str × Bool)) (n : Nat) (fn : List D → Option Row) : Sp := fun vs H Q _ => ∃ x dx M us ds s, vs = .ref x :: us ∧ Same M H ∧ M x = none ∧ M dx = none ∧ dx ≠ x ∧ H x = some (.ins C dx []) ∧ H dx = some (.own x) ∧ Rps K M us ds ∧ ds.length + 1 = n ∧ fn ds = some s ∧
  ∀ fl H' M', sigOf fl = sig → Same M M' → Same M' H' → (∀ a o, H a = some o → a ≠ x → a ≠ dx → H' a = some o) → (∀ a o, M' a = some o → M a = some o ∨ H a = none) → LP.ok K (.obj C x dx fl) M' H' s → (∀ a ∈ ownF fl, H a = none) → Q .non H'
def cutS (L : Nat) : Sl → Sl
  | .me (some k) C sig => if k < L then .me (some k) C sig else .dead
  | .sub k => if k < L then .sub k else .dead
  | x => x
def keptS (L : Nat) : Sl → Prop
  | .me (some k) _ _ => k < L
  | .sub k => k < L
  | _ => True
theorem cutS_or (L : Nat) (x : Sl) : cutS L x = .dead ∨ (cutS L x = x ∧ keptS L x) := by
  cases x with
  | sub k =>
    by_cases hk : k < L
    · exact .inr ⟨if_pos hk, hk⟩
    · exact .inl (if_neg hk)
  | me k C sg =>
    cases k with
    | none => exact .inr ⟨rfl, trivial⟩
    | some k =>
      by_cases hk : k < L
      · exact .inr ⟨if_pos hk, hk⟩
      · exact .inl (if_neg hk)
  | _ => exact .inr ⟨rfl, trivial⟩
def cutE (L : Nat) (ρ : Env) : Env := ρ.map (cutS L)
def cutO (L : Nat) : Out → Out
  | .nx ρ s => .nx (cutE L ρ) (s.take L) | .ct ρ s => .ct (cutE L ρ) (s.take L) | .bk ρ s => .bk (cutE L ρ) (s.take L)
  | .rt d s => .rt d (s.take L) | .rl d s => .rl d (s.take L) | .rd d s => .rd d (s.take L) | .ex e ρ s => .ex e (cutE L ρ) (s.take L)
section
variable {K : PySem.W.Frag} {W : Wish} {B : Bx} {M H M' H' M2 H2 : Hp} {σ : L2.St} {ρ : Env} {s s' s1 s0 : Row} {C : Addr} {fa : SA} {t : TA} {ps : List LP} {p : LP} {sig : List (Str × Bool)} {n : Nat} {fn : List D → Option Row} {E : XK}
theorem h0_none (o : Ok K B M H σ ρ s) {a : Addr} (h : H a = none) : B.H0 a = none := by
  cases z : B.H0 a with
  | none => rfl
  | some w =>
    by_cases hm : B.r.mem a
    · obtain ⟨_, u, q⟩ := LT.live B.r o.row hm
      rw [h] at q; cases q
    · rw [o.keep a w z hm] at h; cases h
/-- one more thing that may be changed -/
theorem ok_more (ok : Ok K B M H σ ρ s) (hr : B.r = .many ps) (h1 : Same M M') (h2 : Same M' H') (h3 : ∀ a o, H a = some o → H' a = some o) (h4 : ∀ a o, M' a = some o → M a = some o ∨ H a = none) (hp : p.ok K M' H' s0) (hf : ∀ a, p.mem a → H a = none) :
    Ok K ⟨.many (ps ++ [p]), B.H0, B.M0⟩ M' H' σ ρ (s ++ [.list s0]) := by
  have mem_l : ∀ a, B.r.mem a → LT.mem (.many (ps ++ [p])) a := fun a h => by
    rw [hr] at h
    obtain ⟨q, hq, h⟩ := h
    exact ⟨q, by simp [hq], h⟩
  have mem_r : ∀ a, LT.mem (.many (ps ++ [p])) a → B.r.mem a ∨ p.mem a := fun a ⟨q, hq, h⟩ => by
    rcases List.mem_append.mp hq with hq | hq
    · exact .inl (by rw [hr]; exact ⟨q, hq, h⟩)
    · have : q = p := by simpa using hq
      subst this
      exact .inr h
  have none' : ∀ a, M a = none → (∃ o, H a = some o) → M' a = none := fun a m1 ⟨o, m2⟩ => by
    cases z : M' a with
    | none => rfl
    | some w =>
      rcases h4 a w z with z1 | z1
      · rw [m1] at z1; cases z1
      · rw [m2] at z1; cases z1
  have k1 : ∀ (i : Nat) (x : Sl), ρ[i]? = some x → ∀ a ∈ footS H (σ[i]?.join) x, H' a = H a := fun i x e a ha => by
    obtain ⟨_, _, _, w, g4⟩ := slot_foot (ok.slots i x e) a ha
    rw [h3 a w g4, g4]
  refine ⟨h2, ok.ext.trans h1, fun a o g1 g2 => h3 a o (ok.keep a o g1 fun z => g2 (mem_l a z)), fun a o g => ?_, ?_, ok.len, fun i x e => ?_, fun i j x y a hij e1 e2 a1 a2 => ?_⟩
  · rcases h4 a o g with z | z
    · exact ok.fresh a o z
    · exact .inr (h0_none ok z)
  · have row : LT.ok K (.many ps) M H s := by have := ok.row; rw [hr] at this; exact this
    obtain ⟨ss, e0, hl, g1, g2⟩ := row
    subst e0
    refine ⟨ss ++ [s0], by simp, by simp [hl], fun k q sk e1 e2 => ?_, fun j k q q' a hjk e1 e2 a1 a2 => ?_⟩
    · by_cases hk : k < ps.length
      · rw [List.getElem?_append_left hk] at e1
        rw [List.getElem?_append_left (by omega)] at e2
        have hq := g1 k q sk e1 e2
        exact LP.keep hq h1 (fun a ha => none' a (LP.live hq ha).1 (LP.live hq ha).2) (fun a o _ ho => h3 a o ho) (codeKept_all h3)
      · rw [List.getElem?_append_right (by omega)] at e1
        rw [List.getElem?_append_right (by omega)] at e2
        have hk0 : k - ps.length = 0 := by
          have := (List.getElem?_eq_some_iff.mp e1).1
          simp at this; omega
        have hk1 : k - ss.length = 0 := by omega
        rw [hk0] at e1
        rw [hk1] at e2
        cases e1; cases e2
        exact hp
    · have old : ∀ (k : Nat) (q : LP) (a : Addr), k < ps.length → (ps ++ [p])[k]? = some q → q.mem a → ∃ o, H a = some o := fun k q a hk e1 ha => by
        rw [List.getElem?_append_left hk] at e1
        have hq := g1 k q (ss[k]'(by omega)) e1 (List.getElem?_eq_getElem (by omega))
        exact (LP.live hq ha).2
      have new : ∀ (k : Nat) (q : LP), ¬ k < ps.length → (ps ++ [p])[k]? = some q → k = ps.length ∧ q = p := fun k q hk e1 => by
        have := (List.getElem?_eq_some_iff.mp e1).1
        simp at this
        have hk : k = ps.length := by omega
        subst hk
        simp at e1
        exact ⟨rfl, e1.symm⟩
      by_cases hj : j < ps.length <;> by_cases hk : k < ps.length
      · rw [List.getElem?_append_left hj] at e1
        rw [List.getElem?_append_left hk] at e2
        exact g2 j k q q' a hjk e1 e2 a1 a2
      · obtain ⟨_, rfl⟩ := new k q' hk e2
        obtain ⟨o, ho⟩ := old j q a hj e1 a1
        rw [hf a a2] at ho; cases ho
      · obtain ⟨_, rfl⟩ := new j q hj e1
        obtain ⟨o, ho⟩ := old k q' a hk e2 a2
        rw [hf a a1] at ho; cases ho
      · exact hjk ((new j q hj e1).1.trans (new k q' hk e2).1.symm)
  · have hs := slot_mono (ok.slots i x e) h1 (k1 i x e) fun a ha => by
      obtain ⟨g1, _, _, g4⟩ := slot_foot (ok.slots i x e) a ha
      exact none' a g1 g4
    have hfoot := slot_foot (ok.slots i x e)
    have hsame := footS_same (ok.slots i x e) (k1 i x e)
    cases x with
    | dead => cases σ[i]?.join <;> trivial
    | imm d =>
      cases z : σ[i]?.join with
      | none => rw [z] at hs; exact hs.elim
      | some v => rw [z] at hs; exact hs
    | own ds =>
      cases z : σ[i]?.join with
      | none => rw [z] at hs; exact hs.elim
      | some v =>
        rw [z] at hs hfoot
        cases v with
        | ref a =>
          obtain ⟨vs, a1, a2, a3, a4, a5, a6⟩ := hs
          refine ⟨vs, a1, a2, a3, a4, a5, fun m => ?_⟩
          rcases mem_r a m with m | m
          · exact a6 m
          · obtain ⟨_, _, _, o, ho⟩ := hfoot a (by simp [footS])
            rw [hf a m] at ho; cases ho
        | _ => exact hs.elim
    | row =>
      cases z : σ[i]?.join with
      | none => rw [z] at hs; exact hs.elim
      | some v =>
        rw [z] at hs
        cases v with
        | ref a =>
          have hs : B.r = .one (.row a) := hs
          rw [hr] at hs; cases hs
        | _ => exact hs.elim
    | sub k =>
      cases z : σ[i]?.join with
      | none => rw [z] at hs; exact hs.elim
      | some v =>
        rw [z] at hs
        cases v with
        | ref a =>
          obtain ⟨qs, e1, e2⟩ := hs
          rw [hr] at e1
          cases e1
          exact ⟨_, rfl, by rw [List.getElem?_append_left (List.getElem?_eq_some_iff.mp e2).1]; exact e2⟩
        | _ => exact hs.elim
    | me k C sg =>
      cases z : σ[i]?.join with
      | none => rw [z] at hs; exact hs.elim
      | some v =>
        rw [z] at hs
        cases v with
        | ref a =>
          obtain ⟨dx, fl, e1, e2⟩ := hs
          rw [hr] at e1
          cases k with
          | none => cases e1
          | some k =>
            have e1 : ps[k]? = some (.obj C a dx fl) := e1
            exact ⟨dx, fl, (by show (ps ++ [p])[k]? = _; rw [List.getElem?_append_left (List.getElem?_eq_some_iff.mp e1).1]; exact e1), e2⟩
        | _ => exact hs.elim
    | raw u =>
      cases z : σ[i]?.join with
      | none => rw [z] at hs; exact hs.elim
      | some v => rw [z] at hs; cases v <;> exact hs
    | deep td =>
      cases z : σ[i]?.join with
      | none => rw [z] at hs; exact hs.elim
      | some v =>
        rw [z] at hs hfoot hsame
        obtain ⟨a1, a2, a3⟩ := hs
        refine ⟨a1, a2, fun a ha => ⟨(a3 a ha).1, (a3 a ha).2.1, fun m => ?_⟩⟩
        rcases mem_r a m with m | m
        · exact (a3 a ha).2.2 m
        · have hsame : foot H' v td = foot H v td := by simpa [footS] using hsame
          obtain ⟨_, _, _, o, ho⟩ := hfoot a (by simp only [footS]; rw [← hsame]; exact ha)
          rw [hf a m] at ho; cases ho
  · rw [footS_same (ok.slots i x e1) (k1 i x e1)] at a1
    rw [footS_same (ok.slots j y e2) (k1 j y e2)] at a2
    exact ok.apart i j x y a hij e1 e2 a1 a2
theorem gd_make (ok : Ok K B M H σ ρ s) (hr : B.r = .many ps) (ha : GoodA K t fa) {ds : List D} (e1 : fa ρ s = some (ds, s1)) (hn : ds.length + 1 = n) (e2 : fn ds = some s0) {Q : VK}
    (q : ∀ x dx fl M' H', sigOf fl = sig → Ok K ⟨.many (ps ++ [.obj C x dx fl]), B.H0, B.M0⟩ M' H' σ ρ (s1 ++ [.list s0]) → Step K ⟨.nil, B.H0, B.M0⟩ M H M' H' [] ∨ True → (∀ a, LP.mem (.obj C x dx fl) a → B.H0 a = none) → Q (.ref x) H') : tMake C (spI K C sig n fn) [] E t σ H Q := by
  refine ha B M H σ ρ s ds s1 ok e1 _ fun vs H1 M1 t1 r1 => fun x dx hx hdx hne => ?_
  have ok1 := ok.step t1
  have mn : ∀ a, H1 a = none → M1 a = none := fun a h => by
    cases z : M1 a with
    | none => rfl
    | some w => rw [ok1.sub a w z] at h; cases h
  have up : ∀ a o, H1 a = some o → upd (upd H1 dx (.own x)) x (.ins C dx []) a = some o := fun a o h => by
    rw [upd_ne (ne_of_none h hx), upd_ne (ne_of_none h hdx)]; exact h
  have down : ∀ a, upd (upd H1 dx (.own x)) x (.ins C dx []) a = none → H1 a = none := fun a h => by
    cases z : H1 a with
    | none => rfl
    | some w => rw [up a w z] at h; cases h
  refine ⟨x, dx, M1, vs, ds, s0, by rw [List.append_nil], fun a o h => up a o (ok1.sub a o h), mn x hx, mn dx hdx, hne, upd_same, by rw [upd_ne hne]; exact upd_same, r1, hn, e2, fun fl H' M' g1 g2 g3 g4 g5 g6 g7 => ⟨rfl, ?_⟩⟩
  have hmem : ∀ a, LP.mem (.obj C x dx fl) a → H1 a = none := fun a h => by
    rcases h with h | h | h
    · rw [h]; exact hx
    · rw [h]; exact hdx
    · exact down a (g7 a h)
  have ok2 := ok_more (p := .obj C x dx fl) (s0 := s0) ok1 hr g2 g3 (fun a o h => g4 a o (up a o h) (ne_of_none h hx) (ne_of_none h hdx)) (fun a o h => (g5 a o h).imp id fun z => down a z) g6 hmem
  exact q x dx fl M' H' g1 ok2 (.inr trivial) fun a h => h0_none ok1 (hmem a h)
/-- the things made since then are forgotten -/
theorem cut_ok {ps qs : List LP} {H0 M0 : Hp} (ok : Ok K ⟨.many (ps ++ qs), H0, M0⟩ M H σ ρ s) (hf : ∀ p ∈ qs, ∀ a, p.mem a → H0 a = none) : Ok K ⟨.many ps, H0, M0⟩ M H σ (cutE ps.length ρ) (s.take ps.length) := by
  have mem_l : ∀ a, LT.mem (.many ps) a → LT.mem (.many (ps ++ qs)) a := fun a ⟨q, hq, h⟩ => ⟨q, by simp [hq], h⟩
  have at_ : ∀ (i : Nat) (y : Sl), (cutE ps.length ρ)[i]? = some y → y = .dead ∨ (ρ[i]? = some y ∧ keptS ps.length y) := fun i y e => by
    unfold cutE at e
    rw [List.getElem?_map] at e
    cases z : ρ[i]? with
    | none => rw [z] at e; cases e
    | some x =>
      rw [z] at e
      have e : cutS ps.length x = y := Option.some.inj e
      rcases cutS_or ps.length x with h | ⟨h, hk⟩
      · exact .inl (e.symm.trans h)
      · rw [h] at e
        subst e
        exact .inr ⟨rfl, hk⟩
  refine ⟨ok.sub, ok.ext, fun a o g1 g2 => ok.keep a o g1 fun ⟨q, hq, h⟩ => ?_, ok.fresh, ?_, by rw [show (cutE ps.length ρ).length = ρ.length by simp [cutE]]; exact ok.len, fun i x e => ?_, fun i j x y a hij e1 e2 a1 a2 => ?_⟩
  · rcases List.mem_append.mp hq with hq | hq
    · exact g2 ⟨q, hq, h⟩
    · have g1 : H0 a = some o := g1
      rw [hf q hq a h] at g1; cases g1
  · obtain ⟨ss, e0, hl, g1, g2⟩ := ok.row
    subst e0
    simp only [List.length_append] at hl
    refine ⟨ss.take ps.length, by rw [List.map_take], by rw [List.length_take]; omega, fun k q sk e1 e2 => ?_, fun j k q q' a hjk e1 e2 => ?_⟩
    · have hk := (List.getElem?_eq_some_iff.mp e1).1
      rw [List.getElem?_take_of_lt hk] at e2
      exact g1 k q sk (by rw [List.getElem?_append_left hk]; exact e1) e2
    · have hj := (List.getElem?_eq_some_iff.mp e1).1
      have hk := (List.getElem?_eq_some_iff.mp e2).1
      exact g2 j k q q' a hjk (by rw [List.getElem?_append_left hj]; exact e1) (by rw [List.getElem?_append_left hk]; exact e2)
  · rcases at_ i x e with rfl | ⟨e', hk⟩
    · cases σ[i]?.join <;> trivial
    · have hs := ok.slots i x e'
      cases z : σ[i]?.join with
      | none => rw [z] at hs; cases x <;> first | trivial | exact hs.elim
      | some v =>
        rw [z] at hs
        cases x with
        | dead => trivial
        | imm d => exact hs
        | own ds =>
          cases v with
          | ref a =>
            obtain ⟨vs, a1, a2, a3, a4, a5, a6⟩ := hs
            exact ⟨vs, a1, a2, a3, a4, a5, fun m => a6 (mem_l a m)⟩
          | _ => exact hs.elim
        | row =>
          cases v with
          | ref a => have hs : LT.many (ps ++ qs) = .one (.row a) := hs; cases hs
          | _ => exact hs.elim
        | sub k =>
          cases v with
          | ref a =>
            obtain ⟨rs, e1, e2⟩ := hs
            have e1 : LT.many (ps ++ qs) = .many rs := e1
            cases e1
            exact ⟨ps, rfl, by rw [List.getElem?_append_left (show k < ps.length from hk)] at e2; exact e2⟩
          | _ => exact hs.elim
        | me k C sg =>
          cases v with
          | ref a =>
            obtain ⟨dx, fl, e1, e2⟩ := hs
            cases k with
            | none => cases e1
            | some k =>
              have e1 : (ps ++ qs)[k]? = some (.obj C a dx fl) := e1
              rw [List.getElem?_append_left (show k < ps.length from hk)] at e1
              exact ⟨dx, fl, e1, e2⟩
          | _ => exact hs.elim
        | raw u => cases v <;> exact hs
        | deep td =>
          obtain ⟨a1, a2, a3⟩ := hs
          exact ⟨a1, a2, fun a ha => ⟨(a3 a ha).1, (a3 a ha).2.1, fun m => (a3 a ha).2.2 (mem_l a m)⟩⟩
  · rcases at_ i x e1 with rfl | ⟨e1', _⟩
    · rw [footS_dead] at a1; cases a1
    · rcases at_ j y e2 with rfl | ⟨e2', _⟩
      · rw [footS_dead] at a2; cases a2
      · exact ok.apart i j x y a hij e1' e2' a1 a2
theorem cut_out {ps qs : List LP} {H0 M0 : Hp} {DD : Ends} {o : Out} (hf : ∀ p ∈ qs, ∀ a, p.mem a → H0 a = none) (h : OutOk K W ⟨.many ps, H0, M0⟩ DD (cutO ps.length o)) : OutOk K W ⟨.many (ps ++ qs), H0, M0⟩ DD o := by
  have mem_l : ∀ a, LT.mem (.many ps) a → LT.mem (.many (ps ++ qs)) a := fun a ⟨q, hq, h⟩ => ⟨q, by simp [hq], h⟩
  have bare : ∀ {M H : Hp} {s : Row}, Ok K ⟨.many (ps ++ qs), H0, M0⟩ M H [] [] s → Ok K ⟨.many ps, H0, M0⟩ M H [] [] (s.take ps.length) := fun ok => cut_ok ok hf
  cases o with
  | nx ρ s => exact fun σ H M ok => h σ H M (cut_ok ok hf)
  | rt d s => exact fun v H M ok r => h v H M (bare ok) r
  | rl ds s => exact fun p vs H M ok h1 h2 h3 h4 h5 h6 => h p vs H M (bare ok) h1 h2 h3 (fun m => h4 (mem_l p m)) h5 h6
  | bk ρ s => exact fun σ H M ok => h σ H M (cut_ok ok hf)
  | ct ρ s => exact fun σ H M ok => h σ H M (cut_ok ok hf)
  | rd td s => exact fun v H M ok r1 r2 r3 => h v H M (bare ok) r1 r2 fun a ha => ⟨(r3 a ha).1, (r3 a ha).2.1, fun m => (r3 a ha).2.2 (mem_l a m)⟩
  | ex e ρ s => exact fun cls d σ H M ok r => h cls d σ H M (cut_ok ok hf) r
/-- a slot holds a thing made -/
theorem Ok.setMe (o : Ok K B M H σ ρ s) (i : Nat) {k : Option Nat} {x dx : Addr} {fl : List (Str × Option Addr)} (e : B.r.at k = some (.obj C x dx fl)) (hs : sigOf fl = sig) : Ok K B M H (σ.set i (some (.ref x))) (ρ.set i (.me k C sig)) s :=
  o.put i _ _ ⟨dx, fl, e, hs⟩ fun _ _ a _ _ h _ => by simp [footS] at h
def mkD (n : Nat) (fn : List D → Option Row) (x : List D) : Option Row := if x.length + 1 = n then fn x else none
/-- x = C(..), and what follows to the block's end; r: the row's slot -/
def sMk1 (C : Addr) (sig : List (Str × Bool)) (r i n : Nat) (fn : List D → Option Row) (fa : SA) (f : SS) : SS := fun ρ s => (subAt ρ r).bind fun _ => (fa ρ s).bind fun x => (mkD n fn x.1).bind fun s0 =>
  (f (ρ.set i (.me (some x.2.length) C sig)) (x.2 ++ [.list s0])).bind fun o => some (cutO x.2.length o)
/-- x, y = C(..), C(..) -/
def sMk2 (C : Addr) (sig : List (Str × Bool)) (r i j n : Nat) (fn : List D → Option Row) (fa fb : SA) (f : SS) : SS := fun ρ s => (subAt ρ r).bind fun _ => (fa ρ s).bind fun x => (mkD n fn x.1).bind fun s0 => (fb ρ (x.2 ++ [.list s0])).bind fun y => (mkD n fn y.1).bind fun s2 =>
  (f ((ρ.set i (.me (some x.2.length) C sig)).set j (.me (some (x.2.length + 1)) C sig)) (y.2 ++ [.list s2])).bind fun o => some (cutO x.2.length o)
theorem many_len (h : RowOk K (.many ps) M H s) : s.length = ps.length := by
  obtain ⟨ss, e0, hl, _⟩ := h
  subst e0
  simpa using hl
theorem mkD_ok {ds : List D} (e : mkD n fn ds = some s0) : ds.length + 1 = n ∧ fn ds = some s0 := by
  unfold mkD at e
  split at e
  · exact ⟨by assumption, e⟩
  · cases e
theorem gs_mk1 (r i : Nat) {ts : TS} {f : SS} (ha : GoodA K t fa) (a : GoodS K W ts f) : GoodS K W (tSeq (tAsg (tMake C (spI K C sig n fn) [] E t) (gName i)) ts) (sMk1 C sig r i n fn fa f) := fun B M H σ ρ s o ok e DD q => by
  obtain ⟨k0, e0, e⟩ := bnd e
  obtain ⟨⟨ds, s1⟩, e1, e⟩ := bnd e
  obtain ⟨s0, e2, e⟩ := bnd e
  obtain ⟨o1, e3, e⟩ := bnd e
  cases e
  obtain ⟨_, _, ps, hr, _⟩ := ok.subAt (subAt_eq e0)
  obtain ⟨hn, e2⟩ := mkD_ok e2
  obtain ⟨r0, H0, M0⟩ := B
  have hr : r0 = .many ps := hr
  subst hr
  show tMake C (spI K C sig n fn) [] E t σ H fun x H1 => ts DD (σ.set i (some x)) H1
  refine gd_make ok rfl ha e1 hn e2 fun x dx fl M' H' hsig ok2 _ hm => ?_
  have hl : s1.length = ps.length := by
    have := many_len ok2.row
    simp at this
    omega
  have e3 : f (ρ.set i (.me (some s1.length) C sig)) (s1 ++ [.list s0]) = some o1 := e3
  have q : OutOk K W ⟨.many ps, H0, M0⟩ DD (cutO s1.length o1) := q
  rw [hl] at e3 q
  have ok3 := ok2.setMe i (k := some ps.length) (C := C) (sig := sig) (x := x) (dx := dx) (fl := fl) (by show (ps ++ [_])[ps.length]? = _; simp) hsig
  exact a _ _ _ _ _ _ o1 ok3 e3 DD (cut_out (qs := [.obj C x dx fl]) (fun p hp b hb => by
    have : p = .obj C x dx fl := by simpa using hp
    subst this
    exact hm b hb) q)
theorem gs_mk2 (r i j : Nat) {t2 : TA} {fb : SA} {ts : TS} {f : SS} (ha : GoodA K t fa) (hb : GoodA K t2 fb) (a : GoodS K W ts f) : GoodS K W (tSeq (tPar i j (tCons (tMake C (spI K C sig n fn) [] E t) (tCons (tMake C (spI K C sig n fn) [] E t2) tNil))) ts) (sMk2 C sig r i j n fn fa fb f) := fun B M H σ ρ s o ok e DD q => by
  obtain ⟨k0, e0, e⟩ := bnd e
  obtain ⟨⟨ds, s1⟩, e1, e⟩ := bnd e
  obtain ⟨s0, e2, e⟩ := bnd e
  obtain ⟨⟨ds2, s2⟩, e3, e⟩ := bnd e
  obtain ⟨s02, e4, e⟩ := bnd e
  obtain ⟨o1, e5, e⟩ := bnd e
  cases e
  obtain ⟨_, _, ps, hr, _⟩ := ok.subAt (subAt_eq e0)
  obtain ⟨hn, e2⟩ := mkD_ok e2
  obtain ⟨hn2, e4⟩ := mkD_ok e4
  obtain ⟨r0, H0, M0⟩ := B
  have hr : r0 = .many ps := hr
  subst hr
  show tMake C (spI K C sig n fn) [] E t σ H fun v H1 => tMake C (spI K C sig n fn) [] E t2 σ H1 fun w H2 => ∃ v' w', [v, w] = [v', w'] ∧ ts DD ((σ.set i (some v')).set j (some w')) H2
  refine gd_make ok rfl ha e1 hn e2 fun x dx fl M' H' hsig ok2 _ hm => ?_
  refine gd_make ok2 rfl hb e3 hn2 e4 fun x2 dx2 fl2 M2 H2 hsig2 ok3 _ hm2 => ⟨_, _, rfl, ?_⟩
  have hl : s1.length = ps.length := by
    have := many_len ok2.row
    simp at this
    omega
  have e5 : f ((ρ.set i (.me (some s1.length) C sig)).set j (.me (some (s1.length + 1)) C sig)) (s2 ++ [.list s02]) = some o1 := e5
  have q : OutOk K W ⟨.many ps, H0, M0⟩ DD (cutO s1.length o1) := q
  rw [hl] at e5 q
  have ok4 := ok3.setMe i (k := some ps.length) (C := C) (sig := sig) (x := x) (dx := dx) (fl := fl) (by show ((ps ++ [_]) ++ [_])[ps.length]? = _; simp) hsig
  have ok5 := ok4.setMe j (k := some (ps.length + 1)) (C := C) (sig := sig) (x := x2) (dx := dx2) (fl := fl2) (by show ((ps ++ [_]) ++ [_])[ps.length + 1]? = _; simp) hsig2
  refine a _ _ _ _ _ _ o1 ok5 e5 DD ?_
  rw [List.append_assoc]
  exact cut_out (qs := [.obj C x dx fl, .obj C x2 dx2 fl2]) (fun p hp b hb => by
    have : p = .obj C x dx fl ∨ p = .obj C x2 dx2 fl2 := by simpa using hp
    rcases this with rfl | rfl
    · exact hm b hb
    · exact hm2 b hb) q
end
/-- the row made, the first of some things that may be changed -/
def sMkRowM (j : Nat) (f : SS) : SS := fun ρ s => (ownAt ρ j).bind fun ds => (f ((deadE ρ).set j (.sub 0)) [.list ds]).bind fun o => match o with | .rt d _ => some (.rt d s) | _ => none
theorem gs_mkRowM (j : Nat) {K : PySem.W.Frag} {W : Wish} {ts : TS} {f : SS} (a : GoodS K W ts f) : GoodS K W ts (sMkRowM j f) := fun B M H σ ρ s o ok e D q => by
  obtain ⟨ds, e1, e⟩ := bnd e
  obtain ⟨o1, e2, e⟩ := bnd e
  obtain ⟨p, vs, h0, h1, h2, h3, h4, h5, h6⟩ := ok.own (ownAt_eq e1)
  have hj : j < ρ.length := (List.getElem?_eq_some_iff.mp (ownAt_eq e1)).1
  have hj' : j < (deadE ρ).length := by unfold deadE; rw [List.length_map]; exact hj
  have at_ : ∀ (i : Nat) (x : Sl), (deadE ρ)[i]? = some x → x = .dead ∨ ∃ d, x = .imm d ∧ ρ[i]? = some (.imm d) := fun i x e => by
    unfold deadE at e
    rw [List.getElem?_map] at e
    cases z : ρ[i]? with
    | none => rw [z] at e; cases e
    | some y => rw [z] at e; cases y <;> cases e <;> first | exact .inl rfl | exact .inr ⟨_, rfl, rfl⟩
  have ok1 : Ok K ⟨.many [.row p], H, M⟩ M H σ ((deadE ρ).set j (.sub 0)) [.list ds] := by
    refine ⟨ok.sub, fun _ _ h => h, fun _ _ h _ => h, fun _ _ h => .inl h, ⟨[ds], rfl, rfl, fun k q sk e1 e2 => by
      cases k with
      | zero => cases e1; cases e2; exact ⟨h4, vs, h1, h2, h3⟩
      | succ k => simp at e1, fun k1 k2 q1 q2 a hne e1 e2 _ _ => by
      cases k1 with
      | succ k => simp at e1
      | zero =>
        cases k2 with
        | succ k => simp at e2
        | zero => exact hne rfl⟩, by rw [List.length_set]; unfold deadE; rw [List.length_map]; exact ok.len, fun i x e => ?_, fun i k x y c hik a1 a2 a3 a4 => ?_⟩
    · by_cases hi : j = i
      · subst hi
        rw [List.getElem?_set_self hj'] at e
        cases e
        rw [h0]; exact ⟨[.row p], rfl, rfl⟩
      · rw [List.getElem?_set_ne hi] at e
        rcases at_ i x e with rfl | ⟨d, rfl, e'⟩
        · trivial
        · obtain ⟨v, b1, b2⟩ := ok.imm e'
          rw [b1]; exact b2
    · by_cases hi : j = i
      · subst hi
        rw [List.getElem?_set_self hj'] at a1
        cases a1
        rw [h0] at a3
        cases a3
      · rw [List.getElem?_set_ne hi] at a1
        rcases at_ i _ a1 with e | ⟨d, e, _⟩
        · subst e; rw [footS_dead] at a3; cases a3
        · subst e; rw [footS_imm] at a3; cases a3
  refine a _ M H σ _ _ o1 ok1 e2 D ?_
  cases o1 with
  | rt d s1 =>
    cases e
    refine fun v H1 M1 ok2 rr => q v H1 M1 ⟨ok2.sub, ok.ext.trans ok2.ext, fun c u h hr => ?_, fun c u h => ?_, ?_, rfl, fun i x e => by simp at e, fun i k x y c _ e => by simp at e⟩ rr
    · exact ok2.keep c u (ok.keep c u h hr) fun z => by
        obtain ⟨w, hw, z⟩ := z
        have hw : w = .row p := by simpa using hw
        subst hw
        have z : c = p := z
        subst z
        rw [h5] at h
        cases h
    · rcases ok2.fresh c u h with z | z
      · exact ok.fresh c u z
      · refine .inr ?_
        cases w : B.H0 c with
        | none => rfl
        | some x =>
          have z : H c = none := z
          by_cases hr : B.r.mem c
          · obtain ⟨_, w, g⟩ := B.r.live ok.row hr
            rw [g] at z; cases z
          · have g := ok.keep c x w hr
            rw [g] at z; cases z
    · refine B.r.keep ok.row ok2.ext (fun c hc => ?_) (fun c w hc h => ok2.keep c _ h fun ⟨w, hw, z⟩ => h6 (by
        have hw : w = .row p := by simpa using hw
        subst hw
        rw [← (z : c = p)]; exact hc)) (fun c w h hi => ok2.keep c _ h fun ⟨w', hw, z⟩ => by
        have hw : w' = .row p := by simpa using hw
        subst hw
        have z : c = p := z
        subst z
        rw [h1] at h; cases h; exact code_lst hi)
      obtain ⟨g1, w, g2⟩ := B.r.live ok.row hc
      cases q : M1 c with
      | none => rfl
      | some u =>
        rcases ok2.fresh c u q with z | z
        · have z : M c = some u := z
          rw [g1] at z; cases z
        · have z : H c = none := z
          rw [g2] at z; cases z
  | _ => cases e
theorem ss_mkRowM (j : Nat) {X : Cx} {K : PySem.W.Frag} {W : Wish} {st : List Stmt} {ts : TS} {f : SS} (A : DSs X K W st ts f) : DSs X K W st ts (sMkRowM j f) := ⟨A.hk, A.ps, gs_mkRowM j A.gd⟩
end DL

/-! __init__: an object's fields, made one by one. -/
namespace DL
open PySem PySem.Spec PyProof.Rows L2
def meE (C : Addr) (sig : List (Str × Bool)) (ρ : Env) : Env := ρ.map fun x => match x with | .me _ _ _ => .me none C sig | x => x
abbrev SI := DL.Env → DL.Row → Option (List (Str × Bool) × Row)
def GoodI (K : PySem.W.Frag) (C : Addr) (ts : TS) (f : SI) : Prop := ∀ (x dx : Addr) (fl : List (Str × Option Addr)) (H0 M0 M H : Hp) (σ : L2.St) (ρ : Env) (s : Row) (sig' : List (Str × Bool)) (s' : Row),
  Ok K ⟨.one (.obj C x dx fl), H0, M0⟩ M H σ ρ s → (∀ a ∈ ownF fl, H0 a = none) → f ρ s = some (sig', s') → ∀ DD : Ends,
  (∀ fl' σ' ρ' M' H', sigOf fl' = sig' → Ok K ⟨.one (.obj C x dx fl'), H0, M0⟩ M' H' σ' ρ' s' → (∀ a ∈ ownF fl', H0 a = none) → DD.nx σ' H') → ts DD σ H
def endOf : Option Sl → Option (List (Str × Bool)) | some (.me none _ sig) => some sig | _ => none
def iEnd : SI := fun ρ s => (endOf ρ[0]?).bind fun sig => some (sig, s)
def iSt (f : SS) (g : SI) : SI := fun ρ s => (f ρ s).bind fun o => match o with | .nx ρ' s' => g ρ' s' | _ => none
def iFld (C : Addr) (n : Str) (f : SE) (g : SI) : SI := fun ρ s => (f ρ s).bind fun x => (meAt C ρ 0).bind fun m => if (m.2.map (·.1)).contains n = false ∧ m.1 = none ∧ m.2.length < 1000 then g (meE C (m.2 ++ [(n, false)]) ρ) (x.2 ++ [x.1]) else none
def iNil (C : Addr) (n : Str) (g : SI) : SI := fun ρ s => (meAt C ρ 0).bind fun m => if (m.2.map (·.1)).contains n = false ∧ m.1 = none ∧ m.2.length < 1000 then g (meE C (m.2 ++ [(n, true)]) ρ) (s ++ [.list []]) else none
section
variable {K : PySem.W.Frag} {W : Wish} {B : Bx} {M H M' H' M2 H2 H0 M0 : Hp} {σ : L2.St} {ρ : Env} {s s' s1 s0 : Row} {C x dx : Addr} {fl fl' : List (Str × Option Addr)} {ts us : TS} {f : SE} {te : TE} {n : Str} {g : SI} {sf : SS}
theorem FldsOk.lens {vs : List V} (h : FldsOk K M H fl vs s) : vs.length = fl.length ∧ s.length = fl.length := by
  induction h with
  | nil => exact ⟨rfl, rfl⟩
  | dat _ _ ih => simp [ih]
  | own _ _ _ _ _ ih => simp [ih]
theorem FldsOk.app {vs : List V} (h : FldsOk K M H fl vs s) {fl2 : List (Str × Option Addr)} {us : List V} {s2 : Row} (h2 : FldsOk K M H fl2 us s2) : FldsOk K M H (fl ++ fl2) (vs ++ us) (s ++ s2) := by
  induction h with
  | nil => exact h2
  | dat a _ ih => exact .dat a ih
  | own a b c d _ ih => exact .own a b c d ih
theorem putF_new {n : Str} {v : V} {o : Option Addr} : ∀ {fl : List (Str × Option Addr)} {vs : List V}, vs.length = fl.length → (fl.map (·.1)).contains n = false → putF n v ((fl.map (·.1)).zip vs) = ((fl ++ [(n, o)]).map (·.1)).zip (vs ++ [v])
  | [], [], _, _ => rfl
  | (m, o') :: fl, w :: vs, hl, h => by
    simp only [List.map_cons, List.contains_cons, Bool.or_eq_false_iff] at h
    show (if m = n then _ else (m, w) :: putF n v ((fl.map (·.1)).zip vs)) = _
    rw [if_neg (fun z => by rw [z] at h; simp at h), putF_new (o := o) (by simpa using hl) h.2]
    rfl
  | [], _ :: _, hl, _ => by simp at hl
  | _ :: _, [], hl, _ => by simp at hl
theorem ownF_app {a b : List (Str × Option Addr)} : ownF (a ++ b) = ownF a ++ ownF b := by simp [ownF]
/-- the layout changes, the slots with it -/
theorem ok_relay {s2 : Row} (ok : Ok K ⟨.one (.obj C x dx fl), H0, M0⟩ M H σ ρ s) (h1 : Same M H') (h3 : ∀ a o, H a = some o → a ≠ x → H' a = some o) (hrow : LP.ok K (.obj C x dx fl') M H' s2) (hx0 : H0 x = none ∨ True) (hmem : ∀ a, LP.mem (.obj C x dx fl) a → LP.mem (.obj C x dx fl') a)
    (hnew : ∀ a, LP.mem (.obj C x dx fl') a → LP.mem (.obj C x dx fl) a ∨ H a = none) : Ok K ⟨.one (.obj C x dx fl'), H0, M0⟩ M H' σ (meE C (sigOf fl') ρ) s2 := by
  have hxm : LP.mem (.obj C x dx fl) x := .inl rfl
  have at_ : ∀ (i : Nat) (y : Sl), (meE C (sigOf fl') ρ)[i]? = some y → (∃ k C' sg, ρ[i]? = some (.me k C' sg) ∧ y = .me none C (sigOf fl')) ∨ (ρ[i]? = some y ∧ ∀ k C' sg, y ≠ .me k C' sg) := fun i y e => by
    unfold meE at e
    rw [List.getElem?_map] at e
    cases z : ρ[i]? with
    | none => rw [z] at e; cases e
    | some w =>
      rw [z] at e
      cases w <;> cases e <;> first | exact .inl ⟨_, _, _, rfl, rfl⟩ | exact .inr ⟨rfl, fun _ _ _ h => by cases h⟩
  have live : ∀ (i : Nat) (y : Sl), ρ[i]? = some y → ∀ a ∈ footS H (σ[i]?.join) y, H' a = H a := fun i y e a ha => by
    obtain ⟨_, _, g3, w, g4⟩ := slot_foot (ok.slots i y e) a ha
    rw [h3 a w g4 (fun z => g3 (by rw [z]; exact hxm)), g4]
  refine ⟨h1, ok.ext, fun a o g1 g2 => h3 a o (ok.keep a o g1 fun z => g2 (hmem a z)) fun z => g2 (by rw [z]; exact .inl rfl), ok.fresh, hrow, by rw [show (meE C (sigOf fl') ρ).length = ρ.length by simp [meE]]; exact ok.len, fun i y e => ?_, fun i j y z a hij e1 e2 a1 a2 => ?_⟩
  · rcases at_ i y e with ⟨k, C', sg, e', rfl⟩ | ⟨e', hne⟩
    · have hs := ok.slots i _ e'
      cases z : σ[i]?.join with
      | none => rw [z] at hs; exact hs.elim
      | some v =>
        rw [z] at hs
        cases v with
        | ref a =>
          obtain ⟨dx', fl2, e1, e2⟩ := hs
          cases k with
          | some k => cases e1
          | none =>
            cases e1
            exact ⟨dx, fl', rfl, rfl⟩
        | _ => exact hs.elim
    · have hs := slot_mono (ok.slots i y e') (fun _ _ h => h) (live i y e') fun a ha => (slot_foot (ok.slots i y e') a ha).1
      have hfoot := slot_foot (ok.slots i y e')
      have hsame := footS_same (ok.slots i y e') (live i y e')
      cases z : σ[i]?.join with
      | none => rw [z] at hs; cases y <;> first | trivial | exact hs.elim
      | some v =>
        rw [z] at hs hfoot hsame
        cases y with
        | dead => trivial
        | imm d => exact hs
        | own ds =>
          cases v with
          | ref a =>
            obtain ⟨vs, a1, a2, a3, a4, a5, a6⟩ := hs
            refine ⟨vs, a1, a2, a3, a4, a5, fun m => ?_⟩
            rcases hnew a m with m | m
            · exact a6 m
            · obtain ⟨_, _, _, o, ho⟩ := hfoot a (by simp [footS])
              rw [m] at ho; cases ho
          | _ => exact hs.elim
        | row =>
          cases v with
          | ref a => have hs : LT.one (.obj C x dx fl) = .one (.row a) := hs; cases hs
          | _ => exact hs.elim
        | sub k =>
          cases v with
          | ref a =>
            obtain ⟨rs, e1, e2⟩ := hs
            have e1 : LT.one (.obj C x dx fl) = .many rs := e1
            cases e1
          | _ => exact hs.elim
        | me k C' sg => exact (hne k C' sg rfl).elim
        | raw u => cases v <;> exact hs
        | deep td =>
          obtain ⟨a1, a2, a3⟩ := hs
          refine ⟨a1, a2, fun a ha => ⟨(a3 a ha).1, (a3 a ha).2.1, fun m => ?_⟩⟩
          rcases hnew a m with m | m
          · exact (a3 a ha).2.2 m
          · have hsame : foot H' v td = foot H v td := by simpa [footS] using hsame
            obtain ⟨_, _, _, o, ho⟩ := hfoot a (by simp only [footS]; rw [← hsame]; exact ha)
            rw [m] at ho; cases ho
  · rcases at_ i y e1 with ⟨_, _, _, _, rfl⟩ | ⟨e1', _⟩
    · cases hz : σ[i]?.join with
      | none => rw [hz] at a1; cases a1
      | some v => rw [hz] at a1; cases v <;> cases a1
    · rcases at_ j z e2 with ⟨_, _, _, _, rfl⟩ | ⟨e2', _⟩
      · cases hz : σ[j]?.join with
        | none => rw [hz] at a2; cases a2
        | some v => rw [hz] at a2; cases v <;> cases a2
      · rw [footS_same (ok.slots i y e1') (live i y e1')] at a1
        rw [footS_same (ok.slots j z e2') (live j z e2')] at a2
        exact ok.apart i j y z a hij e1' e2' a1 a2
theorem me0 (ok : Ok K ⟨.one (.obj C x dx fl), H0, M0⟩ M H σ ρ s) {m : Option Nat × List (Str × Bool)} (e : meAt C ρ 0 = some m) (hm : m.1 = none) : σ[0]? = some (some (.ref x)) ∧ sigOf fl = m.2 := by
  obtain ⟨A, dx', fl2, h1, h2, h3⟩ := ok.me e
  rw [hm] at h2
  cases h2
  exact ⟨h1, h3⟩
theorem step_fld (cl : Cls K C) (na : NoAttr K C n) (a : GoodE K te f) (ok : Ok K ⟨.one (.obj C x dx fl), H0, M0⟩ M H σ ρ s) (hf : ∀ a ∈ ownF fl, H0 a = none) {d : D} (e1 : f ρ s = some (d, s1)) {m : Option Nat × List (Str × Bool)} (e2 : meAt C ρ 0 = some m)
    (hc : (m.2.map (·.1)).contains n = false ∧ m.1 = none ∧ m.2.length < 1000) (DD : Ends)
    (q : ∀ fl' σ' M' H', sigOf fl' = m.2 ++ [(n, false)] → Ok K ⟨.one (.obj C x dx fl'), H0, M0⟩ M' H' σ' (meE C (m.2 ++ [(n, false)]) ρ) (s1 ++ [d]) → (∀ a ∈ ownF fl', H0 a = none) → DD.nx σ' H') : sFld K (tVar 0) te n DD σ H := by
  refine a _ M H σ ρ s d s1 ok e1 _ fun v H1 M1 t1 r1 => ?_
  have ok1 := ok.step t1
  obtain ⟨hs0, hsig⟩ := me0 ok1 e2 hc.2.1
  obtain ⟨g2, g3, g4, g5, vs, g6, g7⟩ := ok1.row
  have hl := g7.lens
  have hnc : (fl.map (·.1)).contains n = false := by
    have : fl.map (·.1) = m.2.map (·.1) := by rw [← hsig]; simp [sigOf]
    rw [this]; exact hc.1
  have hml : m.2.length = fl.length := by rw [← hsig]; simp [sigOf]
  refine ⟨_, hs0, x, C, dx, _, rfl, g6, cl, na, by simp only [List.length_zip, List.length_map]; omega, ?_⟩
  rw [putF_new (o := none) hl.1 hnc]
  have hne : x ≠ dx ∧ x ∉ ownF fl := by
    have := g5
    simp only [List.nodup_cons, List.mem_cons, not_or] at this
    exact this.1
  have hs' : sigOf (fl ++ [(n, none)]) = m.2 ++ [(n, false)] := by rw [← hsig]; simp [sigOf]
  have ho : ownF (fl ++ [(n, none)]) = ownF fl := by simp [ownF]
  have keepF : FldsOk K M1 (upd H1 x (.ins C dx (((fl ++ [((n, none) : Str × Option Addr)]).map Prod.fst).zip (vs ++ [v])))) fl vs s1 := g7.keep (fun _ _ h => h) (fun b hb => (g7.live b hb).1) fun b hb w hw => by
    rw [upd_ne (fun (z : b = x) => hne.2 (by rw [← z]; exact hb))]; exact hw
  have hmx : LP.mem (.obj C x dx (fl ++ [(n, none)])) = LP.mem (.obj C x dx fl) := by
    funext b
    show (b = x ∨ b = dx ∨ b ∈ ownF (fl ++ [(n, none)])) = _
    rw [ho]; rfl
  have ok2 := ok_relay (fl' := fl ++ [(n, none)]) (s2 := s1 ++ [d]) (H' := upd H1 x (.ins C dx (((fl ++ [((n, none) : Str × Option Addr)]).map Prod.fst).zip (vs ++ [v])))) ok1 (fun b w h => by
      rw [upd_ne (fun (z : b = x) => by rw [z, g2] at h; cases h)]; exact ok1.sub b w h) (fun b w h hb => by rw [upd_ne hb]; exact h)
    ⟨g2, g3, by rw [upd_ne (fun (z : dx = x) => hne.1 z.symm)]; exact g4, by rw [ho]; exact g5, vs ++ [v], upd_same, keepF.app (.dat r1 .nil)⟩ (.inr trivial) (fun b hb => by rw [hmx]; exact hb) (fun b hb => .inl (by rw [hmx] at hb; exact hb))
  rw [hs'] at ok2
  exact q _ σ M1 _ hs' ok2 (by rw [ho]; exact hf)
theorem step_nil (cl : Cls K C) (na : NoAttr K C n) (ok : Ok K ⟨.one (.obj C x dx fl), H0, M0⟩ M H σ ρ s) (hf : ∀ a ∈ ownF fl, H0 a = none) {m : Option Nat × List (Str × Bool)} (e2 : meAt C ρ 0 = some m)
    (hc : (m.2.map (·.1)).contains n = false ∧ m.1 = none ∧ m.2.length < 1000) (DD : Ends)
    (q : ∀ fl' σ' M' H', sigOf fl' = m.2 ++ [(n, true)] → Ok K ⟨.one (.obj C x dx fl'), H0, M0⟩ M' H' σ' (meE C (m.2 ++ [(n, true)]) ρ) (s ++ [.list []]) → (∀ a ∈ ownF fl', H0 a = none) → DD.nx σ' H') : sFld K (tVar 0) (tLst tNil) n DD σ H := by
  refine ⟨by show 0 ≤ sizeLine; omega, fun p hp => ?_⟩
  obtain ⟨hs0, hsig⟩ := me0 ok e2 hc.2.1
  obtain ⟨g2, g3, g4, g5, vs, g6, g7⟩ := ok.row
  have hl := g7.lens
  have hnc : (fl.map (·.1)).contains n = false := by
    have : fl.map (·.1) = m.2.map (·.1) := by rw [← hsig]; simp [sigOf]
    rw [this]; exact hc.1
  have hml : m.2.length = fl.length := by rw [← hsig]; simp [sigOf]
  have hxp : x ≠ p := fun z => by rw [z, hp] at g6; cases g6
  have hdp : dx ≠ p := fun z => by rw [z, hp] at g4; cases g4
  refine ⟨_, hs0, x, C, dx, _, rfl, by rw [upd_ne hxp]; exact g6, cl, na, by simp only [List.length_zip, List.length_map]; omega, ?_⟩
  rw [putF_new (o := some p) hl.1 hnc]
  have hne : x ≠ dx ∧ x ∉ ownF fl := by
    have := g5
    simp only [List.nodup_cons, List.mem_cons, not_or] at this
    exact this.1
  have hne2 : dx ∉ ownF fl ∧ (ownF fl).Nodup := by
    have := g5
    simp only [List.nodup_cons] at this
    exact this.2
  have hpo : p ∉ ownF fl := fun z => by
    obtain ⟨_, o, h⟩ := g7.live p z
    rw [hp] at h; cases h
  have mp : M p = none := by
    cases z : M p with
    | none => rfl
    | some w => rw [ok.sub p w z] at hp; cases hp
  have hs' : sigOf (fl ++ [(n, some p)]) = m.2 ++ [(n, true)] := by rw [← hsig]; simp [sigOf]
  have ho : ownF (fl ++ [(n, some p)]) = ownF fl ++ [p] := by simp [ownF]
  let H3 : Hp := upd (upd H p (.lst [])) x (.ins C dx (((fl ++ [((n, some p) : Str × Option Addr)]).map Prod.fst).zip (vs ++ [.ref p])))
  have keepF : FldsOk K M H3 fl vs s := g7.keep (fun _ _ h => h) (fun b hb => (g7.live b hb).1) fun b hb w hw => by
    show upd (upd H p _) x _ b = _
    rw [upd_ne (fun (z : b = x) => hne.2 (by rw [← z]; exact hb)), upd_ne (fun (z : b = p) => hpo (by rw [← z]; exact hb))]; exact hw
  have hnd : (x :: dx :: (ownF fl ++ [p])).Nodup := by
    simp only [List.nodup_cons, List.mem_cons, List.mem_append, List.not_mem_nil, or_false, not_or]
    refine ⟨⟨hne.1, hne.2, hxp⟩, ⟨hne2.1, hdp⟩, ?_⟩
    rw [List.nodup_append]
    refine ⟨hne2.2, by simp, fun a ha b hb => ?_⟩
    have : b = p := by simpa using hb
    subst this
    exact fun z => hpo (by rw [← z]; exact ha)
  have ok2 := ok_relay (fl' := fl ++ [(n, some p)]) (s2 := s ++ [.list []]) (H' := H3) ok (fun b w h => by
      show upd (upd H p _) x _ b = _
      rw [upd_ne (fun (z : b = x) => by rw [z, g2] at h; cases h), upd_ne (fun (z : b = p) => by rw [z, mp] at h; cases h)]; exact ok.sub b w h)
    (fun b w h hb => by
      show upd (upd H p _) x _ b = _
      rw [upd_ne hb, upd_ne (ne_of_none h hp)]; exact h)
    ⟨g2, g3, by
      show upd (upd H p _) x _ dx = _
      rw [upd_ne (fun (z : dx = x) => hne.1 z.symm), upd_ne hdp]; exact g4, by rw [ho]; exact hnd, vs ++ [.ref p], upd_same, keepF.app (.own (us := []) (by
        show upd (upd H p _) x _ p = _
        rw [upd_ne (fun z => hxp z.symm)]; exact upd_same) (by show 0 ≤ lim; omega) mp .nil .nil)⟩ (.inr trivial)
    (fun b hb => by
      rcases hb with hb | hb | hb
      · exact .inl hb
      · exact .inr (.inl hb)
      · exact .inr (.inr (by rw [ho]; exact List.mem_append_left _ hb)))
    (fun b hb => by
      rcases hb with hb | hb | hb
      · exact .inl (.inl hb)
      · exact .inl (.inr (.inl hb))
      · rw [ho] at hb
        rcases List.mem_append.mp hb with hb | hb
        · exact .inl (.inr (.inr hb))
        · have : b = p := by simpa using hb
          rw [this]; exact .inr hp)
  rw [hs'] at ok2
  refine q _ σ M _ hs' ok2 fun a ha => ?_
  rw [ho] at ha
  rcases List.mem_append.mp ha with ha | ha
  · exact hf a ha
  · have : a = p := by simpa using ha
    rw [this]
    exact h0_none ok hp
end
end DL

/-! Classes that may be called. -/
namespace DL
open PySem PySem.Spec PyProof.Rows L2
def runI (C : Addr) (sig : List (Str × Bool)) (N : Nat) (g : SI) (ds : List D) : Option DL.Row := (g (envS C [] N ds) []).bind fun r => if r.1 = sig then some r.2 else none
structure DI (X : Cx) (K : PySem.W.Frag) (C : Addr) (st : List Stmt) (t : TS) (g : SI) : Prop where
  hk : X.K = K
  ps : PSs X st t
  gd : GoodI K C t g
structure ICallee (P : Program) (w : World) (K : PySem.W.Frag) (mg : Str → Option Value) (base : Heap) (k : Nat) (C : Addr) (sp : Sp) : Prop where
  ex : ∃ f fd ps, FnOk P w K mg base CX0 k f fd ps sp ∧ Mk K C f ∧ Binds K fd ps []
theorem ICallee.mono {P : Program} {w : World} {K : PySem.W.Frag} {mg : Str → Option Value} {base : Heap} {j k : Nat} {C : Addr} {sp : Sp} (A : ICallee P w K mg base j C sp) (h : j ≤ k) : ICallee P w K mg base k C sp := by
  obtain ⟨f, fd, ps, F, r⟩ := A.ex
  exact ⟨f, fd, ps, F.mono h, r⟩
section
variable {K : PySem.W.Frag} {W : Wish} {C : Addr} {ts us : TS} {f : SE} {te : TE} {n : Str} {g : SI} {sf : SS}
theorem gi_st (a : GoodS K W ts sf) (b : GoodI K C us g) : GoodI K C (tSeq ts us) (iSt sf g) := fun x dx fl H0 M0 M H σ ρ s sig' s' ok hf e DD q => by
  obtain ⟨o, e1, e⟩ := bnd e
  refine a _ M H σ ρ s o ok e1 _ ?_
  cases o with
  | nx ρ1 s1 => exact fun σ1 H1 M1 ok1 => b x dx fl H0 M0 M1 H1 σ1 ρ1 s1 sig' s' ok1 hf e DD q
  | _ => cases e
theorem gi_fld (cl : Cls K C) (na : NoAttr K C n) (a : GoodE K te f) (b : GoodI K C us g) : GoodI K C (tSeq (sFld K (tVar 0) te n) us) (iFld C n f g) := fun x dx fl H0 M0 M H σ ρ s sig' s' ok hf e DD q => by
  obtain ⟨⟨d, s1⟩, e1, e⟩ := bnd e
  obtain ⟨m, e2, e⟩ := bnd e
  split at e
  · rename_i hc
    exact step_fld cl na a ok hf e1 e2 hc _ fun fl' σ' M' H' h1 h2 h3 => b x dx fl' H0 M0 M' H' σ' _ _ sig' s' h2 h3 e DD q
  · cases e
theorem gi_nil1 (cl : Cls K C) (na : NoAttr K C n) : GoodI K C (sFld K (tVar 0) (tLst tNil) n) (iNil C n iEnd) := fun x dx fl H0 M0 M H σ ρ s sig' s' ok hf e DD q => by
  obtain ⟨m, e2, e⟩ := bnd e
  split at e
  · rename_i hc
    refine step_nil cl na ok hf e2 hc _ fun fl' σ' M' H' h1 h2 h3 => ?_
    obtain ⟨sg, e3, e⟩ := bnd e
    cases e
    refine q fl' σ' _ M' H' ?_ h2 h3
    rw [h1]
    unfold meAt at e2
    split at e2
    · rename_i k C' sg0 z
      have z : ρ[0]? = some (.me k C' sg0) := z
      have : (meE C (m.2 ++ [(n, true)]) ρ)[0]? = some (.me none C (m.2 ++ [(n, true)])) := by
        unfold meE
        rw [List.getElem?_map, z]
        rfl
      rw [this] at e3
      exact (Option.some.inj e3)
    · cases e2
  · cases e
theorem gi_nil (cl : Cls K C) (na : NoAttr K C n) (b : GoodI K C us g) : GoodI K C (tSeq (sFld K (tVar 0) (tLst tNil) n) us) (iNil C n g) := fun x dx fl H0 M0 M H σ ρ s sig' s' ok hf e DD q => by
  obtain ⟨m, e2, e⟩ := bnd e
  split at e
  · rename_i hc
    exact step_nil cl na ok hf e2 hc _ fun fl' σ' M' H' h1 h2 h3 => b x dx fl' H0 M0 M' H' σ' _ _ sig' s' h2 h3 e DD q
  · cases e
end
section
variable {P : Program} {w : World} {K : PySem.W.Frag} {mg : Str → Option Value} {base : Heap} {x qual : Str} {st : Stmt} {f : Addr} {fd : FuncData} {N ps : List Str} {k : Nat} {g : SI} {C : Addr} {sig : List (Str × Bool)}
theorem callee_I (F : Fun K x qual st f fd) (hm : Mk K C f) (S : FnScope N ps (defScope st))
    (hb : ∀ (cdv : Value) (A : Around) (outer : List PySem.Env) (s : Shared) (H : Hp) (E : XK), Room k (A.deeper (envOfC qual (defScope st) s.heap.objs.size f cdv)) → ∃ t, DI (cxOf CX0 P w K mg base N qual (defScope st) f cdv A outer s H E).nox K C (defBody st) t g)
    (bb : bindsBy x qual st ps) (hl : ps.length ≤ N.length := by decide) : ICallee P w K mg base (k + 1) C (spI K C sig ps.length (runI C sig N.length g)) := by
  refine ⟨f, fd, ps, F.ok S (fun vs H Q E h => ?_) (fun cdv A outer s H vs Q E hr h => ?_), hm, F.binds bb⟩
  · obtain ⟨a, dx, M, us, ds, s, rfl, _, _, _, _, _, _, r, hn, _⟩ := h
    rw [List.length_cons, r.length]; exact hn
  · obtain ⟨a, dx, M, us, ds, s0, rfl, hs, m1, m2, hne, h1, h2, r, hn, e, q⟩ := h
    obtain ⟨t, T⟩ := hb cdv _ outer s H E hr
    refine ⟨t, T.ps, ?_⟩
    obtain ⟨⟨sg, s1⟩, e1, e⟩ := bnd e
    simp only at e
    split at e
    · rename_i hsg
      cases e
      have hrow : RowOk K (.one (.obj C a dx [])) M H [] := ⟨m1, m2, h2, by simp [ownF]; exact fun z => hne z.symm, [], h1, .nil⟩
      have ok := ok_startS (C := C) (N := N) hs hrow r (by rw [hn]; exact hl)
      refine T.gd a dx [] H M M H _ _ [] sg s0 ok (fun a ha => by simp [ownF] at ha) e1 _ fun fl' σ' ρ' M' H' g1 g2 g3 => ?_
      have hrow' : LP.ok K (.obj C a dx fl') M' H' s0 := g2.row
      exact q fl' H' M' (g1.trans hsg) g2.ext g2.sub (fun b o hb hb1 hb2 => g2.keep b o hb fun z => by
        rcases z with z | z | z
        · exact hb1 z
        · exact hb2 z
        · rw [g3 b z] at hb; cases hb) g2.fresh hrow' g3
    · cases e
end
section
variable {X : Cx} {K : PySem.W.Frag} {W : Wish} {a b c e : Expr} {es es2 : List Expr} {pos p p2 apos : Pos} {ta tb tc te : TE} {ts us : TS} {f : SE} {fa fb : SA} {t t2 : TA} {C : Addr} {n : Str} {g : SI} {sf : SS} {st : Stmt} {rest : List Stmt}
theorem di_st (A : DS X K W st ts sf) (B : DI X K C rest us g) : DI X K C (st :: rest) (tSeq ts us) (iSt sf g) := by
  have hK := A.hk
  subst hK
  exact ⟨rfl, pss_cons A.ps B.ps, gi_st A.gd B.gd⟩
theorem di_fld {x : Str} {ap1 : Pos} (cl : Cls K C) (na : NoAttr K C n) (A : DE X K e te f) (B : DI X K C rest us g) (hN : X.N[0]? = some x := by rfl) (hv : Vis X.env.scope x := by first | exact Or.inl rfl | exact Or.inr (Or.inl rfl) | exact Or.inr (Or.inr rfl)) (hd : (x == ("__debug__" : Str)) = false := by decide)
    (hcd : (x == ("__classdict__" : Str)) = false := by decide) (hK : X.K = K := by rfl) (hb : swapsWith e (some (.Attribute (.Name x p) n ap1)) pos.line X.env = pure false := by rfl) :
    DI X K C (.Assign [.Attribute (.Name x p) n ap1] e pos :: rest) (tSeq (sFld K (tVar 0) te n) us) (iFld C n f g) := by
  subst hK
  exact ⟨rfl, pss_cons (ps_fld (pe_var hN hv hd hcd) A.pe hb) B.ps, gi_fld cl na A.gd B.gd⟩
theorem di_nil1 {x : Str} {ap1 lpos : Pos} (cl : Cls K C) (na : NoAttr K C n) (hN : X.N[0]? = some x := by rfl) (hv : Vis X.env.scope x := by first | exact Or.inl rfl | exact Or.inr (Or.inl rfl) | exact Or.inr (Or.inr rfl)) (hd : (x == ("__debug__" : Str)) = false := by decide)
    (hcd : (x == ("__classdict__" : Str)) = false := by decide) (hK : X.K = K := by rfl) (hb : swapsWith (.List [] lpos) (some (.Attribute (.Name x p) n ap1)) pos.line X.env = pure false := by rfl) :
    DI X K C [.Assign [.Attribute (.Name x p) n ap1] (.List [] lpos) pos] (sFld K (tVar 0) (tLst tNil) n) (iNil C n iEnd) := by
  subst hK
  exact ⟨rfl, pss_one (ps_fld (pe_var hN hv hd hcd) (pe_lst pa_nil) hb), gi_nil1 cl na⟩
theorem ss_mk1 (r i : Nat) {x cn : Str} {q : Pos} {kk m : Nat} {sig : List (Str × Bool)} {fn : List D → Option DL.Row} (I : ICallee X.prog X.w K X.mg X.base kk C (spI K C sig m fn)) (hmg : X.mg cn = some (.ref C)) (hr : Room (kk + 1) X.A) (A : DA X K (e :: es) t fa) (R : DSs X K W rest ts sf) (nd : X.N.Nodup)
    (hi : X.N[i]? = some x := by rfl) (hx : Loc X.env.scope x := by first | exact .inl rfl | exact .inr rfl) (hs : swapsWith (.Call (.Name cn p) (e :: es) [] p2) (some (.Name x q)) pos.line X.env = pure false := by rfl)
    (hf : X.fn x = true ∨ X.env.scope.names.lookup x = some .local := by first | exact .inl rfl | exact .inr rfl) (hg : Gl X cn := by rfl) (hdb : (cn == ("__debug__" : Str)) = false := by decide)
    (he : starEach (e :: es) X.env = (false, eval e X.env) :: starEach es X.env := by rfl) (hpl : (backTo p2 (starEach es X.env)).any (·.1) = false := by rfl) :
    DSs X K W (.Assign [.Name x q] (.Call (.Name cn p) (e :: es) [] p2) pos :: rest) (tSeq (tAsg (tMake C (spI K C sig m fn) [] E0 t) (gName i)) ts) (sMk1 C sig r i m fn fa sf) := by
  have hK := A.hk
  subst hK
  obtain ⟨f, fd, ps, F, hm, hb⟩ := I.ex
  exact ⟨rfl, pss_cons (ps_set nd hi hx (pe_make hm F hr hg hmg hb .nil pass0 A.pa hdb he hpl) hs hf) R.ps, gs_mk1 r i A.gd R.gd⟩
theorem ss_mk2 (r i j : Nat) {x y cn : Str} {px py pt pt2 pc1 pc2 pn1 pn2 : Pos} {kt k2} {kk m : Nat} {sig : List (Str × Bool)} {fn : List D → Option DL.Row} (I : ICallee X.prog X.w K X.mg X.base kk C (spI K C sig m fn)) (hmg : X.mg cn = some (.ref C)) (hr : Room (kk + 1) X.A) (A : DA X K (e :: es) t fa) (B : DA X K (a :: es2) t2 fb) (R : DSs X K W rest ts sf) (nd : X.N.Nodup)
    (hij : i ≠ j := by decide) (hc : X.calm = true := by rfl) (hi : X.N[i]? = some x := by rfl) (hj : X.N[j]? = some y := by rfl) (hx : X.env.scope.names.lookup x = some .local := by rfl) (hy : X.env.scope.names.lookup y = some .local := by rfl)
    (hg : Gl X cn := by rfl) (hdb : (cn == ("__debug__" : Str)) = false := by decide)
    (he : starEach (e :: es) X.env = (false, eval e X.env) :: starEach es X.env := by rfl) (hpl : (backTo pc1 (starEach es X.env)).any (·.1) = false := by rfl)
    (he2 : starEach (a :: es2) X.env = (false, eval a X.env) :: starEach es2 X.env := by rfl) (hpl2 : (backTo pc2 (starEach es2 X.env)).any (·.1) = false := by rfl)
    (hs1 : starEach [.Call (.Name cn pn1) (e :: es) [] pc1, .Call (.Name cn pn2) (a :: es2) [] pc2] X.env = (false, eval (.Call (.Name cn pn1) (e :: es) [] pc1) X.env) :: starEach [.Call (.Name cn pn2) (a :: es2) [] pc2] X.env := by rfl)
    (hs2 : starEach [.Call (.Name cn pn2) (a :: es2) [] pc2] X.env = (false, eval (.Call (.Name cn pn2) (a :: es2) [] pc2) X.env) :: starEach [] X.env := by rfl)
    (hw : swappedStores [.Tuple [.Name x px, .Name y py] kt pt] (.Tuple [.Call (.Name cn pn1) (e :: es) [] pc1, .Call (.Name cn pn2) (a :: es2) [] pc2] k2 pt2) X.env = pure (some [x, y]) := by rfl)
    (hs : swapsWithSole [.Tuple [.Name x px, .Name y py] kt pt] (.Tuple [.Call (.Name cn pn1) (e :: es) [] pc1, .Call (.Name cn pn2) (a :: es2) [] pc2] k2 pt2) pos.line X.env = pure false := by rfl) :
    DSs X K W (.Assign [.Tuple [.Name x px, .Name y py] kt pt] (.Tuple [.Call (.Name cn pn1) (e :: es) [] pc1, .Call (.Name cn pn2) (a :: es2) [] pc2] k2 pt2) pos :: rest)
      (tSeq (tPar i j (tCons (tMake C (spI K C sig m fn) [] E0 t) (tCons (tMake C (spI K C sig m fn) [] E0 t2) tNil))) ts) (sMk2 C sig r i j m fn fa fb sf) := by
  have hK := A.hk
  subst hK
  obtain ⟨f, fd, ps, F, hm, hb⟩ := I.ex
  exact ⟨rfl, pss_cons (ps_par hc nd hi hj hij hx hy (pa_cons (pe_make hm F hr hg hmg hb .nil pass0 A.pa hdb he hpl) (pa_cons (pe_make hm F hr hg hmg hb .nil pass0 B.pa hdb he2 hpl2) pa_nil hs2) hs1) hw hs) R.ps, gs_mk2 r i j A.gd B.gd R.gd⟩
end
section
variable {ρ : DL.Env} {s : DL.Row} {f : SE} {fa fb : SA} {C : Addr} {i j r m : Nat} {n : Str} {g : SI} {sf : SS} {sig : List (Str × Bool)} {fn : List D → Option DL.Row}
@[simp] theorem iSt_ap : iSt sf g ρ s = (sf ρ s).bind fun o => match o with | .nx ρ' s' => g ρ' s' | _ => none := rfl
@[simp] theorem iFld_ap : iFld C n f g ρ s = (f ρ s).bind fun x => (meAt C ρ 0).bind fun m => if (m.2.map (·.1)).contains n = false ∧ m.1 = none ∧ m.2.length < 1000 then g (meE C (m.2 ++ [(n, false)]) ρ) (x.2 ++ [x.1]) else none := rfl
@[simp] theorem iNil_ap : iNil C n g ρ s = (meAt C ρ 0).bind fun m => if (m.2.map (·.1)).contains n = false ∧ m.1 = none ∧ m.2.length < 1000 then g (meE C (m.2 ++ [(n, true)]) ρ) (s ++ [.list []]) else none := rfl
@[simp] theorem iEnd_ap : iEnd ρ s = (endOf ρ[0]?).bind fun sig => some (sig, s) := rfl
@[simp] theorem endOf_me : endOf (some (.me none C sig)) = some sig := rfl
@[simp] theorem sMk1_ap : sMk1 C sig r i m fn fa sf ρ s = (subAt ρ r).bind fun _ => (fa ρ s).bind fun x => (mkD m fn x.1).bind fun s0 => (sf (ρ.set i (.me (some x.2.length) C sig)) (x.2 ++ [.list s0])).bind fun o => some (cutO x.2.length o) := rfl
@[simp] theorem sMk2_ap : sMk2 C sig r i j m fn fa fb sf ρ s = (subAt ρ r).bind fun _ => (fa ρ s).bind fun x => (mkD m fn x.1).bind fun s0 => (fb ρ (x.2 ++ [.list s0])).bind fun y => (mkD m fn y.1).bind fun s2 =>
  (sf ((ρ.set i (.me (some x.2.length) C sig)).set j (.me (some (x.2.length + 1)) C sig)) (y.2 ++ [.list s2])).bind fun o => some (cutO x.2.length o) := rfl
@[simp] theorem cutO_rt {d : D} : cutO i (.rt d s) = .rt d (s.take i) := rfl
@[simp] theorem cutO_nx : cutO i (.nx ρ s) = .nx (cutE i ρ) (s.take i) := rfl
@[simp] theorem cutO_ct : cutO i (.ct ρ s) = .ct (cutE i ρ) (s.take i) := rfl
@[simp] theorem sMkRowM_ap : sMkRowM i sf ρ s = (ownAt ρ i).bind fun ds => (sf ((deadE ρ).set i (.sub 0)) [.list ds]).bind fun o => match o with | .rt d _ => some (.rt d s) | _ => none := rfl
end
end DL

/-! x is True, x is not True, of bools. -/
namespace DL
open PySem PySem.Spec PyProof.Rows L2
def isBD : D → D → Option D := fun x y => match x, y with | .bool a, .bool b => some (.bool (a == b)) | _, _ => none
def notBD : D → D → Option D := fun x y => match x, y with | .bool a, .bool b => some (.bool (!(a == b))) | _, _ => none
def rIsB : R2 := fun x y H Q => ∃ a b : Bool, x = .bl a ∧ y = .bl b ∧ Q (.bl (a == b)) H
def rNotB : R2 := fun x y H Q => ∃ a b : Bool, x = .bl a ∧ y = .bl b ∧ Q (.bl (!(a == b))) H
section
variable {X : Cx} {K : PySem.W.Frag}
theorem op_isB : OpR X (compareOp .Is) rIsB := by
  intro pins s σ H x y v u Q I rx ry h
  obtain ⟨a, b, rfl, rfl, q⟩ := h
  cases rx
  cases ry
  show wpAny _ _ ((isSame (Value.bool a) (Value.bool b)) >>= fun z => pure (Value.bool z)) _ _ s
  refine wpAny_bind (wpAny_isSame_plain (by cases a <;> cases b <;> rfl) (wpAny_pure (fin_bl I q ?_)))
  cases a <;> cases b <;> rfl
theorem op_notB : OpR X (compareOp .IsNot) rNotB := by
  intro pins s σ H x y v u Q I rx ry h
  obtain ⟨a, b, rfl, rfl, q⟩ := h
  cases rx
  cases ry
  show wpAny _ _ ((isSame (Value.bool a) (Value.bool b)) >>= fun z => pure (Value.bool (!z))) _ _ s
  refine wpAny_bind (wpAny_isSame_plain (by cases a <;> cases b <;> rfl) (wpAny_pure (fin_bl I q ?_)))
  cases a <;> cases b <;> rfl
theorem og_isB : OpG K rIsB isBD := fun B M H s x y d e z hs hr rx ry e1 Q q => by
  cases rx <;> cases ry <;> first | (cases e1; done) | skip
  cases e1
  exact ⟨_, _, rfl, rfl, q _ H M (step_refl hs hr) (.bl _)⟩
theorem og_notB : OpG K rNotB notBD := fun B M H s x y d e z hs hr rx ry e1 Q q => by
  cases rx <;> cases ry <;> first | (cases e1; done) | skip
  cases e1
  exact ⟨_, _, rfl, rfl, q _ H M (step_refl hs hr) (.bl _)⟩
theorem c_isB : CmpOk X K .Is rIsB isBD := ⟨fun hK => by subst hK; exact op_isB, og_isB⟩
theorem c_notB : CmpOk X K .IsNot rNotB notBD := ⟨fun hK => by subst hK; exact op_notB, og_notB⟩
end
@[simp] theorem isBD_b {a b : Bool} : isBD (.bool a) (.bool b) = some (.bool (a == b)) := rfl
@[simp] theorem notBD_b {a b : Bool} : notBD (.bool a) (.bool b) = some (.bool (!(a == b))) := rfl
end DL

/-! Defs that may raise. -/
namespace DL
open PySem PySem.Spec PyProof.Rows L2
def BackX (K : PySem.W.Frag) (mg : Str → Option Value) (M H : Hp) (Q : VK) (E : XK) : RX → Prop
  | .ok d => BackP K M H d Q
  | .ex e => ∀ cls dd H' M', Same M M' → Same M' H' → Same H H' → (∀ a o, M' a = some o → M a = some o ∨ H a = none) → ExR K mg M' cls dd e → E cls dd H'
def spX (K : PySem.W.Frag) (mg : Str → Option Value) (n : Nat) (fn : List D → Option RX) : Sp := fun vs H Q E => ∃ M ds, Same M H ∧ Rps K M vs ds ∧ ds.length = n ∧ ∃ r, fn ds = some r ∧ BackX K mg M H Q E r
structure XCallee (P : Program) (w : World) (K : PySem.W.Frag) (mg : Str → Option Value) (base : Heap) (k : Nat) (x : Str) (sp : Sp) : Prop where
  ex : ∃ f fd ps, FnOk P w K mg base (L2.CX P w) k f fd ps sp ∧ mg x = some (.ref f) ∧ PySem.W.keepIn K (.ref f) = true ∧ Binds K fd ps []
theorem XCallee.mono {P : Program} {w : World} {K : PySem.W.Frag} {mg : Str → Option Value} {base : Heap} {j k : Nat} {x : Str} {sp : Sp} (A : XCallee P w K mg base j x sp) (h : j ≤ k) : XCallee P w K mg base k x sp := by
  obtain ⟨f, fd, ps, F, r⟩ := A.ex
  exact ⟨f, fd, ps, F.mono h, r⟩
abbrev WX0 (mg : Str → Option Value) (E : XK) : Wish := ⟨mg, fun cls d _ H => E cls d H⟩
section
variable {K : PySem.W.Frag} {W : Wish} {B : Bx} {M H M' H' M2 H2 : Hp} {σ : L2.St} {ρ : Env} {s s' s2 : Row} {ta tb tc te tl : TE} {fa : SA} {b : SS} {t : TA} {mg : Str → Option Value}
theorem body_X {t : TS} {vs : List V} {ds : List D} {r : RX} {N : List Str} {Q : VK} {E : XK} (hb : GoodS K (WX0 mg E) t b) (hs : Same M H) (rr : Rps K M vs ds) (hn : ds.length ≤ N.length) (e : runX N.length b ds = some r)
    (q : BackX K mg M H Q E r) :
    t { nx := fun _ H' => Q .non H', rt := Q } (L2.start N vs) H := by
  obtain ⟨o, e1, e⟩ := bnd e
  refine hb _ M H _ _ _ o (ok_start hs rr hn) e1 _ ?_
  have fin : ∀ {d : D} {v M1 H1 s1}, BackP K M H d Q → Ok K ⟨.nil, H, M⟩ M1 H1 [] [] s1 → Rp K M1 v d → Q v H1 := fun q ok rr => q _ _ _ ok.ext ok.sub (fun a w h => ok.keep a w h (fun z => z)) ok.fresh rr
  cases o with
  | nx ρ s1 => cases e; exact fun σ1 H1 M1 ok => fin q ok.bare .non
  | rt x s1 => cases e; exact fun v H1 M1 ok rr => fin q ok rr
  | rl xs s1 =>
    cases e
    exact fun p us H1 M1 ok h1 h2 h3 h4 h5 rr => fin q (back_of (D := ⟨fun _ _ => True, fun _ _ => True, fun _ _ => True, fun _ _ => True⟩) ok h1 h2 h3 h4) (.lst (.inl (.inl upd_same)) h5 (Rps.mono (same_new h2) _ _ rr))
  | bk ρ s1 => cases e
  | ct ρ s1 => cases e
  | ex x ρ s1 =>
    cases e
    exact fun cls d σ1 H1 M1 ok hx => q cls d H1 M1 ok.ext ok.sub (fun a w h => ok.keep a w h (fun z => z)) ok.fresh hx
  | rd t s1 =>
    cases e
    exact fun v H1 M1 ok rr _ h3 => let ⟨M2, _, ok2, rp⟩ := back_deep ok rr h3; fin q ok2 rp
/-- f(..), a statement of its own, where f may raise -/
def sDropX (n : Nat) (fn : List D → Option RX) (fa : SA) : SS := fun ρ s => (fa ρ s).bind fun x => if x.1.length = n then (fn x.1).bind fun r => match r with | .ok _ => some (.nx ρ x.2) | .ex e => some (.ex e ρ x.2) else none
theorem gs_dropX {n : Nat} {fn : List D → Option RX} (ha : GoodA K t fa) : GoodS K W (tDrop (tCallS (spX K W.mg n fn) (WE W.W) t)) (sDropX n fn fa) := fun B M H σ ρ s o ok e DD q => by
  obtain ⟨⟨ds, s1⟩, e1, e⟩ := bnd e
  simp only at e
  split at e
  · rename_i hn
    obtain ⟨r, e2, e⟩ := bnd e
    refine ha B M H σ ρ s ds _ ok e1 _ fun vs H1 M1 t1 r1 => ⟨M1, ds, t1.sub, r1, hn, r, e2, ?_⟩
    have ok1 := ok.step t1
    cases r with
    | ok d =>
      cases e
      exact fun v H2 M2 a1 a2 a3 a4 rr => q σ H2 M2 (ok1.step (step_of_back t1.sub t1.row a1 a2 a3 a4))
    | ex x =>
      cases e
      exact fun cls dd H2 M2 a1 a2 a3 a4 hx => q cls dd σ H2 M2 (ok1.step (step_of_back t1.sub t1.row a1 a2 a3 a4)) hx
  · cases e
/-- raise X('..') -/
def sRaise0 (x : Str) : SS := fun ρ s => some (.ex ⟨x, []⟩ ρ s)
theorem gs_raise0 {x : Str} {C : Addr} (h : W.mg x = some (.ref C)) : GoodS K W (fun _ σ H => W.W (.ref C) none σ H) (sRaise0 x) := fun B M H σ ρ s o ok e DD q => by
  cases e
  exact q (.ref C) none σ H M ok ⟨h, .inl ⟨rfl, rfl⟩⟩
end
section
variable {P : Program} {w : World} {K : PySem.W.Frag} {mg : Str → Option Value} {base : Heap} {x qual : Str} {st : Stmt} {f : Addr} {fd : FuncData} {N ps : List Str} {k : Nat} {b : SS}
abbrev BodyE (P : Program) (w : World) (K : PySem.W.Frag) (mg : Str → Option Value) (base : Heap) (k : Nat) (qual : Str) (st : Stmt) (N : List Str) (f : Addr) (b : SS) : Prop :=
  ∀ (cdv : Value) (A : Around) (outer : List PySem.Env) (s : Shared) (H : Hp) (E : XK), Room k (A.deeper (envOfC qual (defScope st) s.heap.objs.size f cdv)) → ∃ t, DSs (cxOf (L2.CX P w) P w K mg base N qual (defScope st) f cdv A outer s H E) K (WX0 mg E) (defBody st) t b
theorem callee_X (F : Fun K x qual st f fd) (hm : mg x = some (.ref f)) (S : FnScope N ps (defScope st)) (hb : BodyE P w K mg base k qual st N f b) (bb : bindsBy x qual st ps) (hl : ps.length ≤ N.length := by decide) :
    XCallee P w K mg base (k + 1) x (spX K mg ps.length (runX N.length b)) := by
  refine ⟨f, fd, ps, F.okX S (fun vs H Q E h => ?_) (fun cdv A outer s H vs Q E hr h => ?_), hm, F.kp, F.binds bb⟩
  · obtain ⟨M, ds, _, r, hn, _⟩ := h
    rw [r.length]; exact hn
  · obtain ⟨M, ds, hs, r, hn, rx, e, q⟩ := h
    obtain ⟨t, T⟩ := hb cdv A outer s H E hr
    exact ⟨t, T.ps, body_X T.gd hs r (by rw [hn]; exact hl) e q⟩
end
section
variable {X : Cx} {K : PySem.W.Frag} {W : Wish} {e : Expr} {es : List Expr} {pos p p2 p3 : Pos} {fa : SA} {t : TA} {C : Addr}
/-- what the top must tell of an error's class that has no __init__ of its own; B its base -/
structure Exc0 (K : PySem.W.Frag) (mg : Str → Option Value) (x : Str) (C : Addr) : Prop where
  ex : ∃ (bmB : List Value) (B newId initId : String), ExcBaseFacts B newId initId bmB ∧ PySem.W.excIn K C bmB newId = true
  mg : mg x = some (.ref C)
  kp : PySem.W.keepIn K (.ref C) = true
  sub : PySem.W.subIn K (.ref C) (.type "BaseException") = some true
  ty : PySem.W.typeIn K (.ref C) = some (.type "type")
theorem s_raise0 {x m : Str} {j : Nat} (E : Exc0 K X.mg x C) (hK : X.K = K) (hW : W.mg = X.mg) (tk : Takes X W.W) (hc : X.calm = true := by rfl) (hg : Gl X x := by rfl) (hdb : (x == ("__debug__" : Str)) = false := by decide) :
    DS X K W (.Raise (some (.Call (.Name x p) [.Constant (.str m) j p2] [] p3)) none pos) (fun _ σ H => W.W (.ref C) none σ H) (sRaise0 x) := by
  subst hK
  obtain ⟨bmB, B, newId, initId, F, q⟩ := E.ex
  exact ⟨rfl, ps_raise hc tk (pmk_own F q E.mg E.kp (raises_own E.sub E.ty) hg hdb), gs_raise0 (by rw [hW]; exact E.mg)⟩
theorem s_dropX {x : Str} {kk n : Nat} {fn : List D → Option RX} (Cx : XCallee X.prog X.w K X.mg X.base kk x (spX K X.mg n fn)) (hr : Room kk X.A) (A : DA X K (e :: es) t fa) (hW : W.mg = X.mg) (tk : Takes X W.W) (hg : Gl X x := by rfl) (hdb : (x == ("__debug__" : Str)) = false := by decide)
    (he : starEach (e :: es) X.env = (false, eval e X.env) :: starEach es X.env := by rfl) (hpl : (backTo p2 (starEach es X.env)).any (·.1) = false := by rfl) (hs : swapsWith (.Call (.Name x p) (e :: es) [] p2) none pos.line X.env = pure false := by rfl) :
    DS X K W (.Expr (.Call (.Name x p) (e :: es) [] p2) pos) (tDrop (tCallS (spX K X.mg n fn) (WE W.W) t)) (sDropX n fn fa) := by
  have hK := A.hk
  subst hK
  obtain ⟨f, fd, ps, F, hm, hk, hb⟩ := Cx.ex
  have gd : GoodS X.K W (tDrop (tCallS (spX X.K X.mg n fn) (WE W.W) t)) (sDropX n fn fa) := by rw [← hW]; exact gs_dropX A.gd
  exact ⟨rfl, ps_expr (pe_callS F hr hg hm hk hb (fun σ => passAt tk σ) A.pa hdb he hpl) hs, gd⟩
end
section
variable {ρ : DL.Env} {s : DL.Row} {fa : SA} {n N : Nat} {fn : List D → Option RX} {b : SS} {ds : List D}
@[simp] theorem sDropX_ap : sDropX n fn fa ρ s = (fa ρ s).bind fun x => if x.1.length = n then (fn x.1).bind fun r => match r with | .ok _ => some (.nx ρ x.2) | .ex e => some (.ex e ρ x.2) else none := rfl
@[simp] theorem sRaise0_ap {x : Str} : sRaise0 x ρ s = some (.ex ⟨x, []⟩ ρ s) := rfl
end
end DL

/-! A suite that holds an exception; xs.index(x); a def that may raise taken for one that does not. -/
namespace DL
open PySem PySem.Spec PyProof.Rows L2
def eNo : SE := fun _ _ => none
def tNo : TE := fun _ _ _ => False
def rawAt (ρ : Env) (i : Nat) (a : Addr) : Bool := match ρ[i]? with | some (.raw (.ref b)) => decide (b = a) | _ => false
/-- isinstance(e, C), e the exception at a, that the suite holds -/
def eIsE (i : Nat) (a : Addr) (b : Bool) : SE := fun ρ s => if rawAt ρ i a then some (.bool b, s) else none
def eIdx (fa : SA) (g : SE) : SE := fun ρ s => (fa ρ s).bind fun x => (g ρ x.2).bind fun y => if flatD y.1 && x.1.all flatD then (x.1.findIdx? (fun z => PyData.eqv z y.1)).bind fun j => some (.int (j : Nat), y.2) else none
section
variable {K : PySem.W.Frag} {W : Wish} {B : Bx} {M H M' H' M2 H2 : Hp} {σ : L2.St} {ρ : Env} {s s' s2 : Row} {ta tb tc te tl : TE} {fa : SA} {g : SE} {D0 a C : Addr} {i : Nat} {b : Bool}
theorem rawAt_eq (o : Ok K B M H σ ρ s) (h : rawAt ρ i a = true) : σ[i]? = some (some (.ref a)) := by
  unfold rawAt at h
  split at h
  · rename_i c e
    have h := of_decide_eq_true h
    subst h
    have q := o.slots i _ e
    cases z : σ[i]? with
    | none => rw [z] at q; exact q.elim
    | some w =>
      rw [z] at q
      cases w with
      | none => exact q.elim
      | some v =>
        have q : v = V.ref c := by cases v <;> exact q
        rw [q]
  · cases h
theorem gd_no : GoodE K tNo eNo := fun B M H σ ρ s d s' o e Q q => by cases e
theorem gd_isE {v : V} {cv : Value} (hr : ∀ u, RelV v u → u = cv) (hk : PySem.W.kitOne K (.ref D0) cv = some b) : GoodE K (tCB (rIsE K D0 a) (tCons (tVar i) (tCons (tC v) tNil))) (eIsE i a b) := fun B M H σ ρ s d s' o e Q q => by
  unfold eIsE at e
  split at e
  · rename_i h
    cases e
    exact ⟨_, rawAt_eq o h, v, cv, b, rfl, hr, hk, q _ H M o.refl (.bl b)⟩
  · cases e
theorem findIdx_eqv {v : V} {x : D} (rx : Rp K M v x) (hx : flatD x = true) : ∀ {vs : List V} {ds : List D} {j : Nat}, Rps K M vs ds → ds.all flatD = true → ds.findIdx? (fun z => PyData.eqv z x) = some j →
    ∃ z, vs[j]? = some z ∧ eqV z v = true ∧ ∀ m z', m < j → vs[m]? = some z' → eqV z' v = false
  | _, [], j, r, _, e => by simp at e
  | _, d :: ds, j, r, h, e => by
    cases r with
    | @cons u us _ _ a b =>
      rw [List.all_cons, Bool.and_eq_true] at h
      rw [List.findIdx?_cons] at e
      have q := eqV_eqv a rx h.1 hx
      split at e
      · rename_i hz
        cases e
        exact ⟨u, rfl, by rw [q]; exact hz, fun m z' hm => absurd hm (Nat.not_lt_zero m)⟩
      · rename_i hz
        cases w : ds.findIdx? (fun z => PyData.eqv z x) with
        | none => rw [w] at e; cases e
        | some k =>
          rw [w] at e
          cases e
          obtain ⟨z, g1, g2, g3⟩ := findIdx_eqv rx hx b h.2 w
          refine ⟨z, by simpa using g1, g2, fun m z' hm e' => ?_⟩
          cases m with
          | zero =>
            cases e'
            rw [q]; exact Bool.eq_false_iff.mpr hz
          | succ m => exact g3 m z' (by simpa using hm) (by simpa using e')
theorem gd_idx (ha : GoodQ K ta fa) (hb : GoodE K tb g) : GoodE K (tBM K "list" (rIndex K) ta (tCons tb tNil)) (eIdx fa g) := fun B M H σ ρ s d s' o e Q q => by
  obtain ⟨⟨ds, s1⟩, e1, e⟩ := bnd e
  obtain ⟨⟨y, s2⟩, e2, e⟩ := bnd e
  simp only at e
  split at e
  · rename_i hf
    rw [Bool.and_eq_true] at hf
    obtain ⟨j, e3, e⟩ := bnd e
    cases e
    refine ha B M H σ ρ s ds s1 o e1 _ fun p vs H1 M1 t1 hs hl r1 => ⟨.inl ⟨rfl, vs, hs H1 fun _ _ h _ => h⟩, ?_⟩
    refine hb B M1 H1 σ ρ s1 y _ (o.step t1) e2 _ fun v H2 M2 t2 r2 => ?_
    obtain ⟨z, g1, g2, g3⟩ := findIdx_eqv r2 hf.1 (Rps.mono t2.mm _ _ r1) hf.2 e3
    exact ⟨p, vs, v, j, z, rfl, rfl, hs H2 t2.keep, rp_flat r2 hf.1, rps_flat r1 hf.2, g1, g2, g3, q _ H2 M2 (t1.trans t2) (.int _)⟩
  · cases e
end
section
variable {X : Cx} {K : PySem.W.Frag} {W : Wish} {e : Expr} {ta tb : TE} {fa : SA} {g : SE} {D0 a C : Addr} {i : Nat} {b : Bool} {oe : Obj} {pn : List (Addr × Obj)} {x n : Str} {p p1 p2 pos : Pos}
theorem d_no (hK : X.K = K := by rfl) : DE X K e tNo eNo := ⟨hK, ⟨fun _ _ _ _ _ _ h => h.elim⟩, gd_no⟩
theorem d_isE (i : Nat) (E : ExcC X.K D0) (hz : Zc (.ref D0) none oe) (hf : ∃ vs, oe.data = .fields vs) (mi : X.mg "isinstance" = none) (mC : X.mg x = some (.ref C)) (hk : PySem.W.kitOne K (.ref D0) (.ref C) = some b) (hK : X.K = K := by rfl)
    (hN : X.N[i]? = some n := by rfl) (hv : Vis X.env.scope n := by first | exact Or.inl rfl | exact Or.inr (Or.inl rfl) | exact Or.inr (Or.inr rfl)) (hd : (n == ("__debug__" : Str)) = false := by decide) (hcd : (n == ("__classdict__" : Str)) = false := by decide)
    (hgi : Gl X "isinstance" := by rfl) (hg : Gl X x := by rfl) (hdb : (x == ("__debug__" : Str)) = false := by decide)
    (hs : starEach (.Name n p1 :: [.Name x p2]) X.env = (false, eval (.Name n p1) X.env) :: starEach [.Name x p2] X.env := by rfl) (hs2 : starEach (.Name x p2 :: []) X.env = (false, eval (.Name x p2) X.env) :: starEach [] X.env := by rfl) (hpl : (backTo pos (starEach [.Name x p2] X.env)).any (·.1) = false := by rfl) :
    DE (X.suite a ((a, oe) :: pn)) K (.Call (.Name "isinstance" p) [.Name n p1, .Name x p2] [] pos) (tCB (rIsE K D0 a) (tCons (tVar i) (tCons (tC (.ref C)) tNil))) (eIsE i a b) := by
  subst hK
  refine ⟨rfl, pe_callB (X := X.suite a ((a, oe) :: pn)) (call_isE E hz hf) hgi mi (by decide +kernel) (pa_cons (pe_var (X := X.suite a ((a, oe) :: pn)) hN hv hd hcd) (pa_cons (pe_glob (X := X.suite a ((a, oe) :: pn)) (v := .ref C) hg mC rfl hdb) pa_nil hs2) hs) (by decide) (by decide) hs hpl, gd_isE (fun u r => r) hk⟩
theorem d_isEB (i : Nat) {T : String} (E : ExcC X.K D0) (hz : Zc (.ref D0) none oe) (hf : ∃ vs, oe.data = .fields vs) (mi : X.mg "isinstance" = none) (mt : X.mg x = none) (hk : PySem.W.kitOne K (.ref D0) (.type T) = some b) (hb : bootBuiltins x = some (.type T) := by decide +kernel) (hK : X.K = K := by rfl)
    (hN : X.N[i]? = some n := by rfl) (hv : Vis X.env.scope n := by first | exact Or.inl rfl | exact Or.inr (Or.inl rfl) | exact Or.inr (Or.inr rfl)) (hd : (n == ("__debug__" : Str)) = false := by decide) (hcd : (n == ("__classdict__" : Str)) = false := by decide)
    (hgi : Gl X "isinstance" := by rfl) (hg : Gl X x := by rfl) (hn : x ≠ "__name__" := by decide) (hdb : (x == ("__debug__" : Str)) = false := by decide)
    (hs : starEach (.Name n p1 :: [.Name x p2]) X.env = (false, eval (.Name n p1) X.env) :: starEach [.Name x p2] X.env := by rfl) (hs2 : starEach (.Name x p2 :: []) X.env = (false, eval (.Name x p2) X.env) :: starEach [] X.env := by rfl) (hpl : (backTo pos (starEach [.Name x p2] X.env)).any (·.1) = false := by rfl) :
    DE (X.suite a ((a, oe) :: pn)) K (.Call (.Name "isinstance" p) [.Name n p1, .Name x p2] [] pos) (tCB (rIsE K D0 a) (tCons (tVar i) (tCons (tC (.ty T)) tNil))) (eIsE i a b) := by
  subst hK
  refine ⟨rfl, pe_callB (X := X.suite a ((a, oe) :: pn)) (call_isE E hz hf) hgi mi (by decide +kernel) (pa_cons (pe_var (X := X.suite a ((a, oe) :: pn)) hN hv hd hcd) (pa_cons (ty_pe (X := X.suite a ((a, oe) :: pn)) hb mt hg hn hdb) pa_nil hs2) hs) (by decide) (by decide) hs hpl, gd_isE (fun u r => r) hk⟩
theorem d_idx {a b : Expr} {p q : Pos} (A : DQ X K a ta fa) (B : DE X K b tb g) (hse : starEach (b :: []) X.env = (false, eval b X.env) :: starEach [] X.env := by rfl)
    (hbase : attributeBase a "index" X.env (eval a X.env) = eval a X.env := by rfl)
    (hfew : ((backTo p (starEach (b :: []) X.env)).all (fun x => !x.1) && (backToKw p (keywordEach [] X.env)).all (fun x => x.1.isSome)
      && decide ((b :: []).length + ([] : List Keyword).length + (if ([] : List Keyword).isEmpty then 0 else 1) < 30)) = true := by rfl)
    (hline : (q.endLine == p.line) = true := by rfl) (hplain : (backTo p (starEach [] X.env)).any (·.1) = false := by rfl) : DE X K (.Call (.Attribute a "index" q) [b] [] p) (tBM K "list" (rIndex K) ta (tCons tb tNil)) (eIdx fa g) := by
  have hK := A.hk
  subst hK
  exact ⟨rfl, pe_bm PySem.F.plainAttrs_list PySem.F.slot_list_index PySem.F.type_list_index mt_index A.pe (pa_cons B.pe pa_nil hse) hbase hfew hline hse hplain, gd_idx A.gd B.gd⟩
end
/-! ### what may raise, but does not -/
def okX (fn : List D → Option RX) : List D → Option D := fun ds => (fn ds).bind fun r => match r with | .ok d => some d | .ex _ => none
theorem fnok_noX {P : Program} {w : World} {K : PySem.W.Frag} {mg : Str → Option Value} {base : Heap} {k : Nat} {f : Addr} {fd : FuncData} {ps : List Str} {sp sp' : Sp} (F : FnOk P w K mg base (L2.CX P w) k f fd ps sp)
    (h : ∀ vs H Q E, sp' vs H Q E → sp vs H Q (fun _ _ _ => False)) : FnOk P w K mg base CX0 k f fd ps sp' :=
  ⟨fun vs H Q E q => F.len vs H Q _ (h _ _ _ _ q), fun A outer s H args us vs Q E hr he hb hv hs => codeAny_mono (F.run A outer s H args us vs Q _ hr he hb hv (h _ _ _ _ hs)) fun r s' hq => by
    cases r with
    | error e => obtain ⟨_, _, _, _, _, _, _, _, _, _, _, _, z⟩ := hq; exact z.elim
    | ok fl => cases fl <;> exact hq⟩
theorem XCallee.noX {P : Program} {w : World} {K : PySem.W.Frag} {mg : Str → Option Value} {base : Heap} {k n : Nat} {x : Str} {fn : List D → Option RX} (A : XCallee P w K mg base k x (spX K mg n fn)) : Callee P w K mg base k x (spP K n (okX fn)) := by
  obtain ⟨f, fd, ps, F, hm, hk, hb⟩ := A.ex
  refine ⟨f, fd, ps, fnok_noX F fun vs H Q E h => ?_, hm, hk, hb⟩
  obtain ⟨M, ds, d, h1, h2, h3, e, q⟩ := h
  obtain ⟨r, e1, e⟩ := bnd e
  cases r with
  | ok d' => cases e; exact ⟨M, ds, h1, h2, h3, _, e1, q⟩
  | ex _ => cases e
section
variable {ρ : DL.Env} {s : DL.Row} {fa : SA} {g : SE} {i : Nat} {a : Addr} {b : Bool} {fn : List D → Option RX} {ds : List D}
@[simp] theorem eNo_ap : eNo ρ s = none := rfl
@[simp] theorem eIsE_ap : eIsE i a b ρ s = if rawAt ρ i a then some (.bool b, s) else none := rfl
@[simp] theorem eIdx_ap : eIdx fa g ρ s = (fa ρ s).bind fun x => (g ρ x.2).bind fun y => if flatD y.1 && x.1.all flatD then (x.1.findIdx? (fun z => PyData.eqv z y.1)).bind fun j => some (.int (j : Nat), y.2) else none := rfl
@[simp] theorem okX_ap : okX fn ds = (fn ds).bind fun r => match r with | .ok d => some d | .ex _ => none := rfl
end
end DL

set_option maxHeartbeats 2000000
/-! A lambda lent to a def that calls it within a try. -/
namespace DL
open PySem PySem.Spec PyProof.Rows L2
abbrev lamQ (X : Cx) : Str := X.env.qual ++ "<lambda>"
/-- all but what stands at P stays -/
def ButP (P : Addr) (H H' : Hp) : Prop := ∀ b o, b ≠ P → H b = some o → H' b = some o
section
variable {X : Cx} {pins : List (Addr × Obj)} {σ : L2.St} {H : Hp} {s : Shared}
theorem lam_new {c P : Addr} {params : Arguments} {body : Expr} {scope : Scope} {pos : Pos} {E : Value → Shared → Prop} {Q : Value → Shared → Prop} (I : Inv X pins σ H s) (TB : LamX.TabB X.base X.mg c P) (hcode : X.env.code = .ref c)
    (hT : LamX.TabS H P (lamQ X)) (hdef : defaultsOf params X.env = ([], [])) (hfree : ∀ y ∈ scope.names, y.2 = .free → ∃ c, X.env.cells.lookup y.1 = some c)
    (h : ∀ (f c' : Addr) (pm ctv : Value) (H1 : Hp) (s' : Shared), Inv X pins σ H1 s' → ButP P H H1 → LamX.TabS H1 P (lamQ X) →
      s'.heap.get? f = some (PySem.W.kla_obj "<lambda>" (lamQ X) params body scope (cloFrom X.env.cells scope.names []) pm c' ctv) → H1 f = none → f ∉ frs X.stack → H1 c' = some (LamX.CodeO c' (lamQ X)) → Q (.ref f) s') :
    wpAny (model X.prog X.w) X.A (eval (.Lambda params body scope pos) X.env) Q E s := by
  obtain ⟨ps, hP, ht, ha⟩ := hT
  refine PySem.W.kla_eval hdef ?_
  have hP' : s.heap.get? P = some { cls := .none, data := .fields ps } := I.hok P _ hP
  have fresh : ∀ f, s.heap.objs.size ≤ f → f ∉ frs X.stack := fun f hf z => by
    rcases List.mem_cons.mp (I.stkSub _ z) with e | e
    · have h1 := I.lt
      rw [← e] at h1
      exact absurd hf (Nat.not_le.mpr h1)
    · exact I.nofs hf e
  cases hc : codeAmong pos ps.toList with
  | some cv =>
    obtain ⟨c', e, hco⟩ := ha pos cv hc
    subst e
    refine PySem.W.kla_makeFunctionHit (mg := X.mg) (c := c) (P := P) (ps := ps) (closure_ok hfree) I.ok.glob (I.mod.glob.keeps I.bk) hcode (TB.code.keeps I.bk) hP' ht hc (TB.bm.keeps I.bk) fun ctv h' tk hx hsz => ?_
    exact h h'.objs.size c' ((X.mg "__name__").getD .none) ctv H _ (I.kept (t' := tk) fun b o e => Heap.get?_push_of_some _ (hx b o e)) (fun _ _ _ e => e) ⟨ps, hP, ht, ha⟩ (Heap.get?_push_size _ rfl) (I.hok.fresh hsz) (fresh _ hsz) hco
  | none =>
    refine PySem.W.kla_makeFunction (mg := X.mg) (c := c) (P := P) (ps := ps) (closure_ok hfree) I.ok.glob (I.mod.glob.keeps I.bk) hcode (TB.code.keeps I.bk) hP' ht hc TB.gP (TB.bm.keeps I.bk) fun c' ctv h' tk hx hge hlt hrec htb => ?_
    obtain ⟨c2, oc, vs, t, e2, hoc, hd, hv⟩ := hrec
    cases e2
    have hsz : s.heap.objs.size ≤ h'.objs.size := Nat.le_trans hge (Nat.le_of_lt hlt)
    have nC : H c' = none := I.hok.fresh hge
    have I1 := LamX.inv_table (q := lamQ X) (t' := tk) (more := #[rawInt pos.line, rawInt pos.col, .ref c']) (h' := h'.push (PySem.W.kla_obj "<lambda>" (lamQ X) params body scope (cloFrom X.env.cells scope.names []) ((X.mg "__name__").getD .none) c' ctv)) I hP
      (fun b o hb e => Heap.get?_push_of_some _ (hx b o hb e)) (Heap.get?_push_of_some _ htb) hge ⟨oc, vs, t, Heap.get?_push_of_some _ hoc, hd, hv⟩
    have kept : ButP P H (upd (upd H P (.tbl (ps ++ #[rawInt pos.line, rawInt pos.col, .ref c']))) c' (LamX.CodeO c' (lamQ X))) := fun b o hb e => by
      rw [upd_ne (ne_of_none e nC), upd_ne hb]; exact e
    have eL : (ps ++ #[rawInt pos.line, rawInt pos.col, .ref c']).toList = ps.toList ++ [rawInt pos.line, rawInt pos.col, .ref c'] := by simp
    refine h h'.objs.size c' ((X.mg "__name__").getD .none) ctv _ _ I1 kept ⟨_, by rw [upd_ne (ne_of_none hP nC), upd_same], by rw [eL]; exact PySem.TriplesOk_snoc _ _ _ _ ht, fun p' cv hcv => ?_⟩ (Heap.get?_push_size _ rfl) ?_ (fresh _ hsz) upd_same
    · rw [eL] at hcv
      rcases LamX.among_app _ ht hcv with z | z
      · obtain ⟨c0, e1, e2⟩ := ha p' cv z
        exact ⟨c0, e1, kept _ _ (fun q => by rw [q, hP] at e2; unfold LamX.CodeO at e2; cases e2) e2⟩
      · exact ⟨c', z, upd_same⟩
    · rw [upd_ne (Nat.ne_of_gt hlt), upd_ne (Nat.ne_of_gt (Nat.lt_of_lt_of_le (Heap.lt_size hP') hsz))]
      exact I.hok.fresh hsz
end
def tLam1 (P : Addr) (q : Str) (TT : (XK → Hp → VK → Prop) → Hp → VK → Prop) (t : XK → TE) : TE := fun σ H Q => LamX.TabS H P q ∧ ∀ H1, ButP P H H1 → LamX.TabS H1 P q → TT (fun E H' Q' => t E σ H' Q') H1 Q
section
variable {X : Cx}
/-- x(lambda: body) -/
theorem pe_lam1 {TT : (XK → Hp → VK → Prop) → Hp → VK → Prop} {x a : Str} {g c P : Addr} {k : Nat} {pg : Arguments} {bg : List Stmt} {sg : Scope} {dV kV doc pm cdv ct oc : Value} {an od : Option Addr} {osl : Array (Option Value)} {Ng : List Str}
    {params : Arguments} {body : Expr} {scope : Scope} {t : XK → TE} {p lpos pos : Pos} (hg : Gl X x) (hm : X.mg x = some (.ref g)) (hk : PySem.W.keepIn X.K (.ref g) = true)
    (lk : X.K.lookup g = some ⟨oc, od, .func (PySem.W.fnOf x x pg bg sg dV kV doc pm an cdv ct), osl⟩) (hcg : PySem.W.codeIn X.K cdv x = true) (hb : L2.Binds X.K (PySem.W.fnOf x x pg bg sg dV kV doc pm an cdv ct) [a] []) (Sg : FnScope Ng [a] sg) (hNg : Ng[0]? = some a) (hva : Vis sg a)
    (hG : LamX.GivesTo X Ng x sg g cdv bg a (lamQ X) TT)
    (TB : LamX.TabB X.base X.mg c P) (hcode : X.env.code = .ref c) (hr : Room (k + 2) X.A) (L : LamX.LamS X.env.scope scope) (hdef : defaultsOf params X.env = ([], []))
    (hbind : ∀ (q : Str) (cl : List (Str × Addr)) (pm cv ctv : Value), bindArgs (PySem.W.kla_fn "<lambda>" q params body scope cl pm cv ctv) ⟨[], []⟩ = pure [])
    (hbody : ∀ (A : Around) (outer : List PySem.Env) (s : Shared) (H : Hp) (E : XK) (f c' : Addr), Room k (A.deeper (LamX.lamEnv X scope s.heap.objs.size f c')) → PE (LamX.lamCx X A outer s H E scope f c') body (t E))
    (hdb : (x == ("__debug__" : Str)) = false := by decide) (hd : (a == ("__debug__" : Str)) = false := by decide) (hcd : (a == ("__classdict__" : Str)) = false := by decide) :
    PE X (.Call (.Name x p) [.Lambda params body scope lpos] [] pos) (tLam1 P (lamQ X) TT t) := by
  refine ⟨fun pins s σ H Q I h => ?_⟩
  obtain ⟨hT, h⟩ := h
  refine wpAny_Call_Name_kw (ld_glob I hg hm (PySem.W.callWith_K (h₀ := X.base) I.ok.mod.kin hk ?_ (by rfl) (by rfl)) hdb)
  show wpAny _ _ (spliced ((false, eval (.Lambda params body scope lpos) X.env) :: backTo pos (starEach [] X.env))) _ _ s
  refine Calls.spliced_cons (lam_new I TB hcode hT hdef (L.has I.ok) fun f c' pm' ctv H1 s' I1 eN T1 hf hfn hfr hco => Calls.spliced_nil ⟨I1.kIn, ?_⟩)
  refine wpAny_call (codeAny_mono (LamX.run_ofS (CX := C8.CX0) (P := X.prog) (w := X.w) (E := C8.E0) (Q := Q) (H := H1) (A := X.A) (outer := X.stack) (s := s') (N := Ng) (ps := [a]) (args := ⟨[.ref f], []⟩) (us := [.ref f]) (vs := [.ref f]) lk hcg Sg hr I1.env0 (hb s' [.ref f] I1.kIn rfl) (.cons rfl .nil) rfl fun hr' => ?_) fun r s2 hq => ?_)
  · obtain ⟨t', ht', hq'⟩ := hG f c' s' H1 Q (fun E H' Q' => t E σ H' Q') (fun W pn xe E p1 p2 tk hW => LamX.pe_act (i := 0) I1 L hf hfn hfr (hbind _ _ _ _ _) tk hW hr' (fun A outer s H hr2 => hbody A outer s H E f c' hr2) hNg hva hd hcd) hco (h H1 eN T1)
    exact ⟨t', ht'.nox, hq'⟩
  · cases r with
    | error e => exact (show False from hq).elim
    | ok fl =>
      cases fl with
      | ret u => exact I1.after hq
      | next => exact False.elim hq
      | brk => exact False.elim hq
      | cont => exact False.elim hq
end
/-! ### what the def makes of it: None, or what is told of the error -/
def TTw (K : PySem.W.Frag) (mg : Str → Option Value) (L : List (Str × D)) : (XK → Hp → VK → Prop) → Hp → VK → Prop := fun tl H Q =>
  tl (fun cls d H' => ∃ nm dw M', (nm, dw) ∈ L ∧ mg nm = some cls ∧ d = none ∧ Same M' H' ∧ BackP K M' H' dw Q) H (fun _ H' => Q .non H')
def wordX (L : List (Str × D)) : RX → Option D
  | .ok _ => some .none
  | .ex e => if e.fs.isEmpty then L.lookup e.cls else none
def tabAt (s : DL.Row) (P : Addr) (q : Str) : Bool := match (s[1]? : Option PyData) with | some (PyData.list [PyData.dict [(PyData.int p, PyData.str r)]]) => decide (p = (P : Int)) && r == q | _ => false
def eLam (P : Addr) (q : Str) (L : List (Str × D)) (n : Nat) (fn : List D → Option RX) (fa : SA) : SE := fun ρ s => if tabAt s P q then (fa ρ s).bind fun x => if x.1.length = n then (fn x.1).bind fun r => (wordX L r).bind fun d => some (d, x.2) else none else none
theorem rp_dict {K : PySem.W.Frag} {M : Hp} {v : V} {kvs : List (PyData × PyData)} : ¬ Rp K M v (.dict kvs) := fun h => by cases h
theorem rps_dict {K : PySem.W.Frag} {M : Hp} {vs : List V} {kvs : List (PyData × PyData)} : ¬ Rps K M vs [.dict kvs] := fun h => by cases h with | cons a _ => exact rp_dict a
theorem flds_dict {K : PySem.W.Frag} {M H : Hp} {fl : List (Str × Option Addr)} {vs : List V} {s : DL.Row} (h : FldsOk K M H fl vs s) : ∀ kvs, PyData.dict kvs ∉ s ∧ PyData.list [.dict kvs] ∉ s := by
  induction h with
  | nil => exact fun kvs => ⟨fun z => by simp at z, fun z => by simp at z⟩
  | dat h r ih =>
    refine fun kvs => ⟨fun z => ?_, fun z => ?_⟩
    · rcases List.mem_cons.mp z with z | z
      · subst z; exact rp_dict h
      · exact (ih kvs).1 z
    · rcases List.mem_cons.mp z with z | z
      · subst z; cases h with | lst _ _ r => exact rps_dict r
      · exact (ih kvs).2 z
  | own h hl hm hr r ih =>
    refine fun kvs => ⟨fun z => ?_, fun z => ?_⟩
    · rcases List.mem_cons.mp z with z | z
      · cases z
      · exact (ih kvs).1 z
    · rcases List.mem_cons.mp z with z | z
      · cases z; exact rps_dict hr
      · exact (ih kvs).2 z
theorem LP.tbl_of {K : PySem.W.Frag} {M H : Hp} {P : Addr} {q : Str} : ∀ {p : LP}, p.ok K M H [.dict [(.int P, .str q)]] → p = .tbl P q
  | .row r, ⟨_, vs, _, _, h⟩ => (rps_dict h).elim
  | .obj C A dx fl, ⟨_, _, _, _, vs, _, h⟩ => ((flds_dict h _).1 (List.mem_cons_self)).elim
  | .tbl P' q', ⟨h, _⟩ => by
    have h : ([PyData.dict [(.int P, .str q)]] : DL.Row) = [.dict [(.int P', .str q')]] := h
    cases h; rfl
section
variable {K : PySem.W.Frag} {W : Wish} {B : Bx} {M H M' H' M2 H2 H1 : Hp} {σ : L2.St} {ρ : Env} {s s' s2 : DL.Row} {ta tb tc te tl : TE} {fa : SA} {g : SE} {P : Addr} {q : Str} {t : TA} {n : Nat} {fn : List D → Option RX} {L : List (Str × D)} {mg : Str → Option Value}
/-- the table stands in the layout, and the row stays where the table alone grows -/
theorem tab_of {r : LT} (h : RowOk K r M H s) (e : tabAt s P q = true) : M P = none ∧ LamX.TabS H P q ∧ r.mem P ∧ ∀ H1, ButP P H H1 → LamX.TabS H1 P q → RowOk K r M H1 s := by
  unfold tabAt at e
  split at e
  · rename_i p0 q0 hs
    rw [Bool.and_eq_true] at e
    have e1 := of_decide_eq_true e.1
    have e2 : q0 = q := by simpa using e.2
    subst e1 e2
    cases r with
    | nil =>
      have h : s = [] := h
      subst h; cases hs
    | one p =>
      have h : p.ok K M H s := h
      exfalso
      cases p with
      | row r =>
        obtain ⟨_, vs, _, _, h⟩ := h
        obtain ⟨v, _, hv⟩ := h.get hs
        cases hv with | lst _ _ r => exact rps_dict r
      | obj C A dx fl =>
        obtain ⟨_, _, _, _, vs, _, h⟩ := h
        exact (flds_dict h _).2 (List.mem_of_getElem? hs)
      | tbl P' q' =>
        obtain ⟨h, _⟩ := h
        subst h; cases hs
    | many ps =>
      obtain ⟨ss, rfl, hl, hp, hd⟩ := h
      rw [List.getElem?_map] at hs
      cases z : ss[1]? with
      | none => rw [z] at hs; cases hs
      | some sk =>
        rw [z] at hs
        have hs : sk = [.dict [(.int P, .str q0)]] := by
          have : PyData.list sk = .list [.dict [(.int P, .str q0)]] := Option.some.inj hs
          cases this; rfl
        have h1 : 1 < ps.length := by rw [← hl]; exact (List.getElem?_eq_some_iff.mp z).1
        have hp1 : ps[1]? = some ps[1] := List.getElem?_eq_getElem h1
        have hk := hp 1 _ _ hp1 z
        rw [hs] at hk
        have ep := LP.tbl_of hk
        rw [ep] at hp1 hk
        obtain ⟨_, k1, k2⟩ := hk
        refine ⟨k1, k2, ⟨_, List.mem_of_getElem? hp1, rfl⟩, fun H1 b1 b2 => ⟨ss, rfl, hl, fun k p sk' e1 e2 => ?_, hd⟩⟩
        by_cases hk1 : k = 1
        · subst hk1
          rw [hp1] at e1; cases e1
          rw [z] at e2; cases e2
          exact ⟨hs, k1, b2⟩
        · have old := hp k p sk' e1 e2
          have np : ∀ a, p.mem a → a ≠ P := fun a ha z => hd k 1 p _ a hk1 e1 hp1 ha (by rw [z]; rfl)
          refine LP.keep old (fun _ _ h => h) (fun a ha => (LP.live old ha).1) (fun a o ha ho => b1 a o (np a ha) ho) fun c o ho hc => b1 c o (fun z => ?_) ho
          obtain ⟨pz, hz, _⟩ := k2
          rw [z, hz] at ho; cases ho
          exact code_tbl hc
  · cases e
theorem lookup_mem' {L : List (Str × D)} {x : Str} {d : D} (h : L.lookup x = some d) : (x, d) ∈ L := PySem.mem_of_lookup h
theorem gd_lam (ha : GoodA K t fa) : GoodE K (tLam1 P q (TTw K mg L) fun E => tCallS (spX K mg n fn) (fun _ => E) t) (eLam P q L n fn fa) := fun B M H σ ρ s d s' o e Q qq => by
  unfold eLam at e
  split at e
  · rename_i ht
    obtain ⟨m1, m2, m3, m4⟩ := tab_of o.row ht
    refine ⟨m2, fun H1 b1 b2 => ?_⟩
    have nM : ∀ a w, M a = some w → a ≠ P := fun a w h z => by rw [z, m1] at h; cases h
    have t0 : Step K B M H M H1 s := ⟨fun _ _ h => h, fun a w h => b1 a w (nM a w h) (o.sub a w h), fun a w h hr => b1 a w (fun z => hr (by rw [z]; exact m3)) h, fun _ _ h => .inl h, m4 H1 b1 b2⟩
    obtain ⟨⟨ds, s1⟩, e1, e⟩ := bnd e
    simp only at e
    split at e
    · rename_i hn
      obtain ⟨r, e2, e⟩ := bnd e
      obtain ⟨dw, e3, e⟩ := bnd e
      cases e
      show t σ H1 _
      refine ha B M H1 σ ρ s ds _ (o.step t0) e1 _ fun vs H2 M2 t2 r2 => ?_
      refine ⟨M2, ds, t2.sub, r2, hn, r, e2, ?_⟩
      have t02 := t0.trans t2
      cases r with
      | ok d0 =>
        cases e3
        exact fun v H' M' a1 a2 a3 a4 rr => qq .non H' M' (t02.trans (step_of_back t2.sub t2.row a1 a2 a3 a4)) .non
      | ex x =>
        have e3 : (if x.fs.isEmpty then L.lookup x.cls else none) = some d := e3
        split at e3
        · rename_i hemp
          refine fun cls dd H' M' a1 a2 a3 a4 hx => ⟨x.cls, _, M', lookup_mem' e3, hx.1, ?_, a2, fun v H3 M3 c1 c2 c3 c4 rr => qq v H3 M3 ?_ rr⟩
          · rcases hx.2 with z | z
            · exact z.2
            · exact absurd (List.isEmpty_iff.mp hemp) z.1
          · have t3 := t02.trans (step_of_back t2.sub t2.row a1 a2 a3 a4)
            exact t3.trans (step_of_back t3.sub t3.row c1 c2 c3 c4)
        · cases e3
    · cases e
  · cases e
end
end DL

/-! The def that catches; the law with a table of its own. -/
namespace DL
open PySem PySem.Spec PyProof.Rows L2
/-- what a suite tells of the exception at a, that slot i holds -/
def runW (N i : Nat) (b : Addr → SS) (a : Addr) : Option D := (b a ((List.replicate N Sl.dead).set i (.raw (.ref a))) []).bind fun o => match o with | .rt d _ => some d | _ => none
theorem takes_len {X : Cx} {W : WX} (tk : Takes X W) : Takes X (fun cls d σ H => σ.length = X.N.length → W cls d σ H) := fun u s' h => by
  obtain ⟨a, B, sI, pins, σ, H, cls, d, e, I, nb, up, sky, na, os, ag, w⟩ := h
  exact tk u s' ⟨a, B, sI, pins, σ, H, cls, d, e, I, nb, up, sky, na, os, ag, w I.len⟩
theorem ok_raw {K : PySem.W.Frag} {M H : Hp} {σ : L2.St} {N i : Nat} {a : Addr} (hs : Same M H) (hl : σ.length = N) : Ok K ⟨.nil, H, M⟩ M H (σ.set i (some (.ref a))) ((List.replicate N Sl.dead).set i (.raw (.ref a))) [] := by
  have at_ : ∀ (j : Nat) (x : Sl), ((List.replicate N Sl.dead).set i (.raw (.ref a)))[j]? = some x → x = .dead ∨ (j = i ∧ x = .raw (.ref a) ∧ j < N) := fun j x e => by
    by_cases q : i = j
    · subst q
      have hi : i < (List.replicate N Sl.dead).length := by simpa using (List.getElem?_eq_some_iff.mp e).1
      rw [List.getElem?_set_self hi] at e
      cases e
      exact .inr ⟨rfl, rfl, by simpa using hi⟩
    · rw [List.getElem?_set_ne q] at e
      exact .inl (List.eq_of_mem_replicate (List.mem_of_getElem? e))
  refine ⟨hs, fun _ _ h => h, fun _ _ h _ => h, fun _ _ h => .inl h, rowOk_none, by simp [hl], fun j x e => ?_, fun j k x y c _ e1 _ a1 _ => ?_⟩
  · rcases at_ j x e with rfl | ⟨rfl, rfl, hj⟩
    · cases ((σ.set i (some (.ref a)))[j]?.join) <;> trivial
    · rw [List.getElem?_set_self (by omega)]
      exact (rfl : (V.ref a) = V.ref a)
  · rcases at_ j x e1 with rfl | ⟨rfl, rfl, hj⟩
    · rw [footS_dead] at a1; cases a1
    · rw [List.getElem?_set_self (by omega)] at a1; cases a1
abbrev wordCx (X : Cx) (Ng : List Str) (x : Str) (sg : Scope) (g : Addr) (cdg : Value) (s : Shared) (H : Hp) : Cx := (cxOf C8.CX0 X.prog X.w X.K X.mg X.base Ng x sg g cdg X.A X.stack s H C8.E0).nox
theorem word_gives {X : Cx} {Z : Type} {Ng : List Str} {x a0 e n q : Str} {sg : Scope} {g CE : Addr} {cdg : Value} {j i : Nat} {p1 p2 p3 p4 p5 p6 p7 p8 : Pos} {b0 : Stmt} {suite : List Stmt} {L : List (Str × D)} {GC : Addr → Z → Prop} {b : Z → Addr → SS}
    (hge : sg.names.lookup e = some .globalImplicit) (hme : X.mg e = some (.ref CE)) (hde : (e == ("__debug__" : Str)) = false) (h0 : ∀ f : Addr, (L2.start Ng [V.ref f])[0]? = some (some (V.ref f))) (hlen : ∀ f : Addr, (L2.start Ng [V.ref f]).length = Ng.length)
    (nd : Ng.Nodup) (hi : Ng[i]? = some n) (hln : ∀ (L a : Addr) (cd : Value), (envOfC x sg L a cd).kindOf n = some .local)
    (hex : ∀ D0 z, GC D0 z → PySem.W.exmOne X.K (.ref D0) (.ref CE) = some true)
    (hL : ∀ nm dw, (nm, dw) ∈ L → ∃ D0 z, X.mg nm = some (.ref D0) ∧ GC D0 z ∧ ∀ a, runW Ng.length i (b z) a = some dw)
    (hsu : ∀ (s : Shared) (H : Hp) (a : Addr) (oe : Obj) (D0 : Addr) (z : Z) (pn : List (Addr × Obj)), GC D0 z → Zc (.ref D0) none oe → (∃ vs, oe.data = .fields vs) → ∃ t, DSs ((wordCx X Ng x sg g cdg s H).suite a ((a, oe) :: pn)) X.K W0 (b0 :: suite) t (b z a)) :
    LamX.GivesTo X Ng x sg g cdg [.Try [.Expr (.Call (.Name a0 p1) [] [] p2) p3] [.ExceptHandler (some (.Name e p4)) (some n) (b0 :: suite) p5] [] [] p6, .Return (some (.Constant .none j p7)) p8] a0 q (TTw X.K X.mg L) := by
  intro f c' s H Q tl act hc h
  have hgl : Gl (wordCx X Ng x sg g cdg s H) e := hge
  refine ⟨_, pss_cons (ps_try_as (X := wordCx X Ng x sg g cdg s H) (c := .ref CE) (i := i)
      (tb := fun W D σ H => ∃ Ech : XK, (∀ cls d σ' H', σ'.length = Ng.length → Ech cls d H' → W cls d σ' H') ∧ σ[0]? = some (some (.ref f)) ∧ H c' = some (LamX.CodeO c' q) ∧ tl Ech H (fun _ H' => D.nx σ H'))
      (ts := fun a cls d D σ H => ∃ D0 z, cls = .ref D0 ∧ d = none ∧ GC D0 z ∧ ∀ t, GoodS X.K W0 t (b z a) → t D σ H)
      (Wout := fun _ _ _ _ => False) rfl rfl nd hi (hln _ _ _) ⟨hgl, hde, .inl hme⟩ LamX.takes0 (fun W pn xe tk _ => ?_) (fun a oe cls d pn hz hf => ?_)) (pss_one (ps_ret pe_non)), ?_⟩
  · refine ⟨fun pins s' σ H' D I h' => ?_⟩
    obtain ⟨Ech, hW, h1, h2, h3⟩ := h'
    have hp := act _ pn xe Ech p1 p2 (takes_len tk) (fun cls d σ' H' he hl => hW cls d σ' H' hl he)
    have hq := pss_one (ps_expr (pos := p3) hp)
    exact hq.run pins s' σ H' D I ⟨h1, h2, h3⟩
  · refine ⟨fun pins s' σ H' D I h' => ?_⟩
    obtain ⟨D0, z, rfl, rfl, gc, ht⟩ := h'
    obtain ⟨t, T⟩ := hsu s H a oe D0 z pn gc hz hf
    exact T.ps.run pins s' σ H' D I (ht t T.gd)
  · refine ⟨fun cls d H' => ∃ nm dw M', (nm, dw) ∈ L ∧ X.mg nm = some cls ∧ d = none ∧ Same M' H' ∧ BackP X.K M' H' dw Q, fun cls d σ' H' hl hE => ?_, h0 f, hc, h⟩
    obtain ⟨nm, dw, M', hm, hmg, rfl, hs, hb⟩ := hE
    obtain ⟨D0, z, e1, gc, hrun⟩ := hL nm dw hm
    rw [e1] at hmg
    cases hmg
    refine ⟨true, hex D0 z gc, fun _ a ha => ⟨D0, z, rfl, rfl, gc, fun t ht => ?_⟩, fun q => by cases q⟩
    obtain ⟨o, eo, e2⟩ := bnd (hrun a)
    cases o with
    | rt d s1 =>
      cases e2
      exact ht ⟨.nil, H', M'⟩ M' H' _ _ [] (.rt _ s1) (ok_raw hs hl) eo _ fun v H1 M1 ok rr => hb v H1 M1 ok.ext ok.sub (fun a w h => ok.keep a w h (fun z => z)) ok.fresh rr
    | _ => cases e2
section
variable {X : Cx} {K : PySem.W.Frag}
theorem d_lam {x a0 y : Str} {g c P : Addr} {k n : Nat} {pg : Arguments} {bg : List Stmt} {sg : Scope} {dV kV doc pm cdv ct oc : Value} {an od : Option Addr} {osl : Array (Option Value)} {Ng : List Str} {L : List (Str × D)} {fn : List D → Option RX} {t : TA} {fa : SA} {e : Expr} {es : List Expr}
    {params : Arguments} {scope : Scope} {p lpos pos p1 p2 : Pos} (CC : XCallee X.prog X.w K X.mg X.base k y (spX K X.mg n fn)) (hm : X.mg x = some (.ref g)) (hk : PySem.W.keepIn K (.ref g) = true)
    (lk : K.lookup g = some ⟨oc, od, .func (PySem.W.fnOf x x pg bg sg dV kV doc pm an cdv ct), osl⟩) (hcg : PySem.W.codeIn K cdv x = true) (hb : L2.Binds K (PySem.W.fnOf x x pg bg sg dV kV doc pm an cdv ct) [a0] []) (Sg : FnScope Ng [a0] sg)
    (hG : LamX.GivesTo X Ng x sg g cdv bg a0 (lamQ X) (TTw K X.mg L))
    (TB : LamX.TabB X.base X.mg c P) (hcode : X.env.code = .ref c) (hr : Room (k + 2) X.A)
    (hbody : ∀ (A : Around) (outer : List PySem.Env) (s : Shared) (H : Hp) (E : XK) (f c' : Addr), DA (LamX.lamCx X A outer s H E scope f c') K (e :: es) t fa) (hK : X.K = K := by rfl)
    (lam : LamX.LamS X.env.scope scope := by exact LamX.lamS_by (by decide +kernel)) (hg : Gl X x := by rfl) (hdef : defaultsOf params X.env = ([], []) := by rfl)
    (hbind : ∀ (q : Str) (cl : List (Str × Addr)) (pm cv ctv : Value), bindArgs (PySem.W.kla_fn "<lambda>" q params (.Call (.Name y p1) (e :: es) [] p2) scope cl pm cv ctv) ⟨[], []⟩ = pure [] := by intros; rfl)
    (hNg : Ng[0]? = some a0 := by rfl) (hva : Vis sg a0 := by exact Or.inl rfl)
    (hgy : ∀ (A : Around) (outer : List PySem.Env) (s : Shared) (H : Hp) (E : XK) (f c' : Addr), Gl (LamX.lamCx X A outer s H E scope f c') y := by intros; rfl)
    (he : ∀ env : PySem.Env, starEach (e :: es) env = (false, eval e env) :: starEach es env := by intros; rfl) (hpl : ∀ env : PySem.Env, (backTo p2 (starEach es env)).any (·.1) = false := by intros; rfl)
    (hdy : (y == ("__debug__" : Str)) = false := by decide) (hdb : (x == ("__debug__" : Str)) = false := by decide) (hd : (a0 == ("__debug__" : Str)) = false := by decide) (hcd : (a0 == ("__classdict__" : Str)) = false := by decide) :
    DE X K (.Call (.Name x p) [.Lambda params (.Call (.Name y p1) (e :: es) [] p2) scope lpos] [] pos) (tLam1 P (lamQ X) (TTw K X.mg L) fun E => tCallS (spX K X.mg n fn) (fun _ => E) t) (eLam P (lamQ X) L n fn fa) := by
  subst hK
  have ga : GoodA X.K t fa := (hbody X.A [] X.s_0 X.H_0 (fun _ _ _ => False) 0 0).gd
  obtain ⟨f, fd, ps, F, hmy, hky, hby⟩ := CC.ex
  exact ⟨rfl, pe_lam1 hg hm hk lk hcg hb Sg hNg hva hG TB hcode hr lam hdef hbind (fun A outer s H E f' c' hr' => pe_callS (X := LamX.lamCx X A outer s H E scope f' c') (E := fun _ => E) F hr' (hgy A outer s H E f' c') hmy hky hby
    (fun σ => passAt (W := fun cls d _ H => E cls d H) (takes_of rfl rfl rfl rfl) σ) (hbody A outer s H E f' c').pa hdy (he _) (hpl _)) hdb hd hcd, gd_lam ga⟩
end
/-! ### the row is made beside the table -/
def sMkRowT (j : Nat) (f : SS) : SS := fun ρ s => match s with
  | [.list [.dict [(.int p, .str q)]]] => if 0 ≤ p then (ownAt ρ j).bind fun ds => (f ((deadE ρ).set j (.sub 0)) [.list ds, .list [.dict [(.int p, .str q)]]]).bind fun o => match o with | .rt d _ => some (.rt d [.list [.dict [(.int p, .str q)]]]) | _ => none else none
  | _ => none
theorem many_tbl {K : PySem.W.Frag} {M H : Hp} {P : Addr} {q : Str} : ∀ {r : LT}, RowOk K r M H [.list [.dict [(.int P, .str q)]]] → r = .many [.tbl P q] ∧ M P = none ∧ LamX.TabS H P q
  | .nil, h => by cases (show ([PyData.list [.dict [(.int P, .str q)]]] : DL.Row) = [] from h)
  | .one (.row r), h => by
    obtain ⟨_, vs, _, _, h⟩ := h
    cases h with | cons a _ => cases a with | lst _ _ r => exact (rps_dict r).elim
  | .one (.obj C A dx fl), h => by
    obtain ⟨_, _, _, _, vs, _, h⟩ := h
    exact ((flds_dict h _).2 (List.mem_cons_self)).elim
  | .one (.tbl P' q'), h => by
    obtain ⟨h, _⟩ := h
    cases h
  | .many ps, h => by
    obtain ⟨ss, e, hl, hp, hd⟩ := h
    have e : [PyData.list [.dict [(.int P, .str q)]]] = ss.map PyData.list := e
    cases ss with
    | nil => simp at e
    | cons sk ss =>
      simp only [List.map_cons, List.cons.injEq, PyData.list.injEq] at e
      obtain ⟨rfl, e⟩ := e
      cases ss with
      | cons _ _ => simp at e
      | nil =>
        cases ps with
        | nil => simp at hl
        | cons p ps =>
          cases ps with
          | cons _ _ => simp at hl
          | nil =>
            have h0 := hp 0 p _ rfl rfl
            have ep := LP.tbl_of h0
            subst ep
            exact ⟨rfl, h0.2.1, h0.2.2⟩
theorem gs_mkRowT (j : Nat) {K : PySem.W.Frag} {W : Wish} {ts : TS} {f : SS} (a : GoodS K W ts f) : GoodS K W ts (sMkRowT j f) := fun B M H σ ρ s o ok e D q => by
  unfold sMkRowT at e
  split at e
  · rename_i p0 nm
    split at e
    · rename_i hp0
      obtain ⟨P, rfl⟩ : ∃ P : Nat, p0 = (P : Int) := ⟨p0.toNat, by omega⟩
      obtain ⟨ds, e1, e⟩ := bnd e
      obtain ⟨o1, e2, e⟩ := bnd e
      obtain ⟨p, vs, h0, h1, h2, h3, h4, h5, h6⟩ := ok.own (ownAt_eq e1)
      obtain ⟨hr, tM, tT⟩ := many_tbl ok.row
      have memP : B.r.mem P := by rw [hr]; exact ⟨_, List.mem_cons_self, rfl⟩
      have npP : p ≠ P := fun z => h6 (by rw [z]; exact memP)
      have hj : j < ρ.length := (List.getElem?_eq_some_iff.mp (ownAt_eq e1)).1
      have hj' : j < (deadE ρ).length := by unfold deadE; rw [List.length_map]; exact hj
      have at_ : ∀ (i : Nat) (x : Sl), (deadE ρ)[i]? = some x → x = .dead ∨ ∃ d, x = .imm d ∧ ρ[i]? = some (.imm d) := fun i x e => by
        unfold deadE at e
        rw [List.getElem?_map] at e
        cases z : ρ[i]? with
        | none => rw [z] at e; cases e
        | some y => rw [z] at e; cases y <;> cases e <;> first | exact .inl rfl | exact .inr ⟨_, rfl, rfl⟩
      have mem2 : ∀ c, LT.mem (.many [.row p, .tbl P nm]) c → c = p ∨ c = P := fun c ⟨w, hw, z⟩ => by
        rcases List.mem_cons.mp hw with hw | hw
        · subst hw; exact .inl z
        · have hw : w = .tbl P nm := by simpa using hw
          subst hw; exact .inr z
      have ok1 : Ok K ⟨.many [.row p, .tbl P nm], H, M⟩ M H σ ((deadE ρ).set j (.sub 0)) [.list ds, .list [.dict [(.int P, .str nm)]]] := by
        refine ⟨ok.sub, fun _ _ h => h, fun _ _ h _ => h, fun _ _ h => .inl h, ⟨[ds, [.dict [(.int P, .str nm)]]], rfl, rfl, fun k w sk e3 e4 => ?_, fun k1 k2 w1 w2 c hne e3 e4 a1 a2 => ?_⟩, by rw [List.length_set]; unfold deadE; rw [List.length_map]; exact ok.len, fun i x e => ?_, fun i k x y c hik a1 a2 a3 a4 => ?_⟩
        · match k, e3, e4 with
          | 0, e3, e4 => cases e3; cases e4; exact ⟨h4, vs, h1, h2, h3⟩
          | 1, e3, e4 => cases e3; cases e4; exact ⟨rfl, tM, tT⟩
        · match k1, k2, e3, e4, hne with
          | 0, 1, e3, e4, _ => cases e3; cases e4; exact npP ((show c = p from a1).symm.trans a2)
          | 1, 0, e3, e4, _ => cases e3; cases e4; exact npP ((show c = p from a2).symm.trans a1)
          | 0, 0, _, _, h => exact h rfl
          | 1, 1, _, _, h => exact h rfl
        · by_cases hi : j = i
          · subst hi
            rw [List.getElem?_set_self hj'] at e
            cases e
            rw [h0]; exact ⟨[.row p, .tbl P nm], rfl, rfl⟩
          · rw [List.getElem?_set_ne hi] at e
            rcases at_ i x e with rfl | ⟨d, rfl, e'⟩
            · trivial
            · obtain ⟨v, b1, b2⟩ := ok.imm e'
              rw [b1]; exact b2
        · by_cases hi : j = i
          · subst hi
            rw [List.getElem?_set_self hj'] at a1
            cases a1
            rw [h0] at a3
            cases a3
          · rw [List.getElem?_set_ne hi] at a1
            rcases at_ i _ a1 with e | ⟨d, e, _⟩
            · subst e; rw [footS_dead] at a3; cases a3
            · subst e; rw [footS_imm] at a3; cases a3
      refine a _ M H σ _ _ o1 ok1 e2 D ?_
      cases o1 with
      | rt d s1 =>
        cases e
        refine fun v H1 M1 ok2 rr => q v H1 M1 ⟨ok2.sub, ok.ext.trans ok2.ext, fun c u h hc => ?_, fun c u h => ?_, ?_, rfl, fun i x e => by simp at e, fun i k x y c _ e => by simp at e⟩ rr
        · refine ok2.keep c u (ok.keep c u h hc) fun z => ?_
          rcases mem2 c z with z | z
          · subst z; rw [h5] at h; cases h
          · subst z; exact hc memP
        · rcases ok2.fresh c u h with z | z
          · exact ok.fresh c u z
          · refine .inr ?_
            cases w : B.H0 c with
            | none => rfl
            | some x =>
              have z : H c = none := z
              by_cases hc : B.r.mem c
              · obtain ⟨_, w, g⟩ := B.r.live ok.row hc
                rw [g] at z; cases z
              · have g := ok.keep c x w hc
                rw [g] at z; cases z
        · have hrow : RowOk K (.many [.row p, .tbl P nm]) M1 H1 s1 := ok2.row
          obtain ⟨ss, _, hl, hp, _⟩ := hrow
          have h1' : 1 < ss.length := by rw [hl]; show 1 < 2; decide
          have hk := hp 1 _ _ rfl (List.getElem?_eq_getElem h1')
          obtain ⟨_, k1, k2⟩ := hk
          show LT.ok K B.r M1 H1 _
          rw [hr]
          refine ⟨[[.dict [(.int P, .str nm)]]], rfl, rfl, fun k w sk e3 e4 => ?_, fun k1 k2 w1 w2 c hne e3 e4 a1 a2 => ?_⟩
          · match k, e3, e4 with
            | 0, e3, e4 => cases e3; cases e4; exact ⟨rfl, k1, k2⟩
          · match k1, k2, e3, e4, hne with
            | 0, 0, _, _, h => exact h rfl
      | _ => cases e
    · cases e
  · cases e
theorem ss_mkRowT (j : Nat) {X : Cx} {K : PySem.W.Frag} {W : Wish} {st : List Stmt} {ts : TS} {f : SS} (A : DSs X K W st ts f) : DSs X K W st ts (sMkRowT j f) := ⟨A.hk, A.ps, gs_mkRowT j A.gd⟩
/-! ### the law's promise, where it has a table -/
def tabS0 (P : Addr) (q : Str) : DL.Row := [.list [.dict [(.int P, .str q)]]]
def runT (P : Addr) (q : Str) (N : Nat) (b : SS) (ds : List D) : Option D := (b (envP N ds) (tabS0 P q)).bind fun o => match o with | .rt d _ => some d | _ => none
def spLawT (K : PySem.W.Frag) (n : Nat) (P : Addr) : Sp := fun vs H Q _ => ∃ (a : Addr) (ns : List Int), vs = [.ref a] ∧ H P = some (.tbl #[]) ∧ SqL K H a (ns.map V.int) ∧ ns.length ≤ n ∧ ∀ H', Q (.bl true) H'
theorem ok_startT {K : PySem.W.Frag} {M H : Hp} {vs : List V} {ds : List D} {N : List Str} {P : Addr} {q : Str} (hs : Same M H) (hM : M P = none) (hT : LamX.TabS H P q) (r : Rps K M vs ds) (hn : ds.length ≤ N.length) : Ok K ⟨.many [.tbl P q], H, M⟩ M H (L2.start N vs) (envP N.length ds) (tabS0 P q) := by
  have hl := r.length
  refine ⟨hs, fun _ _ h => h, fun _ _ h _ => h, fun _ _ h => .inl h, ⟨[[.dict [(.int P, .str q)]]], rfl, rfl, fun k w sk e3 e4 => ?_, fun k1 k2 w1 w2 c hne e3 e4 a1 a2 => ?_⟩, ?_, ?_, fun i j x y a _ e1 _ a1 _ => by
    unfold envP at e1
    rw [no_foot e1] at a1; cases a1⟩
  · match k, e3, e4 with
    | 0, e3, e4 => cases e3; cases e4; exact ⟨rfl, hM, hT⟩
  · match k1, k2, e3, e4, hne with
    | 0, 0, _, _, h => exact h rfl
  · unfold L2.start envP; simp [hl]
  · unfold L2.start envP
    rw [hl]
    exact slots_data r
theorem fnok_T {P : Program} {w : World} {K : PySem.W.Frag} {mg : Str → Option Value} {base : Heap} {x qual : Str} {st : Stmt} {f c T : Addr} {oc : Value} {od an : Option Addr} {osl : Array (Option Value)} {kV doc pm ct : Value} {N : List Str} {y q : Str} {k n : Nat} {b : SS}
    (lk : K.lookup f = some ⟨oc, od, .func (PySem.W.fnOf x qual (defArgs st) (defBody st) (defScope st) .none kV doc pm an (.ref c) ct), osl⟩) (hcd : PySem.W.codeIn K (.ref c) qual = true) (S : FnScope N [y] (defScope st)) (hn : n ≤ lim)
    (hb : ∀ (A : Around) (outer : List PySem.Env) (s : Shared) (H : Hp) (E : XK), Room k (A.deeper (envOfC qual (defScope st) s.heap.objs.size f (.ref c))) → ∃ t, DSs (cxOf CX0 P w K mg base N qual (defScope st) f (.ref c) A outer s H E).nox K W0 (defBody st) t b)
    (h : ∀ ns : List Int, ns.length ≤ n → runT T q N.length b [.list (ns.map PyData.int)] = some (.bool true)) (hl : 1 ≤ N.length := by decide) :
    FnOk P w K mg base CX0 (k + 1) f (PySem.W.fnOf x qual (defArgs st) (defBody st) (defScope st) .none kV doc pm an (.ref c) ct) [y] (spLawT K n T) := by
  refine fn_of lk hcd S (fun vs H Q E h => ?_) (fun A outer s H vs Q E hr hsp => ?_)
  · obtain ⟨a, ns, rfl, _⟩ := h; rfl
  · obtain ⟨a, ns, rfl, hT, hS, hlen, hq⟩ := hsp
    obtain ⟨t, TT⟩ := hb A outer s H E hr
    refine ⟨t, TT.ps.nox, ?_⟩
    let M : Hp := fun c => if c = T then none else H c
    have hM : M T = none := if_pos rfl
    have at_ : ∀ c, c ≠ T → M c = H c := fun c z => if_neg z
    have hs : Same M H := fun c o e => by
      by_cases z : c = T
      · rw [z, hM] at e; cases e
      · rw [at_ c z] at e; exact e
    have hS' : SqL K M a (ns.map V.int) := by
      rcases hS with (hS | ⟨o, hS⟩) | hS
      · exact .inl (.inl (by rw [at_ a (fun z => by rw [z, hT] at hS; cases hS)]; exact hS))
      · exact .inl (.inr ⟨o, by rw [at_ a (fun z => by rw [z, hT] at hS; cases hS)]; exact hS⟩)
      · exact .inr hS
    have hlen' : (ns.map V.int).length ≤ lim := by rw [List.length_map]; omega
    obtain ⟨o, e1, e⟩ := bnd (h ns hlen)
    refine TT.gd _ M H _ _ _ o (ok_startT hs hM (LamX.TabS.nil hT) (.cons (.lst hS' hlen' (Rps.ints ns)) .nil) hl) e1 _ ?_
    cases o with
    | rt d s1 =>
      cases e
      exact fun v H1 M1 ok r => by cases r; exact hq H1
    | _ => cases e
section
variable {ρ : DL.Env} {s : DL.Row} {fa : SA} {P : Addr} {q : Str} {L : List (Str × D)} {n j : Nat} {fn : List D → Option RX} {f : SS}
@[simp] theorem eLam_ap : eLam P q L n fn fa ρ s = if tabAt s P q then (fa ρ s).bind fun x => if x.1.length = n then (fn x.1).bind fun r => (wordX L r).bind fun d => some (d, x.2) else none else none := rfl
@[simp] theorem tabAt_ap {d : D} {r : DL.Row} : tabAt (d :: .list [.dict [(.int P, .str q)]] :: r) P q = true := by simp [tabAt]
@[simp] theorem sMkRowT_ap {P : Addr} : sMkRowT j f ρ (tabS0 P q) = (ownAt ρ j).bind fun ds => (f ((deadE ρ).set j (.sub 0)) (.list ds :: tabS0 P q)).bind fun o => match o with | .rt d _ => some (.rt d (tabS0 P q)) | _ => none := by
  show (if (0 : Int) ≤ (P : Int) then _ else none) = _
  rw [if_pos (by omega)]
  rfl
@[simp] theorem tabAt_ap0 {d : D} : tabAt (d :: tabS0 P q) P q = true := by simp [tabAt, tabS0]
end
end DL

/-! continue; what is known of the errors' classes. -/
namespace DL
open PySem PySem.Spec PyProof.Rows L2
def sCont : SS := fun ρ s => some (.ct ρ s)
theorem gs_cont {K : PySem.W.Frag} {W : Wish} : GoodS K W tCont sCont := fun B M H σ ρ s o ok e D q => by
  cases e
  exact q σ H M ok
theorem s_cont {X : Cx} {K : PySem.W.Frag} {W : Wish} {pos : Pos} (hK : X.K = K := by rfl) : DS X K W (.Continue pos) tCont sCont := by
  subst hK
  exact ⟨rfl, ps_continue, gs_cont⟩
/-- an error's class: how its instances answer in a suite -/
structure ErrD (K : PySem.W.Frag) (CE : Addr) (cs : List (Str × Value)) (D0 : Addr) (z : Str → Bool) : Prop where
  ec : ExcC K D0
  ex : PySem.W.exmOne K (.ref D0) (.ref CE) = some true
  ks : ∀ x v, (x, v) ∈ cs → PySem.W.kitOne K (.ref D0) v = some (z x)
section
variable {K : PySem.W.Frag} {t v : Value} {z : Str → Bool} {x : Str} {cs : List (Str × Value)} {b : Bool}
theorem ks_nil : ∀ x v, (x, v) ∈ ([] : List (Str × Value)) → PySem.W.kitOne K t v = some (z x) := fun _ _ h => by cases h
theorem ks_cons (h : PySem.W.kitOne K t v = some b) (e : b = z x) (r : ∀ x v, (x, v) ∈ cs → PySem.W.kitOne K t v = some (z x)) : ∀ x' v', (x', v') ∈ (x, v) :: cs → PySem.W.kitOne K t v' = some (z x') := fun x' v' m => by
  rcases List.mem_cons.mp m with m | m
  · cases m; rw [h, e]
  · exact r x' v' m
end
def codeB (vs : Array Value) (P c : Addr) : Bool := (match (vs[11]? : Option Value) with | some (.ref P') => P' == P | _ => false) &&
      (match vs.getD 18 .none with | .str _ _ => true | _ => false) && (match vs.getD 7 .none with | .int _ _ => true | _ => false) &&
      (match vs.getD 9 .none with | .bool _ => true | _ => false) && (match vs.getD 10 .none with | .int _ _ => true | _ => false) && c != P
theorem codeHd_of {K : PySem.W.Frag} {c P : Addr} {d : Option Addr} {vs : Array Value} {sl : Array (Option Value)} (l : K.lookup c = some ⟨.type "code", d, .fields vs, sl⟩) (h : codeB vs P c = true) : PySem.W.codeHdIn K c P = true := by
  unfold PySem.W.codeHdIn
  rw [l]
  exact h
theorem kit_ref {K : PySem.W.Frag} {D C : Addr} {b : Bool} (h1 : PySem.W.isClsIn K C = true) (h2 : PySem.W.typeIn K (.ref C) = some (.type "type")) (h3 : PySem.W.subIn K (.ref D) (.ref C) = some b) (ne : D ≠ C) : PySem.W.kitOne K (.ref D) (.ref C) = some b := by
  have e : ((Value.ref D == Value.ref C) = true) = False := eq_false (fun h => ne (Value.ref.inj (beq_iff_eq.mp h)))
  have e2 : ((PySem.W.clsIn K C).isSome && PySem.W.typeIn K (.ref C) == some (.type "type")) = true := by
    have h1 : (PySem.W.clsIn K C).isSome = true := h1
    rw [h1, h2] <;> rfl
  unfold PySem.W.kitOne
  rw [if_neg (by rw [e]; exact id)]
  show (if ((PySem.W.clsIn K C).isSome && PySem.W.typeIn K (.ref C) == some (.type "type")) = true then PySem.W.subIn K (.ref D) (.ref C) else none) = _
  rw [if_pos e2, h3]
theorem kit_self {K : PySem.W.Frag} {D : Addr} : PySem.W.kitOne K (.ref D) (.ref D) = some true := by
  unfold PySem.W.kitOne
  rw [if_pos (by simp)]
theorem kit_type {K : PySem.W.Frag} {D : Addr} {T : String} {b : Bool} (h : PySem.W.subIn K (.ref D) (.type T) = some b) (hm : PySem.W.kitMeta T = true := by decide +kernel) : PySem.W.kitOne K (.ref D) (.type T) = some b := by
  unfold PySem.W.kitOne
  rw [if_neg (by intro h; have := beq_iff_eq.mp h; cases this)]
  show (if PySem.W.kitMeta T = true then PySem.W.subIn K (.ref D) (.type T) else none) = _
  rw [if_pos hm, h]
/-- the class D, and no other of those that are asked -/
def zOf (D : Str) : Str → Bool := fun x => x == D || x == "ValueError"
section
variable {ρ : DL.Env} {s : DL.Row}
@[simp] theorem sCont_ap : sCont ρ s = some (.ct ρ s) := rfl
@[simp] theorem rawAt_1 {x : Sl} {a : Addr} {r : DL.Env} : rawAt (x :: .raw (.ref a) :: r) 1 a = true := by simp [rawAt]
end
/-- the name of a lambda in law -/
def qLam : Str := ("law" ++ ".<locals>.") ++ "<lambda>"
end DL

set_option maxHeartbeats 1000000
/-! What the program's defs and the law's reckon, as functions of data. -/
namespace PC
open PySem DL
def g_WAYS : D := .tuple [.str "one", .str "first", .str "same"]
def b_is_whole : SS := (sRet (eAnd (eIsI "int" (eVar 0)) (eAnd (eNot (eIsI "bool" (eVar 0))) (eChain leD leD (eVar 1) (eVar 0) (eVar 2)))))
def fn_is_whole : List D → Option D := runP 3 b_is_whole
def b_is_want : SS := (sSeq (sIf (bVal (eOp isND (eVar 0) (eC .none))) (sRet (eC (.bool true))) sNext)
  (sSeq (sIf (bOr (bNot (bVal (eIsI "tuple" (eVar 0)))) (bVal (eOp eqD (eVar 0) (eTup aNil)))) (sRet (eC (.bool false))) sNext)
  (sSeq (sIf (bVal (eOp neD (eL (lComp (rVar 0) (hName 2) (bNot (bVal (eCall 3 fn_is_whole (aCons (eVar 2) (aCons (eC (.int 0)) (aCons (eOp subD (eVar 1) (eC (.int 1))) aNil)))))) (eVar 2) [2])) (eL (lLst aNil)))) (sRet (eC (.bool false))) sNext)
  (sRet (eOp eqD (eL (lComp (i2Rng (eC (.int 1)) (eLen (rVar 0))) (hName 3) (bVal (eOp geD (eIx (rVar 0) (eOp subD (eVar 3) (eC (.int 1)))) (eIx (rVar 0) (eVar 3)))) (eVar 3) [3])) (eL (lLst aNil)))))))
def fn_is_want : List D → Option D := runP 4 b_is_want
def b_is_deed : SS := (sRet (eOr (eOp isND (eVar 0) (eC .none)) (eCall 3 fn_is_whole (aCons (eVar 0) (aCons (eC (.int 0)) (aCons (eC (.int 9)) aNil))))))
def fn_is_deed : List D → Option D := runP 1 b_is_deed
def b_is_rule : SS := (sSeq (sIf (bOr (bNot (bVal (eIsI "tuple" (eVar 1)))) (bOr (bVal (eOp neD (eLen (rVar 1)) (eC (.int 2)))) (bOr (bNot (bVal (eIsI "tuple" (eIx (rVar 1) (eC (.int 0)))))) (bVal (eOp neD (eLen (rE (eIx (rVar 1) (eC (.int 0))))) (eLen (rVar 0))))))) (sRet (eC (.bool false))) sNext)
  (sSeq (sIf (bVal (eOp neD (eL (lComp (i1Rng (eLen (rVar 0))) (hName 2) (bNot (bVal (eCall 2 fn_is_want (aCons (eIx (rE (eIx (rVar 1) (eC (.int 0)))) (eVar 2)) (aCons (eIx (rVar 0) (eVar 2)) aNil))))) (eVar 2) [2])) (eL (lLst aNil)))) (sRet (eC (.bool false))) sNext)
  (sRet (eCall 1 fn_is_deed (aCons (eIx (rVar 1) (eC (.int 1))) aNil)))))
def fn_is_rule : List D → Option D := runP 3 b_is_rule
def b_need_table : SS := (sSeq (sIf (bOr (bNot (bVal (eIsI "tuple" (eVar 0)))) (bOr (bVal (eOp neD (eLen (rVar 0)) (eC (.int 2)))) (bOr (bNot (bVal (eIsI "tuple" (eIx (rVar 0) (eC (.int 0)))))) (bVal (eOp eqD (eIx (rVar 0) (eC (.int 0))) (eTup aNil)))))) sNone sNext)
  (sSeq (sTgt (hTup (hCons (hName 2) (hCons (hName 3) hNil))) (eVar 0))
  (sSeq (sFor (i1Rng (eLen (rVar 2))) (hName 1) (sIf (bOr (bVal (eOp geD (eVar 1) (eC (.int 5)))) (bNot (bVal (eCall 3 fn_is_whole (aCons (eIx (rVar 2) (eVar 1)) (aCons (eC (.int 2)) (aCons (eC (.int 4)) aNil))))))) sNone sNext))
  (sSeq (sIf (bNot (bVal (eIsI "tuple" (eVar 3)))) sNone sNext)
  (sFor (i1Rng (eLen (rVar 3))) (hName 1) (sIf (bOr (bVal (eOp geD (eVar 1) (eC (.int 40)))) (bNot (bVal (eCall 2 fn_is_rule (aCons (eVar 2) (aCons (eIx (rVar 3) (eVar 1)) aNil)))))) sNone sNext))))))
def fn_need_table : List D → Option D := runP 4 b_need_table
def b_need_way : SS := (sIf (bOr (bNot (bVal (eIsI "str" (eVar 0)))) (bVal (eOp ninD (eVar 0) (eC g_WAYS)))) sNone sNext)
def fn_need_way : List D → Option D := runP 1 b_need_way
def b_all_cases : SS := (sSeq (sSetL 1 (lLst (aCons (eTup aNil) aNil)))
  (sSeq (sFor (rE (eVar 0)) (hName 2) (sSeq (sSetL 3 (lLst aNil))
  (sSeq (sFrz 1 (sFor (rE (eVar 1)) (hName 4) (sExt 3 (lComp (i1Rng (eVar 2)) (hName 5) bYes (eOp addD (eVar 4) (eTup (aCons (eVar 5) aNil))) [5]))))
  (sMove 1 3))))
  (sRetOwn 1)))
def fn_all_cases : List D → Option (List D) := runPL 6 b_all_cases
def b_holds : SS := (sRet (eOp eqD (eL (lComp (i1Rng (eLen (rVar 1))) (hName 2) (bAnd (bVal (eOp notND (eIx (rE (eIx (rVar 0) (eC (.int 0)))) (eVar 2)) (eC .none))) (bVal (eOp ninD (eIx (rVar 1) (eVar 2)) (eIx (rE (eIx (rVar 0) (eC (.int 0)))) (eVar 2))))) (eVar 2) [2])) (eL (lLst aNil))))
def fn_holds : List D → Option D := runP 3 b_holds
def b_holding : SS := (sRetL (lComp (i1Rng (eLen (rE (eIx (rVar 0) (eC (.int 1)))))) (hName 2) (bVal (eCall 2 fn_holds (aCons (eIx (rE (eIx (rVar 0) (eC (.int 1)))) (eVar 2)) (aCons (eVar 1) aNil)))) (eVar 2) [2]))
def fn_holding : List D → Option (List D) := runPL 3 b_holding
def b_clashing : SS := (sSeq (sIf (bOr (bVal (eOp eqD (eVar 1) (eC (.str "first")))) (bVal (eOp ltD (eLen (rVar 2)) (eC (.int 2))))) (sRet (eC .none)) sNext)
  (sSeq (sIf (bVal (eOp eqD (eVar 1) (eC (.str "one")))) (sRet (eTup (aCons (eIx (rVar 2) (eC (.int 0))) (aCons (eIx (rVar 2) (eC (.int 1))) aNil)))) sNext)
  (sSeq (sSet 3 (eIx (rE (eIx (rE (eIx (rVar 0) (eC (.int 1)))) (eIx (rVar 2) (eC (.int 0))))) (eC (.int 1))))
  (sSeq (sFrzB 4 (sSetL 4 (lComp (rVar 2) (hName 5) (bVal (eOp neD (eIx (rE (eIx (rE (eIx (rVar 0) (eC (.int 1)))) (eVar 5))) (eC (.int 1))) (eVar 3))) (eVar 5) [5])))
  (sRet (eIf (bVal (eOp neD (eVar 4) (eL (lLst aNil)))) (eTup (aCons (eIx (rVar 2) (eC (.int 0))) (aCons (eIx (rVar 4) (eC (.int 0))) aNil))) (eC .none)))))))
def fn_clashing : List D → Option D := runP 6 b_clashing
def b_without : SS := (sRet (eTup (aCons (eIx (rVar 0) (eC (.int 0))) (aCons (eOp addD (eSl (eIx (rVar 0) (eC (.int 1))) oNo (oPart (eVar 1))) (eSl (eIx (rVar 0) (eC (.int 1))) (oPart (eOp addD (eVar 1) (eC (.int 1)))) oNo)) aNil))))
def fn_without : List D → Option D := runP 2 b_without
def b_all_held : SS := (sRet (eL (lComp (lCall 1 fn_all_cases (aCons (eIx (rVar 0) (eC (.int 0))) aNil)) (hName 1) bYes (eTup (aCons (eVar 1) (aCons (eL (lCall 2 fn_holding (aCons (eVar 0) (aCons (eVar 1) aNil)))) aNil))) [1])))
def fn_all_held : List D → Option D := runP 2 b_all_held
def b_kind_of : SS := (sSeq (sIf (bVal (eOp eqD (eVar 2) (eL (lLst aNil)))) (sRet (eTup (aCons (eC (.str "gap")) aNil))) sNext)
  (sRet (eIf (bVal (eOp notND (eCall 3 fn_clashing (aCons (eVar 0) (aCons (eVar 1) (aCons (eVar 2) aNil)))) (eC .none))) (eTup (aCons (eC (.str "clash")) aNil)) (eTup (aCons (eC (.str "deed")) (aCons (eIx (rE (eIx (rE (eIx (rVar 0) (eC (.int 1)))) (eIx (rVar 2) (eC (.int 0))))) (eC (.int 1))) aNil))))))
def fn_kind_of : List D → Option D := runP 3 b_kind_of
def b_all_kinds : SS := (sRet (eL (lComp (rE (eCall 1 fn_all_held (aCons (eVar 0) aNil))) (hTup (hCons (hName 2) (hCons (hName 3) hNil))) bYes (eCall 3 fn_kind_of (aCons (eVar 0) (aCons (eVar 1) (aCons (eVar 3) aNil)))) [2, 3])))
def fn_all_kinds : List D → Option D := runP 4 b_all_kinds
def b_otherwise : SS := (sSeq (sPar 3 4 (eCall 2 fn_all_kinds (aCons (eVar 0) (aCons (eVar 2) aNil))) (eCall 2 fn_all_kinds (aCons (eVar 1) (aCons (eVar 2) aNil))))
  (sRet (eL (lComp (i3Zip (aCons (eL (lCall 1 fn_all_cases (aCons (eIx (rVar 0) (eC (.int 0))) aNil))) (aCons (eVar 3) (aCons (eVar 4) aNil)))) (hName 5) (bVal (eOp neD (eIx (rVar 5) (eC (.int 1))) (eIx (rVar 5) (eC (.int 2))))) (eVar 5) [5]))))
def fn_otherwise : List D → Option D := runP 6 b_otherwise
def b_parted : SS := (sSeq (sDrop (eCall 1 fn_need_table (aCons (eVar 0) aNil)))
  (sSeq (sDrop (eCall 1 fn_need_table (aCons (eVar 1) aNil)))
  (sSeq (sIf (bVal (eOp neD (eIx (rVar 0) (eC (.int 0))) (eIx (rVar 1) (eC (.int 0))))) sNone sNext)
  (sSeq (sDrop (eCall 1 fn_need_way (aCons (eVar 2) aNil)))
  (sSeq (sSet 3 (eCall 3 fn_otherwise (aCons (eVar 0) (aCons (eVar 1) (aCons (eVar 2) aNil)))))
  (sRet (eIf (bVal (eOp neD (eVar 3) (eL (lLst aNil)))) (eIx (rVar 3) (eC (.int 0))) (eC .none))))))))
def fn_parted : List D → Option D := runP 4 b_parted
def b_exchanged : SS := (sSeq (sIf (bVal (eOp isND (eVar 2) (eC .none))) (sRet (eCall 2 fn_without (aCons (eVar 0) (aCons (eVar 1) aNil)))) sNext)
  (sRet (eTup (aCons (eIx (rVar 0) (eC (.int 0))) (aCons (eOp addD (eOp addD (eSl (eIx (rVar 0) (eC (.int 1))) oNo (oPart (eVar 1))) (eTup (aCons (eVar 2) aNil))) (eSl (eIx (rVar 0) (eC (.int 1))) (oPart (eOp addD (eVar 1) (eC (.int 1)))) oNo)) aNil)))))
def fn_exchanged : List D → Option D := runP 3 b_exchanged
def b_need_change : SS := (sSeq (sIf (bNot (bVal (eCall 3 fn_is_whole (aCons (eVar 1) (aCons (eC (.int 0)) (aCons (eOp subD (eLen (rE (eIx (rVar 0) (eC (.int 1))))) (eC (.int 1))) aNil)))))) sNone sNext)
  (sIf (bAnd (bVal (eOp notND (eVar 2) (eC .none))) (bNot (bVal (eCall 2 fn_is_rule (aCons (eIx (rVar 0) (eC (.int 0))) (aCons (eVar 2) aNil)))))) sNone sNext))
def fn_need_change : List D → Option D := runP 3 b_need_change
def b_reach : SS := (sSeq (sDrop (eCall 1 fn_need_table (aCons (eVar 0) aNil)))
  (sSeq (sDrop (eCall 1 fn_need_way (aCons (eVar 1) aNil)))
  (sSeq (sDrop (eCall 3 fn_need_change (aCons (eVar 0) (aCons (eVar 2) (aCons (eVar 3) aNil)))))
  (sSeq (sSet 4 (eCall 3 fn_otherwise (aCons (eVar 0) (aCons (eCall 3 fn_exchanged (aCons (eVar 0) (aCons (eVar 2) (aCons (eVar 3) aNil)))) (aCons (eVar 1) aNil)))))
  (sRet (eTup (aCons (eLen (rVar 4)) (aCons (eIf (bVal (eOp neD (eVar 4) (eL (lLst aNil)))) (eIx (rE (eIx (rVar 4) (eC (.int 0)))) (eC (.int 0))) (eC .none)) aNil))))))))
def fn_reach : List D → Option D := runP 5 b_reach
def b__law_taken : SS := (sSeq (sIf (bVal (eOp gtD (eRowIx 0 (eC (.int 3))) (eC (.int 0)))) (sSeq (sSet 3 (eOp modD (eRowIx 0 (eC (.int 3))) (eVar 1)))
  (sSeq (sRowSet 0 (eC (.int 3)) (eOp fdivD (eRowIx 0 (eC (.int 3))) (eVar 1)))
  (sRet (eVar 3)))) sNext)
  (sSeq (sRowSet 0 (eC (.int 1)) (eOp addD (eRowIx 0 (eC (.int 1))) (eC (.int 1))))
  (sSeq (sIf (bVal (eOp gtD (eRowIx 0 (eC (.int 1))) (eLen (rE (eRowIx 0 (eC (.int 0))))))) (sSeq (sRowSet 0 (eC (.int 2)) (eOp modD (eOp addD (eOp mulD (eRowIx 0 (eC (.int 2))) (eC (.int 48271))) (eC (.int 11))) (eC (.int 2147483647))))
  (sRet (eOp modD (eOp fdivD (eRowIx 0 (eC (.int 2))) (eC (.int 7))) (eVar 1)))) sNext)
  (sSeq (sSet 2 (eIx (rE (eRowIx 0 (eC (.int 0)))) (eOp subD (eRowIx 0 (eC (.int 1))) (eC (.int 1)))))
  (sSeq (sRowSet 0 (eC (.int 2)) (eOp modD (eOp addD (eOp addD (eOp mulD (eRowIx 0 (eC (.int 2))) (eC (.int 48271))) (eVar 2)) (eC (.int 11))) (eC (.int 2147483647))))
  (sSeq (sIf (bVal (eOp geD (eVar 2) (eOp powD (eC (.int 10)) (eC (.int 18))))) (sRowSet 0 (eC (.int 3)) (eOp fdivD (eVar 2) (eVar 1))) sNext)
  (sRet (eOp modD (eVar 2) (eVar 1)))))))))
def fn__law_taken : List D → DL.Row → Option (D × DL.Row) := runR 4 b__law_taken
def b__law_alike (fn : List D → Option D) : SS := (sSeq (sIf (bOr (bVal (eIsI "tuple" (eVar 1))) (bVal (eIsI "list" (eVar 1)))) (sSeq (sIf (bOr (bVal (eOp neD (eIsI "tuple" (eVar 0)) (eIsI "tuple" (eVar 1)))) (bNot (bVal (eIsI2 "tuple" "list" (eVar 0))))) (sRet (eC (.bool false))) sNext)
  (sSeq (sIf (bVal (eOp neD (eLen (rVar 0)) (eLen (rVar 1)))) (sRet (eC (.bool false))) sNext)
  (sRet (eOp eqD (eL (lComp (i1Rng (eLen (rVar 1))) (hName 2) (bNot (bVal (eCall 2 fn (aCons (eIx (rVar 0) (eVar 2)) (aCons (eIx (rVar 1) (eVar 2)) aNil))))) (eVar 2) [2])) (eL (lLst aNil)))))) sNext)
  (sSeq (sIf (bOr (bVal (eOp isND (eVar 1) (eC .none))) (bVal (eOp isND (eVar 0) (eC .none)))) (sRet (eAnd (eOp isND (eVar 1) (eC .none)) (eOp isND (eVar 0) (eC .none)))) sNext)
  (sSeq (sIf (bOr (bVal (eIsI "bool" (eVar 1))) (bVal (eIsI "bool" (eVar 0)))) (sRet (eAnd (eIsI "bool" (eVar 1)) (eAnd (eIsI "bool" (eVar 0)) (eOp eqD (eVar 0) (eVar 1))))) sNext)
  (sSeq (sIf (bVal (eIsI "str" (eVar 1))) (sRet (eAnd (eIsI "str" (eVar 0)) (eOp eqD (eVar 0) (eVar 1)))) sNext)
  (sRet (eAnd (eIsI "int" (eVar 0)) (eOp eqD (eVar 0) (eVar 1))))))))
def fn__law_alike : Nat → List D → Option D
  | 0 => fun _ => none
  | n + 1 => runP 3 (b__law_alike (fn__law_alike n))
def b__law_sizes : SS := (sSeq (sSet 1 (eIx (lLst (aCons (eC (.int 1)) (aCons (eC (.int 2)) (aCons (eC (.int 3)) (aCons (eC (.int 3)) (aCons (eC (.int 4)) (aCons (eC (.int 5)) aNil))))))) (eCallR 0 2 fn__law_taken (aCons (eC (.int 6)) aNil))))
  (sSeq (sSet 2 (eCallR 0 2 fn__law_taken (aCons (eC (.int 3)) aNil)))
  (sRet (eTupL (lComp (i1Rng (eVar 1)) (hName 3) bYes (eOp addD (eC (.int 2)) (eOp mulD (eCallR 0 2 fn__law_taken (aCons (eIx (lLst (aCons (eC (.int 1)) (aCons (eC (.int 3)) (aCons (eC (.int 3)) aNil)))) (eVar 2)) aNil)) (eUn intD (eOr (eOp ltD (eVar 1) (eC (.int 5))) (eOp ltD (eVar 3) (eC (.int 3))))))) [3])))))
def fn__law_sizes : List D → DL.Row → Option (D × DL.Row) := runR 4 b__law_sizes
def b__law_want : SS := (sSeq (sSet 2 (eCallR 0 2 fn__law_taken (aCons (eC (.int 5)) aNil)))
  (sSeq (sIf (bVal (eOp ltD (eVar 2) (eC (.int 2)))) (sRet (eC .none)) sNext)
  (sSeq (sIf (bVal (eOp ltD (eVar 2) (eC (.int 4)))) (sRet (eTup (aCons (eCallR 0 2 fn__law_taken (aCons (eVar 1) aNil)) aNil))) sNext)
  (sSeq (sFrzB 3 (sSetL 3 (lComp (i1Rng (eVar 1)) (hName 4) (bVal (eOp eqD (eCallR 0 2 fn__law_taken (aCons (eC (.int 2)) aNil)) (eC (.int 0)))) (eVar 4) [4])))
  (sRet (eIf (bVal (eOp neD (eVar 3) (eL (lLst aNil)))) (eTupL (qVar 3)) (eTupRng (eVar 1))))))))
def fn__law_want : List D → DL.Row → Option (D × DL.Row) := runR 5 b__law_want
def b__law_rule : SS := (sSeq (sSet 3 (eTupL (lComp (rVar 1) (hName 5) bYes (eCallR 0 2 fn__law_want (aCons (eVar 5) aNil)) [5])))
  (sSeq (sSet 4 (eCallR 0 2 fn__law_taken (aCons (eVar 2) aNil)))
  (sRet (eTup (aCons (eVar 3) (aCons (eIf (bAnd (bVal (eOp eqD (eVar 4) (eOp subD (eVar 2) (eC (.int 1))))) (bVal (eOp eqD (eCallR 0 2 fn__law_taken (aCons (eC (.int 3)) aNil)) (eC (.int 0))))) (eC .none) (eVar 4)) aNil))))))
def fn__law_rule : List D → DL.Row → Option (D × DL.Row) := runR 6 b__law_rule
def b__law_near : SS := (sSeq (sSet 3 (eCallR 0 2 fn__law_taken (aCons (eOp addD (eLen (rVar 1)) (eC (.int 1))) aNil)))
  (sSeq (sIf (bVal (eOp eqD (eVar 3) (eLen (rVar 1)))) (sRet (eTup (aCons (eIx (rVar 2) (eC (.int 0))) (aCons (eIx (lLst (aCons (eC .none) (aCons (eC (.int 0)) (aCons (eC (.int 9)) (aCons (eC (.int 1)) aNil))))) (eCallR 0 2 fn__law_taken (aCons (eC (.int 4)) aNil))) aNil)))) sNext)
  (sRet (eTup (aCons (eOp addD (eOp addD (eSl (eIx (rVar 2) (eC (.int 0))) oNo (oPart (eVar 3))) (eTup (aCons (eCallR 0 2 fn__law_want (aCons (eIx (rVar 1) (eVar 3)) aNil)) aNil))) (eSl (eIx (rVar 2) (eC (.int 0))) (oPart (eOp addD (eVar 3) (eC (.int 1)))) oNo)) (aCons (eIx (rVar 2) (eC (.int 1))) aNil))))))
def fn__law_near : List D → DL.Row → Option (D × DL.Row) := runR 4 b__law_near
def b__law_table : SS := (sSeq (sSet 2 (eCallR 0 1 fn__law_sizes aNil))
  (sSeq (sPar 5 6 (eCallR 0 2 fn__law_taken (aCons (eOp addD (eIx (lLst (aCons (eC (.int 4)) (aCons (eC (.int 9)) (aCons (eVar 1) aNil)))) (eCallR 0 2 fn__law_taken (aCons (eC (.int 3)) aNil))) (eC (.int 1))) aNil)) (eIx (lLst (aCons (eC (.int 2)) (aCons (eC (.int 4)) (aCons (eC (.int 10)) aNil)))) (eCallR 0 2 fn__law_taken (aCons (eC (.int 3)) aNil))))
  (sSeq (sSetL 3 (lLst aNil))
  (sSeq (sFor (i1Rng (eOp minD (eVar 5) (eVar 1))) (hName 4) (sIf (bAnd (bVal (eLend (eOp neD (eVar 3) (eL (lLst aNil))))) (bVal (eOp eqD (eCallR 0 2 fn__law_taken (aCons (eC (.int 3)) aNil)) (eC (.int 0))))) (sApp 3 (eCallR 0 3 fn__law_near (aCons (eVar 2) (aCons (eIx (rVar 3) (eCallR 0 2 fn__law_taken (aCons (eLen (rVar 3)) aNil))) aNil)))) (sApp 3 (eCallR 0 3 fn__law_rule (aCons (eVar 2) (aCons (eVar 6) aNil))))))
  (sSeq (sIf (bAnd (bVal (eOp eqD (eCallR 0 2 fn__law_taken (aCons (eC (.int 4)) aNil)) (eC (.int 0)))) (bVal (eOp ltD (eLen (rVar 3)) (eVar 1)))) (sApp 3 (eTup (aCons (eOp mulD (eTup (aCons (eC .none) aNil)) (eLen (rVar 2))) (aCons (eIx (lLst (aCons (eC (.int 0)) (aCons (eC .none) aNil))) (eCallR 0 2 fn__law_taken (aCons (eC (.int 2)) aNil))) aNil)))) sNext)
  (sRet (eTup (aCons (eVar 2) (aCons (eTupL (qVar 3)) aNil)))))))))
def fn__law_table : List D → DL.Row → Option (D × DL.Row) := runR 7 b__law_table
def b__law_many : SS := (sSeq (sSet 1 (eTupL (lComp (i1Rng (eOp addD (eC (.int 1)) (eCallR 0 2 fn__law_taken (aCons (eC (.int 2)) aNil)))) (hName 4) bYes (eOp addD (eC (.int 2)) (eCallR 0 2 fn__law_taken (aCons (eC (.int 3)) aNil))) [4])))
  (sSeq (sSet 2 (eIx (lLst (aCons (eC (.int 2)) (aCons (eC (.int 4)) (aCons (eC (.int 10)) aNil)))) (eCallR 0 2 fn__law_taken (aCons (eC (.int 3)) aNil))))
  (sSeq (sFrzB 3 (sSetL 3 (lComp (i1Rng (eIx (lLst (aCons (eC (.int 40)) (aCons (eOp addD (eC (.int 17)) (eCallR 0 2 fn__law_taken (aCons (eC (.int 24)) aNil))) aNil))) (eCallR 0 2 fn__law_taken (aCons (eC (.int 2)) aNil)))) (hName 4) bYes (eCallR 0 3 fn__law_rule (aCons (eVar 1) (aCons (eVar 2) aNil))) [4])))
  (sRet (eTup (aCons (eVar 1) (aCons (eTupL (qVar 3)) aNil)))))))
def fn__law_many : List D → DL.Row → Option (D × DL.Row) := runR 5 b__law_many
def b__law_way : SS := (sRet (eIx (lLst (aCons (eC (.str "one")) (aCons (eC (.str "first")) (aCons (eC (.str "same")) aNil)))) (eCallR 0 2 fn__law_taken (aCons (eC (.int 3)) aNil))))
def fn__law_way : List D → DL.Row → Option (D × DL.Row) := runR 1 b__law_way
def b__law_cases : SS := (sSeq (sSet 1 (eC (.int 1)))
  (sSeq (sFor (rE (eVar 0)) (hName 2) (sSet 1 (eOp mulD (eVar 1) (eVar 2))))
  (sSeq (sSetL 3 (lLst aNil))
  (sSeq (sFor (i1Rng (eVar 1)) (hName 4) (sSeq (sPar 5 6 (eTup aNil) (eVar 4))
  (sSeq (sFor (rE (eUn revD (eVar 0))) (hName 2) (sPar 5 6 (eOp addD (eTup (aCons (eOp modD (eVar 6) (eVar 2)) aNil)) (eVar 5)) (eOp fdivD (eVar 6) (eVar 2))))
  (sApp 3 (eVar 5)))))
  (sRetOwn 3)))))
def fn__law_cases : List D → Option (List D) := runPL 7 b__law_cases
def b__law_held : SS := (sSeq (sSetL 2 (lLst aNil))
  (sSeq (sFor (i1Rng (eLen (rE (eIx (rVar 0) (eC (.int 1)))))) (hName 3) (sSeq (sSet 4 (eIx (rE (eIx (rE (eIx (rVar 0) (eC (.int 1)))) (eVar 3))) (eC (.int 0))))
  (sIf (bVal (eOp ninD (eC (.bool false)) (eL (lComp (i1Rng (eLen (rVar 1))) (hName 5) bYes (eOr (eOp isND (eIx (rVar 4) (eVar 5)) (eC .none)) (eOp inD (eIx (rVar 1) (eVar 5)) (eIx (rVar 4) (eVar 5)))) [5])))) (sApp 2 (eVar 3)) sNext)))
  (sRetOwn 2)))
def fn__law_held : List D → Option D := runP 6 b__law_held
def b__law_told : SS := (sSeq (sSet 3 (eCall 2 fn__law_held (aCons (eVar 0) (aCons (eVar 2) aNil))))
  (sSeq (sIf (bVal (eOp eqD (eVar 3) (eL (lLst aNil)))) (sRet (eTup (aCons (eC (.str "gap")) aNil))) sNext)
  (sSeq (sSet 4 (eL (lComp (rVar 3) (hName 5) bYes (eIx (rE (eIx (rE (eIx (rVar 0) (eC (.int 1)))) (eVar 5))) (eC (.int 1))) [5])))
  (sSeq (sIf (bAnd (bVal (eOp eqD (eVar 1) (eC (.str "one")))) (bVal (eOp gtD (eLen (rVar 3)) (eC (.int 1))))) (sRet (eTup (aCons (eC (.str "clash")) (aCons (eIx (rVar 3) (eC (.int 0))) (aCons (eIx (rVar 3) (eC (.int 1))) aNil))))) sNext)
  (sSeq (sIf (bAnd (bVal (eOp eqD (eVar 1) (eC (.str "same")))) (bVal (eOp ltD (eCnt (qVar 4) (eIx (rVar 4) (eC (.int 0)))) (eLen (rVar 4))))) (sRet (eTup (aCons (eC (.str "clash")) (aCons (eIx (rVar 3) (eC (.int 0))) (aCons (eIx (lComp (rVar 3) (hName 5) (bVal (eOp neD (eIx (rE (eIx (rE (eIx (rVar 0) (eC (.int 1)))) (eVar 5))) (eC (.int 1))) (eIx (rVar 4) (eC (.int 0))))) (eVar 5) [5]) (eC (.int 0))) aNil))))) sNext)
  (sRet (eTup (aCons (eC (.str "deed")) (aCons (eIx (rVar 4) (eC (.int 0))) aNil)))))))))
def fn__law_told : List D → Option D := runP 6 b__law_told
def b__law_kind : SS := (sSeq (sSet 3 (eCall 3 fn__law_told (aCons (eVar 0) (aCons (eVar 1) (aCons (eVar 2) aNil)))))
  (sRet (eIf (bVal (eOp eqD (eIx (rVar 3) (eC (.int 0))) (eC (.str "clash")))) (eTup (aCons (eC (.str "clash")) aNil)) (eVar 3))))
def fn__law_kind : List D → Option D := runP 4 b__law_kind
def b__law_kinds : SS := (sRet (eL (lComp (lCall 1 fn__law_cases (aCons (eIx (rVar 0) (eC (.int 0))) aNil)) (hName 2) bYes (eCall 3 fn__law_kind (aCons (eVar 0) (aCons (eVar 1) (aCons (eVar 2) aNil)))) [2])))
def fn__law_kinds : List D → Option D := runP 3 b__law_kinds
def b_law06 : SS := (sSeq (sSetL 1 (lLst (aCons (eVar 0) (aCons (eC (.int 0)) (aCons (eC (.int 0)) (aCons (eC (.int 0)) aNil))))))
  (sMkRow 1 (sSeq (sFor (i1Rng (eC (.int 4))) (hName 2) (sSeq (sSet 3 (eIf (bVal (eOp eqD (eCallR 1 2 fn__law_taken (aCons (eC (.int 4)) aNil)) (eC (.int 3)))) (eCallR 1 1 fn__law_many aNil) (eCallR 1 2 fn__law_table (aCons (eC (.int 16)) aNil))))
  (sSeq (sIf (bVal (eOp eqD (eCallR 1 2 fn__law_taken (aCons (eC (.int 9)) aNil)) (eC (.int 8)))) (sSet 3 (eTup (aCons (eOp mulD (eTup (aCons (eC (.int 4)) aNil)) (eC (.int 5))) (aCons (eTupL (lComp (i1Rng (eOp addD (eC (.int 1)) (eCallR 1 2 fn__law_taken (aCons (eC (.int 2)) aNil)))) (hName 18) bYes (eTup (aCons (eOp mulD (eTup (aCons (eC .none) aNil)) (eC (.int 5))) (aCons (eCallR 1 2 fn__law_taken (aCons (eC (.int 3)) aNil)) aNil))) [18])) aNil)))) sNext)
  (sSeq (sTgt (hTup (hCons (hName 7) (hCons (hName 8) hNil))) (eVar 3))
  (sSeq (sPar 9 10 (eCallR 1 1 fn__law_way aNil) (eLen (rVar 8)))
  (sSeq (sTgt (hTup (hCons (hName 11) (hCons (hName 12) hNil))) (eTup (aCons (eL (lCall 1 fn__law_cases (aCons (eVar 7) aNil))) (aCons (eCall 2 fn__law_kinds (aCons (eVar 3) (aCons (eVar 9) aNil))) aNil))))
  (sSeq (sIf (bVal (eOp gtD (eVar 10) (eC (.int 0)))) (sSeq (sSet 13 (eCallR 1 2 fn__law_taken (aCons (eVar 10) aNil)))
  (sSeq (sSet 14 (eIx (lLst (aCons (eCallR 1 3 fn__law_near (aCons (eVar 7) (aCons (eIx (rVar 8) (eVar 13)) aNil))) (aCons (eCallR 1 3 fn__law_rule (aCons (eVar 7) (aCons (eC (.int 3)) aNil))) (aCons (eC .none) aNil)))) (eCallR 1 2 fn__law_taken (aCons (eC (.int 3)) aNil))))
  (sSeq (sSet 6 (eTup (aCons (eVar 7) (aCons (eOp addD (eOp addD (eSl (eVar 8) oNo (oPart (eVar 13))) (eIf (bVal (eOp isND (eVar 14) (eC .none))) (eTup aNil) (eTup (aCons (eVar 14) aNil)))) (eSl (eVar 8) (oPart (eOp addD (eVar 13) (eC (.int 1)))) oNo)) aNil))))
  (sSeq (sSet 15 (eCall 2 fn__law_kinds (aCons (eVar 6) (aCons (eVar 9) aNil))))
  (sSeq (sFrzB 16 (sSetL 16 (lComp (i1Rng (eLen (rVar 11))) (hName 18) (bVal (eOp neD (eIx (rVar 12) (eVar 18)) (eIx (rVar 15) (eVar 18)))) (eVar 18) [18])))
  (sSeq (sSet 17 (eTup (aCons (eLen (rVar 16)) (aCons (eIf (bVal (eOp neD (eVar 16) (eL (lLst aNil)))) (eIx (rVar 11) (eIx (rVar 16) (eC (.int 0)))) (eC .none)) aNil))))
  (sSeq (sIf (bNot (bVal (eCall 2 (fn__law_alike 4) (aCons (eCall 4 fn_reach (aCons (eVar 3) (aCons (eVar 9) (aCons (eVar 13) (aCons (eVar 14) aNil))))) (aCons (eVar 17) aNil))))) (sRet (eC (.bool false))) sNext)
  (sSeq (sSet 17 (eIf (bVal (eOp neD (eVar 16) (eL (lLst aNil)))) (eTup (aCons (eIx (rVar 11) (eIx (rVar 16) (eC (.int 0)))) (aCons (eIx (rVar 12) (eIx (rVar 16) (eC (.int 0)))) (aCons (eIx (rVar 15) (eIx (rVar 16) (eC (.int 0)))) aNil)))) (eC .none)))
  (sIf (bNot (bVal (eCall 2 (fn__law_alike 4) (aCons (eCall 3 fn_parted (aCons (eVar 3) (aCons (eVar 6) (aCons (eVar 9) aNil)))) (aCons (eVar 17) aNil))))) (sRet (eC (.bool false))) sNext))))))))) sNext)
  (sSeq (sSet 4 (eTupL (lComp (i1Rng (eCallR 1 2 fn__law_taken (aCons (eC (.int 6)) aNil))) (hName 18) bYes (eCallR 1 3 fn__law_rule (aCons (eVar 7) (aCons (eC (.int 3)) aNil))) [18])))
  (sSeq (sSet 5 (eCallR 1 2 fn__law_taken (aCons (eOp addD (eVar 10) (eC (.int 1))) aNil)))
  (sFor (rE (eL (lLst (aCons (eTup (aCons (eVar 7) (aCons (eOp addD (eSl (eVar 8) (oPart (eVar 5)) oNo) (eSl (eVar 8) oNo (oPart (eVar 5)))) aNil))) (aCons (eTup (aCons (eVar 7) (aCons (eVar 4) aNil))) aNil))))) (hName 6) (sSeq (sSet 15 (eCall 2 fn__law_kinds (aCons (eVar 6) (aCons (eVar 9) aNil))))
  (sSeq (sFrzB 16 (sSetL 16 (lComp (i1Rng (eLen (rVar 11))) (hName 18) (bVal (eOp neD (eIx (rVar 12) (eVar 18)) (eIx (rVar 15) (eVar 18)))) (eVar 18) [18])))
  (sSeq (sSet 17 (eIf (bVal (eOp neD (eVar 16) (eL (lLst aNil)))) (eTup (aCons (eIx (rVar 11) (eIx (rVar 16) (eC (.int 0)))) (aCons (eIx (rVar 12) (eIx (rVar 16) (eC (.int 0)))) (aCons (eIx (rVar 15) (eIx (rVar 16) (eC (.int 0)))) aNil)))) (eC .none)))
  (sIf (bOr (bNot (bVal (eCall 2 (fn__law_alike 4) (aCons (eCall 3 fn_parted (aCons (eVar 3) (aCons (eVar 6) (aCons (eVar 9) aNil)))) (aCons (eVar 17) aNil))))) (bVal (eOp notND (eCall 3 fn_parted (aCons (eVar 3) (aCons (eVar 3) (aCons (eVar 9) aNil)))) (eC .none)))) (sRet (eC (.bool false))) sNext))))))))))))))
  (sRet (eC (.bool true))))))
def fn_law06 : List D → Option D := runP 19 b_law06
end PC

set_option maxHeartbeats 2000000
namespace PC
open PySem DL
theorem is_whole_i (n lo hi : Int) : fn_is_whole [.int n, .int lo, .int hi] = some (.bool (decide (lo ≤ n) && decide (n ≤ hi))) := by
  simp [fn_is_whole, runP_ap, b_is_whole]
  by_cases h : lo ≤ n <;> simp [h]
theorem is_want_ok {size : Int} {w : Want} (h : WW size w) (hs : size ≤ 4) : fn_is_want [eW w, .int size] = some (.bool true) := by
  cases w with
  | none => simp [fn_is_want, runP_ap, b_is_want, eW]
  | some l =>
    have h4 := h.len hs
    obtain ⟨h1, h2, h3⟩ := h l rfl
    simp [fn_is_want, runP_ap, b_is_want, eW, h1]
    rw [comp_map (p := fun _ => false) (q := eI)]
    · simp
      rw [rng2_n (by omega) (by omega) (by omega)]
      simp
      rw [comp_map (p := fun _ => false) (q := fun _ => .none)]
      · simp
      · intro k hk
        have hk : k < l.length - 1 := by simpa using hk
        have e1 : (1 + (k : Int)) - 1 = (k : Int) := by omega
        have e2 : (1 + (k : Int)) = (k : Int) + 1 := by omega
        have g1 : l[k]? = some l[k] := List.getElem?_eq_getElem (by omega)
        have g2 : l[k + 1]? = some l[k + 1] := List.getElem?_eq_getElem (by omega)
        have g3 : l[k] < l[k + 1] := List.pairwise_iff_getElem.mp h3 k (k + 1) (by omega) (by omega) (by omega)
        simp [e1]
        simp [e2, g1, g2, eI]
        omega
    · intro x hx
      have := h2 x hx
      simp [eI, is_whole_i]
      omega
theorem is_deed_ok {d : Option Int} (h : WD d) : fn_is_deed [eO d] = some (.bool true) := by
  cases d with
  | none => simp [fn_is_deed, runP_ap, b_is_deed, eO]
  | some n =>
    have := h n rfl
    simp [fn_is_deed, runP_ap, b_is_deed, eO, is_whole_i]
    omega
theorem is_rule_ok {sizes : List Int} {r : Rule} (hs : WS sizes) (h : WR sizes r) : fn_is_rule [eIs sizes, eR r] = some (.bool true) := by
  obtain ⟨h1, h2⟩ := h
  have hl := h1.length
  have h5 := hs.2.1
  simp [fn_is_rule, runP_ap, b_is_rule, eR, eIs, eWs, hl]
  rw [rng1_n (by omega)]
  simp
  rw [comp_map (p := fun _ => false) (q := fun _ => .none)]
  · simp [is_deed_ok h2]
  · intro k hk
    have hk : k < r.1.length := by simpa using hk
    have g1 : sizes[k]? = some sizes[k] := List.getElem?_eq_getElem (by omega)
    have g2 : r.1[k]? = some r.1[k] := List.getElem?_eq_getElem (by omega)
    have hw := h1.get g1 g2
    have hz := (hs.2.2 sizes[k] (List.getElem_mem _)).2
    simp [g1, g2, eI, is_want_ok hw hz]
theorem need_table_ok {t : Table} (h : WT t) : fn_need_table [eT t] = some .none := by
  obtain ⟨sizes, rules⟩ := t
  obtain ⟨hs, h40, hr⟩ := h
  have h40 : rules.length ≤ 40 := h40
  have hne : sizes ≠ [] := hs.1
  have h5 : sizes.length ≤ 5 := hs.2.1
  rw [← Rs_eq]
  simp [fn_need_table, runP_ap, b_need_table, eT, eIs, eRs, hne]
  rw [rng1_n (by omega)]
  simp
  refine for_rs (fun i ρ s => s = [] ∧ ∃ x, ρ = [Sl.imm (eT (sizes, rules)), x, Sl.imm (eIs sizes), Sl.imm (eRs rules)]) ⟨rfl, _, rfl⟩ (fun i k ρ s hk ⟨hs', x, hρ⟩ => ?_) (fun ρ s ⟨hs', x, hρ⟩ => ?_)
  · subst hs' hρ
    have hi : i < sizes.length := by
      have := (List.getElem?_eq_some_iff.mp hk).1
      simpa using this
    have hk : k = i := by
      have := (List.getElem?_eq_some_iff.mp hk).2
      simpa using this.symm
    subst hk
    have g : sizes[k]? = some sizes[k] := List.getElem?_eq_getElem hi
    have hz := hs.2.2 sizes[k] (List.getElem_mem _)
    have h5' : ¬ (5 : Int) ≤ (k : Int) := by omega
    simp [eIs, g, eI, is_whole_i, hz, h5']
    exact ⟨_, _, ⟨rfl, rfl⟩, rfl, _, rfl⟩
  · subst hs' hρ
    simp [eRs]
    rw [rng1_n (by omega)]
    simp
    refine for_rs (fun i ρ s => s = [] ∧ ∃ x, ρ = [Sl.imm (eT (sizes, rules)), x, Sl.imm (eIs sizes), Sl.imm (eRs rules)]) ⟨rfl, _, rfl⟩ (fun i k ρ s hk ⟨hs', x, hρ⟩ => ?_) (fun ρ s ⟨hs', x, hρ⟩ => ?_)
    · subst hs' hρ
      have hi : i < rules.length := by
        have := (List.getElem?_eq_some_iff.mp hk).1
        simpa using this
      have hk : k = i := by
        have := (List.getElem?_eq_some_iff.mp hk).2
        simpa using this.symm
      subst hk
      have g : rules[k]? = some rules[k] := List.getElem?_eq_getElem hi
      have hz := hr rules[k] (List.getElem_mem _)
      have h5' : ¬ (40 : Int) ≤ (k : Int) := by omega
      simp [eRs, g, is_rule_ok hs hz, h5']
      exact ⟨_, _, ⟨rfl, rfl⟩, rfl, _, rfl⟩
    · subst hs' hρ
      simp
theorem taken_ok {sc : List Int} {s : Row} {many : Int} (hs : RowI sc s) (h : 0 < many) (h2 : many < 1073741824) : Rs (fn__law_taken [.int many] s) fun a => ∃ v s', a = (.int v, s') ∧ RowI sc s' ∧ 0 ≤ v ∧ v < many := by
  suffices hh : ∃ v s', fn__law_taken [.int many] s = some (.int v, s') ∧ RowI sc s' ∧ 0 ≤ v ∧ v < many from let ⟨v, s', e, q⟩ := hh; ⟨_, e, v, s', rfl, q⟩
  obtain ⟨i, m, r, rfl, hi⟩ := hs
  have m0 : ∀ a : Int, 0 ≤ a % many ∧ a % many < many := fun a => ⟨Int.emod_nonneg _ (by omega), Int.emod_lt_of_pos _ h⟩
  have q1 : ∀ a : Int, mulD (.int a) (.int 48271) = some (.int (a * 48271)) := fun a => mulD_i (.inr (by decide))
  have q2 : ∀ a : Int, modD (.int a) (.int 2147483647) = some (.int (a % 2147483647)) := fun a => modD_i (by decide)
  have q3 : ∀ a : Int, fdivD (.int a) (.int 7) = some (.int (a / 7)) := fun a => fdivD_i (by decide) (by decide)
  have q4 : ∀ a : Int, modD (.int a) (.int many) = some (.int (a % many)) := fun a => modD_i h
  have q5 : ∀ a : Int, fdivD (.int a) (.int many) = some (.int (a / many)) := fun a => fdivD_i h h2
  by_cases hr : 0 < r
  · refine ⟨r % many, rowD sc i m (r / many), ?_, ⟨i, m, _, rfl, hi⟩, m0 r⟩
    simp [fn__law_taken, runR_ap, b__law_taken, rowD, hr, q4, q5]
  · by_cases hi2 : (sc.length : Int) < i + 1
    · refine ⟨_, _, ?_, ⟨i + 1, (m * 48271 + 11) % 2147483647, r, rfl, by omega⟩, m0 ((m * 48271 + 11) % 2147483647 / 7)⟩
      simp [fn__law_taken, runR_ap, b__law_taken, rowD, hr, hi2, q1, q2, q3, q4]
    · have hlt : i.toNat < sc.length := by omega
      have g : sc[i.toNat]? = some sc[i.toNat] := List.getElem?_eq_getElem hlt
      have g2 : L2.atI (sc.map PyData.int) i = some (.int sc[i.toNat]) := by rw [atI_pos _ _ hi, g]; rfl
      generalize sc[i.toNat] = cell at g g2
      by_cases hc : 1000000000000000000 ≤ cell
      · refine ⟨_, _, ?_, ⟨i + 1, (m * 48271 + cell + 11) % 2147483647, cell / many, rfl, by omega⟩, m0 cell⟩
        simp [fn__law_taken, runR_ap, b__law_taken, rowD, hr, hi2, q1, q2, q3, q4, q5, g2, hc]
      · refine ⟨_, _, ?_, ⟨i + 1, (m * 48271 + cell + 11) % 2147483647, r, rfl, by omega⟩, m0 cell⟩
        simp [fn__law_taken, runR_ap, b__law_taken, rowD, hr, hi2, q1, q2, q3, q4, q5, g2, hc]
theorem need_way_ok {w : Str} (h : WWay w) : fn_need_way [.str w] = some .none := by
  have hf : ∀ w : Str, ninD (.str w) g_WAYS = some (.bool (!inFl (.str w) [.str "one", .str "first", .str "same"])) := fun w => ninD_ap rfl rfl rfl
  have e : inFl (.str w) [.str "one", .str "first", .str "same"] = true := by
    rcases h with rfl | rfl | rfl <;> simp [inFl, PyData.eqv]
  simp [fn_need_way, runP_ap, b_need_way, hf, e]
theorem holds_ok {r : Rule} {c : List Int} (hl : r.1.length = c.length) (h5 : c.length ≤ 5) : fn_holds [eR r, eIs c] = some (.bool (holdsB r.1 c)) := by
  simp [fn_holds, runP_ap, b_holds, eIs, eR, eWs]
  rw [rng1_n (by omega)]
  simp
  rw [comp_map (p := fun k => !okAt r.1 c k) (q := eN)]
  · simp
    have hh : ((List.range c.length).filter fun k => !okAt r.1 c k).isEmpty = holdsB r.1 c := by
      rw [Bool.eq_iff_iff, filter_empty, holdsB_all hl]
      constructor
      · intro h k hk
        have := h k hk
        simpa using this
      · intro h k hk
        have := h k hk
        simpa using this
    simpa using hh
  · intro k hk
    have hk : k < c.length := by simpa using hk
    have g1 : r.1[k]? = some r.1[k] := List.getElem?_eq_getElem (by omega)
    have g2 : c[k]? = some c[k] := List.getElem?_eq_getElem (by omega)
    cases e : r.1[k] with
    | none => simp [okAt, g1, g2, e, eW, okW, eI]
    | some l =>
      have e2 : ninD (.int c[k]) (.tuple (l.map eI)) = some (.bool (!l.contains c[k])) := by
        rw [ninD_ap rfl (flat_map l) rfl, inFl_map]
      simp [okAt, g1, g2, e, eW, okW, eI]
      simp [e2, eN]
theorem holding_ok {t : Table} {c : List Int} (h : WT t) (hc : WC t.1 c) : fn_holding [eT t, eIs c] = some (eNs (holdL t c)) := by
  obtain ⟨sizes, rules⟩ := t
  obtain ⟨hs, h40, hr⟩ := h
  have h40 : rules.length ≤ 40 := h40
  have hcl := hc.length
  have h5 : sizes.length ≤ 5 := hs.2.1
  have hcl : sizes.length = c.length := hcl
  simp [fn_holding, runPL_ap, b_holding, eT, eIs, eRs]
  rw [rng1_n (by omega)]
  simp
  rw [comp_map (p := hAt rules c) (q := eN)]
  · simp [eNs, holdL]
  · intro k hk
    have hk : k < rules.length := by simpa using hk
    have g1 : rules[k]? = some rules[k] := List.getElem?_eq_getElem (by omega)
    have hw := hr rules[k] (List.getElem_mem _)
    have hl : rules[k].1.length = c.length := by rw [← hw.1.length]; exact hcl
    have := holds_ok hl (by omega)
    simp [eIs] at this
    simp [g1, this, eN, hAt]
theorem clashing_ok {t : Table} {w : Str} (hw : WWay w) {a : Nat} {l : List Nat} (hl : ∀ k ∈ a :: l, k < t.2.length) : fn_clashing [eT t, .str w, .list (eNs (a :: l))] = some (match clashM t.2 w (a :: l) with | none => .none | some (x, y) => .tuple [eN x, eN y]) := by
  obtain ⟨sizes, rules⟩ := t
  have hl : ∀ k ∈ a :: l, k < rules.length := hl
  have dd : ∀ k, k < rules.length → ∃ r, rules[k]? = some r := fun k hk => ⟨_, List.getElem?_eq_getElem hk⟩
  obtain ⟨ra, ha⟩ := dd a (hl a (by simp))
  cases l with
  | nil => simp [fn_clashing, runP_ap, b_clashing, eT, eIs, eRs, clashM, eNs]
  | cons b r =>
    have hnot : ¬ ((r.length : Int) + 1 + 1 < 2) := by omega
    rcases hw with rfl | rfl | rfl
    · simp [fn_clashing, runP_ap, b_clashing, eT, eIs, eRs, clashM, eNs, str_ne1, hnot]
    · simp [fn_clashing, runP_ap, b_clashing, eT, eIs, eRs, clashM, eNs]
    · simp [fn_clashing, runP_ap, b_clashing, eT, eIs, eRs, eNs, str_ne5, str_ne6, hnot]
      simp [eN, ha, eR]
      rw [show (PyData.int (a : Int) :: PyData.int (b : Int) :: List.map eN r) = (a :: b :: r).map eN from rfl]
      rw [comp_map (p := fun k => decide (¬ deedAt rules k = deedAt rules a)) (q := eN)]
      · simp only [clashM, if_neg str_ne5, if_neg str_ne6]
        cases (a :: b :: r).filter (fun k => decide (¬ deedAt rules k = deedAt rules a)) with
        | nil => simp
        | cons x xs => simp [eN]
      · intro k hk
        obtain ⟨rk, hk⟩ := dd k (hl k hk)
        simp [eN, hk, eR, deedAt, ha]
theorem lawheld_ok {t : Table} {c : List Int} (h : WT t) (hc : WC t.1 c) : fn__law_held [eT t, eIs c] = some (.list (eNs (holdL t c))) := by
  obtain ⟨sizes, rules⟩ := t
  obtain ⟨hs, h40, hr⟩ := h
  have h40 : rules.length ≤ 40 := h40
  have hcl : sizes.length = c.length := hc.length
  have h5 : sizes.length ≤ 5 := hs.2.1
  rw [← Rs_eq]
  simp [fn__law_held, runP_ap, b__law_held, eT, eIs, eRs]
  rw [rng1_n (by omega)]
  simp
  refine for_rs (fun i ρ s => s = [] ∧ ∃ x y z, ρ = [Sl.imm (eT (sizes, rules)), Sl.imm (eIs c), Sl.own (((List.range i).filter (hAt rules c)).map eN), x, y, z]) ⟨rfl, _, _, _, rfl⟩ (fun i k ρ s hk ⟨hs', x, y, z, hρ⟩ => ?_) (fun ρ s ⟨hs', x, y, z, hρ⟩ => ?_)
  · subst hs' hρ
    have hi : i < rules.length := by
      have := (List.getElem?_eq_some_iff.mp hk).1
      simpa using this
    have hk : k = i := by
      have := (List.getElem?_eq_some_iff.mp hk).2
      simpa using this.symm
    subst hk
    have g : rules[k]? = some rules[k] := List.getElem?_eq_getElem hi
    have hw := hr rules[k] (List.getElem_mem _)
    have hl : rules[k].1.length = c.length := by rw [← hw.1.length]; exact hcl
    simp [eT, eRs, eIs, g, eR, eWs]
    rw [rng1_n (by omega)]
    simp
    rw [comp_map' (q := fun j => .bool (okAt rules[k].1 c j))]
    · simp [ninD_bools, range_holdsB hl]
      have hA : hAt rules c k = holdsB rules[k].1 c := by simp [hAt, g]
      have hlen := range_filter_len (hAt rules c) k
      rw [chkA_lt (by omega)]
      simp only [range_filter_succ, hA]
      cases hb : holdsB rules[k].1 c with
      | true =>
        simp
        exact ⟨_, _, ⟨rfl, rfl⟩, rfl, _, _, _, rfl⟩
      | false =>
        simp
        exact ⟨_, _, ⟨rfl, rfl⟩, rfl, _, _, _, rfl⟩
    · intro j hj
      have hj : j < c.length := by simpa using hj
      have g1 : rules[k].1[j]? = some rules[k].1[j] := List.getElem?_eq_getElem (by omega)
      have g2 : c[j]? = some c[j] := List.getElem?_eq_getElem (by omega)
      cases e : rules[k].1[j] with
      | none => simp [okAt, g1, g2, e, eW, okW]
      | some l =>
        simp [okAt, g1, g2, e, eW, okW, eI]
        have := inD_ints l c[j]
        simp [this]
  · subst hs' hρ
    simp [eNs, holdL]
theorem alike_ok : ∀ (n : Nat) (d : D), Lv n d → fn__law_alike (n + 1) [d, d] = some (.bool true)
  | 0, d, h => by
    have h : flatD d = true := h
    cases d <;> first | (cases h; done) | simp [fn__law_alike, runP_ap, b__law_alike]
  | n + 1, d, h => by
    rcases h with h | ⟨ds, h, hl, hx⟩
    · cases d <;> first | (cases h; done) | simp [fn__law_alike, runP_ap, b__law_alike]
    · have ih : ∀ x ∈ ds, fn__law_alike (n + 1) [x, x] = some (.bool true) := fun x hx' => alike_ok n x (hx x hx')
      rw [fn__law_alike]
      rcases h with rfl | rfl
      · simp [runP_ap, b__law_alike]
        rw [rng1_n hl]
        simp
        rw [comp_map (p := fun _ => false) (q := fun _ => .none)]
        · simp
        · intro k hk
          have hk : k < ds.length := by simpa using hk
          have g : ds[k]? = some ds[k] := List.getElem?_eq_getElem hk
          simp [atI_n g, ih ds[k] (List.getElem_mem _)]
      · simp [runP_ap, b__law_alike]
        rw [rng1_n hl]
        simp
        rw [comp_map (p := fun _ => false) (q := fun _ => .none)]
        · simp
        · intro k hk
          have hk : k < ds.length := by simpa using hk
          have g : ds[k]? = some ds[k] := List.getElem?_eq_getElem hk
          simp [atI_n g, ih ds[k] (List.getElem_mem _)]
theorem lv_ns {l : List Nat} (h : l.length ≤ 1000000) : Lv 1 (.list (eNs l)) := .inr ⟨_, .inl rfl, by simpa [eNs] using h, fun x hx => by
  obtain ⟨n, _, rfl⟩ := List.mem_map.mp hx
  rfl⟩
theorem lawtold_ok {t : Table} {w : Str} {c : List Int} (h : WT t) (hw : WWay w) (hc : WC t.1 c) : fn__law_told [eT t, .str w, eIs c] = some (toldM t w c) := by
  have h1 := lawheld_ok h hc
  have hl : ∀ k ∈ holdL t c, k < t.2.length := holdL_lt
  obtain ⟨sizes, rules⟩ := t
  have hl : ∀ k ∈ holdL (sizes, rules) c, k < rules.length := hl
  have dd : ∀ k, k < rules.length → ∃ r, rules[k]? = some r := fun k hk => ⟨_, List.getElem?_eq_getElem hk⟩
  simp [fn__law_told, runP_ap, b__law_told, h1, toldM]
  cases e : holdL (sizes, rules) c with
  | nil => simp [eNs, ansM]
  | cons a l =>
    rw [e] at hl
    obtain ⟨ra, ha⟩ := dd a (hl a (by simp))
    have hne : eNs (a :: l) ≠ [] := by simp [eNs]
    simp [hne]
    simp only [eNs]
    rw [comp_map' (q := fun k => eO (deedAt rules k))]
    · rcases hw with rfl | rfl | rfl
      · cases l with
        | nil => simp [str_ne2, ansM, clashM]
        | cons b r =>
          have h1 : (1 : Int) < (r.length : Int) + 1 + 1 := by omega
          simp [h1, ansM, clashM, str_ne1]
      · cases l with
        | nil => simp [str_ne3, str_ne4, ansM, clashM]
        | cons b r => simp [str_ne3, str_ne4, ansM, clashM]
      · simp only [ansM, clash_same]
        simp [str_ne5, cnt_deeds]
        cases ef : neqs rules a l with
        | nil => simp
        | cons x xs =>
          have hlt : (l.length : Int) + 1 - ((xs.length : Int) + 1) < (l.length : Int) + 1 := by omega
          simp [hlt]
          rw [show eN a :: List.map eN l = (a :: l).map eN from rfl]
          rw [comp_map (p := fun k => decide (¬ deedAt rules k = deedAt rules a)) (q := eN)]
          · rw [show (a :: l).filter (fun k => decide (¬ deedAt rules k = deedAt rules a)) = neqs rules a l from rfl, ef]
            simp
          · intro k hk
            obtain ⟨rk, hk⟩ := dd k (hl k hk)
            simp [eN, eT, eRs, hk, eR, deedAt, ha]
    · intro k hk
      obtain ⟨rk, hk⟩ := dd k (hl k hk)
      simp [eN, eT, eRs, hk, eR, deedAt]
theorem pw_set {α β : Type} {R : α → β → Prop} {xs : List α} {ys : List β} (h : Pw R xs ys) {k : Nat} {x : α} {w : β} (e : xs[k]? = some x) (hw : R x w) : Pw R xs (ys.take k ++ w :: ys.drop (k + 1)) := by
  induction h generalizing k with
  | nil => simp at e
  | cons a t ih =>
    match k with
    | 0 => simp at e; subst e; simpa using Pw.cons hw t
    | k + 1 => simp at e; simpa using Pw.cons a (ih e)
theorem sizes_ok {sc : List Int} {s : Row} (hs : RowI sc s) : Rs (fn__law_sizes [] s) fun a => ∃ z s', a = (eIs z, s') ∧ RowI sc s' ∧ WS z := by
  simp [fn__law_sizes, runR_ap, b__law_sizes]
  refine (taken_ok hs (by omega) (by omega)).mono ?_
  rintro _ ⟨v, s1, rfl, hs1, h0, h6⟩
  have hx : ∃ m : Nat, L2.atI [PyData.int 1, .int 2, .int 3, .int 3, .int 4, .int 5] v = some (.int (m : Int)) ∧ 1 ≤ m ∧ m ≤ 5 := by
    have : v = 0 ∨ v = 1 ∨ v = 2 ∨ v = 3 ∨ v = 4 ∨ v = 5 := by omega
    rcases this with rfl | rfl | rfl | rfl | rfl | rfl
    · exact ⟨1, rfl, by omega, by omega⟩
    · exact ⟨2, rfl, by omega, by omega⟩
    · exact ⟨3, rfl, by omega, by omega⟩
    · exact ⟨3, rfl, by omega, by omega⟩
    · exact ⟨4, rfl, by omega, by omega⟩
    · exact ⟨5, rfl, by omega, by omega⟩
  obtain ⟨m, hm, hm1, hm5⟩ := hx
  simp [hm]
  refine (taken_ok hs1 (by omega) (by omega)).mono ?_
  rintro _ ⟨u, s2, rfl, hs2, u0, u3⟩
  have hy : ∃ n : Int, L2.atI [PyData.int 1, .int 3, .int 3] u = some (.int n) ∧ 1 ≤ n ∧ n ≤ 3 := by
    have : u = 0 ∨ u = 1 ∨ u = 2 := by omega
    rcases this with rfl | rfl | rfl
    · exact ⟨1, rfl, by omega, by omega⟩
    · exact ⟨3, rfl, by omega, by omega⟩
    · exact ⟨3, rfl, by omega, by omega⟩
  obtain ⟨n, hn, hn1, hn3⟩ := hy
  simp
  rw [rng1_n (by omega)]
  simp
  refine comp_rs (RowI sc) (fun _ y => 2 ≤ y ∧ y ≤ 4) eI hs2 (fun k hk s hs => ?_) (fun ys s' hs' hp => ?_)
  · simp [hn]
    refine (taken_ok hs (by omega) (by omega)).mono ?_
    rintro _ ⟨x, s3, rfl, hs3, x0, x1⟩
    simp
    have q : ∀ z : Int, mulD (.int x) (.int z) = some (.int (x * z)) := fun z => mulD_i (.inl (by omega))
    by_cases hm : (m : Int) < 5
    · simp [hm, q]
      exact ⟨_, _, ⟨rfl, rfl⟩, hs3, by omega, by omega⟩
    · simp [hm, q]
      by_cases hk3 : (k : Int) < 3
      · simp [hk3]
        exact ⟨_, _, ⟨rfl, rfl⟩, hs3, by omega, by omega⟩
      · simp [hk3]
        exact ⟨_, _, ⟨rfl, rfl⟩, hs3, by omega, by omega⟩
  · simp
    refine ⟨ys, s', ⟨rfl, rfl⟩, hs', ?_, ?_, Pw.right (p := fun y => 2 ≤ y ∧ y ≤ 4) (fun _ _ h => h) hp⟩
    · have := hp.range_len
      intro e
      subst e
      simp at this
      omega
    · rw [hp.range_len]
      exact hm5
theorem want_ok {sc : List Int} {s : Row} {size : Int} (hs : RowI sc s) (h2 : 2 ≤ size) (h4 : size ≤ 4) : Rs (fn__law_want [.int size] s) fun a => ∃ w s', a = (eW w, s') ∧ RowI sc s' ∧ WW size w := by
  simp [fn__law_want, runR_ap, b__law_want]
  refine (taken_ok hs (by omega) (by omega)).mono ?_
  rintro _ ⟨v, s1, rfl, hs1, v0, v5⟩
  by_cases h1 : v < 2
  · simp [h1]
    exact ⟨none, _, ⟨rfl, rfl⟩, hs1, ww_none⟩
  · by_cases h3 : v < 4
    · simp [h1, h3]
      refine (taken_ok hs1 (by omega) (by omega)).mono ?_
      rintro _ ⟨u, s2, rfl, hs2, u0, u1⟩
      simp
      exact ⟨some [u], _, ⟨rfl, rfl⟩, hs2, ww_one u0 u1⟩
    · simp [h1, h3]
      obtain ⟨n, rfl⟩ : ∃ n : Nat, size = (n : Int) := ⟨size.toNat, by omega⟩
      rw [rng1_n (by omega)]
      simp
      refine comp_rsF (RowI sc) eN hs1 (fun k hk s hs => ?_) (fun ys s' hs' hsub => ?_)
      · simp
        refine (taken_ok hs (by omega) (by omega)).mono ?_
        rintro _ ⟨u, s2, rfl, hs2, u0, u1⟩
        simp [hs2, eN]
      · simp
        by_cases hne : ys = []
        · subst hne
          simp
          refine ⟨some ((List.range n).map fun (k : Nat) => (k : Int)), s', ⟨?_, rfl⟩, hs', ww_sub (by omega) (List.Sublist.refl _) ?_⟩
          · simp only [eW, map_eI_nat]
            rfl
          · intro e
            have := congrArg List.length e
            simp at this
            omega
        · simp [hne]
          refine ⟨some (ys.map fun (k : Nat) => (k : Int)), s', ⟨?_, rfl⟩, hs', ww_sub (Int.le_refl _) hsub hne⟩
          simp only [eW, map_eI_nat]
theorem rule_ok {sc : List Int} {s : Row} {sizes : List Int} {deeds : Int} (hs : RowI sc s) (hz : WS sizes) (h0 : 0 < deeds) (h1 : deeds ≤ 10) : Rs (fn__law_rule [eIs sizes, .int deeds] s) fun a => ∃ r s', a = (eR r, s') ∧ RowI sc s' ∧ WR sizes r := by
  have h5 := hz.2.1
  simp [fn__law_rule, runR_ap, b__law_rule, eIs]
  refine comp_rs (RowI sc) WW eW hs (fun k hk s hs => ?_) (fun ys s' hs' hp => ?_)
  · have := hz.2.2 k hk
    simp [eI]
    exact want_ok hs this.1 this.2
  · simp
    refine (taken_ok hs' h0 (by omega)).mono ?_
    rintro _ ⟨v, s1, rfl, hs1, v0, v1⟩
    simp
    by_cases hv : v = deeds - 1
    · simp [hv]
      refine (taken_ok hs1 (by omega) (by omega)).mono ?_
      rintro _ ⟨u, s2, rfl, hs2, u0, u1⟩
      by_cases hu : u = 0
      · simp [hu]
        exact ⟨ys, none, s2, ⟨rfl, rfl⟩, hs2, hp, wd_none⟩
      · simp [hu]
        refine ⟨ys, some (deeds - 1), s2, ⟨rfl, rfl⟩, hs2, hp, fun n e => ?_⟩
        cases e
        omega
    · simp [hv]
      refine ⟨ys, some v, s1, ⟨rfl, rfl⟩, hs1, hp, fun n e => ?_⟩
      cases e
      omega
theorem near_ok {sc : List Int} {s : Row} {sizes : List Int} {r : Rule} (hs : RowI sc s) (hz : WS sizes) (hr : WR sizes r) : Rs (fn__law_near [eIs sizes, eR r] s) fun a => ∃ r s', a = (eR r, s') ∧ RowI sc s' ∧ WR sizes r := by
  have h5 := hz.2.1
  have hl := hr.1.length
  simp [fn__law_near, runR_ap, b__law_near, eIs, eR, eWs]
  refine (taken_ok hs (by omega) (by omega)).mono ?_
  rintro _ ⟨v, s1, rfl, hs1, v0, v1⟩
  obtain ⟨k, rfl⟩ : ∃ k : Nat, v = (k : Int) := ⟨v.toNat, by omega⟩
  by_cases hv : (k : Int) = (sizes.length : Int)
  · simp [hv]
    refine (taken_ok hs1 (by omega) (by omega)).mono ?_
    rintro _ ⟨u, s2, rfl, hs2, u0, u1⟩
    have hx : ∃ d : Option Int, L2.atI [PyData.none, .int 0, .int 9, .int 1] u = some (eO d) ∧ WD d := by
      have : u = 0 ∨ u = 1 ∨ u = 2 ∨ u = 3 := by omega
      rcases this with rfl | rfl | rfl | rfl
      · exact ⟨none, rfl, wd_none⟩
      · exact ⟨some 0, rfl, fun n e => by cases e; omega⟩
      · exact ⟨some 9, rfl, fun n e => by cases e; omega⟩
      · exact ⟨some 1, rfl, fun n e => by cases e; omega⟩
    obtain ⟨d, hd, wd⟩ := hx
    simp [hd]
    exact ⟨r.1, d, s2, ⟨⟨rfl, rfl⟩, rfl⟩, hs2, hr.1, wd⟩
  · have hk : k < sizes.length := by omega
    have g : sizes[k]? = some sizes[k] := List.getElem?_eq_getElem hk
    have hz2 := hz.2.2 sizes[k] (List.getElem_mem _)
    simp [hv, g, eI]
    rw [cut_take (by rw [List.length_map]; omega)]
    simp
    refine (want_ok hs1 hz2.1 hz2.2).mono ?_
    rintro _ ⟨w, s2, rfl, hs2, hw⟩
    simp
    rw [chk_le (by omega)]
    simp
    rw [cut_drop1 (by rw [List.length_map]; omega)]
    simp
    rw [chk_le (by omega)]
    simp
    refine ⟨r.1.take k ++ w :: r.1.drop (k + 1), r.2, s2, ⟨?_, rfl⟩, hs2, ?_, hr.2⟩
    · simp [eR, eWs]
    · exact pw_set hr.1 g hw
theorem moreC_len (xs : List (List Int)) (s : Int) : (moreC xs s).length = xs.length * s.toNat := by
  unfold moreC
  induction xs with
  | nil => simp
  | cons x xs ih => rw [List.flatMap_cons, List.length_append, ih, List.length_map, List.length_range, List.length_cons, Nat.succ_mul, Nat.add_comm]
theorem casesL_len {sizes : List Int} (h5 : sizes.length ≤ 5) (h : ∀ x ∈ sizes, 2 ≤ x ∧ x ≤ 4) : (casesL sizes).length ≤ 1024 := by
  cases sizes with
  | nil => simp [casesL]
  | cons x xs => exact ws_len ⟨by simp, h5, h⟩
theorem all_cases_ok {sizes : List Int} (h : WS sizes) : fn_all_cases [eIs sizes] = some ((casesL sizes).map eIs) := by
  obtain ⟨hne, h5, hb⟩ := h
  rw [← Rs_eq]
  simp [fn_all_cases, runPL_ap, b_all_cases, eIs]
  refine for_rs (fun i ρ s => s = [] ∧ ∃ x2 x3 x4 x5, ρ = [Sl.imm (.tuple (sizes.map eI)), Sl.own ((casesL (sizes.take i)).map eIs), x2, x3, x4, x5]) ⟨rfl, _, _, _, _, rfl⟩ (fun i size ρ s hk hI => ?_) (fun ρ s hI => ?_)
  · obtain ⟨rfl, x2, x3, x4, x5, rfl⟩ := hI
    have hi := (List.getElem?_eq_some_iff.mp hk).1
    have hsz : 2 ≤ size ∧ size ≤ 4 := hb size (List.mem_of_getElem? hk)
    have hlen : (casesL (sizes.take i)).length ≤ 1024 := casesL_len (by rw [List.length_take]; omega) fun x hx => hb x (List.mem_of_mem_take hx)
    have htk : sizes.take (i + 1) = sizes.take i ++ [size] := by rw [List.take_add_one, hk]; rfl
    have hmore : casesL (sizes.take (i + 1)) = moreC (casesL (sizes.take i)) size := by rw [htk, casesL_snoc]
    rw [hmore]
    have hwc : ∀ c ∈ casesL (sizes.take i), c.length ≤ 5 := fun c hc => by
      have := casesL_wc (fun x hx => (hb x (List.mem_of_mem_take hx)).1) c hc
      rw [← this.length, List.length_take]
      omega
    generalize casesL (sizes.take i) = found at hlen hwc ⊢
    simp
    refine for_rs (fun j ρ s => s = [] ∧ ∃ x4 x5, ρ = [Sl.imm (.tuple (sizes.map eI)), Sl.imm (.list (found.map eIs)), Sl.imm (eI size), Sl.own ((moreC (found.take j) size).map eIs), x4, x5]) ⟨rfl, _, _, rfl⟩ (fun j c ρ s hk hI => ?_) (fun ρ s hI => ?_)
    · obtain ⟨rfl, x4, x5, rfl⟩ := hI
      have e : moreC (found.take (j + 1)) size = moreC (found.take j) size ++ (List.range size.toNat).map fun v => c ++ [((v : Nat) : Int)] := by
        rw [List.take_add_one, hk]
        unfold moreC
        rw [List.flatMap_append]
        simp
      have hl1 := moreC_len (found.take j) size
      simp [eI]
      rw [rng1_i (by omega) (by omega)]
      simp
      rw [comp_map' (q := fun (v : Nat) => eIs (c ++ [((v : Nat) : Int)]))]
      · simp
        have b1 : size.toNat ≤ 4 := by omega
        have b2 : (moreC (found.take j) size).length ≤ 1024 * 4 := by
          rw [hl1, List.length_take]
          exact Nat.mul_le_mul (by omega) b1
        rw [chk_le (by omega)]
        simp
        refine ⟨_, _, ⟨rfl, rfl⟩, rfl, Sl.imm (eIs c), x5, ?_⟩
        rw [e]
        simp [Function.comp_def]
      · intro v hv
        have := hwc c (List.mem_of_getElem? hk)
        simp [eIs, eI]
        rw [chk_le (by omega)]
        simp
    · obtain ⟨rfl, x4, x5, rfl⟩ := hI
      simp
      exact ⟨_, _, ⟨rfl, rfl⟩, rfl, _, _, _, _, rfl⟩
  · obtain ⟨rfl, x2, x3, x4, x5, rfl⟩ := hI
    simp
theorem clashing_nil {t : Table} {w : Str} (hw : WWay w) : fn_clashing [eT t, .str w, .list []] = some .none := by
  rcases hw with rfl | rfl | rfl
  · simp [fn_clashing, runP_ap, b_clashing, eT]
  · simp [fn_clashing, runP_ap, b_clashing, eT]
  · simp [fn_clashing, runP_ap, b_clashing, eT]
theorem lawcases_ok {sizes : List Int} (h : WS sizes) : fn__law_cases [eIs sizes] = some ((casesL sizes).map eIs) := by
  obtain ⟨hc, hp, hp2⟩ := ws_cases h
  obtain ⟨hne, h5, hb⟩ := h
  rw [hc, ← Rs_eq]
  simp [fn__law_cases, runPL_ap, b__law_cases, eIs]
  refine for_fold (fun n ρ s => s = [] ∧ ∃ x2 x3 x4 x5 x6, ρ = [Sl.imm (.tuple (sizes.map eI)), Sl.imm (.int n), x2, x3, x4, x5, x6]) (fun (n : Int) x => n * x) 1 ⟨rfl, _, _, _, _, _, rfl⟩ (fun size n ρ s hk hI => ?_) (fun ρ s hI => ?_)
  · obtain ⟨rfl, x2, x3, x4, x5, x6, rfl⟩ := hI
    have := hb size hk
    simp [eI]
    rw [mulD_i (.inr (by omega))]
    simp
    exact ⟨_, _, ⟨rfl, rfl⟩, rfl, _, _, _, _, _, rfl⟩
  · obtain ⟨rfl, x2, x3, x4, x5, x6, rfl⟩ := hI
    have fo : ∀ (l : List Int) (a : Int), (∀ x ∈ l, 2 ≤ x) → l.foldl (fun (n : Int) x => n * x) a = a * (prodR l.reverse : Int) := by
      have pa : ∀ (p : List Int) (x : Int), prodR (p ++ [x]) = prodR p * x.toNat := by
        intro p x
        induction p with
        | nil => simp [prodR]
        | cons y p ih => simp only [List.cons_append, prodR, ih, Nat.mul_right_comm]
      intro l
      induction l with
      | nil => intro a _; simp [prodR]
      | cons x l ih =>
        intro a hl
        rw [List.foldl_cons, ih _ fun y hy => hl y (by simp [hy]), List.reverse_cons, pa]
        have := hl x (by simp)
        have e : ((x.toNat : Nat) : Int) = x := by omega
        rw [Int.natCast_mul, e, Int.mul_assoc, Int.mul_comm x]
    have hprod : sizes.foldl (fun (n : Int) x => n * x) 1 = (prodR sizes.reverse : Int) := by
      rw [fo sizes 1 fun x hx => (hb x hx).1, Int.one_mul]
    rw [hprod]
    simp
    rw [rng1_n (by omega)]
    simp
    refine for_rs (fun i ρ s => s = [] ∧ ∃ x2 x4 x5 x6, ρ = [Sl.imm (.tuple (sizes.map eI)), Sl.imm (.int (prodR sizes.reverse : Int)), x2, Sl.own (((List.range i).map (decR sizes.reverse)).map eIs), x4, x5, x6]) ⟨rfl, _, _, _, _, rfl⟩ (fun i k ρ s hk hI => ?_) (fun ρ s hI => ?_)
    · obtain ⟨rfl, x2, x4, x5, x6, rfl⟩ := hI
      obtain ⟨hi, rfl⟩ := at_range hk
      simp
      rw [← List.map_reverse]
      refine for_foldI (fun j (a : List Int × Nat) ρ s => s = [] ∧ a.1.length = j ∧ ∃ x2, ρ = [Sl.imm (.tuple (sizes.map eI)), Sl.imm (.int (prodR sizes.reverse : Int)), x2, Sl.own (((List.range k).map (decR sizes.reverse)).map eIs), Sl.imm (.int k), Sl.imm (eIs a.1), Sl.imm (.int (a.2 : Int))]) (fun a x => (((a.2 % x.toNat : Nat) : Int) :: a.1, a.2 / x.toNat)) ([], k) ⟨rfl, rfl, x2, by simp [eIs]⟩ (fun j size a ρ s hk hj hI => ?_) (fun ρ s hI => ?_)
      · obtain ⟨rfl, hl, x2, rfl⟩ := hI
        have hsz := hb size (by simpa using hk)
        have hj : j < sizes.length := by simpa using hj
        have e : ((size.toNat : Nat) : Int) = size := by omega
        simp [eI, eIs]
        rw [modD_i (by omega), fdivD_i (by omega) (by omega)]
        simp
        rw [chk_le (by omega)]
        simp
        exact ⟨_, _, ⟨rfl, rfl⟩, rfl, by omega, Sl.imm (.int size), by simp; rw [show max size 0 = size by omega]; exact ⟨rfl, rfl⟩⟩
      · obtain ⟨rfl, hl, x2, rfl⟩ := hI
        have hdec : ∀ (r : List Int) (c : List Int) (n : Nat), (r.foldl (fun (a : List Int × Nat) x => (((a.2 % x.toNat : Nat) : Int) :: a.1, a.2 / x.toNat)) (c, n)).1 = decR r n ++ c := by
          intro r
          induction r with
          | nil => intro c n; rfl
          | cons x r ih => intro c n; rw [List.foldl_cons, ih]; simp [decR]
        have := hdec sizes.reverse [] k
        rw [List.append_nil] at this
        revert this
        generalize sizes.reverse.foldl (fun (a : List Int × Nat) x => (((a.2 % x.toNat : Nat) : Int) :: a.1, a.2 / x.toNat)) ([], k) = F
        intro this
        simp
        rw [chkA_lt (by omega)]
        simp
        refine ⟨_, _, ⟨rfl, rfl⟩, rfl, x2, Sl.imm (.int k), Sl.imm (eIs F.1), Sl.imm (.int F.2), ?_⟩
        simp [List.range_succ, this]
    · obtain ⟨rfl, x2, x4, x5, x6, rfl⟩ := hI
      simp
def TI (sc sizes : List Int) (most many deeds : Int) (i : Nat) (ρ : DL.Env) (s : DL.Row) : Prop := RowI sc s ∧ ∃ (rules : List Rule) (x : Sl), rules.length = i ∧ (∀ r ∈ rules, WR sizes r) ∧ ρ = [Sl.row, Sl.imm (.int most), Sl.imm (eIs sizes), Sl.own (rules.map eR), x, Sl.imm (.int many), Sl.imm (.int deeds)]
theorem table_ok {sc : List Int} {s : Row} {most : Int} (hm1 : 1 ≤ most) (hm40 : most ≤ 40) (hs : RowI sc s) : Rs (fn__law_table [.int most] s) fun a => ∃ t s', a = (eT t, s') ∧ RowI sc s' ∧ WT t := by
  simp [fn__law_table, runR_ap, b__law_table]
  refine (sizes_ok hs).mono ?_
  rintro _ ⟨sizes, s1, rfl, hs1, hz⟩
  have h5 := hz.2.1
  simp
  refine (taken_ok hs1 (by omega) (by omega)).mono ?_
  rintro _ ⟨v, s2, rfl, hs2, v0, v1⟩
  have hx : ∃ n : Int, L2.atI [PyData.int 4, .int 9, .int most] v = some (.int n) ∧ 0 < n ∧ n ≤ 40 := by
    have : v = 0 ∨ v = 1 ∨ v = 2 := by omega
    rcases this with rfl | rfl | rfl
    · exact ⟨4, rfl, by omega, by omega⟩
    · exact ⟨9, rfl, by omega, by omega⟩
    · exact ⟨most, rfl, by omega, by omega⟩
  obtain ⟨n, hn, hn0, hn1⟩ := hx
  simp [hn]
  refine (taken_ok hs2 (by omega) (by omega)).mono ?_
  rintro _ ⟨many, s3, rfl, hs3, m0, m1⟩
  simp
  refine (taken_ok hs3 (by omega) (by omega)).mono ?_
  rintro _ ⟨u, s4, rfl, hs4, u0, u1⟩
  have hy : ∃ n : Int, L2.atI [PyData.int 2, .int 4, .int 10] u = some (.int n) ∧ 0 < n ∧ n ≤ 10 := by
    have : u = 0 ∨ u = 1 ∨ u = 2 := by omega
    rcases this with rfl | rfl | rfl
    · exact ⟨2, rfl, by omega, by omega⟩
    · exact ⟨4, rfl, by omega, by omega⟩
    · exact ⟨10, rfl, by omega, by omega⟩
  obtain ⟨deeds, hd, hd0, hd1⟩ := hy
  simp [hd]
  obtain ⟨m, hm, hm0, hm2⟩ : ∃ m : Int, (if most < many then most else many) = m ∧ 0 ≤ m ∧ m ≤ 40 := ⟨_, rfl, by split <;> omega, by split <;> omega⟩
  rw [hm, rng1_i hm0 (by omega)]
  simp
  refine for_rs (TI sc sizes most many deeds) ⟨hs4, [], _, rfl, by simp, rfl⟩ (fun i k ρ s hk hI => ?_) (fun ρ s hI => ?_)
  · obtain ⟨hs', rules, x, hl, hr, rfl⟩ := hI
    have hi := (at_range hk).1
    have more : ∀ (r : Rule) (x : Sl) (s5 : Row), RowI sc s5 → WR sizes r → Rs (chkA rules.length (Out.nx [Sl.row, Sl.imm (.int most), Sl.imm (eIs sizes), Sl.own (rules.map eR ++ [eR r]), x, Sl.imm (.int many), Sl.imm (.int deeds)] s5)) fun o => ∃ ρ2 s2, (o = .nx ρ2 s2 ∨ o = .ct ρ2 s2) ∧ TI sc sizes most many deeds (i + 1) ρ2 s2 := by
      intro r x s5 hs5 hw
      rw [chkA_lt (by omega)]
      simp only [Rs_some]
      refine ⟨_, _, .inl rfl, hs5, rules ++ [r], x, by simp [hl], fun q hq => ?_, by simp⟩
      rcases List.mem_append.mp hq with h | h
      · exact hr q h
      · simp at h
        subst h
        exact hw
    simp
    by_cases hne : rules = []
    · simp [hne]
      refine (rule_ok hs' hz hd0 hd1).mono ?_
      rintro _ ⟨r, s5, rfl, hs5, hw⟩
      have := more r (.imm (.int k)) s5 hs5 hw
      simpa [hne] using this
    · simp [hne]
      refine (taken_ok hs' (by omega) (by omega)).mono ?_
      rintro _ ⟨z, s5, rfl, hs5, z0, z1⟩
      simp
      by_cases hz0 : z = 0
      · simp [hz0]
        have hpos : 0 < rules.length := List.length_pos_iff.mpr hne
        refine (taken_ok hs5 (by omega) (by omega)).mono ?_
        rintro _ ⟨j, s6, rfl, hs6, j0, j1⟩
        obtain ⟨j, rfl⟩ : ∃ n : Nat, j = (n : Int) := ⟨j.toNat, by omega⟩
        have g : rules[j]? = some (rules[j]'(by omega)) := List.getElem?_eq_getElem (by omega)
        simp [g]
        refine (near_ok hs6 hz (hr _ (List.getElem_mem _))).mono ?_
        rintro _ ⟨r, s7, rfl, hs7, hw⟩
        exact more r _ s7 hs7 hw
      · simp [hz0]
        refine (rule_ok hs5 hz hd0 hd1).mono ?_
        rintro _ ⟨r, s6, rfl, hs6, hw⟩
        exact more r _ s6 hs6 hw
  · obtain ⟨hs', rules, x, hl, hr, rfl⟩ := hI
    simp at hl
    simp
    refine (taken_ok hs' (by omega) (by omega)).mono ?_
    rintro _ ⟨z, s5, rfl, hs5, z0, z1⟩
    simp
    have e : (sizes.length : Int).toNat = sizes.length := rfl
    have e2 : mulD (.tuple [.none]) (.int sizes.length) = some (eWs (List.replicate sizes.length none)) := by
      rw [mulD_t (by simp) (by omega) (by omega), e]
      simp only [eWs, List.map_replicate, eW]
      generalize sizes.length = n
      congr 2
      induction n with
      | zero => rfl
      | succ n ih => simp [List.replicate_succ, ih]
    have fin : ∀ (rs : List Rule) (s : DL.Row), RowI sc s → rs.length ≤ 40 → (∀ r ∈ rs, WR sizes r) → ∃ a b s', ((PyData.tuple [eIs sizes, .tuple (rs.map eR)]), s) = (eT (a, b), s') ∧ RowI sc s' ∧ WT (a, b) := fun rs s h h2 h3 => ⟨sizes, rs, s, rfl, h, hz, h2, h3⟩
    by_cases hz0 : z = 0
    · by_cases h40 : (rules.length : Int) < most
      · simp [hz0, h40, eIs]
        rw [e2]
        simp
        refine (taken_ok hs5 (by omega) (by omega)).mono ?_
        rintro _ ⟨d, s6, rfl, hs6, d0, d1⟩
        have hx : ∃ o : Option Int, L2.atI [PyData.int 0, .none] d = some (eO o) ∧ WD o := by
          have : d = 0 ∨ d = 1 := by omega
          rcases this with rfl | rfl
          · exact ⟨some 0, rfl, fun n e => by cases e; omega⟩
          · exact ⟨none, rfl, wd_none⟩
        obtain ⟨o, ho, wo⟩ := hx
        simp [ho]
        rw [chkA_lt (by omega)]
        simp
        have := fin (rules ++ [(List.replicate sizes.length none, o)]) s6 hs6 (by simp; omega) (fun q hq => by
          rcases List.mem_append.mp hq with h | h
          · exact hr q h
          · simp at h
            subst h
            refine ⟨Pw.of_forall (p := fun _ => True) (by simp) fun i x y e1 e2 => ?_, wo⟩
            have := List.eq_of_mem_replicate (List.mem_of_getElem? e2)
            subst this
            exact ww_none)
        simpa [eIs, eR] using this
      · simp [hz0, h40]
        simpa using fin rules s5 hs5 (by omega) hr
    · simp [hz0]
      simpa using fin rules s5 hs5 (by omega) hr
theorem many_ok {sc : List Int} {s : DL.Row} (hs : RowI sc s) : Rs (fn__law_many [] s) fun a => ∃ t s', a = (eT t, s') ∧ RowI sc s' ∧ WT t := by
  simp [fn__law_many, runR_ap, b__law_many]
  refine (taken_ok hs (by omega) (by omega)).mono ?_
  rintro _ ⟨v, s1, rfl, hs1, v0, v1⟩
  simp
  rw [rng1_i (by omega) (by omega)]
  simp
  refine comp_rs (RowI sc) (fun _ y => 2 ≤ y ∧ y ≤ 4) eI hs1 (fun k hk s hs => ?_) (fun sizes s' hs' hp => ?_)
  · simp
    refine (taken_ok hs (by omega) (by omega)).mono ?_
    rintro _ ⟨x, s3, rfl, hs3, x0, x1⟩
    simp
    exact ⟨2 + x, s3, ⟨rfl, rfl⟩, hs3, by omega, by omega⟩
  · have hz : WS sizes := by
      have hl := hp.range_len
      refine ⟨fun e => ?_, by omega, Pw.right (p := fun y => 2 ≤ y ∧ y ≤ 4) (fun _ _ h => h) hp⟩
      subst e
      simp at hl
      omega
    simp
    refine (taken_ok hs' (by omega) (by omega)).mono ?_
    rintro _ ⟨u, s4, rfl, hs4, u0, u1⟩
    have hy : ∃ n : Int, L2.atI [PyData.int 2, .int 4, .int 10] u = some (.int n) ∧ 0 < n ∧ n ≤ 10 := by
      have : u = 0 ∨ u = 1 ∨ u = 2 := by omega
      rcases this with rfl | rfl | rfl
      · exact ⟨2, rfl, by omega, by omega⟩
      · exact ⟨4, rfl, by omega, by omega⟩
      · exact ⟨10, rfl, by omega, by omega⟩
    obtain ⟨deeds, hd, hd0, hd1⟩ := hy
    simp [hd]
    refine (taken_ok hs4 (by omega) (by omega)).mono ?_
    rintro _ ⟨p, s5, rfl, hs5, p0, p1⟩
    simp
    refine (taken_ok hs5 (by omega) (by omega)).mono ?_
    rintro _ ⟨q, s6, rfl, hs6, q0, q1⟩
    have hx : ∃ n : Int, L2.atI [PyData.int 40, .int (17 + p)] q = some (.int n) ∧ 0 < n ∧ n ≤ 40 := by
      have : q = 0 ∨ q = 1 := by omega
      rcases this with rfl | rfl
      · exact ⟨40, rfl, by omega, by omega⟩
      · exact ⟨17 + p, rfl, by omega, by omega⟩
    obtain ⟨n, hn, hn0, hn1⟩ := hx
    simp [hn]
    rw [rng1_i (by omega) (by omega)]
    simp
    refine comp_rs (RowI sc) (fun _ r => WR sizes r) eR hs6 (fun k hk s hs => ?_) (fun rules s' hs' hp => ?_)
    · simp
      refine (rule_ok hs hz hd0 hd1).mono ?_
      rintro _ ⟨r, s7, rfl, hs7, hw⟩
      exact ⟨r.1, r.2, s7, rfl, hs7, hw⟩
    · simp
      have hl := hp.range_len
      exact ⟨sizes, rules, s', ⟨rfl, rfl⟩, hs', hz, by show rules.length ≤ 40; omega, Pw.right (p := WR sizes) (fun _ _ h => h) hp⟩
theorem lv_is {c : List Int} (h : c.length ≤ 1000000) : Lv 2 (eIs c) := .inr ⟨_, .inr rfl, by simpa using h, fun x hx => by
  obtain ⟨v, _, rfl⟩ := List.mem_map.mp hx
  exact .inl rfl⟩
end PC
namespace PC
open PySem DL
theorem kindof_ok {t : Table} {w : Str} (hw : WWay w) {l : List Nat} (hl : ∀ k ∈ l, k < t.2.length) : fn_kind_of [eT t, .str w, .list (eNs l)] = some (kindM t w l) := by
  cases l with
  | nil => simp [fn_kind_of, runP_ap, b_kind_of, eNs, kindM]
  | cons a r =>
    have hc := clashing_ok (t := t) hw hl
    have ha := hl a (by simp)
    have g : t.2[a]? = some t.2[a] := List.getElem?_eq_getElem ha
    have e : eNs (a :: r) = eN a :: eNs r := rfl
    rw [e] at hc ⊢
    simp [fn_kind_of, runP_ap, b_kind_of, kindM, hc]
    cases hq : clashM t.2 w (a :: r) with
    | some x => simp
    | none => simp [eN, g, deedAt]
theorem allheld_ok {t : Table} (h : WT t) : fn_all_held [eT t] = some (.list ((casesL t.1).map fun c => .tuple [eIs c, .list (eNs (holdL t c))])) := by
  have hs := h.1
  simp [fn_all_held, runP_ap, b_all_held, all_cases_ok hs]
  rw [comp_map' (q := fun c => .tuple [eIs c, .list (eNs (holdL t c))])]
  · simp
  · intro c hc
    have hwc := casesL_wc (fun x hx => (hs.2.2 x hx).1) c hc
    simp [holding_ok h hwc]
theorem allkinds_ok {t : Table} {w : Str} (h : WT t) (hw : WWay w) : fn_all_kinds [eT t, .str w] = some (.list ((casesL t.1).map (kindD t w))) := by
  have hs := h.1
  simp [fn_all_kinds, runP_ap, b_all_kinds, allheld_ok h]
  rw [comp_map' (q := kindD t w)]
  · simp
  · intro c hc
    have hwc := casesL_wc (fun x hx => (hs.2.2 x hx).1) c hc
    simp [hTup, hCons, hNil, kindof_ok (t := t) hw (l := holdL t c) (fun k hk => holdL_lt k hk), kindD]
theorem otherwise_ok {t o : Table} {w : Str} (h : WT t) (ho : WT o) (e : t.1 = o.1) (hw : WWay w) : fn_otherwise [eT t, eT o, .str w] = some (.list ((difL t o w).map (otherD t o w))) := by
  have hs := h.1
  have e2 : casesL o.1 = casesL t.1 := by rw [e]
  simp [fn_otherwise, runP_ap, b_otherwise, allkinds_ok h hw, allkinds_ok ho hw, all_cases_ok hs, e2]
  rw [zip3L_map]
  rw [comp_map (p := difB t o w) (q := otherD t o w)]
  · simp [difL]
  · intro c hc
    simp [neD_ap (kind_flat o w c), difB, otherD]
theorem parted_ok {t o : Table} {w : Str} (h : WT t) (ho : WT o) (e : t.1 = o.1) (hw : WWay w) : fn_parted [eT t, eT o, .str w] = some (partedM t o w) := by
  simp [fn_parted, runP_ap, b_parted, need_table_ok h, need_table_ok ho, need_way_ok hw, otherwise_ok h ho e hw, e]
  cases hq : difL t o w with
  | nil => simp [partedM, hq]
  | cons c r => simp [partedM, hq]
theorem without_ok {t : Table} {k : Nat} (hk : k < t.2.length) (h40 : t.2.length ≤ 40) : fn_without [eT t, .int k] = some (eT (t.1, t.2.take k ++ t.2.drop (k + 1))) := by
  simp [fn_without, runP_ap, b_without, eT, eRs]
  rw [cut_take (by rw [List.length_map]; omega), cut_drop1 (by rw [List.length_map]; omega), chk_le (by simp; omega)]
  simp
def eRo : Option Rule → D | none => .none | some r => eR r
def putM (t : Table) (k : Nat) (r : Option Rule) : Table := (t.1, t.2.take k ++ r.toList ++ t.2.drop (k + 1))
theorem putM_wt {t : Table} (h : WT t) {k : Nat} (hk : k < t.2.length) {r : Option Rule} (hr : ∀ x, r = some x → WR t.1 x) : WT (putM t k r) := by
  obtain ⟨hs, h40, hw⟩ := h
  refine ⟨hs, ?_, fun x hx => ?_⟩
  · show (t.2.take k ++ r.toList ++ t.2.drop (k + 1)).length ≤ 40
    have : r.toList.length ≤ 1 := by cases r <;> simp
    rw [List.length_append, List.length_append, List.length_take, List.length_drop]
    omega
  · have hx : x ∈ t.2.take k ++ r.toList ++ t.2.drop (k + 1) := hx
    rcases List.mem_append.mp hx with hx | hx
    · rcases List.mem_append.mp hx with hx | hx
      · exact hw x (List.mem_of_mem_take hx)
      · cases r with
        | none => simp at hx
        | some y =>
          simp at hx
          subst hx
          exact hr x rfl
    · exact hw x (List.mem_of_mem_drop hx)
theorem exchanged_ok {t : Table} {k : Nat} (hk : k < t.2.length) (h40 : t.2.length ≤ 40) (r : Option Rule) : fn_exchanged [eT t, .int k, eRo r] = some (eT (putM t k r)) := by
  cases r with
  | none =>
    simp [fn_exchanged, runP_ap, b_exchanged, eRo, without_ok hk h40, putM]
  | some r =>
    simp [fn_exchanged, runP_ap, b_exchanged, eRo, putM, eR]
    simp [eT, eRs]
    rw [cut_take (by rw [List.length_map]; omega), chk_le (by simp; omega)]
    simp
    rw [cut_drop1 (by rw [List.length_map]; omega), chk_le (by simp; omega)]
    simp [eR]
theorem need_change_ok {t : Table} (h : WT t) {k : Nat} (hk : k < t.2.length) {r : Option Rule} (hr : ∀ x, r = some x → WR t.1 x) : fn_need_change [eT t, .int k, eRo r] = some .none := by
  have hs := h.1
  have e : (k : Int) ≤ (t.2.length : Int) - 1 := by omega
  cases r with
  | none => simp [fn_need_change, runP_ap, b_need_change, eRo, is_whole_i, e]
  | some r => simp [fn_need_change, runP_ap, b_need_change, eRo, is_whole_i, e, is_rule_ok hs (hr r rfl)]
theorem reach_ok {t : Table} {w : Str} (h : WT t) (hw : WWay w) {k : Nat} (hk : k < t.2.length) {r : Option Rule} (hr : ∀ x, r = some x → WR t.1 x) : fn_reach [eT t, .str w, .int k, eRo r] = some (reachM t (putM t k r) w) := by
  have h2 := putM_wt h hk hr
  have e : t.1 = (putM t k r).1 := rfl
  simp [fn_reach, runP_ap, b_reach, need_table_ok h, need_way_ok hw, need_change_ok h hk hr, exchanged_ok hk h.2.1 r, otherwise_ok h h2 e hw]
  cases hq : difL t (putM t k r) w with
  | nil => simp [reachM, hq]
  | cons c q => simp [reachM, hq, otherD]
/-! the law's side -/
theorem way_ok {sc : List Int} {s : DL.Row} (hs : RowI sc s) : Rs (fn__law_way [] s) fun a => ∃ w s', a = (.str w, s') ∧ RowI sc s' ∧ WWay w := by
  simp [fn__law_way, runR_ap, b__law_way]
  refine (taken_ok hs (by omega) (by omega)).mono ?_
  rintro _ ⟨v, s1, rfl, hs1, v0, v1⟩
  have hx : ∃ w : Str, L2.atI [PyData.str "one", .str "first", .str "same"] v = some (.str w) ∧ WWay w := by
    have : v = 0 ∨ v = 1 ∨ v = 2 := by omega
    rcases this with rfl | rfl | rfl
    · exact ⟨"one", rfl, .inl rfl⟩
    · exact ⟨"first", rfl, .inr (.inl rfl)⟩
    · exact ⟨"same", rfl, .inr (.inr rfl)⟩
  obtain ⟨w, hw, ww⟩ := hx
  simp [hw]
  exact ⟨w, s1, ⟨rfl, rfl⟩, hs1, ww⟩
theorem lawkind_ok {t : Table} {w : Str} {c : List Int} (h : WT t) (hw : WWay w) (hc : WC t.1 c) : fn__law_kind [eT t, .str w, eIs c] = some (kindD t w c) := by
  simp [fn__law_kind, runP_ap, b__law_kind, lawtold_ok h hw hc, toldM, kindD]
  cases hh : holdL t c with
  | nil =>
    simp [ansM, kindM]
    rw [if_neg (by decide +kernel)]
    simp
  | cons a l =>
    simp only [ansM, kindM]
    cases hq : clashM t.2 w (a :: l) with
    | none =>
      simp
      rw [if_neg (by decide +kernel)]
      simp
    | some x => simp
theorem lawkinds_ok {t : Table} {w : Str} (h : WT t) (hw : WWay w) : fn__law_kinds [eT t, .str w] = some (.list ((casesL t.1).map (kindD t w))) := by
  have hs := h.1
  simp [fn__law_kinds, runP_ap, b__law_kinds, lawcases_ok hs]
  rw [comp_map' (q := kindD t w)]
  · simp
  · intro c hc
    have hwc := casesL_wc (fun x hx => (hs.2.2 x hx).1) c hc
    simp [lawkind_ok h hw hwc]
end PC
namespace PC
open PySem DL
theorem lv_parted {t o : Table} (h : WT t) (w : Str) : Lv 3 (partedM t o w) := by
  unfold partedM
  cases hq : difL t o w with
  | nil => exact Lv.non
  | cons c r =>
    have hc : c ∈ casesL t.1 := (List.mem_filter.mp (show c ∈ difL t o w by rw [hq]; simp)).1
    have := (casesL_wc (fun x hx => (h.1.2.2 x hx).1) c hc).length
    have h5 := h.1.2.1
    refine Lv.tup (by simp) fun x hx => ?_
    simp at hx
    rcases hx with rfl | rfl | rfl
    · exact Lv.ints (by omega)
    · exact (lv_kind t w c).up
    · exact (lv_kind o w c).up
theorem lv_reach {t o : Table} (h : WT t) (w : Str) : Lv 3 (reachM t o w) := by
  unfold reachM
  refine Lv.tup (by simp) fun x hx => ?_
  simp at hx
  rcases hx with rfl | rfl
  · exact Lv.int _
  · cases hq : difL t o w with
    | nil => exact Lv.non
    | cons c r =>
      have hc : c ∈ casesL t.1 := (List.mem_filter.mp (show c ∈ difL t o w by rw [hq]; simp)).1
      have := (casesL_wc (fun x hx => (h.1.2.2 x hx).1) c hc).length
      have h5 := h.1.2.1
      exact Lv.ints (by omega)
/-- the places at which two tables answer otherwise -/
def plL (t o : Table) (w : Str) : List Nat := placesL (casesL t.1) (difB t o w)
theorem some_comp {t o : Table} {w : Str} (e : t.1 = o.1) {ρ : DL.Env} {s : DL.Row} {h : SG} {fb : SB} {fe : SE} 
    (H : ∀ (k : Nat) (c : List Int), (casesL t.1)[k]? = some c → ∃ ρ1, h (eN k) ρ = some ρ1 ∧ fb ρ1 s = some (difB t o w c, s) ∧ fe ρ1 s = some (eN k, s)) :
    compL h fb fe ρ ((List.range (casesL t.1).length).map fun (i : Nat) => PyData.int (i : Int)) s = some ((plL t o w).map eN, s) := by
  rw [show (fun (i : Nat) => PyData.int (i : Int)) = eN from rfl, comp_map (p := fun k => ((casesL t.1)[k]?).any (difB t o w)) (q := eN)]
  · rfl
  · intro k hk
    have hk := List.mem_range.mp hk
    have g : (casesL t.1)[k]? = some (casesL t.1)[k] := List.getElem?_eq_getElem hk
    obtain ⟨ρ1, h1, h2, h3⟩ := H k _ g
    exact ⟨ρ1, h1, by rw [g]; exact h2, fun _ => h3⟩
theorem sl_take {l : List Rule} {j : Nat} (h : j ≤ l.length) : slD (eRs l) none (some (j : Int)) = some (eRs (l.take j)) := by
  show some (PyData.tuple (cutD _ _ _)) = _
  rw [cut_take (by rw [List.length_map]; exact h), ← List.map_take]
  rfl
theorem sl_drop {l : List Rule} {j : Nat} (h : j ≤ l.length) : slD (eRs l) (some (j : Int)) none = some (eRs (l.drop j)) := by
  show some (PyData.tuple (cutD _ _ _)) = _
  rw [cut_drop (by rw [List.length_map]; exact h), ← List.map_drop]
  rfl
theorem sl_drop1 {l : List Rule} {j : Nat} (h : j + 1 ≤ l.length) : slD (eRs l) (some ((j : Int) + 1)) none = some (eRs (l.drop (j + 1))) := sl_drop (j := j + 1) h
theorem add_rs {a b : List Rule} (h : a.length + b.length ≤ 1000000) : addD (eRs a) (eRs b) = some (eRs (a ++ b)) := by
  show addD (.tuple _) (.tuple _) = _
  simp
  rw [chk_le h]
  simp [eRs]
@[simp] theorem putM_1 {t : Table} {k : Nat} {r : Option Rule} : (putM t k r).1 = t.1 := rfl
end PC

set_option maxHeartbeats 1000000
/-! What the program's defs and the law's reckon, as functions of data. -/
namespace PC
open PySem DL
def b_all_but : SS := (sRet (eL (lComp (rVar 0) (hName 2) (bVal (eOp neD (eVar 2) (eVar 1))) (eVar 2) [2])))
def fn_all_but : List D → Option D := runP 3 b_all_but
def b_is_idle : SS := (sRet (eOp eqD (eL (lComp (rVar 2) (hName 4) (bVal (eOp neD (eCall 3 fn_kind_of (aCons (eVar 0) (aCons (eVar 1) (aCons (eVar 4) aNil)))) (eCall 3 fn_kind_of (aCons (eVar 0) (aCons (eVar 1) (aCons (eCall 2 fn_all_but (aCons (eVar 4) (aCons (eVar 3) aNil))) aNil)))))) (eVar 4) [4])) (eL (lLst aNil))))
def fn_is_idle : List D → Option D := runP 5 b_is_idle
def b_idle : SS := (sSeq (sDrop (eCall 1 fn_need_table (aCons (eVar 0) aNil)))
  (sSeq (sDrop (eCall 1 fn_need_way (aCons (eVar 1) aNil)))
  (sSeq (sSet 2 (eL (lComp (rE (eCall 1 fn_all_held (aCons (eVar 0) aNil))) (hTup (hCons (hName 3) (hCons (hName 4) hNil))) bYes (eVar 4) [3, 4])))
  (sRetL (lComp (i1Rng (eLen (rE (eIx (rVar 0) (eC (.int 1)))))) (hName 5) (bVal (eCall 4 fn_is_idle (aCons (eVar 0) (aCons (eVar 1) (aCons (eVar 2) (aCons (eVar 5) aNil)))))) (eVar 5) [5])))))
def fn_idle : List D → Option (List D) := runPL 6 b_idle
def b_lean : SS := (sSeq (sDrop (eCall 1 fn_need_table (aCons (eVar 0) aNil)))
  (sSeq (sDrop (eCall 1 fn_need_way (aCons (eVar 1) aNil)))
  (sSeq (sFrzB 2 (sSetL 2 (lComp (rE (eCall 1 fn_all_held (aCons (eVar 0) aNil))) (hTup (hCons (hName 5) (hCons (hName 6) hNil))) bYes (eVar 6) [5, 6])))
  (sSeq (sSetL 3 (lListRng (eLen (rE (eIx (rVar 0) (eC (.int 1)))))))
  (sSeq (sFor (iRevRng (eLen (rE (eIx (rVar 0) (eC (.int 1)))))) (hName 4) (sIf (bVal (eCall 4 fn_is_idle (aCons (eVar 0) (aCons (eVar 1) (aCons (eVar 2) (aCons (eVar 4) aNil)))))) (sSeq (sFrzB 2 (sSetL 2 (lComp (rVar 2) (hName 6) bYes (eCall 2 fn_all_but (aCons (eVar 6) (aCons (eVar 4) aNil))) [6])))
  (sRem 3 (eVar 4))) sNext))
  (sRet (eTup (aCons (eIx (rVar 0) (eC (.int 0))) (aCons (eTupL (lComp (rVar 3) (hName 4) bYes (eIx (rE (eIx (rVar 0) (eC (.int 1)))) (eVar 4)) [4])) aNil)))))))))
def fn_lean : List D → Option D := runP 7 b_lean
def b_decides : SS := (sSeq (sDrop (eCall 1 fn_need_table (aCons (eVar 0) aNil)))
  (sSeq (sDrop (eCall 1 fn_need_way (aCons (eVar 1) aNil)))
  (sSeq (sParV 2 3 (vL (lRep (lLst (aCons (eC (.int 0)) aNil)) (eLen (rE (eIx (rVar 0) (eC (.int 1))))))) (vL (lRep (lLst (aCons (eC (.int 0)) aNil)) (eLen (rE (eIx (rVar 0) (eC (.int 1))))))))
  (sSeq (sFor (rE (eCall 1 fn_all_held (aCons (eVar 0) aNil))) (hTup (hCons (hName 4) (hCons (hName 5) hNil))) (sSeq (sFor (rE (eVar 5)) (hName 6) (sOwnSet 2 (eVar 6) (eOp addD (eIx (rVar 2) (eVar 6)) (eC (.int 1)))))
  (sIf (bVal (eOp eqD (eIx (rE (eCall 3 fn_kind_of (aCons (eVar 0) (aCons (eVar 1) (aCons (eVar 5) aNil))))) (eC (.int 0))) (eC (.str "deed")))) (sOwnSet 3 (eIx (rVar 5) (eC (.int 0))) (eOp addD (eIx (rVar 3) (eIx (rVar 5) (eC (.int 0)))) (eC (.int 1)))) sNext)))
  (sRetL (lZip2 (qVar 2) (qVar 3)))))))
def fn_decides : List D → Option (List D) := runPL 7 b_decides
def b_law05 : SS := (sSeq (sSetL 1 (lLst (aCons (eVar 0) (aCons (eC (.int 0)) (aCons (eC (.int 0)) (aCons (eC (.int 0)) aNil))))))
  (sMkRow 1 (sSeq (sFor (i1Rng (eC (.int 3))) (hName 2) (sSeq (sSet 3 (eIf (bVal (eOp eqD (eCallR 1 2 fn__law_taken (aCons (eC (.int 4)) aNil)) (eC (.int 3)))) (eCallR 1 1 fn__law_many aNil) (eCallR 1 2 fn__law_table (aCons (eC (.int 12)) aNil))))
  (sSeq (sSet 4 (eCallR 1 1 fn__law_way aNil))
  (sSeq (sSet 5 (eCall 2 fn__law_kinds (aCons (eVar 3) (aCons (eVar 4) aNil))))
  (sSeq (sSet 6 (eLen (rE (eIx (rVar 3) (eC (.int 1))))))
  (sSeq (sFrzB 7 (sSetL 7 (lComp (i1Rng (eVar 6)) (hName 9) (bVal (eOp eqD (eCall 2 fn__law_kinds (aCons (eCall 2 fn_without (aCons (eVar 3) (aCons (eVar 9) aNil))) (aCons (eVar 4) aNil))) (eVar 5))) (eVar 9) [9])))
  (sSeq (sSet 8 (eVar 3))
  (sSeq (sFor (rE (eL (lRev (lListRng (eVar 6))))) (hName 9) (sIf (bVal (eOp eqD (eCall 2 fn__law_kinds (aCons (eCall 2 fn_without (aCons (eVar 8) (aCons (eVar 9) aNil))) (aCons (eVar 4) aNil))) (eVar 5))) (sSet 8 (eCall 2 fn_without (aCons (eVar 8) (aCons (eVar 9) aNil)))) sNext))
  (sSeq (sSetV 10 (vT (oComp (i1Rng (eVar 6)) (hName 9) (oLst (oCons (oE (eC (.int 0))) (oCons (oE (eC (.int 0))) oNil))) [9])))
  (sSeq (sFor (rE (eL (lCall 1 fn__law_cases (aCons (eIx (rVar 3) (eC (.int 0))) aNil)))) (hName 11) (sSeq (sSet 13 (eCall 2 fn__law_held (aCons (eVar 3) (aCons (eVar 11) aNil))))
  (sSeq (sFor (rE (eVar 13)) (hName 9) (sDeepSet 10 (eVar 9) (eC (.int 0)) (eLend (eOp addD (eIx (rE (eIx (rVar 10) (eVar 9))) (eC (.int 0))) (eC (.int 1))))))
  (sIf (bVal (eOp eqD (eIx (rE (eCall 3 fn__law_kind (aCons (eVar 3) (aCons (eVar 4) (aCons (eVar 11) aNil))))) (eC (.int 0))) (eC (.str "deed")))) (sDeepSet 10 (eIx (rVar 13) (eC (.int 0))) (eC (.int 1)) (eLend (eOp addD (eIx (rE (eIx (rVar 10) (eIx (rVar 13) (eC (.int 0))))) (eC (.int 1))) (eC (.int 1))))) sNext))))
  (sFor (i1Rng (eC (.int 2))) (hName 12) (sSeq (sSetV 14 (vT (oLst (oCons (oL (lCall 2 fn_idle (aCons (eVar 3) (aCons (eVar 4) aNil)))) (oCons (oE (eCall 2 fn_lean (aCons (eVar 3) (aCons (eVar 4) aNil)))) (oCons (oL (lCall 2 fn_decides (aCons (eVar 3) (aCons (eVar 4) aNil)))) oNil))))))
  (sSeq (sIf (bNot (bVal (eLend (eCall 2 (fn__law_alike 7) (aCons (eVar 14) (aCons (eL (lLst (aCons (eVar 7) (aCons (eVar 8) (aCons (eL (lComp (rVar 10) (hName 15) bYes (eTupL (qVar 15)) [15])) aNil))))) aNil)))))) (sRet (eC (.bool false))) sNext)
  (sSeq (sDeepApp 14 (eC (.int 0)) (eC (.int 0)))
  (sDeepApp 14 (eC (.int 2)) (eC (.int 0)))))))))))))))))
  (sRet (eC (.bool true))))))
def fn_law05 : List D → Option D := runP 16 b_law05
end PC

set_option maxHeartbeats 2000000
/-! What is told, without numbers; tables with rules left out. -/
namespace PC
open PySem DL
inductive Kd where
  | gap | clash | deed (d : Option Int)
deriving DecidableEq
def encK : Kd → D
  | .gap => .tuple [.str "gap"] | .clash => .tuple [.str "clash"] | .deed d => .tuple [.str "deed", eO d]
def kK (w : Str) : List (Option Int) → Kd
  | [] => .gap
  | a :: r => if w = "first" then .deed a else if w = "one" then (if r = [] then .deed a else .clash) else if ∀ x ∈ r, x = a then .deed a else .clash
theorem kindM_K {t : Table} {w : Str} (hw : WWay w) (l : List Nat) : kindM t w l = encK (kK w (l.map (deedAt t.2))) := by
  cases l with
  | nil => rfl
  | cons a r =>
    rcases hw with rfl | rfl | rfl
    · cases r with
      | nil => simp [kindM, clashM, kK, encK, str_ne1]
      | cons b r => simp [kindM, clashM, kK, encK, str_ne1]
    · cases r with
      | nil => simp [kindM, clashM, kK, encK]
      | cons b r => simp [kindM, clashM, kK, encK]
    · simp only [kindM, clash_same, kK, List.map_cons, if_neg str_ne6, if_neg str_ne5]
      by_cases h : ∀ x ∈ r.map (deedAt t.2), x = deedAt t.2 a
      · rw [if_pos h]
        have : neqs t.2 a r = [] := by
          unfold neqs
          rw [List.filter_eq_nil_iff]
          intro x hx
          have : deedAt t.2 x = deedAt t.2 a := by
            rcases List.mem_cons.mp hx with rfl | hx
            · rfl
            · exact h _ (List.mem_map.mpr ⟨x, hx, rfl⟩)
          simp [this]
        rw [this]
        rfl
      · rw [if_neg h]
        cases e : neqs t.2 a r with
        | cons x q => rfl
        | nil =>
          refine (h fun x hx => ?_).elim
          obtain ⟨k, hk, rfl⟩ := List.mem_map.mp hx
          have := (List.filter_eq_nil_iff.mp e) k (List.mem_cons_of_mem _ hk)
          simpa using this
theorem kindD_K {t : Table} {w : Str} (hw : WWay w) (c : List Int) : kindD t w c = encK (kK w ((holdL t c).map (deedAt t.2))) := kindM_K hw _
theorem encK_eqv (a b : Kd) : PyData.eqv (encK a) (encK b) = decide (a = b) := by
  have h1 : ("gap" == ("deed" : Str)) = false := by decide +kernel
  have h2 : ("clash" == ("deed" : Str)) = false := by decide +kernel
  have h3 : ("gap" == ("clash" : Str)) = false := by decide +kernel
  have h4 : ("clash" == ("gap" : Str)) = false := by decide +kernel
  have h5 : ("deed" == ("gap" : Str)) = false := by decide +kernel
  have h6 : ("deed" == ("clash" : Str)) = false := by decide +kernel
  have := eqv_eO
  cases a <;> cases b <;> simp [encK, PyData.eqv, PyData.eqvAll, h1, h2, h3, h4, h5, h6, this]
theorem encK_depth (a : Kd) : (encK a).depth ≤ 2 := by
  cases a with
  | gap => decide
  | clash => decide
  | deed d => cases d <;> simp [encK, PyData.depth, PyData.depthAll, eO]
theorem encK_flat {d : D} (a : Kd) : flatE d (encK a) := by
  have := encK_depth a
  unfold flatE
  omega
@[simp] theorem neD_encK (a b : Kd) : neD (encK a) (encK b) = some (.bool (!decide (a = b))) := by rw [neD_ap (encK_flat b), encK_eqv]
@[simp] theorem eqD_encK (a b : Kd) : eqD (encK a) (encK b) = some (.bool (decide (a = b))) := by rw [eqD_ap (encK_flat b), encK_eqv]
theorem eqvAll_encK {α : Type} (f g : α → Kd) : ∀ cs : List α, PyData.eqvAll (cs.map fun c => encK (f c)) (cs.map fun c => encK (g c)) = decide (∀ c ∈ cs, f c = g c)
  | [] => by simp [PyData.eqvAll]
  | c :: cs => by simp only [List.map_cons, PyData.eqvAll, eqvAll_encK f g cs, encK_eqv]; simp
theorem depthAll_encK {α : Type} (f : α → Kd) : ∀ cs : List α, PyData.depthAll (cs.map fun c => encK (f c)) ≤ 2
  | [] => by simp [PyData.depthAll]
  | c :: cs => by
    have h1 := depthAll_encK f cs
    have h2 := encK_depth (f c)
    simp only [List.map_cons, PyData.depthAll]
    omega
theorem eqD_kinds {α : Type} (f g : α → Kd) (cs : List α) : eqD (.list (cs.map fun c => encK (f c))) (.list (cs.map fun c => encK (g c))) = some (.bool (decide (∀ c ∈ cs, f c = g c))) := by
  rw [eqD_ap (by have := depthAll_encK g cs; unfold flatE; simp only [PyData.depth]; omega)]
  simp only [PyData.eqv, eqvAll_encK]
/-- rules by their numbers, some left out -/
def filtI {α : Type} (xs : List α) (keep : Nat → Bool) : List α := ((List.range xs.length).filter keep).filterMap (xs[·]?)
theorem filtI_snoc {α : Type} (xs : List α) (x : α) (keep : Nat → Bool) : filtI (xs ++ [x]) keep = filtI xs keep ++ (if keep xs.length then [x] else []) := by
  have e1 : ((List.range xs.length).filter keep).filterMap ((xs ++ [x])[·]?) = filtI xs keep := fm_congr fun k hk => by
    have hk := List.mem_range.mp (List.mem_filter.mp hk).1
    rw [List.getElem?_append_left hk]
  unfold filtI at e1 ⊢
  rw [List.length_append, List.length_singleton, List.range_succ, List.filter_append, List.filterMap_append, e1]
  cases h : keep xs.length <;> simp [h]
theorem snoc_ind {α : Type} {p : List α → Prop} (h0 : p []) (h1 : ∀ xs x, p xs → p (xs ++ [x])) (xs : List α) : p xs := by
  have : ∀ r : List α, p r.reverse := fun r => by
    induction r with
    | nil => exact h0
    | cons x r ih => rw [List.reverse_cons]; exact h1 _ _ ih
  have := this xs.reverse
  rwa [List.reverse_reverse] at this
theorem filtI_sub {α : Type} (xs : List α) (keep : Nat → Bool) : List.Sublist (filtI xs keep) xs := by
  induction xs using snoc_ind with
  | h0 => exact List.Sublist.refl _
  | h1 xs x ih =>
    rw [filtI_snoc]
    refine ih.append ?_
    split
    · exact List.Sublist.refl _
    · exact List.nil_sublist _
theorem filtI_all {α : Type} (xs : List α) {keep : Nat → Bool} (h : ∀ k, k < xs.length → keep k = true) : filtI xs keep = xs := by
  induction xs using snoc_ind with
  | h0 => rfl
  | h1 xs x ih =>
    rw [filtI_snoc, ih (fun k hk => h k (by simp; omega)), h xs.length (by simp)]
    simp
theorem filtI_congr {α : Type} (xs : List α) {k1 k2 : Nat → Bool} (h : ∀ k, k < xs.length → k1 k = k2 k) : filtI xs k1 = filtI xs k2 := by
  unfold filtI
  rw [List.filter_congr fun k hk => h k (List.mem_range.mp hk)]
/-- what of the rules that hold is told -/
def dk (t : Table) (keep : Nat → Bool) (c : List Int) : List (Option Int) := ((holdL t c).filter keep).map (deedAt t.2)
def deedsL (rs : List Rule) (c : List Int) : List (Option Int) := (rs.filter fun r => holdsB r.1 c).map (·.2)
theorem dk_deeds (rs : List Rule) (z : List Int) (keep : Nat → Bool) (c : List Int) : dk (z, rs) keep c = deedsL (filtI rs keep) c := by
  induction rs using snoc_ind with
  | h0 => rfl
  | h1 rs r ih =>
    have e1 : holdL (z, rs ++ [r]) c = holdL (z, rs) c ++ (if holdsB r.1 c then [rs.length] else []) := by
      unfold holdL
      simp only [List.length_append, List.length_singleton, List.range_succ, List.filter_append]
      congr 1
      · refine List.filter_congr fun k hk => ?_
        have hk := List.mem_range.mp hk
        unfold hAt
        rw [List.getElem?_append_left hk]
      · unfold hAt
        cases h : holdsB r.1 c <;> simp [h]
    have e2 : ((holdL (z, rs) c).filter keep).map (deedAt (rs ++ [r])) = dk (z, rs) keep c := by
      refine List.map_congr_left fun k hk => ?_
      have hk : k < rs.length := holdL_lt (t := (z, rs)) k (List.mem_filter.mp hk).1
      show deedAt (rs ++ [r]) k = deedAt rs k
      unfold deedAt
      rw [List.getElem?_append_left hk]
    show ((holdL (z, rs ++ [r]) c).filter keep).map (deedAt (rs ++ [r])) = _
    rw [e1, filtI_snoc, List.filter_append, List.map_append, e2, ih]
    unfold deedsL
    rw [List.filter_append, List.map_append]
    congr 1
    cases h1 : holdsB r.1 c <;> cases h2 : keep rs.length <;> simp [h1, h2, deedAt]
def nb (keep : Nat → Bool) (k : Nat) : Nat → Bool := fun j => keep j && !decide (j = k)
theorem filtI_drop {α : Type} (xs : List α) {keep : Nat → Bool} {k : Nat} (hk : k < xs.length) (h : ∀ j, j ≤ k → keep j = true) : k < (filtI xs keep).length ∧ (filtI xs keep).take k ++ (filtI xs keep).drop (k + 1) = filtI xs (nb keep k) := by
  induction xs using snoc_ind with
  | h0 => simp at hk
  | h1 xs x ih =>
    rw [filtI_snoc, filtI_snoc]
    by_cases hl : k < xs.length
    · obtain ⟨i1, i2⟩ := ih hl
      refine ⟨by rw [List.length_append]; omega, ?_⟩
      rw [List.take_append_of_le_length (by omega), List.drop_append_of_le_length (by omega), ← List.append_assoc, i2]
      have : nb keep k xs.length = keep xs.length := by
        have hne : ¬ xs.length = k := by omega
        simp [nb, hne]
      rw [this]
    · have hkx : k = xs.length := by simp at hk; omega
      subst hkx
      have e : filtI xs keep = xs := filtI_all xs fun j hj => h j (by omega)
      have e2 : filtI xs (nb keep xs.length) = xs := filtI_all xs fun j hj => by
        have hne : ¬ j = xs.length := by omega
        simp [nb, h j (by omega), hne]
      rw [e, e2, h xs.length (by omega)]
      simp [nb]
theorem filtI_wt {t : Table} (h : WT t) (keep : Nat → Bool) : WT (t.1, filtI t.2 keep) := by
  obtain ⟨hs, h40, hw⟩ := h
  have sub := filtI_sub t.2 keep
  exact ⟨hs, Nat.le_trans sub.length_le h40, fun r hr => hw r (sub.subset hr)⟩
/-! the program's side -/
theorem decide_nat (a b : Nat) : decide ((a : Int) = (b : Int)) = decide (a = b) := by
  by_cases h : a = b
  · subst h; simp
  · have : ¬ (a : Int) = (b : Int) := by omega
    simp [h, this]
theorem all_but_ok (l : List Nat) (k : Nat) : fn_all_but [.list (eNs l), .int k] = some (.list (eNs (l.filter fun j => !decide (j = k)))) := by
  simp [fn_all_but, runP_ap, b_all_but, eNs]
  rw [comp_map (p := fun j => !decide (j = k)) (q := eN)]
  · simp
  · intro j hj
    simp [eN, decide_nat]
/-- whether a rule may be left out -/
def idleB (t : Table) (w : Str) (keep : Nat → Bool) (k : Nat) : Bool := decide (∀ c ∈ casesL t.1, kK w (dk t keep c) = kK w (dk t (nb keep k) c))
def rowsD (t : Table) (keep : Nat → Bool) : D := .list ((casesL t.1).map fun c => .list (eNs ((holdL t c).filter keep)))
theorem is_idle_ok {t : Table} {w : Str} (hw : WWay w) (keep : Nat → Bool) (k : Nat) : fn_is_idle [eT t, .str w, rowsD t keep, .int k] = some (.bool (idleB t w keep k)) := by
  simp [fn_is_idle, runP_ap, b_is_idle, rowsD]
  rw [comp_map (p := fun c => !decide (kK w (dk t keep c) = kK w (dk t (nb keep k) c))) (q := fun c => .list (eNs ((holdL t c).filter keep)))]
  · simp [idleB]
    rw [Bool.eq_iff_iff]
    simp
  · intro c hc
    have h1 : ∀ l : List Nat, (∀ x ∈ l, x ∈ holdL t c) → ∀ x ∈ l, x < t.2.length := fun l hl x hx => holdL_lt x (hl x hx)
    have e2 : ((holdL t c).filter keep).filter (fun j => !decide (j = k)) = (holdL t c).filter (nb keep k) := by
      rw [List.filter_filter]
      refine List.filter_congr fun j _ => ?_
      unfold nb
      rw [Bool.and_comm]
    have a1 := kindof_ok (t := t) hw (l := (holdL t c).filter keep) (h1 _ fun x hx => (List.mem_filter.mp hx).1)
    have a2 := kindof_ok (t := t) hw (l := (holdL t c).filter (nb keep k)) (h1 _ fun x hx => (List.mem_filter.mp hx).1)
    simp [a1, all_but_ok, e2, a2, kindM_K hw]
    rfl
theorem rows_ok {t : Table} {ρ : DL.Env} {s : DL.Row} {i j : Nat} (hj : j ≠ i) (hi : i < ρ.length) (hjl : j < ρ.length) :
    compL (hTup (hCons (hName j) (hCons (hName i) hNil))) bYes (eVar i) ρ ((casesL t.1).map fun c => .tuple [eIs c, .list (eNs (holdL t c))]) s = some ((casesL t.1).map fun c => .list (eNs (holdL t c)), s) := by
  rw [comp_map' (q := fun c => .list (eNs (holdL t c)))]
  intro c hc
  refine ⟨(ρ.set j (.imm (eIs c))).set i (.imm (.list (eNs (holdL t c)))), rfl, ?_⟩
  simp [hi]
theorem filter_yes {α : Type} (l : List α) : (l.filter fun _ => true) = l := List.filter_eq_self.mpr fun _ _ => rfl
theorem rowsD_all (t : Table) : rowsD t (fun _ => true) = .list ((casesL t.1).map fun c => .list (eNs (holdL t c))) := by simp [rowsD, filter_yes]
theorem idle_ok {t : Table} {w : Str} (h : WT t) (hw : WWay w) : fn_idle [eT t, .str w] = some (eNs ((List.range t.2.length).filter (idleB t w fun _ => true))) := by
  have h40 := h.2.1
  have e := rowsD_all t
  simp [fn_idle, runPL_ap, b_idle, need_table_ok h, need_way_ok hw, allheld_ok h]
  rw [rows_ok (by decide) (by simp) (by simp)]
  simp
  rw [← e, rng1_n (by omega)]
  simp
  rw [comp_map (p := idleB t w fun _ => true) (q := eN)]
  · simp [eNs]
  · intro k hk
    simp [is_idle_ok hw, eN]
/-- a fold, each turn's place known -/
theorem for_foldA {α β : Type} {h : SG} {body : SS} {enc : α → D} {xs : List α} {ρ : DL.Env} {s : DL.Row} {Φ : Out → Prop} (I : Nat → β → DL.Env → DL.Row → Prop) (g : β → α → β) (b : β) (h0 : I 0 b ρ s)
    (step : ∀ (i : Nat) (x : α) (b : β) ρ s, xs[i]? = some x → I i b ρ s → Rs (h (enc x) ρ) fun ρ1 => Rs (body ρ1 s) fun o => ∃ ρ2 s2, (o = .nx ρ2 s2 ∨ o = .ct ρ2 s2) ∧ I (i + 1) (g b x) ρ2 s2)
    (hd : ∀ ρ' s', I xs.length (xs.foldl g b) ρ' s' → Φ (.nx ρ' s')) : Rs (forL h body (xs.map enc) ρ s) Φ := by
  refine for_rs (fun i ρ s => I i ((xs.take i).foldl g b) ρ s) (by simpa using h0) (fun i x ρ s hx hI => ?_) (fun ρ' s' hI => hd ρ' s' (by simpa using hI))
  refine (step i x _ ρ s hx hI).mono fun ρ1 h1 => h1.mono fun o h2 => ?_
  obtain ⟨ρ2, s2, ho, h3⟩ := h2
  refine ⟨ρ2, s2, ho, ?_⟩
  have hi := (List.getElem?_eq_some_iff.mp hx).1
  have e : xs.take (i + 1) = xs.take i ++ [x] := by rw [List.take_add_one, hx]; rfl
  rw [e, List.foldl_append]
  exact h3
/-! lean -/
def leanS (t : Table) (w : Str) (keep : Nat → Bool) (k : Nat) : Nat → Bool := if idleB t w keep k then nb keep k else keep
def leanK (t : Table) (w : Str) : Nat → Bool := (List.range t.2.length).reverse.foldl (leanS t w) fun _ => true
theorem erase_keep (n : Nat) (keep : Nat → Bool) {k : Nat} (hk : k < n) (h : keep k = true) : (k : Int) ∈ ((List.range n).filter keep).map (fun (j : Nat) => (j : Int)) ∧
    (((List.range n).filter keep).map (fun (j : Nat) => (j : Int))).erase (k : Int) = ((List.range n).filter (nb keep k)).map (fun (j : Nat) => (j : Int)) := by
  refine ⟨List.mem_map.mpr ⟨k, List.mem_filter.mpr ⟨List.mem_range.mpr hk, h⟩, rfl⟩, ?_⟩
  have nd : (((List.range n).filter keep).map (fun (j : Nat) => (j : Int))).Nodup := by
    have h1 : ((List.range n).filter keep).Nodup := List.nodup_range.sublist List.filter_sublist
    exact List.Pairwise.map _ (fun a b hab e => hab (by omega)) h1
  rw [nd.erase_eq_filter, List.filter_map]
  congr 1
  rw [List.filter_filter]
  refine List.filter_congr fun j _ => ?_
  unfold nb
  rw [Bool.and_comm]
  congr 1
  by_cases e : j = k
  · subst e; simp
  · have : ¬ (j : Int) = (k : Int) := by omega
    simp [e, this]
theorem intsD_eN (l : List Nat) : intsD (l.map eN) = some (l.map fun (j : Nat) => (j : Int)) := by
  induction l with
  | nil => rfl
  | cons x l ih =>
    show (intsD (l.map eN)).bind _ = _
    rw [ih]; rfl
theorem map_int_nat (l : List Nat) : (l.map fun (j : Nat) => (j : Int)).map PyData.int = l.map eN := by
  rw [List.map_map]; rfl
theorem filtI_get {t : Table} {keep : Nat → Bool} : ((List.range t.2.length).filter keep).map (fun k => (t.2[k]?).elim PyData.none eR) = (filtI t.2 keep).map eR := by
  have key : ∀ l : List Nat, (∀ k ∈ l, k < t.2.length) → l.map (fun k => (t.2[k]?).elim PyData.none eR) = (l.filterMap (t.2[·]?)).map eR := fun l => by
    induction l with
    | nil => intro _; rfl
    | cons k l ih =>
      intro h
      have hk := h k (by simp)
      have g : t.2[k]? = some t.2[k] := List.getElem?_eq_getElem hk
      rw [List.map_cons, List.filterMap_cons, g, ih fun j hj => h j (by simp [hj])]
      rfl
  exact key _ fun k hk => List.mem_range.mp (List.mem_filter.mp hk).1
/-- later numbers alone are left out -/
theorem leanS_keep {t : Table} {w : Str} {keep : Nat → Bool} {k j : Nat} (hj : j < k) (h : keep j = true) : leanS t w keep k j = true := by
  unfold leanS
  split
  · have : ¬ j = k := by omega
    simp [nb, h, this]
  · exact h
theorem lean_ok {t : Table} {w : Str} (h : WT t) (hw : WWay w) : fn_lean [eT t, .str w] = some (eT (t.1, filtI t.2 (leanK t w))) := by
  have h40 := h.2.1
  rw [← Rs_eq]
  simp [fn_lean, runP_ap, b_lean, need_table_ok h, need_way_ok hw, allheld_ok h]
  rw [rows_ok (by decide) (by simp) (by simp)]
  simp
  rw [← rowsD_all, rng1_n (by omega)]
  simp
  rw [← List.map_reverse]
  have e0 : (List.range t.2.length).map (fun (i : Nat) => PyData.int (i : Int)) = ((List.range t.2.length).filter fun _ => true).map eN := by rw [filter_yes]; rfl
  refine for_foldA (α := Nat) (β := Nat → Bool) (enc := eN) (fun i keep ρ s => s = [] ∧ (∀ j, j + i < t.2.length → keep j = true) ∧ ∃ x4 x5 x6, ρ = [Sl.imm (eT t), Sl.imm (.str w), Sl.imm (rowsD t keep), Sl.own (((List.range t.2.length).filter keep).map eN), x4, x5, x6]) (leanS t w) (fun _ => true) ⟨rfl, fun _ _ => rfl, Sl.dead, Sl.dead, Sl.dead, by rw [← e0]⟩ (fun i k keep ρ s hk hI => ?_) (fun ρ s hI => ?_)
  · obtain ⟨rfl, hkeep, x4, x5, x6, rfl⟩ := hI
    have hi : i < t.2.length := by
      have := (List.getElem?_eq_some_iff.mp hk).1
      simpa using this
    have hkk : k = t.2.length - 1 - i := by
      rw [List.getElem?_reverse (by simpa using hi)] at hk
      have := at_range hk
      simpa using this.2
    have hkl : k < t.2.length := by omega
    have hkt : keep k = true := hkeep k (by omega)
    simp [eN, is_idle_ok hw]
    cases hb : idleB t w keep k with
    | false =>
      simp [leanS, hb]
      exact ⟨_, _, ⟨rfl, rfl⟩, rfl, fun j hj => hkeep j (by omega), _, _, _, rfl⟩
    | true =>
      simp [rowsD, leanS, hb]
      rw [comp_map' (q := fun c => .list (eNs ((holdL t c).filter (nb keep k))))]
      · simp
        obtain ⟨m1, m2⟩ := erase_keep t.2.length keep hkl hkt
        rw [intsD_eN]
        simp only [Rs_some]
        rw [if_pos m1, m2, map_int_nat]
        simp
        refine ⟨_, _, ⟨rfl, rfl⟩, rfl, fun j hj => by
          have : ¬ j = k := by omega
          simp [nb, hkeep j (by omega), this], _, _, _, rfl⟩
      · intro c hc
        have e2 : ((holdL t c).filter keep).filter (fun j => !decide (j = k)) = (holdL t c).filter (nb keep k) := by
          rw [List.filter_filter]
          refine List.filter_congr fun j _ => ?_
          unfold nb
          rw [Bool.and_comm]
        simp [all_but_ok, e2]
  · obtain ⟨rfl, hkeep, x4, x5, x6, rfl⟩ := hI
    rw [show List.foldl (leanS t w) (fun _ => true) (List.range t.2.length).reverse = leanK t w from rfl]
    simp
    rw [comp_map' (q := fun k => (t.2[k]?).elim PyData.none eR)]
    · have e1 := filtI_get (t := t) (keep := leanK t w)
      simp [e1, eT, eRs]
    · intro k hk
      have hk : k < t.2.length := List.mem_range.mp (List.mem_filter.mp hk).1
      have g : t.2[k]? = some t.2[k] := List.getElem?_eq_getElem hk
      simp [eN, eRs, g]
/-! decides -/
theorem ixN_at {n j : Nat} (hj : j < n) : L2.ixN n (j : Int) = some j := by
  unfold L2.ixN
  rw [if_pos (by omega), if_pos (by omega)]
  simp
def Kd.isDeed : Kd → Bool | .deed _ => true | _ => false
def inc (h : Nat → Nat) (k : Nat) : Nat → Nat := fun j => if j = k then h j + 1 else h j
def stepF (t : Table) (w : Str) (f : Nat → Nat) (c : List Int) : Nat → Nat := match holdL t c with
  | [] => f
  | a :: _ => if (kK w ((holdL t c).map (deedAt t.2))).isDeed then inc f a else f
def stepHF (t : Table) (w : Str) (p : (Nat → Nat) × (Nat → Nat)) (c : List Int) : (Nat → Nat) × (Nat → Nat) := ((holdL t c).foldl inc p.1, stepF t w p.2 c)
/-- in how many cases each rule holds, and decides -/
def countsM (t : Table) (w : Str) : (Nat → Nat) × (Nat → Nat) := (casesL t.1).foldl (stepHF t w) (fun _ => 0, fun _ => 0)
theorem range_set {α : Type} (n j : Nat) (g : Nat → α) (v : α) : ((List.range n).map g).set j v = (List.range n).map fun k => if k = j then v else g k := by
  apply List.ext_getElem?
  intro i
  by_cases h : j = i
  · subst h
    by_cases hj : j < n
    · rw [List.getElem?_set_self (by simpa using hj)]
      simp [hj]
    · rw [List.getElem?_eq_none (by simp; omega), List.getElem?_eq_none (by simp; omega)]
  · rw [List.getElem?_set_ne h]
    rw [List.getElem?_map, List.getElem?_map]
    by_cases hi : i < n
    · have : ¬ i = j := fun e => h e.symm
      simp [hi, this]
    · rw [List.getElem?_eq_none (by simp; omega)]; rfl
def eF (n : Nat) (h : Nat → Nat) : List D := (List.range n).map fun k => eN (h k)
theorem eF_len {n : Nat} {h : Nat → Nat} : (eF n h).length = n := by simp [eF]
theorem eF_get {n j : Nat} {h : Nat → Nat} (hj : j < n) : (eF n h)[j]? = some (eN (h j)) := by simp [eF, hj]
theorem eF_set {n j : Nat} {h : Nat → Nat} : (eF n h).set j (.int ((h j : Int) + 1)) = eF n (inc h j) := by
  unfold eF
  rw [range_set]
  refine List.map_congr_left fun k _ => ?_
  unfold inc
  by_cases e : k = j
  · subst e; simp [eN]
  · simp [e]
theorem eF_0 (n : Nat) : List.replicate n (PyData.int 0) = eF n fun _ => 0 := by
  unfold eF
  apply List.ext_getElem?
  intro i
  by_cases hi : i < n
  · simp [hi, eN]
  · rw [List.getElem?_eq_none (by simp; omega), List.getElem?_eq_none (by simp; omega)]
theorem eF_at {n j : Nat} {h : Nat → Nat} (hj : j < n) : L2.atI (eF n h) (j : Int) = some (eN (h j)) := atI_n (eF_get hj)
/-- what stands first in what is told -/
def wordK : Kd → Str | .gap => "gap" | .clash => "clash" | .deed _ => "deed"
def restK : Kd → List D | .deed d => [eO d] | _ => []
theorem encK_word (a : Kd) : encK a = .tuple (.str (wordK a) :: restK a) := by cases a <;> rfl
theorem word_deed (a : Kd) : decide (wordK a = "deed") = a.isDeed := by
  cases a with
  | gap => decide +kernel
  | clash => decide +kernel
  | deed d => exact decide_eq_true rfl
theorem zip_eF (n : Nat) (h f : Nat → Nat) : zip2L (eF n h) (eF n f) = (List.range n).map fun k => .tuple [eN (h k), eN (f k)] := zip2L_map _ _ _
theorem decides_ok {t : Table} {w : Str} (h : WT t) (hw : WWay w) : fn_decides [eT t, .str w] = some ((List.range t.2.length).map fun k => .tuple [eN ((countsM t w).1 k), eN ((countsM t w).2 k)]) := by
  have h40 := h.2.1
  rw [← Rs_eq]
  simp [fn_decides, runPL_ap, b_decides, need_table_ok h, need_way_ok hw, allheld_ok h, eRs]
  rw [repD_n (by omega)]
  simp
  rw [eF_0]
  refine for_foldA (α := List Int) (β := (Nat → Nat) × (Nat → Nat)) (enc := fun c => .tuple [eIs c, .list (eNs (holdL t c))]) (fun i p ρ s => s = [] ∧ ∃ x4 x5 x6, ρ = [Sl.imm (eT t), Sl.imm (.str w), Sl.own (eF t.2.length p.1), Sl.own (eF t.2.length p.2), x4, x5, x6]) (stepHF t w) (fun _ => 0, fun _ => 0) ⟨rfl, _, _, _, rfl⟩ (fun i c p ρ s hk hI => ?_) (fun ρ s hI => ?_)
  · obtain ⟨rfl, x4, x5, x6, rfl⟩ := hI
    have hlt : ∀ k ∈ holdL t c, k < t.2.length := fun k hk => holdL_lt k hk
    simp [eNs]
    refine for_foldA (α := Nat) (β := Nat → Nat) (enc := eN) (fun i g ρ s => s = [] ∧ ∃ x6, ρ = [Sl.imm (eT t), Sl.imm (.str w), Sl.own (eF t.2.length g), Sl.own (eF t.2.length p.2), Sl.imm (eIs c), Sl.imm (.list ((holdL t c).map eN)), x6]) inc p.1 ⟨rfl, _, rfl⟩ (fun j k g ρ s hk hI => ?_) (fun ρ s hI => ?_)
    · obtain ⟨rfl, x6, rfl⟩ := hI
      have hkl := hlt k (List.mem_of_getElem? hk)
      simp [eN, eF_at hkl, eF_len, ixN_at hkl]
      exact ⟨_, _, ⟨rfl, rfl⟩, rfl, .imm (eN k), by rw [eF_set]; rfl⟩
    · obtain ⟨rfl, x6, rfl⟩ := hI
      have kk := kindof_ok (t := t) hw (l := holdL t c) hlt
      simp only [eNs] at kk
      simp [kk, kindM_K hw, encK_word]
      have hd := word_deed (kK w (List.map (deedAt t.2) (holdL t c)))
      cases hh : holdL t c with
      | nil =>
        rw [if_neg (by simp [kK, wordK]; decide +kernel)]
        simp
        refine ⟨_, _, ⟨rfl, rfl⟩, rfl, .imm (eIs c), .imm (.list []), x6, ?_⟩
        simp only [stepHF, stepF, hh, List.foldl_nil]
      | cons a r =>
        rw [hh] at hd
        have hal := hlt a (by rw [hh]; simp)
        by_cases hq : wordK (kK w (List.map (deedAt t.2) (a :: r))) = "deed"
        · rw [if_pos hq]
          have hdd : (kK w (List.map (deedAt t.2) (a :: r))).isDeed = true := by rw [← hd]; simpa using hq
          simp [eN, eF_at hal, eF_len, ixN_at hal]
          refine ⟨_, _, ⟨rfl, rfl⟩, rfl, .imm (eIs c), .imm (.list (List.map eN (a :: r))), x6, ?_⟩
          rw [eF_set]
          simp only [stepHF, stepF, hh, hdd, if_true]
          rfl
        · rw [if_neg hq]
          have hdd : (kK w (List.map (deedAt t.2) (a :: r))).isDeed = false := by rw [← hd]; simpa using hq
          simp
          refine ⟨_, _, ⟨rfl, rfl⟩, rfl, .imm (eIs c), .imm (.list (List.map eN (a :: r))), x6, ?_⟩
          simp only [stepHF, stepF, hh, hdd, Bool.false_eq_true, if_false]
          rfl
  · obtain ⟨rfl, x4, x5, x6, rfl⟩ := hI
    simp [eF_len, zip_eF, countsM]
end PC

set_option maxHeartbeats 1000000
/-! What the program's defs and the law's reckon, as functions of data. -/
namespace PC
open PySem DL
def b_law15 : SS := (sSeq (sSetL 1 (lLst (aCons (eVar 0) (aCons (eC (.int 0)) (aCons (eC (.int 0)) (aCons (eC (.int 0)) aNil))))))
  (sMkRow 1 (sSeq (sFor (i1Rng (eC (.int 2))) (hName 2) (sSeq (sSet 3 (eIf (bVal (eOp eqD (eCallR 1 2 fn__law_taken (aCons (eC (.int 5)) aNil)) (eC (.int 4)))) (eCallR 1 1 fn__law_many aNil) (eCallR 1 2 fn__law_table (aCons (eC (.int 14)) aNil))))
  (sSeq (sSet 4 (eCallR 1 1 fn__law_way aNil))
  (sSeq (sPar 9 10 (eCall 2 fn_lean (aCons (eVar 3) (aCons (eVar 4) aNil))) (eL (lCall 2 fn_idle (aCons (eVar 3) (aCons (eVar 4) aNil)))))
  (sSeq (sIf (bOr (bVal (eOp notND (eCall 3 fn_parted (aCons (eVar 3) (aCons (eVar 9) (aCons (eVar 4) aNil)))) (eC .none))) (bOr (bVal (eOp neD (eL (lCall 2 fn_idle (aCons (eVar 9) (aCons (eVar 4) aNil)))) (eL (lLst aNil)))) (bVal (eOp neD (eOp eqD (eVar 10) (eL (lLst aNil))) (eOp eqD (eVar 9) (eVar 3)))))) (sRet (eC (.bool false))) sNext)
  (sSeq (sSet 5 (eC (.int 0)))
  (sSeq (sFor (rE (eIx (rVar 3) (eC (.int 1)))) (hName 6) (sSet 5 (eOp addD (eVar 5) (eUn intD (eAnd (eOp ltD (eVar 5) (eLen (rE (eIx (rVar 9) (eC (.int 1)))))) (eOp eqD (eIx (rE (eIx (rVar 9) (eC (.int 1)))) (eVar 5)) (eVar 6)))))))
  (sSeq (sIf (bOr (bVal (eOp neD (eVar 5) (eLen (rE (eIx (rVar 9) (eC (.int 1))))))) (bVal (eOp neD (eIx (rVar 9) (eC (.int 0))) (eIx (rVar 3) (eC (.int 0)))))) (sRet (eC (.bool false))) sNext)
  (sSeq (sFor (i1Rng (eLen (rE (eIx (rVar 3) (eC (.int 1)))))) (hName 7) (sIf (bVal (eOp neD (eOp eqD (eCall 4 fn_reach (aCons (eVar 3) (aCons (eVar 4) (aCons (eVar 7) (aCons (eC .none) aNil))))) (eTup (aCons (eC (.int 0)) (aCons (eC .none) aNil)))) (eOp inD (eVar 7) (eVar 10)))) (sRet (eC (.bool false))) sNext))
  (sSeq (sSet 8 (eL (lCall 2 fn_decides (aCons (eVar 3) (aCons (eC (.str "first")) aNil)))))
  (sIf (bVal (eOp neD (eL (lComp (i1Rng (eLen (rVar 8))) (hName 11) (bAnd (bVal (eOp eqD (eIx (rE (eIx (rVar 8) (eVar 11))) (eC (.int 1))) (eC (.int 0)))) (bVal (eOp ninD (eVar 11) (eL (lCall 2 fn_idle (aCons (eVar 3) (aCons (eC (.str "first")) aNil))))))) (eVar 11) [11])) (eL (lLst aNil)))) (sRet (eC (.bool false))) sNext)))))))))))
  (sRet (eC (.bool true))))))
def fn_law15 : List D → Option D := runP 12 b_law15
end PC

set_option maxHeartbeats 2000000
/-! Tables compared; what lean leaves; what decides counts. -/
namespace PC
open PySem DL
theorem compT_map {α : Type} {h : SG} {fe : ST} {ρ : DL.Env} {s : DL.Row} (xs : List α) (enc : α → D) (q : α → OT) (H : ∀ x, x ∈ xs → ∃ ρ1, h (enc x) ρ = some ρ1 ∧ fe ρ1 s = some (q x, s)) :
    compT h fe ρ (xs.map enc) s = some (xs.map q, s) := by
  induction xs with
  | nil => rfl
  | cons x xs ih =>
    obtain ⟨ρ1, e1, e2⟩ := H x (by simp)
    show (h (enc x) ρ).bind _ = _
    rw [e1, Option.bind_some, e2, Option.bind_some, ih fun y hy => H y (by simp [hy])]
    rfl
theorem yes_K (t : Table) (c : List Int) : (holdL t c).map (deedAt t.2) = dk t (fun _ => true) c := by unfold dk; rw [filter_yes]
theorem kind_filt {t : Table} {w : Str} (hw : WWay w) (keep : Nat → Bool) (c : List Int) : kindD (t.1, filtI t.2 keep) w c = encK (kK w (dk t keep c)) := by
  rw [kindD_K hw, yes_K, dk_deeds, filtI_all _ (fun _ _ => rfl), ← dk_deeds t.2 t.1]
theorem kind_yes {t : Table} {w : Str} (hw : WWay w) (c : List Int) : kindD t w c = encK (kK w (dk t (fun _ => true) c)) := by rw [kindD_K hw, yes_K]
theorem lawkinds_filt {t : Table} {w : Str} (h : WT t) (hw : WWay w) (keep : Nat → Bool) : fn__law_kinds [eT (t.1, filtI t.2 keep), .str w] = some (.list ((casesL t.1).map fun c => encK (kK w (dk t keep c)))) := by
  rw [lawkinds_ok (filtI_wt h keep) hw]
  congr 2
  exact List.map_congr_left fun c _ => kind_filt hw keep c
theorem lawkinds_yes {t : Table} {w : Str} (h : WT t) (hw : WWay w) : fn__law_kinds [eT t, .str w] = some (.list ((casesL t.1).map fun c => encK (kK w (dk t (fun _ => true) c)))) := by
  rw [lawkinds_ok h hw]
  congr 2
  exact List.map_congr_left fun c _ => kind_yes hw c
theorem without_filt {t : Table} (h : WT t) {keep : Nat → Bool} {k : Nat} (hk : k < t.2.length) (hkeep : ∀ j, j ≤ k → keep j = true) : fn_without [eT (t.1, filtI t.2 keep), .int k] = some (eT (t.1, filtI t.2 (nb keep k))) := by
  obtain ⟨h1, h2⟩ := filtI_drop t.2 hk hkeep
  have := without_ok (t := (t.1, filtI t.2 keep)) (k := k) h1 (filtI_wt h keep).2.1
  rw [this]
  show some (eT (t.1, (filtI t.2 keep).take k ++ (filtI t.2 keep).drop (k + 1))) = _
  rw [h2]
theorem without_yes {t : Table} (h : WT t) {k : Nat} (hk : k < t.2.length) : fn_without [eT t, .int k] = some (eT (t.1, filtI t.2 (nb (fun _ => true) k))) := by
  have := without_filt h (keep := fun _ => true) hk fun _ _ => rfl
  rwa [filtI_all _ (fun _ _ => rfl)] at this
theorem lv_eI {n : Nat} (i : Int) : Lv n (eI i) := Lv.int i
theorem lv_eO {n : Nat} (d : Option Int) : Lv n (eO d) := by cases d with | none => exact Lv.non | some i => exact Lv.int i
theorem lv_eW {n : Nat} {w : Want} (h : ∀ l, w = some l → l.length ≤ 1000000) : Lv (n + 1) (eW w) := by
  cases w with
  | none => exact Lv.non
  | some l => exact Lv.tup (by simpa using h l rfl) fun x hx => by obtain ⟨v, _, rfl⟩ := List.mem_map.mp hx; exact Lv.int v
theorem lv_eT {n : Nat} {t : Table} (h : WT t) : Lv (n + 5) (eT t) := by
  obtain ⟨hs, h40, hr⟩ := h
  have h5 := hs.2.1
  refine Lv.tup (by simp) fun x hx => ?_
  simp at hx
  rcases hx with rfl | rfl
  · exact Lv.tup (by rw [List.length_map]; omega) fun x hx => by obtain ⟨v, _, rfl⟩ := List.mem_map.mp hx; exact Lv.int v
  · refine Lv.tup (by rw [List.length_map]; omega) fun x hx => ?_
    obtain ⟨r, hrm, rfl⟩ := List.mem_map.mp hx
    have hw := hr r hrm
    refine Lv.tup (by simp) fun y hy => ?_
    simp at hy
    rcases hy with rfl | rfl
    · refine Lv.tup (by rw [List.length_map, ← hw.1.length]; omega) fun z hz => ?_
      obtain ⟨w, hwm, rfl⟩ := List.mem_map.mp hz
      refine lv_eW fun l e => ?_
      obtain ⟨i, hi, e2⟩ := List.getElem_of_mem hwm
      have hi2 : i < t.1.length := by rw [hw.1.length]; exact hi
      have := hw.1.get (List.getElem?_eq_getElem hi2) (List.getElem?_eq_getElem hi)
      rw [e2, e] at this
      have := this.len (hs.2.2 _ (List.getElem_mem hi2)).2
      omega
    · exact lv_eO _
theorem eqvAll_enc {α : Type} [DecidableEq α] (enc : α → D) (h : ∀ x y, PyData.eqv (enc x) (enc y) = decide (x = y)) : ∀ xs ys : List α, PyData.eqvAll (xs.map enc) (ys.map enc) = decide (xs = ys)
  | [], [] => by simp [PyData.eqvAll]
  | [], _ :: _ => by simp [PyData.eqvAll]
  | _ :: _, [] => by simp [PyData.eqvAll]
  | x :: xs, y :: ys => by
    simp only [List.map_cons, PyData.eqvAll, eqvAll_enc enc h xs ys, h]
    simp
theorem depthAll_enc {α : Type} (enc : α → D) {n : Nat} (h : ∀ x, (enc x).depth ≤ n) : ∀ xs : List α, PyData.depthAll (xs.map enc) ≤ n
  | [] => by simp [PyData.depthAll]
  | x :: xs => by
    have h1 := depthAll_enc enc h xs
    have h2 := h x
    simp only [List.map_cons, PyData.depthAll]
    omega
theorem eqv_eW (a b : Want) : PyData.eqv (eW a) (eW b) = decide (a = b) := by
  cases a with
  | none => cases b <;> simp [eW, PyData.eqv]
  | some a =>
    cases b with
    | none => simp [eW, PyData.eqv]
    | some b =>
      have := eqvAll_ints a b
      simp [eW, PyData.eqv, this]
theorem eqv_eWs (a b : List Want) : PyData.eqv (eWs a) (eWs b) = decide (a = b) := by
  show PyData.eqv (.tuple _) (.tuple _) = _
  rw [PyData.eqv, eqvAll_enc eW eqv_eW]
theorem eqv_eR (a b : Rule) : PyData.eqv (eR a) (eR b) = decide (a = b) := by
  obtain ⟨a1, a2⟩ := a
  obtain ⟨b1, b2⟩ := b
  show PyData.eqv (.tuple [eWs a1, eO a2]) (.tuple [eWs b1, eO b2]) = _
  simp only [PyData.eqv, PyData.eqvAll, eqv_eWs, eqv_eO]
  simp
theorem eqv_eRs (a b : List Rule) : PyData.eqv (eRs a) (eRs b) = decide (a = b) := by
  show PyData.eqv (.tuple _) (.tuple _) = _
  rw [PyData.eqv, eqvAll_enc eR eqv_eR]
theorem eqv_eT (a b : Table) : PyData.eqv (eT a) (eT b) = decide (a = b) := by
  obtain ⟨a1, a2⟩ := a
  obtain ⟨b1, b2⟩ := b
  show PyData.eqv (.tuple [eIs a1, eRs a2]) (.tuple [eIs b1, eRs b2]) = _
  simp only [PyData.eqv, PyData.eqvAll, eqv_eRs, eqv_ints]
  simp
theorem depth_eI (i : Int) : (eI i).depth ≤ 1 := by simp [eI, PyData.depth]
theorem depth_eO (o : Option Int) : (eO o).depth ≤ 1 := by cases o <;> simp [eO, PyData.depth]
theorem depth_eW (a : Want) : (eW a).depth ≤ 2 := by
  cases a with
  | none => simp [eW, PyData.depth]
  | some a =>
    have := depthAll_enc eI depth_eI a
    simp only [eW, PyData.depth]; omega
theorem depth_eWs (a : List Want) : (eWs a).depth ≤ 3 := by
  have := depthAll_enc eW depth_eW a
  show PyData.depth (.tuple _) ≤ 3
  simp only [PyData.depth]; omega
theorem depth_eR (a : Rule) : (eR a).depth ≤ 4 := by
  have h1 := depth_eWs a.1
  have h2 := depth_eO a.2
  show PyData.depth (.tuple _) ≤ 4
  simp only [PyData.depth, PyData.depthAll]; omega
theorem depth_eRs (a : List Rule) : (eRs a).depth ≤ 5 := by
  have := depthAll_enc eR depth_eR a
  show PyData.depth (.tuple _) ≤ 5
  simp only [PyData.depth]; omega
theorem depth_eT (a : Table) : (eT a).depth ≤ 6 := by
  have h1 := depth_ints a.1
  have h2 := depth_eRs a.2
  show PyData.depth (.tuple _) ≤ 6
  simp only [PyData.depth, PyData.depthAll]; omega
@[simp] theorem eqD_eR (a b : Rule) : eqD (eR a) (eR b) = some (.bool (decide (a = b))) := by rw [eqD_ap (by have := depth_eR b; unfold flatE; omega), eqv_eR]
@[simp] theorem neD_eR (a b : Rule) : neD (eR a) (eR b) = some (.bool (!decide (a = b))) := by rw [neD_ap (by have := depth_eR b; unfold flatE; omega), eqv_eR]
@[simp] theorem eqD_eRs (a b : List Rule) : eqD (eRs a) (eRs b) = some (.bool (decide (a = b))) := by rw [eqD_ap (by have := depth_eRs b; unfold flatE; omega), eqv_eRs]
@[simp] theorem neD_eRs (a b : List Rule) : neD (eRs a) (eRs b) = some (.bool (!decide (a = b))) := by rw [neD_ap (by have := depth_eRs b; unfold flatE; omega), eqv_eRs]
@[simp] theorem eqD_eT (a b : Table) : eqD (eT a) (eT b) = some (.bool (decide (a = b))) := by rw [eqD_ap (by have := depth_eT b; unfold flatE; omega), eqv_eT]
@[simp] theorem neD_eT (a b : Table) : neD (eT a) (eT b) = some (.bool (!decide (a = b))) := by rw [neD_ap (by have := depth_eT b; unfold flatE; omega), eqv_eT]
/-! what lean leaves -/
/-- the same is told of all cases -/
def SameK (t : Table) (w : Str) (S S' : Nat → Bool) : Prop := ∀ c ∈ casesL t.1, kK w (dk t S c) = kK w (dk t S' c)
theorem dk_congr {t : Table} {S S' : Nat → Bool} (h : ∀ j, j < t.2.length → S j = S' j) (c : List Int) : dk t S c = dk t S' c := by
  unfold dk
  rw [List.filter_congr fun j hj => h j (holdL_lt j hj)]
/-- numbers that rise -/
theorem holdL_rise (t : Table) (c : List Int) : (holdL t c).Pairwise (· < ·) := List.pairwise_lt_range.sublist List.filter_sublist
theorem filter_ne_mem {l : List Nat} {k : Nat} (h : k ∉ l) : (l.filter fun j => !decide (j = k)) = l := List.filter_eq_self.mpr fun j hj => by
  have : ¬ j = k := fun e => h (e ▸ hj)
  simp [this]
theorem nb_filter {l : List Nat} {S : Nat → Bool} {k : Nat} : l.filter (nb S k) = (l.filter S).filter fun j => !decide (j = k) := by
  rw [List.filter_filter]
  refine List.filter_congr fun j _ => ?_
  unfold nb
  rw [Bool.and_comm]
theorem kK_same {w : Str} (hw : w = "same") (l : List (Option Int)) : kK w l = match l with | [] => .gap | a :: r => if ∀ x ∈ r, x = a then .deed a else .clash := by
  subst hw
  cases l with
  | nil => rfl
  | cons a r => simp only [kK, if_neg str_ne6, if_neg str_ne5]
theorem kK_first (l : List (Option Int)) : kK "first" l = match l with | [] => .gap | a :: r => .deed a := by
  cases l with
  | nil => rfl
  | cons a r => simp only [kK, if_true]
theorem kK_one (l : List (Option Int)) : kK "one" l = match l with | [] => .gap | [a] => .deed a | _ => .clash := by
  cases l with
  | nil => rfl
  | cons a r => cases r <;> simp [kK, str_ne1]
/-- a rule that can't be left out can't be left out of less that tells the same -/
theorem not_idle {f : Nat → Option Int} {w : Str} (hw : WWay w) {l : List Nat} (hr : l.Pairwise (· < ·)) {S' : Nat → Bool} {k : Nat} (hk' : S' k = true) (hS : ∀ j, k < j → S' j = true ∨ j ∉ l)
    (hsame : kK w ((l.filter S').map f) = kK w (l.map f)) (h : kK w (l.map f) ≠ kK w ((l.filter fun j => !decide (j = k)).map f)) :
    kK w ((l.filter S').map f) ≠ kK w (((l.filter S').filter fun j => !decide (j = k)).map f) := by
  have hk : k ∈ l := Classical.byContradiction fun q => h (by rw [filter_ne_mem q])
  have nd : l.Nodup := hr.imp fun h e => by omega
  rcases hw with rfl | rfl | rfl
  · -- one
    have two : ∀ m : List Nat, 2 ≤ m.length → kK "one" (m.map f) = .clash := fun m hm => by
      rw [kK_one]
      match m, hm with
      | _ :: _ :: _, _ => rfl
    have cnt : (l.filter fun j => !decide (j = k)).length + 1 = l.length := by
      have e : (l.filter fun j => !decide (j = k)) = l.erase k := by
        rw [nd.erase_eq_filter]
        refine List.filter_congr fun j _ => ?_
        by_cases e : j = k <;> simp [e]
      rw [e, List.length_erase_of_mem hk]
      have := List.length_pos_of_mem hk
      omega
    by_cases h2 : 2 ≤ (l.filter fun j => !decide (j = k)).length
    · exact (h (by rw [two l (by omega), two _ h2])).elim
    · have hk2 : k ∈ l.filter S' := List.mem_filter.mpr ⟨hk, hk'⟩
      have hlen := List.length_filter_le S' l
      have hall : l.filter S' = l := by
        by_cases h1 : l.length = 1
        · have : (l.filter S').length = l.length := by
            have := List.length_pos_of_mem hk2
            omega
          exact (List.filter_sublist).eq_of_length this
        · have hl2 : l.length = 2 := by omega
          rw [two l (by omega)] at hsame
          have : 2 ≤ (l.filter S').length := by
            apply Classical.byContradiction
            intro q
            have hp := List.length_pos_of_mem hk2
            have h1 : (l.filter S').length = 1 := by omega
            obtain ⟨x, hx⟩ := List.length_eq_one_iff.mp h1
            rw [hx, kK_one] at hsame
            exact absurd hsame (by simp)
          exact (List.filter_sublist).eq_of_length (by omega)
      rw [hall]
      exact h
  · -- first
    cases l with
    | nil => cases hk
    | cons a r =>
      rw [kK_first, kK_first] at h
      by_cases e : a = k
      · subst e
        have hna : a ∉ r := (List.nodup_cons.mp nd).1
        have hgt : ∀ j ∈ r, a < j := fun j hj => (List.pairwise_cons.mp hr).1 j hj
        have e1 : (a :: r).filter S' = a :: r := by
          rw [List.filter_cons, if_pos hk', List.filter_eq_self.mpr fun j hj => (hS j (hgt j hj)).elim id fun q => (q (by simp [hj])).elim]
        rw [e1, kK_first, kK_first]
        exact h
      · have : ((a :: r).filter fun j => !decide (j = k)) = a :: (r.filter fun j => !decide (j = k)) := by
          rw [List.filter_cons]; simp [e]
        rw [this] at h
        exact (h rfl).elim
  · -- same
    have sm := fun l : List (Option Int) => kK_same rfl l
    -- all of one deed
    have deedOf : ∀ (m : List Nat) (d : Option Int), m ≠ [] → (∀ j ∈ m, f j = d) → kK "same" (m.map f) = .deed d := fun m d hm hd => by
      rw [sm]
      cases m with
      | nil => exact (hm rfl).elim
      | cons a r =>
        have ha := hd a (by simp)
        simp only [List.map_cons]
        rw [if_pos, ha]
        intro x hx
        obtain ⟨j, hj, rfl⟩ := List.mem_map.mp hx
        rw [hd j (by simp [hj]), ha]
    have clashOf : ∀ m : List Nat, (∃ i ∈ m, ∃ j ∈ m, f i ≠ f j) → kK "same" (m.map f) = .clash := fun m hm => by
      rw [sm]
      obtain ⟨i, hi, j, hj, hne⟩ := hm
      cases m with
      | nil => cases hi
      | cons a r =>
        simp only [List.map_cons]
        rw [if_neg]
        intro hall
        have at_ : ∀ x ∈ a :: r, f x = f a := fun x hx => by
          rcases List.mem_cons.mp hx with rfl | hx
          · rfl
          · exact hall _ (List.mem_map.mpr ⟨x, hx, rfl⟩)
        exact hne ((at_ i hi).trans (at_ j hj).symm)
    have hk2 : k ∈ l.filter S' := List.mem_filter.mpr ⟨hk, hk'⟩
    have memNe : ∀ {m : List Nat} {j : Nat}, j ∈ m.filter (fun j => !decide (j = k)) ↔ j ∈ m ∧ j ≠ k := fun {m j} => by simp [List.mem_filter]
    by_cases hc : ∃ i ∈ l, ∃ j ∈ l, f i ≠ f j
    · rw [clashOf l hc] at hsame h
      rw [hsame]
      -- what is left without k is of one deed
      have one : ∀ i ∈ l, i ≠ k → ∀ j ∈ l, j ≠ k → f i = f j := fun i hi hik j hj hjk => Classical.byContradiction fun q =>
        h (clashOf _ ⟨i, memNe.mpr ⟨hi, hik⟩, j, memNe.mpr ⟨hj, hjk⟩, q⟩).symm
      intro e
      by_cases hem : (l.filter S').filter (fun j => !decide (j = k)) = []
      · rw [hem] at e
        exact absurd e (by simp [kK])
      · obtain ⟨x, hx⟩ := List.exists_mem_of_ne_nil _ hem
        obtain ⟨hx1, hx2⟩ := memNe.mp hx
        have hxl := (List.mem_filter.mp hx1).1
        rw [deedOf _ (f x) hem fun j hj => by
          obtain ⟨h1, h2⟩ := memNe.mp hj
          exact one j (List.mem_filter.mp h1).1 h2 x hxl hx2] at e
        cases e
    · have hall : ∀ j ∈ l, f j = f k := fun j hj => Classical.byContradiction fun q => hc ⟨j, hj, k, hk, q⟩
      rw [deedOf l (f k) (List.ne_nil_of_mem hk) hall] at h hsame
      rw [hsame]
      by_cases hem : l.filter (fun j => !decide (j = k)) = []
      · have : (l.filter S').filter (fun j => !decide (j = k)) = [] := by
          rw [List.filter_eq_nil_iff] at hem ⊢
          exact fun j hj => hem j (List.mem_filter.mp hj).1
        rw [this]
        simp [kK]
      · exact (h (by rw [deedOf _ (f k) hem fun j hj => hall j (memNe.mp hj).1])).elim
structure LeanP (t : Table) (w : Str) (i : Nat) (S : Nat → Bool) : Prop where
  low : ∀ j, j + i < t.2.length → S j = true
  same : SameK t w S fun _ => true
  kept : ∀ k, k < t.2.length → t.2.length ≤ k + i → S k = true → ∃ S0, idleB t w S0 k = false ∧ SameK t w S0 (fun _ => true) ∧ (∀ j, j < k → S0 j = true) ∧ (∀ j, k ≤ j → S0 j = S j) ∧ ∀ j, S j = true → S0 j = true
  none : (∀ k, k < t.2.length → idleB t w (fun _ => true) k = false) → ∀ j, j < t.2.length → S j = true
theorem idleB_congr {t : Table} {w : Str} {S S' : Nat → Bool} (h : ∀ j, j < t.2.length → S j = S' j) (k : Nat) : idleB t w S k = idleB t w S' k := by
  have e : ∀ c, dk t (nb S k) c = dk t (nb S' k) c := fun c => dk_congr (fun j hj => by unfold nb; rw [h j hj]) c
  unfold idleB
  simp only [dk_congr h, e]
theorem lean_step {t : Table} {w : Str} {i k : Nat} {S : Nat → Bool} (h : LeanP t w i S) (hk : k + i + 1 = t.2.length) : LeanP t w (i + 1) (leanS t w S k) := by
  unfold leanS
  cases hb : idleB t w S k with
  | false =>
    simp only [Bool.false_eq_true, if_false]
    refine ⟨fun j hj => h.low j (by omega), h.same, fun k' h1 h2 h3 => ?_, h.none⟩
    by_cases e : k' = k
    · subst e
      exact ⟨S, hb, h.same, fun j hj => h.low j (by omega), fun _ _ => rfl, fun _ q => q⟩
    · exact h.kept k' h1 (by omega) h3
  | true =>
    simp only [if_true]
    have hs := of_decide_eq_true hb
    refine ⟨fun j hj => ?_, fun c hc => ?_, fun k' h1 h2 h3 => ?_, fun hn j hj => ?_⟩
    · have : ¬ j = k := by omega
      simp [nb, h.low j (by omega), this]
    · rw [← hs c hc, h.same c hc]
    · have hne : ¬ k' = k := fun e => by
        subst e
        simp [nb] at h3
      have h3' : S k' = true := by simp [nb] at h3; exact h3.1
      obtain ⟨S0, a1, a2, a3, a4, a5⟩ := h.kept k' h1 (by omega) h3'
      refine ⟨S0, a1, a2, a3, fun j hj => ?_, fun j hj => ?_⟩
      · have : ¬ j = k := by omega
        rw [a4 j hj]
        simp [nb, this]
      · simp [nb] at hj
        exact a5 j hj.1
    · have hall := h.none hn
      have := hn k (by omega)
      rw [idleB_congr (S' := fun _ => true) (fun j hj => hall j hj)] at hb
      rw [this] at hb
      cases hb
theorem leanK_P (t : Table) (w : Str) : LeanP t w t.2.length (leanK t w) := by
  have key : ∀ i, i ≤ t.2.length → LeanP t w i (((List.range t.2.length).reverse.take i).foldl (leanS t w) fun _ => true) := fun i => by
    induction i with
    | zero => exact fun _ => ⟨fun _ _ => rfl, fun _ _ => rfl, fun k h1 h2 => by omega, fun _ _ _ => rfl⟩
    | succ i ih =>
      intro hi
      have e : (List.range t.2.length).reverse[i]? = some (t.2.length - 1 - i) := by
        have hi' : i < t.2.length := hi
        rw [List.getElem?_reverse (by simpa using hi')]
        have : t.2.length - 1 - i < t.2.length := by omega
        simp [this]
      have e2 : (List.range t.2.length).reverse.take (i + 1) = (List.range t.2.length).reverse.take i ++ [t.2.length - 1 - i] := by rw [List.take_add_one, e]; rfl
      rw [e2, List.foldl_append]
      exact lean_step (ih (by omega)) (by omega)
  have := key t.2.length (Nat.le_refl _)
  rwa [List.take_of_length_le (by simp)] at this
/-- lean tells the same -/
theorem lean_same (t : Table) (w : Str) : SameK t w (leanK t w) fun _ => true := (leanK_P t w).same
/-- none of its rules can be left out -/
theorem lean_none {t : Table} {w : Str} (hw : WWay w) {k : Nat} (hk : k < t.2.length) (h : leanK t w k = true) : idleB t w (leanK t w) k = false := by
  obtain ⟨S0, a1, a2, a3, a4, a5⟩ := (leanK_P t w).kept k hk (by omega) h
  have hs := lean_same t w
  cases hb : idleB t w (leanK t w) k with
  | false => rfl
  | true =>
    have hb := of_decide_eq_true hb
    have a1' : ¬ ∀ c ∈ casesL t.1, kK w (dk t S0 c) = kK w (dk t (nb S0 k) c) := of_decide_eq_false a1
    refine (a1' fun c hc => Classical.byContradiction fun hne => ?_).elim
    have sub : (((holdL t c).filter S0).filter (leanK t w)) = (holdL t c).filter (leanK t w) := by
      rw [List.filter_filter]
      refine List.filter_congr fun j _ => ?_
      cases q : leanK t w j with
      | false => simp
      | true => simp [a5 j q]
    have main := not_idle (f := deedAt t.2) hw (l := (holdL t c).filter S0) ((holdL_rise t c).sublist List.filter_sublist) (S' := leanK t w) (k := k) h (fun j hj => by
        cases q : S0 j with
        | true => exact .inl (by rw [← a4 j (by omega)]; exact q)
        | false => exact .inr fun hm => (by
            have := (List.mem_filter.mp hm).2
            rw [q] at this; cases this)) (by
        rw [sub]
        exact (hs c hc).trans (a2 c hc).symm) (by
        rw [← nb_filter]
        exact hne)
    rw [sub, ← nb_filter] at main
    exact main (hb c hc)
theorem filtI_erase {α : Type} (xs : List α) (K : Nat → Bool) {i k : Nat} (h : ((List.range xs.length).filter K)[i]? = some k) : (filtI xs K).eraseIdx i = filtI xs (nb K k) := by
  have len : ∀ ys : List α, (filtI ys K).length = ((List.range ys.length).filter K).length := fun ys => by
    induction ys using snoc_ind with
    | h0 => rfl
    | h1 ys y ih =>
      rw [filtI_snoc, List.length_append, List.length_append, List.length_singleton, List.range_succ, List.filter_append, List.length_append, ih]
      cases q : K ys.length <;> simp [q]
  induction xs using snoc_ind with
  | h0 => simp at h
  | h1 xs x ih =>
    rw [List.length_append, List.length_singleton, List.range_succ, List.filter_append] at h
    rw [filtI_snoc, filtI_snoc]
    by_cases hi : i < ((List.range xs.length).filter K).length
    · rw [List.getElem?_append_left hi] at h
      have hk : k < xs.length := List.mem_range.mp (List.mem_filter.mp (List.mem_of_getElem? h)).1
      rw [List.eraseIdx_append_of_lt_length (by rw [len]; exact hi), ih h]
      have : nb K k xs.length = K xs.length := by
        have : ¬ xs.length = k := by omega
        simp [nb, this]
      rw [this]
    · rw [List.getElem?_append_right (by omega)] at h
      cases q : K xs.length with
      | false => rw [List.filter_cons, q] at h; simp at h
      | true =>
        rw [List.filter_cons, q] at h
        simp only [if_true, List.filter_nil] at h
        have hi2 := (List.getElem?_eq_some_iff.mp h).1
        simp at hi2
        have e0 : i = ((List.range xs.length).filter K).length := by omega
        have hk : k = xs.length := by
          rw [e0] at h
          simpa using h.symm
        subst hk
        have e1 : nb K xs.length xs.length = false := by simp [nb]
        rw [e1, List.eraseIdx_append_of_length_le (by rw [len]; omega), e0, ← len, Nat.sub_self]
        simp
        exact filtI_congr xs fun j hj => by
          have : ¬ j = xs.length := by omega
          simp [nb, this]
theorem filtI_yes_erase {α : Type} (xs : List α) {i : Nat} (hi : i < xs.length) : filtI xs (nb (fun _ => true) i) = xs.eraseIdx i := by
  have := filtI_erase xs (fun _ => true) (i := i) (k := i) (by rw [filter_yes]; simp [hi])
  rw [filtI_all _ (fun _ _ => rfl)] at this
  exact this.symm
theorem idle_filt {t : Table} {w : Str} (K : Nat → Bool) {i k : Nat} (h : ((List.range t.2.length).filter K)[i]? = some k) (hi : i < (filtI t.2 K).length) : idleB (t.1, filtI t.2 K) w (fun _ => true) i = idleB t w K k := by
  have e1 : ∀ c, dk (t.1, filtI t.2 K) (fun _ => true) c = dk t K c := fun c => by
    rw [dk_deeds, filtI_all _ (fun _ _ => rfl), ← dk_deeds t.2 t.1]
  have e2 : ∀ c, dk (t.1, filtI t.2 K) (nb (fun _ => true) i) c = dk t (nb K k) c := fun c => by
    rw [dk_deeds, filtI_yes_erase _ hi, filtI_erase _ _ h, ← dk_deeds t.2 t.1]
  unfold idleB
  simp only [e1, e2]
theorem filtI_len {α : Type} (ys : List α) (K : Nat → Bool) : (filtI ys K).length = ((List.range ys.length).filter K).length := by
  induction ys using snoc_ind with
  | h0 => rfl
  | h1 ys y ih =>
    rw [filtI_snoc, List.length_append, List.length_append, List.length_singleton, List.range_succ, List.filter_append, List.length_append, ih]
    cases q : K ys.length <;> simp [q]
/-- no rule of the lean table is idle -/
theorem lean_idle {t : Table} {w : Str} (hw : WWay w) : (List.range (filtI t.2 (leanK t w)).length).filter (idleB (t.1, filtI t.2 (leanK t w)) w fun _ => true) = [] := by
  rw [List.filter_eq_nil_iff]
  intro i hi
  have hi := List.mem_range.mp hi
  have hi2 : i < ((List.range t.2.length).filter (leanK t w)).length := by rw [← filtI_len]; exact hi
  have g := List.getElem?_eq_getElem hi2
  have hm := List.getElem_mem hi2
  obtain ⟨m1, m2⟩ := List.mem_filter.mp hm
  rw [idle_filt _ g hi, lean_none hw (List.mem_range.mp m1) m2]
  simp
/-- all stay just where none is idle -/
theorem lean_all {t : Table} {w : Str} : (List.range t.2.length).filter (idleB t w fun _ => true) = [] ↔ (t.1, filtI t.2 (leanK t w)) = t := by
  have P := leanK_P t w
  constructor
  · intro h
    rw [List.filter_eq_nil_iff] at h
    have := P.none fun k hk => by simpa using h k (List.mem_range.mpr hk)
    rw [filtI_all _ this]
  · intro h
    have h2 : filtI t.2 (leanK t w) = t.2 := congrArg Prod.snd h
    have hall : ∀ j, j < t.2.length → leanK t w j = true := fun j hj => by
      have hl := filtI_len t.2 (leanK t w)
      rw [h2] at hl
      have e : (List.range t.2.length).filter (leanK t w) = List.range t.2.length := List.filter_sublist.eq_of_length (by rw [← hl]; simp)
      have hm : j ∈ (List.range t.2.length).filter (leanK t w) := by rw [e]; exact List.mem_range.mpr hj
      exact (List.mem_filter.mp hm).2
    rw [List.filter_eq_nil_iff]
    intro k hk
    have hk := List.mem_range.mp hk
    obtain ⟨S0, a1, a2, a3, a4, a5⟩ := P.kept k hk (by omega) (hall k hk)
    rw [idleB_congr (S' := fun _ => true) (fun j hj => by
      by_cases q : j < k
      · exact a3 j q
      · rw [a4 j (by omega)]; exact hall j hj)] at a1
    rw [a1]; simp
/-! what decides counts -/
def decB (t : Table) (w : Str) (k : Nat) (c : List Int) : Bool := match holdL t c with
  | [] => false
  | a :: _ => decide (a = k) && (kK w ((holdL t c).map (deedAt t.2))).isDeed
theorem stepF_at (t : Table) (w : Str) (f : Nat → Nat) (c : List Int) (k : Nat) : stepF t w f c k = f k + (if decB t w k c then 1 else 0) := by
  unfold stepF decB
  cases h : holdL t c with
  | nil => simp
  | cons a r =>
    simp only
    cases q : (kK w ((a :: r).map (deedAt t.2))).isDeed with
    | false => simp
    | true =>
      simp only [inc, if_true, Bool.and_true]
      by_cases e : k = a
      · subst e; simp
      · have : ¬ a = k := fun q => e q.symm
        simp [e, this]
theorem inc_at (l : List Nat) (h : Nat → Nat) (k : Nat) : l.foldl inc h k = h k + l.count k := by
  induction l generalizing h with
  | nil => rfl
  | cons a l ih =>
    rw [List.foldl_cons, ih, List.count_cons]
    unfold inc
    by_cases e : k = a
    · subst e; simp; omega
    · have : ¬ a = k := fun q => e q.symm
      simp [e, this]
theorem hold_count (t : Table) (c : List Int) {k : Nat} (hk : k < t.2.length) : (holdL t c).count k = if hAt t.2 c k then 1 else 0 := by
  have nd : (holdL t c).Nodup := (holdL_rise t c).imp fun h e => by omega
  by_cases h : hAt t.2 c k = true
  · rw [if_pos h, nd.count, if_pos (show k ∈ holdL t c from List.mem_filter.mpr ⟨List.mem_range.mpr hk, h⟩)]
  · rw [if_neg h, List.count_eq_zero.mpr (show k ∉ holdL t c from fun q => h (List.mem_filter.mp q).2)]
theorem counts_at (t : Table) (w : Str) {k : Nat} (hk : k < t.2.length) : (countsM t w).1 k = (casesL t.1).countP (fun c => hAt t.2 c k) ∧ (countsM t w).2 k = (casesL t.1).countP (decB t w k) := by
  have key : ∀ (cs : List (List Int)) (p : (Nat → Nat) × (Nat → Nat)), (cs.foldl (stepHF t w) p).1 k = p.1 k + cs.countP (fun c => hAt t.2 c k) ∧ (cs.foldl (stepHF t w) p).2 k = p.2 k + cs.countP (decB t w k) := fun cs => by
    induction cs with
    | nil => exact fun p => ⟨rfl, rfl⟩
    | cons c cs ih =>
      intro p
      obtain ⟨h1, h2⟩ := ih (stepHF t w p c)
      rw [List.foldl_cons, List.countP_cons, List.countP_cons, h1, h2]
      unfold stepHF
      simp only [stepF_at, inc_at, hold_count t c hk]
      omega
  obtain ⟨h1, h2⟩ := key (casesL t.1) (fun _ => 0, fun _ => 0)
  unfold countsM
  rw [h1, h2]
  exact ⟨Nat.zero_add _, Nat.zero_add _⟩
/-- by "first" a rule that decides nothing can be left out -/
theorem first_idle {t : Table} {k : Nat} (hk : k < t.2.length) (h : (countsM t "first").2 k = 0) : idleB t "first" (fun _ => true) k = true := by
  rw [(counts_at t "first" hk).2] at h
  refine decide_eq_true fun c hc => ?_
  have h0 : decB t "first" k c = false := by
    cases q : decB t "first" k c with
    | false => rfl
    | true =>
      have := List.countP_pos_iff.mpr ⟨c, hc, q⟩
      omega
  unfold decB at h0
  have e : dk t (nb (fun _ => true) k) c = ((holdL t c).filter fun j => !decide (j = k)).map (deedAt t.2) := by unfold dk; rw [nb_filter, filter_yes]
  rw [e, ← yes_K]
  cases hh : holdL t c with
  | nil => rfl
  | cons a r =>
    rw [hh] at h0
    simp only [kK_first, List.map_cons, Kd.isDeed, Bool.and_true, decide_eq_false_iff_not] at h0
    rw [List.filter_cons]
    simp only [h0, decide_false, Bool.not_false, if_true, List.map_cons, kK_first]
/-! a row of some, in turn -/
def greedy (ys : List Rule) (n : Nat) (x : Rule) : Nat := if ys[n]? = some x then n + 1 else n
theorem greedy_all (ys : List Rule) : ∀ (xs : List Rule) (n : Nat), n ≤ ys.length → List.Sublist (ys.drop n) xs → xs.foldl (greedy ys) n = ys.length
  | [], n, hn, h => by
    have := List.sublist_nil.mp h
    have := List.drop_eq_nil_iff.mp this
    show n = ys.length
    omega
  | x :: xs, n, hn, h => by
    rw [List.foldl_cons]
    unfold greedy
    by_cases e : ys[n]? = some x
    · have hl := (List.getElem?_eq_some_iff.mp e).1
      rw [if_pos e]
      refine greedy_all ys xs (n + 1) (by omega) ?_
      rw [List.drop_eq_getElem_cons hl, (List.getElem?_eq_some_iff.mp e).2] at h
      exact List.cons_sublist_cons.mp h
    · rw [if_neg e]
      refine greedy_all ys xs n hn ?_
      by_cases hl : n < ys.length
      · rw [List.drop_eq_getElem_cons hl] at h ⊢
        cases h with
        | cons _ h => exact h
        | cons_cons _ h => exact (e (List.getElem?_eq_getElem hl)).elim
      · rw [List.drop_eq_nil_of_le (by omega)]
        exact List.nil_sublist _
end PC

set_option maxHeartbeats 1000000
/-! What the program's defs and the law's reckon, as functions of data. -/
namespace PC
open PySem DL
def b_need_case : SS := (sSeq (sIf (bOr (bNot (bVal (eIsI "tuple" (eVar 1)))) (bVal (eOp neD (eLen (rVar 1)) (eLen (rVar 0))))) sNone sNext)
  (sIf (bVal (eOp neD (eL (lComp (i1Rng (eLen (rVar 0))) (hName 2) (bNot (bVal (eCall 3 fn_is_whole (aCons (eIx (rVar 1) (eVar 2)) (aCons (eC (.int 0)) (aCons (eOp subD (eIx (rVar 0) (eVar 2)) (eC (.int 1))) aNil)))))) (eVar 2) [2])) (eL (lLst aNil)))) sNone sNext))
def fn_need_case : List D → Option D := runP 3 b_need_case
def b_need_shares : SS := (sSeq (sIf (bOr (bNot (bVal (eIsI "tuple" (eVar 1)))) (bOr (bVal (eOp neD (eLen (rVar 1)) (eLen (rVar 0)))) (bNot (bVal (eIsI "tuple" (eVar 2)))))) sNone sNext)
  (sSeq (sIf (bVal (eOp neD (eLen (rVar 2)) (eLen (rVar 0)))) sNone sNext)
  (sFor (i1Rng (eLen (rVar 0))) (hName 3) (sSeq (sSet 4 (eIx (rVar 1) (eVar 3)))
  (sSeq (sIf (bOr (bNot (bVal (eIsI "tuple" (eVar 4)))) (bOr (bVal (eOp neD (eLen (rVar 4)) (eIx (rVar 0) (eVar 3)))) (bNot (bVal (eCall 3 fn_is_whole (aCons (eIx (rVar 2) (eVar 3)) (aCons (eC (.int 0)) (aCons (eC (.int 9)) aNil)))))))) sNone sNext)
  (sIf (bVal (eOp neD (eL (lComp (rVar 4) (hName 5) (bNot (bVal (eCall 3 fn_is_whole (aCons (eVar 5) (aCons (eC (.int 0)) (aCons (eC (.int 99)) aNil)))))) (eVar 5) [5])) (eL (lLst aNil)))) sNone sNext))))))
def fn_need_shares : List D → Option D := runP 6 b_need_shares
def b_is_leaf : SS := (sSeq (sIf (bOr (bNot (bVal (eIsI "tuple" (eVar 0)))) (bOr (bVal (eOp eqD (eVar 0) (eTup aNil))) (bNot (bVal (eIsI "str" (eIx (rVar 0) (eC (.int 0)))))))) (sRet (eC (.bool false))) sNext)
  (sSeq (sIf (bVal (eOp eqD (eLen (rVar 0)) (eC (.int 1)))) (sRet (eOp inD (eIx (rVar 0) (eC (.int 0))) (eTup (aCons (eC (.str "gap")) (aCons (eC (.str "clash")) aNil))))) sNext)
  (sRet (eAnd (eOp eqD (eLen (rVar 0)) (eC (.int 2))) (eAnd (eOp eqD (eIx (rVar 0) (eC (.int 0))) (eC (.str "deed"))) (eCall 1 fn_is_deed (aCons (eIx (rVar 0) (eC (.int 1))) aNil)))))))
def fn_is_leaf : List D → Option D := runP 1 b_is_leaf
def b_is_tree (fn : List D → Option D) : SS := (sSeq (sIf (bOr (bNot (bVal (eIsI "tuple" (eVar 1)))) (bOr (bVal (eOp eqD (eVar 1) (eTup aNil))) (bNot (bVal (eIsI "str" (eIx (rVar 1) (eC (.int 0)))))))) (sRet (eC (.bool false))) sNext)
  (sSeq (sIf (bVal (eOp eqD (eIx (rVar 1) (eC (.int 0))) (eC (.str "leaf")))) (sRet (eAnd (eOp eqD (eLen (rVar 1)) (eC (.int 2))) (eCall 1 fn_is_leaf (aCons (eIx (rVar 1) (eC (.int 1))) aNil)))) sNext)
  (sSeq (sIf (bOr (bVal (eOp neD (eIx (rVar 1) (eC (.int 0))) (eC (.str "test")))) (bOr (bVal (eOp neD (eLen (rVar 1)) (eC (.int 3)))) (bOr (bNot (bVal (eCall 3 fn_is_whole (aCons (eIx (rVar 1) (eC (.int 1))) (aCons (eC (.int 0)) (aCons (eOp subD (eLen (rVar 0)) (eC (.int 1))) aNil)))))) (bVal (eOp inD (eIx (rVar 1) (eC (.int 1))) (eVar 2)))))) (sRet (eC (.bool false))) sNext)
  (sSeq (sIf (bOr (bNot (bVal (eIsI "tuple" (eIx (rVar 1) (eC (.int 2)))))) (bVal (eOp neD (eLen (rE (eIx (rVar 1) (eC (.int 2))))) (eIx (rVar 0) (eIx (rVar 1) (eC (.int 1))))))) (sRet (eC (.bool false))) sNext)
  (sRet (eOp eqD (eL (lComp (rE (eIx (rVar 1) (eC (.int 2)))) (hName 3) (bNot (bVal (eCall 3 fn (aCons (eVar 0) (aCons (eVar 3) (aCons (eOp addD (eVar 2) (eTup (aCons (eIx (rVar 1) (eC (.int 1))) aNil))) aNil)))))) (eVar 3) [3])) (eL (lLst aNil))))))))
def fn_is_tree : Nat → List D → Option D
  | 0 => fun _ => none
  | n + 1 => runP 4 (b_is_tree (fn_is_tree n))
def b_need_tree : SS := (sIf (bNot (bVal (eCall 3 (fn_is_tree 7) (aCons (eVar 0) (aCons (eVar 1) (aCons (eTup aNil) aNil)))))) sNone sNext)
def fn_need_tree : List D → Option D := runP 2 b_need_tree
def b_walk : SS := (sSeq (sSetL 2 (lLst aNil))
  (sSeq (whileL (bVal (eOp eqD (eIx (rVar 0) (eC (.int 0))) (eC (.str "test")))) (sSeq (sApp 2 (eIx (rVar 0) (eC (.int 1))))
  (sSet 0 (eIx (rE (eIx (rVar 0) (eC (.int 2)))) (eIx (rVar 1) (eIx (rVar 0) (eC (.int 1))))))) 1000)
  (sRetTO 2 (aCons (eIx (rVar 0) (eC (.int 1))) aNil))))
def fn_walk : List D → Option OT := runPD 3 b_walk
def b_walked : SS := (sSeq (sDrop (eCall 1 fn_need_table (aCons (eVar 0) aNil)))
  (sSeq (sDrop (eCall 2 fn_need_tree (aCons (eIx (rVar 0) (eC (.int 0))) (aCons (eVar 1) aNil))))
  (sSeq (sDrop (eCall 2 fn_need_case (aCons (eIx (rVar 0) (eC (.int 0))) (aCons (eVar 2) aNil))))
  (sRetT (oCall 2 fn_walk (aCons (eVar 1) (aCons (eVar 2) aNil)))))))
def fn_walked : List D → Option OT := runPD 3 b_walked
def b_shows : SS := (sSeq (sDrop (eCall 1 fn_need_table (aCons (eVar 0) aNil)))
  (sSeq (sDrop (eCall 1 fn_need_way (aCons (eVar 1) aNil)))
  (sSeq (sDrop (eCall 2 fn_need_tree (aCons (eIx (rVar 0) (eC (.int 0))) (aCons (eVar 2) aNil))))
  (sSeq (sFor (i2Zip (aCons (eL (lCall 1 fn_all_cases (aCons (eIx (rVar 0) (eC (.int 0))) aNil))) (aCons (eCall 2 fn_all_kinds (aCons (eVar 0) (aCons (eVar 1) aNil))) aNil))) (hTup (hCons (hName 3) (hCons (hName 4) hNil))) (sIf (bVal (eOp neD (eIx (rE (eD (oCall 2 fn_walk (aCons (eVar 2) (aCons (eVar 3) aNil))))) (eC (.int 1))) (eVar 4))) (sRet (eVar 3)) sNext))
  (sRet (eC .none))))))
def fn_shows : List D → Option D := runP 5 b_shows
def b_priced : SS := (sSeq (sDrop (eCall 1 fn_need_table (aCons (eVar 0) aNil)))
  (sSeq (sDrop (eCall 2 fn_need_tree (aCons (eIx (rVar 0) (eC (.int 0))) (aCons (eVar 1) aNil))))
  (sSeq (sDrop (eCall 3 fn_need_shares (aCons (eIx (rVar 0) (eC (.int 0))) (aCons (eVar 2) (aCons (eVar 3) aNil)))))
  (sSeq (sSet 4 (eC (.int 0)))
  (sSeq (sFor (rE (eL (lCall 1 fn_all_cases (aCons (eIx (rVar 0) (eC (.int 0))) aNil)))) (hName 5) (sSeq (sSet 6 (eC (.int 1)))
  (sSeq (sFor (i1Rng (eLen (rVar 5))) (hName 7) (sSet 6 (eOp mulD (eVar 6) (eIx (rE (eIx (rVar 2) (eVar 7))) (eIx (rVar 5) (eVar 7))))))
  (sSet 4 (eOp addD (eVar 4) (eOp mulD (eVar 6) (eSum (lComp (rE (eIx (rE (eD (oCall 2 fn_walk (aCons (eVar 1) (aCons (eVar 5) aNil))))) (eC (.int 0)))) (hName 8) bYes (eIx (rVar 3) (eVar 8)) [8]))))))))
  (sRet (eVar 4)))))))
def fn_priced : List D → Option D := runP 9 b_priced
def b_rules_of (fn : List D → Option (List D)) : SS := (sSeq (sIf (bVal (eOp eqD (eIx (rVar 1) (eC (.int 0))) (eC (.str "leaf")))) (sRetL (lIf (bVal (eOp neD (eIx (rE (eIx (rVar 1) (eC (.int 1)))) (eC (.int 0))) (eC (.str "deed")))) (lLst aNil) (lLst (aCons (eTup (aCons (eVar 2) (aCons (eIx (rE (eIx (rVar 1) (eC (.int 1)))) (eC (.int 1))) aNil))) aNil)))) sNext)
  (sSeq (sSetL 3 (lLst aNil))
  (sSeq (sFor (i1Rng (eIx (rVar 0) (eIx (rVar 1) (eC (.int 1))))) (hName 4) (sSeq (sSet 5 (eOp addD (eOp addD (eSl (eVar 2) oNo (oPart (eIx (rVar 1) (eC (.int 1))))) (eTup (aCons (eTup (aCons (eVar 4) aNil)) aNil))) (eSl (eVar 2) (oPart (eOp addD (eIx (rVar 1) (eC (.int 1))) (eC (.int 1)))) oNo)))
  (sExt 3 (lCall 3 fn (aCons (eVar 0) (aCons (eIx (rE (eIx (rVar 1) (eC (.int 2)))) (eVar 4)) (aCons (eVar 5) aNil)))))))
  (sRetOwn 3))))
def fn_rules_of : Nat → List D → Option (List D)
  | 0 => fun _ => none
  | n + 1 => runPL 6 (b_rules_of (fn_rules_of n))
def b_as_rules : SS := (sSeq (sDrop (eCall 1 fn_need_table (aCons (eVar 0) aNil)))
  (sSeq (sDrop (eCall 2 fn_need_tree (aCons (eIx (rVar 0) (eC (.int 0))) (aCons (eVar 1) aNil))))
  (sRetL (lCall 3 (fn_rules_of 7) (aCons (eIx (rVar 0) (eC (.int 0))) (aCons (eVar 1) (aCons (eOp mulD (eTup (aCons (eC .none) aNil)) (eLen (rE (eIx (rVar 0) (eC (.int 0)))))) aNil)))))))
def fn_as_rules : List D → Option (List D) := runPL 2 b_as_rules
def b__law_tree (fn : List D → DL.Row → Option (D × DL.Row)) : SS := (sSeq (sIf (bOr (bVal (eOp eqD (eVar 2) (eL (lLst aNil)))) (bOr (bVal (eOp eqD (eVar 3) (eC (.int 0)))) (bVal (eOp eqD (eCallR 0 2 fn__law_taken (aCons (eC (.int 4)) aNil)) (eC (.int 3)))))) (sRet (eTup (aCons (eC (.str "leaf")) (aCons (eIx (lLst (aCons (eTup (aCons (eC (.str "gap")) aNil)) (aCons (eTup (aCons (eC (.str "clash")) aNil)) (aCons (eTup (aCons (eC (.str "deed")) (aCons (eCallR 0 2 fn__law_taken (aCons (eC (.int 3)) aNil)) aNil))) (aCons (eTup (aCons (eC (.str "deed")) (aCons (eC .none) aNil))) aNil))))) (eCallR 0 2 fn__law_taken (aCons (eC (.int 4)) aNil))) aNil)))) sNext)
  (sSeq (sSet 4 (eIx (rVar 2) (eCallR 0 2 fn__law_taken (aCons (eLen (rVar 2)) aNil))))
  (sSeq (sSet 5 (eL (lComp (rVar 2) (hName 6) (bVal (eOp neD (eVar 6) (eVar 4))) (eVar 6) [6])))
  (sRet (eTup (aCons (eC (.str "test")) (aCons (eVar 4) (aCons (eTupL (lComp (i1Rng (eIx (rVar 1) (eVar 4))) (hName 7) bYes (eCallR 0 4 fn (aCons (eVar 1) (aCons (eVar 5) (aCons (eOp subD (eVar 3) (eC (.int 1))) aNil)))) [7])) aNil))))))))
def fn__law_tree : Nat → List D → DL.Row → Option (D × DL.Row)
  | 0 => fun _ _ => none
  | n + 1 => runR 8 (b__law_tree (fn__law_tree n))
def b__law_right_tree (fn : List D → DL.Row → Option (D × DL.Row)) : SS := (sSeq (sFrzB 4 (sSetL 4 (lComp (rVar 2) (hTup (hCons (hName 9) (hCons (hName 10) hNil))) bYes (eVar 10) [9, 10])))
  (sSeq (sIf (bAnd (bVal (eOp eqD (eCntD (qVar 4) (eIx (rVar 4) (eC (.int 0)))) (eLen (rVar 4)))) (bOr (bVal (eOp eqD (eVar 3) (eL (lLst aNil)))) (bVal (eOp gtD (eCallR 0 2 fn__law_taken (aCons (eC (.int 5)) aNil)) (eC (.int 0)))))) (sRet (eTup (aCons (eC (.str "leaf")) (aCons (eIx (rVar 4) (eC (.int 0))) aNil)))) sNext)
  (sSeq (sSet 5 (eIx (rVar 3) (eCallR 0 2 fn__law_taken (aCons (eLen (rVar 3)) aNil))))
  (sSeq (sFrzB 6 (sSetL 6 (lComp (rVar 3) (hName 11) (bVal (eOp neD (eVar 11) (eVar 5))) (eVar 11) [11])))
  (sSeq (sSetL 7 (lLst aNil))
  (sSeq (sFor (i1Rng (eIx (rVar 1) (eVar 5))) (hName 8) (sApp 7 (eCallR 0 4 fn (aCons (eVar 1) (aCons (eL (lComp (rVar 2) (hName 11) (bVal (eOp eqD (eIx (rE (eIx (rVar 11) (eC (.int 0)))) (eVar 5)) (eVar 8))) (eVar 11) [11])) (aCons (eVar 6) aNil))))))
  (sRet (eTup (aCons (eC (.str "test")) (aCons (eVar 5) (aCons (eTupL (qVar 7)) aNil)))))))))))
def fn__law_right_tree : Nat → List D → DL.Row → Option (D × DL.Row)
  | 0 => fun _ _ => none
  | n + 1 => runR 12 (b__law_right_tree (fn__law_right_tree n))
def b__law_walk (fn : List D → Option D) : SS := (sSeq (sIf (bVal (eOp eqD (eIx (rVar 0) (eC (.int 0))) (eC (.str "leaf")))) (sRet (eTup (aCons (eL (lLst aNil)) (aCons (eIx (rVar 0) (eC (.int 1))) aNil)))) sNext)
  (sSeq (sTgt (hTup (hCons (hName 2) (hCons (hName 3) hNil))) (eCall 2 fn (aCons (eIx (rE (eIx (rVar 0) (eC (.int 2)))) (eIx (rVar 1) (eIx (rVar 0) (eC (.int 1))))) (aCons (eVar 1) aNil))))
  (sRet (eTup (aCons (eOp addD (eL (lLst (aCons (eIx (rVar 0) (eC (.int 1))) aNil))) (eVar 2)) (aCons (eVar 3) aNil))))))
def fn__law_walk : Nat → List D → Option D
  | 0 => fun _ => none
  | n + 1 => runP 4 (b__law_walk (fn__law_walk n))
def b__law_price : SS := (sSeq (sSet 4 (eC (.int 0)))
  (sSeq (sFor (rE (eL (lCall 1 fn__law_cases (aCons (eVar 0) aNil)))) (hName 5) (sSeq (sSet 6 (eC (.int 1)))
  (sSeq (sFor (i1Rng (eLen (rVar 5))) (hName 7) (sSet 6 (eOp mulD (eVar 6) (eIx (rE (eIx (rVar 2) (eVar 7))) (eIx (rVar 5) (eVar 7))))))
  (sSet 4 (eOp addD (eVar 4) (eOp mulD (eVar 6) (eSum (lComp (rE (eIx (rE (eCall 2 (fn__law_walk 7) (aCons (eVar 1) (aCons (eVar 5) aNil)))) (eC (.int 0)))) (hName 7) bYes (eIx (rVar 3) (eVar 7)) [7]))))))))
  (sRet (eVar 4))))
def fn__law_price : List D → Option D := runP 8 b__law_price
def b__law_shares : SS := (sSeq (sSet 2 (eIx (lLst (aCons (eC (.int 2)) (aCons (eC (.int 4)) (aCons (eC (.int 100)) aNil)))) (eCallR 0 2 fn__law_taken (aCons (eC (.int 3)) aNil))))
  (sSeq (sSet 3 (eTupL (lComp (rVar 1) (hName 4) bYes (eTupL (lComp (i1Rng (eVar 4)) (hName 5) bYes (eCallR 0 2 fn__law_taken (aCons (eVar 2) aNil)) [5])) [4])))
  (sRet (eTup (aCons (eVar 3) (aCons (eTupL (lComp (rVar 1) (hName 4) bYes (eCallR 0 2 fn__law_taken (aCons (eIx (lLst (aCons (eC (.int 2)) (aCons (eC (.int 10)) aNil))) (eCallR 0 2 fn__law_taken (aCons (eC (.int 2)) aNil))) aNil)) [4])) aNil))))))
def fn__law_shares : List D → DL.Row → Option (D × DL.Row) := runR 6 b__law_shares
def b__law_leaves (fn : List D → Option D) : SS := (sSeq (sIf (bVal (eOp eqD (eIx (rVar 1) (eC (.int 0))) (eC (.str "leaf")))) (sRet (eIf (bVal (eOp eqD (eLen (rE (eIx (rVar 1) (eC (.int 1))))) (eC (.int 2)))) (eL (lLst (aCons (eTup (aCons (eTupL (qVar 2)) (aCons (eIx (rE (eIx (rVar 1) (eC (.int 1)))) (eC (.int 1))) aNil))) aNil))) (eL (lLst aNil)))) sNext)
  (sSeq (sSet 3 (eL (lLst aNil)))
  (sSeq (sFor (i1Rng (eIx (rVar 0) (eIx (rVar 1) (eC (.int 1))))) (hName 4) (sSet 3 (eOp addD (eVar 3) (eCall 3 fn (aCons (eVar 0) (aCons (eIx (rE (eIx (rVar 1) (eC (.int 2)))) (eVar 4)) (aCons (eOp addD (eOp addD (eSl (eVar 2) oNo (oPart (eIx (rVar 1) (eC (.int 1))))) (eL (lLst (aCons (eTup (aCons (eVar 4) aNil)) aNil)))) (eSl (eVar 2) (oPart (eOp addD (eIx (rVar 1) (eC (.int 1))) (eC (.int 1)))) oNo)) aNil)))))))
  (sRet (eVar 3)))))
def fn__law_leaves : Nat → List D → Option D
  | 0 => fun _ => none
  | n + 1 => runP 5 (b__law_leaves (fn__law_leaves n))
def b_law10 : SS := (sSeq (sSetL 1 (lLst (aCons (eVar 0) (aCons (eC (.int 0)) (aCons (eC (.int 0)) (aCons (eC (.int 0)) aNil))))))
  (sMkRow 1 (sSeq (sFor (i1Rng (eC (.int 3))) (hName 2) (sSeq (sSet 3 (eCallR 1 2 fn__law_table (aCons (eC (.int 9)) aNil)))
  (sSeq (sPar 9 10 (eIx (rVar 3) (eC (.int 0))) (eCallR 1 1 fn__law_way aNil))
  (sSeq (sTgt (hTup (hCons (hName 11) (hCons (hName 12) hNil))) (eTup (aCons (eL (lCall 1 fn__law_cases (aCons (eVar 9) aNil))) (aCons (eCall 2 fn__law_kinds (aCons (eVar 3) (aCons (eVar 10) aNil))) aNil))))
  (sSeq (sSet 4 (eCallR 1 4 (fn__law_tree 7) (aCons (eVar 9) (aCons (eL (lListRng (eLen (rVar 9)))) (aCons (eC (.int 5)) aNil)))))
  (sSeq (sIf (bVal (eOp gtD (eCallR 1 2 fn__law_taken (aCons (eC (.int 3)) aNil)) (eC (.int 0)))) (sSeq (sSetL 6 (lZip2 (qVar 11) (qVar 12)))
  (sSeq (sIf (bVal (eOp eqD (eCallR 1 2 fn__law_taken (aCons (eC (.int 2)) aNil)) (eC (.int 0)))) (sSeq (sSet 13 (eCallR 1 2 fn__law_taken (aCons (eLen (rVar 6)) aNil)))
  (sOwnSet 6 (eVar 13) (eTup (aCons (eIx (rE (eIx (rVar 6) (eVar 13))) (eC (.int 0))) (aCons (eIx (lLst (aCons (eTup (aCons (eC (.str "gap")) aNil)) (aCons (eTup (aCons (eC (.str "clash")) aNil)) (aCons (eTup (aCons (eC (.str "deed")) (aCons (eC (.int 7)) aNil))) (aCons (eTup (aCons (eC (.str "deed")) (aCons (eC .none) aNil))) aNil))))) (eCallR 1 2 fn__law_taken (aCons (eC (.int 4)) aNil))) aNil))))) sNext)
  (sFrz 6 (sSet 4 (eCallR 1 4 (fn__law_right_tree 7) (aCons (eVar 9) (aCons (eVar 6) (aCons (eL (lListRng (eLen (rVar 9)))) aNil)))))))) sNext)
  (sSeq (sSet 5 (eL (lComp (rVar 11) (hName 16) bYes (eCall 2 (fn__law_walk 7) (aCons (eVar 4) (aCons (eVar 16) aNil))) [16])))
  (sSeq (sSetL 6 (lComp (i1Rng (eLen (rVar 11))) (hName 13) (bVal (eOp neD (eIx (rE (eIx (rVar 5) (eVar 13))) (eC (.int 1))) (eIx (rVar 12) (eVar 13)))) (eIx (rVar 11) (eVar 13)) [13]))
  (sSeq (sIf (bNot (bVal (eCall 2 (fn__law_alike 9) (aCons (eCall 3 fn_shows (aCons (eVar 3) (aCons (eVar 10) (aCons (eVar 4) aNil)))) (aCons (eIf (bVal (eLend (eOp neD (eVar 6) (eL (lLst aNil))))) (eIx (rVar 6) (eC (.int 0))) (eC .none)) aNil))))) (sRet (eC (.bool false))) sNext)
  (sSeq (sFor (i1Rng (eC (.int 6))) (hName 7) (sSeq (sSet 13 (eCallR 1 2 fn__law_taken (aCons (eLen (rVar 11)) aNil)))
  (sSeq (sSetV 8 (vT (oCall 3 fn_walked (aCons (eVar 3) (aCons (eVar 4) (aCons (eIx (rVar 11) (eVar 13)) aNil))))))
  (sSeq (sIf (bNot (bVal (eLend (eCall 2 (fn__law_alike 9) (aCons (eVar 8) (aCons (eIx (rVar 5) (eVar 13)) aNil)))))) (sRet (eC (.bool false))) sNext)
  (sDeepApp 8 (eC (.int 0)) (eC (.int 0)))))))
  (sSeq (sTgt (hTup (hCons (hName 14) (hCons (hName 15) hNil))) (eCallR 1 2 fn__law_shares (aCons (eVar 9) aNil)))
  (sSeq (sIf (bNot (bVal (eCall 2 (fn__law_alike 9) (aCons (eCall 4 fn_priced (aCons (eVar 3) (aCons (eVar 4) (aCons (eVar 14) (aCons (eVar 15) aNil))))) (aCons (eCall 4 fn__law_price (aCons (eVar 9) (aCons (eVar 4) (aCons (eVar 14) (aCons (eVar 15) aNil))))) aNil))))) (sRet (eC (.bool false))) sNext)
  (sSeq (sSetL 8 (lCall 2 fn_as_rules (aCons (eVar 3) (aCons (eVar 4) aNil))))
  (sSeq (sIf (bNot (bVal (eLend (eCall 2 (fn__law_alike 9) (aCons (eVar 8) (aCons (eCall 3 (fn__law_leaves 7) (aCons (eVar 9) (aCons (eVar 4) (aCons (eL (lRep (lLst (aCons (eC .none) aNil)) (eLen (rVar 9)))) aNil)))) aNil)))))) (sRet (eC (.bool false))) sNext)
  (sSeq (sApp 8 (eC (.int 0)))
  (sIf (bVal (eLend (eOp neD (eL (lCall 2 fn_as_rules (aCons (eVar 3) (aCons (eVar 4) aNil)))) (eSl (eVar 8) oNo (oPart (eUn negD (eC (.int 1)))))))) (sRet (eC (.bool false))) sNext))))))))))))))))
  (sRet (eC (.bool true))))))
def fn_law10 : List D → Option D := runP 17 b_law10
end PC

set_option maxHeartbeats 2000000
/-! Trees: asked, walked, shown, priced, as rules. -/
namespace PC
open PySem DL
def WK (k : Kd) : Prop := ∀ d, k = .deed d → WD d
def leafD (k : Kd) : D := .tuple [.str "leaf", encK k]
def testD (j : Nat) (bs : List D) : D := .tuple [.str "test", .int j, .tuple bs]
def IsTr (sizes : List Int) : Nat → List Nat → D → Prop
  | 0, _, t => ∃ k, WK k ∧ t = leafD k
  | n + 1, met, t => (∃ k, WK k ∧ t = leafD k) ∨ ∃ (j : Nat) (bs : List D) (z : Int), t = testD j bs ∧ sizes[j]? = some z ∧ j ∉ met ∧ (bs.length : Int) = z ∧ ∀ b ∈ bs, IsTr sizes n (met ++ [j]) b
theorem IsTr.leaf {sizes : List Int} {n : Nat} {met : List Nat} {k : Kd} (h : WK k) : IsTr sizes n met (leafD k) := by
  cases n with
  | zero => exact ⟨k, h, rfl⟩
  | succ n => exact .inl ⟨k, h, rfl⟩
theorem IsTr.up {sizes : List Int} : ∀ {n : Nat} {met : List Nat} {t : D}, IsTr sizes n met t → IsTr sizes (n + 1) met t
  | 0, _, _, h => .inl h
  | n + 1, _, _, .inl h => .inl h
  | n + 1, _, _, .inr ⟨j, bs, z, h1, h2, h3, h4, h5⟩ => .inr ⟨j, bs, z, h1, h2, h3, h4, fun b hb => IsTr.up (h5 b hb)⟩
theorem s_lt : ¬ ("leaf" : Str) = "test" := by decide
theorem s_tl : ¬ ("test" : Str) = "leaf" := by decide
theorem s_gd : ¬ ("gap" : Str) = "deed" := by decide
theorem s_cd : ¬ ("clash" : Str) = "deed" := by decide
theorem comp_id {h : SG} {ft : SB} {fe : SE} {ρ : DL.Env} {s : DL.Row} (xs : List D) (p : D → Bool) (q : D → D) (H : ∀ x, x ∈ xs → ∃ ρ1, h x ρ = some ρ1 ∧ ft ρ1 s = some (p x, s) ∧ (p x = true → fe ρ1 s = some (q x, s))) :
    compL h ft fe ρ xs s = some ((xs.filter p).map q, s) := by
  have := comp_map (h := h) (ft := ft) (fe := fe) (ρ := ρ) (s := s) xs id p q H
  simpa using this
theorem is_leaf_ok {k : Kd} (h : WK k) : fn_is_leaf [encK k] = some (.bool true) := by
  cases k with
  | gap =>
    have e : inD (.str "gap") (.tuple [.str "gap", .str "clash"]) = some (.bool true) := by rw [inD_ap rfl rfl rfl]; simp [inFl, PyData.eqv]
    simp [fn_is_leaf, runP_ap, b_is_leaf, encK, e]
  | clash =>
    have e : inD (.str "clash") (.tuple [.str "gap", .str "clash"]) = some (.bool true) := by rw [inD_ap rfl rfl rfl]; simp [inFl, PyData.eqv]
    simp [fn_is_leaf, runP_ap, b_is_leaf, encK, e]
  | deed d => simp [fn_is_leaf, runP_ap, b_is_leaf, encK, is_deed_ok (h d rfl)]
theorem inD_nats (l : List Nat) (k : Nat) : inD (.int (k : Int)) (.list (l.map eN)) = some (.bool (decide (k ∈ l))) := by
  have fl : ∀ l : List Nat, (l.map eN).all flatD = true := fun l => by
    induction l with
    | nil => rfl
    | cons x l ih => simp only [List.map_cons, List.all_cons, ih]; rfl
  have e : ∀ l : List Nat, inFl (.int (k : Int)) (l.map eN) = decide (k ∈ l) := fun l => by
    induction l with
    | nil => rfl
    | cons x l ih =>
      show (PyData.eqv (.int (x : Int)) (.int (k : Int)) || inFl (.int (k : Int)) (l.map eN)) = _
      rw [ih]
      by_cases q : k = x
      · subst q; simp [PyData.eqv]
      · have : ¬ (x : Int) = (k : Int) := by omega
        simp [PyData.eqv, q, this]
  rw [inD_ap rfl (fl l) rfl, e]
def metD (l : List Nat) : D := .tuple (l.map eN)
theorem inT_nats (l : List Nat) (k : Nat) : inD (.int (k : Int)) (metD l) = some (.bool (decide (k ∈ l))) := inD_nats l k
theorem is_tree_ok {sizes : List Int} (h5 : sizes.length ≤ 5) (hz : ∀ x ∈ sizes, 2 ≤ x ∧ x ≤ 4) : ∀ (n m : Nat) (met : List Nat) (t : D), n < m → met.length + n ≤ 100 → IsTr sizes n met t → fn_is_tree m [eIs sizes, t, metD met] = some (.bool true)
  | n, 0, met, t, h, _, _ => by omega
  | n, m + 1, met, t, h, hm, ht => by
    have leaf : ∀ k, WK k → fn_is_tree (m + 1) [eIs sizes, leafD k, metD met] = some (.bool true) := fun k hk => by
      simp [fn_is_tree, runP_ap, b_is_tree, leafD, is_leaf_ok hk]
    match n, ht with
    | 0, ⟨k, hk, e⟩ => subst e; exact leaf k hk
    | n + 1, .inl ⟨k, hk, e⟩ => subst e; exact leaf k hk
    | n + 1, .inr ⟨j, bs, z, e, h2, h3, h4, hb⟩ =>
      subst e
      have ih := fun b hb' => is_tree_ok h5 hz n m (met ++ [j]) b (by omega) (by simp; omega) (hb b hb')
      have hj : j < sizes.length := (List.getElem?_eq_some_iff.mp h2).1
      have hin := inT_nats met j
      have hb4 := hz z (List.mem_of_getElem? h2)
      simp [fn_is_tree, runP_ap, b_is_tree, testD, s_tl, s_lt, is_whole_i, hin, h3, h2, eI, h4]
      have hle : ¬ (sizes.length : Int) - 1 < j := by omega
      simp [hle, h2, eI, h4]
      rw [comp_id (p := fun _ => false) (q := fun _ => .none)]
      · simp
      · intro b hb'
        have e : addD (metD met) (.tuple [.int (j : Int)]) = some (metD (met ++ [j])) := by
          unfold metD
          simp only [addD_t, List.length_map, List.length_singleton]
          rw [chk_le (by omega)]
          simp [eN]
        simp [e, ih b hb']
theorem need_tree_ok {sizes : List Int} (hs : WS sizes) {n : Nat} {t : D} (hn : n < 7) (h : IsTr sizes n [] t) : fn_need_tree [eIs sizes, t] = some .none := by
  have := is_tree_ok hs.2.1 hs.2.2 n 7 [] t hn (by simp; omega) h
  simp only [metD, List.map_nil] at this
  simp [fn_need_tree, runP_ap, b_need_tree, this]
theorem need_case_ok {sizes c : List Int} (hs : sizes.length ≤ 5) (h : WC sizes c) : fn_need_case [eIs sizes, eIs c] = some .none := by
  have hl : sizes.length = c.length := h.length
  simp [fn_need_case, runP_ap, b_need_case, eIs, hl]
  rw [rng1_n (by omega)]
  simp
  rw [comp_map (p := fun _ => false) (q := fun _ => .none)]
  · simp
  · intro k hk
    have hk : k < c.length := by simpa using hk
    have g1 : sizes[k]? = some sizes[k] := List.getElem?_eq_getElem (by omega)
    have g2 : c[k]? = some c[k] := List.getElem?_eq_getElem (by omega)
    have := h.get g1 g2
    simp [g1, g2, eI, is_whole_i]
    omega
/-! ### walking -/
def walkD (p : List Nat × Kd) : D := .tuple [.list (eNs p.1), encK p.2]
def wC : SB := (bVal (eOp eqD (eIx (rVar 0) (eC (.int 0))) (eC (.str "test"))))
def wB : SS := (sSeq (sApp 2 (eIx (rVar 0) (eC (.int 1))))
  (sSet 0 (eIx (rE (eIx (rVar 0) (eC (.int 2)))) (eIx (rVar 1) (eIx (rVar 0) (eC (.int 1)))))))
theorem while_step {c : SB} {b : SS} {n : Nat} {ρ ρ2 : DL.Env} {s s1 s2 : DL.Row} (hc : c ρ s = some (true, s1)) (hb : b ρ s1 = some (.nx ρ2 s2)) : whileL c b (n + 1) ρ s = whileL c b n ρ2 s2 := by
  show (c ρ s).bind _ = _
  rw [hc, Option.bind_some, if_pos rfl, hb]
  rfl
theorem lawwalk_ok {sizes c : List Int} (hz : ∀ x ∈ sizes, 2 ≤ x ∧ x ≤ 4) (hc : WC sizes c) : ∀ (n m : Nat) (met : List Nat) (t : D), n < m → n ≤ 100 → IsTr sizes n met t →
    ∃ p : List Nat × Kd, fn__law_walk m [t, eIs c] = some (walkD p) ∧ p.1.length ≤ n ∧ (∀ j ∈ p.1, j < sizes.length) ∧ WK p.2 ∧
      ∀ (acc : List D) (f : Nat), n < f → acc.length + n ≤ 1000 → whileL wC wB f [.imm t, .imm (eIs c), .own acc] [] = some (.nx [.imm (leafD p.2), .imm (eIs c), .own (acc ++ eNs p.1)] [])
  | n, 0, met, t, h, _, _ => by omega
  | n, m + 1, met, t, h, hm, ht => by
    have leaf : ∀ k, fn__law_walk (m + 1) [leafD k, eIs c] = some (walkD ([], k)) := fun k => by
      simp [fn__law_walk, runP_ap, b__law_walk, leafD, walkD, eNs]
    have leaf2 : ∀ (k : Kd) (acc : List D) (f : Nat), 0 < f → whileL wC wB f [.imm (leafD k), .imm (eIs c), .own acc] [] = some (.nx [.imm (leafD k), .imm (eIs c), .own (acc ++ eNs [])] []) := fun k acc f hf => by
      cases f with
      | zero => omega
      | succ f => simp [whileL, wC, leafD, s_lt, eNs]
    match n, ht with
    | 0, ⟨k, hk, e⟩ => subst e; exact ⟨_, leaf k, by simp, by simp, hk, fun acc f hf _ => leaf2 k acc f (by omega)⟩
    | n + 1, .inl ⟨k, hk, e⟩ => subst e; exact ⟨_, leaf k, by simp, by simp, hk, fun acc f hf _ => leaf2 k acc f (by omega)⟩
    | n + 1, .inr ⟨j, bs, z, e, h2, h3, h4, hb⟩ =>
      subst e
      have hj : j < sizes.length := (List.getElem?_eq_some_iff.mp h2).1
      have hl : sizes.length = c.length := hc.length
      have g2 : c[j]? = some c[j] := List.getElem?_eq_getElem (by omega)
      have hv := hc.get h2 g2
      obtain ⟨v, hv'⟩ : ∃ v : Nat, c[j] = (v : Int) := ⟨c[j].toNat, by omega⟩
      have g3 : bs[v]? = some bs[v] := List.getElem?_eq_getElem (by omega)
      obtain ⟨p, e1, e2, e3, e4, e5⟩ := lawwalk_ok hz hc n m (met ++ [j]) bs[v] (by omega) (by omega) (hb _ (List.getElem_mem _))
      refine ⟨(j :: p.1, p.2), ?_, by simp; omega, by simpa using ⟨hj, e3⟩, e4, fun acc f hf hacc => ?_⟩
      · simp [fn__law_walk, runP_ap, b__law_walk, testD, s_tl, g2, eI, hv', atI_n g3]
        simp [e1, walkD]
        rw [chk_le (by simp [eNs]; omega)]
        simp [eNs, eN]
      · cases f with
        | zero => omega
        | succ f =>
          have := e5 (acc ++ [.int (j : Int)]) f (by omega) (by simp; omega)
          rw [while_step (s1 := []) (ρ2 := [.imm bs[v], .imm (eIs c), .own (acc ++ [.int (j : Int)])]) (s2 := []), this]
          · simp [eNs, eN]
          · simp [wC, testD]
          · simp [wB, testD]
            rw [chkA_lt (by omega)]
            simp [g2, eI, hv', atI_n g3]
theorem walk_ok {sizes c : List Int} (hs : WS sizes) (hc : WC sizes c) {n : Nat} {t : D} (hn : n < 7) (h : IsTr sizes n [] t) :
    ∃ p : List Nat × Kd, fn__law_walk 7 [t, eIs c] = some (walkD p) ∧ fn_walk [t, eIs c] = some (.tup [.lst ((eNs p.1).map .imm), .imm (encK p.2)]) ∧ p.1.length ≤ 6 ∧ (∀ j ∈ p.1, j < sizes.length) ∧ WK p.2 := by
  obtain ⟨p, e1, e2, e3, e4, e5⟩ := lawwalk_ok hs.2.2 hc n 7 [] t hn (by omega) h
  refine ⟨p, e1, ?_, by omega, e3, e4⟩
  have := e5 [] 1000 (by omega) (by simp; omega)
  simp only [wC, wB] at this
  simp [fn_walk, b_walk, runPD_ap]
  rw [this]
  simp [leafD]
def wantOk (w : Want) : Prop := w = none ∨ ∃ v, w = some [v]
theorem lv_eR {r : Rule} (hl : r.1.length ≤ 1000000) (h : ∀ w ∈ r.1, wantOk w) : Lv 3 (eR r) := by
  refine Lv.tup (by simp) fun x hx => ?_
  simp at hx
  rcases hx with rfl | rfl
  · refine Lv.tup (by simpa using hl) fun x hx => ?_
    obtain ⟨w, hw, rfl⟩ := List.mem_map.mp hx
    exact lv_eW fun l e => by
      rcases h w hw with rfl | ⟨v, rfl⟩
      · cases e
      · cases e; simp
  · exact lv_eO _
def putW (ws : List Want) (j : Nat) (v : Nat) : List Want := ws.take j ++ some [(v : Int)] :: ws.drop (j + 1)
theorem putW_len {ws : List Want} {j v : Nat} (h : j < ws.length) : (putW ws j v).length = ws.length := by unfold putW; simp; omega
theorem putW_ok {ws : List Want} {j v : Nat} (h : ∀ w ∈ ws, wantOk w) : ∀ w ∈ putW ws j v, wantOk w := fun w hw => by
  unfold putW at hw
  simp at hw
  rcases hw with hw | rfl | hw
  · exact h w (List.mem_of_mem_take hw)
  · exact .inr ⟨_, rfl⟩
  · exact h w (List.mem_of_mem_drop hw)
theorem rules_ok {sizes : List Int} (h5 : sizes.length ≤ 5) (hz : ∀ x ∈ sizes, 2 ≤ x ∧ x ≤ 4) : ∀ (n m : Nat) (met : List Nat) (t : D) (ws : List Want), n < m → ws.length = sizes.length → (∀ w ∈ ws, wantOk w) → n ≤ 6 → IsTr sizes n met t →
    ∃ rs : List Rule, fn_rules_of m [eIs sizes, t, eWs ws] = some (rs.map eR) ∧ fn__law_leaves m [eIs sizes, t, .list (ws.map eW)] = some (.list (rs.map eR)) ∧ rs.length ≤ 4 ^ n ∧ ∀ r ∈ rs, r.1.length = sizes.length ∧ ∀ w ∈ r.1, wantOk w
  | n, 0, met, t, ws, h, _, _, _, _ => by omega
  | n, m + 1, met, t, ws, h, hl, hw, h6, ht => by
    have leaf : ∀ k, ∃ rs : List Rule, fn_rules_of (m + 1) [eIs sizes, leafD k, eWs ws] = some (rs.map eR) ∧ fn__law_leaves (m + 1) [eIs sizes, leafD k, .list (ws.map eW)] = some (.list (rs.map eR)) ∧ rs.length ≤ 1 ∧ ∀ r ∈ rs, r.1.length = sizes.length ∧ ∀ w ∈ r.1, wantOk w := fun k => by
      have hl2 : ws.length ≤ 1000000 := by omega
      cases k with
      | gap => exact ⟨[], by simp [fn_rules_of, runPL_ap, b_rules_of, leafD, encK, s_gd], by simp [fn__law_leaves, runP_ap, b__law_leaves, leafD, encK], by simp, by simp⟩
      | clash => exact ⟨[], by simp [fn_rules_of, runPL_ap, b_rules_of, leafD, encK, s_cd], by simp [fn__law_leaves, runP_ap, b__law_leaves, leafD, encK], by simp, by simp⟩
      | deed d => exact ⟨[(ws, d)], by simp [fn_rules_of, runPL_ap, b_rules_of, leafD, encK, eR], by simp [fn__law_leaves, runP_ap, b__law_leaves, leafD, encK, eR, eWs, chk_le, hl2], by simp, by simpa using ⟨hl, hw⟩⟩
    match n, ht with
    | 0, ⟨k, hk, e⟩ => subst e; exact leaf k
    | n + 1, .inl ⟨k, hk, e⟩ =>
      subst e
      obtain ⟨rs, e1, e2, e3, e4⟩ := leaf k
      exact ⟨rs, e1, e2, Nat.le_trans e3 (Nat.pow_le_pow_right (n := 4) (by omega) (Nat.zero_le _)), e4⟩
    | n + 1, .inr ⟨j, bs, z, e, h2, h3, h4, hb⟩ =>
      subst e
      have hj : j < sizes.length := (List.getElem?_eq_some_iff.mp h2).1
      have hz4 := hz z (List.mem_of_getElem? h2)
      have ih := fun b v hb' => rules_ok h5 hz n m (met ++ [j]) b (putW ws j v) (by omega) (by rw [putW_len (by omega)]; exact hl) (putW_ok hw) (by omega) (hb b hb')
      let rf : Nat → List Rule := fun v => if h : v < bs.length then Classical.choose (ih bs[v] v (List.getElem_mem _)) else []
      have hrf : ∀ v (h : v < bs.length), fn_rules_of m [eIs sizes, bs[v], eWs (putW ws j v)] = some ((rf v).map eR) ∧ fn__law_leaves m [eIs sizes, bs[v], .list ((putW ws j v).map eW)] = some (.list ((rf v).map eR)) ∧ (rf v).length ≤ 4 ^ n ∧ ∀ r ∈ rf v, r.1.length = sizes.length ∧ ∀ w ∈ r.1, wantOk w := fun v h => by
        have := Classical.choose_spec (ih bs[v] v (List.getElem_mem _))
        simp only [rf, dif_pos h]
        exact this
      have hlen : ∀ i, i ≤ bs.length → ((List.range i).flatMap rf).length ≤ i * 4 ^ n := fun i => by
        induction i with
        | zero => intro _; simp
        | succ i ihi =>
          intro hi
          have := (hrf i (by omega)).2.2.1
          have := ihi (by omega)
          simp only [List.range_succ, List.flatMap_append, List.length_append, List.flatMap_cons, List.flatMap_nil, List.append_nil, Nat.succ_mul]
          omega
      have hp : 4 ^ n ≤ 4 ^ 6 := Nat.pow_le_pow_right (by omega) (by omega)
      have hmul : ∀ i, i ≤ bs.length → i * 4 ^ n ≤ 4 * 4 ^ n := fun i hi => Nat.mul_le_mul_right _ (by omega)
      have hc1 : cutD (ws.map eW) none (some (j : Int)) = (ws.take j).map eW := by rw [cut_take (by rw [List.length_map]; omega), List.map_take]
      have hc2 : cutD (ws.map eW) (some ((j : Int) + 1)) none = (ws.drop (j + 1)).map eW := by
        have := cut_drop (ds := ws.map eW) (k := j + 1) (by rw [List.length_map]; omega)
        rw [List.map_drop]
        exact_mod_cast this
      refine ⟨(List.range bs.length).flatMap rf, ?_, ?_, ?_, ?_⟩
      · rw [← Rs_eq]
        simp [fn_rules_of, runPL_ap, b_rules_of, testD, s_tl, h2, eI]
        rw [rng1_i (by omega) (by omega)]
        simp
        refine for_rs (fun i ρ s => s = [] ∧ ∃ x y, ρ = [.imm (eIs sizes), .imm (testD j bs), .imm (eWs ws), .own (((List.range i).flatMap rf).map eR), x, y]) ⟨rfl, _, _, rfl⟩ (fun i v ρ s hk hI => ?_) (fun ρ s hI => ?_)
        · obtain ⟨rfl, x, y, rfl⟩ := hI
          have hv : v < bs.length := by
            have := List.mem_of_getElem? hk
            have := List.mem_range.mp this
            omega
          have hi : i = v := by
            have := (List.getElem?_eq_some_iff.mp hk).2
            simpa using this
          subst hi
          have g3 : bs[i]? = some bs[i] := List.getElem?_eq_getElem hv
          have hli := hlen i (by omega)
          have hmi := hmul (i + 1) (by omega)
          rw [Nat.succ_mul] at hmi
          have hr1 := (hrf i hv).2.2.1
          have hs : (List.range (i + 1)).flatMap rf = (List.range i).flatMap rf ++ rf i := by simp [List.range_succ]
          rw [hs]
          generalize (List.range i).flatMap rf = acc at hli ⊢
          simp [testD, eWs, hc1, hc2]
          rw [chk_le (by omega)]
          simp
          rw [chk_le (by omega)]
          have q := (hrf i hv).1
          have e5 : PyData.tuple (List.map eW (List.take j ws) ++ PyData.tuple [PyData.int (i : Int)] :: List.map eW (List.drop (j + 1) ws)) = eWs (putW ws j i) := by
            unfold eWs putW
            simp [eW, eI]
          simp [g3, atI_n g3]
          simp only [List.map_take, List.map_drop] at e5
          rw [e5, q]
          simp
          rw [chk_le (by omega)]
          simp
          exact ⟨_, _, ⟨rfl, rfl⟩, rfl, _, _, rfl⟩
        · obtain ⟨rfl, x, y, rfl⟩ := hI
          simp [← h4]
      · rw [← Rs_eq]
        simp [fn__law_leaves, runP_ap, b__law_leaves, testD, s_tl, h2, eI]
        rw [rng1_i (by omega) (by omega)]
        simp
        refine for_rs (fun i ρ s => s = [] ∧ ∃ x, ρ = [.imm (eIs sizes), .imm (testD j bs), .imm (.list (ws.map eW)), .imm (.list (((List.range i).flatMap rf).map eR)), x]) ⟨rfl, _, rfl⟩ (fun i v ρ s hk hI => ?_) (fun ρ s hI => ?_)
        · obtain ⟨rfl, x, rfl⟩ := hI
          have hv : v < bs.length := by
            have := List.mem_of_getElem? hk
            have := List.mem_range.mp this
            omega
          have hi : i = v := by
            have := (List.getElem?_eq_some_iff.mp hk).2
            simpa using this
          subst hi
          have g3 : bs[i]? = some bs[i] := List.getElem?_eq_getElem hv
          have hli := hlen i (by omega)
          have hmi := hmul (i + 1) (by omega)
          rw [Nat.succ_mul] at hmi
          have hr1 := (hrf i hv).2.2.1
          have hs : (List.range (i + 1)).flatMap rf = (List.range i).flatMap rf ++ rf i := by simp [List.range_succ]
          rw [hs]
          generalize (List.range i).flatMap rf = acc at hli ⊢
          simp [testD, hc1, hc2]
          rw [chk_le (by omega)]
          simp
          rw [chk_le (by omega)]
          have q := (hrf i hv).2.1
          have e5 : (List.map eW (List.take j ws) ++ PyData.tuple [PyData.int (i : Int)] :: List.map eW (List.drop (j + 1) ws)) = (putW ws j i).map eW := by
            unfold putW
            simp [eW, eI]
          simp [g3, atI_n g3]
          simp only [List.map_take, List.map_drop] at e5
          rw [e5, q]
          simp
          rw [chk_le (by omega)]
          simp
          exact ⟨_, _, ⟨rfl, rfl⟩, rfl, _, rfl⟩
        · obtain ⟨rfl, x, rfl⟩ := hI
          simp [← h4]
      · have := hlen bs.length (Nat.le_refl _)
        have := hmul bs.length (Nat.le_refl _)
        rw [Nat.pow_succ]
        omega
      · intro r hr
        obtain ⟨v, hv, hr⟩ := List.mem_flatMap.mp hr
        exact (hrf v (List.mem_range.mp hv)).2.2.2 r hr
theorem noneW (n : Nat) : ∀ w ∈ List.replicate n (none : Want), wantOk w := fun w hw => .inl (List.eq_of_mem_replicate hw)
theorem flat_none (n : Nat) : (List.replicate n [PyData.none]).flatten = (List.replicate n (none : Want)).map eW := by
  induction n with
  | zero => rfl
  | succ n ih => rw [List.replicate_succ, List.flatten_cons, ih]; rfl
theorem asrules_ok {t : Table} (ht : WT t) {n : Nat} {d : D} (hn : n < 7) (h : IsTr t.1 n [] d) : ∃ rs : List Rule, fn_as_rules [eT t, d] = some (rs.map eR) ∧ fn__law_leaves 7 [eIs t.1, d, .list ((List.replicate t.1.length (none : Want)).map eW)] = some (.list (rs.map eR)) ∧ rs.length ≤ 4096 ∧ ∀ r ∈ rs, r.1.length ≤ 5 ∧ ∀ w ∈ r.1, wantOk w := by
  have h5 := ht.1.2.1
  obtain ⟨rs, e1, e2, e3, e4⟩ := rules_ok h5 ht.1.2.2 n 7 [] d (List.replicate t.1.length none) hn (by simp) (noneW _) (by omega) h
  have : 4 ^ n ≤ 4 ^ 6 := Nat.pow_le_pow_right (by omega) (by omega)
  refine ⟨rs, ?_, e2, by omega, fun r hr => ⟨by rw [(e4 r hr).1]; exact h5, (e4 r hr).2⟩⟩
  have nt := need_table_ok ht
  have nd := need_tree_ok ht.1 hn h
  simp [fn_as_rules, runPL_ap, b_as_rules, nt, nd]
  rw [mulD_t (by simp) (by omega) (by omega)]
  simp only [Int.toNat_natCast, flat_none]
  simp only [eWs, List.map_replicate] at e1
  simp [e1]
/-! ### shares and prices -/
def eSh (sh : List (List Int)) : D := .tuple (sh.map eIs)
def WSh (sizes : List Int) (sh : List (List Int)) (pr : List Int) : Prop := Pw (fun z r => (List.length r : Int) = z ∧ ∀ x ∈ r, 0 ≤ x ∧ x ≤ 99) sizes sh ∧ pr.length = sizes.length ∧ ∀ x ∈ pr, 0 ≤ x ∧ x ≤ 9
theorem need_shares_ok {sizes : List Int} {sh : List (List Int)} {pr : List Int} (hs : WS sizes) (h : WSh sizes sh pr) : fn_need_shares [eIs sizes, eSh sh, eIs pr] = some .none := by
  obtain ⟨h1, h2, h3⟩ := h
  have h5 := hs.2.1
  have hl := h1.length
  rw [← Rs_eq]
  simp [fn_need_shares, runP_ap, b_need_shares, eSh, eIs, h2, ← hl]
  rw [rng1_n (by omega)]
  simp
  refine for_rs (fun i ρ s => s = [] ∧ ∃ x y z, ρ = [.imm (eIs sizes), .imm (eSh sh), .imm (eIs pr), x, y, z]) ⟨rfl, _, _, _, rfl⟩ (fun i k ρ s hk hI => ?_) (fun ρ s hI => ?_)
  · obtain ⟨rfl, x, y, z, rfl⟩ := hI
    have hk : k < sizes.length := List.mem_range.mp (List.mem_of_getElem? hk)
    have g1 : sizes[k]? = some sizes[k] := List.getElem?_eq_getElem hk
    have g2 : sh[k]? = some sh[k] := List.getElem?_eq_getElem (by omega)
    have g3 : pr[k]? = some pr[k] := List.getElem?_eq_getElem (by omega)
    obtain ⟨q1, q2⟩ := h1.get g1 g2
    have q3 := h3 pr[k] (List.getElem_mem _)
    simp [eSh, eIs, g1, g2, g3, eI, is_whole_i, q1, q3]
    rw [comp_map (p := fun _ => false) (q := fun _ => .none)]
    · simp
      exact ⟨_, _, ⟨rfl, rfl⟩, rfl, _, _, _, rfl⟩
    · intro x hx
      have := q2 x hx
      simp [eI, is_whole_i]
      omega
  · obtain ⟨rfl, x, y, z, rfl⟩ := hI
    simp
theorem shares_ok {sc : List Int} {s : DL.Row} {sizes : List Int} (hs : RowI sc s) (hz : WS sizes) : Rs (fn__law_shares [eIs sizes] s) fun a => ∃ sh pr s', a = (.tuple [eSh sh, eIs pr], s') ∧ RowI sc s' ∧ WSh sizes sh pr := by
  have h5 := hz.2.1
  simp [fn__law_shares, runR_ap, b__law_shares]
  refine (taken_ok hs (by omega) (by omega)).mono ?_
  rintro _ ⟨v, s1, rfl, hs1, v0, v3⟩
  have hx : ∃ m : Int, L2.atI [PyData.int 2, .int 4, .int 100] v = some (.int m) ∧ 1 ≤ m ∧ m ≤ 100 := by
    have : v = 0 ∨ v = 1 ∨ v = 2 := by omega
    rcases this with rfl | rfl | rfl
    · exact ⟨2, rfl, by omega, by omega⟩
    · exact ⟨4, rfl, by omega, by omega⟩
    · exact ⟨100, rfl, by omega, by omega⟩
  obtain ⟨m, hm, m1, m2⟩ := hx
  simp [hm]
  refine comp_rs (RowI sc) (fun z (r : List Int) => (List.length r : Int) = z ∧ ∀ x ∈ r, 0 ≤ x ∧ x ≤ 99) eIs hs1 (fun z hz' s hs => ?_) (fun sh s' hs' hp => ?_)
  · have hz4 := hz.2.2 z hz'
    simp [eI]
    rw [rng1_i (by omega) (by omega)]
    simp
    refine comp_rs (RowI sc) (fun _ (x : Int) => 0 ≤ x ∧ x ≤ 99) eI hs (fun k hk s hs => ?_) (fun r s' hs' hp => ?_)
    · simp
      refine (taken_ok hs (by omega) (by omega)).mono ?_
      rintro _ ⟨v, s2, rfl, hs2, v0, v3⟩
      simp
      exact ⟨_, _, ⟨rfl, rfl⟩, hs2, by omega, by omega⟩
    · simp
      refine ⟨r, s', ⟨rfl, rfl⟩, hs', ?_, Pw.right (p := fun y => 0 ≤ y ∧ y ≤ 99) (fun _ _ h => h) hp⟩
      have := hp.length
      simp at this
      omega
  · refine comp_rs (RowI sc) (fun _ (x : Int) => 0 ≤ x ∧ x ≤ 9) eI hs' (fun z hz' s hs => ?_) (fun pr s' hs' hp2 => ?_)
    · simp
      refine (taken_ok hs (by omega) (by omega)).mono ?_
      rintro _ ⟨v, s2, rfl, hs2, v0, v3⟩
      have hx : ∃ m : Int, L2.atI [PyData.int 2, .int 10] v = some (.int m) ∧ 1 ≤ m ∧ m ≤ 10 := by
        have : v = 0 ∨ v = 1 := by omega
        rcases this with rfl | rfl
        · exact ⟨2, rfl, by omega, by omega⟩
        · exact ⟨10, rfl, by omega, by omega⟩
      obtain ⟨m2, hm2, m3, m4⟩ := hx
      simp [hm2]
      refine (taken_ok hs2 (by omega) (by omega)).mono ?_
      rintro _ ⟨u, s3, rfl, hs3, u0, u3⟩
      simp
      exact ⟨_, _, ⟨rfl, rfl⟩, hs3, by omega, by omega⟩
    · exact ⟨sh, pr, s', ⟨⟨rfl, rfl⟩, rfl⟩, hs', hp, hp2.length.symm, Pw.right (p := fun y => 0 ≤ y ∧ y ≤ 9) (fun _ _ h => h) hp2⟩
def WTr (t : Table) (d : D) : Prop := ∃ n, n < 7 ∧ IsTr t.1 n [] d
/-! ### the price -/
@[simp] theorem dataI : (OT.data ∘ OT.imm) = id := by funext d; rfl
theorem intsD_map {α : Type} (f : α → Int) : ∀ l : List α, intsD (l.map fun j => PyData.int (f j)) = some (l.map f)
  | [] => rfl
  | x :: l => by
    show (intsD (l.map _)).bind _ = _
    rw [intsD_map f l]
    rfl
theorem sum_small {α : Type} (f : α → Int) : ∀ l : List α, (∀ x ∈ l, 0 ≤ f x ∧ f x ≤ 9) → 0 ≤ (l.map f).sum ∧ (l.map f).sum ≤ 9 * l.length
  | [], _ => by simp
  | x :: l, h => by
    have := h x (by simp)
    have := sum_small f l fun y hy => h y (by simp [hy])
    simp
    omega
theorem priced_ok {t : Table} {d : D} {sh : List (List Int)} {pr : List Int} (ht : WT t) (hd : WTr t d) (h : WSh t.1 sh pr) : ∃ x : Int, fn_priced [eT t, d, eSh sh, eIs pr] = some (.int x) ∧ fn__law_price [eIs t.1, d, eSh sh, eIs pr] = some (.int x) := by
  classical
  obtain ⟨n, hn, hd⟩ := hd
  have nt := need_table_ok ht
  have nd := need_tree_ok ht.1 hn hd
  have ns := need_shares_ok ht.1 h
  obtain ⟨h1, h2, h3⟩ := h
  have hl := h1.length
  have h5 := ht.1.2.1
  let wf : List Int → Int := fun c => (List.range c.length).foldl (fun w k => w * ((sh.getD k []).getD (c.getD k 0).toNat 0)) 1
  let W : List Int → List Nat := fun c => if h : WC t.1 c then (Classical.choose (walk_ok ht.1 h hn hd)).1 else []
  let sf : List Int → Int := fun c => ((W c).map fun j => pr.getD j 0).sum
  have hw : ∀ c ∈ casesL t.1, WC t.1 c ∧ ∃ k, fn__law_walk 7 [d, eIs c] = some (walkD (W c, k)) ∧ fn_walk [d, eIs c] = some (.tup [.lst ((eNs (W c)).map .imm), .imm (encK k)]) ∧ (W c).length ≤ 6 ∧ ∀ j ∈ W c, j < t.1.length := fun c hc => by
    have h := casesL_wc (fun x hx => (ht.1.2.2 x hx).1) c hc
    obtain ⟨q1, q2, q3, q4, q5⟩ := Classical.choose_spec (walk_ok ht.1 h hn hd)
    refine ⟨h, (Classical.choose (walk_ok ht.1 h hn hd)).2, ?_⟩
    simp only [W, dif_pos h]
    exact ⟨q1, q2, q3, q4⟩
  refine ⟨(casesL t.1).foldl (fun a c => a + wf c * sf c) 0, ?_, ?_⟩
  · rw [← Rs_eq]
    simp [fn_priced, runP_ap, b_priced, nt, nd, ns, all_cases_ok ht.1]
    refine for_fold (fun (a : Int) ρ s => s = [] ∧ ∃ x y z v, ρ = [.imm (eT t), .imm d, .imm (eSh sh), .imm (eIs pr), .imm (.int a), x, y, z, v]) (fun a c => a + wf c * sf c) 0 ⟨rfl, _, _, _, _, rfl⟩ (fun c a ρ s hc hI => ?_) (fun ρ s hI => ?_)
    · obtain ⟨rfl, x, y, z, v, rfl⟩ := hI
      obtain ⟨hcw, k, q1, q2, q3, q4⟩ := hw c hc
      have hcl : t.1.length = c.length := hcw.length
      simp
      rw [rng1_n (by omega)]
      simp
      refine for_foldA (α := Nat) (enc := fun i => .int (i : Int)) (fun i (w : Int) ρ s => s = [] ∧ ∃ z, ρ = [.imm (eT t), .imm d, .imm (eSh sh), .imm (eIs pr), .imm (.int a), .imm (eIs c), .imm (.int w), z, v]) (fun w k => w * ((sh.getD k []).getD (c.getD k 0).toNat 0)) 1 ⟨rfl, _, rfl⟩ (fun i k w ρ s hk hI => ?_) (fun ρ s hI => ?_)
      · obtain ⟨rfl, z, rfl⟩ := hI
        have hk : k < c.length := List.mem_range.mp (List.mem_of_getElem? hk)
        have g1 : t.1[k]? = some t.1[k] := List.getElem?_eq_getElem (by omega)
        have g2 : sh[k]? = some sh[k] := List.getElem?_eq_getElem (by omega)
        have g3 : c[k]? = some c[k] := List.getElem?_eq_getElem hk
        obtain ⟨p1, p2⟩ := h1.get g1 g2
        have p3 := hcw.get g1 g3
        obtain ⟨u, hu⟩ : ∃ u : Nat, c[k] = (u : Int) := ⟨c[k].toNat, by omega⟩
        have hlt : u < sh[k].length := by omega
        have g4 : sh[k][u]? = some sh[k][u] := List.getElem?_eq_getElem hlt
        have p4 := p2 sh[k][u] (List.getElem_mem _)
        simp [eSh, eIs, g2, g3, eI, hu, g4]
        rw [mulD_i (.inr (by omega))]
        simp
        exact ⟨_, _, ⟨rfl, rfl⟩, rfl, _, rfl⟩
      · obtain ⟨rfl, z, rfl⟩ := hI
        simp [q2, dataI]
        rw [show eNs (W c) = (W c).map eN from rfl, comp_map' (q := fun j => .int (pr.getD j 0))]
        · have hsm := sum_small (fun j => pr[j]?.getD 0) (W c) fun j hj => by
            have hj := q4 j hj
            have g5 : pr[j]? = some pr[j] := List.getElem?_eq_getElem (by omega)
            have := h3 pr[j] (List.getElem_mem _)
            simp [g5]
            omega
          simp [intsD_map]
          rw [mulD_i (.inr (by omega))]
          simp
          exact ⟨_, _, ⟨rfl, rfl⟩, rfl, _, _, _, _, rfl⟩
        · intro j hj
          have hj := q4 j hj
          have g5 : pr[j]? = some pr[j] := List.getElem?_eq_getElem (by omega)
          simp [eN, g5, eI]
    · obtain ⟨rfl, x, y, z, v, rfl⟩ := hI
      simp
  · rw [← Rs_eq]
    simp [fn__law_price, runP_ap, b__law_price, lawcases_ok ht.1]
    refine for_fold (fun (a : Int) ρ s => s = [] ∧ ∃ x y z, ρ = [.imm (eIs t.1), .imm d, .imm (eSh sh), .imm (eIs pr), .imm (.int a), x, y, z]) (fun a c => a + wf c * sf c) 0 ⟨rfl, _, _, _, rfl⟩ (fun c a ρ s hc hI => ?_) (fun ρ s hI => ?_)
    · obtain ⟨rfl, x, y, z, rfl⟩ := hI
      obtain ⟨hcw, k, q1, q2, q3, q4⟩ := hw c hc
      have hcl : t.1.length = c.length := hcw.length
      simp
      rw [rng1_n (by omega)]
      simp
      refine for_foldA (α := Nat) (enc := fun i => .int (i : Int)) (fun i (w : Int) ρ s => s = [] ∧ ∃ z, ρ = [.imm (eIs t.1), .imm d, .imm (eSh sh), .imm (eIs pr), .imm (.int a), .imm (eIs c), .imm (.int w), z]) (fun w k => w * ((sh.getD k []).getD (c.getD k 0).toNat 0)) 1 ⟨rfl, _, rfl⟩ (fun i k w ρ s hk hI => ?_) (fun ρ s hI => ?_)
      · obtain ⟨rfl, z, rfl⟩ := hI
        have hk : k < c.length := List.mem_range.mp (List.mem_of_getElem? hk)
        have g1 : t.1[k]? = some t.1[k] := List.getElem?_eq_getElem (by omega)
        have g2 : sh[k]? = some sh[k] := List.getElem?_eq_getElem (by omega)
        have g3 : c[k]? = some c[k] := List.getElem?_eq_getElem hk
        obtain ⟨p1, p2⟩ := h1.get g1 g2
        have p3 := hcw.get g1 g3
        obtain ⟨u, hu⟩ : ∃ u : Nat, c[k] = (u : Int) := ⟨c[k].toNat, by omega⟩
        have hlt : u < sh[k].length := by omega
        have g4 : sh[k][u]? = some sh[k][u] := List.getElem?_eq_getElem hlt
        have p4 := p2 sh[k][u] (List.getElem_mem _)
        simp [eSh, eIs, g2, g3, eI, hu, g4]
        rw [mulD_i (.inr (by omega))]
        simp
        exact ⟨_, _, ⟨rfl, rfl⟩, rfl, _, rfl⟩
      · obtain ⟨rfl, z, rfl⟩ := hI
        simp [q1, walkD]
        rw [show eNs (W c) = (W c).map eN from rfl, comp_map' (q := fun j => .int (pr.getD j 0))]
        · have hsm := sum_small (fun j => pr[j]?.getD 0) (W c) fun j hj => by
            have hj := q4 j hj
            have g5 : pr[j]? = some pr[j] := List.getElem?_eq_getElem (by omega)
            have := h3 pr[j] (List.getElem_mem _)
            simp [g5]
            omega
          simp [intsD_map]
          rw [mulD_i (.inr (by omega))]
          simp
          exact ⟨_, _, ⟨rfl, rfl⟩, rfl, _, _, _, rfl⟩
        · intro j hj
          have hj := q4 j hj
          have g5 : pr[j]? = some pr[j] := List.getElem?_eq_getElem (by omega)
          simp [eN, g5, eI]
    · obtain ⟨rfl, x, y, z, rfl⟩ := hI
      simp
instance : Nonempty (List Nat × Kd) := ⟨([], .gap)⟩
open Classical in
noncomputable def wk (sizes : List Int) (d : D) (c : List Int) : List Nat × Kd := epsilon fun p => fn__law_walk 7 [d, eIs c] = some (walkD p) ∧ fn_walk [d, eIs c] = some (.tup [.lst ((eNs p.1).map .imm), .imm (encK p.2)]) ∧ p.1.length ≤ 6 ∧ (∀ j ∈ p.1, j < sizes.length) ∧ WK p.2
theorem wk_ok {t : Table} {d : D} {c : List Int} (ht : WT t) (hd : WTr t d) (hc : WC t.1 c) : fn__law_walk 7 [d, eIs c] = some (walkD (wk t.1 d c)) ∧ fn_walk [d, eIs c] = some (.tup [.lst ((eNs (wk t.1 d c).1).map .imm), .imm (encK (wk t.1 d c).2)]) ∧ (wk t.1 d c).1.length ≤ 6 ∧ (∀ j ∈ (wk t.1 d c).1, j < t.1.length) ∧ WK (wk t.1 d c).2 := by
  obtain ⟨n, hn, hd⟩ := hd
  exact Classical.epsilon_spec (walk_ok ht.1 hc hn hd)
def kk (t : Table) (w : Str) (c : List Int) : Kd := kK w ((holdL t c).map (deedAt t.2))
noncomputable def misB (t : Table) (w : Str) (d : D) (c : List Int) : Bool := !decide ((wk t.1 d c).2 = kk t w c)
theorem findSome_filter {α β : Type} (p : α → Bool) (g : α → β) : ∀ xs : List α, xs.findSome? (fun x => if p x then some (g x) else none) = (xs.find? p).map g
  | [] => rfl
  | x :: xs => by
    rw [List.findSome?_cons, List.find?_cons]
    cases p x with
    | true => rfl
    | false => simpa using findSome_filter p g xs
theorem shows_ok {t : Table} {w : Str} {d : D} (ht : WT t) (hw : WWay w) (hd : WTr t d) : fn_shows [eT t, .str w, d] = some ((((casesL t.1).find? (misB t w d)).map eIs).getD .none) := by
  obtain ⟨n, hn, hd'⟩ := id hd
  have nt := need_table_ok ht
  have nd := need_tree_ok ht.1 hn hd'
  rw [← Rs_eq]
  simp [fn_shows, runP_ap, b_shows, nt, nd, need_way_ok hw, all_cases_ok ht.1, allkinds_ok ht hw, zip2L_map]
  rw [← findSome_filter]
  refine for_find (fun ρ s => s = [] ∧ ∃ x y, ρ = [.imm (eT t), .imm (.str w), .imm d, x, y]) (fun c => if misB t w d c then some (eIs c) else none) ⟨rfl, _, _, rfl⟩ (fun c ρ s hc hI => ?_) (fun d' ρ s e hI => ?_) (fun ρ s e hI => ?_)
  · obtain ⟨rfl, x, y, rfl⟩ := hI
    have hcw := casesL_wc (fun x hx => (ht.1.2.2 x hx).1) c hc
    obtain ⟨q1, q2, q3, q4, q5⟩ := wk_ok ht hd hcw
    simp [q2, kindD_K hw, misB, kk]
    by_cases e : (wk t.1 d c).2 = kK w (List.map (deedAt t.2) (holdL t c))
    · simp [e]
      exact ⟨_, _, ⟨rfl, rfl⟩, rfl, _, _, rfl⟩
    · simp [e]
  · obtain ⟨rfl, x, y, rfl⟩ := hI
    simp [e]
  · obtain ⟨rfl, x, y, rfl⟩ := hI
    simp [e]
theorem atI_kinds {v n : Int} (h0 : 0 ≤ v) (h4 : v < 4) (hn : 0 ≤ n ∧ n ≤ 9) : ∃ k, WK k ∧ L2.atI [PyData.tuple [.str "gap"], .tuple [.str "clash"], .tuple [.str "deed", .int n], .tuple [.str "deed", .none]] v = some (encK k) := by
  have : v = 0 ∨ v = 1 ∨ v = 2 ∨ v = 3 := by omega
  rcases this with rfl | rfl | rfl | rfl
  · exact ⟨.gap, (fun d e => by cases e), rfl⟩
  · exact ⟨.clash, (fun d e => by cases e), rfl⟩
  · exact ⟨.deed (some n), (fun d e => by cases e; intro m e; cases e; exact hn), rfl⟩
  · exact ⟨.deed none, (fun d e => by cases e; intro m e; cases e), rfl⟩
theorem law_tree_ok {sc sizes : List Int} (h5 : sizes.length ≤ 5) (hz : ∀ x ∈ sizes, 2 ≤ x ∧ x ≤ 4) : ∀ (n m : Nat) (left met : List Nat) (s : DL.Row), n < m → left.length ≤ 5 → RowI sc s → (∀ j ∈ left, j < sizes.length ∧ j ∉ met) →
    Rs (fn__law_tree m [eIs sizes, .list (eNs left), .int (n : Int)] s) fun a => ∃ t s', a = (t, s') ∧ RowI sc s' ∧ IsTr sizes n met t
  | n, 0, left, met, s, h, _, _, _ => by omega
  | n, m + 1, left, met, s, h, hl5, hs, hl => by
    simp [fn__law_tree, runR_ap, b__law_tree]
    have first : Rs (if eNs left = [] then some (true, s) else if n = 0 then some (true, s) else ((fn__law_taken [PyData.int 4] s).bind fun x => (eqD x.fst (PyData.int 3)).bind fun z => some (z, x.snd)).bind fun x => (isB x.fst).bind fun b => some (b, x.snd)) fun b => RowI sc b.2 ∧ (b.1 = false → left ≠ [] ∧ n ≠ 0) := by
      split
      · exact ⟨_, rfl, hs, by simp⟩
      · rename_i hne
        split
        · exact ⟨_, rfl, hs, by simp⟩
        · rename_i hn0
          simp
          refine (taken_ok hs (by omega) (by omega)).mono ?_
          rintro _ ⟨v, s1, rfl, hs1, v0, v4⟩
          simp [hs1, hn0]
          intro _ e
          exact hne (by rw [e]; rfl)
    refine first.mono ?_
    rintro ⟨b, s1⟩ ⟨hs1, hb⟩
    have hs1 : RowI sc s1 := hs1
    cases b with
    | true =>
      simp
      refine (taken_ok hs1 (by omega) (by omega)).mono ?_
      rintro _ ⟨v, s2, rfl, hs2, v0, v4⟩
      simp
      refine (taken_ok hs2 (by omega) (by omega)).mono ?_
      rintro _ ⟨u, s3, rfl, hs3, u0, u4⟩
      obtain ⟨k, hk, ek⟩ := atI_kinds u0 u4 (n := v) (by omega)
      simp [ek]
      exact ⟨_, _, ⟨rfl, rfl⟩, hs3, IsTr.leaf hk⟩
    | false =>
      obtain ⟨hne, hn0⟩ := hb rfl
      obtain ⟨n, rfl⟩ : ∃ k, n = k + 1 := ⟨n - 1, by omega⟩
      have hlen : 0 < left.length := List.length_pos_iff.mpr hne
      simp
      refine (taken_ok hs1 (by simp [eNs]; omega) (by simp [eNs]; omega)).mono ?_
      rintro _ ⟨v, s2, rfl, hs2, v0, v4⟩
      obtain ⟨v, rfl⟩ : ∃ k : Nat, v = (k : Int) := ⟨v.toNat, by omega⟩
      have hv : v < left.length := by simp [eNs] at v4; omega
      have g : left[v]? = some left[v] := List.getElem?_eq_getElem hv
      obtain ⟨hj, hjm⟩ := hl left[v] (List.getElem_mem _)
      generalize left[v] = j at *
      have gz : sizes[j]? = some sizes[j] := List.getElem?_eq_getElem hj
      have hz4 := hz sizes[j] (List.getElem_mem _)
      simp [eNs, g]
      rw [comp_map (p := fun x => !decide (x = j)) (q := eN)]
      · simp [gz, eN]
        have ez : eI sizes[j] = .int sizes[j] := rfl
        rw [ez, rng1_i (by omega) (by omega)]
        simp
        refine comp_rs (RowI sc) (fun _ b => IsTr sizes n (met ++ [j]) b) id hs2 (fun k hk s hs => ?_) (fun bs s' hs' hp => ?_)
        · have hr : ∀ i ∈ left.filter (fun x => !decide (x = j)), i < sizes.length ∧ i ∉ met ++ [j] := fun i hi => by
            obtain ⟨h1, h2⟩ := List.mem_filter.mp hi
            have := hl i h1
            simp at h2
            simp [this, h2]
          have e1 : (n : Int) + 1 - 1 = n := by omega
          have ih := law_tree_ok h5 hz n m (left.filter (fun x => !decide (x = j))) (met ++ [j]) s (by omega) (Nat.le_trans (List.length_filter_le _ _) hl5) hs hr
          simp only [eNs] at ih
          simp [e1]
          exact ih
        · simp
          refine ⟨_, _, ⟨rfl, rfl⟩, hs', .inr ⟨j, bs, sizes[j], rfl, gz, hjm, ?_, Pw.right (p := fun b => IsTr sizes n (met ++ [j]) b) (fun _ _ h => h) hp⟩⟩
          have := hp.length
          simp at this
          omega
      · intro x hx
        simp [eN]
        omega
/-! ### right trees -/
def eP (p : List Int × Kd) : D := .tuple [eIs p.1, encK p.2]
structure Rt (sizes : List Int) (some : List (List Int × Kd)) (left : List Nat) : Prop where
  ne : some ≠ []
  fn : ∀ a ∈ some, ∀ b ∈ some, a.1 = b.1 → a.2 = b.2
  wc : ∀ a ∈ some, WC sizes a.1
  wk : ∀ a ∈ some, WK a.2
  ag : ∀ j, j < sizes.length → j ∉ left → ∀ a ∈ some, ∀ b ∈ some, a.1[j]? = b.1[j]?
  cl : ∀ a ∈ some, ∀ j ∈ left, ∀ z, sizes[j]? = Option.some z → ∀ v : Nat, (v : Int) < z → ∃ b ∈ some, b.1 = a.1.set j (v : Int)
theorem Rt.sub {sizes : List Int} {some : List (List Int × Kd)} {left : List Nat} (h : Rt sizes some left) {j : Nat} (hj : j ∈ left) (hjs : j < sizes.length) {z : Int} (hz : sizes[j]? = Option.some z) {v : Nat} (hv : (v : Int) < z) :
    Rt sizes (some.filter fun p => decide (p.1[j]? = Option.some (v : Int))) (left.filter fun x => !decide (x = j)) := by
  have cl2 : ∀ a ∈ some, ∃ b ∈ some, b.1 = a.1.set j (v : Int) := fun a ha => h.cl a ha j hj z hz v hv
  have hlen : ∀ a ∈ some, a.1.length = sizes.length := fun a ha => (h.wc a ha).length.symm
  refine ⟨?_, ?_, ?_, ?_, ?_, ?_⟩
  · obtain ⟨a, ha⟩ := List.exists_mem_of_ne_nil _ h.ne
    obtain ⟨b, hb, e⟩ := cl2 a ha
    apply List.ne_nil_of_mem (a := b)
    rw [List.mem_filter]
    refine ⟨hb, ?_⟩
    have := hlen a ha
    rw [e, List.getElem?_set_self (by omega)]
    simp
  · intro a ha b hb
    exact h.fn a (List.mem_filter.mp ha).1 b (List.mem_filter.mp hb).1
  · exact fun a ha => h.wc a (List.mem_filter.mp ha).1
  · exact fun a ha => h.wk a (List.mem_filter.mp ha).1
  · intro i hi hn a ha b hb
    obtain ⟨ha, ha2⟩ := List.mem_filter.mp ha
    obtain ⟨hb, hb2⟩ := List.mem_filter.mp hb
    simp at ha2 hb2
    by_cases e : i = j
    · subst e; rw [ha2, hb2]
    · exact h.ag i hi (fun hm => hn (List.mem_filter.mpr ⟨hm, by simp [e]⟩)) a ha b hb
  · intro a ha i hi z' hz' u hu
    obtain ⟨ha, ha2⟩ := List.mem_filter.mp ha
    obtain ⟨hi, hi2⟩ := List.mem_filter.mp hi
    simp at ha2 hi2
    obtain ⟨b, hb, e⟩ := h.cl a ha i hi z' hz' u hu
    refine ⟨b, List.mem_filter.mpr ⟨hb, ?_⟩, e⟩
    rw [e, List.getElem?_set_ne hi2, ha2]
    simp
theorem Rt.one {sizes : List Int} {some : List (List Int × Kd)} (h : Rt sizes some []) : ∀ a ∈ some, ∀ b ∈ some, a.2 = b.2 := fun a ha b hb => by
  refine h.fn a ha b hb (List.ext_getElem? fun j => ?_)
  by_cases hj : j < sizes.length
  · exact h.ag j hj (by simp) a ha b hb
  · have h1 := (h.wc a ha).length
    have h2 := (h.wc b hb).length
    rw [List.getElem?_eq_none (by omega), List.getElem?_eq_none (by omega)]
theorem pw_snoc {α β : Type} {R : α → β → Prop} : ∀ {xs : List α} {x : α} {ys : List β}, Pw R (xs ++ [x]) ys → ∃ ys' y, ys = ys' ++ [y] ∧ Pw R xs ys' ∧ R x y
  | [], x, _, .cons h t => by
    cases t
    exact ⟨[], _, rfl, .nil, h⟩
  | a :: xs, x, _, .cons h t => by
    obtain ⟨ys', y, rfl, h1, h2⟩ := pw_snoc t
    exact ⟨_ :: ys', y, rfl, .cons h h1, h2⟩
theorem mem_casesL {sizes : List Int} (hz : ∀ x ∈ sizes, 2 ≤ x) {c : List Int} (h : WC sizes c) : c ∈ casesL sizes := by
  induction sizes using snoc_ind generalizing c with
  | h0 => cases h; simp [casesL]
  | h1 p s ih =>
    rw [casesL_snoc]
    obtain ⟨c', v, rfl, h1, h2⟩ := pw_snoc h
    unfold moreC
    rw [List.mem_flatMap]
    refine ⟨c', ih (fun x hx => hz x (by simp [hx])) h1, ?_⟩
    rw [List.mem_map]
    exact ⟨v.toNat, by rw [List.mem_range]; omega, by rw [Int.toNat_of_nonneg h2.1]⟩
theorem count_all {k : Kd} : ∀ l : List (List Int × Kd), (∀ a ∈ l, a.2 = k) → (l.map fun p => encK p.2).countP (fun z => PyData.eqv z (encK k)) = l.length
  | [], _ => rfl
  | a :: l, h => by
    rw [List.map_cons, List.countP_cons, count_all l fun b hb => h b (by simp [hb]), h a (by simp), encK_eqv]
    simp
theorem right_tree_ok {sc sizes : List Int} (h5 : sizes.length ≤ 5) (hz : ∀ x ∈ sizes, 2 ≤ x ∧ x ≤ 4) : ∀ (n m : Nat) (some : List (List Int × Kd)) (left met : List Nat) (s : DL.Row), n < m → left.length ≤ n → left.length ≤ 5 → RowI sc s → (∀ j ∈ left, j < sizes.length ∧ j ∉ met) → Rt sizes some left → some.length ≤ 1024 →
    Rs (fn__law_right_tree m [eIs sizes, .list (some.map eP), .list (eNs left)] s) fun a => ∃ t s', a = (t, s') ∧ RowI sc s' ∧ IsTr sizes n met t
  | n, 0, so, left, met, s, h, _, _, _, _, _, _ => by omega
  | n, m + 1, so, left, met, s, h, hln, hl5, hs, hl, hR, hlen => by
    simp [fn__law_right_tree, runR_ap, b__law_right_tree]
    rw [comp_map' (q := fun p : List Int × Kd => encK p.2)]
    · obtain ⟨a, r, rfl⟩ : ∃ a r, so = a :: r := by
        cases so with
        | nil => exact (hR.ne rfl).elim
        | cons a r => exact ⟨a, r, rfl⟩
      have hdep : PyData.depth (encK a.2) ≤ 60 := Nat.le_trans (encK_depth _) (by omega)
      have hcnt : left = [] → ((((a :: r).map fun p => encK p.2).countP (fun z => PyData.eqv z (encK a.2)) : Nat) : Int) = r.length + 1 := fun e => by
        subst e
        rw [count_all _ fun b hb => hR.one b hb a (by simp)]
        simp
      generalize hN : ((a :: r).map fun p => encK p.2).countP (fun z => PyData.eqv z (encK a.2)) = N at hcnt
      simp only [List.map_cons] at hN
      simp [hdep, hN]
      refine (?first : Rs _ (fun b : Bool × DL.Row => RowI sc b.2 ∧ (b.1 = false → left ≠ []))).mono ?_
      · split
        · split
          · exact ⟨_, rfl, hs, by simp⟩
          · rename_i hne
            simp
            refine (taken_ok hs (by omega) (by omega)).mono ?_
            rintro _ ⟨v, s1, rfl, hs1, v0, v4⟩
            simp [hs1]
            intro _ e
            exact hne (by rw [e]; rfl)
        · rename_i hh
          exact ⟨_, rfl, hs, fun _ e => hh (by simpa using hcnt e)⟩
      rintro ⟨b, s1⟩ ⟨hs1, hb⟩
      have hs1 : RowI sc s1 := hs1
      cases b with
      | true =>
        simp
        exact ⟨_, _, ⟨rfl, rfl⟩, hs1, IsTr.leaf (hR.wk a (by simp))⟩
      | false =>
        have hne := hb rfl
        have hlp : 0 < left.length := List.length_pos_iff.mpr hne
        obtain ⟨n, rfl⟩ : ∃ k, n = k + 1 := ⟨n - 1, by omega⟩
        simp
        refine (taken_ok hs1 (by simp [eNs]; omega) (by simp [eNs]; omega)).mono ?_
        rintro _ ⟨v, s2, rfl, hs2, v0, v4⟩
        obtain ⟨v, rfl⟩ : ∃ k : Nat, v = (k : Int) := ⟨v.toNat, by omega⟩
        have hv : v < left.length := by simp [eNs] at v4; omega
        have g : left[v]? = some left[v] := List.getElem?_eq_getElem hv
        have hjl : left[v] ∈ left := List.getElem_mem _
        obtain ⟨hj, hjm⟩ := hl left[v] hjl
        generalize left[v] = j at *
        have gz : sizes[j]? = some sizes[j] := List.getElem?_eq_getElem hj
        have hz4 := hz sizes[j] (List.getElem_mem _)
        simp [eNs, g]
        rw [comp_map (p := fun x => !decide (x = j)) (q := eN)]
        · simp [gz, eN]
          have ez : eI sizes[j] = .int sizes[j] := rfl
          rw [ez, rng1_i (by omega) (by omega)]
          simp
          have hll : (left.filter (fun x => !decide (x = j))).length < left.length := by
            rw [List.length_filter_lt_length_iff_exists]
            exact ⟨j, hjl, by simp⟩
          have hr : ∀ i ∈ left.filter (fun x => !decide (x = j)), i < sizes.length ∧ i ∉ met ++ [j] := fun i hi => by
            obtain ⟨h1, h2⟩ := List.mem_filter.mp hi
            have := hl i h1
            simp at h2
            simp [this, h2]
          generalize hLf : left.filter (fun x => !decide (x = j)) = lf at *
          refine for_rs (fun i ρ s => RowI sc s ∧ ∃ (bs : List D) (x y z w : Sl), bs.length = i ∧ (∀ b ∈ bs, IsTr sizes n (met ++ [j]) b) ∧ ρ = [Sl.row, Sl.imm (eIs sizes), Sl.imm (PyData.list ((a :: r).map eP)),
            Sl.imm (PyData.list (List.map eN left)), Sl.imm (PyData.list (encK a.snd :: List.map (fun p => encK p.snd) r)),
            Sl.imm (PyData.int j), Sl.imm (PyData.list (List.map eN lf)), Sl.own bs, x, y, z, w]) ⟨hs2, [], _, _, _, _, rfl, by simp, rfl⟩ (fun i k ρ s hk hI => ?_) (fun ρ s hI => ?_)
          · obtain ⟨hs, bs, x, y, z, w, hbl, hbs, rfl⟩ := hI
            have hkl : k < sizes[j].toNat := List.mem_range.mp (List.mem_of_getElem? hk)
            have hi : i < sizes[j].toNat := by simpa using (List.getElem?_eq_some_iff.mp hk).1
            have hRs := hR.sub hjl hj gz (v := k) (by omega)
            rw [hLf] at hRs
            have hll2 : ((a :: r).filter fun p => decide (p.1[j]? = some (k : Int))).length ≤ 1024 := Nat.le_trans (List.length_filter_le _ _) hlen
            have ih := right_tree_ok h5 hz n m ((a :: r).filter fun p => decide (p.1[j]? = some (k : Int))) lf (met ++ [j]) s (by omega) (by omega) (by omega) hs hr hRs hll2
            simp only [eNs] at ih
            simp
            rw [show eP a :: List.map eP r = (a :: r).map eP from rfl, comp_map (p := fun p : List Int × Kd => decide (p.1[j]? = some (k : Int))) (q := eP)]
            · simp
              refine ih.mono ?_
              rintro _ ⟨b, s3, rfl, hs3, hb⟩
              rw [chkA_lt (by omega)]
              simp
              refine ⟨_, _, ⟨rfl, rfl⟩, hs3, bs ++ [b], by simp; omega, fun c hc => ?_, _, _, _, _, rfl⟩
              simp at hc
              rcases hc with hc | rfl
              · exact hbs c hc
              · exact hb
            · intro p hp
              have hwc := (hR.wc p hp).length
              have g5 : p.1[j]? = some p.1[j] := List.getElem?_eq_getElem (by omega)
              simp [eP, g5, eI]
          · obtain ⟨hs, bs, x, y, z, w, hbl, hbs, rfl⟩ := hI
            simp
            refine ⟨_, _, ⟨rfl, rfl⟩, hs, .inr ⟨j, bs, sizes[j], rfl, gz, hjm, ?_, hbs⟩⟩
            simp at hbl
            omega
        · intro x hx
          simp [eN]
          omega
    · intro p hp
      simp [eP]
end PC

set_option maxHeartbeats 1000000
/-! What the program's defs and the law's reckon, as functions of data. -/
namespace PC
open PySem DL
def b_answer : SS := (sSeq (sSet 3 (eL (lCall 2 fn_holding (aCons (eVar 0) (aCons (eVar 2) aNil)))))
  (sSeq (sIf (bVal (eOp eqD (eVar 3) (eL (lLst aNil)))) (sRet (eTup (aCons (eC (.str "gap")) aNil))) sNext)
  (sSeq (sSet 4 (eCall 3 fn_clashing (aCons (eVar 0) (aCons (eVar 1) (aCons (eVar 3) aNil)))))
  (sRet (eIf (bVal (eOp isND (eVar 4) (eC .none))) (eTup (aCons (eC (.str "deed")) (aCons (eIx (rE (eIx (rE (eIx (rVar 0) (eC (.int 1)))) (eIx (rVar 3) (eC (.int 0))))) (eC (.int 1))) aNil))) (eOp addD (eTup (aCons (eC (.str "clash")) aNil)) (eVar 4)))))))
def fn_answer : List D → Option D := runP 5 b_answer
def b_told : SS := (sSeq (sDrop (eCall 1 fn_need_table (aCons (eVar 0) aNil)))
  (sSeq (sDrop (eCall 1 fn_need_way (aCons (eVar 1) aNil)))
  (sSeq (sDrop (eCall 2 fn_need_case (aCons (eIx (rVar 0) (eC (.int 0))) (aCons (eVar 2) aNil))))
  (sRet (eCall 3 fn_answer (aCons (eVar 0) (aCons (eVar 1) (aCons (eVar 2) aNil))))))))
def fn_told : List D → Option D := runP 3 b_told
def b_full : SS := (sRet (eIf (bVal (eOp isND (eVar 0) (eC .none))) (eTupRng (eVar 1)) (eVar 0)))
def fn_full : List D → Option D := runP 2 b_full
def b_behind : SS := (sSeq (sDrop (eCall 1 fn_need_table (aCons (eVar 0) aNil)))
  (sSeq (sDrop (eCall 1 fn_need_table (aCons (eVar 1) aNil)))
  (sSeq (sIf (bNot (bVal (eCall 3 fn_is_whole (aCons (eVar 2) (aCons (eC (.int 0)) (aCons (eOp subD (eLen (rE (eIx (rVar 1) (eC (.int 0))))) (eC (.int 1))) aNil)))))) (sRaise0 "BadCase") sNext)
  (sSeq (sSet 3 (eOp addD (eOp addD (eIx (rVar 0) (eC (.int 0))) (eSl (eIx (rVar 1) (eC (.int 0))) oNo (oPart (eVar 2)))) (eSl (eIx (rVar 1) (eC (.int 0))) (oPart (eOp addD (eVar 2) (eC (.int 1)))) oNo)))
  (sSeq (sIf (bVal (eOp gtD (eLen (rVar 3)) (eC (.int 5)))) (sRaise0 "TooMany") sNext)
  (sSeq (sSetL 4 (lLst aNil))
  (sSeq (sSet 5 (eOp mulD (eTup (aCons (eC .none) aNil)) (eOp subD (eLen (rE (eIx (rVar 1) (eC (.int 0))))) (eC (.int 1)))))
  (sSeq (sFor (rE (eIx (rVar 0) (eC (.int 1)))) (hTup (hCons (hName 6) (hCons (hName 7) hNil))) (sSeq (sFor (rE (eIx (rVar 1) (eC (.int 1)))) (hTup (hCons (hName 8) (hCons (hName 9) hNil))) (sIf (bAnd (bVal (eOp notND (eVar 7) (eC .none))) (bVal (eOp inD (eVar 7) (eCall 2 fn_full (aCons (eIx (rVar 8) (eVar 2)) (aCons (eIx (rE (eIx (rVar 1) (eC (.int 0)))) (eVar 2)) aNil)))))) (sApp 4 (eTup (aCons (eOp addD (eOp addD (eVar 6) (eSl (eVar 8) oNo (oPart (eVar 2)))) (eSl (eVar 8) (oPart (eOp addD (eVar 2) (eC (.int 1)))) oNo)) (aCons (eVar 9) aNil)))) sNext))
  (sApp 4 (eTup (aCons (eOp addD (eVar 6) (eVar 5)) (aCons (eC .none) aNil))))))
  (sSeq (sIf (bVal (eOp gtD (eLen (rVar 4)) (eC (.int 40)))) (sRaise0 "TooMany") sNext)
  (sRet (eTup (aCons (eVar 3) (aCons (eTupL (qVar 4)) aNil)))))))))))))
def fn_behind : List D → Option RX := runX 10 b_behind
def b__law_word (z : Str → Bool) (a : Addr) : SS := (sSeq (sSet 2 (eL (lLst (aCons (eIsE 1 a (z "BadTable")) (aCons (eIsE 1 a (z "BadWay")) (aCons (eIsE 1 a (z "BadCase")) (aCons (eIsE 1 a (z "BadRule")) aNil)))))))
  (sSeq (sSet 2 (eOp addD (eVar 2) (eL (lLst (aCons (eIsE 1 a (z "BadShares")) (aCons (eIsE 1 a (z "BadTree")) (aCons (eIsE 1 a (z "Unlike")) aNil)))))))
  (sSeq (sSet 2 (eOp addD (eVar 2) (eL (lLst (aCons (eIsE 1 a (z "TooMany")) (aCons (eIsE 1 a (z "BadText")) aNil))))))
  (sSeq (sIf (bOr (bVal (eOp neD (eCnt (qVar 2) (eC (.bool true))) (eC (.int 1)))) (bNot (bVal (eIsE 1 a (z "ValueError"))))) (sRet (eTup (aCons (eC (.str "other")) aNil))) sNext)
  (sSeq (sSet 3 (eIx (lLst (aCons (eC (.str "table")) (aCons (eC (.str "way")) (aCons (eC (.str "case")) (aCons (eC (.str "rule")) (aCons (eC (.str "shares")) (aCons (eC (.str "tree")) (aCons (eC (.str "unlike")) (aCons (eC (.str "many")) (aCons (eC (.str "text")) aNil)))))))))) (eIdx (qVar 2) (eC (.bool true)))))
  (sSeq (sIf (bVal (eOp eqD (eVar 3) (eC (.str "table")))) (sRet (eTup (aCons (eVar 3) (aCons eNo (aCons eNo aNil))))) sNext)
  (sRet (eIf (bVal (eOp eqD (eVar 3) (eC (.str "shares")))) (eTup (aCons (eVar 3) (aCons eNo aNil))) (eIf (bVal (eOp eqD (eVar 3) (eC (.str "text")))) (eTup (aCons (eVar 3) (aCons eNo aNil))) (eTup (aCons (eVar 3) aNil)))))))))))
def fn__law_word (z : Str → Bool) (a : Addr) : Option D := runW 4 1 (b__law_word z) a
def L_word09 : List (Str × D) := [("TooMany", .tuple [.str "many"])]
def b__law_case : SS := (sRet (eTupL (lComp (rVar 1) (hName 2) bYes (eCallR 0 2 fn__law_taken (aCons (eVar 2) aNil)) [2])))
def fn__law_case : List D → DL.Row → Option (D × DL.Row) := runR 3 b__law_case
def b__law_rules : SS := (sSeq (sSetL 3 (lLst aNil))
  (sSeq (sFor (rE (eIx (rVar 0) (eC (.int 1)))) (hTup (hCons (hName 4) (hCons (hName 5) hNil))) (sSeq (sFor (rE (eIx (rVar 1) (eC (.int 1)))) (hTup (hCons (hName 6) (hCons (hName 7) hNil))) (sSeq (sSet 8 (eIx (rVar 6) (eVar 2)))
  (sIf (bAnd (bVal (eOp notND (eVar 5) (eC .none))) (bAnd (bVal (eOp ltD (eVar 5) (eIx (rE (eIx (rVar 1) (eC (.int 0)))) (eVar 2)))) (bOr (bVal (eOp isND (eVar 8) (eC .none))) (bVal (eOp inD (eVar 5) (eVar 8)))))) (sApp 3 (eTup (aCons (eOp addD (eOp addD (eVar 4) (eSl (eVar 6) oNo (oPart (eVar 2)))) (eSl (eVar 6) (oPart (eOp addD (eVar 2) (eC (.int 1)))) oNo)) (aCons (eVar 7) aNil)))) sNext)))
  (sApp 3 (eTup (aCons (eOp addD (eVar 4) (eOp mulD (eTup (aCons (eC .none) aNil)) (eOp subD (eLen (rE (eIx (rVar 1) (eC (.int 0))))) (eC (.int 1))))) (aCons (eC .none) aNil))))))
  (sRet (eTupL (qVar 3)))))
def fn__law_rules : List D → Option D := runP 9 b__law_rules
def b_law09 (P : Addr) : SS := (sSeq (sSetL 1 (lLst (aCons (eVar 0) (aCons (eC (.int 0)) (aCons (eC (.int 0)) (aCons (eC (.int 0)) aNil))))))
  (sMkRowT 1 (sSeq (sFor (i1Rng (eC (.int 4))) (hName 2) (sSeq (sTgt (hTup (hCons (hName 8) (hCons (hName 9) hNil))) (eTup (aCons (eCallRs 1 2 fn__law_table (aCons (eC (.int 6)) aNil)) (aCons (eCallRs 1 2 fn__law_table (aCons (eC (.int 6)) aNil)) aNil))))
  (sSeq (sIf (bVal (eOp eqD (eCallRs 1 2 fn__law_taken (aCons (eC (.int 4)) aNil)) (eC (.int 3)))) (sSeq (sTgt (hTup (hCons (hName 8) (hCons (hName 13) hNil))) (eTup (aCons (eCallRs 1 1 fn__law_many aNil) (aCons (eCallRs 1 2 fn__law_taken (aCons (eC (.int 4)) aNil)) aNil))))
  (sSeq (sSet 8 (eTup (aCons (eIx (rVar 8) (eC (.int 0))) (aCons (eSl (eIx (rVar 8) (eC (.int 1))) oNo (oPart (eIx (lLst (aCons (eC (.int 40)) (aCons (eC (.int 20)) (aCons (eC (.int 14)) (aCons (eC (.int 10)) aNil))))) (eVar 13)))) aNil))))
  (sSet 9 (eTup (aCons (eIx (rVar 9) (eC (.int 0))) (aCons (eSl (eIx (rVar 9) (eC (.int 1))) oNo (oPart (eVar 13))) aNil)))))) sNext)
  (sSeq (sSet 3 (eCallRs 1 2 fn__law_taken (aCons (eLen (rE (eIx (rVar 9) (eC (.int 0))))) aNil)))
  (sSeq (sSet 4 (eOp addD (eOp addD (eIx (rVar 8) (eC (.int 0))) (eSl (eIx (rVar 9) (eC (.int 0))) oNo (oPart (eVar 3)))) (eSl (eIx (rVar 9) (eC (.int 0))) (oPart (eOp addD (eVar 3) (eC (.int 1)))) oNo)))
  (sSeq (sSet 5 (eCall 3 fn__law_rules (aCons (eVar 8) (aCons (eVar 9) (aCons (eVar 3) aNil)))))
  (sSeq (sIf (bOr (bVal (eOp gtD (eLen (rVar 4)) (eC (.int 5)))) (bVal (eOp gtD (eLen (rVar 5)) (eC (.int 40))))) (sSeq (sIf (bVal (eOp neD (eLam P qLam L_word09 3 fn_behind (aCons (eVar 8) (aCons (eVar 9) (aCons (eVar 3) aNil)))) (eTup (aCons (eC (.str "many")) aNil)))) (sRet (eC (.bool false))) sNext)
  sCont) sNext)
  (sSeq (sSet 6 (eCall 3 (okX fn_behind) (aCons (eVar 8) (aCons (eVar 9) (aCons (eVar 3) aNil)))))
  (sSeq (sIf (bNot (bVal (eCall 2 (fn__law_alike 6) (aCons (eVar 6) (aCons (eTup (aCons (eVar 4) (aCons (eVar 5) aNil))) aNil))))) (sRet (eC (.bool false))) sNext)
  (sFor (i1Rng (eC (.int 24))) (hName 7) (sSeq (sSet 10 (eCallRs 1 2 fn__law_case (aCons (eVar 4) aNil)))
  (sSeq (sSet 11 (eLen (rE (eIx (rVar 8) (eC (.int 0))))))
  (sSeq (sSet 12 (eCall 3 fn__law_told (aCons (eVar 8) (aCons (eC (.str "first")) (aCons (eSl (eVar 10) oNo (oPart (eVar 11))) aNil)))))
  (sSeq (sIf (bAnd (bVal (eOp eqD (eIx (rVar 12) (eC (.int 0))) (eC (.str "deed")))) (bAnd (bVal (eOp notND (eIx (rVar 12) (eC (.int 1))) (eC .none))) (bVal (eOp ltD (eIx (rVar 12) (eC (.int 1))) (eIx (rE (eIx (rVar 9) (eC (.int 0)))) (eVar 3)))))) (sSeq (sSet 14 (eOp addD (eOp addD (eSl (eVar 10) (oPart (eVar 11)) (oPart (eOp addD (eVar 11) (eVar 3)))) (eTup (aCons (eIx (rVar 12) (eC (.int 1))) aNil))) (eSl (eVar 10) (oPart (eOp addD (eVar 11) (eVar 3))) oNo)))
  (sSeq (sSet 12 (eCall 3 fn__law_told (aCons (eVar 9) (aCons (eC (.str "first")) (aCons (eVar 14) aNil)))))
  (sSet 12 (eIf (bVal (eOp eqD (eVar 12) (eTup (aCons (eC (.str "gap")) aNil)))) (eTup (aCons (eC (.str "deed")) (aCons (eC .none) aNil))) (eVar 12))))) (sIf (bVal (eOp eqD (eIx (rVar 12) (eC (.int 0))) (eC (.str "deed")))) (sSet 12 (eTup (aCons (eC (.str "deed")) (aCons (eC .none) aNil)))) sNext))
  (sIf (bNot (bVal (eCall 2 (fn__law_alike 6) (aCons (eCall 3 fn_told (aCons (eVar 6) (aCons (eC (.str "first")) (aCons (eVar 10) aNil)))) (aCons (eVar 12) aNil))))) (sRet (eC (.bool false))) sNext)))))))))))))))
  (sRet (eC (.bool true))))))
def fn_law09 (P : Addr) : List D → Option D := runT P qLam 15 (b_law09 P)
end PC

namespace PC
open PySem DL
theorem word__law_word_TooMany (a : Addr) : fn__law_word (zOf "TooMany") a = some (.tuple [.str "many"]) := by
  unfold fn__law_word b__law_word runW
  have h1 : zOf "TooMany" "BadTable" = false := by decide +kernel
  have h2 : zOf "TooMany" "BadWay" = false := by decide +kernel
  have h3 : zOf "TooMany" "BadCase" = false := by decide +kernel
  have h4 : zOf "TooMany" "BadRule" = false := by decide +kernel
  have h5 : zOf "TooMany" "BadShares" = false := by decide +kernel
  have h6 : zOf "TooMany" "BadTree" = false := by decide +kernel
  have h7 : zOf "TooMany" "Unlike" = false := by decide +kernel
  have h8 : zOf "TooMany" "TooMany" = true := by decide +kernel
  have h9 : zOf "TooMany" "BadText" = false := by decide +kernel
  have h0 : zOf "TooMany" "ValueError" = true := by decide +kernel
  rw [h0, h1, h2, h3, h4, h5, h6, h7, h8, h9]
  simp
  try rfl
end PC

set_option maxHeartbeats 4000000
/-! Tables behind one another: what the program and the law make of them. -/
namespace PC
open PySem DL
def cut {α : Type} (l : List α) (p : Nat) : List α := l.take p ++ l.drop (p + 1)
def selB (z : Int) (d : Option Int) (w : Want) : Bool := match d with | none => false | some x => decide (x < z) && okW w x
def wAt (ws : List Want) (p : Nat) : Want := (ws[p]?).getD none
def subOf (p : Nat) (z : Int) (r : Rule) (os : List Rule) : List Rule := (os.filter fun o => selB z r.2 (wAt o.1 p)).map fun o => (r.1 ++ cut o.1 p, o.2)
def behSub (s : Table) (p : Nat) (z : Int) (r : Rule) : List Rule := subOf p z r s.2 ++ [(r.1 ++ List.replicate (s.1.length - 1) none, none)]
def behR (f s : Table) (p : Nat) (z : Int) : List Rule := f.2.flatMap (behSub s p z)
def behS (f s : Table) (p : Nat) : List Int := f.1 ++ cut s.1 p
theorem slt_take {ds : List D} {p : Nat} (h : p ≤ ds.length) : slD (.tuple ds) none (some (p : Int)) = some (.tuple (ds.take p)) := by
  show some (PyData.tuple (cutD _ _ _)) = _
  rw [cut_take h]
theorem slt_drop {ds : List D} {p : Nat} (h : p ≤ ds.length) : slD (.tuple ds) (some (p : Int)) none = some (.tuple (ds.drop p)) := by
  show some (PyData.tuple (cutD _ _ _)) = _
  rw [cut_drop h]
theorem slt_drop1 {ds : List D} {p : Nat} (h : p + 1 ≤ ds.length) : slD (.tuple ds) (some ((p : Int) + 1)) none = some (.tuple (ds.drop (p + 1))) := slt_drop (p := p + 1) h
theorem eWs_t (l : List Want) : eWs l = .tuple (l.map eW) := rfl
theorem eIs_t (l : List Int) : eIs l = .tuple (l.map eI) := rfl
theorem rep_none (n : Nat) : (List.replicate n [PyData.none]).flatten = (List.replicate n (none : Want)).map eW := by
  induction n with
  | zero => rfl
  | succ n ih => simp [List.replicate_succ, ih, eW]
def fullD (z : Int) (w : Want) : D := match w with | none => .tuple ((List.range z.toNat).map fun (i : Nat) => .int (i : Int)) | some l => .tuple (l.map eI)
theorem full_ok {z : Int} {w : Want} (h0 : 0 ≤ z) (h : z ≤ 1000) : fn_full [eW w, .int z] = some (fullD z w) := by
  cases w with
  | none =>
    simp [fn_full, runP_ap, b_full, eW, fullD]
    rw [rng1_i h0 (by omega)]
    simp
  | some l => simp [fn_full, runP_ap, b_full, eW, fullD]
theorem in_full {z x : Int} {w : Want} (hw : WW z w) (h0 : 0 ≤ x) : inD (.int x) (fullD z w) = some (.bool (selB z (some x) w)) := by
  unfold fullD
  cases w with
  | none =>
    show inD _ (.tuple _) = _
    rw [inD_ap (es := (List.range z.toNat).map fun (i : Nat) => .int (i : Int)) rfl (by simp [flatD]) rfl]
    simp only [selB, okW, inFl, Option.some.injEq, PyData.bool.injEq, Bool.and_true, List.any_map]
    rw [Bool.eq_iff_iff, List.any_eq_true, decide_eq_true_iff]
    constructor
    · rintro ⟨i, hi, e⟩
      have hi := List.mem_range.mp hi
      have e : (i : Int) = x := by simpa [PyData.eqv] using e
      omega
    · intro h
      exact ⟨x.toNat, List.mem_range.mpr (by omega), by simp [PyData.eqv]; omega⟩
  | some l =>
    show inD _ (.tuple _) = _
    rw [inD_ap (es := l.map eI) rfl (by simp [flatD, eI]) rfl]
    simp only [selB, okW, inFl, Option.some.injEq, PyData.bool.injEq, List.any_map]
    rw [Bool.eq_iff_iff, List.any_eq_true, Bool.and_eq_true, decide_eq_true_iff, List.contains_iff_mem]
    constructor
    · rintro ⟨i, hi, e⟩
      have e : i = x := by simpa [PyData.eqv, eI] using e
      subst e
      exact ⟨((hw l rfl).2.1 i hi).2, hi⟩
    · rintro ⟨_, h⟩
      exact ⟨x, h, by simp [PyData.eqv, eI]⟩
theorem add_is {a b : List Int} (h : a.length + b.length ≤ 1000000) : addD (eIs a) (eIs b) = some (eIs (a ++ b)) := by
  show addD (.tuple _) (.tuple _) = _
  simp
  rw [chk_le h]
  simp [eIs]
theorem add_ws {a b : List Want} (h : a.length + b.length ≤ 1000000) : addD (eWs a) (eWs b) = some (eWs (a ++ b)) := by
  show addD (.tuple _) (.tuple _) = _
  simp
  rw [chk_le h]
  simp [eWs]
theorem cutI {l : List Int} {p : Nat} (h : p < l.length) : slD (eIs l) none (some (p : Int)) = some (eIs (l.take p)) ∧ slD (eIs l) (some ((p : Int) + 1)) none = some (eIs (l.drop (p + 1))) := by
  rw [eIs_t, slt_take (by simp; omega), slt_drop1 (by simp; omega), ← List.map_take, ← List.map_drop]
  exact ⟨rfl, rfl⟩
theorem cutW {l : List Want} {p : Nat} (h : p < l.length) : slD (eWs l) none (some (p : Int)) = some (eWs (l.take p)) ∧ slD (eWs l) (some ((p : Int) + 1)) none = some (eWs (l.drop (p + 1))) := by
  rw [eWs_t, slt_take (by simp; omega), slt_drop1 (by simp; omega), ← List.map_take, ← List.map_drop]
  exact ⟨rfl, rfl⟩
theorem sub_len (p : Nat) (z : Int) (r : Rule) (os : List Rule) : (subOf p z r os).length ≤ os.length := by
  unfold subOf
  rw [List.length_map]
  exact List.length_filter_le _ _
theorem sub_snoc (p : Nat) (z : Int) (r : Rule) (os : List Rule) (o : Rule) : subOf p z r (os ++ [o]) = subOf p z r os ++ (if selB z r.2 (wAt o.1 p) then [(r.1 ++ cut o.1 p, o.2)] else []) := by
  unfold subOf
  rw [List.filter_append, List.map_append]
  congr 1
  by_cases h : selB z r.2 (wAt o.1 p) = true
  · simp [h]
  · simp [h]
theorem beh_len {f s : Table} (hs : s.2.length ≤ 40) (p : Nat) (z : Int) : (behR f s p z).length ≤ f.2.length * 41 := by
  unfold behR
  induction f.2 with
  | nil => simp
  | cons r rs ih =>
    rw [List.flatMap_cons, List.length_append, List.length_cons]
    have : (behSub s p z r).length ≤ 41 := by
      unfold behSub
      have := sub_len p z r s.2
      simp; omega
    omega
def Bi (f s : Table) (p : Nat) (S : List Int) (acc : List Rule) (y6 y7 y8 y9 : Sl) : DL.Env := [.imm (eT f), .imm (eT s), .imm (.int (p : Int)), .imm (eIs S), .own (acc.map eR), .imm (eWs (List.replicate (s.1.length - 1) none)), y6, y7, y8, y9]
theorem wAt_mem {ws : List Want} {p : Nat} (h : p < ws.length) : ws[p]? = some (wAt ws p) := by
  unfold wAt
  rw [List.getElem?_eq_getElem h]; rfl
theorem behind_ok {f s : Table} {p : Nat} {z : Int} (hf : WT f) (hs : WT s) (hz : s.1[p]? = some z) : fn_behind [eT f, eT s, .int p] = some (if 5 < (behS f s p).length ∨ 40 < (behR f s p z).length then .ex ⟨"TooMany", []⟩ else .ok (eT (behS f s p, behR f s p z))) := by
  have hp : p < s.1.length := (List.getElem?_eq_some_iff.mp hz).1
  have h5 := hs.1.2.1
  have h5f := hf.1.2.1
  rw [← Rs_eq]
  have w1 : decide ((p : Int) ≤ (s.1.length : Int) - 1) = true := decide_eq_true (by omega)
  have nf := need_table_ok hf
  have ns := need_table_ok hs
  have cI := cutI hp
  have ad1 := add_is (a := f.1) (b := s.1.take p) (by simp; omega)
  have ad2 := add_is (a := f.1 ++ s.1.take p) (b := s.1.drop (p + 1)) (by simp; omega)
  have bl := beh_len (f := f) hs.2.1 p z
  have f40 := hf.2.1
  have eS : ((f.1 ++ s.1.take p) ++ s.1.drop (p + 1)) = behS f s p := by simp [behS, cut]
  rw [eS] at ad2
  have eft : eT f = .tuple [eIs f.1, eRs f.2] := rfl
  have est : eT s = .tuple [eIs s.1, eRs s.2] := rfl
  simp [fn_behind, runX_ap, b_behind, nf, ns, is_whole_i, w1]
  have g0f : ixD [eIs f.1, eRs f.2] (.int 0) = some (eIs f.1) := rfl
  have g1f : ixD [eIs f.1, eRs f.2] (.int 1) = some (eRs f.2) := rfl
  have g0s : ixD [eIs s.1, eRs s.2] (.int 0) = some (eIs s.1) := rfl
  have g1s : ixD [eIs s.1, eRs s.2] (.int 1) = some (eRs s.2) := rfl
  have q1 : seqD (eT f) = some [eIs f.1, eRs f.2] := rfl
  have q2 : seqD (eT s) = some [eIs s.1, eRs s.2] := rfl
  have q3 : seqD (eIs (behS f s p)) = some ((behS f s p).map eI) := rfl
  have q4 : seqD (eIs s.1) = some (s.1.map eI) := rfl
  have r1 : rdSl (.imm (eT f)) = some [eIs f.1, eRs f.2] := rfl
  have r2 : rdSl (.imm (eT s)) = some [eIs s.1, eRs s.2] := rfl
  have r3 : rdSl (.imm (eIs (behS f s p))) = some ((behS f s p).map eI) := rfl
  simp [g0f, g1f, g0s, g1s, q1, q2, q3, q4, r1, r2, r3, cI, ad1, ad2]
  have g5 : ixD (s.1.map eI) (.int (p : Int)) = some (.int z) := by
    show L2.atI _ _ = _
    rw [atI_n (v := eI z) (by rw [List.getElem?_map, hz]; rfl)]
    rfl
  by_cases hS : (5 : Int) < ((behS f s p).length : Int)
  · have hS' : 5 < (behS f s p).length := by omega
    simp [hS, hS']
  have hS' : ¬ 5 < (behS f s p).length := by omega
  have m1 : mulD (.tuple [.none]) (.int ((s.1.length : Int) - 1)) = some (eWs (List.replicate (s.1.length - 1) none)) := by
    rw [show ((s.1.length : Int) - 1) = ((s.1.length - 1 : Nat) : Int) by omega, mulD_t (by simp) (by omega) (by omega)]
    simp [rep_none, eWs, eW]
  simp [hS, hS', q1, q2, r1, r2, g0f, g1f, g0s, g1s, q4, m1]
  have q5 : seqD (eRs f.2) = some (f.2.map eR) := rfl
  have q6 : seqD (eRs s.2) = some (s.2.map eR) := rfl
  refine for_rs (fun i ρ st => st = [] ∧ ∃ y6 y7 y8 y9, ρ = Bi f s p (behS f s p) ((f.2.take i).flatMap (behSub s p z)) y6 y7 y8 y9) ⟨rfl, _, _, _, _, rfl⟩ (fun i r ρ st hr hI => ?_) (fun ρ st hI => ?_)
  · obtain ⟨rfl, y6, y7, y8, y9, rfl⟩ := hI
    have hrm := List.mem_of_getElem? hr
    have hwr := hf.2.2 r hrm
    have hi : i < f.2.length := (List.getElem?_eq_some_iff.mp hr).1
    have tk : f.2.take (i + 1) = f.2.take i ++ [r] := by rw [List.take_add_one, hr]; rfl
    have al : ((f.2.take i).flatMap (behSub s p z)).length ≤ i * 41 := by
      have := beh_len (f := (f.1, f.2.take i)) hs.2.1 p z
      have e : min i f.2.length = i := by omega
      simpa [behR, e] using this
    have tk' : (f.2.take (i + 1)).flatMap (behSub s p z) = (f.2.take i).flatMap (behSub s p z) ++ behSub s p z r := by rw [tk, List.flatMap_append]; simp
    rw [tk']
    generalize (f.2.take i).flatMap (behSub s p z) = acc at al ⊢
    simp [Bi, eR, q2, g1s, q6]
    refine (?inner : Rs _ (fun o => ∃ y8 y9, o = .nx (Bi f s p (behS f s p) (acc ++ subOf p z r s.2) (.imm (eWs r.1)) (.imm (eO r.2)) y8 y9) [])).mono ?_
    · refine for_rs (fun j ρ st => st = [] ∧ ∃ y8 y9, ρ = Bi f s p (behS f s p) (acc ++ subOf p z r (s.2.take j)) (.imm (eWs r.1)) (.imm (eO r.2)) y8 y9) ⟨rfl, _, _, by simp [Bi, subOf]; exact ⟨rfl, rfl⟩⟩ (fun j o ρ st ho hI => ?_) (fun ρ st hI => ?_)
      · obtain ⟨rfl, y8, y9, rfl⟩ := hI
        have hom := List.mem_of_getElem? ho
        have hwo := hs.2.2 o hom
        have tko : s.2.take (j + 1) = s.2.take j ++ [o] := by rw [List.take_add_one, ho]; rfl
        have hol : o.1.length = s.1.length := hwo.1.length.symm
        have hrl : r.1.length = f.1.length := hwr.1.length.symm
        have gw := wAt_mem (ws := o.1) (p := p) (by omega)
        have ww := hwo.1.get hz gw
        have hz2 := hs.1.2.2 z (List.mem_of_getElem? hz)
        have i1 : rdSl (.imm (eWs o.1)) = some (o.1.map eW) := rfl
        have i2 : ixD (o.1.map eW) (.int (p : Int)) = some (eW (wAt o.1 p)) := by
          show L2.atI _ _ = _
          rw [atI_n (v := eW (wAt o.1 p)) (by rw [List.getElem?_map, gw]; rfl)]
        have c2 := cutW (l := o.1) (p := p) (by omega)
        have ad3 := add_ws (a := r.1) (b := o.1.take p) (by simp; omega)
        have ad4 := add_ws (a := r.1 ++ o.1.take p) (b := o.1.drop (p + 1)) (by simp; omega)
        have fo := full_ok (w := wAt o.1 p) (z := z) (by omega) (by omega)
        have sl := sub_len p z r (s.2.take j)
        have j40 := hs.2.1
        have hj : j < s.2.length := (List.getElem?_eq_some_iff.mp ho).1
        have tl : (s.2.take j).length ≤ 40 := by simp; omega
        rw [tko, sub_snoc]
        cases hd : r.2 with
        | none =>
          simp [Bi, eR, eO, selB]
          exact ⟨_, _, ⟨rfl, rfl⟩, rfl, _, _, rfl⟩
        | some d =>
          have hd0 := hwr.2 d hd
          have inF := in_full ww hd0.1
          have eod : eO (some d) = .int d := rfl
          simp [Bi, eR, eod, i1, i2, q2, q4, g0s, g5, fo, inF, gw, hz, eI]
          by_cases hsel : selB z (some d) (wAt o.1 p) = true
          · simp [hsel, c2, ad3, ad4]
            rw [chkA_lt (by omega)]
            simp [cut]
            exact ⟨_, _, ⟨rfl, rfl⟩, rfl, _, _, rfl⟩
          · simp [hsel]
            exact ⟨_, _, ⟨rfl, rfl⟩, rfl, _, _, rfl⟩
      · obtain ⟨rfl, y8, y9, rfl⟩ := hI
        simp
        exact ⟨_, _, rfl⟩
    rintro _ ⟨y8, y9, rfl⟩
    have hrl : r.1.length = f.1.length := hwr.1.length.symm
    have ad5 := add_ws (a := r.1) (b := List.replicate (s.1.length - 1) none) (by simp; omega)
    have sl := sub_len p z r s.2
    have j40 := hs.2.1
    simp [Bi, ad5]
    rw [chkA_lt (by omega)]
    simp [behSub, eR, eO]
    exact ⟨_, _, ⟨rfl, rfl⟩, rfl, _, _, _, _, rfl⟩
  · obtain ⟨rfl, y6, y7, y8, y9, rfl⟩ := hI
    have e1 : ((f.2.map fun a => (behSub s p z a).length).sum) = (behR f s p z).length := by simp [behR, List.length_flatMap]
    have e2 : f.2.flatMap (behSub s p z) = behR f s p z := rfl
    simp only [Bi, e2]
    by_cases h40 : (40 : Int) < ((behR f s p z).length : Int)
    · have h40' : 40 < (behR f s p z).length := by omega
      simp [e1, h40, h40']
    · have h40' : ¬ 40 < (behR f s p z).length := by omega
      simp [e1, h40, h40']
      rfl
def Li (f s : Table) (p : Nat) (acc : List Rule) (y4 y5 y6 y7 y8 : Sl) : DL.Env := [.imm (eT f), .imm (eT s), .imm (.int (p : Int)), .own (acc.map eR), y4, y5, y6, y7, y8]
theorem in_want {z x : Int} {l : List Int} (hw : WW z (some l)) : inD (.int x) (eW (some l)) = some (.bool (l.contains x)) := by
  show inD _ (.tuple _) = _
  rw [inD_ap (es := l.map eI) rfl (by simp [flatD, eI]) rfl]
  simp only [inFl, Option.some.injEq, PyData.bool.injEq, List.any_map]
  rw [Bool.eq_iff_iff, List.any_eq_true, List.contains_iff_mem]
  constructor
  · rintro ⟨i, hi, e⟩
    have e : i = x := by simpa [PyData.eqv, eI] using e
    subst e; exact hi
  · exact fun h => ⟨x, h, by simp [PyData.eqv, eI]⟩
theorem lawrules_ok {f s : Table} {p : Nat} {z : Int} (hf : WT f) (hs : WT s) (hz : s.1[p]? = some z) : fn__law_rules [eT f, eT s, .int p] = some (eRs (behR f s p z)) := by
  have hp : p < s.1.length := (List.getElem?_eq_some_iff.mp hz).1
  have h5 := hs.1.2.1
  have h5f := hf.1.2.1
  rw [← Rs_eq]
  have bl := beh_len (f := f) hs.2.1 p z
  have f40 := hf.2.1
  have j40 := hs.2.1
  have g1f : ixD [eIs f.1, eRs f.2] (.int 1) = some (eRs f.2) := rfl
  have g0s : ixD [eIs s.1, eRs s.2] (.int 0) = some (eIs s.1) := rfl
  have g1s : ixD [eIs s.1, eRs s.2] (.int 1) = some (eRs s.2) := rfl
  have q1 : seqD (eT f) = some [eIs f.1, eRs f.2] := rfl
  have q2 : seqD (eT s) = some [eIs s.1, eRs s.2] := rfl
  have q4 : seqD (eIs s.1) = some (s.1.map eI) := rfl
  have r1 : rdSl (.imm (eT f)) = some [eIs f.1, eRs f.2] := rfl
  have r2 : rdSl (.imm (eT s)) = some [eIs s.1, eRs s.2] := rfl
  have q5 : seqD (eRs f.2) = some (f.2.map eR) := rfl
  have q6 : seqD (eRs s.2) = some (s.2.map eR) := rfl
  have m1 : mulD (.tuple [.none]) (.int ((s.1.length : Int) - 1)) = some (eWs (List.replicate (s.1.length - 1) none)) := by
    rw [show ((s.1.length : Int) - 1) = ((s.1.length - 1 : Nat) : Int) by omega, mulD_t (by simp) (by omega) (by omega)]
    simp [rep_none, eWs, eW]
  simp [fn__law_rules, runP_ap, b__law_rules, q1, q2, q4, q5, q6, r1, r2, g1f, g0s, g1s]
  refine for_rs (fun i ρ st => st = [] ∧ ∃ y4 y5 y6 y7 y8, ρ = Li f s p ((f.2.take i).flatMap (behSub s p z)) y4 y5 y6 y7 y8) ⟨rfl, _, _, _, _, _, rfl⟩ (fun i r ρ st hr hI => ?_) (fun ρ st hI => ?_)
  · obtain ⟨rfl, y4, y5, y6, y7, y8, rfl⟩ := hI
    have hrm := List.mem_of_getElem? hr
    have hwr := hf.2.2 r hrm
    have hi : i < f.2.length := (List.getElem?_eq_some_iff.mp hr).1
    have tk : f.2.take (i + 1) = f.2.take i ++ [r] := by rw [List.take_add_one, hr]; rfl
    have al : ((f.2.take i).flatMap (behSub s p z)).length ≤ i * 41 := by
      have := beh_len (f := (f.1, f.2.take i)) hs.2.1 p z
      have e : min i f.2.length = i := by omega
      simpa [behR, e] using this
    have tk' : (f.2.take (i + 1)).flatMap (behSub s p z) = (f.2.take i).flatMap (behSub s p z) ++ behSub s p z r := by rw [tk, List.flatMap_append]; simp
    rw [tk']
    generalize (f.2.take i).flatMap (behSub s p z) = acc at al ⊢
    simp [Li, eR, q2, g1s, q6, r2]
    refine (?inner : Rs _ (fun o => ∃ y6 y7 y8, o = .nx (Li f s p (acc ++ subOf p z r s.2) (.imm (eWs r.1)) (.imm (eO r.2)) y6 y7 y8) [])).mono ?_
    · refine for_rs (fun j ρ st => st = [] ∧ ∃ y6 y7 y8, ρ = Li f s p (acc ++ subOf p z r (s.2.take j)) (.imm (eWs r.1)) (.imm (eO r.2)) y6 y7 y8) ⟨rfl, _, _, _, by simp [Li, subOf]; exact ⟨rfl, rfl, rfl⟩⟩ (fun j o ρ st ho hI => ?_) (fun ρ st hI => ?_)
      · obtain ⟨rfl, y6, y7, y8, rfl⟩ := hI
        have hom := List.mem_of_getElem? ho
        have hwo := hs.2.2 o hom
        have tko : s.2.take (j + 1) = s.2.take j ++ [o] := by rw [List.take_add_one, ho]; rfl
        have hol : o.1.length = s.1.length := hwo.1.length.symm
        have hrl : r.1.length = f.1.length := hwr.1.length.symm
        have gw := wAt_mem (ws := o.1) (p := p) (by omega)
        have ww := hwo.1.get hz gw
        have hz2 := hs.1.2.2 z (List.mem_of_getElem? hz)
        have i1 : rdSl (.imm (eWs o.1)) = some (o.1.map eW) := rfl
        have c2 := cutW (l := o.1) (p := p) (by omega)
        have ad3 := add_ws (a := r.1) (b := o.1.take p) (by simp; omega)
        have ad4 := add_ws (a := r.1 ++ o.1.take p) (b := o.1.drop (p + 1)) (by simp; omega)
        have sl := sub_len p z r (s.2.take j)
        have hj : j < s.2.length := (List.getElem?_eq_some_iff.mp ho).1
        have tl : (s.2.take j).length ≤ 40 := by simp; omega
        rw [tko, sub_snoc]
        generalize subOf p z r (s.2.take j) = acc2 at sl ⊢
        generalize wAt o.1 p = w at gw ww ⊢
        cases hd : r.2 with
        | none =>
          simp [Li, eR, eO, selB, i1, gw]
          exact ⟨_, _, ⟨rfl, rfl⟩, rfl, _, _, _, rfl⟩
        | some d =>
          have hd0 := hwr.2 d hd
          have eod : eO (some d) = .int d := rfl
          by_cases hlt : d < z
          · cases w with
            | none =>
              simp [Li, eR, eod, i1, q2, q4, g0s, gw, hz, eI, eW, hlt, selB, okW, c2, ad3, ad4]
              rw [chkA_lt (by omega)]
              simp [cut]
              exact ⟨_, _, ⟨rfl, rfl⟩, rfl, _, _, _, rfl⟩
            | some l =>
              have inF := in_want (x := d) ww
              have ne : isNone (eW (some l)) = false := rfl
              by_cases hc : l.contains d = true
              · have hc' : d ∈ l := by simpa using hc
                simp [Li, eR, eod, i1, q2, q4, g0s, gw, hz, eI, hlt, selB, okW, c2, ad3, ad4, inF, ne, hc']
                rw [chkA_lt (by omega)]
                simp [cut]
                exact ⟨_, _, ⟨rfl, rfl⟩, rfl, _, _, _, rfl⟩
              · have hc' : ¬ d ∈ l := by simpa using hc
                simp [Li, eR, eod, i1, q2, q4, g0s, gw, hz, eI, hlt, selB, okW, c2, ad3, ad4, inF, ne, hc']
                exact ⟨_, _, ⟨rfl, rfl⟩, rfl, _, _, _, rfl⟩
          · simp [Li, eR, eod, i1, q2, q4, g0s, gw, hz, eI, hlt, selB]
            exact ⟨_, _, ⟨rfl, rfl⟩, rfl, _, _, _, rfl⟩
      · obtain ⟨rfl, y6, y7, y8, rfl⟩ := hI
        simp
        exact ⟨_, _, _, rfl⟩
    rintro _ ⟨y6, y7, y8, rfl⟩
    have hrl : r.1.length = f.1.length := hwr.1.length.symm
    have ad5 := add_ws (a := r.1) (b := List.replicate (s.1.length - 1) none) (by simp; omega)
    have sl := sub_len p z r s.2
    simp [Li, ad5, q2, q4, g0s, m1, r2]
    rw [chkA_lt (by omega)]
    simp [behSub, eR, eO]
    exact ⟨_, _, ⟨rfl, rfl⟩, rfl, _, _, _, _, _, rfl⟩
  · obtain ⟨rfl, y4, y5, y6, y7, y8, rfl⟩ := hI
    have e2 : f.2.flatMap (behSub s p z) = behR f s p z := rfl
    simp [Li, e2]
    rfl
theorem pw_app {α β : Type} {R : α → β → Prop} {xs : List α} {ys : List β} {xs' : List α} {ys' : List β} (h : Pw R xs ys) (h' : Pw R xs' ys') : Pw R (xs ++ xs') (ys ++ ys') := by
  induction h with
  | nil => exact h'
  | cons a t ih => exact .cons a ih
theorem pw_take {α β : Type} {R : α → β → Prop} {xs : List α} {ys : List β} (h : Pw R xs ys) : ∀ n, Pw R (xs.take n) (ys.take n) := by
  induction h with
  | nil => intro n; simp; exact .nil
  | cons a t ih =>
    intro n
    cases n with
    | zero => exact .nil
    | succ n => exact .cons a (ih n)
theorem pw_drop {α β : Type} {R : α → β → Prop} {xs : List α} {ys : List β} (h : Pw R xs ys) : ∀ n, Pw R (xs.drop n) (ys.drop n) := by
  induction h with
  | nil => intro n; simp; exact .nil
  | cons a t ih =>
    intro n
    cases n with
    | zero => exact .cons a t
    | succ n => exact ih n
theorem pw_cut {α β : Type} {R : α → β → Prop} {xs : List α} {ys : List β} (h : Pw R xs ys) (p : Nat) : Pw R (cut xs p) (cut ys p) := pw_app (pw_take h p) (pw_drop h (p + 1))
theorem pw_split {α β : Type} {R : α → β → Prop} {xs xs' : List α} {c : List β} (h : Pw R (xs ++ xs') c) : Pw R xs (c.take xs.length) ∧ Pw R xs' (c.drop xs.length) := by
  have h1 := pw_take h xs.length
  have h2 := pw_drop h xs.length
  simp at h1 h2
  exact ⟨h1, h2⟩
theorem holdsB_app : ∀ (ws : List Want) (c : List Int) {ws' : List Want} {c' : List Int}, ws.length = c.length → holdsB (ws ++ ws') (c ++ c') = (holdsB ws c && holdsB ws' c')
  | [], [], _, _, _ => by simp [holdsB]
  | w :: ws, v :: c, _, _, h => by
    simp only [List.cons_append, holdsB]
    rw [holdsB_app ws c (by simpa using h), Bool.and_assoc]
  | [], _ :: _, _, _, h => by simp at h
  | _ :: _, [], _, _, h => by simp at h
theorem holdsB_none (n : Nat) : ∀ c : List Int, holdsB (List.replicate n none) c = true := by
  induction n with
  | zero => intro c; simp [holdsB]
  | succ n ih =>
    intro c
    cases c with
    | nil => simp [List.replicate_succ, holdsB]
    | cons v c => simp [List.replicate_succ, holdsB, okW, ih]
/-- a value put in at a place -/
def putV (c : List Int) (p : Nat) (x : Int) : List Int := c.take p ++ x :: c.drop p
theorem holdsB_cut {ws : List Want} {c : List Int} {p : Nat} (hp : p < ws.length) (hl : c.length + 1 = ws.length) (x : Int) : holdsB ws (putV c p x) = (okW (wAt ws p) x && holdsB (cut ws p) c) := by
  have e : ws = ws.take p ++ wAt ws p :: ws.drop (p + 1) := by
    have h := List.take_append_drop p ws
    rw [List.drop_eq_getElem_cons hp] at h
    rw [show wAt ws p = ws[p] by unfold wAt; rw [List.getElem?_eq_getElem hp]; rfl]
    exact h.symm
  have e2 : c = c.take p ++ c.drop p := (List.take_append_drop p c).symm
  have hl1 : (ws.take p).length = (c.take p).length := by simp; omega
  have hl2 : (ws.take p).length = (c.take p).length := hl1
  unfold putV cut
  conv => lhs; rw [e]
  rw [holdsB_app _ _ hl1]
  conv => rhs; rw [e2]
  rw [holdsB_app _ _ hl1]
  simp only [holdsB]
  cases holdsB (ws.take p) (c.take p) <;> cases okW (wAt ws p) x <;> simp
def fstK : List (Option Int) → Kd | [] => .gap | a :: _ => .deed a
theorem deedsL_app (a b : List Rule) (c : List Int) : deedsL (a ++ b) c = deedsL a c ++ deedsL b c := by simp [deedsL]
theorem told_first (t : Table) (c : List Int) : toldM t "first" c = encK (fstK (deedsL t.2 c)) := by
  have e : (holdL t c).map (deedAt t.2) = deedsL t.2 c := by
    rw [yes_K]
    have := dk_deeds t.2 t.1 (fun _ => true) c
    rw [filtI_all _ (fun _ _ => rfl)] at this
    exact this
  rw [← e]
  unfold toldM
  cases holdL t c with
  | nil => rfl
  | cons a r =>
    have : clashM t.2 "first" (a :: r) = none := by cases r <;> simp [clashM]
    simp [ansM, this, fstK, encK]
/-- what one table behind another tells -/
def behT (s : Table) (p : Nat) (z : Int) (c' : List Int) : Kd → Kd
  | .deed (some x) => if x < z then (match fstK (deedsL s.2 (putV c' p x)) with | .gap => .deed none | k => k) else .deed none
  | .deed none => .deed none
  | k => k
theorem beh_sub {s : Table} {p : Nat} {z : Int} {r : Rule} {c1 c' : List Int} (hw : ∀ o ∈ s.2, o.1.length = s.1.length) (hp : p < s.1.length) (hr : r.1.length = c1.length) (hl : c'.length + 1 = s.1.length) :
    deedsL (behSub s p z r) (c1 ++ c') = if holdsB r.1 c1 then (match r.2 with | some x => if x < z then deedsL s.2 (putV c' p x) else [] | none => []) ++ [none] else [] := by
  unfold behSub
  rw [deedsL_app]
  have last : deedsL [(r.1 ++ List.replicate (s.1.length - 1) none, (none : Option Int))] (c1 ++ c') = if holdsB r.1 c1 then [none] else [] := by
    simp only [deedsL, List.filter_cons, List.filter_nil]
    rw [holdsB_app _ _ hr, holdsB_none, Bool.and_true]
    split <;> rfl
  rw [last]
  have sub : deedsL (subOf p z r s.2) (c1 ++ c') = if holdsB r.1 c1 then (match r.2 with | some x => if x < z then deedsL s.2 (putV c' p x) else [] | none => []) else [] := by
    unfold subOf deedsL
    rw [List.filter_map, List.map_map, List.filter_filter]
    have e : ((fun (x : Rule) => x.2) ∘ fun (o : Rule) => (r.1 ++ cut o.1 p, o.2)) = fun o => o.2 := rfl
    rw [e]
    have hh : ∀ o : Rule, holdsB (r.1 ++ cut o.1 p) (c1 ++ c') = (holdsB r.1 c1 && holdsB (cut o.1 p) c') := fun o => holdsB_app _ _ hr
    simp only [Function.comp_def, hh]
    cases hb : holdsB r.1 c1 with
    | false => simp
    | true =>
      simp only [Bool.true_and, if_true]
      cases hd : r.2 with
      | none => simp [selB]
      | some x =>
        by_cases hx : x < z
        · simp only [selB, hx, decide_true, Bool.true_and, if_true]
          congr 1
          apply List.filter_congr
          intro o ho
          rw [holdsB_cut (by rw [hw o ho]; exact hp) (by rw [hw o ho]; exact hl), Bool.and_comm]
        · simp [selB, hx]
  rw [sub]
  split <;> simp
theorem beh_told {s : Table} {p : Nat} {z : Int} {n : Nat} {c1 c' : List Int} (hw : ∀ o ∈ s.2, o.1.length = s.1.length) (hp : p < s.1.length) (hn : c1.length = n) (hl : c'.length + 1 = s.1.length) : ∀ rs : List Rule, (∀ r ∈ rs, r.1.length = n) →
    fstK (deedsL (rs.flatMap (behSub s p z)) (c1 ++ c')) = behT s p z c' (fstK (deedsL rs c1))
  | [], _ => by simp [deedsL, fstK, behT]
  | r :: rs, h => by
    have hr := h r (by simp)
    rw [List.flatMap_cons, deedsL_app, beh_sub hw hp (by omega) hl]
    have ih := beh_told (z := z) hw hp hn hl rs fun x hx => h x (by simp [hx])
    by_cases hb : holdsB r.1 c1 = true
    · have e : deedsL (r :: rs) c1 = r.2 :: deedsL rs c1 := by simp [deedsL, hb]
      rw [if_pos hb, e]
      cases hd : r.2 with
      | none => simp [fstK, behT]
      | some x =>
        by_cases hx : x < z
        · simp only [hx, if_true, fstK, behT]
          cases deedsL s.2 (putV c' p x) <;> simp [fstK]
        · simp [hx, fstK, behT]
    · have e : deedsL (r :: rs) c1 = deedsL rs c1 := by simp [deedsL, hb]
      rw [if_neg hb, e, List.nil_append]
      exact ih
theorem beh_wt {f s : Table} {p : Nat} {z : Int} (hf : WT f) (hs : WT s) (hz : s.1[p]? = some z) (h5 : (behS f s p).length ≤ 5) (h40 : (behR f s p z).length ≤ 40) : WT (behS f s p, behR f s p z) := by
  refine ⟨⟨fun e => hf.1.1 ?_, h5, fun x hx => ?_⟩, h40, fun r hr => ?_⟩
  · have e : f.1 ++ cut s.1 p = [] := e
    exact (List.append_eq_nil_iff.mp e).1
  · have hx : x ∈ f.1 ++ cut s.1 p := hx
    rcases List.mem_append.mp hx with hx | hx
    · exact hf.1.2.2 x hx
    · unfold cut at hx
      rcases List.mem_append.mp hx with hx | hx
      · exact hs.1.2.2 x (List.mem_of_mem_take hx)
      · exact hs.1.2.2 x (List.mem_of_mem_drop hx)
  · have hr : r ∈ behR f s p z := hr
    unfold behR at hr
    obtain ⟨r0, h0, hr⟩ := List.mem_flatMap.mp hr
    have w0 := hf.2.2 r0 h0
    unfold behSub at hr
    rcases List.mem_append.mp hr with hr | hr
    · unfold subOf at hr
      obtain ⟨o, ho, rfl⟩ := List.mem_map.mp hr
      have wo := hs.2.2 o (List.mem_filter.mp ho).1
      exact ⟨pw_app w0.1 (pw_cut wo.1 p), wo.2⟩
    · have hr : r = (r0.1 ++ List.replicate (s.1.length - 1) none, none) := by simpa using hr
      subst hr
      refine ⟨pw_app w0.1 ?_, fun d hd => by cases hd⟩
      have hp : p < s.1.length := (List.getElem?_eq_some_iff.mp hz).1
      have hlen : s.1.length - 1 = (cut s.1 p).length := by simp [cut]; omega
      rw [hlen]
      generalize cut s.1 p = l
      induction l with
      | nil => exact .nil
      | cons a l ih => exact .cons (fun l e => by cases e) ih
theorem put_wc {s : Table} {p : Nat} {z x : Int} {c' : List Int} (hz : s.1[p]? = some z) (h0 : 0 ≤ x) (hx : x < z) (hc : WC (cut s.1 p) c') : WC s.1 (putV c' p x) := by
  have hp : p < s.1.length := (List.getElem?_eq_some_iff.mp hz).1
  have e : s.1 = s.1.take p ++ z :: s.1.drop (p + 1) := by
    have h := List.take_append_drop p s.1
    rw [List.drop_eq_getElem_cons hp] at h
    rw [List.getElem?_eq_getElem hp] at hz
    rw [← Option.some.inj hz]
    exact h.symm
  obtain ⟨h1, h2⟩ := pw_split hc
  have hl : (s.1.take p).length = p := by simp; omega
  rw [hl] at h1 h2
  unfold WC putV
  rw [e]
  exact pw_app h1 (.cons ⟨h0, hx⟩ h2)
theorem answer_ok {t : Table} {w : Str} {c : List Int} (h : WT t) (hw : WWay w) (hc : WC t.1 c) : fn_answer [eT t, .str w, eIs c] = some (toldM t w c) := by
  have h1 := holding_ok h hc
  have hl : ∀ k ∈ holdL t c, k < t.2.length := holdL_lt
  simp [fn_answer, runP_ap, b_answer, h1, toldM]
  cases e : holdL t c with
  | nil => simp [eNs, ansM]
  | cons a l =>
    rw [e] at hl
    have h2 := clashing_ok (t := t) (w := w) hw (a := a) (l := l) hl
    have hne : eNs (a :: l) ≠ [] := by simp [eNs]
    obtain ⟨ra, ha⟩ : ∃ r, t.2[a]? = some r := ⟨_, List.getElem?_eq_getElem (hl a (by simp))⟩
    simp [hne, h2, ansM]
    cases hcl : clashM t.2 w (a :: l) with
    | none =>
      simp [eNs, eN, ha, eR, deedAt]
    | some xy =>
      obtain ⟨x, y⟩ := xy
      simp
theorem told_ok {t : Table} {w : Str} {c : List Int} (h : WT t) (hw : WWay w) (hc : WC t.1 c) : fn_told [eT t, .str w, eIs c] = some (toldM t w c) := by
  have h1 := need_table_ok h
  have h2 := need_way_ok hw
  have h3 := need_case_ok h.1.2.1 hc
  have h4 := answer_ok h hw hc
  have q : rdSl (.imm (eT t)) = some [eIs t.1, eRs t.2] := rfl
  simp [fn_told, runP_ap, b_told, h1, h2, h3, h4, q]
theorem wt_take {t : Table} (h : WT t) (n : Nat) : WT (t.1, t.2.take n) := ⟨h.1, by have := h.2.1; show (t.2.take n).length ≤ 40; simp; omega, fun r hr => h.2.2 r (List.mem_of_mem_take hr)⟩
theorem sl_any {l : List Rule} {v : Int} (h : 0 ≤ v) : slD (eRs l) none (some v) = some (eRs (l.take v.toNat)) := by
  by_cases hv : v.toNat ≤ l.length
  · have := sl_take hv
    rw [Int.toNat_of_nonneg h] at this
    exact this
  · rw [List.take_of_length_le (by omega)]
    have e : cutD (l.map eR) none (some v) = l.map eR := by
      unfold cutD
      have : HT.sIx (l.map eR).length (l.map eR).length (some v) = (l.map eR).length := by
        show (if v < 0 then _ else min v.toNat (l.map eR).length) = _
        rw [if_neg (by omega), List.length_map]
        omega
      rw [this, HT.sIx_none, List.length_map, List.drop_zero, List.take_of_length_le (by simp)]
    show some (PyData.tuple (cutD _ _ _)) = _
    rw [e]
    rfl
theorem case_ok {sc : List Int} {s : DL.Row} {sizes : List Int} (hs : RowI sc s) (hz : WS sizes) : Rs (fn__law_case [eIs sizes] s) fun a => ∃ c s', a = (eIs c, s') ∧ RowI sc s' ∧ WC sizes c := by
  have h5 := hz.2.1
  simp [fn__law_case, runR_ap, b__law_case]
  refine comp_rs (RowI sc) (fun z v => 0 ≤ v ∧ v < z) eI hs (fun k hk s hs => ?_) (fun ys s' hs' hp => ?_)
  · have := hz.2.2 k hk
    simp [eI]
    exact taken_ok hs (by omega) (by omega)
  · exact ⟨ys, s', ⟨rfl, rfl⟩, hs', hp⟩
theorem lv_encK (k : Kd) : Lv 1 (encK k) := by
  cases k with
  | gap => exact Lv.tup (by simp) fun x hx => by simp at hx; subst hx; rfl
  | clash => exact Lv.tup (by simp) fun x hx => by simp at hx; subst hx; rfl
  | deed d =>
    refine Lv.tup (by simp) fun x hx => ?_
    simp at hx
    rcases hx with hx | hx
    · subst hx; rfl
    · subst hx; exact lv_eO d
theorem lvMono {n m : Nat} {d : D} (h : Lv n d) (hm : n ≤ m) : Lv m d := by
  induction hm with
  | refl => exact h
  | step _ ih => exact ih.up
end PC

namespace PC
open PySem DL
def S9 (ns : List Int) (A : D) (P : Addr) (k : D) (o : Out) : Prop := ∃ f s sr y3 y4 y5 y6 y7 y10 y11 y12 y13 y14, o = .nx [.imm A, .sub 0, .imm k, y3, y4, y5, y6, y7, .imm (eT f), .imm (eT s), y10, y11, y12, y13, y14] (.list sr :: tabS0 P qLam) ∧ RowI ns sr ∧ WT f ∧ WT s
def b9in : SS := (sSeq (sSet 10 (eCallRs 1 2 fn__law_case (aCons (eVar 4) aNil)))
  (sSeq (sSet 11 (eLen (rE (eIx (rVar 8) (eC (.int 0))))))
  (sSeq (sSet 12 (eCall 3 fn__law_told (aCons (eVar 8) (aCons (eC (.str "first")) (aCons (eSl (eVar 10) oNo (oPart (eVar 11))) aNil)))))
  (sSeq (sIf (bAnd (bVal (eOp eqD (eIx (rVar 12) (eC (.int 0))) (eC (.str "deed")))) (bAnd (bVal (eOp notND (eIx (rVar 12) (eC (.int 1))) (eC .none))) (bVal (eOp ltD (eIx (rVar 12) (eC (.int 1))) (eIx (rE (eIx (rVar 9) (eC (.int 0)))) (eVar 3)))))) (sSeq (sSet 14 (eOp addD (eOp addD (eSl (eVar 10) (oPart (eVar 11)) (oPart (eOp addD (eVar 11) (eVar 3)))) (eTup (aCons (eIx (rVar 12) (eC (.int 1))) aNil))) (eSl (eVar 10) (oPart (eOp addD (eVar 11) (eVar 3))) oNo)))
  (sSeq (sSet 12 (eCall 3 fn__law_told (aCons (eVar 9) (aCons (eC (.str "first")) (aCons (eVar 14) aNil)))))
  (sSet 12 (eIf (bVal (eOp eqD (eVar 12) (eTup (aCons (eC (.str "gap")) aNil)))) (eTup (aCons (eC (.str "deed")) (aCons (eC .none) aNil))) (eVar 12))))) (sIf (bVal (eOp eqD (eIx (rVar 12) (eC (.int 0))) (eC (.str "deed")))) (sSet 12 (eTup (aCons (eC (.str "deed")) (aCons (eC .none) aNil)))) sNext))
  (sIf (bNot (bVal (eCall 2 (fn__law_alike 6) (aCons (eCall 3 fn_told (aCons (eVar 6) (aCons (eC (.str "first")) (aCons (eVar 10) aNil)))) (aCons (eVar 12) aNil))))) (sRet (eC (.bool false))) sNext)))))
def b9out (P : Addr) : SS := (sSeq (sTgt (hTup (hCons (hName 8) (hCons (hName 9) hNil))) (eTup (aCons (eCallRs 1 2 fn__law_table (aCons (eC (.int 6)) aNil)) (aCons (eCallRs 1 2 fn__law_table (aCons (eC (.int 6)) aNil)) aNil))))
  (sSeq (sIf (bVal (eOp eqD (eCallRs 1 2 fn__law_taken (aCons (eC (.int 4)) aNil)) (eC (.int 3)))) (sSeq (sTgt (hTup (hCons (hName 8) (hCons (hName 13) hNil))) (eTup (aCons (eCallRs 1 1 fn__law_many aNil) (aCons (eCallRs 1 2 fn__law_taken (aCons (eC (.int 4)) aNil)) aNil))))
  (sSeq (sSet 8 (eTup (aCons (eIx (rVar 8) (eC (.int 0))) (aCons (eSl (eIx (rVar 8) (eC (.int 1))) oNo (oPart (eIx (lLst (aCons (eC (.int 40)) (aCons (eC (.int 20)) (aCons (eC (.int 14)) (aCons (eC (.int 10)) aNil))))) (eVar 13)))) aNil))))
  (sSet 9 (eTup (aCons (eIx (rVar 9) (eC (.int 0))) (aCons (eSl (eIx (rVar 9) (eC (.int 1))) oNo (oPart (eVar 13))) aNil)))))) sNext)
  (sSeq (sSet 3 (eCallRs 1 2 fn__law_taken (aCons (eLen (rE (eIx (rVar 9) (eC (.int 0))))) aNil)))
  (sSeq (sSet 4 (eOp addD (eOp addD (eIx (rVar 8) (eC (.int 0))) (eSl (eIx (rVar 9) (eC (.int 0))) oNo (oPart (eVar 3)))) (eSl (eIx (rVar 9) (eC (.int 0))) (oPart (eOp addD (eVar 3) (eC (.int 1)))) oNo)))
  (sSeq (sSet 5 (eCall 3 fn__law_rules (aCons (eVar 8) (aCons (eVar 9) (aCons (eVar 3) aNil)))))
  (sSeq (sIf (bOr (bVal (eOp gtD (eLen (rVar 4)) (eC (.int 5)))) (bVal (eOp gtD (eLen (rVar 5)) (eC (.int 40))))) (sSeq (sIf (bVal (eOp neD (eLam P qLam L_word09 3 fn_behind (aCons (eVar 8) (aCons (eVar 9) (aCons (eVar 3) aNil)))) (eTup (aCons (eC (.str "many")) aNil)))) (sRet (eC (.bool false))) sNext)
  sCont) sNext)
  (sSeq (sSet 6 (eCall 3 (okX fn_behind) (aCons (eVar 8) (aCons (eVar 9) (aCons (eVar 3) aNil)))))
  (sSeq (sIf (bNot (bVal (eCall 2 (fn__law_alike 6) (aCons (eVar 6) (aCons (eTup (aCons (eVar 4) (aCons (eVar 5) aNil))) aNil))))) (sRet (eC (.bool false))) sNext)
  (sFor (i1Rng (eC (.int 24))) (hName 7) b9in)))))))))
theorem lw09 : wordX L_word09 (.ex ⟨"TooMany", []⟩) = some (.tuple [.str "many"]) := by simp [wordX, L_word09]
theorem nq_many : neD (.tuple [.str "many"]) (.tuple [.str "many"]) = some (.bool false) := by
  rw [neD_ap (by unfold flatE; simp [PyData.depth, PyData.depthAll])]
  simp [PyData.eqv, PyData.eqvAll]
def J9 (ns : List Int) (A : D) (P : Addr) (ρ : DL.Env) (s : DL.Row) : Prop := ∃ sr y2 y3 y4 y5 y6 y7 y8 y9 y10 y11 y12 y13 y14, s = .list sr :: tabS0 P qLam ∧ RowI ns sr ∧ ρ = [.imm A, .sub 0, y2, y3, y4, y5, y6, y7, y8, y9, y10, y11, y12, y13, y14]
def I9 (ns : List Int) (A : D) (P : Addr) (k : D) (f s : Table) (p : Nat) (z : Int) (ρ : DL.Env) (st : DL.Row) : Prop := ∃ sr y7 y10 y11 y12 y13 y14, st = .list sr :: tabS0 P qLam ∧ RowI ns sr ∧ ρ = [.imm A, .sub 0, .imm k, .imm (.int (p : Int)), .imm (eIs (behS f s p)), .imm (eRs (behR f s p z)), .imm (eT (behS f s p, behR f s p z)), y7, .imm (eT f), .imm (eT s), y10, y11, y12, y13, y14]
theorem I9.J {ns : List Int} {A : D} {P : Addr} {k : D} {f s : Table} {p : Nat} {z : Int} {ρ : DL.Env} {st : DL.Row} (h : I9 ns A P k f s p z ρ st) : J9 ns A P ρ st := by
  obtain ⟨sr, y7, y10, y11, y12, y13, y14, rfl, hsr, rfl⟩ := h
  exact ⟨sr, _, _, _, _, _, _, _, _, _, _, _, _, _, rfl, hsr, rfl⟩
theorem in9 {ns : List Int} {A : D} {P : Addr} {kk : D} {f s : Table} {p : Nat} {z : Int} {ρ : DL.Env} {st : DL.Row} (hf : WT f) (hs : WT s) (hz : s.1[p]? = some z) (wt : WT (behS f s p, behR f s p z)) (hI : I9 ns A P kk f s p z ρ st) :
    Rs (b9in ρ st) fun o => ∃ ρ2 s2, (o = .nx ρ2 s2 ∨ o = .ct ρ2 s2) ∧ I9 ns A P kk f s p z ρ2 s2 := by
  obtain ⟨sr, y7, y10, y11, y12, y13, y14, rfl, hsr, rfl⟩ := hI
  have hp : p < s.1.length := (List.getElem?_eq_some_iff.mp hz).1
  have r1 : rdSl (.imm (eT f)) = some [eIs f.1, eRs f.2] := rfl
  have r2 : rdSl (.imm (eT s)) = some [eIs s.1, eRs s.2] := rfl
  have q4 : seqD (eIs s.1) = some (s.1.map eI) := rfl
  unfold b9in
  simp
  refine (case_ok hsr wt.1).mono ?_
  rintro _ ⟨c, sr, rfl, hsr, hc⟩
  obtain ⟨hc1, hc'⟩ := pw_split (xs := f.1) (xs' := cut s.1 p) hc
  have hlc : c.length = (behS f s p).length := (Pw.length hc).symm
  have hc5 : c.length ≤ 5 := by rw [hlc]; exact wt.1.2.1
  have hn1 : f.1.length ≤ c.length := by rw [hlc]; simp [behS]
  have s1 : slD (eIs c) none (some (f.1.length : Int)) = some (eIs (c.take f.1.length)) := by
    rw [eIs_t, slt_take (by simpa using hn1), ← List.map_take]; rfl
  have lt1 := lawtold_ok hf (w := "first") (.inr (.inl rfl)) hc1
  rw [told_first] at lt1
  have bt := beh_told (z := z) (fun o ho => ((hs.2.2 o ho).1.length).symm) hp (show (c.take f.1.length).length = f.1.length by simp; omega) (c' := c.drop f.1.length) (by
    have := hc'.length
    simp [cut] at this ⊢
    omega) f.2 (fun r hr => ((hf.2.2 r hr).1.length).symm)
  rw [List.take_append_drop] at bt
  have bt : fstK (deedsL (behR f s p z) c) = _ := bt
  have tk := told_ok wt (w := "first") (.inr (.inl rfl)) hc
  rw [told_first] at tk
  simp only at tk
  rw [bt] at tk
  simp [r1, s1, lt1, q4, r2, hz]
  generalize hK1 : fstK (deedsL f.2 (c.take f.1.length)) = K1 at tk ⊢
  have al : ∀ k : Kd, fn__law_alike 6 [encK k, encK k] = some (.bool true) := fun k => alike_ok 5 _ (lvMono (lv_encK k) (by omega))
  have rd : ∀ d : Option Int, rdSl (.imm (encK (.deed d))) = some [.str "deed", eO d] := fun _ => rfl
  have e0 : PyData.tuple [.str "deed", .none] = encK (.deed none) := rfl
  have e1 : PyData.tuple [.str "gap"] = encK .gap := rfl
  have n1 : ¬ ("gap" : Str) = "deed" := by decide +kernel
  have n2 : ¬ ("clash" : Str) = "deed" := by decide +kernel
  cases K1 with
  | gap =>
    have rd0 : rdSl (.imm (encK .gap)) = some [.str "gap"] := rfl
    simp [rd0, tk, behT, al, n1, n2]
    exact ⟨_, _, ⟨rfl, rfl⟩, sr, _, _, _, _, _, _, rfl, hsr, rfl⟩
  | clash =>
    have rd0 : rdSl (.imm (encK .clash)) = some [.str "clash"] := rfl
    simp [rd0, tk, behT, al, n1, n2]
    exact ⟨_, _, ⟨rfl, rfl⟩, sr, _, _, _, _, _, _, rfl, hsr, rfl⟩
  | deed d =>
    cases d with
    | none =>
      simp [rd, tk, behT, eO, e0, al]
      exact ⟨_, _, ⟨rfl, rfl⟩, sr, _, _, _, _, _, _, rfl, hsr, rfl⟩
    | some x =>
      have x0 : 0 ≤ x := by
        cases hd : deedsL f.2 (c.take f.1.length) with
        | nil => rw [hd] at hK1; cases hK1
        | cons a r =>
          rw [hd] at hK1
          have ha : a = some x := by
            have : Kd.deed a = .deed (some x) := hK1
            cases this; rfl
          have hm : a ∈ deedsL f.2 (c.take f.1.length) := by rw [hd]; simp
          unfold deedsL at hm
          obtain ⟨r0, hr0, e⟩ := List.mem_map.mp hm
          exact ((hf.2.2 r0 (List.mem_filter.mp hr0).1).2 x (by rw [e, ha])).1
      have eox : eO (some x) = .int x := rfl
      by_cases hx : x < z
      · have wp := put_wc hz x0 hx hc'
        have lt2 := lawtold_ok hs (w := "first") (.inr (.inl rfl)) wp
        rw [told_first] at lt2
        have hcl : (c.drop f.1.length).length + 1 = s.1.length := by
          have := hc'.length
          simp [cut] at this ⊢
          omega
        have s2 : slD (eIs c) (some (f.1.length : Int)) (some ((f.1.length : Int) + (p : Int))) = some (eIs ((c.drop f.1.length).take p)) := by
          show some (PyData.tuple (cutD _ _ _)) = _
          have e3 : ((f.1.length : Int) + (p : Int)) = ((f.1.length + p : Nat) : Int) := by omega
          unfold cutD
          rw [e3, HT.sIx_nat, HT.sIx_nat, List.length_map]
          have hm1 : min f.1.length c.length = f.1.length := by omega
          have hm2 : min (f.1.length + p) c.length = f.1.length + p := by simp at hcl; omega
          rw [hm1, hm2]
          simp [eIs, List.map_take, List.map_drop]
        have s3 : slD (eIs c) (some ((f.1.length : Int) + (p : Int))) none = some (eIs (c.drop (f.1.length + p))) := by
          have e3 : ((f.1.length : Int) + (p : Int)) = ((f.1.length + p : Nat) : Int) := by omega
          rw [eIs_t, e3, slt_drop (by simp at hcl ⊢; omega), ← List.map_drop]
          rfl
        have a1 : addD (eIs ((c.drop f.1.length).take p)) (.tuple [.int x]) = some (eIs ((c.drop f.1.length).take p ++ [x])) := by
          show addD _ (eIs [x]) = _
          exact add_is (by simp at hcl ⊢; omega)
        have a2 : addD (eIs ((c.drop f.1.length).take p ++ [x])) (eIs (c.drop (f.1.length + p))) = some (eIs (putV (c.drop f.1.length) p x)) := by
          rw [add_is (by simp at hcl ⊢; omega)]
          simp [putV]
        simp only [behT, if_pos hx] at tk
        have rx : rdSl (.imm (encK (.deed (some x)))) = some [.str "deed", .int x] := rfl
        simp [rx, eI, hx, s2, s3, a1, a2, lt2]
        generalize fstK (deedsL s.2 (putV (c.drop f.1.length) p x)) = K2 at tk
        have eq : eqD (encK K2) (.tuple [.str "gap"]) = some (.bool (decide (K2 = .gap))) := by
          rw [e1, eqD_ap (encK_flat _), encK_eqv]
        cases K2 with
        | gap =>
          simp at tk
          simp [eq, tk, e0, al]
          exact ⟨_, _, ⟨rfl, rfl⟩, sr, _, _, _, _, _, _, rfl, hsr, rfl⟩
        | clash =>
          simp at tk
          simp [eq, tk, al]
          exact ⟨_, _, ⟨rfl, rfl⟩, sr, _, _, _, _, _, _, rfl, hsr, rfl⟩
        | deed d2 =>
          simp at tk
          simp [eq, tk, al]
          exact ⟨_, _, ⟨rfl, rfl⟩, sr, _, _, _, _, _, _, rfl, hsr, rfl⟩
      · simp only [behT, if_neg hx] at tk
        have rx : rdSl (.imm (encK (.deed (some x)))) = some [.str "deed", .int x] := rfl
        simp [rx, eI, hx, tk, e0, al]
        exact ⟨_, _, ⟨rfl, rfl⟩, sr, _, _, _, _, _, _, rfl, hsr, rfl⟩
end PC

namespace PC
open PySem DL
theorem out9 {ns : List Int} {A : D} {P : Addr} {kk : D} {ρ : DL.Env} {st : DL.Row} (hI : J9 ns A P ρ st) :
    Rs (b9out P (ρ.set 2 (.imm kk)) st) fun o => ∃ ρ2 s2, (o = .nx ρ2 s2 ∨ o = .ct ρ2 s2) ∧ J9 ns A P ρ2 s2 := by
  obtain ⟨sr, y2, y3, y4, y5, y6, y7, y8, y9, y10, y11, y12, y13, y14, rfl, hsr, rfl⟩ := hI
  unfold b9out
  simp
  refine (table_ok (by omega) (by omega) hsr).mono ?_
  rintro _ ⟨f, sr, rfl, hsr, hf⟩
  simp
  refine (table_ok (by omega) (by omega) hsr).mono ?_
  rintro _ ⟨s, sr, rfl, hsr, hs⟩
  simp
  refine (taken_ok hsr (by omega) (by omega)).mono ?_
  rintro _ ⟨v, sr, rfl, hsr, v0, v1⟩
  simp
  refine (?sizes : Rs _ (S9 ns A P kk)).mono ?_
  · by_cases hv : v = 3
    · simp [hv]
      refine (many_ok hsr).mono ?_
      rintro _ ⟨f, sr, rfl, hsr, hf⟩
      simp
      refine (taken_ok hsr (by omega) (by omega)).mono ?_
      rintro _ ⟨u, sr, rfl, hsr, u0, u1⟩
      obtain ⟨m, hm0, hm⟩ : ∃ m : Int, 0 ≤ m ∧ L2.atI [PyData.int 40, .int 20, .int 14, .int 10] u = some (.int m) := by
        have : u = 0 ∨ u = 1 ∨ u = 2 ∨ u = 3 := by omega
        rcases this with rfl | rfl | rfl | rfl
        · exact ⟨40, by omega, rfl⟩
        · exact ⟨20, by omega, rfl⟩
        · exact ⟨14, by omega, rfl⟩
        · exact ⟨10, by omega, rfl⟩
      have r1 : rdSl (.imm (eT f)) = some [eIs f.1, eRs f.2] := rfl
      have r2 : rdSl (.imm (eT s)) = some [eIs s.1, eRs s.2] := rfl
      simp [hm, r1, r2, sl_any hm0, sl_any u0]
      exact ⟨(f.1, f.2.take m.toNat), (s.1, s.2.take u.toNat), sr, _, _, _, _, _, _, _, _, _, _, rfl, hsr, wt_take hf _, wt_take hs _⟩
    · simp [hv]
      exact ⟨f, s, sr, _, _, _, _, _, _, _, _, _, _, rfl, hsr, hf, hs⟩
  rintro _ ⟨f, s, sr, y3, y4, y5, y6, y7, y10, y11, y12, y13, y14, rfl, hsr, hf, hs⟩
  have h5 := hs.1.2.1
  have h5f := hf.1.2.1
  have hl0 : 0 < s.1.length := List.length_pos_iff.mpr hs.1.1
  have r1 : rdSl (.imm (eT f)) = some [eIs f.1, eRs f.2] := rfl
  have r2 : rdSl (.imm (eT s)) = some [eIs s.1, eRs s.2] := rfl
  have q4 : seqD (eIs s.1) = some (s.1.map eI) := rfl
  simp [r1, r2, q4]
  refine (taken_ok hsr (by omega) (by omega)).mono ?_
  rintro _ ⟨pI, sr, rfl, hsr, p0, p1⟩
  obtain ⟨p, rfl⟩ : ∃ p : Nat, pI = (p : Int) := ⟨pI.toNat, by omega⟩
  have hp : p < s.1.length := by omega
  obtain ⟨z, hz⟩ : ∃ z, s.1[p]? = some z := ⟨_, List.getElem?_eq_getElem hp⟩
  have cI := cutI hp
  have ad1 := add_is (a := f.1) (b := s.1.take p) (by simp; omega)
  have ad2 := add_is (a := f.1 ++ s.1.take p) (b := s.1.drop (p + 1)) (by simp; omega)
  have eS : ((f.1 ++ s.1.take p) ++ s.1.drop (p + 1)) = behS f s p := by simp [behS, cut]
  rw [eS] at ad2
  have lr := lawrules_ok hf hs hz
  have bo := behind_ok hf hs hz
  have r3 : rdSl (.imm (eIs (behS f s p))) = some ((behS f s p).map eI) := rfl
  have r4 : rdSl (.imm (eRs (behR f s p z))) = some ((behR f s p z).map eR) := rfl
  simp [cI, ad1, ad2, lr, r3, r4]
  refine (?kb : Rs _ (fun b : Bool × DL.Row => b = (decide (5 < (behS f s p).length ∨ 40 < (behR f s p z).length), .list sr :: tabS0 P qLam))).mono ?_
  · by_cases h5' : 5 < (behS f s p).length
    · have e : (5 : Int) < ((behS f s p).length : Int) := by omega
      simp [h5', e]
    · have e : ¬ (5 : Int) < ((behS f s p).length : Int) := by omega
      have e2 : (40 : Int) < ((behR f s p z).length : Int) ↔ 40 < (behR f s p z).length := by omega
      simp [h5', e, e2]
  rintro _ rfl
  by_cases hbig : 5 < (behS f s p).length ∨ 40 < (behR f s p z).length
  · have lw := lw09
    have nq := nq_many
    rw [if_pos hbig] at bo
    simp [hbig, bo, lw, nq]
    exact ⟨_, rfl, _, _, .inr rfl, sr, _, _, _, _, _, _, _, _, _, _, _, _, _, rfl, hsr, rfl⟩
  · have hs5 : (behS f s p).length ≤ 5 := by omega
    have hr40 : (behR f s p z).length ≤ 40 := by omega
    have wt := beh_wt hf hs hz hs5 hr40
    have al : fn__law_alike 6 [eT (behS f s p, behR f s p z), eT (behS f s p, behR f s p z)] = some (.bool true) := alike_ok 5 _ (lv_eT (n := 0) wt)
    rw [if_neg hbig] at bo
    have eT' : PyData.tuple [eIs (behS f s p), eRs (behR f s p z)] = eT (behS f s p, behR f s p z) := rfl
    have bo2 : okX fn_behind [eT f, eT s, .int p] = some (eT (behS f s p, behR f s p z)) := by
      show (fn_behind _).bind _ = _
      rw [bo]; rfl
    simp [hbig, -okX_ap]
    rw [bo2, Rs_some, eT', al, Rs_some, isB_b, Rs_some, if_neg (by decide), Rs_some]
    simp
    rw [rng1_i (by omega) (by omega)]
    simp
    refine for_rs (fun i ρ st => I9 ns A P kk f s p z ρ st) ⟨sr, _, _, _, _, _, _, rfl, hsr, rfl⟩ (fun j k ρ st hk hI => ?_) (fun ρ st hI => ?_)
    · rw [hName_ap, Rs_some]
      refine in9 hf hs hz wt ?_
      obtain ⟨sr, y7, y10, y11, y12, y13, y14, rfl, hsr, rfl⟩ := hI
      exact ⟨sr, _, _, _, _, _, _, rfl, hsr, rfl⟩
    · exact ⟨_, _, .inl rfl, hI.J⟩
theorem law09_true (P : Addr) (ns : List Int) (hn : ns.length ≤ 63) : fn_law09 P [.list (ns.map PyData.int)] = some (.bool true) := by
  rw [← Rs_eq]
  simp [fn_law09, runT, b_law09]
  generalize hA : PyData.list (List.map PyData.int ns) = A
  have hs : RowI ns [A, .int 0, .int 0, .int 0] := ⟨0, 0, 0, by subst hA; rfl, by omega⟩
  generalize [A, PyData.int 0, .int 0, .int 0] = s0 at hs
  rw [rng1_i (by omega) (by omega)]
  simp
  refine for_rs (fun i ρ s => J9 ns A P ρ s) ⟨s0, _, _, _, _, _, _, _, _, _, _, _, _, _, rfl, hs, rfl⟩ (fun i k ρ s hk hI => ?_) (fun ρ s hI => ?_)
  · have h := out9 (kk := .int (k : Int)) hI
    rw [hName_ap, Rs_some]
    exact h
  · obtain ⟨sr, y2, y3, y4, y5, y6, y7, y8, y9, y10, y11, y12, y13, y14, rfl, hsr, rfl⟩ := hI
    simp
end PC

set_option maxHeartbeats 1000000
namespace K09
open PySem PySem.Spec PyProof.Rows L2 DL
def topS (i : Nat) : Stmt := PySem.Challenge.pw_casetables_k09_behind_one_another.main.body.getD i (.Pass ⟨0, 0, 0, 0⟩)
open PC (L_word09)
structure Wx (K : PySem.W.Frag) (mg : Str → Option Value) (c_CaseError c_BadRule c_BadCase c_BadWay c_BadTable c_Unlike c_BadTree c_BadShares c_BadText c_TooMany : Addr) : Prop where
  m_CaseError : mg "CaseError" = some (.ref c_CaseError)
  m_BadRule : mg "BadRule" = some (.ref c_BadRule)
  m_BadCase : mg "BadCase" = some (.ref c_BadCase)
  m_BadWay : mg "BadWay" = some (.ref c_BadWay)
  m_BadTable : mg "BadTable" = some (.ref c_BadTable)
  m_Unlike : mg "Unlike" = some (.ref c_Unlike)
  m_BadTree : mg "BadTree" = some (.ref c_BadTree)
  m_BadShares : mg "BadShares" = some (.ref c_BadShares)
  m_BadText : mg "BadText" = some (.ref c_BadText)
  m_TooMany : mg "TooMany" = some (.ref c_TooMany)
  g_TooMany : ErrD K c_CaseError [("BadRule", .ref c_BadRule), ("BadCase", .ref c_BadCase), ("BadWay", .ref c_BadWay), ("BadTable", .ref c_BadTable), ("Unlike", .ref c_Unlike), ("BadTree", .ref c_BadTree), ("BadShares", .ref c_BadShares), ("BadText", .ref c_BadText), ("TooMany", .ref c_TooMany), ("ValueError", .type "ValueError")] c_TooMany (zOf "TooMany")
structure Tx (K : PySem.W.Frag) (mg : Str → Option Value) : Prop where
  f_is_whole : ∃ f fd, Fun K "is_whole" "is_whole" (topS 24) f fd ∧ mg "is_whole" = some (.ref f)
  f_is_want : ∃ f fd, Fun K "is_want" "is_want" (topS 25) f fd ∧ mg "is_want" = some (.ref f)
  f_is_deed : ∃ f fd, Fun K "is_deed" "is_deed" (topS 26) f fd ∧ mg "is_deed" = some (.ref f)
  f_is_rule : ∃ f fd, Fun K "is_rule" "is_rule" (topS 27) f fd ∧ mg "is_rule" = some (.ref f)
  f_need_table : ∃ f fd, Fun K "need_table" "need_table" (topS 28) f fd ∧ mg "need_table" = some (.ref f)
  f_need_way : ∃ f fd, Fun K "need_way" "need_way" (topS 29) f fd ∧ mg "need_way" = some (.ref f)
  f_need_case : ∃ f fd, Fun K "need_case" "need_case" (topS 30) f fd ∧ mg "need_case" = some (.ref f)
  f_holds : ∃ f fd, Fun K "holds" "holds" (topS 31) f fd ∧ mg "holds" = some (.ref f)
  f_holding : ∃ f fd, Fun K "holding" "holding" (topS 32) f fd ∧ mg "holding" = some (.ref f)
  f_clashing : ∃ f fd, Fun K "clashing" "clashing" (topS 33) f fd ∧ mg "clashing" = some (.ref f)
  f_answer : ∃ f fd, Fun K "answer" "answer" (topS 35) f fd ∧ mg "answer" = some (.ref f)
  f_told : ∃ f fd, Fun K "told" "told" (topS 34) f fd ∧ mg "told" = some (.ref f)
  f_full : ∃ f fd, Fun K "full" "full" (topS 37) f fd ∧ mg "full" = some (.ref f)
  f_behind : ∃ f fd, Fun K "behind" "behind" (topS 38) f fd ∧ mg "behind" = some (.ref f)
  f__law_taken : ∃ f fd, Fun K "_law_taken" "_law_taken" (topS 40) f fd ∧ mg "_law_taken" = some (.ref f)
  f__law_alike : ∃ f fd, Fun K "_law_alike" "_law_alike" (topS 41) f fd ∧ mg "_law_alike" = some (.ref f)
  f__law_word : ∃ f fd, Fun K "_law_word" "_law_word" (topS 42) f fd ∧ mg "_law_word" = some (.ref f)
  f__law_sizes : ∃ f fd, Fun K "_law_sizes" "_law_sizes" (topS 43) f fd ∧ mg "_law_sizes" = some (.ref f)
  f__law_want : ∃ f fd, Fun K "_law_want" "_law_want" (topS 44) f fd ∧ mg "_law_want" = some (.ref f)
  f__law_rule : ∃ f fd, Fun K "_law_rule" "_law_rule" (topS 45) f fd ∧ mg "_law_rule" = some (.ref f)
  f__law_near : ∃ f fd, Fun K "_law_near" "_law_near" (topS 46) f fd ∧ mg "_law_near" = some (.ref f)
  f__law_many : ∃ f fd, Fun K "_law_many" "_law_many" (topS 47) f fd ∧ mg "_law_many" = some (.ref f)
  f__law_table : ∃ f fd, Fun K "_law_table" "_law_table" (topS 48) f fd ∧ mg "_law_table" = some (.ref f)
  f__law_case : ∃ f fd, Fun K "_law_case" "_law_case" (topS 49) f fd ∧ mg "_law_case" = some (.ref f)
  f__law_held : ∃ f fd, Fun K "_law_held" "_law_held" (topS 50) f fd ∧ mg "_law_held" = some (.ref f)
  f__law_told : ∃ f fd, Fun K "_law_told" "_law_told" (topS 51) f fd ∧ mg "_law_told" = some (.ref f)
  f__law_rules : ∃ f fd, Fun K "_law_rules" "_law_rules" (topS 52) f fd ∧ mg "_law_rules" = some (.ref f)
  f_law : ∃ f fd, Fun K "law" "law" (topS 53) f fd ∧ mg "law" = some (.ref f)
  e_BadCase : ∃ C, Exc0 K mg "BadCase" C
  e_TooMany : ∃ C, Exc0 K mg "TooMany" C
  wt : ∃ c_CaseError c_BadRule c_BadCase c_BadWay c_BadTable c_Unlike c_BadTree c_BadShares c_BadText c_TooMany, Wx K mg c_CaseError c_BadRule c_BadCase c_BadWay c_BadTable c_Unlike c_BadTree c_BadShares c_BadText c_TooMany
  m_ValueError : mg "ValueError" = none
  m_bool : mg "bool" = none
  m_int : mg "int" = none
  m_isinstance : mg "isinstance" = none
  m_len : mg "len" = none
  m_list : mg "list" = none
  m_min : mg "min" = none
  m_range : mg "range" = none
  m_str : mg "str" = none
  m_tuple : mg "tuple" = none
  g_CLASH : ∃ u, mg "CLASH" = some u ∧ RelV (.str "clash") u
  g_DEED : ∃ u, mg "DEED" = some u ∧ RelV (.str "deed") u
  g_FIRST : ∃ u, mg "FIRST" = some u ∧ RelV (.str "first") u
  g_GAP : ∃ u, mg "GAP" = some u ∧ RelV (.str "gap") u
  g_LEAST_SIZE : ∃ u, mg "LEAST_SIZE" = some u ∧ RelV (.int 2) u
  g_MOST_CONDITIONS : ∃ u, mg "MOST_CONDITIONS" = some u ∧ RelV (.int 5) u
  g_MOST_DEED : ∃ u, mg "MOST_DEED" = some u ∧ RelV (.int 9) u
  g_MOST_RULES : ∃ u, mg "MOST_RULES" = some u ∧ RelV (.int 40) u
  g_MOST_SIZE : ∃ u, mg "MOST_SIZE" = some u ∧ RelV (.int 4) u
  g_ONE : ∃ u, mg "ONE" = some u ∧ RelV (.str "one") u
  g_WAYS : ∃ a, mg "WAYS" = some (.ref a) ∧ ∀ M, Rp K M (.ref a) PC.g_WAYS
theorem gstr {K : PySem.W.Frag} (x : Str) (h : PyData.strOk x = true := by decide +kernel) (hl : decide (x.length ≤ lim) = true := by decide +kernel) : ∀ M, Rp K M (.str x) (.str x) := fun _ => .str x h (of_decide_eq_true hl)
section
variable {P : Program} {w : World} {K : PySem.W.Frag} {mg : Str → Option Value} {base : Heap}
/-! ### is_whole -/
abbrev s_is_whole : Stmt := topS 24
abbrev N_is_whole : List Str := ["number", "low", "high"]
theorem sc_is_whole : FnScope N_is_whole ["number", "low", "high"] (defScope s_is_whole) := ⟨rfl, rfl, rfl, by decide +kernel, rfl, by decide +kernel, by decide +kernel⟩
theorem c_is_whole {k : Nat} (T : Tx K mg) :
    Callee P w K mg base (k + 1) "is_whole" (spP K 3 PC.fn_is_whole) := by
  obtain ⟨f, fd, F, hm⟩ := T.f_is_whole
  refine callee_P (N := N_is_whole) F hm sc_is_whole (fun cdv A outer s H E hr => ?_) (fun _ _ _ _ _ _ us hl => match us, hl with | [_, _, _], _ => rfl)
  have hu := hr.units
  have sc := sc_is_whole
  exact ⟨_, (ss_one (s_ret (d_and (d_isi (d_var 0) T.m_isinstance T.m_int) (d_and (d_not (d_isi (d_var 0) T.m_isinstance T.m_bool)) (d_one (d_chain c_le c_le (d_var 1) (d_var 0) (d_var 2)))))))⟩
/-! ### is_want -/
abbrev s_is_want : Stmt := topS 25
abbrev N_is_want : List Str := ["want", "size", "value", "k"]
theorem sc_is_want : FnScope N_is_want ["want", "size"] (defScope s_is_want) := ⟨rfl, rfl, rfl, by decide +kernel, rfl, by decide +kernel, by decide +kernel⟩
theorem c_is_want {k : Nat} (T : Tx K mg)
    (C_is_whole : Callee P w K mg base k "is_whole" (spP K 3 PC.fn_is_whole)) :
    Callee P w K mg base (k + 1) "is_want" (spP K 2 PC.fn_is_want) := by
  obtain ⟨f, fd, F, hm⟩ := T.f_is_want
  refine callee_P (N := N_is_want) F hm sc_is_want (fun cdv A outer s H E hr => ?_) (fun _ _ _ _ _ _ us hl => match us, hl with | [_, _], _ => rfl)
  have hu := hr.units
  have sc := sc_is_want
  exact ⟨_, (ss_cons (s_if (t_cmp c_is (d_var 0) d_non) (ss_one (s_ret d_bl)) ss_nil)
  (ss_cons (s_if (t_w (w_or (t_not (t_val (d_isi (d_var 0) T.m_isinstance T.m_tuple))) (w_or1 (t_cmp (c_eq hu) (d_var 0) (d_tup a_nil))))) (ss_one (s_ret d_bl)) ss_nil)
  (ss_cons (s_if (t_cmp (c_ne hu) (d_n (n_lc (own := [("value", 2)]) (ic_seq (r_var 0)) (blkOk_by (N := N_is_want) (sc := (defScope s_is_want)) (by decide +kernel)) sc.nd (fun _ h => h) (fun _ _ _ _ _ => by exact (g_name 2 sc.nd)) (fun _ _ _ _ _ => by exact (p_one (t_not (t_val (d_call C_is_whole hr (a_cons (d_var 2) (a_cons d_int (a_cons (d_sub (d_var 1) d_int) a_nil)))))))) (fun _ _ _ _ _ => by exact (d_var 2)))) (d_n (n_lst a_nil))) (ss_one (s_ret d_bl)) ss_nil)
  (ss_one (s_ret (d_cmp (c_eq hu) (d_n (n_lc (own := [("k", 3)]) (ic_f (i_rng2 d_int (d_len (r_var 0) T.m_len) T.m_range)) (blkOk_by (N := N_is_want) (sc := (defScope s_is_want)) (by decide +kernel)) sc.nd (fun _ h => h) (fun _ _ _ _ _ => by exact (g_name 3 sc.nd)) (fun _ _ _ _ _ => by exact (p_one (t_cmp c_ge (d_ix (r_var 0) (d_sub (d_var 3) d_int)) (d_ix (r_var 0) (d_var 3))))) (fun _ _ _ _ _ => by exact (d_var 3)))) (d_n (n_lst a_nil))))))))⟩
/-! ### is_deed -/
abbrev s_is_deed : Stmt := topS 26
abbrev N_is_deed : List Str := ["deed"]
theorem sc_is_deed : FnScope N_is_deed ["deed"] (defScope s_is_deed) := ⟨rfl, rfl, rfl, by decide +kernel, rfl, by decide +kernel, by decide +kernel⟩
theorem c_is_deed {k : Nat} (T : Tx K mg)
    (C_is_whole : Callee P w K mg base k "is_whole" (spP K 3 PC.fn_is_whole)) :
    Callee P w K mg base (k + 1) "is_deed" (spP K 1 PC.fn_is_deed) := by
  obtain ⟨f, fd, F, hm⟩ := T.f_is_deed
  refine callee_P (N := N_is_deed) F hm sc_is_deed (fun cdv A outer s H E hr => ?_) (fun _ _ _ _ _ _ us hl => match us, hl with | [_], _ => rfl)
  have hu := hr.units
  have sc := sc_is_deed
  exact ⟨_, (ss_one (s_ret (d_or (d_cmp c_is (d_var 0) d_non) (d_one (d_call C_is_whole hr (a_cons (d_var 0) (a_cons d_int (a_cons (d_glob T.g_MOST_DEED fun _ => .int _) a_nil))))))))⟩
/-! ### is_rule -/
abbrev s_is_rule : Stmt := topS 27
abbrev N_is_rule : List Str := ["sizes", "rule", "k"]
theorem sc_is_rule : FnScope N_is_rule ["sizes", "rule"] (defScope s_is_rule) := ⟨rfl, rfl, rfl, by decide +kernel, rfl, by decide +kernel, by decide +kernel⟩
theorem c_is_rule {k : Nat} (T : Tx K mg)
    (C_is_want : Callee P w K mg base k "is_want" (spP K 2 PC.fn_is_want))
    (C_is_deed : Callee P w K mg base k "is_deed" (spP K 1 PC.fn_is_deed)) :
    Callee P w K mg base (k + 1) "is_rule" (spP K 2 PC.fn_is_rule) := by
  obtain ⟨f, fd, F, hm⟩ := T.f_is_rule
  refine callee_P (N := N_is_rule) F hm sc_is_rule (fun cdv A outer s H E hr => ?_) (fun _ _ _ _ _ _ us hl => match us, hl with | [_, _], _ => rfl)
  have hu := hr.units
  have sc := sc_is_rule
  exact ⟨_, (ss_cons (s_if (t_w (w_or (t_not (t_val (d_isi (d_var 1) T.m_isinstance T.m_tuple))) (w_or (t_cmp (c_ne hu) (d_len (r_var 1) T.m_len) d_int) (w_or (t_not (t_val (d_isi (d_ix (r_var 1) d_int) T.m_isinstance T.m_tuple))) (w_or1 (t_cmp (c_ne hu) (d_len (r_d (d_ix (r_var 1) d_int)) T.m_len) (d_len (r_var 0) T.m_len))))))) (ss_one (s_ret d_bl)) ss_nil)
  (ss_cons (s_if (t_cmp (c_ne hu) (d_n (n_lc (own := [("k", 2)]) (ic_f (i_rng1 (d_len (r_var 0) T.m_len) T.m_range)) (blkOk_by (N := N_is_rule) (sc := (defScope s_is_rule)) (by decide +kernel)) sc.nd (fun _ h => h) (fun _ _ _ _ _ => by exact (g_name 2 sc.nd)) (fun _ _ _ _ _ => by exact (p_one (t_not (t_val (d_call C_is_want hr (a_cons (d_ix (r_d (d_ix (r_var 1) d_int)) (d_var 2)) (a_cons (d_ix (r_var 0) (d_var 2)) a_nil))))))) (fun _ _ _ _ _ => by exact (d_var 2)))) (d_n (n_lst a_nil))) (ss_one (s_ret d_bl)) ss_nil)
  (ss_one (s_ret (d_call C_is_deed hr (a_cons (d_ix (r_var 1) d_int) a_nil))))))⟩
/-! ### need_table -/
abbrev s_need_table : Stmt := topS 28
abbrev N_need_table : List Str := ["table", "number", "sizes", "rules"]
theorem sc_need_table : FnScope N_need_table ["table"] (defScope s_need_table) := ⟨rfl, rfl, rfl, by decide +kernel, rfl, by decide +kernel, by decide +kernel⟩
theorem c_need_table {k : Nat} (T : Tx K mg)
    (C_is_whole : Callee P w K mg base k "is_whole" (spP K 3 PC.fn_is_whole))
    (C_is_rule : Callee P w K mg base k "is_rule" (spP K 2 PC.fn_is_rule)) :
    Callee P w K mg base (k + 1) "need_table" (spP K 1 PC.fn_need_table) := by
  obtain ⟨f, fd, F, hm⟩ := T.f_need_table
  refine callee_P (N := N_need_table) F hm sc_need_table (fun cdv A outer s H E hr => ?_) (fun _ _ _ _ _ _ us hl => match us, hl with | [_], _ => rfl)
  have hu := hr.units
  have sc := sc_need_table
  exact ⟨_, (ss_cons (s_if (t_w (w_or (t_not (t_val (d_isi (d_var 0) T.m_isinstance T.m_tuple))) (w_or (t_cmp (c_ne hu) (d_len (r_var 0) T.m_len) d_int) (w_or (t_not (t_val (d_isi (d_ix (r_var 0) d_int) T.m_isinstance T.m_tuple))) (w_or1 (t_cmp (c_eq hu) (d_ix (r_var 0) d_int) (d_tup a_nil))))))) (ss_one s_never) ss_nil)
  (ss_cons (s_tgt (d_var 0) (g_tup (gs_cons (g_name 2 sc.nd) (gs_cons (g_name 3 sc.nd) gs_nil))))
  (ss_cons (s_for PassesOwn.never (i_rng1 (d_len (r_var 2) T.m_len) T.m_range) (g_name 1 sc.nd) (ss_one (s_if (t_w (w_or (t_cmp c_ge (d_var 1) (d_glob T.g_MOST_CONDITIONS fun _ => .int _)) (w_or1 (t_not (t_val (d_call C_is_whole hr (a_cons (d_ix (r_var 2) (d_var 1)) (a_cons (d_glob T.g_LEAST_SIZE fun _ => .int _) (a_cons (d_glob T.g_MOST_SIZE fun _ => .int _) a_nil))))))))) (ss_one s_never) ss_nil)))
  (ss_cons (s_if (t_not (t_val (d_isi (d_var 3) T.m_isinstance T.m_tuple))) (ss_one s_never) ss_nil)
  (ss_one (s_for PassesOwn.never (i_rng1 (d_len (r_var 3) T.m_len) T.m_range) (g_name 1 sc.nd) (ss_one (s_if (t_w (w_or (t_cmp c_ge (d_var 1) (d_glob T.g_MOST_RULES fun _ => .int _)) (w_or1 (t_not (t_val (d_call C_is_rule hr (a_cons (d_var 2) (a_cons (d_ix (r_var 3) (d_var 1)) a_nil)))))))) (ss_one s_never) ss_nil))))))))⟩
/-! ### need_way -/
abbrev s_need_way : Stmt := topS 29
abbrev N_need_way : List Str := ["way"]
theorem sc_need_way : FnScope N_need_way ["way"] (defScope s_need_way) := ⟨rfl, rfl, rfl, by decide +kernel, rfl, by decide +kernel, by decide +kernel⟩
theorem c_need_way {k : Nat} (T : Tx K mg) :
    Callee P w K mg base (k + 1) "need_way" (spP K 1 PC.fn_need_way) := by
  obtain ⟨f, fd, F, hm⟩ := T.f_need_way
  obtain ⟨a_WAYS, h_WAYS, r_WAYS⟩ := T.g_WAYS
  refine callee_P (N := N_need_way) F hm sc_need_way (fun cdv A outer s H E hr => ?_) (fun _ _ _ _ _ _ us hl => match us, hl with | [_], _ => rfl)
  have hu := hr.units
  have sc := sc_need_way
  exact ⟨_, (ss_one (s_if (t_w (w_or (t_not (t_val (d_isi (d_var 0) T.m_isinstance T.m_str))) (w_or1 (t_cmp c_nin (d_var 0) (d_glob (v := .ref a_WAYS) ⟨_, h_WAYS, rfl⟩ r_WAYS))))) (ss_one s_never) ss_nil))⟩
/-! ### need_case -/
abbrev s_need_case : Stmt := topS 30
abbrev N_need_case : List Str := ["sizes", "case", "k"]
theorem sc_need_case : FnScope N_need_case ["sizes", "case"] (defScope s_need_case) := ⟨rfl, rfl, rfl, by decide +kernel, rfl, by decide +kernel, by decide +kernel⟩
theorem c_need_case {k : Nat} (T : Tx K mg)
    (C_is_whole : Callee P w K mg base k "is_whole" (spP K 3 PC.fn_is_whole)) :
    Callee P w K mg base (k + 1) "need_case" (spP K 2 PC.fn_need_case) := by
  obtain ⟨f, fd, F, hm⟩ := T.f_need_case
  refine callee_P (N := N_need_case) F hm sc_need_case (fun cdv A outer s H E hr => ?_) (fun _ _ _ _ _ _ us hl => match us, hl with | [_, _], _ => rfl)
  have hu := hr.units
  have sc := sc_need_case
  exact ⟨_, (ss_cons (s_if (t_w (w_or (t_not (t_val (d_isi (d_var 1) T.m_isinstance T.m_tuple))) (w_or1 (t_cmp (c_ne hu) (d_len (r_var 1) T.m_len) (d_len (r_var 0) T.m_len))))) (ss_one s_never) ss_nil)
  (ss_one (s_if (t_cmp (c_ne hu) (d_n (n_lc (own := [("k", 2)]) (ic_f (i_rng1 (d_len (r_var 0) T.m_len) T.m_range)) (blkOk_by (N := N_need_case) (sc := (defScope s_need_case)) (by decide +kernel)) sc.nd (fun _ h => h) (fun _ _ _ _ _ => by exact (g_name 2 sc.nd)) (fun _ _ _ _ _ => by exact (p_one (t_not (t_val (d_call C_is_whole hr (a_cons (d_ix (r_var 1) (d_var 2)) (a_cons d_int (a_cons (d_sub (d_ix (r_var 0) (d_var 2)) d_int) a_nil)))))))) (fun _ _ _ _ _ => by exact (d_var 2)))) (d_n (n_lst a_nil))) (ss_one s_never) ss_nil)))⟩
/-! ### holds -/
abbrev s_holds : Stmt := topS 31
abbrev N_holds : List Str := ["rule", "case", "k"]
theorem sc_holds : FnScope N_holds ["rule", "case"] (defScope s_holds) := ⟨rfl, rfl, rfl, by decide +kernel, rfl, by decide +kernel, by decide +kernel⟩
theorem c_holds {k : Nat} (T : Tx K mg) :
    Callee P w K mg base (k + 1) "holds" (spP K 2 PC.fn_holds) := by
  obtain ⟨f, fd, F, hm⟩ := T.f_holds
  refine callee_P (N := N_holds) F hm sc_holds (fun cdv A outer s H E hr => ?_) (fun _ _ _ _ _ _ us hl => match us, hl with | [_, _], _ => rfl)
  have hu := hr.units
  have sc := sc_holds
  exact ⟨_, (ss_one (s_ret (d_cmp (c_eq hu) (d_n (n_lc (own := [("k", 2)]) (ic_f (i_rng1 (d_len (r_var 1) T.m_len) T.m_range)) (blkOk_by (N := N_holds) (sc := (defScope s_holds)) (by decide +kernel)) sc.nd (fun _ h => h) (fun _ _ _ _ _ => by exact (g_name 2 sc.nd)) (fun _ _ _ _ _ => by exact (p_one (t_w (w_and (t_cmp c_isnot (d_ix (r_d (d_ix (r_var 0) d_int)) (d_var 2)) d_non) (w_and1 (t_cmp c_nin (d_ix (r_var 1) (d_var 2)) (d_ix (r_d (d_ix (r_var 0) d_int)) (d_var 2)))))))) (fun _ _ _ _ _ => by exact (d_var 2)))) (d_n (n_lst a_nil)))))⟩
/-! ### holding -/
abbrev s_holding : Stmt := topS 32
abbrev N_holding : List Str := ["table", "case", "number"]
theorem sc_holding : FnScope N_holding ["table", "case"] (defScope s_holding) := ⟨rfl, rfl, rfl, by decide +kernel, rfl, by decide +kernel, by decide +kernel⟩
theorem c_holding {k : Nat} (T : Tx K mg)
    (C_holds : Callee P w K mg base k "holds" (spP K 2 PC.fn_holds)) :
    Callee P w K mg base (k + 1) "holding" (spPL K 2 PC.fn_holding) := by
  obtain ⟨f, fd, F, hm⟩ := T.f_holding
  refine callee_PL (N := N_holding) F hm sc_holding (fun cdv A outer s H E hr => ?_) (fun _ _ _ _ _ _ us hl => match us, hl with | [_, _], _ => rfl)
  have hu := hr.units
  have sc := sc_holding
  exact ⟨_, (ss_one (s_retL (n_lc (own := [("number", 2)]) (ic_f (i_rng1 (d_len (r_d (d_ix (r_var 0) d_int)) T.m_len) T.m_range)) (blkOk_by (N := N_holding) (sc := (defScope s_holding)) (by decide +kernel)) sc.nd (fun _ h => h) (fun _ _ _ _ _ => by exact (g_name 2 sc.nd)) (fun _ _ _ _ _ => by exact (p_one (t_val (d_call C_holds hr (a_cons (d_ix (r_d (d_ix (r_var 0) d_int)) (d_var 2)) (a_cons (d_var 1) a_nil)))))) (fun _ _ _ _ _ => by exact (d_var 2)))))⟩
/-! ### clashing -/
abbrev s_clashing : Stmt := topS 33
abbrev N_clashing : List Str := ["table", "way", "some", "deed", "others", "number"]
theorem sc_clashing : FnScope N_clashing ["table", "way", "some"] (defScope s_clashing) := ⟨rfl, rfl, rfl, by decide +kernel, rfl, by decide +kernel, by decide +kernel⟩
theorem c_clashing {k : Nat} (T : Tx K mg) :
    Callee P w K mg base (k + 1) "clashing" (spP K 3 PC.fn_clashing) := by
  obtain ⟨f, fd, F, hm⟩ := T.f_clashing
  refine callee_P (N := N_clashing) F hm sc_clashing (fun cdv A outer s H E hr => ?_) (fun _ _ _ _ _ _ us hl => match us, hl with | [_, _, _], _ => rfl)
  have hu := hr.units
  have sc := sc_clashing
  exact ⟨_, (ss_cons (s_if (t_w (w_or (t_cmp (c_eq hu) (d_var 1) (d_glob T.g_FIRST (gstr "first"))) (w_or1 (t_cmp c_lt (d_len (r_var 2) T.m_len) d_int)))) (ss_one (s_ret d_non)) ss_nil)
  (ss_cons (s_if (t_cmp (c_eq hu) (d_var 1) (d_glob T.g_ONE (gstr "one"))) (ss_one (s_ret (d_tup (a_cons (d_ix (r_var 2) d_int) (a_cons (d_ix (r_var 2) d_int) a_nil))))) ss_nil)
  (ss_cons (s_set 3 (d_ix (r_d (d_ix (r_d (d_ix (r_var 0) d_int)) (d_ix (r_var 2) d_int))) d_int) sc.nd)
  (ss_cons (s_frzB 4 (s_lc 4 (own := [("number", 5)]) (ic_seq (r_var 2)) (blkOk_by (N := N_clashing) (sc := (defScope s_clashing)) (by decide +kernel)) sc.nd (fun _ h => h) (fun _ _ _ _ _ => by exact (g_name 5 sc.nd)) (fun _ _ _ _ _ => by exact (p_one (t_cmp (c_ne hu) (d_ix (r_d (d_ix (r_d (d_ix (r_var 0) d_int)) (d_var 5))) d_int) (d_var 3)))) (fun _ _ _ _ _ => by exact (d_var 5))))
  (ss_one (s_ret (d_if (t_cmp (c_ne hu) (d_var 4) (d_n (n_lst a_nil))) (d_tup (a_cons (d_ix (r_var 2) d_int) (a_cons (d_ix (r_var 4) d_int) a_nil))) d_non)))))))⟩
/-! ### answer -/
abbrev s_answer : Stmt := topS 35
abbrev N_answer : List Str := ["table", "way", "case", "some", "pair"]
theorem sc_answer : FnScope N_answer ["table", "way", "case"] (defScope s_answer) := ⟨rfl, rfl, rfl, by decide +kernel, rfl, by decide +kernel, by decide +kernel⟩
theorem c_answer {k : Nat} (T : Tx K mg)
    (C_holding : Callee P w K mg base k "holding" (spPL K 2 PC.fn_holding))
    (C_clashing : Callee P w K mg base k "clashing" (spP K 3 PC.fn_clashing)) :
    Callee P w K mg base (k + 1) "answer" (spP K 3 PC.fn_answer) := by
  obtain ⟨f, fd, F, hm⟩ := T.f_answer
  refine callee_P (N := N_answer) F hm sc_answer (fun cdv A outer s H E hr => ?_) (fun _ _ _ _ _ _ us hl => match us, hl with | [_, _, _], _ => rfl)
  have hu := hr.units
  have sc := sc_answer
  exact ⟨_, (ss_cons (s_set 3 (d_n (n_call C_holding hr (a_cons (d_var 0) (a_cons (d_var 2) a_nil)))) sc.nd)
  (ss_cons (s_if (t_cmp (c_eq hu) (d_var 3) (d_n (n_lst a_nil))) (ss_one (s_ret (d_tup (a_cons (d_glob T.g_GAP (gstr "gap")) a_nil)))) ss_nil)
  (ss_cons (s_set 4 (d_call C_clashing hr (a_cons (d_var 0) (a_cons (d_var 1) (a_cons (d_var 3) a_nil)))) sc.nd)
  (ss_one (s_ret (d_if (t_cmp c_is (d_var 4) d_non) (d_tup (a_cons (d_glob T.g_DEED (gstr "deed")) (a_cons (d_ix (r_d (d_ix (r_d (d_ix (r_var 0) d_int)) (d_ix (r_var 3) d_int))) d_int) a_nil))) (d_add (d_tup (a_cons (d_glob T.g_CLASH (gstr "clash")) a_nil)) (d_var 4))))))))⟩
/-! ### told -/
abbrev s_told : Stmt := topS 34
abbrev N_told : List Str := ["table", "way", "case"]
theorem sc_told : FnScope N_told ["table", "way", "case"] (defScope s_told) := ⟨rfl, rfl, rfl, by decide +kernel, rfl, by decide +kernel, by decide +kernel⟩
theorem c_told {k : Nat} (T : Tx K mg)
    (C_need_table : Callee P w K mg base k "need_table" (spP K 1 PC.fn_need_table))
    (C_need_way : Callee P w K mg base k "need_way" (spP K 1 PC.fn_need_way))
    (C_need_case : Callee P w K mg base k "need_case" (spP K 2 PC.fn_need_case))
    (C_answer : Callee P w K mg base k "answer" (spP K 3 PC.fn_answer)) :
    Callee P w K mg base (k + 1) "told" (spP K 3 PC.fn_told) := by
  obtain ⟨f, fd, F, hm⟩ := T.f_told
  refine callee_P (N := N_told) F hm sc_told (fun cdv A outer s H E hr => ?_) (fun _ _ _ _ _ _ us hl => match us, hl with | [_, _, _], _ => rfl)
  have hu := hr.units
  have sc := sc_told
  exact ⟨_, (ss_cons (s_expr (d_call C_need_table hr (a_cons (d_var 0) a_nil)))
  (ss_cons (s_expr (d_call C_need_way hr (a_cons (d_var 1) a_nil)))
  (ss_cons (s_expr (d_call C_need_case hr (a_cons (d_ix (r_var 0) d_int) (a_cons (d_var 2) a_nil))))
  (ss_one (s_ret (d_call C_answer hr (a_cons (d_var 0) (a_cons (d_var 1) (a_cons (d_var 2) a_nil)))))))))⟩
/-! ### full -/
abbrev s_full : Stmt := topS 37
abbrev N_full : List Str := ["want", "size"]
theorem sc_full : FnScope N_full ["want", "size"] (defScope s_full) := ⟨rfl, rfl, rfl, by decide +kernel, rfl, by decide +kernel, by decide +kernel⟩
theorem c_full {k : Nat} (T : Tx K mg) :
    Callee P w K mg base (k + 1) "full" (spP K 2 PC.fn_full) := by
  obtain ⟨f, fd, F, hm⟩ := T.f_full
  refine callee_P (N := N_full) F hm sc_full (fun cdv A outer s H E hr => ?_) (fun _ _ _ _ _ _ us hl => match us, hl with | [_, _], _ => rfl)
  have hu := hr.units
  have sc := sc_full
  exact ⟨_, (ss_one (s_ret (d_if (t_cmp c_is (d_var 0) d_non) (d_tuprng (d_var 1) T.m_tuple T.m_range) (d_var 0))))⟩
/-! ### behind -/
abbrev s_behind : Stmt := topS 38
abbrev N_behind : List Str := ["first", "second", "place", "sizes", "found", "rest", "wants", "deed", "others", "later"]
theorem sc_behind : FnScope N_behind ["first", "second", "place"] (defScope s_behind) := ⟨rfl, rfl, rfl, by decide +kernel, rfl, by decide +kernel, by decide +kernel⟩
theorem c_behind {k : Nat} (T : Tx K mg)
    (C_need_table : Callee P w K mg base k "need_table" (spP K 1 PC.fn_need_table))
    (C_is_whole : Callee P w K mg base k "is_whole" (spP K 3 PC.fn_is_whole))
    (C_full : Callee P w K mg base k "full" (spP K 2 PC.fn_full)) :
    XCallee P w K mg base (k + 1) "behind" (spX K mg 3 PC.fn_behind) := by
  obtain ⟨f, fd, F, hm⟩ := T.f_behind
  obtain ⟨c_BadCase, e_BadCase⟩ := T.e_BadCase
  obtain ⟨c_TooMany, e_TooMany⟩ := T.e_TooMany
  refine callee_X (N := N_behind) F hm sc_behind (fun cdv A outer s H E hr => ?_) (fun _ _ _ _ _ _ us hl => match us, hl with | [_, _, _], _ => rfl)
  have hu := hr.units
  have sc := sc_behind
  exact ⟨_, (ss_cons (s_expr (d_call C_need_table hr (a_cons (d_var 0) a_nil)))
  (ss_cons (s_expr (d_call C_need_table hr (a_cons (d_var 1) a_nil)))
  (ss_cons (s_if (t_not (t_val (d_call C_is_whole hr (a_cons (d_var 2) (a_cons d_int (a_cons (d_sub (d_len (r_d (d_ix (r_var 1) d_int)) T.m_len) d_int) a_nil)))))) (ss_one (s_raise0 e_BadCase rfl rfl (takes_of rfl rfl rfl rfl))) ss_nil)
  (ss_cons (s_set 3 (d_add (d_add (d_ix (r_var 0) d_int) (d_sl (d_ix (r_var 1) d_int) o_no (o_some (d_var 2)))) (d_sl (d_ix (r_var 1) d_int) (o_some (d_add (d_var 2) d_int)) o_no)) sc.nd)
  (ss_cons (s_if (t_cmp c_gt (d_len (r_var 3) T.m_len) (d_glob T.g_MOST_CONDITIONS fun _ => .int _)) (ss_one (s_raise0 e_TooMany rfl rfl (takes_of rfl rfl rfl rfl))) ss_nil)
  (ss_cons (s_setL 4 (n_lst a_nil) sc.nd)
  (ss_cons (s_set 5 (d_mul (d_tup (a_cons d_non a_nil)) (d_sub (d_len (r_d (d_ix (r_var 1) d_int)) T.m_len) d_int)) sc.nd)
  (ss_cons (s_for (passes_of rfl) (i_seq (d_ix (r_var 0) d_int)) (g_tup (gs_cons (g_name 6 sc.nd) (gs_cons (g_name 7 sc.nd) gs_nil))) (ss_cons (s_for (passes_of rfl) (i_seq (d_ix (r_var 1) d_int)) (g_tup (gs_cons (g_name 8 sc.nd) (gs_cons (g_name 9 sc.nd) gs_nil))) (ss_one (s_if (t_w (w_and (t_cmp c_isnot (d_var 7) d_non) (w_and1 (t_cmp c_in (d_var 7) (d_call C_full hr (a_cons (d_ix (r_var 8) (d_var 2)) (a_cons (d_ix (r_d (d_ix (r_var 1) d_int)) (d_var 2)) a_nil))))))) (ss_one (s_app 4 (d_tup (a_cons (d_add (d_add (d_var 6) (d_sl (d_var 8) o_no (o_some (d_var 2)))) (d_sl (d_var 8) (o_some (d_add (d_var 2) d_int)) o_no)) (a_cons (d_var 9) a_nil))))) ss_nil)))
  (ss_one (s_app 4 (d_tup (a_cons (d_add (d_var 6) (d_var 5)) (a_cons d_non a_nil)))))))
  (ss_cons (s_if (t_cmp c_gt (d_len (r_var 4) T.m_len) (d_glob T.g_MOST_RULES fun _ => .int _)) (ss_one (s_raise0 e_TooMany rfl rfl (takes_of rfl rfl rfl rfl))) ss_nil)
  (ss_one (s_ret (d_tup (a_cons (d_var 3) (a_cons (d_tupl (q_var 4) T.m_tuple) a_nil))))))))))))))⟩
/-! ### _law_taken -/
abbrev s__law_taken : Stmt := topS 40
abbrev N__law_taken : List Str := ["_law_row", "_law_many_here", "_law_cell", "_law_found"]
theorem sc__law_taken : FnScope N__law_taken ["_law_row", "_law_many_here"] (defScope s__law_taken) := ⟨rfl, rfl, rfl, by decide +kernel, rfl, by decide +kernel, by decide +kernel⟩
theorem c__law_taken {k : Nat} (T : Tx K mg) :
    Callee P w K mg base (k + 1) "_law_taken" (spR K 2 PC.fn__law_taken) := by
  obtain ⟨f, fd, F, hm⟩ := T.f__law_taken
  refine callee_R (N := N__law_taken) F hm sc__law_taken (fun cdv A outer s H E hr => ?_) (fun _ _ _ _ _ _ us hl => match us, hl with | [_, _], _ => rfl)
  have hu := hr.units
  have sc := sc__law_taken
  exact ⟨_, (ss_cons (s_if (t_cmp c_gt (d_rowIx 0 d_int) d_int) (ss_cons (s_set 3 (d_mod (d_rowIx 0 d_int) (d_var 1)) sc.nd)
  (ss_cons (s_rowSet 0 d_int (d_fdiv (d_rowIx 0 d_int) (d_var 1)))
  (ss_one (s_ret (d_var 3))))) ss_nil)
  (ss_cons (s_rowSet 0 d_int (d_add (d_rowIx 0 d_int) d_int))
  (ss_cons (s_if (t_cmp c_gt (d_rowIx 0 d_int) (d_len (r_d (d_rowIx 0 d_int)) T.m_len)) (ss_cons (s_rowSet 0 d_int (d_mod (d_add (d_mul (d_rowIx 0 d_int) d_int) d_int) d_int))
  (ss_one (s_ret (d_mod (d_fdiv (d_rowIx 0 d_int) d_int) (d_var 1))))) ss_nil)
  (ss_cons (s_set 2 (d_ix (r_d (d_rowIx 0 d_int)) (d_sub (d_rowIx 0 d_int) d_int)) sc.nd)
  (ss_cons (s_rowSet 0 d_int (d_mod (d_add (d_add (d_mul (d_rowIx 0 d_int) d_int) (d_var 2)) d_int) d_int))
  (ss_cons (s_if (t_cmp c_ge (d_var 2) (d_pow d_int d_int)) (ss_one (s_rowSet 0 d_int (d_fdiv (d_var 2) (d_var 1)))) ss_nil)
  (ss_one (s_ret (d_mod (d_var 2) (d_var 1))))))))))⟩
/-! ### _law_alike -/
abbrev s__law_alike : Stmt := topS 41
abbrev N__law_alike : List Str := ["_law_found", "_law_due", "_law_k"]
theorem sc__law_alike : FnScope N__law_alike ["_law_found", "_law_due"] (defScope s__law_alike) := ⟨rfl, rfl, rfl, by decide +kernel, rfl, by decide +kernel, by decide +kernel⟩
theorem c__law_alike {k : Nat} (T : Tx K mg) {fn : List D → Option D} (C__law_alike : Callee P w K mg base k "_law_alike" (spP K 2 fn)) :
    Callee P w K mg base (k + 1) "_law_alike" (spP K 2 (runP 3 (PC.b__law_alike fn))) := by
  obtain ⟨f, fd, F, hm⟩ := T.f__law_alike
  refine callee_P (N := N__law_alike) F hm sc__law_alike (fun cdv A outer s H E hr => ?_) (fun _ _ _ _ _ _ us hl => match us, hl with | [_, _], _ => rfl)
  have hu := hr.units
  have sc := sc__law_alike
  exact ⟨_, (ss_cons (s_if (t_w (w_or (t_val (d_isi (d_var 1) T.m_isinstance T.m_tuple)) (w_or1 (t_val (d_isi (d_var 1) T.m_isinstance T.m_list))))) (ss_cons (s_if (t_w (w_or (t_cmp (c_ne hu) (d_isi (d_var 0) T.m_isinstance T.m_tuple) (d_isi (d_var 1) T.m_isinstance T.m_tuple)) (w_or1 (t_not (t_val (d_isi2 (d_var 0) T.m_isinstance T.m_tuple T.m_list)))))) (ss_one (s_ret d_bl)) ss_nil)
  (ss_cons (s_if (t_cmp (c_ne hu) (d_len (r_var 0) T.m_len) (d_len (r_var 1) T.m_len)) (ss_one (s_ret d_bl)) ss_nil)
  (ss_one (s_ret (d_cmp (c_eq hu) (d_n (n_lc (own := [("_law_k", 2)]) (ic_f (i_rng1 (d_len (r_var 1) T.m_len) T.m_range)) (blkOk_by (N := N__law_alike) (sc := (defScope s__law_alike)) (by decide +kernel)) sc.nd (fun _ h => h) (fun _ _ _ _ _ => by exact (g_name 2 sc.nd)) (fun _ _ _ _ _ => by exact (p_one (t_not (t_val (d_call C__law_alike hr (a_cons (d_ix (r_var 0) (d_var 2)) (a_cons (d_ix (r_var 1) (d_var 2)) a_nil))))))) (fun _ _ _ _ _ => by exact (d_var 2)))) (d_n (n_lst a_nil))))))) ss_nil)
  (ss_cons (s_if (t_w (w_or (t_cmp c_is (d_var 1) d_non) (w_or1 (t_cmp c_is (d_var 0) d_non)))) (ss_one (s_ret (d_and (d_cmp c_is (d_var 1) d_non) (d_one (d_cmp c_is (d_var 0) d_non))))) ss_nil)
  (ss_cons (s_if (t_w (w_or (t_val (d_isi (d_var 1) T.m_isinstance T.m_bool)) (w_or1 (t_val (d_isi (d_var 0) T.m_isinstance T.m_bool))))) (ss_one (s_ret (d_and (d_isi (d_var 1) T.m_isinstance T.m_bool) (d_and (d_isi (d_var 0) T.m_isinstance T.m_bool) (d_one (d_cmp (c_eq hu) (d_var 0) (d_var 1))))))) ss_nil)
  (ss_cons (s_if (t_val (d_isi (d_var 1) T.m_isinstance T.m_str)) (ss_one (s_ret (d_and (d_isi (d_var 0) T.m_isinstance T.m_str) (d_one (d_cmp (c_eq hu) (d_var 0) (d_var 1)))))) ss_nil)
  (ss_one (s_ret (d_and (d_isi (d_var 0) T.m_isinstance T.m_int) (d_one (d_cmp (c_eq hu) (d_var 0) (d_var 1))))))))))⟩
/-! ### _law_word -/
abbrev s__law_word : Stmt := topS 42
abbrev N__law_word : List Str := ["_law_work", "e", "_law_kinds", "_law_word_here"]
theorem sc__law_word : FnScope N__law_word ["_law_work"] (defScope s__law_word) := ⟨rfl, rfl, rfl, by decide +kernel, rfl, by decide +kernel, by decide +kernel⟩
theorem g__law_word {X : Cx} {k : Nat} (T : Tx X.K X.mg) (hr : Room (k + 2) X.A) {g : Addr} {cdg : Value} {q : Str} : LamX.GivesTo X N__law_word "_law_word" (defScope s__law_word) g cdg (defBody s__law_word) "_law_work" q (TTw X.K X.mg L_word09) := by
  obtain ⟨c_CaseError, c_BadRule, c_BadCase, c_BadWay, c_BadTable, c_Unlike, c_BadTree, c_BadShares, c_BadText, c_TooMany, Wt⟩ := T.wt
  have sc := sc__law_word
  have hu := (hr.deeper (envOfC "_law_word" (defScope s__law_word) 0 0 .none)).units
  refine word_gives (Z := Str → Bool) (GC := ErrD X.K c_CaseError [("BadRule", .ref c_BadRule), ("BadCase", .ref c_BadCase), ("BadWay", .ref c_BadWay), ("BadTable", .ref c_BadTable), ("Unlike", .ref c_Unlike), ("BadTree", .ref c_BadTree), ("BadShares", .ref c_BadShares), ("BadText", .ref c_BadText), ("TooMany", .ref c_TooMany), ("ValueError", .type "ValueError")]) (b := PC.b__law_word) (i := 1) rfl Wt.m_CaseError (by decide) (fun _ => rfl) (fun _ => rfl) sc.nd rfl (fun _ _ _ => rfl) (fun D0 z gc => gc.ex) (fun nm dw hm => ?_) (fun s H a oe D0 z pn gc hz hf => ⟨_, (ss_cons (s_set 2 (d_n (n_lst (a_cons (d_isE 1 gc.ec hz hf T.m_isinstance Wt.m_BadTable (gc.ks _ _ (.tail _ (.tail _ (.tail _ (.head _)))))) (a_cons (d_isE 1 gc.ec hz hf T.m_isinstance Wt.m_BadWay (gc.ks _ _ (.tail _ (.tail _ (.head _))))) (a_cons (d_isE 1 gc.ec hz hf T.m_isinstance Wt.m_BadCase (gc.ks _ _ (.tail _ (.head _)))) (a_cons (d_isE 1 gc.ec hz hf T.m_isinstance Wt.m_BadRule (gc.ks _ _ (.head _))) a_nil)))))) sc.nd)
  (ss_cons (s_set 2 (d_add (d_var 2) (d_n (n_lst (a_cons (d_isE 1 gc.ec hz hf T.m_isinstance Wt.m_BadShares (gc.ks _ _ (.tail _ (.tail _ (.tail _ (.tail _ (.tail _ (.tail _ (.head _))))))))) (a_cons (d_isE 1 gc.ec hz hf T.m_isinstance Wt.m_BadTree (gc.ks _ _ (.tail _ (.tail _ (.tail _ (.tail _ (.tail _ (.head _)))))))) (a_cons (d_isE 1 gc.ec hz hf T.m_isinstance Wt.m_Unlike (gc.ks _ _ (.tail _ (.tail _ (.tail _ (.tail _ (.head _))))))) a_nil)))))) sc.nd)
  (ss_cons (s_set 2 (d_add (d_var 2) (d_n (n_lst (a_cons (d_isE 1 gc.ec hz hf T.m_isinstance Wt.m_TooMany (gc.ks _ _ (.tail _ (.tail _ (.tail _ (.tail _ (.tail _ (.tail _ (.tail _ (.tail _ (.head _))))))))))) (a_cons (d_isE 1 gc.ec hz hf T.m_isinstance Wt.m_BadText (gc.ks _ _ (.tail _ (.tail _ (.tail _ (.tail _ (.tail _ (.tail _ (.tail _ (.head _)))))))))) a_nil))))) sc.nd)
  (ss_cons (s_if (t_w (w_or (t_cmp (c_ne hu) (d_cnt (q_var 2) d_bl) d_int) (w_or1 (t_not (t_val (d_isEB 1 gc.ec hz hf T.m_isinstance T.m_ValueError (gc.ks _ _ (.tail _ (.tail _ (.tail _ (.tail _ (.tail _ (.tail _ (.tail _ (.tail _ (.tail _ (.head _))))))))))))))))) (ss_one (s_ret (d_tup (a_cons d_str a_nil)))) ss_nil)
  (ss_cons (s_set 3 (d_ix (r_n (n_lst (a_cons d_str (a_cons d_str (a_cons d_str (a_cons d_str (a_cons d_str (a_cons d_str (a_cons d_str (a_cons d_str (a_cons d_str a_nil))))))))))) (d_idx (q_var 2) d_bl)) sc.nd)
  (ss_cons (s_if (t_cmp (c_eq hu) (d_var 3) d_str) (ss_one (s_ret (d_tup (a_cons (d_var 3) (a_cons d_no (a_cons d_no a_nil)))))) ss_nil)
  (ss_one (s_ret (d_if (t_cmp (c_eq hu) (d_var 3) d_str) (d_tup (a_cons (d_var 3) (a_cons d_no a_nil))) (d_if (t_cmp (c_eq hu) (d_var 3) d_str) (d_tup (a_cons (d_var 3) (a_cons d_no a_nil))) (d_tup (a_cons (d_var 3) a_nil))))))))))))⟩)
  unfold L_word09 at hm
  rcases List.mem_cons.mp hm with hm | hm
  · cases hm; exact ⟨c_TooMany, zOf "TooMany", Wt.m_TooMany, Wt.g_TooMany, fun a => PC.word__law_word_TooMany a⟩
  · cases hm
/-! ### _law_sizes -/
abbrev s__law_sizes : Stmt := topS 43
abbrev N__law_sizes : List Str := ["_law_row", "_law_many_here", "_law_least", "_law_k"]
theorem sc__law_sizes : FnScope N__law_sizes ["_law_row"] (defScope s__law_sizes) := ⟨rfl, rfl, rfl, by decide +kernel, rfl, by decide +kernel, by decide +kernel⟩
theorem c__law_sizes {k : Nat} (T : Tx K mg)
    (C__law_taken : Callee P w K mg base k "_law_taken" (spR K 2 PC.fn__law_taken)) :
    Callee P w K mg base (k + 1) "_law_sizes" (spR K 1 PC.fn__law_sizes) := by
  obtain ⟨f, fd, F, hm⟩ := T.f__law_sizes
  refine callee_R (N := N__law_sizes) F hm sc__law_sizes (fun cdv A outer s H E hr => ?_) (fun _ _ _ _ _ _ us hl => match us, hl with | [_], _ => rfl)
  have hu := hr.units
  have sc := sc__law_sizes
  exact ⟨_, (ss_cons (s_set 1 (d_ix (r_n (n_lst (a_cons d_int (a_cons d_int (a_cons d_int (a_cons d_int (a_cons d_int (a_cons d_int a_nil)))))))) (d_callR 0 C__law_taken hr (a_cons d_int a_nil))) sc.nd)
  (ss_cons (s_set 2 (d_callR 0 C__law_taken hr (a_cons d_int a_nil)) sc.nd)
  (ss_one (s_ret (d_tupl (q_n (n_lc (own := [("_law_k", 3)]) (ic_f (i_rng1 (d_var 1) T.m_range)) (blkOk_by (N := N__law_sizes) (sc := (defScope s__law_sizes)) (by decide +kernel)) sc.nd (fun _ h => h) (fun _ _ _ _ _ => by exact (g_name 3 sc.nd)) (fun _ _ _ _ _ => by exact p_nil) (fun _ _ _ _ _ => by exact (d_add d_int (d_mul (d_callR 0 C__law_taken hr (a_cons (d_ix (r_n (n_lst (a_cons d_int (a_cons d_int (a_cons d_int a_nil))))) (d_var 2)) a_nil)) (d_int1 (d_or (d_cmp c_lt (d_var 1) d_int) (d_one (d_cmp c_lt (d_var 3) d_int))) T.m_int)))))) T.m_tuple)))))⟩
/-! ### _law_want -/
abbrev s__law_want : Stmt := topS 44
abbrev N__law_want : List Str := ["_law_row", "_law_size", "_law_way", "_law_some", "_law_value"]
theorem sc__law_want : FnScope N__law_want ["_law_row", "_law_size"] (defScope s__law_want) := ⟨rfl, rfl, rfl, by decide +kernel, rfl, by decide +kernel, by decide +kernel⟩
theorem c__law_want {k : Nat} (T : Tx K mg)
    (C__law_taken : Callee P w K mg base k "_law_taken" (spR K 2 PC.fn__law_taken)) :
    Callee P w K mg base (k + 1) "_law_want" (spR K 2 PC.fn__law_want) := by
  obtain ⟨f, fd, F, hm⟩ := T.f__law_want
  refine callee_R (N := N__law_want) F hm sc__law_want (fun cdv A outer s H E hr => ?_) (fun _ _ _ _ _ _ us hl => match us, hl with | [_, _], _ => rfl)
  have hu := hr.units
  have sc := sc__law_want
  exact ⟨_, (ss_cons (s_set 2 (d_callR 0 C__law_taken hr (a_cons d_int a_nil)) sc.nd)
  (ss_cons (s_if (t_cmp c_lt (d_var 2) d_int) (ss_one (s_ret d_non)) ss_nil)
  (ss_cons (s_if (t_cmp c_lt (d_var 2) d_int) (ss_one (s_ret (d_tup (a_cons (d_callR 0 C__law_taken hr (a_cons (d_var 1) a_nil)) a_nil)))) ss_nil)
  (ss_cons (s_frzB 3 (s_lc 3 (own := [("_law_value", 4)]) (ic_f (i_rng1 (d_var 1) T.m_range)) (blkOk_by (N := N__law_want) (sc := (defScope s__law_want)) (by decide +kernel)) sc.nd (fun _ h => h) (fun _ _ _ _ _ => by exact (g_name 4 sc.nd)) (fun _ _ _ _ _ => by exact (p_one (t_cmp (c_eq hu) (d_callR 0 C__law_taken hr (a_cons d_int a_nil)) d_int))) (fun _ _ _ _ _ => by exact (d_var 4))))
  (ss_one (s_ret (d_if (t_cmp (c_ne hu) (d_var 3) (d_n (n_lst a_nil))) (d_tupl (q_var 3) T.m_tuple) (d_tuprng (d_var 1) T.m_tuple T.m_range))))))))⟩
/-! ### _law_rule -/
abbrev s__law_rule : Stmt := topS 45
abbrev N__law_rule : List Str := ["_law_row", "_law_sizes_here", "_law_deeds", "_law_wants", "_law_deed", "_law_size"]
theorem sc__law_rule : FnScope N__law_rule ["_law_row", "_law_sizes_here", "_law_deeds"] (defScope s__law_rule) := ⟨rfl, rfl, rfl, by decide +kernel, rfl, by decide +kernel, by decide +kernel⟩
theorem c__law_rule {k : Nat} (T : Tx K mg)
    (C__law_want : Callee P w K mg base k "_law_want" (spR K 2 PC.fn__law_want))
    (C__law_taken : Callee P w K mg base k "_law_taken" (spR K 2 PC.fn__law_taken)) :
    Callee P w K mg base (k + 1) "_law_rule" (spR K 3 PC.fn__law_rule) := by
  obtain ⟨f, fd, F, hm⟩ := T.f__law_rule
  refine callee_R (N := N__law_rule) F hm sc__law_rule (fun cdv A outer s H E hr => ?_) (fun _ _ _ _ _ _ us hl => match us, hl with | [_, _, _], _ => rfl)
  have hu := hr.units
  have sc := sc__law_rule
  exact ⟨_, (ss_cons (s_set 3 (d_tupl (q_n (n_lc (own := [("_law_size", 5)]) (ic_seq (r_var 1)) (blkOk_by (N := N__law_rule) (sc := (defScope s__law_rule)) (by decide +kernel)) sc.nd (fun _ h => h) (fun _ _ _ _ _ => by exact (g_name 5 sc.nd)) (fun _ _ _ _ _ => by exact p_nil) (fun _ _ _ _ _ => by exact (d_callR 0 C__law_want hr (a_cons (d_var 5) a_nil))))) T.m_tuple) sc.nd)
  (ss_cons (s_set 4 (d_callR 0 C__law_taken hr (a_cons (d_var 2) a_nil)) sc.nd)
  (ss_one (s_ret (d_tup (a_cons (d_var 3) (a_cons (d_if (t_w (w_and (t_cmp (c_eq hu) (d_var 4) (d_sub (d_var 2) d_int)) (w_and1 (t_cmp (c_eq hu) (d_callR 0 C__law_taken hr (a_cons d_int a_nil)) d_int)))) d_non (d_var 4)) a_nil)))))))⟩
/-! ### _law_near -/
abbrev s__law_near : Stmt := topS 46
abbrev N__law_near : List Str := ["_law_row", "_law_sizes_here", "_law_rule_here", "_law_k"]
theorem sc__law_near : FnScope N__law_near ["_law_row", "_law_sizes_here", "_law_rule_here"] (defScope s__law_near) := ⟨rfl, rfl, rfl, by decide +kernel, rfl, by decide +kernel, by decide +kernel⟩
theorem c__law_near {k : Nat} (T : Tx K mg)
    (C__law_taken : Callee P w K mg base k "_law_taken" (spR K 2 PC.fn__law_taken))
    (C__law_want : Callee P w K mg base k "_law_want" (spR K 2 PC.fn__law_want)) :
    Callee P w K mg base (k + 1) "_law_near" (spR K 3 PC.fn__law_near) := by
  obtain ⟨f, fd, F, hm⟩ := T.f__law_near
  refine callee_R (N := N__law_near) F hm sc__law_near (fun cdv A outer s H E hr => ?_) (fun _ _ _ _ _ _ us hl => match us, hl with | [_, _, _], _ => rfl)
  have hu := hr.units
  have sc := sc__law_near
  exact ⟨_, (ss_cons (s_set 3 (d_callR 0 C__law_taken hr (a_cons (d_add (d_len (r_var 1) T.m_len) d_int) a_nil)) sc.nd)
  (ss_cons (s_if (t_cmp (c_eq hu) (d_var 3) (d_len (r_var 1) T.m_len)) (ss_one (s_ret (d_tup (a_cons (d_ix (r_var 2) d_int) (a_cons (d_ix (r_n (n_lst (a_cons d_non (a_cons d_int (a_cons d_int (a_cons d_int a_nil)))))) (d_callR 0 C__law_taken hr (a_cons d_int a_nil))) a_nil))))) ss_nil)
  (ss_one (s_ret (d_tup (a_cons (d_add (d_add (d_sl (d_ix (r_var 2) d_int) o_no (o_some (d_var 3))) (d_tup (a_cons (d_callR 0 C__law_want hr (a_cons (d_ix (r_var 1) (d_var 3)) a_nil)) a_nil))) (d_sl (d_ix (r_var 2) d_int) (o_some (d_add (d_var 3) d_int)) o_no)) (a_cons (d_ix (r_var 2) d_int) a_nil)))))))⟩
/-! ### _law_many -/
abbrev s__law_many : Stmt := topS 47
abbrev N__law_many : List Str := ["_law_row", "_law_sizes_here", "_law_deeds", "_law_rules_here", "_law_k"]
theorem sc__law_many : FnScope N__law_many ["_law_row"] (defScope s__law_many) := ⟨rfl, rfl, rfl, by decide +kernel, rfl, by decide +kernel, by decide +kernel⟩
theorem c__law_many {k : Nat} (T : Tx K mg)
    (C__law_taken : Callee P w K mg base k "_law_taken" (spR K 2 PC.fn__law_taken))
    (C__law_rule : Callee P w K mg base k "_law_rule" (spR K 3 PC.fn__law_rule)) :
    Callee P w K mg base (k + 1) "_law_many" (spR K 1 PC.fn__law_many) := by
  obtain ⟨f, fd, F, hm⟩ := T.f__law_many
  refine callee_R (N := N__law_many) F hm sc__law_many (fun cdv A outer s H E hr => ?_) (fun _ _ _ _ _ _ us hl => match us, hl with | [_], _ => rfl)
  have hu := hr.units
  have sc := sc__law_many
  exact ⟨_, (ss_cons (s_set 1 (d_tupl (q_n (n_lc (own := [("_law_k", 4)]) (ic_f (i_rng1 (d_add d_int (d_callR 0 C__law_taken hr (a_cons d_int a_nil))) T.m_range)) (blkOk_by (N := N__law_many) (sc := (defScope s__law_many)) (by decide +kernel)) sc.nd (fun _ h => h) (fun _ _ _ _ _ => by exact (g_name 4 sc.nd)) (fun _ _ _ _ _ => by exact p_nil) (fun _ _ _ _ _ => by exact (d_add d_int (d_callR 0 C__law_taken hr (a_cons d_int a_nil)))))) T.m_tuple) sc.nd)
  (ss_cons (s_set 2 (d_ix (r_n (n_lst (a_cons d_int (a_cons d_int (a_cons d_int a_nil))))) (d_callR 0 C__law_taken hr (a_cons d_int a_nil))) sc.nd)
  (ss_cons (s_frzB 3 (s_lc 3 (own := [("_law_k", 4)]) (ic_f (i_rng1 (d_ix (r_n (n_lst (a_cons d_int (a_cons (d_add d_int (d_callR 0 C__law_taken hr (a_cons d_int a_nil))) a_nil)))) (d_callR 0 C__law_taken hr (a_cons d_int a_nil))) T.m_range)) (blkOk_by (N := N__law_many) (sc := (defScope s__law_many)) (by decide +kernel)) sc.nd (fun _ h => h) (fun _ _ _ _ _ => by exact (g_name 4 sc.nd)) (fun _ _ _ _ _ => by exact p_nil) (fun _ _ _ _ _ => by exact (d_callR 0 C__law_rule hr (a_cons (d_var 1) (a_cons (d_var 2) a_nil))))))
  (ss_one (s_ret (d_tup (a_cons (d_var 1) (a_cons (d_tupl (q_var 3) T.m_tuple) a_nil))))))))⟩
/-! ### _law_table -/
abbrev s__law_table : Stmt := topS 48
abbrev N__law_table : List Str := ["_law_row", "_law_most", "_law_sizes_here", "_law_rules_here", "_law_k", "_law_many_here", "_law_deeds"]
theorem sc__law_table : FnScope N__law_table ["_law_row", "_law_most"] (defScope s__law_table) := ⟨rfl, rfl, rfl, by decide +kernel, rfl, by decide +kernel, by decide +kernel⟩
theorem c__law_table {k : Nat} (T : Tx K mg)
    (C__law_sizes : Callee P w K mg base k "_law_sizes" (spR K 1 PC.fn__law_sizes))
    (C__law_taken : Callee P w K mg base k "_law_taken" (spR K 2 PC.fn__law_taken))
    (C__law_near : Callee P w K mg base k "_law_near" (spR K 3 PC.fn__law_near))
    (C__law_rule : Callee P w K mg base k "_law_rule" (spR K 3 PC.fn__law_rule)) :
    Callee P w K mg base (k + 1) "_law_table" (spR K 2 PC.fn__law_table) := by
  obtain ⟨f, fd, F, hm⟩ := T.f__law_table
  refine callee_R (N := N__law_table) F hm sc__law_table (fun cdv A outer s H E hr => ?_) (fun _ _ _ _ _ _ us hl => match us, hl with | [_, _], _ => rfl)
  have hu := hr.units
  have sc := sc__law_table
  exact ⟨_, (ss_cons (s_set 2 (d_callR 0 C__law_sizes hr a_nil) sc.nd)
  (ss_cons (s_par 5 6 (d_callR 0 C__law_taken hr (a_cons (d_add (d_ix (r_n (n_lst (a_cons d_int (a_cons d_int (a_cons (d_var 1) a_nil))))) (d_callR 0 C__law_taken hr (a_cons d_int a_nil))) d_int) a_nil)) (d_ix (r_n (n_lst (a_cons d_int (a_cons d_int (a_cons d_int a_nil))))) (d_callR 0 C__law_taken hr (a_cons d_int a_nil))) sc.nd)
  (ss_cons (s_setL 3 (n_lst a_nil) sc.nd)
  (ss_cons (s_for PassesOwn.never (i_rng1 (d_min2 (d_var 5) (d_var 1) T.m_min) T.m_range) (g_name 4 sc.nd) (ss_one (s_if (t_w (w_and (t_cmpLend (c_ne hu) (d_var 3) (d_n (n_lst a_nil))) (w_and1 (t_cmp (c_eq hu) (d_callR 0 C__law_taken hr (a_cons d_int a_nil)) d_int)))) (ss_one (s_app 3 (d_callR 0 C__law_near hr (a_cons (d_var 2) (a_cons (d_ix (r_var 3) (d_callR 0 C__law_taken hr (a_cons (d_len (r_var 3) T.m_len) a_nil))) a_nil))))) (ss_one (s_app 3 (d_callR 0 C__law_rule hr (a_cons (d_var 2) (a_cons (d_var 6) a_nil))))))))
  (ss_cons (s_if (t_w (w_and (t_cmp (c_eq hu) (d_callR 0 C__law_taken hr (a_cons d_int a_nil)) d_int) (w_and1 (t_cmp c_lt (d_len (r_var 3) T.m_len) (d_var 1))))) (ss_one (s_app 3 (d_tup (a_cons (d_mul (d_tup (a_cons d_non a_nil)) (d_len (r_var 2) T.m_len)) (a_cons (d_ix (r_n (n_lst (a_cons d_int (a_cons d_non a_nil)))) (d_callR 0 C__law_taken hr (a_cons d_int a_nil))) a_nil))))) ss_nil)
  (ss_one (s_ret (d_tup (a_cons (d_var 2) (a_cons (d_tupl (q_var 3) T.m_tuple) a_nil))))))))))⟩
/-! ### _law_case -/
abbrev s__law_case : Stmt := topS 49
abbrev N__law_case : List Str := ["_law_row", "_law_sizes_here", "_law_size"]
theorem sc__law_case : FnScope N__law_case ["_law_row", "_law_sizes_here"] (defScope s__law_case) := ⟨rfl, rfl, rfl, by decide +kernel, rfl, by decide +kernel, by decide +kernel⟩
theorem c__law_case {k : Nat} (T : Tx K mg)
    (C__law_taken : Callee P w K mg base k "_law_taken" (spR K 2 PC.fn__law_taken)) :
    Callee P w K mg base (k + 1) "_law_case" (spR K 2 PC.fn__law_case) := by
  obtain ⟨f, fd, F, hm⟩ := T.f__law_case
  refine callee_R (N := N__law_case) F hm sc__law_case (fun cdv A outer s H E hr => ?_) (fun _ _ _ _ _ _ us hl => match us, hl with | [_, _], _ => rfl)
  have hu := hr.units
  have sc := sc__law_case
  exact ⟨_, (ss_one (s_ret (d_tupl (q_n (n_lc (own := [("_law_size", 2)]) (ic_seq (r_var 1)) (blkOk_by (N := N__law_case) (sc := (defScope s__law_case)) (by decide +kernel)) sc.nd (fun _ h => h) (fun _ _ _ _ _ => by exact (g_name 2 sc.nd)) (fun _ _ _ _ _ => by exact p_nil) (fun _ _ _ _ _ => by exact (d_callR 0 C__law_taken hr (a_cons (d_var 2) a_nil))))) T.m_tuple)))⟩
/-! ### _law_held -/
abbrev s__law_held : Stmt := topS 50
abbrev N__law_held : List Str := ["_law_table_here", "_law_case_here", "_law_found", "_law_number", "_law_wants", "_law_k"]
theorem sc__law_held : FnScope N__law_held ["_law_table_here", "_law_case_here"] (defScope s__law_held) := ⟨rfl, rfl, rfl, by decide +kernel, rfl, by decide +kernel, by decide +kernel⟩
theorem c__law_held {k : Nat} (T : Tx K mg) :
    Callee P w K mg base (k + 1) "_law_held" (spP K 2 PC.fn__law_held) := by
  obtain ⟨f, fd, F, hm⟩ := T.f__law_held
  refine callee_P (N := N__law_held) F hm sc__law_held (fun cdv A outer s H E hr => ?_) (fun _ _ _ _ _ _ us hl => match us, hl with | [_, _], _ => rfl)
  have hu := hr.units
  have sc := sc__law_held
  exact ⟨_, (ss_cons (s_setL 2 (n_lst a_nil) sc.nd)
  (ss_cons (s_for PassesOwn.never (i_rng1 (d_len (r_d (d_ix (r_var 0) d_int)) T.m_len) T.m_range) (g_name 3 sc.nd) (ss_cons (s_set 4 (d_ix (r_d (d_ix (r_d (d_ix (r_var 0) d_int)) (d_var 3))) d_int) sc.nd)
  (ss_one (s_if (t_cmp c_nin d_bl (d_n (n_lc (own := [("_law_k", 5)]) (ic_f (i_rng1 (d_len (r_var 1) T.m_len) T.m_range)) (blkOk_by (N := N__law_held) (sc := (defScope s__law_held)) (by decide +kernel)) sc.nd (fun _ h => h) (fun _ _ _ _ _ => by exact (g_name 5 sc.nd)) (fun _ _ _ _ _ => by exact p_nil) (fun _ _ _ _ _ => by exact (d_or (d_cmp c_is (d_ix (r_var 4) (d_var 5)) d_non) (d_one (d_cmp c_in (d_ix (r_var 1) (d_var 5)) (d_ix (r_var 4) (d_var 5))))))))) (ss_one (s_app 2 (d_var 3))) ss_nil))))
  (ss_one (s_retOwn 2))))⟩
/-! ### _law_told -/
abbrev s__law_told : Stmt := topS 51
abbrev N__law_told : List Str := ["_law_table_here", "_law_way", "_law_case_here", "_law_some", "_law_deeds", "_law_number"]
theorem sc__law_told : FnScope N__law_told ["_law_table_here", "_law_way", "_law_case_here"] (defScope s__law_told) := ⟨rfl, rfl, rfl, by decide +kernel, rfl, by decide +kernel, by decide +kernel⟩
theorem c__law_told {k : Nat} (T : Tx K mg)
    (C__law_held : Callee P w K mg base k "_law_held" (spP K 2 PC.fn__law_held)) :
    Callee P w K mg base (k + 1) "_law_told" (spP K 3 PC.fn__law_told) := by
  obtain ⟨f, fd, F, hm⟩ := T.f__law_told
  refine callee_P (N := N__law_told) F hm sc__law_told (fun cdv A outer s H E hr => ?_) (fun _ _ _ _ _ _ us hl => match us, hl with | [_, _, _], _ => rfl)
  have hu := hr.units
  have sc := sc__law_told
  exact ⟨_, (ss_cons (s_set 3 (d_call C__law_held hr (a_cons (d_var 0) (a_cons (d_var 2) a_nil))) sc.nd)
  (ss_cons (s_if (t_cmp (c_eq hu) (d_var 3) (d_n (n_lst a_nil))) (ss_one (s_ret (d_tup (a_cons d_str a_nil)))) ss_nil)
  (ss_cons (s_set 4 (d_n (n_lc (own := [("_law_number", 5)]) (ic_seq (r_var 3)) (blkOk_by (N := N__law_told) (sc := (defScope s__law_told)) (by decide +kernel)) sc.nd (fun _ h => h) (fun _ _ _ _ _ => by exact (g_name 5 sc.nd)) (fun _ _ _ _ _ => by exact p_nil) (fun _ _ _ _ _ => by exact (d_ix (r_d (d_ix (r_d (d_ix (r_var 0) d_int)) (d_var 5))) d_int)))) sc.nd)
  (ss_cons (s_if (t_w (w_and (t_cmp (c_eq hu) (d_var 1) d_str) (w_and1 (t_cmp c_gt (d_len (r_var 3) T.m_len) d_int)))) (ss_one (s_ret (d_tup (a_cons d_str (a_cons (d_ix (r_var 3) d_int) (a_cons (d_ix (r_var 3) d_int) a_nil)))))) ss_nil)
  (ss_cons (s_if (t_w (w_and (t_cmp (c_eq hu) (d_var 1) d_str) (w_and1 (t_cmp c_lt (d_cnt (q_var 4) (d_ix (r_var 4) d_int)) (d_len (r_var 4) T.m_len))))) (ss_one (s_ret (d_tup (a_cons d_str (a_cons (d_ix (r_var 3) d_int) (a_cons (d_ix (r_n (n_lc (own := [("_law_number", 5)]) (ic_seq (r_var 3)) (blkOk_by (N := N__law_told) (sc := (defScope s__law_told)) (by decide +kernel)) sc.nd (fun _ h => h) (fun _ _ _ _ _ => by exact (g_name 5 sc.nd)) (fun _ _ _ _ _ => by exact (p_one (t_cmp (c_ne hu) (d_ix (r_d (d_ix (r_d (d_ix (r_var 0) d_int)) (d_var 5))) d_int) (d_ix (r_var 4) d_int)))) (fun _ _ _ _ _ => by exact (d_var 5)))) d_int) a_nil)))))) ss_nil)
  (ss_one (s_ret (d_tup (a_cons d_str (a_cons (d_ix (r_var 4) d_int) a_nil))))))))))⟩
/-! ### _law_rules -/
abbrev s__law_rules : Stmt := topS 52
abbrev N__law_rules : List Str := ["_law_first", "_law_second", "_law_place", "_law_found", "_law_wants", "_law_deed", "_law_others", "_law_later", "_law_want_here"]
theorem sc__law_rules : FnScope N__law_rules ["_law_first", "_law_second", "_law_place"] (defScope s__law_rules) := ⟨rfl, rfl, rfl, by decide +kernel, rfl, by decide +kernel, by decide +kernel⟩
theorem c__law_rules {k : Nat} (T : Tx K mg) :
    Callee P w K mg base (k + 1) "_law_rules" (spP K 3 PC.fn__law_rules) := by
  obtain ⟨f, fd, F, hm⟩ := T.f__law_rules
  refine callee_P (N := N__law_rules) F hm sc__law_rules (fun cdv A outer s H E hr => ?_) (fun _ _ _ _ _ _ us hl => match us, hl with | [_, _, _], _ => rfl)
  have hu := hr.units
  have sc := sc__law_rules
  exact ⟨_, (ss_cons (s_setL 3 (n_lst a_nil) sc.nd)
  (ss_cons (s_for PassesOwn.never (i_seq (d_ix (r_var 0) d_int)) (g_tup (gs_cons (g_name 4 sc.nd) (gs_cons (g_name 5 sc.nd) gs_nil))) (ss_cons (s_for PassesOwn.never (i_seq (d_ix (r_var 1) d_int)) (g_tup (gs_cons (g_name 6 sc.nd) (gs_cons (g_name 7 sc.nd) gs_nil))) (ss_cons (s_set 8 (d_ix (r_var 6) (d_var 2)) sc.nd)
  (ss_one (s_if (t_w (w_and (t_cmp c_isnot (d_var 5) d_non) (w_and (t_cmp c_lt (d_var 5) (d_ix (r_d (d_ix (r_var 1) d_int)) (d_var 2))) (w_and1 (t_w (w_or (t_cmp c_is (d_var 8) d_non) (w_or1 (t_cmp c_in (d_var 5) (d_var 8))))))))) (ss_one (s_app 3 (d_tup (a_cons (d_add (d_add (d_var 4) (d_sl (d_var 6) o_no (o_some (d_var 2)))) (d_sl (d_var 6) (o_some (d_add (d_var 2) d_int)) o_no)) (a_cons (d_var 7) a_nil))))) ss_nil))))
  (ss_one (s_app 3 (d_tup (a_cons (d_add (d_var 4) (d_mul (d_tup (a_cons d_non a_nil)) (d_sub (d_len (r_d (d_ix (r_var 1) d_int)) T.m_len) d_int))) (a_cons d_non a_nil)))))))
  (ss_one (s_ret (d_tupl (q_var 3) T.m_tuple)))))⟩
/-! ### law -/
abbrev s_law : Stmt := topS 53
abbrev N_law : List Str := ["_law_script", "_law_row", "_law_turn", "_law_place", "_law_sizes_here", "_law_rules_here", "_law_table_here", "_law_again", "_law_first", "_law_second", "_law_case_here", "_law_many_here", "_law_due", "_law_few", "_law_later"]
theorem sc_law : FnScope N_law ["_law_script"] (defScope s_law) := ⟨rfl, rfl, rfl, by decide +kernel, rfl, by decide +kernel, by decide +kernel⟩
theorem c_law {k : Nat} {f c PT : Addr} {oc : Value} {od an : Option Addr} {osl : Array (Option Value)} {kV doc pm ct : Value} (T : Tx K mg) (lk : K.lookup f = some ⟨oc, od, .func (PySem.W.fnOf "law" "law" (defArgs s_law) (defBody s_law) (defScope s_law) .none kV doc pm an (.ref c) ct), osl⟩) (hcd : PySem.W.codeIn K (.ref c) "law" = true) (TB : LamX.TabB base mg c PT)
    (C__law_table : Callee P w K mg base k "_law_table" (spR K 2 PC.fn__law_table))
    (C__law_taken : Callee P w K mg base k "_law_taken" (spR K 2 PC.fn__law_taken))
    (C__law_many : Callee P w K mg base k "_law_many" (spR K 1 PC.fn__law_many))
    (C__law_rules : Callee P w K mg base k "_law_rules" (spP K 3 PC.fn__law_rules))
    {j_behind : Nat} (C_behind : XCallee P w K mg base j_behind "behind" (spX K mg 3 PC.fn_behind)) (hj_behind : j_behind + 2 ≤ k)
    (C__law_alike : Callee P w K mg base k "_law_alike" (spP K 2 (PC.fn__law_alike 6)))
    (C__law_case : Callee P w K mg base k "_law_case" (spR K 2 PC.fn__law_case))
    (C__law_told : Callee P w K mg base k "_law_told" (spP K 3 PC.fn__law_told))
    (C_told : Callee P w K mg base k "told" (spP K 3 PC.fn_told)) (pure_ : ∀ ns : List Int, ns.length ≤ 63 → PC.fn_law09 PT [.list (ns.map PyData.int)] = some (.bool true)) :
    FnOk P w K mg base CX0 (k + 1) f (PySem.W.fnOf "law" "law" (defArgs s_law) (defBody s_law) (defScope s_law) .none kV doc pm an (.ref c) ct) ["_law_script"] (spLawT K 63 PT) := by
  obtain ⟨fw, fdw, Fw, hmw⟩ := T.f__law_word
  have bw := Fw.binds (ps := ["_law_work"]) (fun _ _ _ _ _ _ us hl => match us, hl with | [_], _ => rfl)
  obtain ⟨ocw, odw, kVw, docw, pmw, anw, cdw, ctw, oslw, rfl, lkw, hcw⟩ := id Fw.ex
  refine fnok_T (N := N_law) (q := qLam) (b := PC.b_law09 PT) lk hcd sc_law (by decide) (fun A outer s H E hr => ?_) pure_
  have hu := hr.units
  have sc := sc_law
  exact ⟨_, (ss_cons (s_setL 1 (n_lst (a_cons (d_var 0) (a_cons d_int (a_cons d_int (a_cons d_int a_nil))))) sc.nd)
  (ss_mkRowT 1 (ss_cons (s_for PassesOwn.never (i_rng1 d_int T.m_range) (g_name 2 sc.nd) (ss_cons (s_tgt (d_tup (a_cons (d_callRs 1 C__law_table hr (a_cons d_int a_nil)) (a_cons (d_callRs 1 C__law_table hr (a_cons d_int a_nil)) a_nil))) (g_tup (gs_cons (g_name 8 sc.nd) (gs_cons (g_name 9 sc.nd) gs_nil))))
  (ss_cons (s_if (t_cmp (c_eq hu) (d_callRs 1 C__law_taken hr (a_cons d_int a_nil)) d_int) (ss_cons (s_tgt (d_tup (a_cons (d_callRs 1 C__law_many hr a_nil) (a_cons (d_callRs 1 C__law_taken hr (a_cons d_int a_nil)) a_nil))) (g_tup (gs_cons (g_name 8 sc.nd) (gs_cons (g_name 13 sc.nd) gs_nil))))
  (ss_cons (s_set 8 (d_tup (a_cons (d_ix (r_var 8) d_int) (a_cons (d_sl (d_ix (r_var 8) d_int) o_no (o_some (d_ix (r_n (n_lst (a_cons d_int (a_cons d_int (a_cons d_int (a_cons d_int a_nil)))))) (d_var 13)))) a_nil))) sc.nd)
  (ss_one (s_set 9 (d_tup (a_cons (d_ix (r_var 9) d_int) (a_cons (d_sl (d_ix (r_var 9) d_int) o_no (o_some (d_var 13))) a_nil))) sc.nd)))) ss_nil)
  (ss_cons (s_set 3 (d_callRs 1 C__law_taken hr (a_cons (d_len (r_d (d_ix (r_var 9) d_int)) T.m_len) a_nil)) sc.nd)
  (ss_cons (s_set 4 (d_add (d_add (d_ix (r_var 8) d_int) (d_sl (d_ix (r_var 9) d_int) o_no (o_some (d_var 3)))) (d_sl (d_ix (r_var 9) d_int) (o_some (d_add (d_var 3) d_int)) o_no)) sc.nd)
  (ss_cons (s_set 5 (d_call C__law_rules hr (a_cons (d_var 8) (a_cons (d_var 9) (a_cons (d_var 3) a_nil)))) sc.nd)
  (ss_cons (s_if (t_w (w_or (t_cmp c_gt (d_len (r_var 4) T.m_len) d_int) (w_or1 (t_cmp c_gt (d_len (r_var 5) T.m_len) d_int)))) (ss_cons (s_if (t_cmp (c_ne hu) (d_lam C_behind hmw Fw.kp lkw hcw bw sc__law_word (g__law_word T (hr.mono (by omega))) TB rfl (hr.mono hj_behind) (fun _ _ _ _ _ _ _ => by exact (a_cons (d_var 8) (a_cons (d_var 9) (a_cons (d_var 3) a_nil)))) (lam := LamX.lamS_by (sc := defScope s_law) (by decide +kernel))) (d_tup (a_cons d_str a_nil))) (ss_one (s_ret d_bl)) ss_nil)
  (ss_one s_cont)) ss_nil)
  (ss_cons (s_set 6 (d_call (C_behind.mono (by omega)).noX hr (a_cons (d_var 8) (a_cons (d_var 9) (a_cons (d_var 3) a_nil)))) sc.nd)
  (ss_cons (s_if (t_not (t_val (d_call C__law_alike hr (a_cons (d_var 6) (a_cons (d_tup (a_cons (d_var 4) (a_cons (d_var 5) a_nil))) a_nil))))) (ss_one (s_ret d_bl)) ss_nil)
  (ss_one (s_for PassesOwn.never (i_rng1 d_int T.m_range) (g_name 7 sc.nd) (ss_cons (s_set 10 (d_callRs 1 C__law_case hr (a_cons (d_var 4) a_nil)) sc.nd)
  (ss_cons (s_set 11 (d_len (r_d (d_ix (r_var 8) d_int)) T.m_len) sc.nd)
  (ss_cons (s_set 12 (d_call C__law_told hr (a_cons (d_var 8) (a_cons d_str (a_cons (d_sl (d_var 10) o_no (o_some (d_var 11))) a_nil)))) sc.nd)
  (ss_cons (s_if (t_w (w_and (t_cmp (c_eq hu) (d_ix (r_var 12) d_int) d_str) (w_and (t_cmp c_isnot (d_ix (r_var 12) d_int) d_non) (w_and1 (t_cmp c_lt (d_ix (r_var 12) d_int) (d_ix (r_d (d_ix (r_var 9) d_int)) (d_var 3))))))) (ss_cons (s_set 14 (d_add (d_add (d_sl (d_var 10) (o_some (d_var 11)) (o_some (d_add (d_var 11) (d_var 3)))) (d_tup (a_cons (d_ix (r_var 12) d_int) a_nil))) (d_sl (d_var 10) (o_some (d_add (d_var 11) (d_var 3))) o_no)) sc.nd)
  (ss_cons (s_set 12 (d_call C__law_told hr (a_cons (d_var 9) (a_cons d_str (a_cons (d_var 14) a_nil)))) sc.nd)
  (ss_one (s_set 12 (d_if (t_cmp (c_eq hu) (d_var 12) (d_tup (a_cons d_str a_nil))) (d_tup (a_cons d_str (a_cons d_non a_nil))) (d_var 12)) sc.nd)))) (ss_one (s_if (t_cmp (c_eq hu) (d_ix (r_var 12) d_int) d_str) (ss_one (s_set 12 (d_tup (a_cons d_str (a_cons d_non a_nil))) sc.nd)) ss_nil)))
  (ss_one (s_if (t_not (t_val (d_call C__law_alike hr (a_cons (d_call C_told hr (a_cons (d_var 6) (a_cons d_str (a_cons (d_var 10) a_nil)))) (a_cons (d_var 12) a_nil))))) (ss_one (s_ret d_bl)) ss_nil)))))))))))))))))
  (ss_one (s_ret d_bl)))))⟩
end
end K09

set_option maxHeartbeats 4000000
namespace K09
open PySem PySem.Spec PyProof.Rows L2 DL
theorem tx_of {K : PySem.W.Frag} {h : Heap} {mg : Str → Option Value} (X : K.In h) (G : h.Ns mainGlobals mg) {f0 : Addr} {od0 an0 : Option Addr} {sl0 : Array (Option Value)} {oc0 kV0 dc0 pm0 cd0 ct0 : Value} {f1 : Addr} {od1 an1 : Option Addr} {sl1 : Array (Option Value)} {oc1 kV1 dc1 pm1 cd1 ct1 : Value} {f2 : Addr} {od2 an2 : Option Addr} {sl2 : Array (Option Value)} {oc2 kV2 dc2 pm2 cd2 ct2 : Value} {f3 : Addr} {od3 an3 : Option Addr} {sl3 : Array (Option Value)} {oc3 kV3 dc3 pm3 cd3 ct3 : Value} {f4 : Addr} {od4 an4 : Option Addr} {sl4 : Array (Option Value)} {oc4 kV4 dc4 pm4 cd4 ct4 : Value} {f5 : Addr} {od5 an5 : Option Addr} {sl5 : Array (Option Value)} {oc5 kV5 dc5 pm5 cd5 ct5 : Value} {f6 : Addr} {od6 an6 : Option Addr} {sl6 : Array (Option Value)} {oc6 kV6 dc6 pm6 cd6 ct6 : Value} {f7 : Addr} {od7 an7 : Option Addr} {sl7 : Array (Option Value)} {oc7 kV7 dc7 pm7 cd7 ct7 : Value} {f8 : Addr} {od8 an8 : Option Addr} {sl8 : Array (Option Value)} {oc8 kV8 dc8 pm8 cd8 ct8 : Value} {f9 : Addr} {od9 an9 : Option Addr} {sl9 : Array (Option Value)} {oc9 kV9 dc9 pm9 cd9 ct9 : Value} {f10 : Addr} {od10 an10 : Option Addr} {sl10 : Array (Option Value)} {oc10 kV10 dc10 pm10 cd10 ct10 : Value} {f11 : Addr} {od11 an11 : Option Addr} {sl11 : Array (Option Value)} {oc11 kV11 dc11 pm11 cd11 ct11 : Value} {f12 : Addr} {od12 an12 : Option Addr} {sl12 : Array (Option Value)} {oc12 kV12 dc12 pm12 cd12 ct12 : Value} {f13 : Addr} {od13 an13 : Option Addr} {sl13 : Array (Option Value)} {oc13 kV13 dc13 pm13 cd13 ct13 : Value} {f14 : Addr} {od14 an14 : Option Addr} {sl14 : Array (Option Value)} {oc14 kV14 dc14 pm14 cd14 ct14 : Value} {f15 : Addr} {od15 an15 : Option Addr} {sl15 : Array (Option Value)} {oc15 kV15 dc15 pm15 cd15 ct15 : Value} {f16 : Addr} {od16 an16 : Option Addr} {sl16 : Array (Option Value)} {oc16 kV16 dc16 pm16 cd16 ct16 : Value} {f17 : Addr} {od17 an17 : Option Addr} {sl17 : Array (Option Value)} {oc17 kV17 dc17 pm17 cd17 ct17 : Value} {f18 : Addr} {od18 an18 : Option Addr} {sl18 : Array (Option Value)} {oc18 kV18 dc18 pm18 cd18 ct18 : Value} {f19 : Addr} {od19 an19 : Option Addr} {sl19 : Array (Option Value)} {oc19 kV19 dc19 pm19 cd19 ct19 : Value} {f20 : Addr} {od20 an20 : Option Addr} {sl20 : Array (Option Value)} {oc20 kV20 dc20 pm20 cd20 ct20 : Value} {f21 : Addr} {od21 an21 : Option Addr} {sl21 : Array (Option Value)} {oc21 kV21 dc21 pm21 cd21 ct21 : Value} {f22 : Addr} {od22 an22 : Option Addr} {sl22 : Array (Option Value)} {oc22 kV22 dc22 pm22 cd22 ct22 : Value} {f23 : Addr} {od23 an23 : Option Addr} {sl23 : Array (Option Value)} {oc23 kV23 dc23 pm23 cd23 ct23 : Value} {f24 : Addr} {od24 an24 : Option Addr} {sl24 : Array (Option Value)} {oc24 kV24 dc24 pm24 cd24 ct24 : Value} {f25 : Addr} {od25 an25 : Option Addr} {sl25 : Array (Option Value)} {oc25 kV25 dc25 pm25 cd25 ct25 : Value} {f26 : Addr} {od26 an26 : Option Addr} {sl26 : Array (Option Value)} {oc26 kV26 dc26 pm26 cd26 ct26 : Value} {f27 : Addr} {od27 an27 : Option Addr} {sl27 : Array (Option Value)} {oc27 kV27 dc27 pm27 ct27 : Value} {t_CLASH : Tok} {t_DEED : Tok} {t_FIRST : Tok} {t_GAP : Tok} {t_LEAST_SIZE : Tok} {t_MOST_CONDITIONS : Tok} {t_MOST_DEED : Tok} {t_MOST_RULES : Tok} {t_MOST_SIZE : Tok} {t_ONE : Tok} {w_WAYS : Addr} {dd_WAYS : Option Addr} {n_WAYS : Nat} {sl_WAYS : Array (Option Value)} {t_WAYS0 t_WAYS1 t_WAYS2 : Tok} {c_BadCase : Addr} {c_TooMany : Addr} {c_CaseError : Addr} {c_BadRule : Addr} {c_BadWay : Addr} {c_BadTable : Addr} {c_Unlike : Addr} {c_BadTree : Addr} {c_BadShares : Addr} {c_BadText : Addr} {cL PT : Addr} {dC : Option Addr} {vC : Array Value} {sC : Array (Option Value)}
    (a0 : PySem.W.nsIn K mainGlobals "is_whole" = some (some (.ref f0)))
    (l0 : K.lookup f0 = some ⟨oc0, od0, .func (PySem.W.fnOf "is_whole" "is_whole" (defArgs (topS 24)) (defBody (topS 24)) (defScope (topS 24)) .none kV0 dc0 pm0 an0 cd0 ct0), sl0⟩)
    (c0 : PySem.W.codeIn K cd0 "is_whole" = true)
    (k0 : PySem.W.keepIn K (.ref f0) = true)
    (a1 : PySem.W.nsIn K mainGlobals "is_want" = some (some (.ref f1)))
    (l1 : K.lookup f1 = some ⟨oc1, od1, .func (PySem.W.fnOf "is_want" "is_want" (defArgs (topS 25)) (defBody (topS 25)) (defScope (topS 25)) .none kV1 dc1 pm1 an1 cd1 ct1), sl1⟩)
    (c1 : PySem.W.codeIn K cd1 "is_want" = true)
    (k1 : PySem.W.keepIn K (.ref f1) = true)
    (a2 : PySem.W.nsIn K mainGlobals "is_deed" = some (some (.ref f2)))
    (l2 : K.lookup f2 = some ⟨oc2, od2, .func (PySem.W.fnOf "is_deed" "is_deed" (defArgs (topS 26)) (defBody (topS 26)) (defScope (topS 26)) .none kV2 dc2 pm2 an2 cd2 ct2), sl2⟩)
    (c2 : PySem.W.codeIn K cd2 "is_deed" = true)
    (k2 : PySem.W.keepIn K (.ref f2) = true)
    (a3 : PySem.W.nsIn K mainGlobals "is_rule" = some (some (.ref f3)))
    (l3 : K.lookup f3 = some ⟨oc3, od3, .func (PySem.W.fnOf "is_rule" "is_rule" (defArgs (topS 27)) (defBody (topS 27)) (defScope (topS 27)) .none kV3 dc3 pm3 an3 cd3 ct3), sl3⟩)
    (c3 : PySem.W.codeIn K cd3 "is_rule" = true)
    (k3 : PySem.W.keepIn K (.ref f3) = true)
    (a4 : PySem.W.nsIn K mainGlobals "need_table" = some (some (.ref f4)))
    (l4 : K.lookup f4 = some ⟨oc4, od4, .func (PySem.W.fnOf "need_table" "need_table" (defArgs (topS 28)) (defBody (topS 28)) (defScope (topS 28)) .none kV4 dc4 pm4 an4 cd4 ct4), sl4⟩)
    (c4 : PySem.W.codeIn K cd4 "need_table" = true)
    (k4 : PySem.W.keepIn K (.ref f4) = true)
    (a5 : PySem.W.nsIn K mainGlobals "need_way" = some (some (.ref f5)))
    (l5 : K.lookup f5 = some ⟨oc5, od5, .func (PySem.W.fnOf "need_way" "need_way" (defArgs (topS 29)) (defBody (topS 29)) (defScope (topS 29)) .none kV5 dc5 pm5 an5 cd5 ct5), sl5⟩)
    (c5 : PySem.W.codeIn K cd5 "need_way" = true)
    (k5 : PySem.W.keepIn K (.ref f5) = true)
    (a6 : PySem.W.nsIn K mainGlobals "need_case" = some (some (.ref f6)))
    (l6 : K.lookup f6 = some ⟨oc6, od6, .func (PySem.W.fnOf "need_case" "need_case" (defArgs (topS 30)) (defBody (topS 30)) (defScope (topS 30)) .none kV6 dc6 pm6 an6 cd6 ct6), sl6⟩)
    (c6 : PySem.W.codeIn K cd6 "need_case" = true)
    (k6 : PySem.W.keepIn K (.ref f6) = true)
    (a7 : PySem.W.nsIn K mainGlobals "holds" = some (some (.ref f7)))
    (l7 : K.lookup f7 = some ⟨oc7, od7, .func (PySem.W.fnOf "holds" "holds" (defArgs (topS 31)) (defBody (topS 31)) (defScope (topS 31)) .none kV7 dc7 pm7 an7 cd7 ct7), sl7⟩)
    (c7 : PySem.W.codeIn K cd7 "holds" = true)
    (k7 : PySem.W.keepIn K (.ref f7) = true)
    (a8 : PySem.W.nsIn K mainGlobals "holding" = some (some (.ref f8)))
    (l8 : K.lookup f8 = some ⟨oc8, od8, .func (PySem.W.fnOf "holding" "holding" (defArgs (topS 32)) (defBody (topS 32)) (defScope (topS 32)) .none kV8 dc8 pm8 an8 cd8 ct8), sl8⟩)
    (c8 : PySem.W.codeIn K cd8 "holding" = true)
    (k8 : PySem.W.keepIn K (.ref f8) = true)
    (a9 : PySem.W.nsIn K mainGlobals "clashing" = some (some (.ref f9)))
    (l9 : K.lookup f9 = some ⟨oc9, od9, .func (PySem.W.fnOf "clashing" "clashing" (defArgs (topS 33)) (defBody (topS 33)) (defScope (topS 33)) .none kV9 dc9 pm9 an9 cd9 ct9), sl9⟩)
    (c9 : PySem.W.codeIn K cd9 "clashing" = true)
    (k9 : PySem.W.keepIn K (.ref f9) = true)
    (a10 : PySem.W.nsIn K mainGlobals "answer" = some (some (.ref f10)))
    (l10 : K.lookup f10 = some ⟨oc10, od10, .func (PySem.W.fnOf "answer" "answer" (defArgs (topS 35)) (defBody (topS 35)) (defScope (topS 35)) .none kV10 dc10 pm10 an10 cd10 ct10), sl10⟩)
    (c10 : PySem.W.codeIn K cd10 "answer" = true)
    (k10 : PySem.W.keepIn K (.ref f10) = true)
    (a11 : PySem.W.nsIn K mainGlobals "told" = some (some (.ref f11)))
    (l11 : K.lookup f11 = some ⟨oc11, od11, .func (PySem.W.fnOf "told" "told" (defArgs (topS 34)) (defBody (topS 34)) (defScope (topS 34)) .none kV11 dc11 pm11 an11 cd11 ct11), sl11⟩)
    (c11 : PySem.W.codeIn K cd11 "told" = true)
    (k11 : PySem.W.keepIn K (.ref f11) = true)
    (a12 : PySem.W.nsIn K mainGlobals "full" = some (some (.ref f12)))
    (l12 : K.lookup f12 = some ⟨oc12, od12, .func (PySem.W.fnOf "full" "full" (defArgs (topS 37)) (defBody (topS 37)) (defScope (topS 37)) .none kV12 dc12 pm12 an12 cd12 ct12), sl12⟩)
    (c12 : PySem.W.codeIn K cd12 "full" = true)
    (k12 : PySem.W.keepIn K (.ref f12) = true)
    (a13 : PySem.W.nsIn K mainGlobals "behind" = some (some (.ref f13)))
    (l13 : K.lookup f13 = some ⟨oc13, od13, .func (PySem.W.fnOf "behind" "behind" (defArgs (topS 38)) (defBody (topS 38)) (defScope (topS 38)) .none kV13 dc13 pm13 an13 cd13 ct13), sl13⟩)
    (c13 : PySem.W.codeIn K cd13 "behind" = true)
    (k13 : PySem.W.keepIn K (.ref f13) = true)
    (a14 : PySem.W.nsIn K mainGlobals "_law_taken" = some (some (.ref f14)))
    (l14 : K.lookup f14 = some ⟨oc14, od14, .func (PySem.W.fnOf "_law_taken" "_law_taken" (defArgs (topS 40)) (defBody (topS 40)) (defScope (topS 40)) .none kV14 dc14 pm14 an14 cd14 ct14), sl14⟩)
    (c14 : PySem.W.codeIn K cd14 "_law_taken" = true)
    (k14 : PySem.W.keepIn K (.ref f14) = true)
    (a15 : PySem.W.nsIn K mainGlobals "_law_alike" = some (some (.ref f15)))
    (l15 : K.lookup f15 = some ⟨oc15, od15, .func (PySem.W.fnOf "_law_alike" "_law_alike" (defArgs (topS 41)) (defBody (topS 41)) (defScope (topS 41)) .none kV15 dc15 pm15 an15 cd15 ct15), sl15⟩)
    (c15 : PySem.W.codeIn K cd15 "_law_alike" = true)
    (k15 : PySem.W.keepIn K (.ref f15) = true)
    (a16 : PySem.W.nsIn K mainGlobals "_law_word" = some (some (.ref f16)))
    (l16 : K.lookup f16 = some ⟨oc16, od16, .func (PySem.W.fnOf "_law_word" "_law_word" (defArgs (topS 42)) (defBody (topS 42)) (defScope (topS 42)) .none kV16 dc16 pm16 an16 cd16 ct16), sl16⟩)
    (c16 : PySem.W.codeIn K cd16 "_law_word" = true)
    (k16 : PySem.W.keepIn K (.ref f16) = true)
    (a17 : PySem.W.nsIn K mainGlobals "_law_sizes" = some (some (.ref f17)))
    (l17 : K.lookup f17 = some ⟨oc17, od17, .func (PySem.W.fnOf "_law_sizes" "_law_sizes" (defArgs (topS 43)) (defBody (topS 43)) (defScope (topS 43)) .none kV17 dc17 pm17 an17 cd17 ct17), sl17⟩)
    (c17 : PySem.W.codeIn K cd17 "_law_sizes" = true)
    (k17 : PySem.W.keepIn K (.ref f17) = true)
    (a18 : PySem.W.nsIn K mainGlobals "_law_want" = some (some (.ref f18)))
    (l18 : K.lookup f18 = some ⟨oc18, od18, .func (PySem.W.fnOf "_law_want" "_law_want" (defArgs (topS 44)) (defBody (topS 44)) (defScope (topS 44)) .none kV18 dc18 pm18 an18 cd18 ct18), sl18⟩)
    (c18 : PySem.W.codeIn K cd18 "_law_want" = true)
    (k18 : PySem.W.keepIn K (.ref f18) = true)
    (a19 : PySem.W.nsIn K mainGlobals "_law_rule" = some (some (.ref f19)))
    (l19 : K.lookup f19 = some ⟨oc19, od19, .func (PySem.W.fnOf "_law_rule" "_law_rule" (defArgs (topS 45)) (defBody (topS 45)) (defScope (topS 45)) .none kV19 dc19 pm19 an19 cd19 ct19), sl19⟩)
    (c19 : PySem.W.codeIn K cd19 "_law_rule" = true)
    (k19 : PySem.W.keepIn K (.ref f19) = true)
    (a20 : PySem.W.nsIn K mainGlobals "_law_near" = some (some (.ref f20)))
    (l20 : K.lookup f20 = some ⟨oc20, od20, .func (PySem.W.fnOf "_law_near" "_law_near" (defArgs (topS 46)) (defBody (topS 46)) (defScope (topS 46)) .none kV20 dc20 pm20 an20 cd20 ct20), sl20⟩)
    (c20 : PySem.W.codeIn K cd20 "_law_near" = true)
    (k20 : PySem.W.keepIn K (.ref f20) = true)
    (a21 : PySem.W.nsIn K mainGlobals "_law_many" = some (some (.ref f21)))
    (l21 : K.lookup f21 = some ⟨oc21, od21, .func (PySem.W.fnOf "_law_many" "_law_many" (defArgs (topS 47)) (defBody (topS 47)) (defScope (topS 47)) .none kV21 dc21 pm21 an21 cd21 ct21), sl21⟩)
    (c21 : PySem.W.codeIn K cd21 "_law_many" = true)
    (k21 : PySem.W.keepIn K (.ref f21) = true)
    (a22 : PySem.W.nsIn K mainGlobals "_law_table" = some (some (.ref f22)))
    (l22 : K.lookup f22 = some ⟨oc22, od22, .func (PySem.W.fnOf "_law_table" "_law_table" (defArgs (topS 48)) (defBody (topS 48)) (defScope (topS 48)) .none kV22 dc22 pm22 an22 cd22 ct22), sl22⟩)
    (c22 : PySem.W.codeIn K cd22 "_law_table" = true)
    (k22 : PySem.W.keepIn K (.ref f22) = true)
    (a23 : PySem.W.nsIn K mainGlobals "_law_case" = some (some (.ref f23)))
    (l23 : K.lookup f23 = some ⟨oc23, od23, .func (PySem.W.fnOf "_law_case" "_law_case" (defArgs (topS 49)) (defBody (topS 49)) (defScope (topS 49)) .none kV23 dc23 pm23 an23 cd23 ct23), sl23⟩)
    (c23 : PySem.W.codeIn K cd23 "_law_case" = true)
    (k23 : PySem.W.keepIn K (.ref f23) = true)
    (a24 : PySem.W.nsIn K mainGlobals "_law_held" = some (some (.ref f24)))
    (l24 : K.lookup f24 = some ⟨oc24, od24, .func (PySem.W.fnOf "_law_held" "_law_held" (defArgs (topS 50)) (defBody (topS 50)) (defScope (topS 50)) .none kV24 dc24 pm24 an24 cd24 ct24), sl24⟩)
    (c24 : PySem.W.codeIn K cd24 "_law_held" = true)
    (k24 : PySem.W.keepIn K (.ref f24) = true)
    (a25 : PySem.W.nsIn K mainGlobals "_law_told" = some (some (.ref f25)))
    (l25 : K.lookup f25 = some ⟨oc25, od25, .func (PySem.W.fnOf "_law_told" "_law_told" (defArgs (topS 51)) (defBody (topS 51)) (defScope (topS 51)) .none kV25 dc25 pm25 an25 cd25 ct25), sl25⟩)
    (c25 : PySem.W.codeIn K cd25 "_law_told" = true)
    (k25 : PySem.W.keepIn K (.ref f25) = true)
    (a26 : PySem.W.nsIn K mainGlobals "_law_rules" = some (some (.ref f26)))
    (l26 : K.lookup f26 = some ⟨oc26, od26, .func (PySem.W.fnOf "_law_rules" "_law_rules" (defArgs (topS 52)) (defBody (topS 52)) (defScope (topS 52)) .none kV26 dc26 pm26 an26 cd26 ct26), sl26⟩)
    (c26 : PySem.W.codeIn K cd26 "_law_rules" = true)
    (k26 : PySem.W.keepIn K (.ref f26) = true)
    (a27 : PySem.W.nsIn K mainGlobals "law" = some (some (.ref f27)))
    (l27 : K.lookup f27 = some ⟨oc27, od27, .func (PySem.W.fnOf "law" "law" (defArgs (topS 53)) (defBody (topS 53)) (defScope (topS 53)) .none kV27 dc27 pm27 an27 (.ref cL) ct27), sl27⟩)
    (c27 : PySem.W.codeIn K (.ref cL) "law" = true)
    (k27 : PySem.W.keepIn K (.ref f27) = true)
    (z_ValueError : PySem.W.nsIn K mainGlobals "ValueError" = some none)
    (z_bool : PySem.W.nsIn K mainGlobals "bool" = some none)
    (z_int : PySem.W.nsIn K mainGlobals "int" = some none)
    (z_isinstance : PySem.W.nsIn K mainGlobals "isinstance" = some none)
    (z_len : PySem.W.nsIn K mainGlobals "len" = some none)
    (z_list : PySem.W.nsIn K mainGlobals "list" = some none)
    (z_min : PySem.W.nsIn K mainGlobals "min" = some none)
    (z_range : PySem.W.nsIn K mainGlobals "range" = some none)
    (z_str : PySem.W.nsIn K mainGlobals "str" = some none)
    (z_tuple : PySem.W.nsIn K mainGlobals "tuple" = some none)
    (g_CLASH : PySem.W.nsIn K mainGlobals "CLASH" = some (some (.str "clash" t_CLASH)))
    (g_DEED : PySem.W.nsIn K mainGlobals "DEED" = some (some (.str "deed" t_DEED)))
    (g_FIRST : PySem.W.nsIn K mainGlobals "FIRST" = some (some (.str "first" t_FIRST)))
    (g_GAP : PySem.W.nsIn K mainGlobals "GAP" = some (some (.str "gap" t_GAP)))
    (g_LEAST_SIZE : PySem.W.nsIn K mainGlobals "LEAST_SIZE" = some (some (.int 2 t_LEAST_SIZE)))
    (g_MOST_CONDITIONS : PySem.W.nsIn K mainGlobals "MOST_CONDITIONS" = some (some (.int 5 t_MOST_CONDITIONS)))
    (g_MOST_DEED : PySem.W.nsIn K mainGlobals "MOST_DEED" = some (some (.int 9 t_MOST_DEED)))
    (g_MOST_RULES : PySem.W.nsIn K mainGlobals "MOST_RULES" = some (some (.int 40 t_MOST_RULES)))
    (g_MOST_SIZE : PySem.W.nsIn K mainGlobals "MOST_SIZE" = some (some (.int 4 t_MOST_SIZE)))
    (g_ONE : PySem.W.nsIn K mainGlobals "ONE" = some (some (.str "one" t_ONE)))
    (g_WAYS : PySem.W.nsIn K mainGlobals "WAYS" = some (some (.ref w_WAYS)))
    (o_WAYS : K.lookup w_WAYS = some ⟨.type "tuple", dd_WAYS, .seq #[.str "one" t_WAYS0, .str "first" t_WAYS1, .str "same" t_WAYS2] n_WAYS, sl_WAYS⟩)
    (a_BadCase : PySem.W.nsIn K mainGlobals "BadCase" = some (some (.ref c_BadCase)))
    (a_TooMany : PySem.W.nsIn K mainGlobals "TooMany" = some (some (.ref c_TooMany)))
    (a_CaseError : PySem.W.nsIn K mainGlobals "CaseError" = some (some (.ref c_CaseError)))
    (a_BadRule : PySem.W.nsIn K mainGlobals "BadRule" = some (some (.ref c_BadRule)))
    (a_BadWay : PySem.W.nsIn K mainGlobals "BadWay" = some (some (.ref c_BadWay)))
    (a_BadTable : PySem.W.nsIn K mainGlobals "BadTable" = some (some (.ref c_BadTable)))
    (a_Unlike : PySem.W.nsIn K mainGlobals "Unlike" = some (some (.ref c_Unlike)))
    (a_BadTree : PySem.W.nsIn K mainGlobals "BadTree" = some (some (.ref c_BadTree)))
    (a_BadShares : PySem.W.nsIn K mainGlobals "BadShares" = some (some (.ref c_BadShares)))
    (a_BadText : PySem.W.nsIn K mainGlobals "BadText" = some (some (.ref c_BadText)))
    (x_BadCase : PySem.W.excIn K c_BadCase [.type "ValueError", .type "Exception", .type "BaseException", .type "object"] "ValueError.__new__" = true)
    (kp_BadCase : PySem.W.keepIn K (.ref c_BadCase) = true)
    (sb_BadCase : PySem.W.subIn K (.ref c_BadCase) (.type "BaseException") = some true)
    (ty_BadCase : PySem.W.typeIn K (.ref c_BadCase) = some (.type "type"))
    (x_TooMany : PySem.W.excIn K c_TooMany [.type "ValueError", .type "Exception", .type "BaseException", .type "object"] "ValueError.__new__" = true)
    (kp_TooMany : PySem.W.keepIn K (.ref c_TooMany) = true)
    (sb_TooMany : PySem.W.subIn K (.ref c_TooMany) (.type "BaseException") = some true)
    (ty_TooMany : PySem.W.typeIn K (.ref c_TooMany) = some (.type "type"))
    (wn : PySem.W.specialIn K (.builtin "object.__class__") "__get__" = some (some (.builtin "getset_descriptor.__get__")))
    (wt : PySem.W.takesIn K (.builtin "object.__class__") = some true)
    (wi_CaseError : PySem.W.isClsIn K c_CaseError = true)
    (wy_CaseError : PySem.W.typeIn K (.ref c_CaseError) = some (.type "type"))
    (wi_BadRule : PySem.W.isClsIn K c_BadRule = true)
    (wy_BadRule : PySem.W.typeIn K (.ref c_BadRule) = some (.type "type"))
    (wi_BadCase : PySem.W.isClsIn K c_BadCase = true)
    (wy_BadCase : PySem.W.typeIn K (.ref c_BadCase) = some (.type "type"))
    (wi_BadWay : PySem.W.isClsIn K c_BadWay = true)
    (wy_BadWay : PySem.W.typeIn K (.ref c_BadWay) = some (.type "type"))
    (wi_BadTable : PySem.W.isClsIn K c_BadTable = true)
    (wy_BadTable : PySem.W.typeIn K (.ref c_BadTable) = some (.type "type"))
    (wi_Unlike : PySem.W.isClsIn K c_Unlike = true)
    (wy_Unlike : PySem.W.typeIn K (.ref c_Unlike) = some (.type "type"))
    (wi_BadTree : PySem.W.isClsIn K c_BadTree = true)
    (wy_BadTree : PySem.W.typeIn K (.ref c_BadTree) = some (.type "type"))
    (wi_BadShares : PySem.W.isClsIn K c_BadShares = true)
    (wy_BadShares : PySem.W.typeIn K (.ref c_BadShares) = some (.type "type"))
    (wi_BadText : PySem.W.isClsIn K c_BadText = true)
    (wy_BadText : PySem.W.typeIn K (.ref c_BadText) = some (.type "type"))
    (wi_TooMany : PySem.W.isClsIn K c_TooMany = true)
    (wy_TooMany : PySem.W.typeIn K (.ref c_TooMany) = some (.type "type"))
    (wcb : PySem.W.subIn K (.ref c_CaseError) (.type "BaseException") = some true)
    (wcd : PySem.W.hasDictIn K c_CaseError = true)
    (wg_TooMany : PySem.W.findIn K (.ref c_TooMany) "__getattribute__" = some (some (.builtin "BaseException.__getattribute__")))
    (wk_TooMany : PySem.W.findIn K (.ref c_TooMany) "__getattr__" = some none)
    (ws_TooMany : PySem.W.subIn K (.ref c_TooMany) (.type "BaseException") = some true)
    (wd_TooMany : PySem.W.hasDictIn K c_TooMany = true)
    (wa_TooMany : PySem.W.findIn K (.ref c_TooMany) "__class__" = some (some (.builtin "object.__class__")))
    (wm_TooMany : PySem.W.mroIn K c_TooMany (.type "object") = some true)
    (wx_TooMany : PySem.W.subIn K (.ref c_TooMany) (.ref c_CaseError) = some true)
    (wq_TooMany_ValueError : PySem.W.subIn K (.ref c_TooMany) (.type "ValueError") = some true)
    (wq_TooMany_BadText : PySem.W.subIn K (.ref c_TooMany) (.ref c_BadText) = some false)
    (wz_TooMany_BadText : c_TooMany ≠ c_BadText)
    (wq_TooMany_BadShares : PySem.W.subIn K (.ref c_TooMany) (.ref c_BadShares) = some false)
    (wz_TooMany_BadShares : c_TooMany ≠ c_BadShares)
    (wq_TooMany_BadTree : PySem.W.subIn K (.ref c_TooMany) (.ref c_BadTree) = some false)
    (wz_TooMany_BadTree : c_TooMany ≠ c_BadTree)
    (wq_TooMany_Unlike : PySem.W.subIn K (.ref c_TooMany) (.ref c_Unlike) = some false)
    (wz_TooMany_Unlike : c_TooMany ≠ c_Unlike)
    (wq_TooMany_BadTable : PySem.W.subIn K (.ref c_TooMany) (.ref c_BadTable) = some false)
    (wz_TooMany_BadTable : c_TooMany ≠ c_BadTable)
    (wq_TooMany_BadWay : PySem.W.subIn K (.ref c_TooMany) (.ref c_BadWay) = some false)
    (wz_TooMany_BadWay : c_TooMany ≠ c_BadWay)
    (wq_TooMany_BadCase : PySem.W.subIn K (.ref c_TooMany) (.ref c_BadCase) = some false)
    (wz_TooMany_BadCase : c_TooMany ≠ c_BadCase)
    (wq_TooMany_BadRule : PySem.W.subIn K (.ref c_TooMany) (.ref c_BadRule) = some false)
    (wz_TooMany_BadRule : c_TooMany ≠ c_BadRule)
    (lc : K.lookup cL = some ⟨.type "code", dC, .fields vC, sC⟩)
    (pc : vC[11]? = some (.ref PT))
    (hcodh : codeB vC PT cL = true)
    (np : K.lookup PT = none) : Tx K mg :=
  { f_is_whole := ⟨_, _, fun_mk (st := topS 24) l0 c0 k0, PySem.W.mg_of X G a0⟩
    f_is_want := ⟨_, _, fun_mk (st := topS 25) l1 c1 k1, PySem.W.mg_of X G a1⟩
    f_is_deed := ⟨_, _, fun_mk (st := topS 26) l2 c2 k2, PySem.W.mg_of X G a2⟩
    f_is_rule := ⟨_, _, fun_mk (st := topS 27) l3 c3 k3, PySem.W.mg_of X G a3⟩
    f_need_table := ⟨_, _, fun_mk (st := topS 28) l4 c4 k4, PySem.W.mg_of X G a4⟩
    f_need_way := ⟨_, _, fun_mk (st := topS 29) l5 c5 k5, PySem.W.mg_of X G a5⟩
    f_need_case := ⟨_, _, fun_mk (st := topS 30) l6 c6 k6, PySem.W.mg_of X G a6⟩
    f_holds := ⟨_, _, fun_mk (st := topS 31) l7 c7 k7, PySem.W.mg_of X G a7⟩
    f_holding := ⟨_, _, fun_mk (st := topS 32) l8 c8 k8, PySem.W.mg_of X G a8⟩
    f_clashing := ⟨_, _, fun_mk (st := topS 33) l9 c9 k9, PySem.W.mg_of X G a9⟩
    f_answer := ⟨_, _, fun_mk (st := topS 35) l10 c10 k10, PySem.W.mg_of X G a10⟩
    f_told := ⟨_, _, fun_mk (st := topS 34) l11 c11 k11, PySem.W.mg_of X G a11⟩
    f_full := ⟨_, _, fun_mk (st := topS 37) l12 c12 k12, PySem.W.mg_of X G a12⟩
    f_behind := ⟨_, _, fun_mk (st := topS 38) l13 c13 k13, PySem.W.mg_of X G a13⟩
    f__law_taken := ⟨_, _, fun_mk (st := topS 40) l14 c14 k14, PySem.W.mg_of X G a14⟩
    f__law_alike := ⟨_, _, fun_mk (st := topS 41) l15 c15 k15, PySem.W.mg_of X G a15⟩
    f__law_word := ⟨_, _, fun_mk (st := topS 42) l16 c16 k16, PySem.W.mg_of X G a16⟩
    f__law_sizes := ⟨_, _, fun_mk (st := topS 43) l17 c17 k17, PySem.W.mg_of X G a17⟩
    f__law_want := ⟨_, _, fun_mk (st := topS 44) l18 c18 k18, PySem.W.mg_of X G a18⟩
    f__law_rule := ⟨_, _, fun_mk (st := topS 45) l19 c19 k19, PySem.W.mg_of X G a19⟩
    f__law_near := ⟨_, _, fun_mk (st := topS 46) l20 c20 k20, PySem.W.mg_of X G a20⟩
    f__law_many := ⟨_, _, fun_mk (st := topS 47) l21 c21 k21, PySem.W.mg_of X G a21⟩
    f__law_table := ⟨_, _, fun_mk (st := topS 48) l22 c22 k22, PySem.W.mg_of X G a22⟩
    f__law_case := ⟨_, _, fun_mk (st := topS 49) l23 c23 k23, PySem.W.mg_of X G a23⟩
    f__law_held := ⟨_, _, fun_mk (st := topS 50) l24 c24 k24, PySem.W.mg_of X G a24⟩
    f__law_told := ⟨_, _, fun_mk (st := topS 51) l25 c25 k25, PySem.W.mg_of X G a25⟩
    f__law_rules := ⟨_, _, fun_mk (st := topS 52) l26 c26 k26, PySem.W.mg_of X G a26⟩
    f_law := ⟨_, _, fun_mk (st := topS 53) l27 c27 k27, PySem.W.mg_of X G a27⟩
    m_ValueError := PySem.W.mg_none_of X G z_ValueError
    m_bool := PySem.W.mg_none_of X G z_bool
    m_int := PySem.W.mg_none_of X G z_int
    m_isinstance := PySem.W.mg_none_of X G z_isinstance
    m_len := PySem.W.mg_none_of X G z_len
    m_list := PySem.W.mg_none_of X G z_list
    m_min := PySem.W.mg_none_of X G z_min
    m_range := PySem.W.mg_none_of X G z_range
    m_str := PySem.W.mg_none_of X G z_str
    m_tuple := PySem.W.mg_none_of X G z_tuple
    g_CLASH := ⟨_, PySem.W.mg_of X G g_CLASH, ⟨_, rfl⟩⟩
    g_DEED := ⟨_, PySem.W.mg_of X G g_DEED, ⟨_, rfl⟩⟩
    g_FIRST := ⟨_, PySem.W.mg_of X G g_FIRST, ⟨_, rfl⟩⟩
    g_GAP := ⟨_, PySem.W.mg_of X G g_GAP, ⟨_, rfl⟩⟩
    g_LEAST_SIZE := ⟨_, PySem.W.mg_of X G g_LEAST_SIZE, ⟨_, rfl⟩⟩
    g_MOST_CONDITIONS := ⟨_, PySem.W.mg_of X G g_MOST_CONDITIONS, ⟨_, rfl⟩⟩
    g_MOST_DEED := ⟨_, PySem.W.mg_of X G g_MOST_DEED, ⟨_, rfl⟩⟩
    g_MOST_RULES := ⟨_, PySem.W.mg_of X G g_MOST_RULES, ⟨_, rfl⟩⟩
    g_MOST_SIZE := ⟨_, PySem.W.mg_of X G g_MOST_SIZE, ⟨_, rfl⟩⟩
    g_ONE := ⟨_, PySem.W.mg_of X G g_ONE, ⟨_, rfl⟩⟩
    g_WAYS := ⟨_, PySem.W.mg_of X G g_WAYS, fun M => .tup (.inr ⟨_, _, _, o_WAYS, rfl, rfl, (by show 3 ≤ sizeLine; rw [sizeLine_eq]; decide), (.cons (show RelV (.str "one") _ from ⟨_, rfl⟩) (.cons (show RelV (.str "first") _ from ⟨_, rfl⟩) (.cons (show RelV (.str "same") _ from ⟨_, rfl⟩) .nil)))⟩) (by show 3 ≤ 1000000; decide) (.cons (gstr _ (by decide +kernel) (by decide +kernel) M) (.cons (gstr _ (by decide +kernel) (by decide +kernel) M) (.cons (gstr _ (by decide +kernel) (by decide +kernel) M) .nil)))⟩
    e_BadCase := ⟨c_BadCase, ⟨⟨_, _, _, _, PySem.F.excBase_ValueError, x_BadCase⟩, PySem.W.mg_of X G a_BadCase, kp_BadCase, sb_BadCase, ty_BadCase⟩⟩
    e_TooMany := ⟨c_TooMany, ⟨⟨_, _, _, _, PySem.F.excBase_ValueError, x_TooMany⟩, PySem.W.mg_of X G a_TooMany, kp_TooMany, sb_TooMany, ty_TooMany⟩⟩
    wt := ⟨c_CaseError, c_BadRule, c_BadCase, c_BadWay, c_BadTable, c_Unlike, c_BadTree, c_BadShares, c_BadText, c_TooMany, ⟨PySem.W.mg_of X G a_CaseError, PySem.W.mg_of X G a_BadRule, PySem.W.mg_of X G a_BadCase, PySem.W.mg_of X G a_BadWay, PySem.W.mg_of X G a_BadTable, PySem.W.mg_of X G a_Unlike, PySem.W.mg_of X G a_BadTree, PySem.W.mg_of X G a_BadShares, PySem.W.mg_of X G a_BadText, PySem.W.mg_of X G a_TooMany, ⟨⟨wg_TooMany, wk_TooMany, ws_TooMany, wd_TooMany, wa_TooMany, wn, wt, wm_TooMany⟩, PySem.W.exm_ref wcb wcd wy_CaseError wx_TooMany, (ks_cons (kit_ref wi_BadRule wy_BadRule wq_TooMany_BadRule wz_TooMany_BadRule) (by decide +kernel) (ks_cons (kit_ref wi_BadCase wy_BadCase wq_TooMany_BadCase wz_TooMany_BadCase) (by decide +kernel) (ks_cons (kit_ref wi_BadWay wy_BadWay wq_TooMany_BadWay wz_TooMany_BadWay) (by decide +kernel) (ks_cons (kit_ref wi_BadTable wy_BadTable wq_TooMany_BadTable wz_TooMany_BadTable) (by decide +kernel) (ks_cons (kit_ref wi_Unlike wy_Unlike wq_TooMany_Unlike wz_TooMany_Unlike) (by decide +kernel) (ks_cons (kit_ref wi_BadTree wy_BadTree wq_TooMany_BadTree wz_TooMany_BadTree) (by decide +kernel) (ks_cons (kit_ref wi_BadShares wy_BadShares wq_TooMany_BadShares wz_TooMany_BadShares) (by decide +kernel) (ks_cons (kit_ref wi_BadText wy_BadText wq_TooMany_BadText wz_TooMany_BadText) (by decide +kernel) (ks_cons kit_self (by decide +kernel) (ks_cons (kit_type wq_TooMany_ValueError) (by decide +kernel) ks_nil))))))))))⟩⟩⟩ }
theorem law_at {P : Program} {w : World} {K : PySem.W.Frag} {mg : Str → Option Value} {base : Heap} {f c PT : Addr} {oc : Value} {od an : Option Addr} {osl : Array (Option Value)} {kV doc pm ct : Value} (T : Tx K mg) (lk : K.lookup f = some ⟨oc, od, .func (PySem.W.fnOf "law" "law" (defArgs s_law) (defBody s_law) (defScope s_law) .none kV doc pm an (.ref c) ct), osl⟩) (hcd : PySem.W.codeIn K (.ref c) "law" = true) (TB : LamX.TabB base mg c PT) :
    FnOk P w K mg base CX0 8 f (PySem.W.fnOf "law" "law" (defArgs s_law) (defBody s_law) (defScope s_law) .none kV doc pm an (.ref c) ct) ["_law_script"] (spLawT K 63 PT) := by
  have C_is_whole := c_is_whole (P := P) (w := w) (base := base) (k := 0) T
  have C_is_want := c_is_want (P := P) (w := w) (base := base) (k := 1) T (C_is_whole.mono (by decide))
  have C_is_deed := c_is_deed (P := P) (w := w) (base := base) (k := 1) T (C_is_whole.mono (by decide))
  have C_is_rule := c_is_rule (P := P) (w := w) (base := base) (k := 2) T (C_is_want.mono (by decide)) (C_is_deed.mono (by decide))
  have C_need_table := c_need_table (P := P) (w := w) (base := base) (k := 3) T (C_is_whole.mono (by decide)) (C_is_rule.mono (by decide))
  have C_need_way := c_need_way (P := P) (w := w) (base := base) (k := 0) T
  have C_need_case := c_need_case (P := P) (w := w) (base := base) (k := 1) T (C_is_whole.mono (by decide))
  have C_holds := c_holds (P := P) (w := w) (base := base) (k := 0) T
  have C_holding := c_holding (P := P) (w := w) (base := base) (k := 1) T (C_holds.mono (by decide))
  have C_clashing := c_clashing (P := P) (w := w) (base := base) (k := 0) T
  have C_answer := c_answer (P := P) (w := w) (base := base) (k := 2) T (C_holding.mono (by decide)) (C_clashing.mono (by decide))
  have C_told := c_told (P := P) (w := w) (base := base) (k := 4) T (C_need_table.mono (by decide)) (C_need_way.mono (by decide)) (C_need_case.mono (by decide)) (C_answer.mono (by decide))
  have C_full := c_full (P := P) (w := w) (base := base) (k := 0) T
  have C_behind := c_behind (P := P) (w := w) (base := base) (k := 4) T (C_need_table.mono (by decide)) (C_is_whole.mono (by decide)) (C_full.mono (by decide))
  have C__law_taken := c__law_taken (P := P) (w := w) (base := base) (k := 0) T
  obtain ⟨_, _, F__law_alike, hm__law_alike⟩ := T.f__law_alike
  have D__law_alike_0 := callee_0 (P := P) (w := w) (base := base) (k := 0) (n := 2) F__law_alike hm__law_alike sc__law_alike (fun _ _ _ _ _ _ us hl => match us, hl with | [_, _], _ => rfl)
  have D__law_alike_1 := c__law_alike T D__law_alike_0
  have D__law_alike_2 := c__law_alike T D__law_alike_1
  have D__law_alike_3 := c__law_alike T D__law_alike_2
  have D__law_alike_4 := c__law_alike T D__law_alike_3
  have D__law_alike_5 := c__law_alike T D__law_alike_4
  have D__law_alike_6 := c__law_alike T D__law_alike_5
  have C__law_alike : Callee P w K mg base 7 "_law_alike" (spP K 2 (PC.fn__law_alike 6)) := D__law_alike_6
  have C__law_sizes := c__law_sizes (P := P) (w := w) (base := base) (k := 1) T (C__law_taken.mono (by decide))
  have C__law_want := c__law_want (P := P) (w := w) (base := base) (k := 1) T (C__law_taken.mono (by decide))
  have C__law_rule := c__law_rule (P := P) (w := w) (base := base) (k := 2) T (C__law_want.mono (by decide)) (C__law_taken.mono (by decide))
  have C__law_near := c__law_near (P := P) (w := w) (base := base) (k := 2) T (C__law_taken.mono (by decide)) (C__law_want.mono (by decide))
  have C__law_many := c__law_many (P := P) (w := w) (base := base) (k := 3) T (C__law_taken.mono (by decide)) (C__law_rule.mono (by decide))
  have C__law_table := c__law_table (P := P) (w := w) (base := base) (k := 3) T (C__law_sizes.mono (by decide)) (C__law_taken.mono (by decide)) (C__law_near.mono (by decide)) (C__law_rule.mono (by decide))
  have C__law_case := c__law_case (P := P) (w := w) (base := base) (k := 1) T (C__law_taken.mono (by decide))
  have C__law_held := c__law_held (P := P) (w := w) (base := base) (k := 0) T
  have C__law_told := c__law_told (P := P) (w := w) (base := base) (k := 1) T (C__law_held.mono (by decide))
  have C__law_rules := c__law_rules (P := P) (w := w) (base := base) (k := 0) T
  exact c_law (k := 7) T lk hcd TB (C__law_table.mono (by decide)) (C__law_taken.mono (by decide)) (C__law_many.mono (by decide)) (C__law_rules.mono (by decide)) C_behind (by decide) (C__law_alike.mono (by decide)) (C__law_case.mono (by decide)) (C__law_told.mono (by decide)) (C_told.mono (by decide)) (PC.law09_true PT)
theorem all_mk {l : PySem.W.OpenLaw} {w : World} {K : PySem.W.Frag} {h : Heap} {mg : Str → Option Value} {fa : Addr} (X : K.In h) (G : h.Ns mainGlobals mg) (hfa : mg "law" = some (.ref fa)) {f0 : Addr} {od0 an0 : Option Addr} {sl0 : Array (Option Value)} {oc0 kV0 dc0 pm0 cd0 ct0 : Value} {f1 : Addr} {od1 an1 : Option Addr} {sl1 : Array (Option Value)} {oc1 kV1 dc1 pm1 cd1 ct1 : Value} {f2 : Addr} {od2 an2 : Option Addr} {sl2 : Array (Option Value)} {oc2 kV2 dc2 pm2 cd2 ct2 : Value} {f3 : Addr} {od3 an3 : Option Addr} {sl3 : Array (Option Value)} {oc3 kV3 dc3 pm3 cd3 ct3 : Value} {f4 : Addr} {od4 an4 : Option Addr} {sl4 : Array (Option Value)} {oc4 kV4 dc4 pm4 cd4 ct4 : Value} {f5 : Addr} {od5 an5 : Option Addr} {sl5 : Array (Option Value)} {oc5 kV5 dc5 pm5 cd5 ct5 : Value} {f6 : Addr} {od6 an6 : Option Addr} {sl6 : Array (Option Value)} {oc6 kV6 dc6 pm6 cd6 ct6 : Value} {f7 : Addr} {od7 an7 : Option Addr} {sl7 : Array (Option Value)} {oc7 kV7 dc7 pm7 cd7 ct7 : Value} {f8 : Addr} {od8 an8 : Option Addr} {sl8 : Array (Option Value)} {oc8 kV8 dc8 pm8 cd8 ct8 : Value} {f9 : Addr} {od9 an9 : Option Addr} {sl9 : Array (Option Value)} {oc9 kV9 dc9 pm9 cd9 ct9 : Value} {f10 : Addr} {od10 an10 : Option Addr} {sl10 : Array (Option Value)} {oc10 kV10 dc10 pm10 cd10 ct10 : Value} {f11 : Addr} {od11 an11 : Option Addr} {sl11 : Array (Option Value)} {oc11 kV11 dc11 pm11 cd11 ct11 : Value} {f12 : Addr} {od12 an12 : Option Addr} {sl12 : Array (Option Value)} {oc12 kV12 dc12 pm12 cd12 ct12 : Value} {f13 : Addr} {od13 an13 : Option Addr} {sl13 : Array (Option Value)} {oc13 kV13 dc13 pm13 cd13 ct13 : Value} {f14 : Addr} {od14 an14 : Option Addr} {sl14 : Array (Option Value)} {oc14 kV14 dc14 pm14 cd14 ct14 : Value} {f15 : Addr} {od15 an15 : Option Addr} {sl15 : Array (Option Value)} {oc15 kV15 dc15 pm15 cd15 ct15 : Value} {f16 : Addr} {od16 an16 : Option Addr} {sl16 : Array (Option Value)} {oc16 kV16 dc16 pm16 cd16 ct16 : Value} {f17 : Addr} {od17 an17 : Option Addr} {sl17 : Array (Option Value)} {oc17 kV17 dc17 pm17 cd17 ct17 : Value} {f18 : Addr} {od18 an18 : Option Addr} {sl18 : Array (Option Value)} {oc18 kV18 dc18 pm18 cd18 ct18 : Value} {f19 : Addr} {od19 an19 : Option Addr} {sl19 : Array (Option Value)} {oc19 kV19 dc19 pm19 cd19 ct19 : Value} {f20 : Addr} {od20 an20 : Option Addr} {sl20 : Array (Option Value)} {oc20 kV20 dc20 pm20 cd20 ct20 : Value} {f21 : Addr} {od21 an21 : Option Addr} {sl21 : Array (Option Value)} {oc21 kV21 dc21 pm21 cd21 ct21 : Value} {f22 : Addr} {od22 an22 : Option Addr} {sl22 : Array (Option Value)} {oc22 kV22 dc22 pm22 cd22 ct22 : Value} {f23 : Addr} {od23 an23 : Option Addr} {sl23 : Array (Option Value)} {oc23 kV23 dc23 pm23 cd23 ct23 : Value} {f24 : Addr} {od24 an24 : Option Addr} {sl24 : Array (Option Value)} {oc24 kV24 dc24 pm24 cd24 ct24 : Value} {f25 : Addr} {od25 an25 : Option Addr} {sl25 : Array (Option Value)} {oc25 kV25 dc25 pm25 cd25 ct25 : Value} {f26 : Addr} {od26 an26 : Option Addr} {sl26 : Array (Option Value)} {oc26 kV26 dc26 pm26 cd26 ct26 : Value} {f27 : Addr} {od27 an27 : Option Addr} {sl27 : Array (Option Value)} {oc27 kV27 dc27 pm27 ct27 : Value} {t_CLASH : Tok} {t_DEED : Tok} {t_FIRST : Tok} {t_GAP : Tok} {t_LEAST_SIZE : Tok} {t_MOST_CONDITIONS : Tok} {t_MOST_DEED : Tok} {t_MOST_RULES : Tok} {t_MOST_SIZE : Tok} {t_ONE : Tok} {w_WAYS : Addr} {dd_WAYS : Option Addr} {n_WAYS : Nat} {sl_WAYS : Array (Option Value)} {t_WAYS0 t_WAYS1 t_WAYS2 : Tok} {c_BadCase : Addr} {c_TooMany : Addr} {c_CaseError : Addr} {c_BadRule : Addr} {c_BadWay : Addr} {c_BadTable : Addr} {c_Unlike : Addr} {c_BadTree : Addr} {c_BadShares : Addr} {c_BadText : Addr} {cL PT : Addr} {dC : Option Addr} {vC : Array Value} {sC : Array (Option Value)}
    (a0 : PySem.W.nsIn K mainGlobals "is_whole" = some (some (.ref f0)))
    (l0 : K.lookup f0 = some ⟨oc0, od0, .func (PySem.W.fnOf "is_whole" "is_whole" (defArgs (topS 24)) (defBody (topS 24)) (defScope (topS 24)) .none kV0 dc0 pm0 an0 cd0 ct0), sl0⟩)
    (c0 : PySem.W.codeIn K cd0 "is_whole" = true)
    (k0 : PySem.W.keepIn K (.ref f0) = true)
    (a1 : PySem.W.nsIn K mainGlobals "is_want" = some (some (.ref f1)))
    (l1 : K.lookup f1 = some ⟨oc1, od1, .func (PySem.W.fnOf "is_want" "is_want" (defArgs (topS 25)) (defBody (topS 25)) (defScope (topS 25)) .none kV1 dc1 pm1 an1 cd1 ct1), sl1⟩)
    (c1 : PySem.W.codeIn K cd1 "is_want" = true)
    (k1 : PySem.W.keepIn K (.ref f1) = true)
    (a2 : PySem.W.nsIn K mainGlobals "is_deed" = some (some (.ref f2)))
    (l2 : K.lookup f2 = some ⟨oc2, od2, .func (PySem.W.fnOf "is_deed" "is_deed" (defArgs (topS 26)) (defBody (topS 26)) (defScope (topS 26)) .none kV2 dc2 pm2 an2 cd2 ct2), sl2⟩)
    (c2 : PySem.W.codeIn K cd2 "is_deed" = true)
    (k2 : PySem.W.keepIn K (.ref f2) = true)
    (a3 : PySem.W.nsIn K mainGlobals "is_rule" = some (some (.ref f3)))
    (l3 : K.lookup f3 = some ⟨oc3, od3, .func (PySem.W.fnOf "is_rule" "is_rule" (defArgs (topS 27)) (defBody (topS 27)) (defScope (topS 27)) .none kV3 dc3 pm3 an3 cd3 ct3), sl3⟩)
    (c3 : PySem.W.codeIn K cd3 "is_rule" = true)
    (k3 : PySem.W.keepIn K (.ref f3) = true)
    (a4 : PySem.W.nsIn K mainGlobals "need_table" = some (some (.ref f4)))
    (l4 : K.lookup f4 = some ⟨oc4, od4, .func (PySem.W.fnOf "need_table" "need_table" (defArgs (topS 28)) (defBody (topS 28)) (defScope (topS 28)) .none kV4 dc4 pm4 an4 cd4 ct4), sl4⟩)
    (c4 : PySem.W.codeIn K cd4 "need_table" = true)
    (k4 : PySem.W.keepIn K (.ref f4) = true)
    (a5 : PySem.W.nsIn K mainGlobals "need_way" = some (some (.ref f5)))
    (l5 : K.lookup f5 = some ⟨oc5, od5, .func (PySem.W.fnOf "need_way" "need_way" (defArgs (topS 29)) (defBody (topS 29)) (defScope (topS 29)) .none kV5 dc5 pm5 an5 cd5 ct5), sl5⟩)
    (c5 : PySem.W.codeIn K cd5 "need_way" = true)
    (k5 : PySem.W.keepIn K (.ref f5) = true)
    (a6 : PySem.W.nsIn K mainGlobals "need_case" = some (some (.ref f6)))
    (l6 : K.lookup f6 = some ⟨oc6, od6, .func (PySem.W.fnOf "need_case" "need_case" (defArgs (topS 30)) (defBody (topS 30)) (defScope (topS 30)) .none kV6 dc6 pm6 an6 cd6 ct6), sl6⟩)
    (c6 : PySem.W.codeIn K cd6 "need_case" = true)
    (k6 : PySem.W.keepIn K (.ref f6) = true)
    (a7 : PySem.W.nsIn K mainGlobals "holds" = some (some (.ref f7)))
    (l7 : K.lookup f7 = some ⟨oc7, od7, .func (PySem.W.fnOf "holds" "holds" (defArgs (topS 31)) (defBody (topS 31)) (defScope (topS 31)) .none kV7 dc7 pm7 an7 cd7 ct7), sl7⟩)
    (c7 : PySem.W.codeIn K cd7 "holds" = true)
    (k7 : PySem.W.keepIn K (.ref f7) = true)
    (a8 : PySem.W.nsIn K mainGlobals "holding" = some (some (.ref f8)))
    (l8 : K.lookup f8 = some ⟨oc8, od8, .func (PySem.W.fnOf "holding" "holding" (defArgs (topS 32)) (defBody (topS 32)) (defScope (topS 32)) .none kV8 dc8 pm8 an8 cd8 ct8), sl8⟩)
    (c8 : PySem.W.codeIn K cd8 "holding" = true)
    (k8 : PySem.W.keepIn K (.ref f8) = true)
    (a9 : PySem.W.nsIn K mainGlobals "clashing" = some (some (.ref f9)))
    (l9 : K.lookup f9 = some ⟨oc9, od9, .func (PySem.W.fnOf "clashing" "clashing" (defArgs (topS 33)) (defBody (topS 33)) (defScope (topS 33)) .none kV9 dc9 pm9 an9 cd9 ct9), sl9⟩)
    (c9 : PySem.W.codeIn K cd9 "clashing" = true)
    (k9 : PySem.W.keepIn K (.ref f9) = true)
    (a10 : PySem.W.nsIn K mainGlobals "answer" = some (some (.ref f10)))
    (l10 : K.lookup f10 = some ⟨oc10, od10, .func (PySem.W.fnOf "answer" "answer" (defArgs (topS 35)) (defBody (topS 35)) (defScope (topS 35)) .none kV10 dc10 pm10 an10 cd10 ct10), sl10⟩)
    (c10 : PySem.W.codeIn K cd10 "answer" = true)
    (k10 : PySem.W.keepIn K (.ref f10) = true)
    (a11 : PySem.W.nsIn K mainGlobals "told" = some (some (.ref f11)))
    (l11 : K.lookup f11 = some ⟨oc11, od11, .func (PySem.W.fnOf "told" "told" (defArgs (topS 34)) (defBody (topS 34)) (defScope (topS 34)) .none kV11 dc11 pm11 an11 cd11 ct11), sl11⟩)
    (c11 : PySem.W.codeIn K cd11 "told" = true)
    (k11 : PySem.W.keepIn K (.ref f11) = true)
    (a12 : PySem.W.nsIn K mainGlobals "full" = some (some (.ref f12)))
    (l12 : K.lookup f12 = some ⟨oc12, od12, .func (PySem.W.fnOf "full" "full" (defArgs (topS 37)) (defBody (topS 37)) (defScope (topS 37)) .none kV12 dc12 pm12 an12 cd12 ct12), sl12⟩)
    (c12 : PySem.W.codeIn K cd12 "full" = true)
    (k12 : PySem.W.keepIn K (.ref f12) = true)
    (a13 : PySem.W.nsIn K mainGlobals "behind" = some (some (.ref f13)))
    (l13 : K.lookup f13 = some ⟨oc13, od13, .func (PySem.W.fnOf "behind" "behind" (defArgs (topS 38)) (defBody (topS 38)) (defScope (topS 38)) .none kV13 dc13 pm13 an13 cd13 ct13), sl13⟩)
    (c13 : PySem.W.codeIn K cd13 "behind" = true)
    (k13 : PySem.W.keepIn K (.ref f13) = true)
    (a14 : PySem.W.nsIn K mainGlobals "_law_taken" = some (some (.ref f14)))
    (l14 : K.lookup f14 = some ⟨oc14, od14, .func (PySem.W.fnOf "_law_taken" "_law_taken" (defArgs (topS 40)) (defBody (topS 40)) (defScope (topS 40)) .none kV14 dc14 pm14 an14 cd14 ct14), sl14⟩)
    (c14 : PySem.W.codeIn K cd14 "_law_taken" = true)
    (k14 : PySem.W.keepIn K (.ref f14) = true)
    (a15 : PySem.W.nsIn K mainGlobals "_law_alike" = some (some (.ref f15)))
    (l15 : K.lookup f15 = some ⟨oc15, od15, .func (PySem.W.fnOf "_law_alike" "_law_alike" (defArgs (topS 41)) (defBody (topS 41)) (defScope (topS 41)) .none kV15 dc15 pm15 an15 cd15 ct15), sl15⟩)
    (c15 : PySem.W.codeIn K cd15 "_law_alike" = true)
    (k15 : PySem.W.keepIn K (.ref f15) = true)
    (a16 : PySem.W.nsIn K mainGlobals "_law_word" = some (some (.ref f16)))
    (l16 : K.lookup f16 = some ⟨oc16, od16, .func (PySem.W.fnOf "_law_word" "_law_word" (defArgs (topS 42)) (defBody (topS 42)) (defScope (topS 42)) .none kV16 dc16 pm16 an16 cd16 ct16), sl16⟩)
    (c16 : PySem.W.codeIn K cd16 "_law_word" = true)
    (k16 : PySem.W.keepIn K (.ref f16) = true)
    (a17 : PySem.W.nsIn K mainGlobals "_law_sizes" = some (some (.ref f17)))
    (l17 : K.lookup f17 = some ⟨oc17, od17, .func (PySem.W.fnOf "_law_sizes" "_law_sizes" (defArgs (topS 43)) (defBody (topS 43)) (defScope (topS 43)) .none kV17 dc17 pm17 an17 cd17 ct17), sl17⟩)
    (c17 : PySem.W.codeIn K cd17 "_law_sizes" = true)
    (k17 : PySem.W.keepIn K (.ref f17) = true)
    (a18 : PySem.W.nsIn K mainGlobals "_law_want" = some (some (.ref f18)))
    (l18 : K.lookup f18 = some ⟨oc18, od18, .func (PySem.W.fnOf "_law_want" "_law_want" (defArgs (topS 44)) (defBody (topS 44)) (defScope (topS 44)) .none kV18 dc18 pm18 an18 cd18 ct18), sl18⟩)
    (c18 : PySem.W.codeIn K cd18 "_law_want" = true)
    (k18 : PySem.W.keepIn K (.ref f18) = true)
    (a19 : PySem.W.nsIn K mainGlobals "_law_rule" = some (some (.ref f19)))
    (l19 : K.lookup f19 = some ⟨oc19, od19, .func (PySem.W.fnOf "_law_rule" "_law_rule" (defArgs (topS 45)) (defBody (topS 45)) (defScope (topS 45)) .none kV19 dc19 pm19 an19 cd19 ct19), sl19⟩)
    (c19 : PySem.W.codeIn K cd19 "_law_rule" = true)
    (k19 : PySem.W.keepIn K (.ref f19) = true)
    (a20 : PySem.W.nsIn K mainGlobals "_law_near" = some (some (.ref f20)))
    (l20 : K.lookup f20 = some ⟨oc20, od20, .func (PySem.W.fnOf "_law_near" "_law_near" (defArgs (topS 46)) (defBody (topS 46)) (defScope (topS 46)) .none kV20 dc20 pm20 an20 cd20 ct20), sl20⟩)
    (c20 : PySem.W.codeIn K cd20 "_law_near" = true)
    (k20 : PySem.W.keepIn K (.ref f20) = true)
    (a21 : PySem.W.nsIn K mainGlobals "_law_many" = some (some (.ref f21)))
    (l21 : K.lookup f21 = some ⟨oc21, od21, .func (PySem.W.fnOf "_law_many" "_law_many" (defArgs (topS 47)) (defBody (topS 47)) (defScope (topS 47)) .none kV21 dc21 pm21 an21 cd21 ct21), sl21⟩)
    (c21 : PySem.W.codeIn K cd21 "_law_many" = true)
    (k21 : PySem.W.keepIn K (.ref f21) = true)
    (a22 : PySem.W.nsIn K mainGlobals "_law_table" = some (some (.ref f22)))
    (l22 : K.lookup f22 = some ⟨oc22, od22, .func (PySem.W.fnOf "_law_table" "_law_table" (defArgs (topS 48)) (defBody (topS 48)) (defScope (topS 48)) .none kV22 dc22 pm22 an22 cd22 ct22), sl22⟩)
    (c22 : PySem.W.codeIn K cd22 "_law_table" = true)
    (k22 : PySem.W.keepIn K (.ref f22) = true)
    (a23 : PySem.W.nsIn K mainGlobals "_law_case" = some (some (.ref f23)))
    (l23 : K.lookup f23 = some ⟨oc23, od23, .func (PySem.W.fnOf "_law_case" "_law_case" (defArgs (topS 49)) (defBody (topS 49)) (defScope (topS 49)) .none kV23 dc23 pm23 an23 cd23 ct23), sl23⟩)
    (c23 : PySem.W.codeIn K cd23 "_law_case" = true)
    (k23 : PySem.W.keepIn K (.ref f23) = true)
    (a24 : PySem.W.nsIn K mainGlobals "_law_held" = some (some (.ref f24)))
    (l24 : K.lookup f24 = some ⟨oc24, od24, .func (PySem.W.fnOf "_law_held" "_law_held" (defArgs (topS 50)) (defBody (topS 50)) (defScope (topS 50)) .none kV24 dc24 pm24 an24 cd24 ct24), sl24⟩)
    (c24 : PySem.W.codeIn K cd24 "_law_held" = true)
    (k24 : PySem.W.keepIn K (.ref f24) = true)
    (a25 : PySem.W.nsIn K mainGlobals "_law_told" = some (some (.ref f25)))
    (l25 : K.lookup f25 = some ⟨oc25, od25, .func (PySem.W.fnOf "_law_told" "_law_told" (defArgs (topS 51)) (defBody (topS 51)) (defScope (topS 51)) .none kV25 dc25 pm25 an25 cd25 ct25), sl25⟩)
    (c25 : PySem.W.codeIn K cd25 "_law_told" = true)
    (k25 : PySem.W.keepIn K (.ref f25) = true)
    (a26 : PySem.W.nsIn K mainGlobals "_law_rules" = some (some (.ref f26)))
    (l26 : K.lookup f26 = some ⟨oc26, od26, .func (PySem.W.fnOf "_law_rules" "_law_rules" (defArgs (topS 52)) (defBody (topS 52)) (defScope (topS 52)) .none kV26 dc26 pm26 an26 cd26 ct26), sl26⟩)
    (c26 : PySem.W.codeIn K cd26 "_law_rules" = true)
    (k26 : PySem.W.keepIn K (.ref f26) = true)
    (a27 : PySem.W.nsIn K mainGlobals "law" = some (some (.ref f27)))
    (l27 : K.lookup f27 = some ⟨oc27, od27, .func (PySem.W.fnOf "law" "law" (defArgs (topS 53)) (defBody (topS 53)) (defScope (topS 53)) .none kV27 dc27 pm27 an27 (.ref cL) ct27), sl27⟩)
    (c27 : PySem.W.codeIn K (.ref cL) "law" = true)
    (k27 : PySem.W.keepIn K (.ref f27) = true)
    (z_ValueError : PySem.W.nsIn K mainGlobals "ValueError" = some none)
    (z_bool : PySem.W.nsIn K mainGlobals "bool" = some none)
    (z_int : PySem.W.nsIn K mainGlobals "int" = some none)
    (z_isinstance : PySem.W.nsIn K mainGlobals "isinstance" = some none)
    (z_len : PySem.W.nsIn K mainGlobals "len" = some none)
    (z_list : PySem.W.nsIn K mainGlobals "list" = some none)
    (z_min : PySem.W.nsIn K mainGlobals "min" = some none)
    (z_range : PySem.W.nsIn K mainGlobals "range" = some none)
    (z_str : PySem.W.nsIn K mainGlobals "str" = some none)
    (z_tuple : PySem.W.nsIn K mainGlobals "tuple" = some none)
    (g_CLASH : PySem.W.nsIn K mainGlobals "CLASH" = some (some (.str "clash" t_CLASH)))
    (g_DEED : PySem.W.nsIn K mainGlobals "DEED" = some (some (.str "deed" t_DEED)))
    (g_FIRST : PySem.W.nsIn K mainGlobals "FIRST" = some (some (.str "first" t_FIRST)))
    (g_GAP : PySem.W.nsIn K mainGlobals "GAP" = some (some (.str "gap" t_GAP)))
    (g_LEAST_SIZE : PySem.W.nsIn K mainGlobals "LEAST_SIZE" = some (some (.int 2 t_LEAST_SIZE)))
    (g_MOST_CONDITIONS : PySem.W.nsIn K mainGlobals "MOST_CONDITIONS" = some (some (.int 5 t_MOST_CONDITIONS)))
    (g_MOST_DEED : PySem.W.nsIn K mainGlobals "MOST_DEED" = some (some (.int 9 t_MOST_DEED)))
    (g_MOST_RULES : PySem.W.nsIn K mainGlobals "MOST_RULES" = some (some (.int 40 t_MOST_RULES)))
    (g_MOST_SIZE : PySem.W.nsIn K mainGlobals "MOST_SIZE" = some (some (.int 4 t_MOST_SIZE)))
    (g_ONE : PySem.W.nsIn K mainGlobals "ONE" = some (some (.str "one" t_ONE)))
    (g_WAYS : PySem.W.nsIn K mainGlobals "WAYS" = some (some (.ref w_WAYS)))
    (o_WAYS : K.lookup w_WAYS = some ⟨.type "tuple", dd_WAYS, .seq #[.str "one" t_WAYS0, .str "first" t_WAYS1, .str "same" t_WAYS2] n_WAYS, sl_WAYS⟩)
    (a_BadCase : PySem.W.nsIn K mainGlobals "BadCase" = some (some (.ref c_BadCase)))
    (a_TooMany : PySem.W.nsIn K mainGlobals "TooMany" = some (some (.ref c_TooMany)))
    (a_CaseError : PySem.W.nsIn K mainGlobals "CaseError" = some (some (.ref c_CaseError)))
    (a_BadRule : PySem.W.nsIn K mainGlobals "BadRule" = some (some (.ref c_BadRule)))
    (a_BadWay : PySem.W.nsIn K mainGlobals "BadWay" = some (some (.ref c_BadWay)))
    (a_BadTable : PySem.W.nsIn K mainGlobals "BadTable" = some (some (.ref c_BadTable)))
    (a_Unlike : PySem.W.nsIn K mainGlobals "Unlike" = some (some (.ref c_Unlike)))
    (a_BadTree : PySem.W.nsIn K mainGlobals "BadTree" = some (some (.ref c_BadTree)))
    (a_BadShares : PySem.W.nsIn K mainGlobals "BadShares" = some (some (.ref c_BadShares)))
    (a_BadText : PySem.W.nsIn K mainGlobals "BadText" = some (some (.ref c_BadText)))
    (x_BadCase : PySem.W.excIn K c_BadCase [.type "ValueError", .type "Exception", .type "BaseException", .type "object"] "ValueError.__new__" = true)
    (kp_BadCase : PySem.W.keepIn K (.ref c_BadCase) = true)
    (sb_BadCase : PySem.W.subIn K (.ref c_BadCase) (.type "BaseException") = some true)
    (ty_BadCase : PySem.W.typeIn K (.ref c_BadCase) = some (.type "type"))
    (x_TooMany : PySem.W.excIn K c_TooMany [.type "ValueError", .type "Exception", .type "BaseException", .type "object"] "ValueError.__new__" = true)
    (kp_TooMany : PySem.W.keepIn K (.ref c_TooMany) = true)
    (sb_TooMany : PySem.W.subIn K (.ref c_TooMany) (.type "BaseException") = some true)
    (ty_TooMany : PySem.W.typeIn K (.ref c_TooMany) = some (.type "type"))
    (wn : PySem.W.specialIn K (.builtin "object.__class__") "__get__" = some (some (.builtin "getset_descriptor.__get__")))
    (wt : PySem.W.takesIn K (.builtin "object.__class__") = some true)
    (wi_CaseError : PySem.W.isClsIn K c_CaseError = true)
    (wy_CaseError : PySem.W.typeIn K (.ref c_CaseError) = some (.type "type"))
    (wi_BadRule : PySem.W.isClsIn K c_BadRule = true)
    (wy_BadRule : PySem.W.typeIn K (.ref c_BadRule) = some (.type "type"))
    (wi_BadCase : PySem.W.isClsIn K c_BadCase = true)
    (wy_BadCase : PySem.W.typeIn K (.ref c_BadCase) = some (.type "type"))
    (wi_BadWay : PySem.W.isClsIn K c_BadWay = true)
    (wy_BadWay : PySem.W.typeIn K (.ref c_BadWay) = some (.type "type"))
    (wi_BadTable : PySem.W.isClsIn K c_BadTable = true)
    (wy_BadTable : PySem.W.typeIn K (.ref c_BadTable) = some (.type "type"))
    (wi_Unlike : PySem.W.isClsIn K c_Unlike = true)
    (wy_Unlike : PySem.W.typeIn K (.ref c_Unlike) = some (.type "type"))
    (wi_BadTree : PySem.W.isClsIn K c_BadTree = true)
    (wy_BadTree : PySem.W.typeIn K (.ref c_BadTree) = some (.type "type"))
    (wi_BadShares : PySem.W.isClsIn K c_BadShares = true)
    (wy_BadShares : PySem.W.typeIn K (.ref c_BadShares) = some (.type "type"))
    (wi_BadText : PySem.W.isClsIn K c_BadText = true)
    (wy_BadText : PySem.W.typeIn K (.ref c_BadText) = some (.type "type"))
    (wi_TooMany : PySem.W.isClsIn K c_TooMany = true)
    (wy_TooMany : PySem.W.typeIn K (.ref c_TooMany) = some (.type "type"))
    (wcb : PySem.W.subIn K (.ref c_CaseError) (.type "BaseException") = some true)
    (wcd : PySem.W.hasDictIn K c_CaseError = true)
    (wg_TooMany : PySem.W.findIn K (.ref c_TooMany) "__getattribute__" = some (some (.builtin "BaseException.__getattribute__")))
    (wk_TooMany : PySem.W.findIn K (.ref c_TooMany) "__getattr__" = some none)
    (ws_TooMany : PySem.W.subIn K (.ref c_TooMany) (.type "BaseException") = some true)
    (wd_TooMany : PySem.W.hasDictIn K c_TooMany = true)
    (wa_TooMany : PySem.W.findIn K (.ref c_TooMany) "__class__" = some (some (.builtin "object.__class__")))
    (wm_TooMany : PySem.W.mroIn K c_TooMany (.type "object") = some true)
    (wx_TooMany : PySem.W.subIn K (.ref c_TooMany) (.ref c_CaseError) = some true)
    (wq_TooMany_ValueError : PySem.W.subIn K (.ref c_TooMany) (.type "ValueError") = some true)
    (wq_TooMany_BadText : PySem.W.subIn K (.ref c_TooMany) (.ref c_BadText) = some false)
    (wz_TooMany_BadText : c_TooMany ≠ c_BadText)
    (wq_TooMany_BadShares : PySem.W.subIn K (.ref c_TooMany) (.ref c_BadShares) = some false)
    (wz_TooMany_BadShares : c_TooMany ≠ c_BadShares)
    (wq_TooMany_BadTree : PySem.W.subIn K (.ref c_TooMany) (.ref c_BadTree) = some false)
    (wz_TooMany_BadTree : c_TooMany ≠ c_BadTree)
    (wq_TooMany_Unlike : PySem.W.subIn K (.ref c_TooMany) (.ref c_Unlike) = some false)
    (wz_TooMany_Unlike : c_TooMany ≠ c_Unlike)
    (wq_TooMany_BadTable : PySem.W.subIn K (.ref c_TooMany) (.ref c_BadTable) = some false)
    (wz_TooMany_BadTable : c_TooMany ≠ c_BadTable)
    (wq_TooMany_BadWay : PySem.W.subIn K (.ref c_TooMany) (.ref c_BadWay) = some false)
    (wz_TooMany_BadWay : c_TooMany ≠ c_BadWay)
    (wq_TooMany_BadCase : PySem.W.subIn K (.ref c_TooMany) (.ref c_BadCase) = some false)
    (wz_TooMany_BadCase : c_TooMany ≠ c_BadCase)
    (wq_TooMany_BadRule : PySem.W.subIn K (.ref c_TooMany) (.ref c_BadRule) = some false)
    (wz_TooMany_BadRule : c_TooMany ≠ c_BadRule)
    (lc : K.lookup cL = some ⟨.type "code", dC, .fields vC, sC⟩)
    (pc : vC[11]? = some (.ref PT))
    (own : h.get? PT = some { cls := .none, data := .fields #[] })
    (hcodh : codeB vC PT cL = true)
    (np : K.lookup PT = none) :
    LamX.LawAtS l w K CX0 8 63 "_law_script" mg fa h := by
  have T : Tx K mg := tx_of X G a0 l0 c0 k0 a1 l1 c1 k1 a2 l2 c2 k2 a3 l3 c3 k3 a4 l4 c4 k4 a5 l5 c5 k5 a6 l6 c6 k6 a7 l7 c7 k7 a8 l8 c8 k8 a9 l9 c9 k9 a10 l10 c10 k10 a11 l11 c11 k11 a12 l12 c12 k12 a13 l13 c13 k13 a14 l14 c14 k14 a15 l15 c15 k15 a16 l16 c16 k16 a17 l17 c17 k17 a18 l18 c18 k18 a19 l19 c19 k19 a20 l20 c20 k20 a21 l21 c21 k21 a22 l22 c22 k22 a23 l23 c23 k23 a24 l24 c24 k24 a25 l25 c25 k25 a26 l26 c26 k26 a27 l27 c27 k27 z_ValueError z_bool z_int z_isinstance z_len z_list z_min z_range z_str z_tuple g_CLASH g_DEED g_FIRST g_GAP g_LEAST_SIZE g_MOST_CONDITIONS g_MOST_DEED g_MOST_RULES g_MOST_SIZE g_ONE g_WAYS o_WAYS a_BadCase a_TooMany a_CaseError a_BadRule a_BadWay a_BadTable a_Unlike a_BadTree a_BadShares a_BadText x_BadCase kp_BadCase sb_BadCase ty_BadCase x_TooMany kp_TooMany sb_TooMany ty_TooMany wn wt wi_CaseError wy_CaseError wi_BadRule wy_BadRule wi_BadCase wy_BadCase wi_BadWay wy_BadWay wi_BadTable wy_BadTable wi_Unlike wy_Unlike wi_BadTree wy_BadTree wi_BadShares wy_BadShares wi_BadText wy_BadText wi_TooMany wy_TooMany wcb wcd wg_TooMany wk_TooMany ws_TooMany wd_TooMany wa_TooMany wm_TooMany wx_TooMany wq_TooMany_ValueError wq_TooMany_BadText wz_TooMany_BadText wq_TooMany_BadShares wz_TooMany_BadShares wq_TooMany_BadTree wz_TooMany_BadTree wq_TooMany_Unlike wz_TooMany_Unlike wq_TooMany_BadTable wz_TooMany_BadTable wq_TooMany_BadWay wz_TooMany_BadWay wq_TooMany_BadCase wz_TooMany_BadCase wq_TooMany_BadRule wz_TooMany_BadRule lc pc hcodh np
  have e := hfa.symm.trans (PySem.W.mg_of X G a27)
  cases e
  refine ⟨_, [(cL, PT)], spLawT K 63 PT, fun p hp => ?_, fun p hp => ?_, fun p hp => ?_, fun s v => .of_eq rfl, fun H a ns hl _ hT hS => ⟨a, ns, rfl, hT _ (List.mem_singleton.mpr rfl), hS, hl, fun _ => rfl⟩, fun base _ _ TB => law_at T l27 c27 (TB _ (List.mem_singleton.mpr rfl))⟩
  · cases List.mem_singleton.mp hp; exact own
  · cases List.mem_singleton.mp hp; exact np
  · cases List.mem_singleton.mp hp; exact PySem.W.codeHd_of_K X (codeHd_of lc hcodh)
end K09
open PySem PySem.W PyProof.Rows
set_option maxHeartbeats 0 in
theorem PySem.Challenge.cw_casetables_k09_behind_one_another_holds : PySem.Challenge.rw_casetables_k09_behind_one_another.Holds := by
  w_on; o_law; k_head; (case hw => w_witness2)
  k_fill
  refine LamX.walk_ofTs (l := PySem.Challenge.rw_casetables_k09_behind_one_another) (n := 63) (k := 8) (x := "_law_script") (CX := fun _ => L2.CX0) rfl (by decide) rfl ⟨rfl, by decide, by decide⟩ (fun w h Y => PySem.W.km_in_of Y) ?F (fun _ _ _ _ _ h => h)
  case F =>
    intro w mg fa h Y KX G hmg
    refine' K09.all_mk KX G hmg ?a0 ?l0 ?c0 ?k0 ?a1 ?l1 ?c1 ?k1 ?a2 ?l2 ?c2 ?k2 ?a3 ?l3 ?c3 ?k3 ?a4 ?l4 ?c4 ?k4 ?a5 ?l5 ?c5 ?k5 ?a6 ?l6 ?c6 ?k6 ?a7 ?l7 ?c7 ?k7 ?a8 ?l8 ?c8 ?k8 ?a9 ?l9 ?c9 ?k9 ?a10 ?l10 ?c10 ?k10 ?a11 ?l11 ?c11 ?k11 ?a12 ?l12 ?c12 ?k12 ?a13 ?l13 ?c13 ?k13 ?a14 ?l14 ?c14 ?k14 ?a15 ?l15 ?c15 ?k15 ?a16 ?l16 ?c16 ?k16 ?a17 ?l17 ?c17 ?k17 ?a18 ?l18 ?c18 ?k18 ?a19 ?l19 ?c19 ?k19 ?a20 ?l20 ?c20 ?k20 ?a21 ?l21 ?c21 ?k21 ?a22 ?l22 ?c22 ?k22 ?a23 ?l23 ?c23 ?k23 ?a24 ?l24 ?c24 ?k24 ?a25 ?l25 ?c25 ?k25 ?a26 ?l26 ?c26 ?k26 ?a27 ?l27 ?c27 ?k27 ?z_ValueError ?z_bool ?z_int ?z_isinstance ?z_len ?z_list ?z_min ?z_range ?z_str ?z_tuple ?g_CLASH ?g_DEED ?g_FIRST ?g_GAP ?g_LEAST_SIZE ?g_MOST_CONDITIONS ?g_MOST_DEED ?g_MOST_RULES ?g_MOST_SIZE ?g_ONE ?g_WAYS ?o_WAYS ?a_BadCase ?a_TooMany ?a_CaseError ?a_BadRule ?a_BadWay ?a_BadTable ?a_Unlike ?a_BadTree ?a_BadShares ?a_BadText ?x_BadCase ?kp_BadCase ?sb_BadCase ?ty_BadCase ?x_TooMany ?kp_TooMany ?sb_TooMany ?ty_TooMany ?wn ?wt ?wi_CaseError ?wy_CaseError ?wi_BadRule ?wy_BadRule ?wi_BadCase ?wy_BadCase ?wi_BadWay ?wy_BadWay ?wi_BadTable ?wy_BadTable ?wi_Unlike ?wy_Unlike ?wi_BadTree ?wy_BadTree ?wi_BadShares ?wy_BadShares ?wi_BadText ?wy_BadText ?wi_TooMany ?wy_TooMany ?wcb ?wcd ?wg_TooMany ?wk_TooMany ?ws_TooMany ?wd_TooMany ?wa_TooMany ?wm_TooMany ?wx_TooMany ?wq_TooMany_ValueError ?wq_TooMany_BadText ?wz_TooMany_BadText ?wq_TooMany_BadShares ?wz_TooMany_BadShares ?wq_TooMany_BadTree ?wz_TooMany_BadTree ?wq_TooMany_Unlike ?wz_TooMany_Unlike ?wq_TooMany_BadTable ?wz_TooMany_BadTable ?wq_TooMany_BadWay ?wz_TooMany_BadWay ?wq_TooMany_BadCase ?wz_TooMany_BadCase ?wq_TooMany_BadRule ?wz_TooMany_BadRule ?lc ?pc ?own ?hcodh ?np
    (case a0 => k_is)
    (case l0 => k_is)
    (case c0 => k_is)
    (case k0 => k_is)
    (case a1 => k_is)
    (case l1 => k_is)
    (case c1 => k_is)
    (case k1 => k_is)
    (case a2 => k_is)
    (case l2 => k_is)
    (case c2 => k_is)
    (case k2 => k_is)
    (case a3 => k_is)
    (case l3 => k_is)
    (case c3 => k_is)
    (case k3 => k_is)
    (case a4 => k_is)
    (case l4 => k_is)
    (case c4 => k_is)
    (case k4 => k_is)
    (case a5 => k_is)
    (case l5 => k_is)
    (case c5 => k_is)
    (case k5 => k_is)
    (case a6 => k_is)
    (case l6 => k_is)
    (case c6 => k_is)
    (case k6 => k_is)
    (case a7 => k_is)
    (case l7 => k_is)
    (case c7 => k_is)
    (case k7 => k_is)
    (case a8 => k_is)
    (case l8 => k_is)
    (case c8 => k_is)
    (case k8 => k_is)
    (case a9 => k_is)
    (case l9 => k_is)
    (case c9 => k_is)
    (case k9 => k_is)
    (case a10 => k_is)
    (case l10 => k_is)
    (case c10 => k_is)
    (case k10 => k_is)
    (case a11 => k_is)
    (case l11 => k_is)
    (case c11 => k_is)
    (case k11 => k_is)
    (case a12 => k_is)
    (case l12 => k_is)
    (case c12 => k_is)
    (case k12 => k_is)
    (case a13 => k_is)
    (case l13 => k_is)
    (case c13 => k_is)
    (case k13 => k_is)
    (case a14 => k_is)
    (case l14 => k_is)
    (case c14 => k_is)
    (case k14 => k_is)
    (case a15 => k_is)
    (case l15 => k_is)
    (case c15 => k_is)
    (case k15 => k_is)
    (case a16 => k_is)
    (case l16 => k_is)
    (case c16 => k_is)
    (case k16 => k_is)
    (case a17 => k_is)
    (case l17 => k_is)
    (case c17 => k_is)
    (case k17 => k_is)
    (case a18 => k_is)
    (case l18 => k_is)
    (case c18 => k_is)
    (case k18 => k_is)
    (case a19 => k_is)
    (case l19 => k_is)
    (case c19 => k_is)
    (case k19 => k_is)
    (case a20 => k_is)
    (case l20 => k_is)
    (case c20 => k_is)
    (case k20 => k_is)
    (case a21 => k_is)
    (case l21 => k_is)
    (case c21 => k_is)
    (case k21 => k_is)
    (case a22 => k_is)
    (case l22 => k_is)
    (case c22 => k_is)
    (case k22 => k_is)
    (case a23 => k_is)
    (case l23 => k_is)
    (case c23 => k_is)
    (case k23 => k_is)
    (case a24 => k_is)
    (case l24 => k_is)
    (case c24 => k_is)
    (case k24 => k_is)
    (case a25 => k_is)
    (case l25 => k_is)
    (case c25 => k_is)
    (case k25 => k_is)
    (case a26 => k_is)
    (case l26 => k_is)
    (case c26 => k_is)
    (case k26 => k_is)
    (case a27 => k_is)
    (case l27 => k_is)
    (case c27 => k_is)
    (case k27 => k_is)
    (case z_ValueError => k_is)
    (case z_bool => k_is)
    (case z_int => k_is)
    (case z_isinstance => k_is)
    (case z_len => k_is)
    (case z_list => k_is)
    (case z_min => k_is)
    (case z_range => k_is)
    (case z_str => k_is)
    (case z_tuple => k_is)
    (case g_CLASH => k_is)
    (case g_DEED => k_is)
    (case g_FIRST => k_is)
    (case g_GAP => k_is)
    (case g_LEAST_SIZE => k_is)
    (case g_MOST_CONDITIONS => k_is)
    (case g_MOST_DEED => k_is)
    (case g_MOST_RULES => k_is)
    (case g_MOST_SIZE => k_is)
    (case g_ONE => k_is)
    (case g_WAYS => k_is)
    (case o_WAYS => k_is)
    (case a_BadCase => k_is)
    (case a_TooMany => k_is)
    (case a_CaseError => k_is)
    (case a_BadRule => k_is)
    (case a_BadWay => k_is)
    (case a_BadTable => k_is)
    (case a_Unlike => k_is)
    (case a_BadTree => k_is)
    (case a_BadShares => k_is)
    (case a_BadText => k_is)
    (case x_BadCase => k_exc)
    (case kp_BadCase => k_is)
    (case sb_BadCase => k_is)
    (case ty_BadCase => k_is)
    (case x_TooMany => k_exc)
    (case kp_TooMany => k_is)
    (case sb_TooMany => k_is)
    (case ty_TooMany => k_is)
    (case wn => k_is)
    (case wt => k_is)
    (case wi_CaseError => k_is)
    (case wy_CaseError => k_is)
    (case wi_BadRule => k_is)
    (case wy_BadRule => k_is)
    (case wi_BadCase => k_is)
    (case wy_BadCase => k_is)
    (case wi_BadWay => k_is)
    (case wy_BadWay => k_is)
    (case wi_BadTable => k_is)
    (case wy_BadTable => k_is)
    (case wi_Unlike => k_is)
    (case wy_Unlike => k_is)
    (case wi_BadTree => k_is)
    (case wy_BadTree => k_is)
    (case wi_BadShares => k_is)
    (case wy_BadShares => k_is)
    (case wi_BadText => k_is)
    (case wy_BadText => k_is)
    (case wi_TooMany => k_is)
    (case wy_TooMany => k_is)
    (case wcb => k_is)
    (case wcd => k_is)
    (case wg_TooMany => k_is)
    (case wk_TooMany => k_is)
    (case ws_TooMany => k_is)
    (case wd_TooMany => k_is)
    (case wa_TooMany => k_is)
    (case wm_TooMany => k_is)
    (case wx_TooMany => k_is)
    (case wq_TooMany_ValueError => k_is)
    (case wq_TooMany_BadText => k_is)
    (case wz_TooMany_BadText => decide)
    (case wq_TooMany_BadShares => k_is)
    (case wz_TooMany_BadShares => decide)
    (case wq_TooMany_BadTree => k_is)
    (case wz_TooMany_BadTree => decide)
    (case wq_TooMany_Unlike => k_is)
    (case wz_TooMany_Unlike => decide)
    (case wq_TooMany_BadTable => k_is)
    (case wz_TooMany_BadTable => decide)
    (case wq_TooMany_BadWay => k_is)
    (case wz_TooMany_BadWay => decide)
    (case wq_TooMany_BadCase => k_is)
    (case wz_TooMany_BadCase => decide)
    (case wq_TooMany_BadRule => k_is)
    (case wz_TooMany_BadRule => decide)
    (case lc => k_is)
    (case pc => first | k_is | rfl)
    (case own => exact PySem.W.km_tabs_of Y _ (by decide))
    (case hcodh => first | rfl | decide +kernel)
    (case np => first | k_is | rfl)
