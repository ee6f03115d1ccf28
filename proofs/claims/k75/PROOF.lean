import PyProof.Rows.All
import Wide.All
import OpenK.AllK
import Wide.FinOn
import HandS.ForMost
import HandS.ForExc
import HandS.IsInst
import HandS.Gcd
import HandS.Conv
import HandS.DictComp
import HandS.SortInts
import HandS.TupMul
import HandS.Style
import HandS.More
import KE.GoesEnum
import KE.GoesMore
import KE.Datum
import HandS.SortOrd
import HandS.Defaults
import PyProof.TupleOfSeq
import HandS.Small
import PySem.Challenge.RW_whicheverworld_k75_classes_and_stays_of
import HandS.SetKeys
import KE.KDictKeyed
import KE.KeyNested
import KE.KDictWalk
import HandS.TupSets
import PyProof.ReprRoads
import KE.KExcSuper
import HandS.ExcInit
import HandS.Nested
import KE.KExcIs
import HandS.ExcIs
import HandS.ExcField
import HandS.EndTab
import HandS.EndOwn
set_option Elab.async false
set_option linter.all false
set_option maxRecDepth 100000
set_option maxHeartbeats 4000000
/-! DL: a logic without heaps over HandS. Th: what is true of a value (it stays while the heap grows). -/
namespace DL
open PySem PySem.Spec L2
open PyProof.Rows hiding St

/-- what is true of a value: it stays while the heap grows, and while a dict is locked or freed -/
structure Th where
  p : Hp → V → Prop
  mono : ∀ {H H' : Hp} {v : V}, Same H H' → p H v → p H' v
  lk : ∀ {H : Hp} {v : V} {d : Addr} {od : Obj} {kvs : List (Key × V)}, H d = some (.dK kvs) → p H v → p (upd H d (.frz od (.dK kvs))) v
  ul : ∀ {H : Hp} {v : V} {d : Addr} {od : Obj} {kvs : List (Key × V)}, H d = some (.frz od (.dK kvs)) → p H v → p (upd H d (.dK kvs)) v

theorem rd_mono {H H' : Hp} {a : Addr} {u : HO} (e : Same H H') (h : Rd H a u) : Rd H' a u :=
  h.elim (fun z => .inl (e _ _ z)) fun ⟨o, z⟩ => .inr ⟨o, e _ _ z⟩
theorem sqL_mono {K : PySem.W.Frag} {H H' : Hp} {a : Addr} {xs : List V} (e : Same H H') (h : SqL K H a xs) : SqL K H' a xs :=
  h.elim (fun z => .inl (rd_mono e z)) .inr
theorem sqT_mono {K : PySem.W.Frag} {H H' : Hp} {a : Addr} {xs : List V} (e : Same H H') (h : SqT K H a xs) : SqT K H' a xs :=
  h.elim (fun z => .inl (rd_mono e z)) .inr

theorem rd_lk {H : Hp} {d a : Addr} {od : Obj} {kvs : List (Key × V)} {u : HO} (h : H d = some (.dK kvs)) (r : Rd H a u) : Rd (upd H d (.frz od (.dK kvs))) a u := by
  by_cases e : a = d
  · subst e
    rcases r with r | ⟨o, r⟩
    · rw [h] at r; cases r; exact .inr ⟨od, upd_same⟩
    · rw [h] at r; cases r
  · rcases r with r | ⟨o, r⟩
    · exact .inl (by rw [upd_ne e]; exact r)
    · exact .inr ⟨o, by rw [upd_ne e]; exact r⟩
theorem rd_ul {H : Hp} {d a : Addr} {od : Obj} {kvs : List (Key × V)} {u : HO} (h : H d = some (.frz od (.dK kvs))) (r : Rd H a u) (nf : ∀ o x, u ≠ .frz o x) : Rd (upd H d (.dK kvs)) a u := by
  by_cases e : a = d
  · subst e
    rcases r with r | ⟨o, r⟩
    · rw [h] at r; cases r; exact absurd rfl (nf _ _)
    · rw [h] at r; cases r; exact .inl upd_same
  · rcases r with r | ⟨o, r⟩
    · exact .inl (by rw [upd_ne e]; exact r)
    · exact .inr ⟨o, by rw [upd_ne e]; exact r⟩
theorem sqL_lk {K : PySem.W.Frag} {H : Hp} {d a : Addr} {od : Obj} {kvs : List (Key × V)} {xs : List V} (h : H d = some (.dK kvs)) (r : SqL K H a xs) : SqL K (upd H d (.frz od (.dK kvs))) a xs := r.elim (fun z => .inl (rd_lk h z)) .inr
theorem sqL_ul {K : PySem.W.Frag} {H : Hp} {d a : Addr} {od : Obj} {kvs : List (Key × V)} {xs : List V} (h : H d = some (.frz od (.dK kvs))) (r : SqL K H a xs) : SqL K (upd H d (.dK kvs)) a xs := r.elim (fun z => .inl (rd_ul h z fun _ _ q => nomatch q)) .inr
theorem sqT_lk {K : PySem.W.Frag} {H : Hp} {d a : Addr} {od : Obj} {kvs : List (Key × V)} {xs : List V} (h : H d = some (.dK kvs)) (r : SqT K H a xs) : SqT K (upd H d (.frz od (.dK kvs))) a xs := r.elim (fun z => .inl (rd_lk h z)) .inr
theorem sqT_ul {K : PySem.W.Frag} {H : Hp} {d a : Addr} {od : Obj} {kvs : List (Key × V)} {xs : List V} (h : H d = some (.frz od (.dK kvs))) (r : SqT K H a xs) : SqT K (upd H d (.dK kvs)) a xs := r.elim (fun z => .inl (rd_ul h z fun _ _ q => nomatch q)) .inr

/-- several -/
abbrev Alls (H : Hp) (Rs : List Th) (vs : List V) : Prop := Paired (fun (R : Th) v => R.p H v) Rs vs
theorem Alls.mono {H H' : Hp} (e : Same H H') : ∀ {Rs : List Th} {vs : List V}, Alls H Rs vs → Alls H' Rs vs
  | _, _, .nil => .nil
  | _, _, .cons (a := R) r t => .cons (R.mono e r) (Alls.mono e t)
theorem Alls.lk {H : Hp} {d : Addr} {od : Obj} {kvs : List (Key × V)} (h : H d = some (.dK kvs)) : ∀ {Rs : List Th} {vs : List V}, Alls H Rs vs → Alls (upd H d (.frz od (.dK kvs))) Rs vs
  | _, _, .nil => .nil
  | _, _, .cons (a := R) r t => .cons (R.lk h r) (Alls.lk h t)
theorem Alls.ul {H : Hp} {d : Addr} {od : Obj} {kvs : List (Key × V)} (h : H d = some (.frz od (.dK kvs))) : ∀ {Rs : List Th} {vs : List V}, Alls H Rs vs → Alls (upd H d (.dK kvs)) Rs vs
  | _, _, .nil => .nil
  | _, _, .cons (a := R) r t => .cons (R.ul h r) (Alls.ul h t)
theorem Alls.length {H : Hp} {Rs : List Th} {vs : List V} (h : Alls H Rs vs) : Rs.length = vs.length := Paired.length h
theorem Alls.get {H : Hp} : ∀ {Rs : List Th} {vs : List V} {i : Nat} {R : Th}, Alls H Rs vs → Rs[i]? = some R → ∃ v, vs[i]? = some v ∧ R.p H v
  | _, _, _, _, .nil, e => by simp at e
  | _, _, 0, _, .cons r _, e => by simp at e; subst e; exact ⟨_, rfl, r⟩
  | _, _, i + 1, R, .cons _ t, e => by
    obtain ⟨v, h1, h2⟩ := Alls.get (i := i) (R := R) t (by simpa using e)
    exact ⟨v, by simpa using h1, h2⟩
theorem Alls.getV {H : Hp} : ∀ {Rs : List Th} {vs : List V} {i : Nat} {v : V}, Alls H Rs vs → vs[i]? = some v → ∃ R, Rs[i]? = some R ∧ R.p H v
  | _, _, _, _, .nil, e => by simp at e
  | _, _, 0, _, .cons r _, e => by simp at e; subst e; exact ⟨_, rfl, r⟩
  | _, _, i + 1, v, .cons _ t, e => by
    obtain ⟨R, h1, h2⟩ := Alls.getV (i := i) (v := v) t (by simpa using e)
    exact ⟨R, by simpa using h1, h2⟩
theorem Alls.snoc {H : Hp} {Rs : List Th} {vs : List V} {R : Th} {v : V} (h : Alls H Rs vs) (r : R.p H v) : Alls H (Rs ++ [R]) (vs ++ [v]) := Paired.snoc h r
theorem Alls.append {H : Hp} : ∀ {Rs Rs' : List Th} {vs vs' : List V}, Alls H Rs vs → Alls H Rs' vs' → Alls H (Rs ++ Rs') (vs ++ vs')
  | _, _, _, _, .nil, s => s
  | _, _, _, _, .cons r t, s => .cons r (Alls.append t s)

/-- just this value -/
def vl (x : V) : Th := ⟨fun _ v => v = x, fun _ h => h, fun _ h => h, fun _ h => h⟩
/-- a tuple, a list that is not written to -/
def tupT (K : PySem.W.Frag) (Rs : List Th) : Th := ⟨fun H v => ∃ a vs, v = .ref a ∧ SqT K H a vs ∧ Alls H Rs vs, fun e ⟨a, vs, h1, h2, h3⟩ => ⟨a, vs, h1, sqT_mono e h2, h3.mono e⟩,
  fun h ⟨a, vs, h1, h2, h3⟩ => ⟨a, vs, h1, sqT_lk h h2, h3.lk h⟩, fun h ⟨a, vs, h1, h2, h3⟩ => ⟨a, vs, h1, sqT_ul h h2, h3.ul h⟩⟩
def lstT (Rs : List Th) : Th := ⟨fun H v => ∃ a vs, v = .ref a ∧ H a = some (.lst vs) ∧ Alls H Rs vs, fun e ⟨a, vs, h1, h2, h3⟩ => ⟨a, vs, h1, e _ _ h2, h3.mono e⟩,
  fun h ⟨a, vs, h1, h2, h3⟩ => ⟨a, vs, h1, by rw [upd_ne (ne_of h2 h (by intro z; cases z))]; exact h2, h3.lk h⟩,
  fun h ⟨a, vs, h1, h2, h3⟩ => ⟨a, vs, h1, by rw [upd_ne (ne_of h2 h (by intro z; cases z))]; exact h2, h3.ul h⟩⟩
/-- an instance of an own class -/
def objT (C : Addr) (fs : List (Str × Th)) : Th :=
  ⟨fun H v => ∃ a dx vs, v = .ref a ∧ H a = some (.ins C dx ((fs.map Prod.fst).zip vs)) ∧ Alls H (fs.map Prod.snd) vs,
   fun e ⟨a, dx, vs, h1, h2, h3⟩ => ⟨a, dx, vs, h1, e _ _ h2, h3.mono e⟩,
   fun h ⟨a, dx, vs, h1, h2, h3⟩ => ⟨a, dx, vs, h1, by rw [upd_ne (ne_of h2 h (by intro z; cases z))]; exact h2, h3.lk h⟩,
   fun h ⟨a, dx, vs, h1, h2, h3⟩ => ⟨a, dx, vs, h1, by rw [upd_ne (ne_of h2 h (by intro z; cases z))]; exact h2, h3.ul h⟩⟩
/-- keys with what is known of their values -/
abbrev KAll (H : Hp) (kvs : List (Key × Th)) (ws : List (Key × V)) : Prop := Paired (fun (p : Key × Th) (q : Key × V) => p.1 = q.1 ∧ p.2.p H q.2) kvs ws
theorem KAll.mono {H H' : Hp} (e : Same H H') : ∀ {kvs : List (Key × Th)} {ws : List (Key × V)}, KAll H kvs ws → KAll H' kvs ws
  | _, _, .nil => .nil
  | _, _, .cons (a := R) r t => .cons ⟨r.1, R.2.mono e r.2⟩ (KAll.mono e t)
theorem KAll.lk {H : Hp} {d : Addr} {od : Obj} {kvs : List (Key × V)} (h : H d = some (.dK kvs)) : ∀ {ks : List (Key × Th)} {ws : List (Key × V)}, KAll H ks ws → KAll (upd H d (.frz od (.dK kvs))) ks ws
  | _, _, .nil => .nil
  | _, _, .cons (a := R) r t => .cons ⟨r.1, R.2.lk h r.2⟩ (KAll.lk h t)
theorem KAll.ul {H : Hp} {d : Addr} {od : Obj} {kvs : List (Key × V)} (h : H d = some (.frz od (.dK kvs))) : ∀ {ks : List (Key × Th)} {ws : List (Key × V)}, KAll H ks ws → KAll (upd H d (.dK kvs)) ks ws
  | _, _, .nil => .nil
  | _, _, .cons (a := R) r t => .cons ⟨r.1, R.2.ul h r.2⟩ (KAll.ul h t)
/-- a dict that is not written to -/
def dicT (kvs : List (Key × Th)) : Th :=
  ⟨fun H v => ∃ a ws, v = .ref a ∧ Rd H a (.dK ws) ∧ KAll H kvs ws,
   fun e ⟨a, vs, h1, h2, h3⟩ => ⟨a, vs, h1, rd_mono e h2, h3.mono e⟩,
   fun h ⟨a, vs, h1, h2, h3⟩ => ⟨a, vs, h1, rd_lk h h2, h3.lk h⟩,
   fun h ⟨a, vs, h1, h2, h3⟩ => ⟨a, vs, h1, rd_ul h h2 (fun _ _ q => nomatch q), h3.ul h⟩⟩

mutual
/-- data -/
def th (K : PySem.W.Frag) : PyData → Th
  | .none => vl .non
  | .bool b => vl (.bl b)
  | .int i => vl (.int i)
  | .str x => vl (.str x)
  | .tuple xs => tupT K (ths K xs)
  | .list xs => lstT (ths K xs)
  | .dict _ => ⟨fun _ _ => False, fun _ h => h, fun _ h => h, fun _ h => h⟩
def ths (K : PySem.W.Frag) : List PyData → List Th
  | [] => []
  | d :: ds => th K d :: ths K ds
end
theorem ths_map (K : PySem.W.Frag) : ∀ ds : List PyData, ths K ds = ds.map (th K)
  | [] => rfl
  | d :: ds => by rw [List.map_cons, ← ths_map K ds]; rfl

mutual
theorem th_dp {K : PySem.W.Frag} {H : Hp} : ∀ {d : PyData} {v : V}, (th K d).p H v → Dp K H v d
  | .none, v, h => by cases (show v = _ from h); exact .non
  | .bool b, v, h => by cases (show v = _ from h); exact .bl b
  | .int i, v, h => by cases (show v = _ from h); exact .int i
  | .str x, v, h => by cases (show v = _ from h); exact .str x
  | .tuple xs, v, h => by
    obtain ⟨a, vs, rfl, h2, h3⟩ := (show ∃ a vs, v = .ref a ∧ SqT K H a vs ∧ Alls H (ths K xs) vs from h)
    exact .tup h2 (ths_dp h3)
  | .list xs, v, h => by
    obtain ⟨a, vs, rfl, h2, h3⟩ := (show ∃ a vs, v = .ref a ∧ H a = some (.lst vs) ∧ Alls H (ths K xs) vs from h)
    exact .lst (SqL.of h2) (ths_dp h3)
  | .dict _, v, h => (show False from h).elim
theorem ths_dp {K : PySem.W.Frag} {H : Hp} : ∀ {ds : List PyData} {vs : List V}, Alls H (ths K ds) vs → DpAll K H vs ds
  | [], _, .nil => .nil
  | d :: ds, _, .cons r t => .cons (th_dp r) (ths_dp t)
end

/-- what may change -/
def MutO : HO → Prop
  | .tbl _ => True
  | o => Mut (some o)
/-- what an owned object holds -/
structure Own where
  p : Hp → Addr → HO → Prop
  mono : ∀ {H H' : Hp} {a : Addr} {o : HO}, Same H H' → p H a o → p H' a o
  mt : ∀ {H : Hp} {a : Addr} {o : HO}, p H a o → MutO o
  lk : ∀ {H : Hp} {a : Addr} {o : HO} {d : Addr} {od : Obj} {kvs : List (Key × V)}, H d = some (.dK kvs) → p H a o → p (upd H d (.frz od (.dK kvs))) a o
  ul : ∀ {H : Hp} {a : Addr} {o : HO} {d : Addr} {od : Obj} {kvs : List (Key × V)}, H d = some (.frz od (.dK kvs)) → p H a o → p (upd H d (.dK kvs)) a o
def ownL (Rs : List Th) : Own := ⟨fun H _ o => ∃ vs, o = .lst vs ∧ Alls H Rs vs, fun e ⟨vs, h1, h2⟩ => ⟨vs, h1, h2.mono e⟩, fun ⟨vs, h1, _⟩ => by subst h1; exact True.intro, fun h ⟨vs, h1, h2⟩ => ⟨vs, h1, h2.lk h⟩, fun h ⟨vs, h1, h2⟩ => ⟨vs, h1, h2.ul h⟩⟩
def ownD (kvs : List (Key × Th)) : Own := ⟨fun H _ o => ∃ ws, o = .dK ws ∧ KAll H kvs ws, fun e ⟨vs, h1, h2⟩ => ⟨vs, h1, h2.mono e⟩, fun ⟨vs, h1, _⟩ => by subst h1; exact True.intro, fun h ⟨vs, h1, h2⟩ => ⟨vs, h1, h2.lk h⟩, fun h ⟨vs, h1, h2⟩ => ⟨vs, h1, h2.ul h⟩⟩
/-- the one at a -/
def Own.atA (O : Own) (b : Addr) : Own := ⟨fun H a o => a = b ∧ O.p H a o, fun e ⟨h1, h2⟩ => ⟨h1, O.mono e h2⟩, fun h => O.mt h.2, fun h ⟨h1, h2⟩ => ⟨h1, O.lk h h2⟩, fun h ⟨h1, h2⟩ => ⟨h1, O.ul h h2⟩⟩

inductive Ent where
  | sh (R : Th)
  | ow (O : Own)
/-- a state: what the slots hold; how many draws there were at most -/
structure LSt where
  ρ : List (Option Ent)
  n : Nat

/-- the pen: the cells, how many were begun, what is left of a great one -/
def PenAt (K : PySem.W.Frag) (c a : Addr) (n : Nat) (Hs H : Hp) : Prop :=
  Hs a = none ∧ ∃ (ns : List Int) (t r : Int), H a = some (.lst [.ref c, .int t, .int r]) ∧ Hs c = some (.lst (ns.map V.int)) ∧ ns.length ≤ 63 ∧ 0 ≤ t ∧ t ≤ n ∧ 0 ≤ r

/-- the heaps at a beginning: what may be kept in answers (below), what stands -/
structure Base where
  s : Hp
  h : Hp
  c : Addr := 0
/-- from one pair of heaps to a later one -/
structure Ext (pn : Option Addr) (Hs H Hs' H' : Hp) : Prop where
  s : Same Hs Hs'
  w : Same Hs' H'
  k : ∀ b o, H b = some o → pn ≠ some b → H' b = some o
  t : ∀ b, H b ≠ none → H' b ≠ none
  f : ∀ b, Hs b = none → H b ≠ none → Hs' b = none
theorem Ext.refl {pn : Option Addr} {Hs H : Hp} (w : Same Hs H) : Ext pn Hs H Hs H := ⟨.refl _, w, fun _ _ h _ => h, fun _ h => h, fun _ h _ => h⟩
theorem Ext.trans {pn : Option Addr} {H0 H1 H2 G0 G1 G2 : Hp} (a : Ext pn H0 G0 H1 G1) (b : Ext pn H1 G1 H2 G2) : Ext pn H0 G0 H2 G2 :=
  ⟨a.s.trans b.s, b.w, fun c o h n => b.k c o (a.k c o h n) n, fun c h => b.t c (a.t c h), fun c h h' => b.f c (a.f c h h') (a.t c h')⟩
theorem Ext.same {Hs H Hs' H' : Hp} (e : Ext none Hs H Hs' H') : Same H H' := fun b o h => e.k b o h (by simp)
theorem Ext.pen {pn : Option Addr} {Hs H Hs' H' : Hp} (e : Ext none Hs H Hs' H') : Ext pn Hs H Hs' H' := ⟨e.s, e.w, fun b o h _ => e.k b o h (by simp), e.t, e.f⟩
theorem Same.upd {H : Hp} {p : Addr} {o : HO} (h : H p = none) : Same H (upd H p o) := fun b u e => by rw [upd_ne (ne_of_none e h)]; exact e
theorem Same.upd2 {Hs H : Hp} {p : Addr} {o : HO} (w : Same Hs H) (h : Hs p = none) : Same Hs (L2.upd H p o) := fun b u e => by rw [upd_ne (ne_of_none e h)]; exact w _ _ e
theorem Same.updb {Hs H : Hp} {p : Addr} {o : HO} (w : Same Hs H) : Same (L2.upd Hs p o) (L2.upd H p o) := fun b u e => by
  by_cases hb : b = p
  · subst hb; rw [upd_same] at e ⊢; exact e
  · rw [upd_ne hb] at e ⊢; exact w _ _ e
/-- a new object -/
theorem Ext.new {pn : Option Addr} {Hs H : Hp} {p : Addr} {o : HO} (w : Same Hs H) (h : H p = none) : Ext pn Hs H (L2.upd Hs p o) (L2.upd H p o) where
  s := Same.upd (w.free h)
  w := Same.updb w
  k := fun b u e _ => by rw [upd_ne (ne_of_none e h)]; exact e
  t := fun b e => by
    by_cases hb : b = p
    · subst hb; rw [upd_same]; simp
    · rw [upd_ne hb]; exact e
  f := fun b h1 h2 => by
    by_cases hb : b = p
    · subst hb; exact absurd h h2
    · rw [upd_ne hb]; exact h1

structure StOK (K : PySem.W.Frag) (pn : Option Addr) (B : Base) (Hs : Hp) (S : LSt) (σ : St) (H : Hp) : Prop where
  e : Ext pn B.s B.h Hs H
  len : S.ρ.length = σ.length
  sh : ∀ (i : Nat) R, S.ρ[i]? = some (some (.sh R)) → ∃ v, σ[i]? = some (some v) ∧ R.p Hs v
  ow : ∀ (i : Nat) O, S.ρ[i]? = some (some (.ow O)) → ∃ a o, σ[i]? = some (some (.ref a)) ∧ B.h a = none ∧ Hs a = none ∧ H a = some o ∧ O.p Hs a o
  ne : ∀ (i j : Nat) O O' a, S.ρ[i]? = some (some (.ow O)) → S.ρ[j]? = some (some (.ow O')) → σ[i]? = some (some (.ref a)) → σ[j]? = some (some (.ref a)) → i = j
  pen : ∀ a, pn = some a → PenAt K B.c a S.n Hs H ∧ B.h a ≠ none
section
variable {K : PySem.W.Frag} {pn : Option Addr} {B : Base} {Hs Hs' : Hp} {S : LSt} {σ : St} {H H' : Hp}
theorem StOK.w (k : StOK K pn B Hs S σ H) : Same Hs H := k.e.w
theorem PenAt.ext {c a : Addr} {n : Nat} (p : PenAt K c a n Hs H) (x : Ext none Hs H Hs' H') : PenAt K c a n Hs' H' := by
  obtain ⟨h0, ns, t, r, h1, h2, h3⟩ := p
  exact ⟨x.f a h0 (by rw [h1]; simp), ns, t, r, x.k _ _ h1 (by simp), x.s _ _ h2, h3⟩
theorem StOK.ext (k : StOK K pn B Hs S σ H) (x : Ext none Hs H Hs' H') : StOK K pn B Hs' S σ H' where
  e := k.e.trans x.pen
  len := k.len
  sh := fun i R h => let ⟨v, h1, h2⟩ := k.sh i R h; ⟨v, h1, R.mono x.s h2⟩
  ow := fun i O h => let ⟨a, o, h1, h2, h3, h4, h5⟩ := k.ow i O h; ⟨a, o, h1, h2, x.f a h3 (by rw [h4]; simp), x.k _ _ h4 (by simp), O.mono x.s h5⟩
  ne := k.ne
  pen := fun a h => ⟨(k.pen a h).1.ext x, (k.pen a h).2⟩
theorem StOK.new (k : StOK K pn B Hs S σ H) {p : Addr} {o : HO} (h : H p = none) : StOK K pn B (upd Hs p o) S σ (upd H p o) := k.ext (Ext.new k.w h)
end

/-! ### the judgements, as what they ask -/
def WE (X : Cx) (e : Expr) : TE := fun σ H Q => ∀ pins s, Inv X pins σ H s → wpAny (model X.prog X.w) X.A (eval e X.env) (EP X pins σ Q) X.xe s
def WT (X : Cx) (e : Expr) : TT := fun σ H Q => ∀ pins s, Inv X pins σ H s → wpAny (model X.prog X.w) X.A (isTrue e X.env (eval e X.env)) (TP X pins σ Q) X.xe s
def WW (X : Cx) (e : Expr) : TT := fun σ H Q => ∀ (whole : Sem Value) pins s, Inv X pins σ H s → wpAny (model X.prog X.w) X.A (isTrue e X.env whole) (TP X pins σ Q) X.xe s
def WA (X : Cx) (es : List Expr) : TA := fun σ H Q => ∀ (pos : Pos) pins s, Inv X pins σ H s → wpAny (model X.prog X.w) X.A (spliced (backTo pos (starEach es X.env))) (AP X pins σ Q) X.xe s
def WS (X : Cx) (st : Stmt) : TS := fun D σ H => ∀ pins s, Inv X pins σ H s → wpAny (model X.prog X.w) X.A (exec st X.env) (SP X pins D) X.xe s
def WB (X : Cx) (st : List Stmt) : TS := fun D σ H => ∀ pins s, Inv X pins σ H s → wpAny (model X.prog X.w) X.A (execs st X.env) (SP X pins D) X.xe s
section
variable {X : Cx} {e : Expr} {es : List Expr} {st : Stmt} {sts : List Stmt} {σ : St} {H : Hp}
theorem pe_we : PE X e (WE X e) := ⟨fun pins s σ H Q I h => h pins s I⟩
theorem pt_wt : PT X e (WT X e) := ⟨fun pins s σ H Q I h => h pins s I⟩
theorem pw_ww : PW X e (WW X e) := ⟨fun w pins s σ H Q I h => h w pins s I⟩
theorem pa_wa : PA X es (WA X es) := ⟨fun pos pins s σ H Q I h => h pos pins s I⟩
theorem ps_ws : PS X st (WS X st) := ⟨fun pins s σ H Q I h => h pins s I⟩
theorem ps_wb : PSs X sts (WB X sts) := ⟨fun pins s σ H Q I h => h pins s I⟩
theorem we_of {t : TE} {Q : VK} (h : PE X e t) (q : t σ H Q) : WE X e σ H Q := fun pins s I => h.run pins s σ H Q I q
theorem wt_of {t : TT} {Q} (h : PT X e t) (q : t σ H Q) : WT X e σ H Q := fun pins s I => h.run pins s σ H Q I q
theorem ww_of {t : TT} {Q} (h : PW X e t) (q : t σ H Q) : WW X e σ H Q := fun w pins s I => h.run w pins s σ H Q I q
theorem wa_of {t : TA} {Q} (h : PA X es t) (q : t σ H Q) : WA X es σ H Q := fun pos pins s I => h.run pos pins s σ H Q I q
theorem ws_of {t : TS} {D} (h : PS X st t) (q : t D σ H) : WS X st D σ H := fun pins s I => h.run pins s σ H D I q
theorem wb_of {t : TS} {D} (h : PSs X sts t) (q : t D σ H) : WB X sts D σ H := fun pins s I => h.run pins s σ H D I q
end

def LE (X : Cx) (pn : Option Addr) (e : Expr) (S : LSt) (P : Th → LSt → Prop) : Prop :=
  ∀ B Hs σ H, StOK X.K pn B Hs S σ H → ∀ Q : VK, (∀ R S' v Hs' H', P R S' → StOK X.K pn B Hs' S' σ H' → Same Hs Hs' → R.p Hs' v → Q v H') → WE X e σ H Q
def LT (X : Cx) (pn : Option Addr) (e : Expr) (S : LSt) (P : Bool → LSt → Prop) : Prop :=
  ∀ B Hs σ H, StOK X.K pn B Hs S σ H → ∀ Q : Bool → Hp → Prop, (∀ b S' Hs' H', P b S' → StOK X.K pn B Hs' S' σ H' → Same Hs Hs' → Q b H') → WT X e σ H Q
def LW (X : Cx) (pn : Option Addr) (e : Expr) (S : LSt) (P : Bool → LSt → Prop) : Prop :=
  ∀ B Hs σ H, StOK X.K pn B Hs S σ H → ∀ Q : Bool → Hp → Prop, (∀ b S' Hs' H', P b S' → StOK X.K pn B Hs' S' σ H' → Same Hs Hs' → Q b H') → WW X e σ H Q
def LA (X : Cx) (pn : Option Addr) (es : List Expr) (S : LSt) (P : List Th → LSt → Prop) : Prop :=
  ∀ B Hs σ H, StOK X.K pn B Hs S σ H → ∀ Q : List V → Hp → Prop, (∀ Rs S' vs Hs' H', P Rs S' → StOK X.K pn B Hs' S' σ H' → Same Hs Hs' → Alls Hs' Rs vs → Q vs H') → WA X es σ H Q
/-- what is wanted behind a statement -/
structure LD where
  nx : LSt → Prop
  rt : Th → LSt → Prop
  bk : LSt → Prop := fun _ => False
  ct : LSt → Prop := fun _ => False
structure LD.To (K : PySem.W.Frag) (pn : Option Addr) (B : Base) (D : LD) (E : Ends) : Prop where
  nx : ∀ S Hs σ H, D.nx S → StOK K pn B Hs S σ H → E.nx σ H
  rt : ∀ R S Hs σ v H, D.rt R S → StOK K pn B Hs S σ H → R.p Hs v → E.rt v H
  bk : ∀ S Hs σ H, D.bk S → StOK K pn B Hs S σ H → E.bk σ H
  ct : ∀ S Hs σ H, D.ct S → StOK K pn B Hs S σ H → E.ct σ H
def L1 (X : Cx) (pn : Option Addr) (st : Stmt) (S : LSt) (D : LD) : Prop :=
  ∀ B Hs σ H, StOK X.K pn B Hs S σ H → ∀ E : Ends, LD.To X.K pn B D E → WS X st E σ H
def LB (X : Cx) (pn : Option Addr) (sts : List Stmt) (S : LSt) (D : LD) : Prop :=
  ∀ B Hs σ H, StOK X.K pn B Hs S σ H → ∀ E : Ends, LD.To X.K pn B D E → WB X sts E σ H

section
variable {X : Cx} {pn : Option Addr} {a b c e : Expr} {es : List Expr} {pos : Pos} {S : LSt} {P : Th → LSt → Prop} {PB : Bool → LSt → Prop} {PL : List Th → LSt → Prop}
theorem LE.mono {P' : Th → LSt → Prop} (h : LE X pn e S P) (k : ∀ R S', P R S' → P' R S') : LE X pn e S P' :=
  fun B Hs σ H o Q q => h B Hs σ H o Q fun R S' v Hs' H' p => q R S' v Hs' H' (k R S' p)
theorem LT.mono {P' : Bool → LSt → Prop} (h : LT X pn e S PB) (k : ∀ R S', PB R S' → P' R S') : LT X pn e S P' :=
  fun B Hs σ H o Q q => h B Hs σ H o Q fun R S' Hs' H' p => q R S' Hs' H' (k R S' p)

/-! ### names, constants -/
theorem le_var {i : Nat} {x : Str} {R : Th} (hr : S.ρ[i]? = some (some (.sh R))) (q : P R S) (hN : X.N[i]? = some x := by rfl) (hv : Vis X.env.scope x := by first | exact Or.inl rfl | exact Or.inr (Or.inl rfl) | exact Or.inr (Or.inr rfl))
    (hd : (x == ("__debug__" : Str)) = false := by decide) (hcd : (x == ("__classdict__" : Str)) = false := by decide) : LE X pn (.Name x pos) S P := by
  intro B Hs σ H o Q k
  obtain ⟨v, h1, h2⟩ := o.sh i R hr
  exact we_of (pe_var hN hv hd hcd) ⟨v, h1, k R S v Hs H q o (.refl _) h2⟩
theorem le_c {t : TE} {v : V} (h : PE X e t) (ht : t = tC v) (q : P (vl v) S) : LE X pn e S P := by
  intro B Hs σ H o Q k
  subst ht
  exact we_of h (k (vl v) S v Hs H q o (.refl _) rfl)
theorem le_int {i : Int} {j : Nat} (q : P (vl (.int i)) S) : LE X pn (.Constant (.int i) j pos) S P := le_c pe_int rfl q
theorem le_bl {i : Bool} {j : Nat} (q : P (vl (.bl i)) S) : LE X pn (.Constant (.bool i) j pos) S P := le_c pe_bl rfl q
theorem le_non {j : Nat} (q : P (vl .non) S) : LE X pn (.Constant .none j pos) S P := le_c pe_non rfl q
theorem le_str {x : Str} {j : Nat} (q : P (vl (.str x)) S) : LE X pn (.Constant (.str x) j pos) S P := le_c pe_str rfl q
theorem le_glob {x : Str} {v : V} {u : Value} (hm : X.mg x = some u) (r : RelV v u) (q : P (vl v) S) (hg : Gl X x := by rfl) (hd : (x == ("__debug__" : Str)) = false := by decide) : LE X pn (.Name x pos) S P :=
  le_c (pe_glob hg hm r hd) rfl q
/-- a module's tuple -/
theorem le_globT {x : Str} {a : Addr} {Rs : List Th} (hm : X.mg x = some (.ref a)) (r : ∀ H : Hp, (tupT X.K Rs).p H (.ref a)) (q : P (tupT X.K Rs) S) (hg : Gl X x := by rfl) (hd : (x == ("__debug__" : Str)) = false := by decide) : LE X pn (.Name x pos) S P := by
  intro B Hs σ H o Q k
  exact we_of (pe_glob (v := .ref a) hg hm rfl hd) (k _ S _ Hs H q o (.refl _) (r Hs))
theorem le_bltn {x : Str} {v : V} {u : Value} (hm : X.mg x = none) (hv : bootBuiltins x = some u) (r : RelV v u) (q : P (vl v) S) (hg : Gl X x := by rfl) (hn : x ≠ "__name__" := by decide) (hd : (x == ("__debug__" : Str)) = false := by decide) : LE X pn (.Name x pos) S P :=
  le_c (pe_bltn hg hm hv r hn hd) rfl q

/-! ### two parts in a row -/
/-- an operation by values, over what is known of them -/
def LR2 (X : Cx) (pn : Option Addr) (r : R2) (Ra Rb : Th) (S : LSt) (P : Th → LSt → Prop) : Prop :=
  ∀ B Hs σ H x y, StOK X.K pn B Hs S σ H → Ra.p Hs x → Rb.p Hs y → ∀ Q : VK, (∀ R S' v Hs' H', P R S' → StOK X.K pn B Hs' S' σ H' → Same Hs Hs' → R.p Hs' v → Q v H') → r x y H Q
theorem le_op2 {r : R2} (f : ∀ {σ : St} {H : Hp} {Q : VK}, (tOp r (WE X a) (WE X b)) σ H Q → WE X e σ H Q) (h : LE X pn a S fun Ra S1 => LE X pn b S1 fun Rb S2 => LR2 X pn r Ra Rb S2 P) : LE X pn e S P := by
  intro B Hs σ H o Q k
  refine f (h B Hs σ H o _ fun Ra S1 x Hs1 H1 h1 o1 e1 r1 => ?_)
  refine h1 B Hs1 σ H1 o1 _ fun Rb S2 y Hs2 H2 h2 o2 e2 r2 => ?_
  exact h2 B Hs2 σ H2 x y o2 (Ra.mono e2 r1) r2 Q fun R S' v Hs' H' p o' e' => k R S' v Hs' H' p o' (e1.trans (e2.trans e'))
theorem le_bin {op : Operator} {r : R2} (ho : OpR X (binaryOp op) r) (h : LE X pn a S fun Ra S1 => LE X pn b S1 fun Rb S2 => LR2 X pn r Ra Rb S2 P) : LE X pn (.BinOp a op b pos) S P :=
  le_op2 (fun q => we_of (pe_op ho pe_we pe_we) q) h
theorem le_cmp {op : CmpOp} {r : R2} (ho : OpR X (compareOp op) r) (h : LE X pn a S fun Ra S1 => LE X pn b S1 fun Rb S2 => LR2 X pn r Ra Rb S2 P) (hm : behindInMarks op b = false := by first | exact nomark _ | rfl) : LE X pn (.Compare a [op] [b] pos) S P :=
  le_op2 (fun q => we_of (pe_cmpR ho pe_we pe_we hm) q) h
/-- an answer that makes nothing -/
theorem lr_v {r : R2} {x y z : V} (h : ∀ (H : Hp) (Q : VK), Q z H → r x y H Q) (q : P (vl z) S) : LR2 X pn r (vl x) (vl y) S P := by
  intro B Hs σ H x' y' o r1 r2 Q k
  cases (show x' = x from r1)
  cases (show y' = y from r2)
  exact h H Q (k (vl z) S z Hs H q o (.refl _) rfl)
theorem lr_I0 {g : Int → Int → V} {i j : Int} (q : P (vl (g i j)) S) : LR2 X pn (rI0 g) (vl (.int i)) (vl (.int j)) S P := lr_v (fun _ _ z => ⟨i, j, rfl, rfl, z⟩) q
theorem lr_I {C : Int → Int → Prop} {g : Int → Int → V} {i j : Int} (hc : C i j) (q : P (vl (g i j)) S) : LR2 X pn (rI C g) (vl (.int i)) (vl (.int j)) S P := lr_v (fun _ _ z => ⟨i, j, rfl, rfl, hc, z⟩) q
theorem lr_eq {x y : V} (hs : scal x y = true) (q : P (vl (.bl (decide (x = y)))) S) : LR2 X pn rEq (vl x) (vl y) S P := lr_v (fun _ _ z => ⟨hs, z⟩) q
theorem lr_ne {x y : V} (hs : scal x y = true) (q : P (vl (.bl (!decide (x = y)))) S) : LR2 X pn rNe (vl x) (vl y) S P := lr_v (fun _ _ z => ⟨hs, z⟩) q
/-- == of data -/
theorem lr_eqD {d d' : PyData} (h1 : SeqAt.shaped d = true) (h2 : SeqAt.shaped d' = true) (q : P (vl (.bl (PyData.eqv d d'))) S) : LR2 X pn (rEqD X.K) (th X.K d) (th X.K d') S P := by
  intro B Hs σ H x y o r1 r2 Q k
  exact ⟨d, d', th_dp ((th X.K d).mono o.w r1), th_dp ((th X.K d').mono o.w r2), h1, h2, k _ S _ Hs H q o (.refl _) rfl⟩
theorem lr_neD {d d' : PyData} (h1 : SeqAt.shaped d = true) (h2 : SeqAt.shaped d' = true) (q : P (vl (.bl (!PyData.eqv d d'))) S) : LR2 X pn (rNeD X.K) (th X.K d) (th X.K d') S P := by
  intro B Hs σ H x y o r1 r2 Q k
  exact ⟨d, d', th_dp ((th X.K d).mono o.w r1), th_dp ((th X.K d').mono o.w r2), h1, h2, k _ S _ Hs H q o (.refl _) rfl⟩
/-- is None -/
theorem le_isN {j : Nat} {pos' : Pos} (h : LE X pn a S fun R S1 => ∃ n : Bool, (∀ H v, R.p H v → decide (v = V.non) = n) ∧ P (vl (.bl n)) S1) : LE X pn (.Compare a [.Is] [.Constant .none j pos'] pos) S P := by
  intro B Hs σ H o Q k
  refine we_of (pe_cmp (pc_isN pe_we)) (h B Hs σ H o _ fun R S1 x Hs1 H1 h1 o1 e1 r1 => ?_)
  obtain ⟨n, hn, q⟩ := h1
  rw [hn _ _ r1]
  exact k _ S1 _ Hs1 H1 q o1 e1 rfl
theorem le_notN {j : Nat} {pos' : Pos} (h : LE X pn a S fun R S1 => ∃ n : Bool, (∀ H v, R.p H v → decide (v = V.non) = n) ∧ P (vl (.bl (!n))) S1) : LE X pn (.Compare a [.IsNot] [.Constant .none j pos'] pos) S P := by
  intro B Hs σ H o Q k
  refine we_of (pe_cmp (pc_notN pe_we)) (h B Hs σ H o _ fun R S1 x Hs1 H1 h1 o1 e1 r1 => ?_)
  obtain ⟨n, hn, q⟩ := h1
  rw [hn _ _ r1]
  exact k _ S1 _ Hs1 H1 q o1 e1 rfl

/-! ### tests -/
theorem lt_val (h : LE X pn e S fun R S1 => ∃ k, R = vl (.bl k) ∧ PB k S1) (he : ∀ whole, isTrue e X.env whole = (do let v ← whole; standAt e.pos; holding [v] (truthy v)) := by intro _; rfl) : LT X pn e S PB := by
  intro B Hs σ H o Q k
  refine wt_of (pt_val pe_we he) (h B Hs σ H o _ fun R S1 x Hs1 H1 h1 o1 e1 r1 => ?_)
  obtain ⟨b, rfl, q⟩ := h1
  exact ⟨b, r1, k b S1 Hs1 H1 q o1 e1⟩
theorem lt_op2 {r : R2} (f : ∀ {σ : St} {H : Hp} {Q : Bool → Hp → Prop}, (tTest (tOp r (WE X a) (WE X b))) σ H Q → WT X e σ H Q)
    (h : LE X pn a S fun Ra S1 => LE X pn b S1 fun Rb S2 => LR2 X pn r Ra Rb S2 fun R S3 => ∃ k, R = vl (.bl k) ∧ PB k S3) : LT X pn e S PB := by
  intro B Hs σ H o Q k
  refine f (h B Hs σ H o _ fun Ra S1 x Hs1 H1 h1 o1 e1 r1 => ?_)
  refine h1 B Hs1 σ H1 o1 _ fun Rb S2 y Hs2 H2 h2 o2 e2 r2 => ?_
  refine h2 B Hs2 σ H2 x y o2 (Ra.mono e2 r1) r2 _ fun R S' v Hs' H' p o' e' r' => ?_
  obtain ⟨b, rfl, q⟩ := p
  exact ⟨b, r', k b S' Hs' H' q o' (e1.trans (e2.trans e'))⟩
theorem lt_cmp {op : CmpOp} {r : R2} (ho : OpR X (compareOp op) r) (h : LE X pn a S fun Ra S1 => LE X pn b S1 fun Rb S2 => LR2 X pn r Ra Rb S2 fun R S3 => ∃ k, R = vl (.bl k) ∧ PB k S3) (hm : behindInMarks op b = false := by first | exact nomark _ | rfl) : LT X pn (.Compare a [op] [b] pos) S PB :=
  lt_op2 (fun q => wt_of (pt_cmpR ho pe_we pe_we hm) q) h
theorem lt_ww (h : LW X pn e S PB) : LT X pn e S PB := fun B Hs σ H o Q k => wt_of (PW.pt pw_ww) (h B Hs σ H o Q k)
theorem lw_and1 (h : LT X pn a S PB) : LW X pn (.BoolOp .And [a] pos) S PB := fun B Hs σ H o Q k => ww_of (pw_and1 pt_wt) (h B Hs σ H o Q k)
theorem lw_or1 (h : LT X pn a S PB) : LW X pn (.BoolOp .Or [a] pos) S PB := fun B Hs σ H o Q k => ww_of (pw_or1 pt_wt) (h B Hs σ H o Q k)
theorem lw_and (h : LT X pn a S fun k S1 => if k = true then LW X pn (.BoolOp .And (b :: es) pos) S1 PB else PB false S1) : LW X pn (.BoolOp .And (a :: b :: es) pos) S PB := by
  intro B Hs σ H o Q k
  refine ww_of (pw_and pt_wt pw_ww) (h B Hs σ H o _ fun r S1 Hs1 H1 h1 o1 e1 => ?_)
  cases r with
  | true =>
    show WW X _ σ H1 Q
    exact (show LW X pn _ S1 PB from h1) B Hs1 σ H1 o1 Q fun b S' Hs' H' p o' e' => k b S' Hs' H' p o' (e1.trans e')
  | false => exact k false S1 Hs1 H1 h1 o1 e1
theorem lw_or (h : LT X pn a S fun k S1 => if k = true then PB true S1 else LW X pn (.BoolOp .Or (b :: es) pos) S1 PB) : LW X pn (.BoolOp .Or (a :: b :: es) pos) S PB := by
  intro B Hs σ H o Q k
  refine ww_of (pw_or pt_wt pw_ww) (h B Hs σ H o _ fun r S1 Hs1 H1 h1 o1 e1 => ?_)
  cases r with
  | false =>
    show WW X _ σ H1 Q
    exact (show LW X pn _ S1 PB from h1) B Hs1 σ H1 o1 Q fun b S' Hs' H' p o' e' => k b S' Hs' H' p o' (e1.trans e')
  | true => exact k true S1 Hs1 H1 h1 o1 e1
theorem lt_not (h : LT X pn a S fun k S1 => PB (!k) S1) : LT X pn (.UnaryOp .Not a pos) S PB := fun B Hs σ H o Q k =>
  wt_of (pt_not pt_wt) (h B Hs σ H o _ fun b S' Hs' H' p o' e' => k (!b) S' Hs' H' p o' e')

/-! ### and, or, not as values -/
theorem le_one {op : BoolOp} (h : LE X pn a S P) : LE X pn (.BoolOp op [a] pos) S P := fun B Hs σ H o Q k => we_of (pe_one pe_we) (h B Hs σ H o Q k)
theorem le_and (h : LE X pn a S fun R S1 => ∃ k, R = vl (.bl k) ∧ if k = true then LE X pn (.BoolOp .And (b :: es) pos) S1 P else P (vl (.bl false)) S1) : LE X pn (.BoolOp .And (a :: b :: es) pos) S P := by
  intro B Hs σ H o Q k
  refine we_of (pe_and pe_we pe_we) (h B Hs σ H o _ fun R S1 x Hs1 H1 h1 o1 e1 r1 => ?_)
  obtain ⟨c, rfl, h1⟩ := h1
  refine ⟨c, r1, ?_⟩
  cases c with
  | true =>
    show WE X _ σ H1 Q
    exact (show LE X pn _ S1 P from h1) B Hs1 σ H1 o1 Q fun R S' v Hs' H' p o' e' => k R S' v Hs' H' p o' (e1.trans e')
  | false => exact k _ S1 _ Hs1 H1 h1 o1 e1 rfl
theorem le_or (h : LE X pn a S fun R S1 => ∃ k, R = vl (.bl k) ∧ if k = true then P (vl (.bl true)) S1 else LE X pn (.BoolOp .Or (b :: es) pos) S1 P) : LE X pn (.BoolOp .Or (a :: b :: es) pos) S P := by
  intro B Hs σ H o Q k
  refine we_of (pe_or pe_we pe_we) (h B Hs σ H o _ fun R S1 x Hs1 H1 h1 o1 e1 r1 => ?_)
  obtain ⟨c, rfl, h1⟩ := h1
  refine ⟨c, r1, ?_⟩
  cases c with
  | false =>
    show WE X _ σ H1 Q
    exact (show LE X pn _ S1 P from h1) B Hs1 σ H1 o1 Q fun R S' v Hs' H' p o' e' => k R S' v Hs' H' p o' (e1.trans e')
  | true => exact k _ S1 _ Hs1 H1 h1 o1 e1 rfl
theorem le_not (h : LE X pn a S fun R S1 => ∃ k, R = vl (.bl k) ∧ P (vl (.bl (!k))) S1) : LE X pn (.UnaryOp .Not a pos) S P := by
  intro B Hs σ H o Q k
  refine we_of (pe_not pe_we) (h B Hs σ H o _ fun R S1 x Hs1 H1 h1 o1 e1 r1 => ?_)
  obtain ⟨c, rfl, h1⟩ := h1
  exact ⟨c, r1, k _ S1 _ Hs1 H1 h1 o1 e1 rfl⟩
theorem le_if (h : LT X pn c S fun k S1 => if k = true then LE X pn a S1 P else LE X pn b S1 P) : LE X pn (.IfExp c a b pos) S P := by
  intro B Hs σ H o Q k
  refine we_of (pe_ifExp pt_wt pe_we pe_we) (h B Hs σ H o _ fun r S1 Hs1 H1 h1 o1 e1 => ?_)
  cases r with
  | true =>
    show WE X a σ H1 Q
    exact (show LE X pn a S1 P from h1) B Hs1 σ H1 o1 Q fun R S' v Hs' H' p o' e' => k R S' v Hs' H' p o' (e1.trans e')
  | false =>
    show WE X b σ H1 Q
    exact (show LE X pn b S1 P from h1) B Hs1 σ H1 o1 Q fun R S' v Hs' H' p o' e' => k R S' v Hs' H' p o' (e1.trans e')
end
end DL
set_option Elab.async false
set_option linter.all false
set_option maxRecDepth 100000
set_option maxHeartbeats 4000000
namespace DL
open PySem PySem.Spec L2
open PyProof.Rows hiding St

section
variable {X : Cx} {pn : Option Addr} {a b c e : Expr} {es : List Expr} {pos : Pos} {S : LSt} {P : Th → LSt → Prop} {PB : Bool → LSt → Prop} {PL : List Th → LSt → Prop}
/-! ### lists of arguments, displays -/
theorem la_nil (q : PL [] S) : LA X pn [] S PL := fun B Hs σ H o Q k => wa_of pa_nil (k [] S [] Hs H q o (.refl _) .nil)
theorem la_cons (h : LE X pn e S fun R S1 => LA X pn es S1 fun Rs S2 => PL (R :: Rs) S2) (hs : starEach (e :: es) X.env = (false, eval e X.env) :: starEach es X.env := by rfl) : LA X pn (e :: es) S PL := by
  intro B Hs σ H o Q k
  refine wa_of (pa_cons pe_we pa_wa hs) (h B Hs σ H o _ fun R S1 x Hs1 H1 h1 o1 e1 r1 => ?_)
  exact h1 B Hs1 σ H1 o1 _ fun Rs S2 vs Hs2 H2 h2 o2 e2 r2 => k (R :: Rs) S2 _ Hs2 H2 h2 o2 (e1.trans e2) (.cons (R.mono e2 r1) r2)
theorem le_tup {x1 : Nat} (h : LA X pn es S fun Rs S1 => Rs.length ≤ sizeLine ∧ P (tupT X.K Rs) S1) : LE X pn (.Tuple es x1 pos) S P := by
  intro B Hs σ H o Q k
  refine we_of (pe_tup pa_wa) (h B Hs σ H o _ fun Rs S1 vs Hs1 H1 h1 o1 e1 r1 => ⟨by rw [← r1.length]; exact h1.1, fun p hp => ?_⟩)
  have w := Same.upd (o := .tup vs) (o1.w.free hp)
  exact k _ S1 _ _ _ h1.2 (o1.new hp) (e1.trans w) ⟨p, vs, rfl, SqT.of upd_same, r1.mono w⟩
theorem le_lst (h : LA X pn es S fun Rs S1 => Rs.length ≤ sizeLine ∧ P (lstT Rs) S1) : LE X pn (.List es pos) S P := by
  intro B Hs σ H o Q k
  refine we_of (pe_lst pa_wa) (h B Hs σ H o _ fun Rs S1 vs Hs1 H1 h1 o1 e1 r1 => ⟨by rw [← r1.length]; exact h1.1, fun p hp => ?_⟩)
  have w := Same.upd (o := .lst vs) (o1.w.free hp)
  exact k _ S1 _ _ _ h1.2 (o1.new hp) (e1.trans w) ⟨p, vs, rfl, upd_same, r1.mono w⟩

/-! ### subscripts -/
theorem Alls.at {H : Hp} {Rs : List Th} {vs : List V} {i : Int} {R : Th} (h : Alls H Rs vs) (e : atI Rs i = some R) : ∃ v, atI vs i = some v ∧ R.p H v := by
  unfold atI at e ⊢
  rw [← h.length]
  cases q : ixN Rs.length i with
  | none => rw [q] at e; cases e
  | some j =>
    rw [q] at e
    exact h.get (i := j) e
theorem lr_ixT {Rs : List Th} {i : Int} {R : Th} (e : atI Rs i = some R) (q : P R S) : LR2 X pn (rIxT X.K) (tupT X.K Rs) (vl (.int i)) S P := by
  intro B Hs σ H x y o r1 r2 Q k
  obtain ⟨a, vs, rfl, h2, h3⟩ := r1
  obtain ⟨v, h4, h5⟩ := h3.at e
  exact ⟨a, vs, i, v, rfl, r2, sqT_mono o.w h2, h4, k R S v Hs H q o (.refl _) h5⟩
theorem lr_ixL {Rs : List Th} {i : Int} {R : Th} (e : atI Rs i = some R) (q : P R S) : LR2 X pn (rIxL X.K) (lstT Rs) (vl (.int i)) S P := by
  intro B Hs σ H x y o r1 r2 Q k
  obtain ⟨a, vs, rfl, h2, h3⟩ := r1
  obtain ⟨v, h4, h5⟩ := h3.at e
  exact ⟨a, vs, i, v, rfl, r2, SqL.of (o.w _ _ h2), h4, k R S v Hs H q o (.refl _) h5⟩
theorem le_ixT (h : LE X pn a S fun Ra S1 => LE X pn b S1 fun Rb S2 => LR2 X pn (rIxT X.K) Ra Rb S2 P) (hs : PlainIx b := by exact fun _ _ => rfl) : LE X pn (.Subscript a b pos) S P :=
  le_op2 (fun q => we_of (pe_ix ix_tup pe_we pe_we hs) q) h
theorem le_ixL (h : LE X pn a S fun Ra S1 => LE X pn b S1 fun Rb S2 => LR2 X pn (rIxL X.K) Ra Rb S2 P) (hs : PlainIx b := by exact fun _ _ => rfl) : LE X pn (.Subscript a b pos) S P :=
  le_op2 (fun q => we_of (pe_ix ix_list pe_we pe_we hs) q) h
/-- of a list or tuple, whichever comes -/
def SeqT (K : PySem.W.Frag) (R : Th) (Rs : List Th) : Prop := R = tupT K Rs ∨ R = lstT Rs
theorem le_ix (h : LE X pn a S fun Ra S1 => LE X pn b S1 fun Rb S2 => ∃ Rs i R, SeqT X.K Ra Rs ∧ Rb = vl (.int i) ∧ atI Rs i = some R ∧ P R S2) (hs : PlainIx b := by exact fun _ _ => rfl) : LE X pn (.Subscript a b pos) S P := by
  refine le_op2 (r := fun x y H Q => rIxL X.K x y H Q ∨ rIxT X.K x y H Q ∨ rIxS x y H Q) (fun q => we_of (pe_ix ix_seq pe_we pe_we hs) q) (h.mono fun Ra S1 h1 => h1.mono fun Rb S2 ⟨Rs, i, R, sq, e1, e2, q⟩ => ?_)
  subst e1
  intro B Hs σ H x y o r1 r2 Q k
  rcases sq with rfl | rfl
  · exact .inr (.inl (lr_ixT (pn := pn) e2 q B Hs σ H x y o r1 r2 Q k))
  · exact .inl (lr_ixL (pn := pn) e2 q B Hs σ H x y o r1 r2 Q k)

/-! ### fields, own methods, defs -/
theorem zip_lookup {H : Hp} {f : Str} {R : Th} : ∀ {fs : List (Str × Th)} {vs : List V}, Alls H (fs.map Prod.snd) vs → fs.lookup f = some R → ∃ v, ((fs.map Prod.fst).zip vs).lookup f = some v ∧ R.p H v
  | [], _, _, e => by simp at e
  | (g, R') :: r, _, .cons (b := v) q t, e => by
    rw [List.lookup_cons] at e
    rw [List.map_cons, List.zip_cons_cons, List.lookup_cons]
    cases h : f == g with
    | true => rw [h] at e; cases e; exact ⟨v, rfl, q⟩
    | false => rw [h] at e; exact zip_lookup t e
theorem zip_lookup_none {f : Str} : ∀ {fs : List (Str × Th)} {vs : List V}, fs.lookup f = none → ((fs.map Prod.fst).zip vs).lookup f = none
  | [], _, _ => by simp
  | (g, R') :: r, [], _ => by simp
  | (g, R') :: r, v :: vs, e => by
    rw [List.lookup_cons] at e
    rw [List.map_cons, List.zip_cons_cons, List.lookup_cons]
    cases h : f == g with
    | true => rw [h] at e; cases e
    | false => rw [h] at e; exact zip_lookup_none e
theorem le_fld {f : Str} (h : LE X pn e S fun R S1 => ∃ C fs R', R = objT C fs ∧ Cls X.K C ∧ NoAttr X.K C f ∧ fs.lookup f = some R' ∧ P R' S1) (hb : attributeBase e f X.env (eval e X.env) = eval e X.env := by rfl) : LE X pn (.Attribute e f pos) S P := by
  intro B Hs σ H o Q k
  refine we_of (pe_fld pe_we hb) (h B Hs σ H o _ fun R S1 x Hs1 H1 h1 o1 e1 r1 => ?_)
  obtain ⟨C, fs, R', rfl, hc, hn, hl, q⟩ := h1
  obtain ⟨a, dx, vs, rfl, h2, h3⟩ := r1
  obtain ⟨v, h4, h5⟩ := zip_lookup h3 hl
  exact ⟨a, C, dx, _, v, rfl, o1.w _ _ h2, hc, hn, h4, k R' S1 v Hs1 H1 q o1 e1 h5⟩

/-- what a def without effects gives: what may be known of its answer by what is known of its arguments -/
abbrev PFn := List Th → Th → Prop
def spP (m : Nat) (F : PFn) : Sp := fun vs H Q _ => ∃ Hs Rs R, Same Hs H ∧ Rs.length = m ∧ Alls Hs Rs vs ∧ F Rs R ∧ ∀ v Hs' H', Ext none Hs H Hs' H' → R.p Hs' v → Q v H'
/-- a def of the module that keeps a promise -/
structure Kn (P : Program) (w : World) (K : PySem.W.Frag) (mg : Str → Option Value) (base : Heap) (k : Nat) (x : Str) (sp : Sp) : Prop where
  ex : ∃ (f : Addr) (fd : FuncData) (ps : List Str), FnOk P w K mg base (L2.CX P w) k f fd ps sp ∧ mg x = some (.ref f) ∧ PySem.W.keepIn K (.ref f) = true ∧ Binds K fd ps []
theorem le_call {x : Str} {k m : Nat} {F : PFn} {p : Pos} (D : Kn X.prog X.w X.K X.mg X.base k x (spP m F)) {j : Nat} (hr : Room j X.A) (hk : k ≤ j) (h : LA X pn (e :: es) S fun Rs S1 => ∃ R, F Rs R ∧ Rs.length = m ∧ P R S1)
    (hg : Gl X x := by rfl) (hdb : (x == ("__debug__" : Str)) = false := by decide) (he : starEach (e :: es) X.env = (false, eval e X.env) :: starEach es X.env := by rfl) (hpl : (backTo pos (starEach es X.env)).any (·.1) = false := by rfl) : LE X pn (.Call (.Name x p) (e :: es) [] pos) S P := by
  intro B Hs σ H o Q q
  obtain ⟨f, fd, ps, hf, hm, kp, hb⟩ := D.ex
  refine we_of (pe_call hf (hr.mono hk) hg hm kp hb .nil passL pa_wa hdb he hpl) (h B Hs σ H o _ fun Rs S1 vs Hs1 H1 h1 o1 e1 r1 => ?_)
  obtain ⟨R, h1, hl, p⟩ := h1
  exact ⟨Hs1, Rs, R, o1.w, hl, by rw [List.append_nil]; exact r1, h1, fun v Hs' H' x r => q R S1 v Hs' H' p (o1.ext x) (e1.trans x.s) r⟩
/-- a method -/
structure KnM (P : Program) (w : World) (K : PySem.W.Frag) (mg : Str → Option Value) (base : Heap) (k : Nat) (C : Addr) (m : Str) (sp : Sp) : Prop where
  ex : ∃ (f : Addr) (fd : FuncData) (ps : List Str), FnOk P w K mg base (L2.CX P w) k f fd ps sp ∧ Cls K C ∧ Meth K C m f ∧ Binds K fd ps []
theorem le_meth {mn : Str} {C : Addr} {k m : Nat} {F : PFn} {apos : Pos} {o' : Expr} {pl : Sem Bool} (D : KnM X.prog X.w X.K X.mg X.base k C mn (spP m F)) {j : Nat} (hr : Room j X.A) (hk : k ≤ j)
    (h : LE X pn o' S fun R S1 => ∃ fs, R = objT C fs ∧ fs.lookup mn = none ∧ LA X pn (e :: es) S1 fun Rs S2 => ∃ R', F (R :: Rs) R' ∧ (R :: Rs).length = m ∧ P R' S2)
    (hst : starEach (e :: es) X.env = (false, eval e X.env) :: starEach es X.env := by rfl) (hpl : (backTo pos (starEach es X.env)).any (·.1) = false := by rfl)
    (ht : eval (.Call (.Attribute o' mn apos) (e :: es) [] pos) X.env = (do
      let ov ← eval o' X.env
      standAt apos.atName
      let (f, first) ← holding [ov] (getMethod ov mn pl)
      callWith pos f first (backTo pos (starEach (e :: es) X.env)) (backToKw pos (keywordEach [] X.env))) := by rfl) : LE X pn (.Call (.Attribute o' mn apos) (e :: es) [] pos) S P := by
  intro B Hs σ H o Q q
  obtain ⟨f, fd, ps, hf, hc, hm, hb⟩ := D.ex
  refine we_of (pe_meth (pl := pl) pe_we hc hm hf (hr.mono hk) hb .nil passL pa_wa hst hpl ht) (h B Hs σ H o _ fun R S1 x Hs1 H1 h1 o1 e1 r1 => ?_)
  obtain ⟨fs, rfl, hl, h1⟩ := h1
  obtain ⟨a, dx, vs, rfl, g2, g3⟩ := id r1
  refine ⟨a, dx, _, rfl, o1.w _ _ g2, zip_lookup_none hl, ?_⟩
  refine h1 B Hs1 σ H1 o1 _ fun Rs S2 ws Hs2 H2 h2 o2 e2 r2 => ?_
  obtain ⟨R', h2, hz, p⟩ := h2
  exact ⟨Hs2, objT C fs :: Rs, R', o2.w, hz, .cons ((objT C fs).mono e2 r1) (by rw [List.append_nil]; exact r2), h2, fun v Hs' H' x r => q R' S2 v Hs' H' p (o2.ext x) (e1.trans (e2.trans x.s)) r⟩

/-! ### built-ins by values -/
/-- a built-in's call over what is known -/
def LRC (X : Cx) (pn : Option Addr) (r : List V → Hp → VK → Prop) (Rs : List Th) (S : LSt) (P : Th → LSt → Prop) : Prop :=
  ∀ B Hs σ H vs, StOK X.K pn B Hs S σ H → Alls Hs Rs vs → ∀ Q : VK, (∀ R S' v Hs' H', P R S' → StOK X.K pn B Hs' S' σ H' → Same Hs Hs' → R.p Hs' v → Q v H') → r vs H Q
theorem le_cb {x : Str} {id : String} {r : List V → Hp → VK → Prop} {p : Pos} (hc : CallR X (.builtin id) r) (hm : X.mg x = none) (hv : bootBuiltins x = some (.builtin id)) (h : LA X pn (e :: es) S fun Rs S1 => LRC X pn r Rs S1 P) (hg : Gl X x := by rfl)
    (hn : x ≠ "__name__" := by decide) (hdb : (x == ("__debug__" : Str)) = false := by decide) (he : starEach (e :: es) X.env = (false, eval e X.env) :: starEach es X.env := by rfl) (hpl : (backTo pos (starEach es X.env)).any (·.1) = false := by rfl) :
    LE X pn (.Call (.Name x p) (e :: es) [] pos) S P := by
  intro B Hs σ H o Q q
  refine we_of (pe_callB hc hg hm hv pa_wa hn hdb he hpl) (h B Hs σ H o _ fun Rs S1 vs Hs1 H1 h1 o1 e1 r1 => ?_)
  exact h1 B Hs1 σ H1 vs o1 r1 Q fun R S' v Hs' H' p o' e' => q R S' v Hs' H' p o' (e1.trans e')
theorem le_ct {x : Str} {T : String} {r : List V → Hp → VK → Prop} {p : Pos} (hc : CallR X (.type T) r) (hm : X.mg x = none) (hv : bootBuiltins x = some (.type T)) (h : LA X pn (e :: es) S fun Rs S1 => LRC X pn r Rs S1 P) (hg : Gl X x := by rfl)
    (hn : x ≠ "__name__" := by decide) (hdb : (x == ("__debug__" : Str)) = false := by decide) (he : starEach (e :: es) X.env = (false, eval e X.env) :: starEach es X.env := by rfl) (hpl : (backTo pos (starEach es X.env)).any (·.1) = false := by rfl) :
    LE X pn (.Call (.Name x p) (e :: es) [] pos) S P := by
  intro B Hs σ H o Q q
  refine we_of (pe_callTy hc hg hm hv pa_wa hn hdb he hpl) (h B Hs σ H o _ fun Rs S1 vs Hs1 H1 h1 o1 e1 r1 => ?_)
  exact h1 B Hs1 σ H1 vs o1 r1 Q fun R S' v Hs' H' p o' e' => q R S' v Hs' H' p o' (e1.trans e')
/-- one argument that is just a value, an answer that makes nothing -/
theorem rc_v {r : List V → Hp → VK → Prop} {x z : V} (h : ∀ (H : Hp) (Q : VK), Q z H → r [x] H Q) (q : P (vl z) S) : LRC X pn r [vl x] S P := by
  intro B Hs σ H vs o r1 Q k
  cases r1 with
  | cons r1 r2 =>
    cases r2
    cases (show _ = x from r1)
    exact h H Q (k (vl z) S z Hs H q o (.refl _) rfl)
theorem rc_v2 {r : List V → Hp → VK → Prop} {x y z : V} (h : ∀ (H : Hp) (Q : VK), Q z H → r [x, y] H Q) (q : P (vl z) S) : LRC X pn r [vl x, vl y] S P := by
  intro B Hs σ H vs o r1 Q k
  cases r1 with
  | cons r1 r2 =>
    cases r2 with
    | cons r2 r3 =>
      cases r3
      cases (show _ = x from r1)
      cases (show _ = y from r2)
      exact h H Q (k (vl z) S z Hs H q o (.refl _) rfl)
theorem rc_len {R : Th} {Rs : List Th} (h : SeqT X.K R Rs) (q : P (vl (.int Rs.length)) S) : LRC X pn (fun xs H Q => ∃ p ys, xs = [.ref p] ∧ (SqL X.K H p ys ∨ SqT X.K H p ys) ∧ Q (.int ys.length) H) [R] S P := by
  intro B Hs σ H vs o r1 Q k
  cases r1 with
  | cons r1 r2 =>
    cases r2
    rcases h with rfl | rfl
    · obtain ⟨a, ws, rfl, h2, h3⟩ := r1
      exact ⟨a, ws, rfl, .inr (sqT_mono o.w h2), k _ S _ Hs H q o (.refl _) (by rw [h3.length]; rfl)⟩
    · obtain ⟨a, ws, rfl, h2, h3⟩ := r1
      exact ⟨a, ws, rfl, .inl (SqL.of (o.w _ _ h2)), k _ S _ Hs H q o (.refl _) (by rw [h3.length]; rfl)⟩
theorem alls_bls {H : Hp} : ∀ {bs : List Bool} {vs : List V}, Alls H (bs.map fun b => vl (.bl b)) vs → vs = bs.map V.bl
  | [], _, .nil => rfl
  | b :: bs, _, .cons r t => by
    cases (show _ = V.bl b from r)
    rw [alls_bls t]; rfl
theorem alls_ints {H : Hp} : ∀ {bs : List Int} {vs : List V}, Alls H (bs.map fun b => vl (.int b)) vs → vs = bs.map V.int
  | [], _, .nil => rfl
  | b :: bs, _, .cons r t => by
    cases (show _ = V.int b from r)
    rw [alls_ints t]; rfl
theorem alls_of_ints {H : Hp} : ∀ {bs : List Int}, Alls H (bs.map fun b => vl (.int b)) (bs.map V.int)
  | [] => .nil
  | b :: bs => .cons rfl alls_of_ints
theorem rc_all {bs : List Bool} (q : P (vl (.bl (bs.all id))) S) : LRC X pn (rAll X.K) [lstT (bs.map fun b => vl (.bl b))] S P := by
  intro B Hs σ H vs o r1 Q k
  cases r1 with
  | cons r1 r2 =>
    cases r2
    obtain ⟨a, ws, rfl, h2, h3⟩ := r1
    cases alls_bls h3
    exact ⟨a, bs, rfl, SqL.of (o.w _ _ h2), k _ S _ Hs H q o (.refl _) rfl⟩
theorem rc_any {bs : List Bool} (q : P (vl (.bl (bs.any id))) S) : LRC X pn (rAny X.K) [lstT (bs.map fun b => vl (.bl b))] S P := by
  intro B Hs σ H vs o r1 Q k
  cases r1 with
  | cons r1 r2 =>
    cases r2
    obtain ⟨a, ws, rfl, h2, h3⟩ := r1
    cases alls_bls h3
    exact ⟨a, bs, rfl, SqL.of (o.w _ _ h2), k _ S _ Hs H q o (.refl _) rfl⟩
theorem rc_tuple {R : Th} {Rs : List Th} (h : SeqT X.K R Rs) (q : P (tupT X.K Rs) S) : LRC X pn (fun xs H Q => ∃ p ys, xs = [.ref p] ∧ ((SqL X.K H p ys ∧ ∀ l, H l = none → Q (.ref l) (upd H l (.tup ys))) ∨ (SqT X.K H p ys ∧ Q (.ref p) H))) [R] S P := by
  intro B Hs σ H vs o r1 Q k
  cases r1 with
  | cons r1 r2 =>
    cases r2
    rcases h with rfl | rfl
    · obtain ⟨a, ws, rfl, h2, h3⟩ := r1
      exact ⟨a, ws, rfl, .inr ⟨sqT_mono o.w h2, k _ S _ Hs H q o (.refl _) ⟨a, ws, rfl, h2, h3⟩⟩⟩
    · obtain ⟨a, ws, rfl, h2, h3⟩ := r1
      refine ⟨a, ws, rfl, .inl ⟨SqL.of (o.w _ _ h2), fun l hl => ?_⟩⟩
      have w := Same.upd (o := .tup ws) (o.w.free hl)
      exact k _ S _ _ _ q (o.new hl) w ⟨l, ws, rfl, SqT.of upd_same, h3.mono w⟩
theorem rc_list {R : Th} {Rs : List Th} (h : SeqT X.K R Rs) (q : P (lstT Rs) S) : LRC X pn (fun xs H Q => ∃ p ys, xs = [.ref p] ∧ (SqL X.K H p ys ∨ SqT X.K H p ys) ∧ ∀ l, H l = none → Q (.ref l) (upd H l (.lst ys))) [R] S P := by
  intro B Hs σ H vs o r1 Q k
  cases r1 with
  | cons r1 r2 =>
    cases r2
    rcases h with rfl | rfl
    · obtain ⟨a, ws, rfl, h2, h3⟩ := r1
      refine ⟨a, ws, rfl, .inr (sqT_mono o.w h2), fun l hl => ?_⟩
      have w := Same.upd (o := .lst ws) (o.w.free hl)
      exact k _ S _ _ _ q (o.new hl) w ⟨l, ws, rfl, upd_same, h3.mono w⟩
    · obtain ⟨a, ws, rfl, h2, h3⟩ := r1
      refine ⟨a, ws, rfl, .inl (SqL.of (o.w _ _ h2)), fun l hl => ?_⟩
      have w := Same.upd (o := .lst ws) (o.w.free hl)
      exact k _ S _ _ _ q (o.new hl) w ⟨l, ws, rfl, upd_same, h3.mono w⟩
end

/-! ### statements -/
section
variable {X : Cx} {pn : Option Addr} {a b c e : Expr} {es : List Expr} {st : Stmt} {sts sts' : List Stmt} {pos : Pos} {S : LSt} {D : LD}
theorem LB.mono {D' : LD} (h : LB X pn sts S D) (k1 : ∀ S, D.nx S → D'.nx S) (k2 : ∀ R n, D.rt R n → D'.rt R n) (k3 : ∀ S, D.bk S → D'.bk S) (k4 : ∀ S, D.ct S → D'.ct S) : LB X pn sts S D' :=
  fun B Hs σ H o E t => h B Hs σ H o E ⟨fun S Hs σ H p => t.nx S Hs σ H (k1 S p), fun R S Hs σ v H p => t.rt R S Hs σ v H (k2 R _ p), fun S Hs σ H p => t.bk S Hs σ H (k3 S p), fun S Hs σ H p => t.ct S Hs σ H (k4 S p)⟩
theorem lb_nil (q : D.nx S) : LB X pn [] S D := fun B Hs σ H o E t => wb_of pss_nil (t.nx S Hs σ H q o)
theorem lb_cons (h : L1 X pn st S { D with nx := fun S1 => LB X pn sts S1 D }) : LB X pn (st :: sts) S D := by
  intro B Hs σ H o E t
  refine wb_of (pss_cons ps_ws ps_wb) (h B Hs σ H o _ ⟨fun S1 Hs1 σ1 H1 p o1 => ?_, t.rt, t.bk, t.ct⟩)
  exact p B Hs1 σ1 H1 o1 E t
theorem l1_pass (q : D.nx S) : L1 X pn (.Pass pos) S D := fun B Hs σ H o E t => ws_of ps_pass (t.nx S Hs σ H q o)
theorem l1_break (q : D.bk S) : L1 X pn (.Break pos) S D := fun B Hs σ H o E t => ws_of ps_break (t.bk S Hs σ H q o)
theorem l1_continue (q : D.ct S) : L1 X pn (.Continue pos) S D := fun B Hs σ H o E t => ws_of ps_continue (t.ct S Hs σ H q o)
theorem l1_drop (h : LE X pn e S fun R S1 => D.nx S1) (hs : swapsWith e none pos.line X.env = pure false := by rfl) : L1 X pn (.Expr e pos) S D := fun B Hs σ H o E t =>
  ws_of (ps_expr pe_we hs) (h B Hs σ H o _ fun R S1 v Hs1 H1 p o1 _ _ => t.nx S1 Hs1 σ H1 p o1)
theorem l1_ret (h : LE X pn e S fun R S1 => D.rt R S1) : L1 X pn (.Return (some e) pos) S D := fun B Hs σ H o E t =>
  ws_of (ps_ret pe_we) (h B Hs σ H o _ fun R S1 v Hs1 H1 p o1 _ r => t.rt R S1 Hs1 σ v H1 p o1 r)
theorem l1_if (h : LT X pn c S fun k S1 => if k = true then LB X pn sts S1 D else LB X pn sts' S1 D) : L1 X pn (.If c sts sts' pos) S D := by
  intro B Hs σ H o E t
  refine ws_of (ps_if pt_wt ps_wb ps_wb) (h B Hs σ H o _ fun k S1 Hs1 H1 p o1 _ => ?_)
  cases k with
  | true =>
    show WB X sts E σ H1
    exact (show LB X pn sts S1 D from p) B Hs1 σ H1 o1 E t
  | false =>
    show WB X sts' E σ H1
    exact (show LB X pn sts' S1 D from p) B Hs1 σ H1 o1 E t
/-- a slot gets a value -/
def LSt.put (S : LSt) (i : Nat) (R : Th) : LSt := ⟨S.ρ.set i (some (.sh R)), S.n⟩
theorem StOK.put {K : PySem.W.Frag} {B : Base} {Hs : Hp} {σ : St} {H : Hp} {i : Nat} {R : Th} {v : V} (o : StOK K pn B Hs S σ H) (r : R.p Hs v) : StOK K pn B Hs (S.put i R) (σ.set i (some v)) H where
  e := o.e
  len := by show (S.ρ.set i _).length = _; rw [List.length_set, List.length_set]; exact o.len
  sh := fun j R' h => by
    have h : (S.ρ.set i (some (.sh R)))[j]? = some (some (.sh R')) := h
    by_cases e : j = i
    · subst e
      have hl : j < S.ρ.length := by
        have := (List.getElem?_eq_some_iff.mp h).1
        simpa using this
      rw [List.getElem?_set_self hl] at h
      cases h
      exact ⟨v, by rw [List.getElem?_set_self (by rw [← o.len]; exact hl)], r⟩
    · rw [List.getElem?_set_ne (Ne.symm e)] at h
      rw [List.getElem?_set_ne (Ne.symm e)]
      exact o.sh j R' h
  ow := fun j O h => by
    have h : (S.ρ.set i (some (.sh R)))[j]? = some (some (.ow O)) := h
    by_cases e : j = i
    · subst e
      have hl : j < S.ρ.length := by
        have := (List.getElem?_eq_some_iff.mp h).1
        simpa using this
      rw [List.getElem?_set_self hl] at h
      cases h
    · rw [List.getElem?_set_ne (Ne.symm e)] at h
      rw [List.getElem?_set_ne (Ne.symm e)]
      exact o.ow j O h
  ne := fun j l O O' a h1 h2 h3 h4 => by
    have h1 : (S.ρ.set i (some (.sh R)))[j]? = some (some (.ow O)) := h1
    have h2 : (S.ρ.set i (some (.sh R)))[l]? = some (some (.ow O')) := h2
    have ej : j ≠ i := by
      rintro rfl
      have hl : j < S.ρ.length := by
        have := (List.getElem?_eq_some_iff.mp h1).1
        simpa using this
      rw [List.getElem?_set_self hl] at h1
      cases h1
    have el : l ≠ i := by
      rintro rfl
      have hl : l < S.ρ.length := by
        have := (List.getElem?_eq_some_iff.mp h2).1
        simpa using this
      rw [List.getElem?_set_self hl] at h2
      cases h2
    rw [List.getElem?_set_ne (Ne.symm ej)] at h1 h3
    rw [List.getElem?_set_ne (Ne.symm el)] at h2 h4
    exact o.ne j l O O' a h1 h2 h3 h4
  pen := o.pen
theorem l1_set {i : Nat} {x : Str} {pos' : Pos} (h : LE X pn e S fun R S1 => D.nx (S1.put i R)) (hN : X.N.Nodup) (hi : X.N[i]? = some x := by rfl) (hx : Loc X.env.scope x := by first | exact .inl rfl | exact .inr rfl)
    (hs : swapsWith e (some (.Name x pos')) pos.line X.env = pure false := by rfl) (hf : X.fn x = true ∨ X.env.scope.names.lookup x = some .local := by first | exact .inl rfl | exact .inr rfl) : L1 X pn (.Assign [.Name x pos'] e pos) S D := by
  intro B Hs σ H o E t
  refine ws_of (ps_set hN hi hx pe_we hs hf) (h B Hs σ H o _ fun R S1 v Hs1 H1 p o1 _ r => ?_)
  exact t.nx _ Hs1 _ H1 p (o1.put r)
end
end DL
set_option Elab.async false
set_option linter.all false
set_option maxRecDepth 100000
set_option maxHeartbeats 4000000
namespace DL
open PySem PySem.Spec L2
open PyProof.Rows hiding St

/-! ### targets -/
def WG (X : Cx) (tg : Expr) : TG := fun v σ H Q => ∀ pins s u, Inv X pins σ H s → RelV v u → wpAny (model X.prog X.w) X.A (assign tg X.env u) (fun _ s' => ∃ σ' H', Inv X pins σ' H' s' ∧ Q σ' H') X.xe s
def WGs (X : Cx) (tgs : List Expr) : TGs := fun vs σ H Q => ∀ pins s us, Inv X pins σ H s → Vals vs us → wpAny (model X.prog X.w) X.A (assignInOrder ((assignEach tgs X.env).map (·.2)) us) (fun _ s' => ∃ σ' H', Inv X pins σ' H' s' ∧ Q σ' H') X.xe s
theorem pg_wg {X : Cx} {tg : Expr} : PG X tg (WG X tg) := ⟨fun pins s σ H v u Q I r h => h pins s u I r⟩
theorem pgs_wgs {X : Cx} {tgs : List Expr} : PGs X tgs (WGs X tgs) := ⟨fun pins s σ H v u Q I r h => h pins s u I r⟩
theorem wg_of {X : Cx} {tg : Expr} {t : TG} {v : V} {σ : St} {H : Hp} {Q : St → Hp → Prop} (h : PG X tg t) (q : t v σ H Q) : WG X tg v σ H Q := fun pins s u I r => h.run pins s σ H v u Q I r q
theorem wgs_of {X : Cx} {tg : List Expr} {t : TGs} {v : List V} {σ : St} {H : Hp} {Q : St → Hp → Prop} (h : PGs X tg t) (q : t v σ H Q) : WGs X tg v σ H Q := fun pins s u I r => h.run pins s σ H v u Q I r q
theorem wipe_set {σ : St} {j : Nat} {x : Option V} : ∀ {vs : List Nat}, j ∈ vs → wipe (σ.set j x) vs = wipe σ vs
  | v :: vs, h => by
    unfold wipe
    by_cases e : j = v
    · subst e
      by_cases hm : j ∈ vs
      · rw [wipe_set hm]
      · have : ∀ (vs : List Nat) (σ : St), j ∉ vs → (wipe (σ.set j x) vs) = (wipe σ vs).set j x := by
          intro vs
          induction vs with
          | nil => intro σ _; rfl
          | cons w ws ih =>
            intro σ h
            unfold wipe
            rw [ih σ (fun z => h (List.mem_cons_of_mem _ z)), List.set_comm]
            exact fun z => h (by rw [z]; exact List.mem_cons_self)
        rw [this vs σ hm, List.set_set]
    · have hm : j ∈ vs := by
        rcases List.mem_cons.mp h with z | z
        · exact absurd z e
        · exact z
      rw [wipe_set hm]

theorem wipe_wipe {σ : St} : ∀ {vs : List Nat}, wipe (wipe σ vs) vs = wipe σ vs := by
  have aux : ∀ (vs ws : List Nat), (∀ v ∈ vs, v ∈ ws) → wipe (wipe σ ws) vs = wipe σ ws := by
    intro vs
    induction vs with
    | nil => intro ws _; rfl
    | cons v vs ih =>
      intro ws h
      show (wipe (wipe σ ws) vs).set v none = wipe σ ws
      rw [ih ws fun u hu => h u (List.mem_cons_of_mem _ hu)]
      refine List.ext_getElem? fun i => ?_
      by_cases e : v = i
      · subst e
        by_cases hl : v < (wipe σ ws).length
        · rw [List.getElem?_set_self hl]
          cases q : (wipe σ ws)[v]? with
          | none => rw [List.getElem?_eq_getElem hl] at q; cases q
          | some x =>
            cases x with
            | none => rfl
            | some y => exact absurd (h v List.mem_cons_self) (wipe_some q).2
        · rw [List.getElem?_eq_none (by rw [List.length_set]; omega), List.getElem?_eq_none (by omega)]
      · rw [List.getElem?_set_ne e]
  intro vs
  exact aux vs vs fun _ h => h

/-- a target gets a value: only the slots vs change -/
def LG (X : Cx) (pn : Option Addr) (vs : List Nat) (tg : Expr) (S : LSt) (R : Th) (P : LSt → Prop) : Prop :=
  ∀ B Hs σ H v, StOK X.K pn B Hs S σ H → R.p Hs v → ∀ Q : St → Hp → Prop, (∀ S' σ' Hs' H', P S' → StOK X.K pn B Hs' S' σ' H' → Same Hs Hs' → wipe σ' vs = wipe σ vs → Q σ' H') → WG X tg v σ H Q
def LGs (X : Cx) (pn : Option Addr) (vs : List Nat) (tgs : List Expr) (S : LSt) (Rs : List Th) (P : LSt → Prop) : Prop :=
  ∀ B Hs σ H xs, StOK X.K pn B Hs S σ H → Alls Hs Rs xs → ∀ Q : St → Hp → Prop, (∀ S' σ' Hs' H', P S' → StOK X.K pn B Hs' S' σ' H' → Same Hs Hs' → wipe σ' vs = wipe σ vs → Q σ' H') → WGs X tgs xs σ H Q
section
variable {X : Cx} {pn : Option Addr} {vs : List Nat} {pos : Pos} {S : LSt} {R : Th} {P : LSt → Prop}
theorem lg_name {i : Nat} {x : Str} (q : P (S.put i R)) (hN : X.N.Nodup) (hi : X.N[i]? = some x := by rfl) (hx : Loc X.env.scope x := by first | exact .inl rfl | exact .inr rfl) (hv : i ∈ vs := by decide)
    (hf : X.fn x = true ∨ X.env.scope.names.lookup x = some .local := by first | exact .inl rfl | exact .inr rfl) : LG X pn vs (.Name x pos) S R P := by
  intro B Hs σ H v o r Q k
  exact wg_of (pg_name hN hi hx hf) (k _ _ Hs H q (o.put r) (.refl _) (wipe_set hv))
theorem lgs_nil (q : P S) : LGs X pn vs [] S [] P := by
  intro B Hs σ H xs o r Q k
  cases r
  exact wgs_of pgs_nil ⟨rfl, k S σ Hs H q o (.refl _) rfl⟩
theorem lgs_cons {e : Expr} {es : List Expr} {Rs : List Th} (h : LG X pn vs e S R fun S1 => LGs X pn vs es S1 Rs P) (hs : (assignEach (e :: es) X.env).map (·.2) = assign e X.env :: (assignEach es X.env).map (·.2) := by rfl) : LGs X pn vs (e :: es) S (R :: Rs) P := by
  intro B Hs σ H xs o r Q k
  cases r with
  | cons r t =>
    refine wgs_of (pgs_cons pg_wg pgs_wgs hs) ⟨_, _, rfl, h B Hs σ H _ o r _ fun S1 σ1 Hs1 H1 p o1 e1 w1 => ?_⟩
    exact p B Hs1 σ1 H1 _ o1 (Alls.mono e1 t) Q fun S2 σ2 Hs2 H2 p2 o2 e2 w2 => k S2 σ2 Hs2 H2 p2 o2 (e1.trans e2) (w2.trans w1)
theorem lg_tup {es : List Expr} {k : Nat} {n : Nat} (h : ∃ Rs, R = tupT X.K Rs ∧ Rs.length = n ∧ LGs X pn vs es S Rs P) (hc : X.calm = true := by rfl)
    (hn : (assignEach es X.env).length = n := by rfl) (hst : (assignEach es X.env).findIdx? (·.1) = none := by rfl) : LG X pn vs (.Tuple es k pos) S R P := by
  intro B Hs σ H v o r Q q
  obtain ⟨Rs, rfl, hl, h⟩ := h
  obtain ⟨a, ws, rfl, h2, h3⟩ := r
  exact wg_of (pg_tup hc pgs_wgs hn hst) ⟨a, ws, rfl, sqT_mono o.w h2, by rw [← h3.length]; exact hl, h B Hs σ H ws o h3 Q q⟩
end

/-! ### what is walked -/
structure GoodIt (J : It) (Rs : List Th) (Hs0 : Hp) : Prop where
  go : ∀ i Hc H, Same Hs0 Hc → Same Hc H → i < Rs.length → J.go i H
  stop : ∀ i Hc H, Same Hs0 Hc → Same Hc H → Rs.length ≤ i → J.stop i H
  yld : ∀ i Hc H x H', Same Hs0 Hc → Same Hc H → i < Rs.length → J.yld i H x H' → ∃ R Hc', Rs[i]? = some R ∧ Ext none Hc H Hc' H' ∧ R.p Hc' x
def LIc (X : Cx) (pn : Option Addr) (tg iter : Expr) (C : St → Hp → Prop) (S : LSt) (P : List Th → LSt → Prop) : Prop :=
  ∃ wi, PI X tg iter wi ∧ ∀ B Hs σ H, StOK X.K pn B Hs S σ H → C σ H → ∀ R : It → Hp → Prop, (∀ Rs S' Hs' H' J, P Rs S' → StOK X.K pn B Hs' S' σ H' → Same Hs Hs' → GoodIt J Rs Hs' → R J H') → wi σ H R
abbrev LI (X : Cx) (pn : Option Addr) (tg iter : Expr) (S : LSt) (P : List Th → LSt → Prop) : Prop := LIc X pn tg iter (fun _ _ => True) S P
section
variable {X : Cx} {pn : Option Addr} {tg e iter : Expr} {pos p : Pos} {S : LSt} {P : List Th → LSt → Prop}
theorem Rd.tup_inj {H : Hp} {a : Addr} {xs ys : List V} (h : Rd H a (.tup xs)) (h' : Rd H a (.tup ys)) : xs = ys := by
  rcases h with h | ⟨o, h⟩ <;> rcases h' with h' | ⟨o', h'⟩ <;> (rw [h] at h'; cases h'; try rfl)
theorem good_tup {K : PySem.W.Frag} {Hs : Hp} {a : Addr} {vs : List V} {Rs : List Th} (h2 : SqT K Hs a vs) (h3 : Alls Hs Rs vs) : GoodIt (Itt K a) Rs Hs where
  go := fun i Hc H w1 w2 hi => by
    have hi' : i < vs.length := by rw [← h3.length]; exact hi
    exact ⟨vs, vs[i], sqT_mono (w1.trans w2) h2, List.getElem?_eq_getElem hi'⟩
  stop := fun i Hc H w1 w2 hi => ⟨vs, sqT_mono (w1.trans w2) h2, by rw [← h3.length]; exact hi⟩
  yld := fun i Hc H x H' w1 w2 _ hy => by
    obtain ⟨rfl, hy⟩ := hy
    obtain ⟨R, h4, h5⟩ := h3.getV (hy vs (sqT_mono (w1.trans w2) h2))
    exact ⟨R, Hc, h4, Ext.refl w2, R.mono w1 h5⟩
theorem good_lst {K : PySem.W.Frag} {Hs : Hp} {a : Addr} {vs : List V} {Rs : List Th} (h2 : SqL K Hs a vs) (h3 : Alls Hs Rs vs) : GoodIt (Itl K a) Rs Hs where
  go := fun i Hc H w1 w2 hi => by
    have hi' : i < vs.length := by rw [← h3.length]; exact hi
    exact ⟨vs, vs[i], sqL_mono (w1.trans w2) h2, List.getElem?_eq_getElem hi'⟩
  stop := fun i Hc H w1 w2 hi => ⟨vs, sqL_mono (w1.trans w2) h2, by rw [← h3.length]; exact hi⟩
  yld := fun i Hc H x H' w1 w2 _ hy => by
    obtain ⟨rfl, hy⟩ := hy
    obtain ⟨R, h4, h5⟩ := h3.getV (hy vs (sqL_mono (w1.trans w2) h2))
    exact ⟨R, Hc, h4, Ext.refl w2, R.mono w1 h5⟩
theorem li_tup (h : LE X pn iter S fun R S1 => ∃ Rs, R = tupT X.K Rs ∧ P Rs S1) : LI X pn tg iter S P := by
  refine ⟨_, pi_tup pe_we, fun B Hs σ H o _ R k => h B Hs σ H o _ fun R' S1 x Hs1 H1 p o1 e1 r1 => ?_⟩
  obtain ⟨Rs, rfl, q⟩ := p
  obtain ⟨a, vs, rfl, h2, h3⟩ := r1
  exact ⟨a, rfl, ⟨vs, sqT_mono o1.w h2⟩, k Rs S1 Hs1 H1 _ q o1 e1 (good_tup h2 h3)⟩
theorem li_lst (h : LE X pn iter S fun R S1 => ∃ Rs, R = lstT Rs ∧ P Rs S1) : LI X pn tg iter S P := by
  refine ⟨_, pi_list pe_we, fun B Hs σ H o _ R k => h B Hs σ H o _ fun R' S1 x Hs1 H1 p o1 e1 r1 => ?_⟩
  obtain ⟨Rs, rfl, q⟩ := p
  obtain ⟨a, vs, rfl, h2, h3⟩ := r1
  exact ⟨a, rfl, ⟨vs, SqL.of (o1.w _ _ h2)⟩, k Rs S1 Hs1 H1 _ q o1 e1 (good_lst (SqL.of h2) h3)⟩
theorem good_range {Hs : Hp} {lo : Int} {n : Nat} : GoodIt (Itr lo n) ((List.range n).map fun (i : Nat) => vl (.int (lo + (i : Int)))) Hs where
  go := fun i Hc H w1 w2 hi => by
    rw [List.length_map, List.length_range] at hi
    exact hi
  stop := fun i Hc H w1 w2 hi => by
    rw [List.length_map, List.length_range] at hi
    exact hi
  yld := fun i Hc H x H' w1 w2 hi hy => by
    obtain ⟨rfl, rfl⟩ := hy
    rw [List.length_map, List.length_range] at hi
    exact ⟨vl (.int (lo + (i : Int))), Hc, by rw [List.getElem?_map, List.getElem?_range hi]; rfl, Ext.refl w2, rfl⟩
theorem li_range1 {a : Expr} (hm : X.mg "range" = none) (h : LA X pn [a] S fun Rs S1 => ∃ j : Int, Rs = [vl (.int j)] ∧ -(2 ^ 62) ≤ j ∧ j < 2 ^ 62 ∧ P ((List.range j.toNat).map fun (i : Nat) => vl (.int (0 + (i : Int)))) S1)
    (hg : Gl X "range" := by rfl) (hs : starEach [a] X.env = [(false, eval a X.env)] := by rfl) : LI X pn tg (.Call (.Name "range" p) [a] [] pos) S P := by
  refine ⟨_, pi_range1 hg hm pa_wa hs, fun B Hs σ H o _ R k => h B Hs σ H o _ fun Rs S1 vs Hs1 H1 q o1 e1 r1 => ?_⟩
  obtain ⟨j, rfl, h1, h2, q⟩ := q
  cases r1 with
  | cons r1 r2 =>
    cases r2
    cases (show _ = V.int j from r1)
    exact ⟨j, rfl, h1, h2, k _ S1 Hs1 H1 _ q o1 e1 good_range⟩
theorem li_range2 {a b : Expr} (hm : X.mg "range" = none) (h : LA X pn [a, b] S fun Rs S1 => ∃ i j : Int, Rs = [vl (.int i), vl (.int j)] ∧ (-(2 ^ 62) ≤ i ∧ i < 2 ^ 62 ∧ -(2 ^ 62) ≤ j ∧ j < 2 ^ 62) ∧ P ((List.range (j - i).toNat).map fun (k : Nat) => vl (.int (i + (k : Int)))) S1)
    (hg : Gl X "range" := by rfl) (hs : starEach [a, b] X.env = [(false, eval a X.env), (false, eval b X.env)] := by rfl) (hs2 : starEach [b] X.env = [(false, eval b X.env)] := by rfl) : LI X pn tg (.Call (.Name "range" p) [a, b] [] pos) S P := by
  refine ⟨_, pi_range2 hg hm pa_wa hs hs2, fun B Hs σ H o _ R k => h B Hs σ H o _ fun Rs S1 vs Hs1 H1 q o1 e1 r1 => ?_⟩
  obtain ⟨i, j, rfl, h1, q⟩ := q
  cases r1 with
  | cons r1 r2 =>
    cases r2 with
    | cons r2 r3 =>
      cases r3
      cases (show _ = V.int i from r1)
      cases (show _ = V.int j from r2)
      exact ⟨i, j, rfl, h1, k _ S1 Hs1 H1 _ q o1 e1 good_range⟩
end

/-! ### the states of a block -/
def keepSh : Option Ent → Option Ent
  | some (.sh R) => some (.sh R)
  | _ => none
def wipeR (ρ : List (Option Ent)) : List Nat → List (Option Ent)
  | [] => ρ.map keepSh
  | v :: vs => (wipeR ρ vs).set v none
theorem wipeR_length (ρ : List (Option Ent)) : ∀ vs : List Nat, (wipeR ρ vs).length = ρ.length
  | [] => by unfold wipeR; rw [List.length_map]
  | v :: vs => by unfold wipeR; rw [List.length_set, wipeR_length ρ vs]
theorem wipeR_get {ρ : List (Option Ent)} {i : Nat} {x : Ent} : ∀ {vs : List Nat}, (wipeR ρ vs)[i]? = some (some x) → i ∉ vs ∧ ρ[i]? = some (some x) ∧ ∃ R, x = .sh R
  | [], h => by
    unfold wipeR at h
    rw [List.getElem?_map] at h
    cases e : ρ[i]? with
    | none => rw [e] at h; cases h
    | some y =>
      rw [e] at h
      cases y with
      | none => cases h
      | some z =>
        cases z with
        | sh R => cases h; exact ⟨by simp, rfl, R, rfl⟩
        | ow O => cases h
  | v :: vs, h => by
    unfold wipeR at h
    by_cases e : v = i
    · subst e
      by_cases hl : v < (wipeR ρ vs).length
      · rw [List.getElem?_set_self hl] at h
        cases h
      · rw [List.getElem?_eq_none (by rw [List.length_set]; omega)] at h
        cases h
    · rw [List.getElem?_set_ne e] at h
      obtain ⟨h1, h2⟩ := wipeR_get h
      exact ⟨by simp [h1, Ne.symm e], h2⟩
section
variable {K : PySem.W.Frag} {pn : Option Addr} {B : Base} {Hs Hs' : Hp} {S : LSt} {σ : St} {H H' : Hp}
/-- a block's beginning -/
theorem StOK.blk (o : StOK K pn B Hs S σ H) (vs : List Nat) : StOK K pn ⟨Hs, H, B.c⟩ Hs ⟨wipeR S.ρ vs, S.n⟩ (wipe σ vs) H where
  e := Ext.refl o.w
  len := by rw [wipeR_length, wipe_length]; exact o.len
  sh := fun i R h => by
    obtain ⟨h1, h2, _⟩ := wipeR_get h
    rw [wipe_out h1]
    exact o.sh i R h2
  ow := fun i O h => by
    obtain ⟨_, _, R, h3⟩ := wipeR_get h
    cases h3
  ne := fun i j O O' a h => by
    obtain ⟨_, _, R, h3⟩ := wipeR_get h
    cases h3
  pen := fun a h => ⟨(o.pen a h).1, fun z => by
    obtain ⟨_, ns, t, r, e, _⟩ := (o.pen a h).1
    have z : H a = none := z
    rw [e] at z
    cases z⟩
/-- on to later heaps, draws among them -/
theorem StOK.extN (o : StOK K pn B Hs S σ H) (x : Ext pn Hs H Hs' H') {n : Nat} (hp : ∀ a, pn = some a → PenAt K B.c a n Hs' H') : StOK K pn B Hs' ⟨S.ρ, n⟩ σ H' where
  e := o.e.trans x
  len := o.len
  sh := fun i R h => let ⟨v, h1, h2⟩ := o.sh i R h; ⟨v, h1, R.mono x.s h2⟩
  ow := fun i O h => by
    obtain ⟨a, u, h1, h2, h3, h4, h5⟩ := o.ow i O h
    exact ⟨a, u, h1, h2, x.f a h3 (by rw [h4]; simp), x.k _ _ h4 (fun z => (o.pen a z).2 h2), O.mono x.s h5⟩
  ne := o.ne
  pen := fun a h => ⟨hp a h, (o.pen a h).2⟩
theorem StOK.rebase (o : StOK K pn B Hs S σ H) : StOK K pn ⟨Hs, B.h, B.c⟩ Hs S σ H :=
  ⟨⟨.refl _, o.e.w, o.e.k, o.e.t, fun _ h _ => h⟩, o.len, o.sh, o.ow, o.ne, o.pen⟩
theorem StOK.back {Hs0 : Hp} (o : StOK K pn ⟨Hs0, B.h, B.c⟩ Hs S σ H) (h : Same B.s Hs0) (f : ∀ b, B.s b = none → B.h b ≠ none → Hs0 b = none) : StOK K pn B Hs S σ H :=
  ⟨⟨h.trans o.e.s, o.e.w, o.e.k, o.e.t, fun b h1 h2 => o.e.f b (f b h1 h2) h2⟩, o.len, o.sh, o.ow, o.ne, o.pen⟩
theorem LD.To.rebase {D : LD} {E : Ends} (t : LD.To K pn B D E) (o : StOK K pn B Hs S σ H) : LD.To K pn ⟨Hs, B.h, B.c⟩ D E :=
  ⟨fun S Hs σ H p q => t.nx S Hs σ H p (q.back o.e.s o.e.f), fun R S Hs σ v H p q => t.rt R S Hs σ v H p (q.back o.e.s o.e.f), fun S Hs σ H p q => t.bk S Hs σ H p (q.back o.e.s o.e.f), fun S Hs σ H p q => t.ct S Hs σ H p (q.back o.e.s o.e.f)⟩
end

/-! ### comprehensions -/
abbrev Blk (X : Cx) (scope : Scope) (J : Cx → Prop) : Prop := ∀ (s : Shared) (H : Hp) (C : Addr) (cl : List (Str × Addr)) (fp : List Addr), J (X.blk s H scope (compEnvC scope cl C X.env) fp)
def WTs (X : Cx) (ifs : List Expr) : TT := fun σ H Q => ∀ pins s, Inv X pins σ H s →
  wpAny (model X.prog X.w) X.A (forIn ifs true fun c r => if r = true then do let ok ← isTrue c X.env (eval c X.env); pure (ForInStep.yield ok) else pure (ForInStep.yield r)) (TP X pins σ Q) X.xe s
theorem pts_wts {X : Cx} {ifs : List Expr} : PTs X ifs (WTs X ifs) := ⟨fun pins s σ H Q I h => h pins s I⟩
def LTs (X : Cx) (pn : Option Addr) (ifs : List Expr) (S : LSt) (P : Bool → LSt → Prop) : Prop :=
  ∀ B Hs σ H, StOK X.K pn B Hs S σ H → ∀ Q : Bool → Hp → Prop, (∀ b S' Hs' H', P b S' → StOK X.K pn B Hs' S' σ H' → Same Hs Hs' → Q b H') → WTs X ifs σ H Q
section
variable {X : Cx} {pn : Option Addr} {c elt tg iter : Expr} {ifs : List Expr} {scope : Scope} {own : List (Str × Nat)} {pos : Pos} {S : LSt} {P : Th → LSt → Prop} {PB : Bool → LSt → Prop}
theorem lts_nil (q : PB true S) : LTs X pn [] S PB := fun B Hs σ H o Q k pins s I => pts_nil.run pins s σ H Q I (k true S Hs H q o (.refl _))
theorem lts_one (h : LT X pn c S PB) : LTs X pn [c] S PB := fun B Hs σ H o Q k pins s I => (pts_one pt_wt).run pins s σ H Q I (h B Hs σ H o Q k)
/-- what is said of a comprehension behind the walked thing -/
def LCI (X : Cx) (pn : Option Addr) (elt tg : Expr) (ifs : List Expr) (scope : Scope) (vs : List Nat) (P : Th → LSt → Prop) (Rs : List Th) (S1 : LSt) : Prop :=
  Rs.length ≤ 100000 ∧ ∃ I : Nat → List Th → Nat → Prop, I 0 [] S1.n ∧
    (∀ i R acc n, Rs[i]? = some R → I i acc n → Blk X scope fun Y => LG Y pn vs tg ⟨wipeR S1.ρ vs, n⟩ R fun S2 => Blk X scope fun Y => LTs Y pn ifs S2 fun b S3 => if b = true then Blk X scope fun Y => LE Y pn elt S3 fun R' S4 => I (i + 1) (acc ++ [R']) S4.n else I (i + 1) acc S3.n) ∧
    ∀ acc n, I Rs.length acc n → P (lstT acc) ⟨S1.ρ, n⟩
/-- what is said of a comprehension -/
def LCc (X : Cx) (pn : Option Addr) (elt tg iter : Expr) (ifs : List Expr) (scope : Scope) (vs : List Nat) (C : St → Hp → Prop) (S : LSt) (P : Th → LSt → Prop) : Prop :=
  LIc X pn tg iter C S (LCI X pn elt tg ifs scope vs P)
abbrev LC (X : Cx) (pn : Option Addr) (elt tg iter : Expr) (ifs : List Expr) (scope : Scope) (vs : List Nat) (S : LSt) (P : Th → LSt → Prop) : Prop := LCc X pn elt tg iter ifs scope vs (fun _ _ => True) S P
theorem lc_runF {C : St → Hp → Prop} (h : LCc X pn elt tg iter ifs scope (own.map Prod.snd) C S P) :
    ∃ wi g tt te, PI X tg iter wi ∧ (∀ (s : Shared) (H : Hp) (C : Addr) (cl : List (Str × Addr)) (fp : List Addr), PG (X.blk s H scope (compEnvC scope cl C X.env) fp) tg g) ∧ (∀ (s : Shared) (H : Hp) (C : Addr) (cl : List (Str × Addr)) (fp : List Addr), PTs (X.blk s H scope (compEnvC scope cl C X.env) fp) ifs tt) ∧
      (∀ (s : Shared) (H : Hp) (C : Addr) (cl : List (Str × Addr)) (fp : List Addr), PE (X.blk s H scope (compEnvC scope cl C X.env) fp) elt te) ∧
      ∀ B Hs σ H, StOK X.K pn B Hs S σ H → C σ H → ∀ Q : VK, (∀ R S' v Hs' H', P R S' → StOK X.K pn B Hs' S' σ H' → Same Hs Hs' → R.p Hs' v → (∃ l, v = .ref l ∧ B.h l = none) → Q v H') → tLc wi g tt te (own.map Prod.snd) σ H Q := by
  obtain ⟨wi, pi, hi⟩ := h
  refine ⟨wi, fun v σ H Q => Blk X scope fun Y => WG Y tg v σ H Q, fun σ H Q => Blk X scope fun Y => WTs Y ifs σ H Q, fun σ H Q => Blk X scope fun Y => WE Y elt σ H Q, pi,
    fun s H C cl fp => ⟨fun pins s' σ H' v u Q I r h => h s H C cl fp pins s' u I r⟩, fun s H C cl fp => ⟨fun pins s' σ H' Q I h => h s H C cl fp pins s' I⟩, fun s H C cl fp => ⟨fun pins s' σ H' Q I h => h s H C cl fp pins s' I⟩, fun B Hs σ H o hC Q k => ?_⟩
  refine hi B Hs σ H o hC _ fun Rs S1 Hs1 H1 J p o1 e1 g => ?_
  obtain ⟨hz, I, i0, it, ie⟩ := p
  intro D hD
  have npn : pn ≠ some D := fun z => by
    obtain ⟨⟨_, ns, t, r, e, _⟩, _⟩ := o1.pen D z
    rw [hD] at e; cases e
  refine ⟨fun i m H2 => i ≤ Rs.length ∧ m = Rs.length - i ∧ ∃ acc vs Hs2 n, I i acc n ∧ Alls Hs2 acc vs ∧ H2 D = some (.lst vs) ∧ vs.length ≤ i ∧ Hs2 D = none ∧ Ext pn Hs1 H1 Hs2 H2 ∧ ∀ a, pn = some a → PenAt X.K B.c a n Hs2 H2, ⟨_, Nat.zero_le _, rfl, [], [], Hs1, S1.n, i0, .nil, upd_same, Nat.le_refl _, o1.w.free hD, ?_, ?_⟩, fun i m H2 w => ?_⟩
  · exact ⟨.refl _, Same.upd2 o1.w (o1.w.free hD), fun b u h _ => by rw [upd_ne (ne_of_none h hD)]; exact h, fun b h => by
      by_cases hb : b = D
      · subst hb; exact absurd hD h
      · rw [upd_ne hb]; exact h, fun _ h _ => h⟩
  · intro a ha
    obtain ⟨⟨h0, ns, t, r, e, h2⟩, _⟩ := o1.pen a ha
    have hne : a ≠ D := fun z => npn (by rw [← z]; exact ha)
    exact ⟨h0, ns, t, r, by rw [upd_ne hne]; exact e, h2⟩
  · obtain ⟨hil, rfl, acc, vs, Hs2, n, hI, ha, hd, hv, hn, x, hp⟩ := w
    have o2 : StOK X.K pn B Hs2 ⟨S1.ρ, n⟩ σ H2 := o1.extN x hp
    by_cases hlt : i < Rs.length
    · refine .inr ⟨g.go i Hs2 H2 x.s x.w hlt, fun H' => i + 1 ≤ Rs.length ∧ ∃ acc vs Hs2 n, I (i + 1) acc n ∧ Alls Hs2 acc vs ∧ H' D = some (.lst vs) ∧ vs.length ≤ i + 1 ∧ Hs2 D = none ∧ Ext pn Hs1 H1 Hs2 H' ∧ ∀ a, pn = some a → PenAt X.K B.c a n Hs2 H', fun H' ⟨q1, q⟩ => ⟨_, by omega, q1, rfl, q⟩, fun y H' hy => ?_⟩
      obtain ⟨R, Hs3, hR, x3, r3⟩ := g.yld i Hs2 H2 y H' x.s x.w hlt hy
      have o3 : StOK X.K pn B Hs3 ⟨S1.ρ, n⟩ σ H' := o2.ext x3
      have ob := o3.blk (own.map Prod.snd)
      intro s0 H0 C0 cl0 fp0
      refine it i R acc n hR hI s0 H0 C0 cl0 fp0 _ _ _ _ y ob r3 _ fun S4 σ4 Hs4 H4 p4 o4 e4 w4 => ⟨w4.trans wipe_wipe, ?_⟩
      intro s1 H1' C1 cl1 fp1
      refine p4 s1 H1' C1 cl1 fp1 _ _ _ _ o4 _ fun b S5 Hs5 H5 p5 o5 e5 => ?_
      have dk : ∀ H', Same H2 H' → H' D = some (.lst vs) := fun H' s => s _ _ hd
      have x3n : Hs3 D = none := x3.f D hn (by rw [hd]; simp)
      cases b with
      | true =>
        show Blk X scope fun Y => WE Y elt σ4 H5 _
        intro s2 H2' C2 cl2 fp2
        refine (show Blk X scope fun Y => LE Y pn elt S5 fun R' S4 => I (i + 1) (acc ++ [R']) S4.n from p5) s2 H2' C2 cl2 fp2 _ _ _ _ o5 _ fun R' S6 y' Hs6 H6 p6 o6 e6 r6 => ?_
        have x6 : Ext pn Hs3 H' Hs6 H6 := o6.e
        have hd6 : H6 D = some (.lst vs) := x6.k _ _ (x3.same _ _ hd) npn
        have hn6 : Hs6 D = none := x6.f D x3n (by rw [x3.same _ _ hd]; simp)
        refine ⟨vs, hd6, Nat.lt_of_le_of_lt hv (Nat.lt_of_lt_of_le hlt (Nat.le_trans hz (by decide))), by omega, acc ++ [R'], vs ++ [y'], Hs6, S6.n, p6, ?_, upd_same, by rw [List.length_append]; simp; omega, hn6, ?_, ?_⟩
        · exact ((ha.mono (x3.s.trans x6.s))).snoc r6
        · have xx : Ext pn Hs1 H1 Hs6 H6 := (x.trans x3.pen).trans x6
          exact ⟨xx.s, Same.upd2 xx.w hn6, fun b u h hq => by rw [upd_ne (ne_of_none h hD)]; exact xx.k b u h hq, fun b h => by
            by_cases hb : b = D
            · subst hb; rw [upd_same]; simp
            · rw [upd_ne hb]; exact xx.t b h, xx.f⟩
        · intro a hpa
          obtain ⟨⟨h0, ns, t, r, e, h2⟩, _⟩ := o6.pen a hpa
          have hne : a ≠ D := fun z => npn (by rw [← z]; exact hpa)
          exact ⟨h0, ns, t, r, by rw [upd_ne hne]; exact e, h2⟩
      | false =>
        have p5 : I (i + 1) acc S5.n := p5
        have x5 : Ext pn Hs3 H' Hs5 H5 := o5.e
        exact ⟨by omega, acc, vs, Hs5, S5.n, p5, ha.mono (x3.s.trans x5.s), x5.k _ _ (x3.same _ _ hd) npn, by omega, x5.f D x3n (by rw [x3.same _ _ hd]; simp), (x.trans x3.pen).trans x5, fun a hpa => (o5.pen a hpa).1⟩
    · have e : i = Rs.length := by omega
      subst e
      refine .inl ⟨g.stop _ Hs2 H2 x.s x.w (Nat.le_refl _), ?_⟩
      have w := Same.upd (H := Hs2) (o := .lst vs) hn
      have hbD : B.h D = none := by
        cases q : B.h D with
        | none => rfl
        | some u => exact absurd hD (o1.e.t D (by rw [q]; simp))
      refine k (lstT acc) ⟨S1.ρ, n⟩ (.ref D) (upd Hs2 D (.lst vs)) H2 (ie acc n hI) ?_ (e1.trans (x.s.trans w)) ⟨D, vs, rfl, upd_same, ha.mono w⟩ ⟨D, rfl, hbD⟩
      have wH : Same (upd Hs2 D (.lst vs)) H2 := fun b u h => by
        by_cases hb : b = D
        · subst hb; rw [upd_same] at h; cases h; exact hd
        · rw [upd_ne hb] at h; exact x.w _ _ h
      refine o1.extN (n := n) ⟨x.s.trans w, wH, x.k, x.t, fun b h1 h2 => ?_⟩ fun a hpa => ?_
      · by_cases hb : b = D
        · subst hb; exact absurd hD h2
        · rw [upd_ne hb]; exact x.f b h1 h2
      · obtain ⟨h0, ns, t, r, e, h2, h3⟩ := hp a hpa
        have hne : a ≠ D := fun z => npn (by rw [← z]; exact hpa)
        exact ⟨by rw [upd_ne hne]; exact h0, ns, t, r, e, w _ _ h2, h3⟩
theorem lc_run {C : St → Hp → Prop} (h : LCc X pn elt tg iter ifs scope (own.map Prod.snd) C S P) :
    ∃ wi g tt te, PI X tg iter wi ∧ (∀ (s : Shared) (H : Hp) (C : Addr) (cl : List (Str × Addr)) (fp : List Addr), PG (X.blk s H scope (compEnvC scope cl C X.env) fp) tg g) ∧ (∀ (s : Shared) (H : Hp) (C : Addr) (cl : List (Str × Addr)) (fp : List Addr), PTs (X.blk s H scope (compEnvC scope cl C X.env) fp) ifs tt) ∧
      (∀ (s : Shared) (H : Hp) (C : Addr) (cl : List (Str × Addr)) (fp : List Addr), PE (X.blk s H scope (compEnvC scope cl C X.env) fp) elt te) ∧
      ∀ B Hs σ H, StOK X.K pn B Hs S σ H → C σ H → ∀ Q : VK, (∀ R S' v Hs' H', P R S' → StOK X.K pn B Hs' S' σ H' → Same Hs Hs' → R.p Hs' v → Q v H') → tLc wi g tt te (own.map Prod.snd) σ H Q := by
  obtain ⟨wi, g, tt, te, h1, h2, h3, h4, h5⟩ := lc_runF h
  exact ⟨wi, g, tt, te, h1, h2, h3, h4, fun B Hs σ H o hC Q k => h5 B Hs σ H o hC Q fun R S' v Hs' H' p o' e r _ => k R S' v Hs' H' p o' e r⟩
theorem le_lc (h : LC X pn elt tg iter ifs scope (own.map Prod.snd) S P) (ok : BlkOk X.N X.env.scope scope own) (hN : X.N.Nodup) (hc : X.calm = true := by rfl) (hs : ∀ x, foldedSetIterable iter X.env x = pure x := by intro _; rfl) : LE X pn (.ListComp elt [⟨tg, iter, ifs, 0⟩] scope pos) S P := by
  obtain ⟨wi, g, tt, te, pi, hg, ht, he, run⟩ := lc_run h
  intro B Hs σ H o Q k
  exact we_of (pe_lc hc hN pi ok hg ht he hs) (run B Hs σ H o True.intro Q k)
theorem l1_setLc {D : LD} {i : Nat} {y : Str} {py spos : Pos} (h : LC X pn elt tg iter ifs scope (own.map Prod.snd) S fun R S1 => D.nx (S1.put i R)) (ok : BlkOk X.N X.env.scope scope own) (hN : X.N.Nodup)
    (hsw : swapsWith (.ListComp elt [⟨tg, iter, ifs, 0⟩] scope pos) (some (.Name y py)) spos.line X.env = pure true) (hy : X.N[i]? = some y := by rfl) (hyl : X.env.scope.names.lookup y = some .local := by rfl)
    (hc : X.calm = true := by rfl) (hs : ∀ x, foldedSetIterable iter X.env x = pure x := by intro _; rfl) : L1 X pn (.Assign [.Name y py] (.ListComp elt [⟨tg, iter, ifs, 0⟩] scope pos) spos) S D := by
  obtain ⟨wi, g, tt, te, pi, hg, ht, he, run⟩ := lc_run h
  intro B Hs σ H o E t
  refine ws_of (ps_setLc hc hN hy hyl hsw pi ok hg ht he hs) (run B Hs σ H o True.intro _ fun R S1 v Hs1 H1 p o1 _ r => ?_)
  exact t.nx _ Hs1 _ H1 p (o1.put r)
end

/-! ### loops -/
section
variable {X : Cx} {pn : Option Addr} {c tg iter : Expr} {body : List Stmt} {pos : Pos} {S : LSt} {D : LD}
/-- what is said of a loop behind the walked thing -/
def LFI (X : Cx) (pn : Option Addr) (tg : Expr) (body : List Stmt) (vs : List Nat) (D : LD) (Rs : List Th) (S1 : LSt) : Prop :=
  ∃ I : Nat → LSt → Prop, I 0 S1 ∧
      (∀ i R S2, Rs[i]? = some R → I i S2 → LG X pn vs tg S2 R fun S3 => LB X pn body S3 { nx := I (i + 1), rt := D.rt, bk := D.nx, ct := I (i + 1) }) ∧ ∀ S2, I Rs.length S2 → D.nx S2
/-- what is said of a loop -/
def LFc (X : Cx) (pn : Option Addr) (tg iter : Expr) (body : List Stmt) (vs : List Nat) (C : St → Hp → Prop) (S : LSt) (D : LD) : Prop :=
  LIc X pn tg iter C S (LFI X pn tg body vs D)
theorem for_run {vs : List Nat} {C : St → Hp → Prop} (h : LFc X pn tg iter body vs C S D) : ∃ wi, PI X tg iter wi ∧ ∀ B Hs σ H, StOK X.K pn B Hs S σ H → C σ H → ∀ E : Ends, LD.To X.K pn B D E → tFor wi (WG X tg) (WB X body) E σ H := by
  obtain ⟨wi, pi, hi⟩ := h
  refine ⟨wi, pi, fun B Hs σ H o hC E t => hi B Hs σ H o hC _ fun Rs S1 Hs1 H1 J p o1 e1 g => ?_⟩
  obtain ⟨I, i0, it, ie⟩ := p
  refine ⟨fun i m σ2 H2 => i ≤ Rs.length ∧ m = Rs.length - i ∧ ∃ S2 Hs2, I i S2 ∧ StOK X.K pn B Hs2 S2 σ2 H2 ∧ Same Hs1 Hs2, ⟨_, Nat.zero_le _, rfl, S1, Hs1, i0, o1, .refl _⟩, fun i m σ2 H2 w => ?_⟩
  obtain ⟨hil, rfl, S2, Hs2, hI, o2, e2⟩ := w
  by_cases hlt : i < Rs.length
  · refine .inr ⟨g.go i Hs2 H2 e2 o2.w hlt, fun σ' H' => i + 1 ≤ Rs.length ∧ ∃ S2 Hs2, I (i + 1) S2 ∧ StOK X.K pn B Hs2 S2 σ' H' ∧ Same Hs1 Hs2, fun σ' H' ⟨q1, q⟩ => ⟨_, by omega, q1, rfl, q⟩, fun y H' hy => ?_⟩
    obtain ⟨R, Hs3, hR, x3, r3⟩ := g.yld i Hs2 H2 y H' e2 o2.w hlt hy
    have o3 := o2.ext x3
    refine it i R S2 hR hI B Hs3 σ2 H' y o3 r3 _ fun S4 σ4 Hs4 H4 p4 o4 e4 _ => ?_
    have e14 : Same Hs1 Hs4 := e2.trans (x3.s.trans e4)
    refine p4 ⟨Hs4, B.h, B.c⟩ Hs4 σ4 H4 o4.rebase _ ⟨fun S5 Hs5 σ5 H5 q5 o5 => ?_, fun R S5 Hs5 σ5 v H5 q5 o5 r5 => ?_, fun S5 Hs5 σ5 H5 q5 o5 => ?_, fun S5 Hs5 σ5 H5 q5 o5 => ?_⟩
    · exact ⟨by omega, S5, Hs5, q5, o5.back o4.e.s o4.e.f, e14.trans o5.e.s⟩
    · exact t.rt R S5 Hs5 σ5 v H5 q5 (o5.back o4.e.s o4.e.f) r5
    · exact t.nx S5 Hs5 σ5 H5 q5 (o5.back o4.e.s o4.e.f)
    · exact ⟨by omega, S5, Hs5, q5, o5.back o4.e.s o4.e.f, e14.trans o5.e.s⟩
  · have e : i = Rs.length := by omega
    subst e
    exact .inl ⟨g.stop _ Hs2 H2 e2 o2.w (Nat.le_refl _), t.nx S2 Hs2 σ2 H2 (ie S2 hI) o2⟩
theorem l1_for (vs : List Nat) (h : LFc X pn tg iter body vs (fun _ _ => True) S D)
    (hp : PassesOwn (model X.prog X.w) X.A X.env X.xe) (hc : X.calm = true := by rfl) (hs : ∀ x, foldedSetIterable iter X.env x = pure x := by intro _; rfl) : L1 X pn (.For tg iter body [] pos) S D := by
  obtain ⟨wi, pi, run⟩ := for_run h
  intro B Hs σ H o E t
  exact ws_of (ps_for hp hc pi pg_wg ps_wb hs) (run B Hs σ H o True.intro E t)
theorem l1_while (I : Nat → LSt → Prop) (h0 : ∃ m, I m S) (h : ∀ m S1, I m S1 → LT X pn c S1 fun k S2 => if k = true then LB X pn body S2 { nx := fun S3 => ∃ m', m' < m ∧ I m' S3, rt := D.rt, bk := D.nx, ct := fun S3 => ∃ m', m' < m ∧ I m' S3 } else D.nx S2)
    (hp : PassesOwn (model X.prog X.w) X.A X.env X.xe) : L1 X pn (.While c body [] pos) S D := by
  intro B Hs σ H o E t
  refine ws_of (ps_while hp pt_wt ps_wb) ⟨fun m σ1 H1 => ∃ S1 Hs1, I m S1 ∧ StOK X.K pn B Hs1 S1 σ1 H1, ?_, fun m σ1 H1 ⟨S1, Hs1, i1, o1⟩ => ?_⟩
  · obtain ⟨m, i0⟩ := h0
    exact ⟨m, S, Hs, i0, o⟩
  · refine h m S1 i1 B Hs1 σ1 H1 o1 _ fun k S2 Hs2 H2 p o2 e2 => ?_
    cases k with
    | true =>
      show ∃ N : St → Hp → Prop, _
      refine ⟨fun σ' H' => ∃ m', m' < m ∧ ∃ S3 Hs3, I m' S3 ∧ StOK X.K pn B Hs3 S3 σ' H', fun σ' H' ⟨m', l, q⟩ => ⟨m', l, q⟩, ?_⟩
      exact (show LB X pn body S2 _ from p) B Hs2 σ1 H2 o2 _ ⟨fun S5 Hs5 σ5 H5 ⟨m', l, q5⟩ o5 => ⟨m', l, S5, Hs5, q5, o5⟩, t.rt, t.nx, fun S5 Hs5 σ5 H5 ⟨m', l, q5⟩ o5 => ⟨m', l, S5, Hs5, q5, o5⟩⟩
    | false => exact t.nx S2 Hs2 σ1 H2 p o2
end
end DL
set_option Elab.async false
set_option linter.all false
set_option maxRecDepth 100000
set_option maxHeartbeats 4000000
namespace DL
open PySem PySem.Spec L2
open PyProof.Rows hiding St

/-! ### defs -/
section
variable {P : Program} {w : World} {K : PySem.W.Frag} {mg : Str → Option Value} {base : Heap}
/-- the context of a def's body out of which nothing is raised -/
abbrev bx (P : Program) (w : World) (K : PySem.W.Frag) (mg : Str → Option Value) (base : Heap) (N : List Str) (qual : Str) (st : Stmt) (f : Addr) (cdv : Value) (A : Around) (outer : List Env) (s : Shared) (H : Hp) (E : XK) : Cx :=
  (cxOf (L2.CX P w) P w K mg base N qual (defScope st) f cdv A outer s H E).nox
/-- the slots at a beginning -/
def start0 (N : List Str) (Rs : List Th) : List (Option Ent) := Rs.map (fun R => some (.sh R)) ++ List.replicate (N.length - Rs.length) none
theorem start_ok {N : List Str} {Rs : List Th} {vs : List V} {Hs H : Hp} {n : Nat} (w : Same Hs H) (h : Alls Hs Rs vs) : StOK K none ⟨Hs, H, 0⟩ Hs ⟨start0 N Rs, n⟩ (L2.start N vs) H where
  e := Ext.refl w
  len := by
    show (start0 N Rs).length = (L2.start N vs).length
    unfold start0 L2.start
    rw [List.length_append, List.length_append, List.length_map, List.length_map, List.length_replicate, List.length_replicate, h.length]
  sh := fun i R e => by
    have e : (start0 N Rs)[i]? = some (some (.sh R)) := e
    unfold start0 at e
    unfold L2.start
    by_cases hi : i < Rs.length
    · rw [List.getElem?_append_left (by rw [List.length_map]; exact hi), List.getElem?_map] at e
      have hi' : i < vs.length := by rw [← h.length]; exact hi
      rw [List.getElem?_append_left (by rw [List.length_map]; exact hi'), List.getElem?_map]
      rw [List.getElem?_eq_getElem hi] at e
      cases e
      obtain ⟨v, h1, h2⟩ := h.get (List.getElem?_eq_getElem hi)
      exact ⟨v, by rw [h1]; rfl, h2⟩
    · rw [List.getElem?_append_right (by rw [List.length_map]; omega), List.getElem?_replicate] at e
      split at e <;> cases e
  ow := fun i O e => by
    have e : (start0 N Rs)[i]? = some (some (.ow O)) := e
    unfold start0 at e
    by_cases hi : i < Rs.length
    · rw [List.getElem?_append_left (by rw [List.length_map]; exact hi), List.getElem?_map, List.getElem?_eq_getElem hi] at e
      cases e
    · rw [List.getElem?_append_right (by rw [List.length_map]; omega), List.getElem?_replicate] at e
      split at e <;> cases e
  ne := fun i j O O' a e => by
    have e : (start0 N Rs)[i]? = some (some (.ow O)) := e
    unfold start0 at e
    by_cases hi : i < Rs.length
    · rw [List.getElem?_append_left (by rw [List.length_map]; exact hi), List.getElem?_map, List.getElem?_eq_getElem hi] at e
      cases e
    · rw [List.getElem?_append_right (by rw [List.length_map]; omega), List.getElem?_replicate] at e
      split at e <;> cases e
  pen := fun a h => by cases h
theorem fn_pure {x qual : Str} {st : Stmt} {f : Addr} {fd : FuncData} {N ps : List Str} {m k : Nat} {F : PFn} (Fd : Fun K x qual st f fd) (S : FnScope N ps (defScope st)) (hps : ps.length = m)
    (body : ∀ (cdv : Value) (A : Around) (outer : List Env) (s : Shared) (H : Hp) (E : XK) Rs R, Room k (A.deeper (envOfC qual (defScope st) s.heap.objs.size f cdv)) → F Rs R →
      LB (bx P w K mg base N qual st f cdv A outer s H E) none (defBody st) ⟨start0 N Rs, 0⟩ { nx := fun _ => vl .non = R, rt := fun R' _ => R' = R }) : FnOk P w K mg base (L2.CX P w) (k + 1) f fd ps (spP m F) := by
  refine Fd.okX S (fun vs H Q E h => ?_) fun cdv A outer s H vs Q E hr h => ?_
  · obtain ⟨Hs, Rs, R, _, h1, h2, _⟩ := h
    rw [← h2.length, h1, hps]
  · obtain ⟨Hs, Rs, R, w0, h1, h2, h3, h4⟩ := h
    refine ⟨_, PSs.nox (ps_wb (X := bx P w K mg base N qual st f cdv A outer s H E)), ?_⟩
    refine body cdv A outer s H E Rs R hr h3 ⟨Hs, H, 0⟩ Hs _ H (start_ok w0 h2) _ ⟨fun S Hs' σ H' p o => ?_, fun R' S Hs' σ v H' p o r => ?_, fun _ _ _ _ p => p.elim, fun _ _ _ _ p => p.elim⟩
    · exact h4 .non Hs' H' o.e (by rw [← (show vl .non = R from p)]; rfl)
    · exact h4 v Hs' H' o.e (by rw [← (show R' = R from p)]; exact r)
theorem kn_pure {x : Str} {st : Stmt} {f : Addr} {fd : FuncData} {N ps : List Str} {m k : Nat} {F : PFn} (Fd : Fun K x x st f fd) (hm : mg x = some (.ref f)) (hb : Binds K fd ps []) (S : FnScope N ps (defScope st)) (hps : ps.length = m)
    (body : ∀ (cdv : Value) (A : Around) (outer : List Env) (s : Shared) (H : Hp) (E : XK) Rs R, Room k (A.deeper (envOfC x (defScope st) s.heap.objs.size f cdv)) → F Rs R →
      LB (bx P w K mg base N x st f cdv A outer s H E) none (defBody st) ⟨start0 N Rs, 0⟩ { nx := fun _ => vl .non = R, rt := fun R' _ => R' = R }) : Kn P w K mg base (k + 1) x (spP m F) :=
  ⟨f, fd, ps, fn_pure Fd S hps body, hm, Fd.kp, hb⟩
theorem Kn.mono {x : Str} {k j : Nat} {sp : Sp} (h : Kn P w K mg base k x sp) (hk : k ≤ j) : Kn P w K mg base j x sp := let ⟨f, fd, ps, h1, h2⟩ := h.ex; ⟨f, fd, ps, h1.mono hk, h2⟩
end

section
variable {X : Cx} {pn : Option Addr} {a b c e : Expr} {es : List Expr} {pos : Pos} {S : LSt} {P : Th → LSt → Prop} {PB : Bool → LSt → Prop}
/-! ### a < b < c -/
theorem le_chain {op op' : CmpOp} {r r' : R2} (ho : OpR X (compareOp op) r) (ho' : OpR X (compareOp op') r')
    (h : LE X pn a S fun Ra S1 => LE X pn b S1 fun Rb S2 => LR2 X pn r Ra Rb S2 fun R S3 => ∃ k, R = vl (.bl k) ∧ if k = true then LE X pn c S3 fun Rc S4 => LR2 X pn r' Rb Rc S4 P else P (vl (.bl false)) S3)
    (hm : lastMarks [op, op'] [b, c] = false := by with_unfolding_all rfl) : LE X pn (.Compare a [op, op'] [b, c] pos) S P := by
  intro B Hs σ H o Q k
  refine we_of (pe_chain ho ho' pe_we pe_we pe_we hm) (h B Hs σ H o _ fun Ra S1 x Hs1 H1 h1 o1 e1 r1 => ?_)
  refine h1 B Hs1 σ H1 o1 _ fun Rb S2 y Hs2 H2 h2 o2 e2 r2 => ?_
  refine h2 B Hs2 σ H2 x y o2 (Ra.mono e2 r1) r2 _ fun R S3 z Hs3 H3 h3 o3 e3 r3 => ?_
  obtain ⟨d, rfl, h3⟩ := h3
  refine ⟨d, r3, ?_⟩
  cases d with
  | true =>
    show WE X c σ H3 _
    refine (show LE X pn c S3 fun Rc S4 => LR2 X pn r' Rb Rc S4 P from h3) B Hs3 σ H3 o3 _ fun Rc S4 u Hs4 H4 h4 o4 e4 r4 => ?_
    exact h4 B Hs4 σ H4 y u o4 (Rb.mono (e3.trans e4) r2) r4 Q fun R S' v Hs' H' p o' e' => k R S' v Hs' H' p o' (e1.trans (e2.trans (e3.trans (e4.trans e'))))
  | false => exact k _ S3 _ Hs3 H3 h3 o3 (e1.trans (e2.trans e3)) rfl
theorem lt_chain {op op' : CmpOp} {r r' : R2} (ho : OpR X (compareOp op) r) (ho' : OpR X (compareOp op') r')
    (h : LE X pn a S fun Ra S1 => LE X pn b S1 fun Rb S2 => LR2 X pn r Ra Rb S2 fun R S3 => ∃ k, R = vl (.bl k) ∧ if k = true then LE X pn c S3 fun Rc S4 => LR2 X pn r' Rb Rc S4 fun R S5 => ∃ k, R = vl (.bl k) ∧ PB k S5 else PB false S3)
    (hm : lastMarks [op, op'] [b, c] = false := by with_unfolding_all rfl) : LT X pn (.Compare a [op, op'] [b, c] pos) S PB := by
  intro B Hs σ H o Q k
  refine wt_of (pt_chain ho ho' pe_we pe_we pe_we hm) (h B Hs σ H o _ fun Ra S1 x Hs1 H1 h1 o1 e1 r1 => ?_)
  refine h1 B Hs1 σ H1 o1 _ fun Rb S2 y Hs2 H2 h2 o2 e2 r2 => ?_
  refine h2 B Hs2 σ H2 x y o2 (Ra.mono e2 r1) r2 _ fun R S3 z Hs3 H3 h3 o3 e3 r3 => ?_
  obtain ⟨d, rfl, h3⟩ := h3
  refine ⟨d, r3, ?_⟩
  cases d with
  | true =>
    show WE X c σ H3 _
    refine (show LE X pn c S3 _ from h3) B Hs3 σ H3 o3 _ fun Rc S4 u Hs4 H4 h4 o4 e4 r4 => ?_
    refine h4 B Hs4 σ H4 y u o4 (Rb.mono (e3.trans e4) r2) r4 _ fun R S5 v Hs5 H5 h5 o5 e5 r5 => ?_
    obtain ⟨d2, rfl, h5⟩ := h5
    exact ⟨d2, r5, k d2 S5 Hs5 H5 h5 o5 (e1.trans (e2.trans (e3.trans (e4.trans e5))))⟩
  | false => exact ⟨false, rfl, k _ S3 Hs3 H3 h3 o3 (e1.trans (e2.trans e3))⟩

/-! ### isinstance -/
/-- the type of what is known -/
def TyTh (K : PySem.W.Frag) (R : Th) (t : Value) : Prop := ∀ Hs v, R.p Hs v → ∀ H, Same Hs H → TyX K H v t
theorem ty_non {K : PySem.W.Frag} : TyTh K (vl .non) (.type "NoneType") := fun Hs v h H _ => by cases (show v = _ from h); exact .base .non
theorem ty_bl {K : PySem.W.Frag} {b : Bool} : TyTh K (vl (.bl b)) (.type "bool") := fun Hs v h H _ => by cases (show v = _ from h); exact .base (.bl b)
theorem ty_int {K : PySem.W.Frag} {i : Int} : TyTh K (vl (.int i)) (.type "int") := fun Hs v h H _ => by cases (show v = _ from h); exact .base (.int i)
theorem ty_str {K : PySem.W.Frag} {x : Str} : TyTh K (vl (.str x)) (.type "str") := fun Hs v h H _ => by cases (show v = _ from h); exact .base (.str x)
theorem ty_tup {K : PySem.W.Frag} {Rs : List Th} : TyTh K (tupT K Rs) (.type "tuple") := fun Hs v h H w => by
  obtain ⟨a, vs, rfl, h2, _⟩ := h
  rcases sqT_mono w h2 with (h | ⟨o, h⟩) | ⟨o, its, n, h, hc, _⟩
  · exact .base (.tup h)
  · exact .fTuple h
  · exact .kTuple h hc
theorem ty_lst {K : PySem.W.Frag} {Rs : List Th} : TyTh K (lstT Rs) (.type "list") := fun Hs v h H w => by
  obtain ⟨a, vs, rfl, h2, _⟩ := h
  exact .base (.lst (w _ _ h2))
/-- what isinstance asks of an own class -/
structure IsiC (K : PySem.W.Frag) (C : Addr) : Prop where
  cl : Cls K C
  ha : PySem.W.findIn K (.ref C) "__class__" = some (some (.builtin "object.__class__"))
  hn : PySem.W.specialIn K (.builtin "object.__class__") "__get__" = some (some (.builtin "getset_descriptor.__get__"))
  htk : PySem.W.takesIn K (.builtin "object.__class__") = some true
  hm : PySem.W.mroIn K C (.type "object") = some true
theorem ty_obj {K : PySem.W.Frag} {C : Addr} {fs : List (Str × Th)} (c : IsiC K C) : TyTh K (objT C fs) (.ref C) := fun Hs v h H w => by
  obtain ⟨a, dx, vs, rfl, h2, _⟩ := h
  exact .base (.ins (w _ _ h2) c.cl c.ha c.hn c.htk c.hm)
theorem ty_dic {K : PySem.W.Frag} {kvs : List (Key × Th)} : TyTh K (dicT kvs) (.type "dict") := fun Hs v h H w => by
  obtain ⟨a, vs, rfl, h2, _⟩ := h
  rcases rd_mono w h2 with h | ⟨o, h⟩
  · exact .base (.dK h)
  · exact .fDict h
theorem rc_isi {R : Th} {c : V} {t u : Value} {k : Bool} (hc : ClsV c u) (ht : TyTh X.K R t) (hk : PySem.W.kitOne X.K t u = some k) (q : P (vl (.bl k)) S) : LRC X pn (rIsi X.K) [R, vl c] S P := by
  intro B Hs σ H vs o r1 Q q'
  cases r1 with
  | cons r1 r2 =>
    cases r2 with
    | cons r2 r3 =>
      cases r3
      cases (show _ = c from r2)
      exact ⟨_, c, t, u, k, rfl, hc, ht Hs _ r1 H o.w, hk, q' _ S _ Hs H q o (.refl _) rfl⟩
/-- isinstance(e, T), T a built-in class -/
theorem le_isi {x y : Str} {p p' : Pos} {T : String} (hm : X.mg "isinstance" = none) (hT : X.mg y = none) (hv : bootBuiltins y = some (.type T)) (h : LE X pn e S fun R S1 => ∃ t k, TyTh X.K R (.type t) ∧ kitB t T = some k ∧ P (vl (.bl k)) S1)
    (hx : x = "isinstance" := by rfl) (hg : Gl X "isinstance" := by rfl) (hgy : Gl X y := by rfl) (hy : y ≠ "__name__" := by decide) (hd : (y == ("__debug__" : Str)) = false := by decide)
    (he : starEach [e, .Name y p'] X.env = (false, eval e X.env) :: starEach [.Name y p'] X.env := by rfl) (he2 : starEach [.Name y p'] X.env = (false, eval (.Name y p') X.env) :: starEach [] X.env := by rfl) (hpl : (backTo pos (starEach [.Name y p'] X.env)).any (·.1) = false := by rfl) :
    LE X pn (.Call (.Name x p) [e, .Name y p'] [] pos) S P := by
  subst hx
  refine le_cb call_isi hm (by decide +kernel) (la_cons (h.mono fun R S1 ⟨t, k, h1, h2, q⟩ => la_cons (le_bltn (v := .ty T) hT hv rfl ?_ hgy hy hd) he2) he) hg (by decide) (by decide) he hpl
  exact la_nil (rc_isi (.ty T) h1 (kit_ty h2) q)
/-- isinstance(e, C), C an own class -/
theorem le_isiC {x y : Str} {p p' : Pos} {C : Addr} (hm : X.mg "isinstance" = none) (hT : X.mg y = some (.ref C)) (h : LE X pn e S fun R S1 => ∃ t k, TyTh X.K R t ∧ PySem.W.kitOne X.K t (.ref C) = some k ∧ P (vl (.bl k)) S1)
    (hx : x = "isinstance" := by rfl) (hg : Gl X "isinstance" := by rfl) (hgy : Gl X y := by rfl) (hd : (y == ("__debug__" : Str)) = false := by decide)
    (he : starEach [e, .Name y p'] X.env = (false, eval e X.env) :: starEach [.Name y p'] X.env := by rfl) (he2 : starEach [.Name y p'] X.env = (false, eval (.Name y p') X.env) :: starEach [] X.env := by rfl) (hpl : (backTo pos (starEach [.Name y p'] X.env)).any (·.1) = false := by rfl) :
    LE X pn (.Call (.Name x p) [e, .Name y p'] [] pos) S P := by
  subst hx
  refine le_cb call_isi hm (by decide +kernel) (la_cons (h.mono fun R S1 ⟨t, k, h1, h2, q⟩ => la_cons (le_glob (v := .ref C) hT rfl ?_ hgy hd) he2) he) hg (by decide) (by decide) he hpl
  exact la_nil (rc_isi (.own C) h1 h2 q)
/-- isinstance(e, (T1, T2)), built-in classes -/
theorem le_isi2 {x y z : Str} {p p' p'' p3 : Pos} {T1 T2 : String} {j : Nat} (hm : X.mg "isinstance" = none) (hT1 : X.mg y = none) (hv1 : bootBuiltins y = some (.type T1)) (hT2 : X.mg z = none) (hv2 : bootBuiltins z = some (.type T2))
    (h : LE X pn e S fun R S1 => ∃ t k, TyTh X.K R (.type t) ∧ (∃ k1 k2, kitB t T1 = some k1 ∧ kitB t T2 = some k2 ∧ k = (k1 || k2)) ∧ P (vl (.bl k)) S1)
    (hx : x = "isinstance" := by rfl) (hg : Gl X "isinstance" := by rfl) (hgy : Gl X y := by rfl) (hgz : Gl X z := by rfl) (hy : y ≠ "__name__" := by decide) (hd : (y == ("__debug__" : Str)) = false := by decide) (hz : z ≠ "__name__" := by decide) (hdz : (z == ("__debug__" : Str)) = false := by decide)
    (he : starEach [e, .Tuple [.Name y p', .Name z p''] j p3] X.env = (false, eval e X.env) :: starEach [.Tuple [.Name y p', .Name z p''] j p3] X.env := by rfl)
    (he2 : starEach [.Tuple [.Name y p', .Name z p''] j p3] X.env = (false, eval (.Tuple [.Name y p', .Name z p''] j p3) X.env) :: starEach [] X.env := by rfl)
    (he3 : starEach [.Name y p', .Name z p''] X.env = (false, eval (.Name y p') X.env) :: starEach [.Name z p''] X.env := by rfl) (he4 : starEach [.Name z p''] X.env = (false, eval (.Name z p'') X.env) :: starEach [] X.env := by rfl)
    (hpl : (backTo pos (starEach [.Tuple [.Name y p', .Name z p''] j p3] X.env)).any (·.1) = false := by rfl) :
    LE X pn (.Call (.Name x p) [e, .Tuple [.Name y p', .Name z p''] j p3] [] pos) S P := by
  subst hx
  intro B Hs σ H o Q q
  refine we_of (pe_callB call_isiT hg hm (by decide +kernel) (pa_cons pe_we (pa_cons (pe_tup (pa_cons (pe_bltn (v := .ty T1) hgy hT1 hv1 rfl hy hd) (pa_cons (pe_bltn (v := .ty T2) hgz hT2 hv2 rfl hz hdz) pa_nil he4) he3)) pa_nil he2) he) (by decide) (by decide) he hpl) (h B Hs σ H o _ fun R S1 x Hs1 H1 h1 o1 e1 r1 => ?_)
  obtain ⟨t, k, ty, ⟨k1, k2, g1, g2, rfl⟩, p⟩ := h1
  refine ⟨by show 2 ≤ sizeLine; decide, fun l hl => ?_⟩
  refine ⟨x, l, [.ty T1, .ty T2], .type t, [.type T1, .type T2], k1 || k2, rfl, upd_same, .cons (.ty _) (.cons (.ty _) .nil), ty Hs1 x r1 _ (o1.w.trans (Same.upd hl)), ?_, ?_⟩
  · refine kitAny_cons (kit_ty g1) (fun z => ?_) fun z => by rw [z]; rfl
    refine kitAny_cons (kit_ty g2) (fun z2 => ?_) fun z2 => by rw [z2]; simp
    rw [z, z2]; exact kitAny_nil
  · exact q _ S1 _ _ _ p (o1.new hl) (e1.trans (Same.upd (o1.w.free hl))) rfl

/-! ### gcd, slices, lists put together -/
theorem le_gcd {x : Str} {p : Pos} (hm : X.mg x = some (.builtin "math.gcd")) (h : LA X pn (e :: es) S fun Rs S1 => ∃ i j : Int, Rs = [vl (.int i), vl (.int j)] ∧ P (vl (.int ((Nat.gcd i.natAbs j.natAbs : Nat) : Int))) S1)
    (hg : Gl X x := by rfl) (hdb : (x == ("__debug__" : Str)) = false := by decide) (he : starEach (e :: es) X.env = (false, eval e X.env) :: starEach es X.env := by rfl) (hpl : (backTo pos (starEach es X.env)).any (·.1) = false := by rfl) :
    LE X pn (.Call (.Name x p) (e :: es) [] pos) S P := by
  intro B Hs σ H o Q q
  refine we_of (pe_callBfun cr_gcd hg hm pa_wa hdb he hpl) (h B Hs σ H o _ fun Rs S1 vs Hs1 H1 h1 o1 e1 r1 => ?_)
  obtain ⟨i, j, rfl, p⟩ := h1
  cases r1 with
  | cons r1 r2 =>
    cases r2 with
    | cons r2 r3 =>
      cases r3
      cases (show _ = V.int i from r1)
      cases (show _ = V.int j from r2)
      exact ⟨i, j, rfl, q _ S1 _ Hs1 H1 p o1 e1 rfl⟩
/-- the part of a list -/
def LP (X : Cx) (pn : Option Addr) (e : Option Expr) (S : LSt) (P : Option Int → LSt → Prop) : Prop := match e with
  | none => P none S
  | some e => LE X pn e S fun R S1 => ∃ i, R = vl (.int i) ∧ P (some i) S1
def cutL {α : Type} (xs : List α) (lo hi : Option Int) : List α := (xs.drop (HT.sIx xs.length 0 lo)).take (HT.sIx xs.length xs.length hi - HT.sIx xs.length 0 lo)
theorem Alls.cut {H : Hp} {Rs : List Th} {vs : List V} (h : Alls H Rs vs) (lo hi : Option Int) : Alls H (cutL Rs lo hi) (cutV vs lo hi) := by
  unfold cutL cutV
  rw [h.length]
  have drop : ∀ (n : Nat) {Rs : List Th} {vs : List V}, Alls H Rs vs → Alls H (Rs.drop n) (vs.drop n) := by
    intro n
    induction n with
    | zero => intro Rs vs h; exact h
    | succ n ih =>
      intro Rs vs h
      cases h with
      | nil => exact .nil
      | cons r t => exact ih t
  have take : ∀ (n : Nat) {Rs : List Th} {vs : List V}, Alls H Rs vs → Alls H (Rs.take n) (vs.take n) := by
    intro n
    induction n with
    | zero => intro Rs vs h; exact .nil
    | succ n ih =>
      intro Rs vs h
      cases h with
      | nil => exact .nil
      | cons r t => exact .cons r (ih t)
  exact take _ (drop _ h)
/-- what a part of a slice asks -/
def WO (X : Cx) (e : Option Expr) : TO := fun σ H Q => match e with
  | none => Q none H
  | some e => WE X e σ H fun x H1 => ∃ i, x = .int i ∧ Q (some i) H1
theorem po_wo {X : Cx} : ∀ {e : Option Expr}, PO X e (WO X e)
  | none => po_none
  | some e => po_some pe_we
theorem lp_run {e : Option Expr} {PO' : Option Int → LSt → Prop} (h : LP X pn e S PO') {B : Base} {Hs : Hp} {σ : St} {H : Hp} (o : StOK X.K pn B Hs S σ H) {Q : Option Int → Hp → Prop} (k : ∀ i S' Hs' H', PO' i S' → StOK X.K pn B Hs' S' σ H' → Same Hs Hs' → Q i H') : WO X e σ H Q := by
  cases e with
  | none => exact k none S Hs H h o (.refl _)
  | some e => exact (show LE X pn e S _ from h) B Hs σ H o _ fun R S' v Hs' H' ⟨i, hR, p⟩ o' e' r => ⟨i, by subst hR; exact r, k (some i) S' Hs' H' p o' e'⟩
theorem le_slL {lo hi : Option Expr} {p2 : Pos} (h : LE X pn e S fun R S1 => ∃ Rs, R = lstT Rs ∧ LP X pn lo S1 fun l S2 => LP X pn hi S2 fun u S3 => P (lstT (cutL Rs l u)) S3) : LE X pn (.Subscript e (.Slice lo hi none p2) pos) S P := by
  intro B Hs σ H o Q q
  refine we_of (pe_slice sl_list pe_we po_wo po_wo) (h B Hs σ H o _ fun R S1 x Hs1 H1 h1 o1 e1 r1 => ?_)
  obtain ⟨Rs, rfl, h1⟩ := h1
  refine lp_run h1 o1 fun l S2 Hs2 H2 h2 o2 e2 => lp_run h2 o2 fun u S3 Hs3 H3 h3 o3 e3 => ?_
  obtain ⟨a, vs, rfl, g2, g3⟩ := r1
  refine ⟨a, vs, rfl, SqL.of ((e2.trans (e3.trans o3.w)) _ _ g2), fun l' hl => ?_⟩
  have w := Same.upd (o := .lst (cutV vs l u)) (o3.w.free hl)
  exact q _ S3 _ _ _ h3 (o3.new hl) (e1.trans (e2.trans (e3.trans w))) ⟨l', _, rfl, upd_same, ((g3.mono (e2.trans (e3.trans w)))).cut l u⟩
/-- .. of a tuple (not the whole of it) -/
theorem le_slT {lo hi : Option Expr} {p2 : Pos} (h : LE X pn e S fun R S1 => ∃ Rs, R = tupT X.K Rs ∧ LP X pn lo S1 fun l S2 => LP X pn hi S2 fun u S3 => ¬ (HT.sIx Rs.length 0 l = 0 ∧ HT.sIx Rs.length Rs.length u = Rs.length) ∧ P (tupT X.K (cutL Rs l u)) S3) : LE X pn (.Subscript e (.Slice lo hi none p2) pos) S P := by
  intro B Hs σ H o Q q
  refine we_of (pe_slice sl_tup pe_we po_wo po_wo) (h B Hs σ H o _ fun R S1 x Hs1 H1 h1 o1 e1 r1 => ?_)
  obtain ⟨Rs, rfl, h1⟩ := h1
  refine lp_run h1 o1 fun l S2 Hs2 H2 h2 o2 e2 => lp_run h2 o2 fun u S3 Hs3 H3 h3 o3 e3 => ?_
  obtain ⟨a, vs, rfl, g2, g3⟩ := r1
  refine ⟨a, vs, rfl, sqT_mono (e2.trans (e3.trans o3.w)) g2, ?_, fun l' hl => ?_⟩
  · rw [← g3.length]; exact h3.1
  have w := Same.upd (o := .tup (cutV vs l u)) (o3.w.free hl)
  exact q _ S3 _ _ _ h3.2 (o3.new hl) (e1.trans (e2.trans (e3.trans w))) ⟨l', _, rfl, SqT.of upd_same, ((g3.mono (e2.trans (e3.trans w)))).cut l u⟩
end
end DL
set_option Elab.async false
set_option linter.all false
set_option maxRecDepth 100000
set_option maxHeartbeats 4000000
namespace DL
open PySem PySem.Spec L2
open PyProof.Rows hiding St

/-! ### new objects that are owned -/
def EntAt (Hs H : Hp) : Ent → V → Prop
  | .sh R, v => R.p Hs v
  | .ow O, v => ∃ a o, v = .ref a ∧ Hs a = none ∧ H a = some o ∧ O.p Hs a o
/-- new owned objects that no slot holds yet -/
structure Pend (pn : Option Addr) (B : Base) (S : LSt) (σ : St) (es : List Ent) (vs : List V) : Prop where
  new : ∀ (i : Nat) O a, es[i]? = some (.ow O) → vs[i]? = some (.ref a) → B.h a = none ∧ ∀ (j : Nat) O', S.ρ[j]? = some (some (.ow O')) → σ[j]? ≠ some (some (.ref a))
  ne : ∀ (i j : Nat) O O' a, es[i]? = some (.ow O) → es[j]? = some (.ow O') → vs[i]? = some (.ref a) → vs[j]? = some (.ref a) → i = j
/-- an expression that makes a new object -/
def LN (X : Cx) (pn : Option Addr) (e : Expr) (S : LSt) (P : Own → LSt → Prop) : Prop :=
  ∀ B Hs σ H, StOK X.K pn B Hs S σ H → ∀ Q : VK, (∀ O S' a o Hs' H', P O S' → StOK X.K pn B Hs' S' σ H' → Same Hs Hs' → Hs' a = none → H' a = some o → O.p Hs' a o → B.h a = none →
    (∀ (j : Nat) O', S'.ρ[j]? = some (some (.ow O')) → σ[j]? ≠ some (some (.ref a))) → Q (.ref a) H') → WE X e σ H Q
/-- several, new ones among them -/
def LO (X : Cx) (pn : Option Addr) (es : List Expr) (S : LSt) (P : List Ent → LSt → Prop) : Prop :=
  ∀ B Hs σ H, StOK X.K pn B Hs S σ H → ∀ Q : List V → Hp → Prop, (∀ ents S' vs Hs' H', P ents S' → StOK X.K pn B Hs' S' σ H' → Same Hs Hs' → Paired (EntAt Hs' H') ents vs → Pend pn B S' σ ents vs → Q vs H') → WA X es σ H Q
section
variable {X : Cx} {pn : Option Addr} {e : Expr} {es : List Expr} {pos : Pos} {S : LSt} {PO : Own → LSt → Prop} {PE : List Ent → LSt → Prop}
theorem ln_lst (h : LA X pn es S fun Rs S1 => Rs.length ≤ sizeLine ∧ PO (ownL Rs) S1) : LN X pn (.List es pos) S PO := by
  intro B Hs σ H o Q k
  refine we_of (pe_lst pa_wa) (h B Hs σ H o _ fun Rs S1 vs Hs1 H1 h1 o1 e1 r1 => ⟨by rw [← r1.length]; exact h1.1, fun p hp => ?_⟩)
  have hb : B.h p = none := by
    cases q : B.h p with
    | none => rfl
    | some u => exact absurd hp (o1.e.t p (by rw [q]; simp))
  refine k (ownL Rs) S1 p (.lst vs) Hs1 (upd H1 p (.lst vs)) h1.2 ?_ e1 (o1.w.free hp) upd_same ⟨vs, rfl, r1⟩ hb fun j O' hj hσ => ?_
  · exact o1.ext ⟨.refl _, Same.upd2 o1.w (o1.w.free hp), fun b u h _ => by rw [upd_ne (ne_of_none h hp)]; exact h, fun b h => by
      by_cases hb : b = p
      · subst hb; exact absurd hp h
      · rw [upd_ne hb]; exact h, fun _ h _ => h⟩
  · obtain ⟨a, u, g1, _, _, g4, _⟩ := o1.ow j O' hj
    rw [hσ] at g1
    cases g1
    rw [hp] at g4; cases g4
theorem lo_nil (q : PE [] S) : LO X pn [] S PE := fun B Hs σ H o Q k => wa_of pa_nil (k [] S [] Hs H q o (.refl _) .nil ⟨fun i O a h => by simp at h, fun i j O O' a h => by simp at h⟩)
theorem lo_sh (h : LE X pn e S fun R S1 => LO X pn es S1 fun ents S2 => PE (.sh R :: ents) S2) (hs : starEach (e :: es) X.env = (false, eval e X.env) :: starEach es X.env := by rfl) : LO X pn (e :: es) S PE := by
  intro B Hs σ H o Q k
  refine wa_of (pa_cons pe_we pa_wa hs) (h B Hs σ H o _ fun R S1 x Hs1 H1 h1 o1 e1 r1 => ?_)
  refine h1 B Hs1 σ H1 o1 _ fun ents S2 vs Hs2 H2 h2 o2 e2 r2 pd => ?_
  refine k (.sh R :: ents) S2 _ Hs2 H2 h2 o2 (e1.trans e2) (.cons (R.mono e2 r1) r2) ⟨fun i O a g1 g2 => ?_, fun i j O O' a g1 g2 g3 g4 => ?_⟩
  · cases i with
    | zero => simp at g1
    | succ i => exact pd.new i O a (by simpa using g1) (by simpa using g2)
  · cases i with
    | zero => simp at g1
    | succ i =>
      cases j with
      | zero => simp at g2
      | succ j => exact congrArg (· + 1) (pd.ne i j O O' a (by simpa using g1) (by simpa using g2) (by simpa using g3) (by simpa using g4))
theorem lo_ow (h : LN X pn e S fun O S1 => LO X pn es S1 fun ents S2 => PE (.ow O :: ents) S2) (hs : starEach (e :: es) X.env = (false, eval e X.env) :: starEach es X.env := by rfl) : LO X pn (e :: es) S PE := by
  intro B Hs σ H o Q k
  refine wa_of (pa_cons pe_we pa_wa hs) (h B Hs σ H o _ fun O S1 a u Hs1 H1 h1 o1 e1 hn hu hp hb hj => ?_)
  have npn : pn ≠ some a := fun z => (o1.pen a z).2 hb
  have sbn : B.s a = none := o1.e.s.free hn
  have o1' : StOK X.K pn ⟨B.s, fun b => if b = a then some u else B.h b, B.c⟩ Hs1 S1 σ H1 := by
    refine ⟨⟨o1.e.s, o1.e.w, fun b v h n => ?_, fun b h => ?_, fun b h h' => ?_⟩, o1.len, o1.sh, fun i O' h => ?_, o1.ne, fun b h => ⟨(o1.pen b h).1, ?_⟩⟩
    · have h : (if b = a then some u else B.h b) = some v := h
      by_cases hba : b = a
      · rw [if_pos hba] at h; cases h; rw [hba]; exact hu
      · rw [if_neg hba] at h; exact o1.e.k b v h n
    · have h : (if b = a then some u else B.h b) ≠ none := h
      by_cases hba : b = a
      · rw [hba, hu]; simp
      · rw [if_neg hba] at h; exact o1.e.t b h
    · have h' : (if b = a then some u else B.h b) ≠ none := h'
      by_cases hba : b = a
      · rw [hba]; exact hn
      · rw [if_neg hba] at h'; exact o1.e.f b h h'
    · obtain ⟨c, v, g1, g2, g3⟩ := o1.ow i O' h
      refine ⟨c, v, g1, ?_, g3⟩
      have hca : c ≠ a := fun z => by subst z; exact hj i O' h g1
      show (if c = a then some u else B.h c) = none
      rw [if_neg hca]; exact g2
    · show (if b = a then some u else B.h b) ≠ none
      by_cases hba : b = a
      · rw [if_pos hba]; simp
      · rw [if_neg hba]; exact (o1.pen b h).2
  refine h1 _ Hs1 σ H1 o1' _ fun ents S2 vs Hs2 H2 h2 o2 e2 r2 pd => ?_
  have hu2 : H2 a = some u := o2.e.k a u (by show (if a = a then some u else _) = _; rw [if_pos rfl]) npn
  have hn2 : Hs2 a = none := o2.e.f a sbn (by show (if a = a then some u else _) ≠ _; rw [if_pos rfl]; simp)
  have owB : ∀ (j : Nat) O', S2.ρ[j]? = some (some (.ow O')) → σ[j]? ≠ some (some (.ref a)) := fun j O' g1 g2 => by
    obtain ⟨c, v, q1, q2, _⟩ := o2.ow j O' g1
    rw [g2] at q1; cases q1
    have q2 : (if a = a then some u else B.h a) = none := q2
    rw [if_pos rfl] at q2; cases q2
  have back : ∀ b, (if b = a then some u else B.h b) = none → B.h b = none ∧ b ≠ a := fun b h => by
    by_cases hba : b = a
    · rw [if_pos hba] at h; cases h
    · rw [if_neg hba] at h; exact ⟨h, hba⟩
  have o2' : StOK X.K pn B Hs2 S2 σ H2 := by
    refine ⟨⟨o2.e.s, o2.e.w, fun b v h n => ?_, fun b h => ?_, fun b h h' => ?_⟩, o2.len, o2.sh, fun i O' h => ?_, o2.ne, fun b h => ⟨(o2.pen b h).1, (o1.pen b h).2⟩⟩
    · have hba : b ≠ a := fun z => by rw [z, hb] at h; cases h
      exact o2.e.k b v (by show (if b = a then some u else B.h b) = some v; rw [if_neg hba]; exact h) n
    · have hba : b ≠ a := fun z => by rw [z] at h; exact h hb
      exact o2.e.t b (by show (if b = a then some u else B.h b) ≠ none; rw [if_neg hba]; exact h)
    · have hba : b ≠ a := fun z => by rw [z] at h'; exact h' hb
      exact o2.e.f b h (by show (if b = a then some u else B.h b) ≠ none; rw [if_neg hba]; exact h')
    · obtain ⟨c, v, q1, q2, q3⟩ := o2.ow i O' h
      exact ⟨c, v, q1, (back c q2).1, q3⟩
  refine k (.ow O :: ents) S2 _ Hs2 H2 h2 o2' (e1.trans e2) (.cons ⟨a, u, rfl, hn2, hu2, O.mono e2 hp⟩ r2) ⟨fun i O' c g1 g2 => ?_, fun i j O1 O2 c g1 g2 g3 g4 => ?_⟩
  · cases i with
    | zero => simp at g1 g2; subst g2; exact ⟨hb, owB⟩
    | succ i =>
      obtain ⟨q1, q2⟩ := pd.new i O' c (by simpa using g1) (by simpa using g2)
      exact ⟨(back c q1).1, q2⟩
  · cases i with
    | zero =>
      cases j with
      | zero => rfl
      | succ j =>
        simp at g3; subst g3
        obtain ⟨q1, _⟩ := pd.new j O2 a (by simpa using g2) (by simpa using g4)
        exact absurd rfl (back a q1).2
    | succ i =>
      cases j with
      | zero =>
        simp at g4; subst g4
        obtain ⟨q1, _⟩ := pd.new i O1 a (by simpa using g1) (by simpa using g3)
        exact absurd rfl (back a q1).2
      | succ j => exact congrArg (· + 1) (pd.ne i j O1 O2 c (by simpa using g1) (by simpa using g2) (by simpa using g3) (by simpa using g4))
end

theorem EntAt.ext {Hs H Hs' H' : Hp} (x : Ext none Hs H Hs' H') : ∀ {E : Ent} {v : V}, EntAt Hs H E v → EntAt Hs' H' E v
  | .sh R, _, h => R.mono x.s h
  | .ow O, _, ⟨a, u, h1, h2, h3, h4⟩ => ⟨a, u, h1, x.f a h2 (by rw [h3]; simp), x.same _ _ h3, O.mono x.s h4⟩
theorem ents_ext {Hs H Hs' H' : Hp} : ∀ {es : List Ent} {vs : List V}, Paired (EntAt Hs H) es vs → Ext none Hs H Hs' H' → Paired (EntAt Hs' H') es vs
  | _, _, .nil, _ => .nil
  | _, _, .cons r t, x => .cons (r.ext x) (ents_ext t x)
/-- a slot gets an entry -/
def LSt.putE (S : LSt) (i : Nat) (E : Ent) : LSt := ⟨S.ρ.set i (some E), S.n⟩
section
variable {K : PySem.W.Frag} {pn : Option Addr} {B : Base} {Hs : Hp} {S : LSt} {σ : St} {H : Hp}
theorem set_get {α : Type} {l : List α} {i j : Nat} {x y : α} (h : (l.set i x)[j]? = some y) : (j = i ∧ i < l.length ∧ y = x) ∨ (j ≠ i ∧ l[j]? = some y) := by
  by_cases e : j = i
  · subst e
    by_cases hl : j < l.length
    · rw [List.getElem?_set_self hl] at h; cases h; exact .inl ⟨rfl, hl, rfl⟩
    · rw [List.getElem?_eq_none (by rw [List.length_set]; omega)] at h; cases h
  · rw [List.getElem?_set_ne (Ne.symm e)] at h; exact .inr ⟨e, h⟩
theorem StOK.putO {i : Nat} {O : Own} {a : Addr} {u : HO} (o : StOK K pn B Hs S σ H) (h1 : Hs a = none) (h2 : H a = some u) (h3 : O.p Hs a u) (h4 : B.h a = none) (h5 : ∀ (j : Nat) O', S.ρ[j]? = some (some (.ow O')) → σ[j]? ≠ some (some (.ref a))) :
    StOK K pn B Hs (S.putE i (.ow O)) (σ.set i (some (.ref a))) H where
  e := o.e
  len := by show (S.ρ.set i _).length = _; rw [List.length_set, List.length_set]; exact o.len
  sh := fun j R' h => by
    rcases set_get h with ⟨_, _, q⟩ | ⟨e, q⟩
    · cases q
    · rw [List.getElem?_set_ne (Ne.symm e)]; exact o.sh j R' q
  ow := fun j O' h => by
    rcases set_get h with ⟨rfl, hl, q⟩ | ⟨e, q⟩
    · cases q
      exact ⟨a, u, by rw [List.getElem?_set_self (by rw [← o.len]; exact hl)], h4, h1, h2, h3⟩
    · rw [List.getElem?_set_ne (Ne.symm e)]; exact o.ow j O' q
  ne := fun j l O1 O2 c g1 g2 g3 g4 => by
    rcases set_get g1 with ⟨rfl, hl, _⟩ | ⟨e, q⟩
    · rcases set_get g2 with ⟨rfl, _, _⟩ | ⟨e', q'⟩
      · rfl
      · rw [List.getElem?_set_self (by rw [← o.len]; exact hl)] at g3
        cases g3
        rw [List.getElem?_set_ne (Ne.symm e')] at g4
        exact absurd g4 (h5 l O2 q')
    · rw [List.getElem?_set_ne (Ne.symm e)] at g3
      rcases set_get g2 with ⟨rfl, hl, _⟩ | ⟨e', q'⟩
      · rw [List.getElem?_set_self (by rw [← o.len]; exact hl)] at g4
        cases g4
        exact absurd g3 (h5 j O1 q)
      · rw [List.getElem?_set_ne (Ne.symm e')] at g4
        exact o.ne j l O1 O2 c q q' g3 g4
  pen := o.pen
/-- the entries one after another -/
def putAll (S : LSt) : List Nat → List Ent → LSt
  | i :: is, E :: Es => putAll (S.putE i E) is Es
  | _, _ => S
def setAll (σ : St) : List Nat → List V → St
  | i :: is, v :: vs => setAll (σ.set i (some v)) is vs
  | _, _ => σ
theorem StOK.putAll : ∀ {is : List Nat} {es : List Ent} {vs : List V} {S : LSt} {σ : St}, StOK K pn B Hs S σ H → Paired (EntAt Hs H) es vs → Pend pn B S σ es vs → StOK K pn B Hs (putAll S is es) (setAll σ is vs) H
  | [], _, _, S, σ, o, _, _ => by unfold DL.putAll setAll; exact o
  | i :: is, [], _, S, σ, o, .nil, _ => by unfold DL.putAll setAll; exact o
  | i :: is, .sh R :: es, v :: vs, S, σ, o, .cons r t, pd => by
    unfold DL.putAll setAll
    refine StOK.putAll (o.put (show R.p Hs v from r)) t ⟨fun j O a g1 g2 => ?_, fun j l O O' a g1 g2 g3 g4 => ?_⟩
    · obtain ⟨q1, q2⟩ := pd.new (j + 1) O a (by simpa using g1) (by simpa using g2)
      refine ⟨q1, fun l O' h h' => ?_⟩
      rcases set_get h with ⟨_, _, q⟩ | ⟨e, q⟩
      · cases q
      · rw [List.getElem?_set_ne (Ne.symm e)] at h'; exact q2 l O' q h'
    · have := pd.ne (j + 1) (l + 1) O O' a (by simpa using g1) (by simpa using g2) (by simpa using g3) (by simpa using g4)
      omega
  | i :: is, .ow O :: es, v :: vs, S, σ, o, .cons r t, pd => by
    unfold DL.putAll setAll
    obtain ⟨a, u, rfl, h1, h2, h3⟩ := r
    obtain ⟨hb, hj⟩ := pd.new 0 O a (by simp) (by simp)
    refine StOK.putAll (o.putO h1 h2 h3 hb hj) t ⟨fun j O' c g1 g2 => ?_, fun j l O1 O2 c g1 g2 g3 g4 => ?_⟩
    · obtain ⟨q1, q2⟩ := pd.new (j + 1) O' c (by simpa using g1) (by simpa using g2)
      refine ⟨q1, fun l O2 h h' => ?_⟩
      rcases set_get h with ⟨rfl, hl, q⟩ | ⟨e, q⟩
      · rw [List.getElem?_set_self (by rw [← o.len]; exact hl)] at h'
        cases h'
        have := pd.ne 0 (j + 1) O O' a (by simp) (by simpa using g1) (by simp) (by simpa using g2)
        omega
      · rw [List.getElem?_set_ne (Ne.symm e)] at h'; exact q2 l O2 q h'
    · have := pd.ne (j + 1) (l + 1) O1 O2 c (by simpa using g1) (by simpa using g2) (by simpa using g3) (by simpa using g4)
      omega
/-- an owned object is changed -/
theorem StOK.change {i : Nat} {O O' : Own} {a : Addr} {u : HO} (o : StOK K pn B Hs S σ H) (h : S.ρ[i]? = some (some (.ow O))) (hσ : σ[i]? = some (some (.ref a))) (hp : O'.p Hs a u) : StOK K pn B Hs (S.putE i (.ow O')) σ (upd H a u) := by
  obtain ⟨a', u', g1, g2, g3, g4, g5⟩ := o.ow i O h
  rw [hσ] at g1; cases g1
  have hl : i < S.ρ.length := (List.getElem?_eq_some_iff.mp h).1
  have npn : pn ≠ some a := fun z => (o.pen a z).2 g2
  refine ⟨⟨o.e.s, Same.upd2 o.e.w g3, fun b v q n => ?_, fun b q => ?_, o.e.f⟩, ?_, fun j R' q => ?_, fun j O2 q => ?_, fun j l O1 O2 c q1 q2 q3 q4 => ?_, fun b q => ⟨?_, (o.pen b q).2⟩⟩
  · have : b ≠ a := fun z => by rw [z, g2] at q; cases q
    rw [upd_ne this]; exact o.e.k b v q n
  · by_cases hba : b = a
    · rw [hba, upd_same]; simp
    · rw [upd_ne hba]; exact o.e.t b q
  · show (S.ρ.set i _).length = _; rw [List.length_set]; exact o.len
  · rcases set_get q with ⟨_, _, q⟩ | ⟨e, q⟩
    · cases q
    · exact o.sh j R' q
  · rcases set_get q with ⟨rfl, _, q⟩ | ⟨e, q⟩
    · cases q
      exact ⟨a, u, hσ, g2, g3, upd_same, hp⟩
    · obtain ⟨c, v, q1, q2, q3, q4, q5⟩ := o.ow j O2 q
      have : c ≠ a := fun z => e (o.ne j i O2 O a q h (by rw [← z]; exact q1) hσ)
      exact ⟨c, v, q1, q2, q3, by rw [upd_ne this]; exact q4, q5⟩
  · have f : ∀ {j : Nat} {O1 : Own}, (S.ρ.set i (some (Ent.ow O')))[j]? = some (some (Ent.ow O1)) → ∃ O3 : Own, S.ρ[j]? = some (some (Ent.ow O3)) := fun {j O1} q => by
      rcases set_get q with ⟨rfl, _, _⟩ | ⟨e, q⟩
      · exact ⟨O, h⟩
      · exact ⟨O1, q⟩
    obtain ⟨O3, r1⟩ := f q1
    obtain ⟨O4, r2⟩ := f q2
    exact o.ne j l O3 O4 c r1 r2 q3 q4
  · obtain ⟨⟨h0, ns, t, r, e, h2⟩, hb⟩ := o.pen b q
    have : b ≠ a := fun z => npn (by rw [← z]; exact q)
    exact ⟨h0, ns, t, r, by rw [upd_ne this]; exact e, h2⟩
/-- an owned object is no longer changed: it may be kept in answers -/
theorem StOK.share {i : Nat} {O : Own} {R : Th} (o : StOK K pn B Hs S σ H) (h : S.ρ[i]? = some (some (.ow O))) (hR : ∀ (Hs : Hp) (a : Addr) u, Hs a = some u → O.p Hs a u → R.p Hs (.ref a)) : ∃ Hs', Same Hs Hs' ∧ StOK K pn B Hs' (S.putE i (.sh R)) σ H := by
  obtain ⟨a, u, g1, g2, g3, g4, g5⟩ := o.ow i O h
  have hl : i < S.ρ.length := (List.getElem?_eq_some_iff.mp h).1
  have w := Same.upd (o := u) g3
  refine ⟨upd Hs a u, w, ⟨o.e.s.trans w, fun b v q => ?_, o.e.k, o.e.t, fun b q q' => ?_⟩, ?_, fun j R' q => ?_, fun j O2 q => ?_, fun j l O1 O2 c q1 q2 q3 q4 => ?_, fun b q => ⟨?_, (o.pen b q).2⟩⟩
  · by_cases hba : b = a
    · rw [hba, upd_same] at q; cases q; rw [hba]; exact g4
    · rw [upd_ne hba] at q; exact o.w _ _ q
  · have hba : b ≠ a := fun z => by rw [z] at q'; exact q' g2
    rw [upd_ne hba]; exact o.e.f b q q'
  · show (S.ρ.set i _).length = _; rw [List.length_set]; exact o.len
  · rcases set_get q with ⟨rfl, _, q⟩ | ⟨e, q⟩
    · cases q
      exact ⟨.ref a, g1, hR _ a u upd_same (O.mono w g5)⟩
    · obtain ⟨v, r1, r2⟩ := o.sh j R' q
      exact ⟨v, r1, R'.mono w r2⟩
  · rcases set_get q with ⟨_, _, q⟩ | ⟨e, q⟩
    · cases q
    · obtain ⟨c, v, q1, q2, q3, q4, q5⟩ := o.ow j O2 q
      have : c ≠ a := fun z => e (o.ne j i O2 O a q h (by rw [← z]; exact q1) g1)
      exact ⟨c, v, q1, q2, by rw [upd_ne this]; exact q3, q4, O2.mono w q5⟩
  · rcases set_get q1 with ⟨_, _, q⟩ | ⟨e, r1⟩
    · cases q
    · rcases set_get q2 with ⟨_, _, q⟩ | ⟨e', r2⟩
      · cases q
      · exact o.ne j l O1 O2 c r1 r2 q3 q4
  · obtain ⟨⟨h0, ns, t, r, e, h2, h3⟩, hb⟩ := o.pen b q
    have : b ≠ a := fun z => by rw [z] at hb; exact hb g2
    exact ⟨by rw [upd_ne this]; exact h0, ns, t, r, e, w _ _ h2, h3⟩
end
theorem share_L {Rs : List Th} (Hs : Hp) (a : Addr) (u : HO) (h : Hs a = some u) (p : (ownL Rs).p Hs a u) : (lstT Rs).p Hs (.ref a) := by
  obtain ⟨vs, rfl, q⟩ := p
  exact ⟨a, vs, rfl, h, q⟩
theorem share_D {kvs : List (Key × Th)} (Hs : Hp) (a : Addr) (u : HO) (h : Hs a = some u) (p : (ownD kvs).p Hs a u) : (dicT kvs).p Hs (.ref a) := by
  obtain ⟨vs, rfl, q⟩ := p
  exact ⟨a, vs, rfl, .inl h, q⟩

section
variable {X : Cx} {pn : Option Addr} {e : Expr} {es : List Expr} {sts : List Stmt} {st : Stmt} {pos : Pos} {S : LSt} {D : LD} {P : Th → LSt → Prop} {PB : Bool → LSt → Prop}
/-- from here on the list at slot i is not changed -/
theorem lb_shareL {i : Nat} {Rs : List Th} (h : S.ρ[i]? = some (some (.ow (ownL Rs)))) (q : LB X pn sts (S.put i (lstT Rs)) D) : LB X pn sts S D := by
  intro B Hs σ H o E t
  obtain ⟨Hs', w, o'⟩ := o.share h share_L
  exact q B Hs' σ H o' E t
theorem lb_shareD {i : Nat} {kvs : List (Key × Th)} (h : S.ρ[i]? = some (some (.ow (ownD kvs)))) (q : LB X pn sts (S.put i (dicT kvs)) D) : LB X pn sts S D := by
  intro B Hs σ H o E t
  obtain ⟨Hs', w, o'⟩ := o.share h share_D
  exact q B Hs' σ H o' E t
theorem l1_setO {i : Nat} {x : Str} {pos' : Pos} (h : LN X pn e S fun O S1 => D.nx (S1.putE i (.ow O))) (hN : X.N.Nodup) (hi : X.N[i]? = some x := by rfl) (hx : Loc X.env.scope x := by first | exact .inl rfl | exact .inr rfl)
    (hs : swapsWith e (some (.Name x pos')) pos.line X.env = pure false := by rfl) (hf : X.fn x = true ∨ X.env.scope.names.lookup x = some .local := by first | exact .inl rfl | exact .inr rfl) : L1 X pn (.Assign [.Name x pos'] e pos) S D := by
  intro B Hs σ H o E t
  refine ws_of (ps_set hN hi hx pe_we hs hf) (h B Hs σ H o _ fun O S1 a u Hs1 H1 p o1 e1 hn hu hp hb hj => ?_)
  exact t.nx _ Hs1 _ H1 p (o1.putO hn hu hp hb hj)
theorem l1_par2 {i j : Nat} {x y : Str} {a b : Expr} {px py pt : Pos} {kt k2 : Nat} {pt2 : Pos} (h : LO X pn [a, b] S fun ents S1 => ents.length = 2 ∧ D.nx (putAll S1 [i, j] ents)) (hN : X.N.Nodup)
    (hw : swappedStores [.Tuple [.Name x px, .Name y py] kt pt] (.Tuple [a, b] k2 pt2) X.env = pure (some [x, y]) := by rfl) (hi : X.N[i]? = some x := by rfl) (hj : X.N[j]? = some y := by rfl) (hij : i ≠ j := by decide)
    (hx : X.env.scope.names.lookup x = some .local := by rfl) (hy : X.env.scope.names.lookup y = some .local := by rfl) (hc : X.calm = true := by rfl)
    (hs : swapsWithSole [.Tuple [.Name x px, .Name y py] kt pt] (.Tuple [a, b] k2 pt2) pos.line X.env = pure false := by rfl) : L1 X pn (.Assign [.Tuple [.Name x px, .Name y py] kt pt] (.Tuple [a, b] k2 pt2) pos) S D := by
  intro B Hs σ H o E t
  refine ws_of (ps_par hc hN hi hj hij hx hy pa_wa hw hs) (h B Hs σ H o _ fun ents S1 vs Hs1 H1 h1 o1 e1 r1 pd => ?_)
  have hl : vs.length = 2 := by rw [← Paired.length r1]; exact h1.1
  match vs, hl with
  | [v, w'], _ => exact ⟨v, w', rfl, t.nx _ Hs1 _ H1 h1.2 (o1.putAll (is := [i, j]) r1 pd)⟩
theorem l1_par3 {i j l : Nat} {x y z : Str} {a b c : Expr} {px py pz pt : Pos} {kt k2 : Nat} {pt2 : Pos} (h : LO X pn [a, b, c] S fun ents S1 => ents.length = 3 ∧ D.nx (putAll S1 [i, j, l] ents)) (hN : X.N.Nodup)
    (hw : swappedStores [.Tuple [.Name x px, .Name y py, .Name z pz] kt pt] (.Tuple [a, b, c] k2 pt2) X.env = pure (some [x, y, z]) := by rfl) (hi : X.N[i]? = some x := by rfl) (hj : X.N[j]? = some y := by rfl) (hl : X.N[l]? = some z := by rfl) (hij : i ≠ j := by decide) (hil : i ≠ l := by decide) (hjl : j ≠ l := by decide)
    (hx : X.env.scope.names.lookup x = some .local := by rfl) (hy : X.env.scope.names.lookup y = some .local := by rfl) (hz : X.env.scope.names.lookup z = some .local := by rfl) (hc : X.calm = true := by rfl)
    (hs : swapsWithSole [.Tuple [.Name x px, .Name y py, .Name z pz] kt pt] (.Tuple [a, b, c] k2 pt2) pos.line X.env = pure false := by rfl) : L1 X pn (.Assign [.Tuple [.Name x px, .Name y py, .Name z pz] kt pt] (.Tuple [a, b, c] k2 pt2) pos) S D := by
  intro B Hs σ H o E t
  refine ws_of (ps_par3 hc hN hi hj hl hij hil hjl hx hy hz pa_wa hw hs) (h B Hs σ H o _ fun ents S1 vs Hs1 H1 h1 o1 e1 r1 pd => ?_)
  have hl : vs.length = 3 := by rw [← Paired.length r1]; exact h1.1
  match vs, hl with
  | [v, w', w2], _ => exact ⟨v, w', w2, rfl, t.nx _ Hs1 _ H1 h1.2 (o1.putAll (is := [i, j, l]) r1 pd)⟩
end
/-- names that are stored one after another -/
inductive NamesAt (X : Cx) : List Expr → List Nat → Prop
  | nil : NamesAt X [] []
  | cons {x : Str} {pos : Pos} {es : List Expr} {i : Nat} {is : List Nat} (hN : X.N.Nodup) (hi : X.N[i]? = some x) (hx : Loc X.env.scope x) (hf : X.fn x = true ∨ X.env.scope.names.lookup x = some .local)
    (hs : (assignEach (.Name x pos :: es) X.env).map (·.2) = assign (.Name x pos) X.env :: (assignEach es X.env).map (·.2)) (t : NamesAt X es is) : NamesAt X (.Name x pos :: es) (i :: is)
def gAll : List Nat → TGs
  | [] => gNil
  | i :: is => gCons (gName i) (gAll is)
theorem pgs_names {X : Cx} : ∀ {es : List Expr} {is : List Nat}, NamesAt X es is → PGs X es (gAll is)
  | _, _, .nil => pgs_nil
  | _, _, .cons hN hi hx hf hs t => pgs_cons (pg_name hN hi hx hf) (pgs_names t) hs
theorem gAll_run : ∀ {is : List Nat} {vs : List V} {σ : St} {H : Hp} {Q : St → Hp → Prop}, is.length = vs.length → Q (setAll σ is vs) H → gAll is vs σ H Q
  | [], [], σ, H, Q, _, q => ⟨rfl, by unfold setAll at q; exact q⟩
  | [], _ :: _, _, _, _, h, _ => by simp at h
  | _ :: _, [], _, _, _, h, _ => by simp at h
  | i :: is, v :: vs, σ, H, Q, h, q => ⟨v, vs, rfl, gAll_run (σ := σ.set i (some v)) (by simpa using h) (by unfold setAll at q; exact q)⟩
section
variable {X : Cx} {pn : Option Addr} {e : Expr} {es tgs : List Expr} {is : List Nat} {sts : List Stmt} {st : Stmt} {pos : Pos} {S : LSt} {D : LD} {P : Th → LSt → Prop}
/-- a, b, .. = e1, e2, .. through a tuple -/
theorem l1_parN {pt pt2 : Pos} {kt k2 : Nat} (h : LO X pn es S fun ents S1 => ents.length = is.length ∧ D.nx (putAll S1 is ents)) (hn : NamesAt X tgs is) (hlen : (assignEach tgs X.env).length = is.length := by rfl) (hst : (assignEach tgs X.env).findIdx? (·.1) = none := by rfl) (hz : is.length ≤ 1000 := by decide)
    (hc : X.calm = true := by rfl) (hs : swapsWithSole [.Tuple tgs kt pt] (.Tuple es k2 pt2) pos.line X.env = pure false := by rfl) (hw : swappedStores [.Tuple tgs kt pt] (.Tuple es k2 pt2) X.env = pure none := by rfl)
    (h1 : (assignEach [.Tuple tgs kt pt] X.env).map (·.2) = [assign (.Tuple tgs kt pt) X.env] := by rfl) : L1 X pn (.Assign [.Tuple tgs kt pt] (.Tuple es k2 pt2) pos) S D := by
  intro B Hs σ H o E t
  refine ws_of (ps_asg (pe_tup pa_wa) (pg_tup hc (pgs_names hn) hlen hst) hs hw h1) (h B Hs σ H o _ fun ents S1 vs Hs1 H1 g1 o1 e1 r1 pd => ?_)
  have hl : vs.length = is.length := by rw [← Paired.length r1]; exact g1.1
  refine ⟨by rw [hl]; exact Nat.le_trans hz (by decide), fun p hp => ⟨p, vs, rfl, SqT.of upd_same, hl, gAll_run hl.symm ?_⟩⟩
  have x : Ext none Hs1 H1 Hs1 (upd H1 p (.tup vs)) := ⟨.refl _, Same.upd2 o1.w (o1.w.free hp), fun b u h _ => by rw [upd_ne (ne_of_none h hp)]; exact h, fun b h => by
      by_cases hb : b = p
      · subst hb; exact absurd hp h
      · rw [upd_ne hb]; exact h, fun _ h _ => h⟩
  exact t.nx _ Hs1 _ _ g1.2 ((o1.ext x).putAll (is := is) (ents_ext r1 x) pd)
end
end DL
set_option Elab.async false
set_option linter.all false
set_option maxRecDepth 100000
set_option maxHeartbeats 4000000
namespace DL
open PySem PySem.Spec L2
open PyProof.Rows hiding St

section
variable {X : Cx} {pn : Option Addr} {a b e : Expr} {es : List Expr} {sts : List Stmt} {st : Stmt} {pos apos cpos p : Pos} {S : LSt} {D : LD} {P : Th → LSt → Prop} {PB : Bool → LSt → Prop} {PO : Own → LSt → Prop} {x : Str} {i : Nat}
/-- a slot that holds an owned object -/
theorem own_at {K : PySem.W.Frag} {B : Base} {Hs : Hp} {σ : St} {H : Hp} {O : Own} (o : StOK K pn B Hs S σ H) (h : S.ρ[i]? = some (some (.ow O))) : ∃ a u, σ[i]? = some (some (.ref a)) ∧ H a = some u ∧ O.p Hs a u := by
  obtain ⟨a, u, h1, _, _, h4, h5⟩ := o.ow i O h
  exact ⟨a, u, h1, h4, h5⟩
/-! ### xs.append(e), xs.pop(), xs.pop(i) -/
theorem l1_append {c : Expr} (i : Nat) (h0 : ∃ Rs, S.ρ[i]? = some (some (.ow (ownL Rs)))) (h : LE X pn e S fun R S1 => ∃ Rs, S1.ρ[i]? = some (some (.ow (ownL Rs))) ∧ Rs.length < sizeLine ∧ D.nx (S1.putE i (.ow (ownL (Rs ++ [R])))))
    (hp : PE X (.Call c [e] [] cpos) (tBM X.K "list" rAppend (tVar i) (tCons (WE X e) tNil)) := by exact pe_bm PySem.F.plainAttrs_list PySem.F.slot_list_append PySem.F.type_list_append mt_append (pv _) (pa_cons pe_we pa_nil))
    (hs : swapsWith (.Call c [e] [] cpos) none pos.line X.env = pure false := by rfl) : L1 X pn (.Expr (.Call c [e] [] cpos) pos) S D := by
  intro B Hs σ H o E t
  obtain ⟨Rs0, h0⟩ := h0
  obtain ⟨a, u, hσ, hu, vs0, rfl, ha0⟩ := own_at o h0
  refine ws_of (ps_expr hp hs) ⟨.ref a, hσ, .inl ⟨rfl, _, SqL.of hu⟩, ?_⟩
  refine h B Hs σ H o _ fun R S1 v Hs1 H1 h1 o1 e1 r1 => ?_
  obtain ⟨Rs, h1, hz, q⟩ := h1
  obtain ⟨a', u', hσ', hu', vs, rfl, ha⟩ := own_at o1 h1
  rw [hσ] at hσ'; cases hσ'
  refine ⟨a, vs, v, rfl, rfl, hu', by rw [← ha.length]; exact hz, ?_⟩
  exact t.nx _ Hs1 _ _ q (o1.change h1 hσ (O' := ownL (Rs ++ [R])) ⟨_, rfl, ha.snoc r1⟩)
theorem alls_last {H : Hp} {R : Th} : ∀ {Rs : List Th} {vs : List V}, Alls H (Rs ++ [R]) vs → ∃ ws v, vs = ws ++ [v] ∧ Alls H Rs ws ∧ R.p H v
  | [], _, .cons r .nil => ⟨[], _, rfl, .nil, r⟩
  | _ :: Rs, _, .cons r t => by
    obtain ⟨ws, v, rfl, h1, h2⟩ := alls_last t
    exact ⟨_ :: ws, v, rfl, .cons r h1, h2⟩
theorem le_pop {c : Expr} (i : Nat) {Rs : List Th} {R : Th} (h0 : S.ρ[i]? = some (some (.ow (ownL (Rs ++ [R]))))) (q : P R (S.putE i (.ow (ownL Rs))))
    (hp : PE X (.Call c [] [] cpos) (tBM0 X.K "list" rPop (tVar i)) := by exact pe_bm0 PySem.F.plainAttrs_list PySem.F.slot_list_pop PySem.F.type_list_pop mt_pop (pv _)) : LE X pn (.Call c [] [] cpos) S P := by
  intro B Hs σ H o Q k
  obtain ⟨a, u, hσ, hu, vs, rfl, ha⟩ := own_at o h0
  obtain ⟨ws, v, rfl, h1, h2⟩ := alls_last ha
  refine we_of hp ⟨.ref a, hσ, .inl ⟨rfl, _, SqL.of hu⟩, a, ws ++ [v], v, rfl, rfl, hu, by simp, ?_⟩
  rw [List.dropLast_concat]
  exact k R _ v Hs _ q (o.change h0 hσ (O' := ownL Rs) ⟨_, rfl, h1⟩) (.refl _) h2
theorem alls_erase {H : Hp} : ∀ {Rs : List Th} {vs : List V} (j : Nat), Alls H Rs vs → Alls H (Rs.eraseIdx j) (vs.eraseIdx j)
  | _, _, _, .nil => .nil
  | _, _, 0, .cons _ t => t
  | _, _, j + 1, .cons r t => .cons r (alls_erase j t)
theorem le_popAt {c : Expr} (i : Nat) (h0 : ∃ Rs, S.ρ[i]? = some (some (.ow (ownL Rs)))) (h : LE X pn e S fun R S1 => ∃ Rs j R', R = vl (.int ((j : Nat) : Int)) ∧ S1.ρ[i]? = some (some (.ow (ownL Rs))) ∧ Rs.length ≤ 1000 ∧ Rs[j]? = some R' ∧ P R' (S1.putE i (.ow (ownL (Rs.eraseIdx j)))))
    (hp : PE X (.Call c [e] [] cpos) (tBM X.K "list" rPopAt (tVar i) (tCons (WE X e) tNil)) := by exact pe_bm PySem.F.plainAttrs_list PySem.F.slot_list_pop PySem.F.type_list_pop mt_popAt (pv _) (pa_cons pe_we pa_nil)) : LE X pn (.Call c [e] [] cpos) S P := by
  intro B Hs σ H o Q k
  obtain ⟨Rs0, h0⟩ := h0
  obtain ⟨a, u, hσ, hu, vs0, rfl, ha0⟩ := own_at o h0
  refine we_of hp ⟨.ref a, hσ, .inl ⟨rfl, _, SqL.of hu⟩, ?_⟩
  refine h B Hs σ H o _ fun R S1 v Hs1 H1 h1 o1 e1 r1 => ?_
  obtain ⟨Rs, j, R', rfl, g1, gz, g2, q⟩ := h1
  obtain ⟨a', u', hσ', hu', vs, rfl, ha⟩ := own_at o1 g1
  rw [hσ] at hσ'; cases hσ'
  obtain ⟨y, hy, ry⟩ := ha.get g2
  have hj : j < vs.length := (List.getElem?_eq_some_iff.mp hy).1
  have hz : vs.length ≤ 1000 := by rw [← ha.length]; exact gz
  cases (show v = V.int j from r1)
  have hix : seqIndex? ((j : Nat) : Int) vs.length = some j := (ixN_seq (n := vs.length) (i := ((j : Nat) : Int)) (j := j) (by
    unfold ixN
    rw [if_pos (by omega), if_pos (by omega)]
    simp)).1
  refine ⟨a, vs, (j : Int), j, y, rfl, rfl, hu', by omega, by omega, hix, hy, ?_⟩
  exact k R' _ y Hs1 _ q (o1.change g1 hσ (O' := ownL (Rs.eraseIdx j)) ⟨_, rfl, alls_erase j ha⟩) e1 ry

/-! ### dicts with keys that are ints and texts -/
def lookT (kvs : List (Key × Th)) (k : Key) : Option Th := (kvs.find? fun kv => decide (kv.1 = k)).map Prod.snd
def putT (kvs : List (Key × Th)) (k : Key) (R : Th) : List (Key × Th) :=
  if (kvs.any fun kv => decide (kv.1 = k)) = true then kvs.map (fun kv => if kv.1 = k then (kv.1, R) else kv) else kvs ++ [(k, R)]
def dropT (kvs : List (Key × Th)) (k : Key) : List (Key × Th) := kvs.filter fun kv => decide (kv.1 ≠ k)
theorem KAll.length {H : Hp} : ∀ {kvs : List (Key × Th)} {ws : List (Key × V)}, KAll H kvs ws → kvs.length = ws.length
  | _, _, .nil => rfl
  | _, _, .cons _ t => congrArg (· + 1) (KAll.length t)
theorem look_ok {H : Hp} {k : Key} : ∀ {kvs : List (Key × Th)} {ws : List (Key × V)}, KAll H kvs ws → (∀ R, lookT kvs k = some R → ∃ v, valV ws k = some v ∧ R.p H v) ∧ (lookT kvs k = none → valV ws k = none)
  | _, _, .nil => ⟨fun R h => (by cases h), fun _ => rfl⟩
  | _, _, .cons (a := (k', R')) (b := (k2, v)) r t => by
    obtain ⟨r1, r2⟩ := r
    have r1 : k' = k2 := r1
    subst r1
    by_cases e : k' = k
    · subst e
      exact ⟨fun R h => by
        unfold lookT at h
        rw [List.find?_cons] at h
        simp only [decide_true] at h
        cases h
        exact ⟨v, valV_pos rfl, r2⟩, fun h => by
        unfold lookT at h
        rw [List.find?_cons] at h
        simp only [decide_true] at h
        cases h⟩
    · have h1 : ∀ l : List (Key × Th), lookT ((k', R') :: l) k = lookT l k := fun l => by
        unfold lookT
        rw [List.find?_cons]
        simp only [e, decide_false]
      rw [h1, valV_neg (show ¬ (k', v).1 = k from e)]
      exact look_ok t
theorem any_ok {H : Hp} {k : Key} : ∀ {kvs : List (Key × Th)} {ws : List (Key × V)}, KAll H kvs ws → (kvs.any fun kv => decide (kv.1 = k)) = (ws.any fun kv => decide (kv.1 = k))
  | _, _, .nil => rfl
  | _, _, .cons (a := a) (b := b) r t => by
    have r1 : a.1 = b.1 := r.1
    rw [List.any_cons, List.any_cons, any_ok t, r1]
theorem map_ok {H : Hp} {k : Key} {R : Th} {v : V} (r : R.p H v) : ∀ {kvs : List (Key × Th)} {ws : List (Key × V)}, KAll H kvs ws → KAll H (kvs.map fun kv => if kv.1 = k then (kv.1, R) else kv) (ws.map fun kv => if kv.1 = k then (kv.1, v) else kv)
  | _, _, .nil => .nil
  | _, _, .cons (a := a) (b := b) q t => by
    rw [List.map_cons, List.map_cons]
    refine .cons ?_ (map_ok r t)
    by_cases e : a.1 = k
    · have e' : b.1 = k := by rw [← q.1]; exact e
      rw [if_pos e, if_pos e']
      exact ⟨q.1, r⟩
    · have e' : ¬ b.1 = k := by rw [← q.1]; exact e
      rw [if_neg e, if_neg e']
      exact q
theorem put_ok {H : Hp} {k : Key} {R : Th} {v : V} {kvs : List (Key × Th)} {ws : List (Key × V)} (h : KAll H kvs ws) (r : R.p H v) : KAll H (putT kvs k R) (putK ws k v) := by
  unfold putT putK
  rw [any_ok h]
  split
  · exact map_ok r h
  · exact Paired.snoc (a := (k, R)) (b := (k, v)) h ⟨rfl, r⟩
theorem drop_ok {H : Hp} {k : Key} : ∀ {kvs : List (Key × Th)} {ws : List (Key × V)}, KAll H kvs ws → KAll H (dropT kvs k) (dropK ws k)
  | _, _, .nil => .nil
  | _, _, .cons (a := a) (b := b) q t => by
    have ih := drop_ok (k := k) t
    unfold dropT dropK at ih ⊢
    rw [List.filter_cons, List.filter_cons]
    have e : decide (a.1 ≠ k) = decide (b.1 ≠ k) := by rw [q.1]
    rw [e]
    split
    · exact .cons q ih
    · exact ih
theorem dget_of {H : Hp} {a : Addr} {ws : List (Key × V)} {k : Key} (h : Rd H a (.dK ws)) : DGet H a (kV k) (valV ws k) := .inl ⟨ws, k, h, rfl, rfl⟩
theorem some_ok {H : Hp} {k : Key} {kvs : List (Key × Th)} {ws : List (Key × V)} (h : KAll H kvs ws) : (valV ws k).isSome = (lookT kvs k).isSome := by
  cases c : lookT kvs k with
  | none => rw [(look_ok h).2 c]; all_goals rfl
  | some R => obtain ⟨v, c1, _⟩ := (look_ok h).1 R c; rw [c1]; all_goals rfl
/-- k in d -/
def InD (R Rb : Th) (k : Bool → Prop) : Prop := ∃ key kvs, R = vl (kV key) ∧ Rb = dicT kvs ∧ k (lookT kvs key).isSome
theorem le_din (h : LE X pn a S fun Ra S1 => LE X pn b S1 fun Rb S2 => InD Ra Rb fun k => P (vl (.bl k)) S2) {j : Nat} (hr : Room j X.A) (hm : behindInMarks .In b = false := by rfl) : LE X pn (.Compare a [.In] [b] pos) S P := by
  intro B Hs σ H o Q k
  refine we_of (pe_cmp (pc_din (hu_of hr) pe_we pe_we) hm) (h B Hs σ H o _ fun Ra S1 x Hs1 H1 h1 o1 e1 r1 => ?_)
  refine h1 B Hs1 σ H1 o1 _ fun Rb S2 y Hs2 H2 h2 o2 e2 r2 => ?_
  obtain ⟨key, kvs, rfl, rfl, q⟩ := h2
  obtain ⟨a, ws, rfl, g1, g2⟩ := r2
  cases (show x = kV key from r1)
  refine ⟨a, _, rfl, dget_of (rd_mono o2.w g1), ?_⟩
  have e := some_ok (k := key) g2
  rw [e]
  exact k _ S2 _ Hs2 H2 q o2 (e1.trans e2) rfl
theorem le_dnotin (h : LE X pn a S fun Ra S1 => LE X pn b S1 fun Rb S2 => InD Ra Rb fun k => P (vl (.bl (!k))) S2) {j : Nat} (hr : Room j X.A) (hm : behindInMarks .NotIn b = false := by rfl) : LE X pn (.Compare a [.NotIn] [b] pos) S P := by
  intro B Hs σ H o Q k
  refine we_of (pe_cmp (pc_dnotin (hu_of hr) pe_we pe_we) hm) (h B Hs σ H o _ fun Ra S1 x Hs1 H1 h1 o1 e1 r1 => ?_)
  refine h1 B Hs1 σ H1 o1 _ fun Rb S2 y Hs2 H2 h2 o2 e2 r2 => ?_
  obtain ⟨key, kvs, rfl, rfl, q⟩ := h2
  obtain ⟨a, ws, rfl, g1, g2⟩ := r2
  cases (show x = kV key from r1)
  refine ⟨a, _, rfl, dget_of (rd_mono o2.w g1), ?_⟩
  have e := some_ok (k := key) g2
  rw [e]
  exact k _ S2 _ Hs2 H2 q o2 (e1.trans e2) rfl
theorem lt_din (h : LE X pn a S fun Ra S1 => LE X pn b S1 fun Rb S2 => InD Ra Rb fun k => PB k S2) {j : Nat} (hr : Room j X.A) (hm : behindInMarks .In b = false := by rfl) : LT X pn (.Compare a [.In] [b] pos) S PB := by
  intro B Hs σ H o Q k
  refine wt_of (pt_cmp (pc_din (hu_of hr) pe_we pe_we) hm) (h B Hs σ H o _ fun Ra S1 x Hs1 H1 h1 o1 e1 r1 => ?_)
  refine h1 B Hs1 σ H1 o1 _ fun Rb S2 y Hs2 H2 h2 o2 e2 r2 => ?_
  obtain ⟨key, kvs, rfl, rfl, q⟩ := h2
  obtain ⟨a, ws, rfl, g1, g2⟩ := r2
  cases (show x = kV key from r1)
  refine ⟨a, _, rfl, dget_of (rd_mono o2.w g1), _, rfl, ?_⟩
  have e := some_ok (k := key) g2
  rw [e]
  exact k _ S2 Hs2 H2 q o2 (e1.trans e2)
theorem lt_dnotin (h : LE X pn a S fun Ra S1 => LE X pn b S1 fun Rb S2 => InD Ra Rb fun k => PB (!k) S2) {j : Nat} (hr : Room j X.A) (hm : behindInMarks .NotIn b = false := by rfl) : LT X pn (.Compare a [.NotIn] [b] pos) S PB := by
  intro B Hs σ H o Q k
  refine wt_of (pt_cmp (pc_dnotin (hu_of hr) pe_we pe_we) hm) (h B Hs σ H o _ fun Ra S1 x Hs1 H1 h1 o1 e1 r1 => ?_)
  refine h1 B Hs1 σ H1 o1 _ fun Rb S2 y Hs2 H2 h2 o2 e2 r2 => ?_
  obtain ⟨key, kvs, rfl, rfl, q⟩ := h2
  obtain ⟨a, ws, rfl, g1, g2⟩ := r2
  cases (show x = kV key from r1)
  refine ⟨a, _, rfl, dget_of (rd_mono o2.w g1), _, rfl, ?_⟩
  have e := some_ok (k := key) g2
  rw [e]
  exact k _ S2 Hs2 H2 q o2 (e1.trans e2)
/-- d[k] -/
theorem le_dget (h : LE X pn a S fun Ra S1 => LE X pn b S1 fun Rb S2 => ∃ key kvs R, Rb = vl (kV key) ∧ Ra = dicT kvs ∧ lookT kvs key = some R ∧ P R S2) {j : Nat} (hr : Room j X.A) (hs : NoSl b := by exact fun _ _ => rfl) : LE X pn (.Subscript a b pos) S P := by
  intro B Hs σ H o Q k
  refine we_of (pe_dget (hu_of hr) pe_we pe_we hs) (h B Hs σ H o _ fun Ra S1 x Hs1 H1 h1 o1 e1 r1 => ?_)
  refine h1 B Hs1 σ H1 o1 _ fun Rb S2 y Hs2 H2 h2 o2 e2 r2 => ?_
  obtain ⟨key, kvs, R, rfl, rfl, hl, q⟩ := h2
  obtain ⟨a, ws, rfl, g1, g2⟩ := r1
  cases (show y = kV key from r2)
  obtain ⟨v, c1, c2⟩ := (look_ok g2).1 R hl
  exact ⟨a, v, rfl, by rw [← c1]; exact dget_of (rd_mono (e2.trans o2.w) g1), k R S2 v Hs2 H2 q o2 (e1.trans e2) (R.mono e2 c2)⟩
/-- d[k] = v, d an owned dict's name -/
theorem l1_dput {tg k v : Expr} (i : Nat) (h0 : ∃ O, S.ρ[i]? = some (some (.ow O))) (h : LE X pn v S fun R S1 => LE X pn k S1 fun Rk S2 => ∃ key kvs, Rk = vl (kV key) ∧ S2.ρ[i]? = some (some (.ow (ownD kvs))) ∧ kvs.length < sizeLine ∧ D.nx (S2.putE i (.ow (ownD (putT kvs key R)))))
    (hp : PS X (.Assign [tg] v pos) (sDPut (tVar i) (WE X k) (WE X v))) : L1 X pn (.Assign [tg] v pos) S D := by
  intro B Hs σ H o E t
  obtain ⟨O, h0⟩ := h0
  obtain ⟨a, u, hσ, _, _⟩ := own_at o h0
  refine ws_of hp (h B Hs σ H o _ fun R S1 x Hs1 H1 h1 o1 e1 r1 => ⟨.ref a, hσ, ?_⟩)
  refine h1 B Hs1 σ H1 o1 _ fun Rk S2 y Hs2 H2 h2 o2 e2 r2 => ?_
  obtain ⟨key, kvs, rfl, g1, hz, q⟩ := h2
  obtain ⟨a', u', hσ', hu', ws, rfl, ha⟩ := own_at o2 g1
  rw [hσ] at hσ'; cases hσ'
  cases (show y = kV key from r2)
  refine ⟨a, _, rfl, DPut.k hu' (by rw [← ha.length]; exact hz), ?_⟩
  exact t.nx _ Hs2 _ _ q (o2.change g1 hσ (O' := ownD (putT kvs key R)) ⟨_, rfl, put_ok ha (R.mono e2 r1)⟩)
/-- del d[k] -/
theorem l1_ddel {tg k : Expr} (i : Nat) (h0 : ∃ O, S.ρ[i]? = some (some (.ow O))) (h : LE X pn k S fun Rk S2 => ∃ key kvs, Rk = vl (kV key) ∧ S2.ρ[i]? = some (some (.ow (ownD kvs))) ∧ (lookT kvs key).isSome = true ∧ D.nx (S2.putE i (.ow (ownD (dropT kvs key)))))
    (hp : PS X (.Delete [tg] pos) (sDDel (tVar i) (WE X k))) : L1 X pn (.Delete [tg] pos) S D := by
  intro B Hs σ H o E t
  obtain ⟨O, h0⟩ := h0
  obtain ⟨a, u, hσ, _, _⟩ := own_at o h0
  refine ws_of hp ⟨.ref a, hσ, ?_⟩
  refine h B Hs σ H o _ fun Rk S2 y Hs2 H2 h2 o2 e2 r2 => ?_
  obtain ⟨key, kvs, rfl, g1, hz, q⟩ := h2
  obtain ⟨a', u', hσ', hu', ws, rfl, ha⟩ := own_at o2 g1
  rw [hσ] at hσ'; cases hσ'
  cases (show y = kV key from r2)
  refine ⟨a, ws, key, rfl, hu', rfl, by rw [some_ok ha]; exact hz, ?_⟩
  exact t.nx _ Hs2 _ _ q (o2.change g1 hσ (O' := ownD (dropT kvs key)) ⟨_, rfl, drop_ok ha⟩)
/-- len(d) -/
theorem call_lenR : CallR X (.builtin "len") (fun xs H Q => ∃ a kvs, xs = [V.ref a] ∧ Rd H a (.dK kvs) ∧ Q (.int kvs.length) H) := by
  intro pins s σ H xs us Q I r h
  obtain ⟨a, kvs, rfl, ha, q⟩ := h
  obtain ⟨u, rfl, ru⟩ := vals1 r
  cases ru
  exact d_len I ha fun t s' I' => ⟨.int kvs.length, H, I', ⟨t, rfl⟩, q⟩
theorem rc_lenD {kvs : List (Key × Th)} (q : P (vl (.int kvs.length)) S) : LRC X pn (fun xs H Q => ∃ a kvs, xs = [V.ref a] ∧ Rd H a (.dK kvs) ∧ Q (.int kvs.length) H) [dicT kvs] S P := by
  intro B Hs σ H vs o r1 Q k
  cases r1 with
  | cons r1 r2 =>
    cases r2
    obtain ⟨a, ws, rfl, h2, h3⟩ := r1
    exact ⟨a, ws, rfl, rd_mono o.w h2, k _ S _ Hs H q o (.refl _) (by rw [h3.length]; rfl)⟩

/-! ### reading an owned object for a while -/
/-- what is just a value, or a new list of such -/
inductive Flat : Th → Prop
  | v (x : V) : Flat (vl x)
  | l (xs : List V) : Flat (lstT (xs.map vl))
theorem alls_vl {H H' : Hp} : ∀ {xs vs : List V}, Alls H (xs.map vl) vs → vs = xs ∧ Alls H' (xs.map vl) vs
  | [], _, .nil => ⟨rfl, .nil⟩
  | x :: xs, _, .cons r t => by
    cases (show _ = x from r)
    obtain ⟨h1, h2⟩ := alls_vl (H' := H') t
    exact ⟨by rw [h1], .cons rfl h2⟩
theorem StOK.lend {K : PySem.W.Frag} {B : Base} {Hs : Hp} {σ : St} {H : Hp} {O : Own} {R : Th} (o : StOK K pn B Hs S σ H) (h : S.ρ[i]? = some (some (.ow O))) (hR : ∀ (Hs : Hp) (a : Addr) u, Hs a = some u → O.p Hs a u → R.p Hs (.ref a)) :
    ∃ a u, σ[i]? = some (some (.ref a)) ∧ Hs a = none ∧ H a = some u ∧ O.p Hs a u ∧ StOK K pn B (upd Hs a u) (S.put i R) σ H := by
  obtain ⟨a, u, g1, g2, g3, g4, g5⟩ := o.ow i O h
  have w := Same.upd (o := u) g3
  refine ⟨a, u, g1, g3, g4, g5, ⟨⟨o.e.s.trans w, fun b v q => ?_, o.e.k, o.e.t, fun b q q' => ?_⟩, ?_, fun j R' q => ?_, fun j O2 q => ?_, fun j l O1 O2 c q1 q2 q3 q4 => ?_, fun b q => ⟨?_, (o.pen b q).2⟩⟩⟩
  · by_cases hba : b = a
    · rw [hba, upd_same] at q; cases q; rw [hba]; exact g4
    · rw [upd_ne hba] at q; exact o.w _ _ q
  · have hba : b ≠ a := fun z => by rw [z] at q'; exact q' g2
    rw [upd_ne hba]; exact o.e.f b q q'
  · show (S.ρ.set i _).length = _; rw [List.length_set]; exact o.len
  · rcases set_get q with ⟨rfl, _, q⟩ | ⟨e, q⟩
    · cases q
      exact ⟨.ref a, g1, hR _ a u upd_same (O.mono w g5)⟩
    · obtain ⟨v, r1, r2⟩ := o.sh j R' q
      exact ⟨v, r1, R'.mono w r2⟩
  · rcases set_get q with ⟨_, _, q⟩ | ⟨e, q⟩
    · cases q
    · obtain ⟨c, v, q1, q2, q3, q4, q5⟩ := o.ow j O2 q
      have : c ≠ a := fun z => e (o.ne j i O2 O a q h (by rw [← z]; exact q1) g1)
      exact ⟨c, v, q1, q2, by rw [upd_ne this]; exact q3, q4, O2.mono w q5⟩
  · rcases set_get q1 with ⟨_, _, q⟩ | ⟨e, r1⟩
    · cases q
    · rcases set_get q2 with ⟨_, _, q⟩ | ⟨e', r2⟩
      · cases q
      · exact o.ne j l O1 O2 c r1 r2 q3 q4
  · obtain ⟨⟨h0, ns, t, r, e, h2, h3⟩, hb⟩ := o.pen b q
    have : b ≠ a := fun z => by rw [z] at hb; exact hb g2
    exact ⟨by rw [upd_ne this]; exact h0, ns, t, r, e, w _ _ h2, h3⟩
theorem le_borrow {O : Own} {R : Th} (i : Nat) (h : S.ρ[i]? = some (some (.ow O))) (hR : ∀ (Hs : Hp) (a : Addr) u, Hs a = some u → O.p Hs a u → R.p Hs (.ref a)) (hO : ∀ (Hs : Hp) (a : Addr) u vs, O.p Hs a u → u ≠ .lst vs ∨ ∀ R' S', P R' S' → ∃ x, R' = vl x)
    (q : LE X pn e ⟨wipeR (S.put i R).ρ [], S.n⟩ fun R' S' => Flat R' ∧ P R' ⟨S.ρ, S'.n⟩) : LE X pn e S P := by
  intro B Hs σ H o Q k
  obtain ⟨a, u, hσ, hn, hu, hp, ol⟩ := o.lend h hR
  refine q ⟨upd Hs a u, H, B.c⟩ (upd Hs a u) σ H (ol.blk []) Q fun R' S' v Hs' H' ⟨fl, p⟩ o' e' r' => ?_
  have x := o'.e
  have w0 : Same Hs Hs' := (Same.upd hn).trans x.s
  have pen' : ∀ b, pn = some b → ∀ Hs2, Same Hs Hs2 → Hs2 b = none → PenAt X.K B.c b S'.n Hs2 H' := fun b hb Hs2 w2 h2 => by
    obtain ⟨⟨h0, ns, t, r, e1, e2, e3, e4⟩, _⟩ := o'.pen b hb
    obtain ⟨⟨k0, ns0, t0, r0, f1, f2, f3, f4⟩, _⟩ := o.pen b hb
    exact ⟨h2, ns0, t, r, e1, w2 _ _ f2, f3, e4⟩
  cases fl with
  | v y =>
    exact k _ _ v Hs H' p (o.extN ⟨.refl _, w0.trans x.w, x.k, x.t, fun _ h _ => h⟩ fun b hb => pen' b hb Hs (.refl _) (o.pen b hb).1.1) (.refl _) r'
  | l xs =>
    obtain ⟨c, vs, rfl, g2, g3⟩ := r'
    obtain ⟨rfl, g3'⟩ := alls_vl (H' := upd Hs c (.lst vs)) g3
    have hca : c ≠ a := by
      rintro rfl
      have : Hs' c = some u := x.s _ _ upd_same
      rw [g2] at this
      rcases hO Hs _ u vs hp with z | z
      · exact z (Option.some.inj this).symm
      · obtain ⟨y, hy⟩ := z _ _ p
        have : (lstT (vs.map vl)).p Hs' y ↔ (vl y).p Hs' y := by rw [hy]
        have h1 : (vl y).p (fun _ => none) y := rfl
        rw [← hy] at h1
        obtain ⟨_, _, _, h2, _⟩ := h1
        cases h2
    have w1 : Same Hs (upd Hs c (.lst vs)) := fun b v hb => by
      by_cases e : b = c
      · subst e
        have := w0 _ _ hb
        rw [g2] at this
        rw [upd_same, this]
      · rw [upd_ne e]; exact hb
    refine k _ _ (.ref c) (upd Hs c (.lst vs)) H' p (o.extN ⟨w1, fun b v hb => ?_, x.k, x.t, fun b h1 h2 => ?_⟩ fun b hb => pen' b hb _ w1 ?_) w1 ⟨c, vs, rfl, upd_same, g3'⟩
    · by_cases e : b = c
      · subst e; rw [upd_same] at hb; cases hb; exact x.w _ _ g2
      · rw [upd_ne e] at hb; exact (w0.trans x.w) _ _ hb
    · have e : b ≠ c := by
        rintro rfl
        have := x.f b (by show upd Hs a u b = none; rw [upd_ne hca]; exact h1) h2
        rw [g2] at this; cases this
      rw [upd_ne e]; exact h1
    · have e : b ≠ c := by
        rintro rfl
        have := (o'.pen b hb).1.1
        rw [g2] at this; cases this
      rw [upd_ne e]; exact (o.pen b hb).1.1
/-- a dict is read for a while -/
theorem le_borrowD {kvs : List (Key × Th)} (i : Nat) (h : S.ρ[i]? = some (some (.ow (ownD kvs)))) (q : LE X pn e ⟨wipeR (S.put i (dicT kvs)).ρ [], S.n⟩ fun R' S' => Flat R' ∧ P R' ⟨S.ρ, S'.n⟩) : LE X pn e S P :=
  le_borrow i h share_D (fun Hs a u vs ⟨ws, e, _⟩ => .inl (by rw [e]; intro z; cases z)) q
/-- a list is read for a while -/
theorem le_borrowL {Rs : List Th} (i : Nat) (h : S.ρ[i]? = some (some (.ow (ownL Rs)))) (q : LE X pn e ⟨wipeR (S.put i (lstT Rs)).ρ [], S.n⟩ fun R' S' => ∃ x, R' = vl x ∧ P R' ⟨S.ρ, S'.n⟩) : LE X pn e S P := by
  have h2 : LE X pn e S fun R' S' => (∃ x, R' = vl x) ∧ P R' S' := le_borrow i h share_L (fun Hs a u vs _ => .inr fun R' S' p => p.1) (q.mono fun R' S' ⟨x, hx, p⟩ => ⟨by rw [hx]; exact .v x, ⟨x, hx⟩, p⟩)
  exact h2.mono fun R' S' p => p.2
theorem lt_of_le (h : LE X pn e S fun R S1 => ∃ k, R = vl (.bl k) ∧ PB k S1) (he : ∀ whole, isTrue e X.env whole = (do let v ← whole; standAt e.pos; holding [v] (truthy v)) := by intro _; rfl) : LT X pn e S PB := lt_val h he

/-! ### lists put together -/
theorem lr_cat {Rs Rs' : List Th} (hz : Rs.length + Rs'.length ≤ sizeLine) (q : P (lstT (Rs ++ Rs')) S) : LR2 X pn rCat (lstT Rs) (lstT Rs') S P := by
  intro B Hs σ H y z o ⟨a, vs, e1, h1, h2⟩ ⟨b, ws, e2, g1, g2⟩ Q k
  subst e1 e2
  refine ⟨a, b, vs, ws, rfl, rfl, o.w _ _ h1, o.w _ _ g1, by rw [← h2.length, ← g2.length]; exact hz, fun l hl => ?_⟩
  have w := Same.upd (o := .lst (vs ++ ws)) (o.w.free hl)
  exact k _ S _ _ _ q (o.new hl) w ⟨l, _, rfl, upd_same, (h2.mono w).append (g2.mono w)⟩
theorem le_cat (h : LE X pn a S fun Ra S1 => LE X pn b S1 fun Rb S2 => ∃ Rs Rs', Ra = lstT Rs ∧ Rb = lstT Rs' ∧ Rs.length + Rs'.length ≤ sizeLine ∧ P (lstT (Rs ++ Rs')) S2) : LE X pn (.BinOp a .Add b pos) S P :=
  le_bin op_cat (h.mono fun Ra S1 h1 => h1.mono fun Rb S2 ⟨Rs, Rs', e1, e2, hz, q⟩ => by subst e1 e2; exact lr_cat hz q)
theorem alls_rep {H : Hp} {Rs : List Th} {vs : List V} (h : Alls H Rs vs) : ∀ k : Nat, Alls H (List.replicate k Rs).flatten (List.replicate k vs).flatten
  | 0 => .nil
  | k + 1 => by
    rw [List.replicate_succ, List.replicate_succ, List.flatten_cons, List.flatten_cons]
    exact h.append (alls_rep h k)
theorem le_rep (h : LE X pn a S fun Ra S1 => LE X pn b S1 fun Rb S2 => ∃ Rs k, Ra = lstT Rs ∧ Rb = vl (.int k) ∧ (0 ≤ k ∧ k ≤ 1000 ∧ Rs.length ≤ 1000) ∧ P (lstT (List.replicate k.toNat Rs).flatten) S2) : LE X pn (.BinOp a .Mult b pos) S P :=
  le_bin op_rep (h.mono fun Ra S1 h1 => h1.mono fun Rb S2 ⟨Rs, k, e1, e2, hz, q⟩ => by
    subst e1 e2
    intro B Hs σ H y z o ⟨a, vs, e1, g1, g2⟩ r2 Q q'
    subst e1
    cases (show z = V.int k from r2)
    have hv : vs.length ≤ 1000 := by rw [← g2.length]; exact hz.2.2
    refine ⟨a, k, vs, rfl, rfl, o.w _ _ g1, by omega, by omega, ?_, fun l hl => ?_⟩
    · have : k.toNat ≤ 1000 := by omega
      exact Nat.le_trans (Nat.mul_le_mul hv this) (by rw [sizeLine_eq]; decide)
    have w := Same.upd (o := .lst (List.replicate k.toNat vs).flatten) (o.w.free hl)
    exact q' _ S2 _ _ _ q (o.new hl) w ⟨l, _, rfl, upd_same, (alls_rep g2 _).mono w⟩)
theorem le_repT (h : LE X pn a S fun Ra S1 => LE X pn b S1 fun Rb S2 => ∃ Rs k, Ra = tupT X.K Rs ∧ Rb = vl (.int k) ∧ (2 ≤ k ∧ k ≤ 1000 ∧ Rs.length ≤ 1000 ∧ Rs ≠ []) ∧ P (tupT X.K (List.replicate k.toNat Rs).flatten) S2) : LE X pn (.BinOp a .Mult b pos) S P :=
  le_bin op_repT (h.mono fun Ra S1 h1 => h1.mono fun Rb S2 ⟨Rs, k, e1, e2, hz, q⟩ => by
    subst e1 e2
    intro B Hs σ H y z o ⟨a, vs, e1, g1, g2⟩ r2 Q q'
    subst e1
    cases (show z = V.int k from r2)
    have hv : vs.length ≤ 1000 := by rw [← g2.length]; exact hz.2.2.1
    have hne : vs ≠ [] := fun z => hz.2.2.2 (List.length_eq_zero_iff.mp (by rw [g2.length, z]; rfl))
    refine ⟨a, k, vs, rfl, rfl, sqT_mono o.w g1, hne, hz.1, hz.2.1, hv, fun l hl => ?_⟩
    have w := Same.upd (o := .tup (List.replicate k.toNat vs).flatten) (o.w.free hl)
    exact q' _ S2 _ _ _ q (o.new hl) w ⟨l, _, rfl, SqT.of upd_same, (alls_rep g2 _).mono w⟩)

/-! ### sorted -/
/-- an int into an ascending list -/
def insI (x : Int) : List Int → List Int
  | [] => [x]
  | y :: ys => if x ≤ y then x :: y :: ys else y :: insI x ys
def sortI : List Int → List Int
  | [] => []
  | x :: xs => insI x (sortI xs)
theorem insI_perm (x : Int) : ∀ ys : List Int, (insI x ys).Perm (x :: ys)
  | [] => .refl _
  | y :: ys => by
    unfold insI
    split
    · exact .refl _
    · exact ((insI_perm x ys).cons y).trans (List.Perm.swap x y ys)
theorem sortI_perm : ∀ xs : List Int, (sortI xs).Perm xs
  | [] => .refl _
  | x :: xs => (insI_perm x _).trans ((sortI_perm xs).cons x)
theorem insI_up (x : Int) : ∀ {ys : List Int}, ys.Pairwise (· ≤ ·) → (insI x ys).Pairwise (· ≤ ·)
  | [], _ => by unfold insI; exact List.pairwise_singleton _ _
  | y :: ys, h => by
    unfold insI
    obtain ⟨h1, h2⟩ := List.pairwise_cons.mp h
    split
    · rename_i hxy
      refine List.pairwise_cons.mpr ⟨fun z hz => ?_, h⟩
      rcases List.mem_cons.mp hz with rfl | hz
      · exact hxy
      · exact Int.le_trans hxy (h1 z hz)
    · rename_i hxy
      refine List.pairwise_cons.mpr ⟨fun z hz => ?_, insI_up x h2⟩
      rcases List.mem_cons.mp ((insI_perm x ys).mem_iff.mp hz) with rfl | hz
      · omega
      · exact h1 z hz
theorem sortI_up : ∀ xs : List Int, (sortI xs).Pairwise (· ≤ ·)
  | [] => List.Pairwise.nil
  | x :: xs => insI_up x (sortI_up xs)
theorem sortI_the {xs ys : List Int} (h : ys.Perm xs) (u : ys.Pairwise (· ≤ ·)) : ys = sortI xs :=
  List.Perm.eq_of_pairwise (le := (· ≤ ·)) (fun a b _ _ h1 h2 => Int.le_antisymm h1 h2) u (sortI_up xs) (h.trans (sortI_perm xs).symm)
theorem alls_ints' {H : Hp} {ns : List Int} {vs : List V} (h : Alls H (ns.map fun b => vl (.int b)) vs) : vs = ns.map V.int := alls_ints h
theorem rc_sortedL {ns : List Int} (q : P (lstT ((sortI ns).map fun b => vl (.int b))) S) : LRC X pn (rSortedI X.K) [lstT (ns.map fun b => vl (.int b))] S P := by
  intro B Hs σ H vs o r1 Q k
  cases r1 with
  | cons r1 r2 =>
    cases r2
    obtain ⟨a, ws, rfl, h2, h3⟩ := r1
    cases alls_ints h3
    refine ⟨a, ns, rfl, SqL.of (o.w _ _ h2), fun ns' p hp hu hn => ?_⟩
    cases sortI_the hp hu
    have w := Same.upd (o := .lst ((sortI ns).map V.int)) (o.w.free hn)
    exact k _ S _ _ _ q (o.new hn) w ⟨p, _, rfl, upd_same, alls_of_ints⟩
end
end DL
set_option Elab.async false
set_option linter.all false
set_option maxRecDepth 100000
set_option maxHeartbeats 4000000
namespace DL
open PySem PySem.Spec L2
open PyProof.Rows hiding St

/-! ### dicts locked while they are walked -/
def lkF (d : Addr) (F : HO) (G : Hp) : Hp := fun b => if b = d then (match G d with | some _ => some F | none => none) else G b
theorem lkF_ne {d b : Addr} {F : HO} {G : Hp} (h : b ≠ d) : lkF d F G b = G b := by unfold lkF; rw [if_neg h]
theorem lkF_d {d : Addr} {F : HO} {G : Hp} : lkF d F G d = (match G d with | some _ => some F | none => none) := by unfold lkF; rw [if_pos rfl]
theorem lkF_none {d b : Addr} {F : HO} {G : Hp} : lkF d F G b = none ↔ G b = none := by
  by_cases h : b = d
  · subst h
    rw [lkF_d]
    cases G b <;> simp
  · rw [lkF_ne h]
/-- the base with d locked -/
def Base.lk (B : Base) (d : Addr) (F : HO) : Base := ⟨lkF d F B.s, lkF d F B.h, B.c⟩
section
variable {K : PySem.W.Frag} {pn : Option Addr} {B : Base} {Hs Hs' : Hp} {S S' : LSt} {σ σ' : St} {H H' : Hp} {d : Addr} {od : Obj} {ws : List (Key × V)}
theorem StOK.lock (o : StOK K pn B Hs S σ H) (hs : Hs d = some (.dK ws)) : StOK K pn (B.lk d (.frz od (.dK ws))) (upd Hs d (.frz od (.dK ws))) S σ (upd H d (.frz od (.dK ws))) := by
  have hH : H d = some (.dK ws) := o.w _ _ hs
  have npn : ∀ b, pn = some b → b ≠ d := fun b hb z => by
    obtain ⟨⟨_, ns, t, r, e, _⟩, _⟩ := o.pen b hb
    rw [z, hH] at e; cases e
  refine ⟨⟨fun b v h => ?_, Same.updb o.w, fun b v h n => ?_, fun b h => ?_, fun b h h' => ?_⟩, o.len, fun i R h => ?_, fun i O h => ?_, o.ne, fun b hb => ⟨?_, fun z => (o.pen b hb).2 (lkF_none.mp z)⟩⟩
  · have h : lkF d _ B.s b = some v := h
    by_cases e : b = d
    · subst e
      rw [lkF_d] at h
      rw [upd_same]
      cases q : B.s b with
      | none => rw [q] at h; cases h
      | some u => rw [q] at h; exact h
    · rw [lkF_ne e] at h; rw [upd_ne e]; exact o.e.s _ _ h
  · have h : lkF d _ B.h b = some v := h
    by_cases e : b = d
    · subst e
      rw [lkF_d] at h
      rw [upd_same]
      cases q : B.h b with
      | none => rw [q] at h; cases h
      | some u => rw [q] at h; exact h
    · rw [lkF_ne e] at h; rw [upd_ne e]; exact o.e.k _ _ h n
  · by_cases e : b = d
    · subst e; rw [upd_same]; simp
    · rw [upd_ne e]; exact o.e.t b fun z => h (lkF_none.mpr z)
  · have h0 : B.s b = none := lkF_none.mp h
    have h1 : B.h b ≠ none := fun z => h' (lkF_none.mpr z)
    have h2 := o.e.f b h0 h1
    have e : b ≠ d := fun z => by rw [z, hs] at h2; cases h2
    rw [upd_ne e]; exact h2
  · obtain ⟨v, h1, h2⟩ := o.sh i R h
    exact ⟨v, h1, R.lk hs h2⟩
  · obtain ⟨a, u, h1, h2, h3, h4, h5⟩ := o.ow i O h
    have e : a ≠ d := fun z => by rw [z, hs] at h3; cases h3
    exact ⟨a, u, h1, lkF_none.mpr h2, by rw [upd_ne e]; exact h3, by rw [upd_ne e]; exact h4, O.lk hs h5⟩
  · obtain ⟨⟨h0, ns, t, r, e1, e2, e3⟩, _⟩ := o.pen b hb
    have e := npn b hb
    exact ⟨by rw [upd_ne e]; exact h0, ns, t, r, by rw [upd_ne e]; exact e1, (by show upd Hs d _ B.c = _; rw [upd_ne (ne_of e2 hs (by intro z; cases z))]; exact e2), e3⟩
theorem StOK.unlock (o : StOK K pn (B.lk d (.frz od (.dK ws))) Hs S σ H) (hs : Hs d = some (.frz od (.dK ws))) (hbs : ∀ u, B.s d = some u → u = .dK ws) (hbh : ∀ u, B.h d = some u → u = .dK ws) : StOK K pn B (upd Hs d (.dK ws)) S σ (upd H d (.dK ws)) := by
  have hH : H d = some (.frz od (.dK ws)) := o.w _ _ hs
  have npn : ∀ b, pn = some b → b ≠ d := fun b hb z => by
    obtain ⟨⟨_, ns, t, r, e, _⟩, _⟩ := o.pen b hb
    rw [z, hH] at e; cases e
  refine ⟨⟨fun b v h => ?_, Same.updb o.w, fun b v h n => ?_, fun b h => ?_, fun b h h' => ?_⟩, o.len, fun i R h => ?_, fun i O h => ?_, o.ne, fun b hb => ⟨?_, fun z => (o.pen b hb).2 (lkF_none.mpr z)⟩⟩
  · by_cases e : b = d
    · subst e; rw [upd_same, hbs v h]
    · rw [upd_ne e]; exact o.e.s b v (by show lkF d _ B.s b = _; rw [lkF_ne e]; exact h)
  · by_cases e : b = d
    · subst e; rw [upd_same, hbh v h]
    · rw [upd_ne e]; exact o.e.k b v (by show lkF d _ B.h b = _; rw [lkF_ne e]; exact h) n
  · by_cases e : b = d
    · subst e; rw [upd_same]; simp
    · rw [upd_ne e]; exact o.e.t b fun z => h (lkF_none.mp z)
  · have h2 := o.e.f b (lkF_none.mpr h) fun z => h' (lkF_none.mp z)
    have e : b ≠ d := fun z => by rw [z, hs] at h2; cases h2
    rw [upd_ne e]; exact h2
  · obtain ⟨v, h1, h2⟩ := o.sh i R h
    exact ⟨v, h1, R.ul hs h2⟩
  · obtain ⟨a, u, h1, h2, h3, h4, h5⟩ := o.ow i O h
    have e : a ≠ d := fun z => by rw [z, hs] at h3; cases h3
    exact ⟨a, u, h1, lkF_none.mp h2, by rw [upd_ne e]; exact h3, by rw [upd_ne e]; exact h4, O.ul hs h5⟩
  · obtain ⟨⟨h0, ns, t, r, e1, e2, e3⟩, _⟩ := o.pen b hb
    have e := npn b hb
    exact ⟨by rw [upd_ne e]; exact h0, ns, t, r, by rw [upd_ne e]; exact e1, (by show upd Hs d _ B.c = _; have e2 : Hs B.c = _ := e2; rw [upd_ne (ne_of e2 hs (by intro z; cases z))]; exact e2), e3⟩
end
/-- the dict at slot i is locked -/
def Lckd (i : Nat) : St → Hp → Prop := fun σ H => ∃ d od ws, σ[i]? = some (some (.ref d)) ∧ H d = some (.frz od (.dK ws))
section
variable {X : Cx} {pn : Option Addr} {e tg iter : Expr} {st : Stmt} {pos : Pos} {S : LSt} {D : LD} {P : Th → LSt → Prop} {PO : Own → LSt → Prop} {PL : List Th → LSt → Prop} {i : Nat} {kvs : List (Key × Th)}
theorem same_unlock {Hs Hs' : Hp} {d : Addr} {od : Obj} {ws : List (Key × V)} (h : Hs d = some (.dK ws)) (s : Same (upd Hs d (.frz od (.dK ws))) Hs') : Same Hs (upd Hs' d (.dK ws)) := fun b v q => by
  by_cases e : b = d
  · subst e; rw [h] at q; cases q; exact upd_same
  · rw [upd_ne e]; exact s _ _ (by rw [upd_ne e]; exact q)
def LEc (X : Cx) (pn : Option Addr) (e : Expr) (C : St → Hp → Prop) (S : LSt) (P : Th → LSt → Prop) : Prop :=
  ∀ B Hs σ H, StOK X.K pn B Hs S σ H → C σ H → ∀ Q : VK, (∀ R S' v Hs' H', P R S' → StOK X.K pn B Hs' S' σ H' → Same Hs Hs' → R.p Hs' v → Q v H') → WE X e σ H Q
def LNc (X : Cx) (pn : Option Addr) (e : Expr) (C : St → Hp → Prop) (S : LSt) (P : Own → LSt → Prop) : Prop :=
  ∀ B Hs σ H, StOK X.K pn B Hs S σ H → C σ H → ∀ Q : VK, (∀ O S' a o Hs' H', P O S' → StOK X.K pn B Hs' S' σ H' → Same Hs Hs' → Hs' a = none → H' a = some o → O.p Hs' a o → B.h a = none →
    (∀ (j : Nat) O', S'.ρ[j]? = some (some (.ow O')) → σ[j]? ≠ some (some (.ref a))) → Q (.ref a) H') → WE X e σ H Q
def L1c (X : Cx) (pn : Option Addr) (st : Stmt) (C : St → Hp → Prop) (S : LSt) (D : LD) : Prop :=
  ∀ B Hs σ H, StOK X.K pn B Hs S σ H → C σ H → ∀ E : Ends, LD.To X.K pn B D E → WS X st E σ H
theorem base_dk {K : PySem.W.Frag} {B : Base} {Hs : Hp} {σ : St} {H : Hp} {d : Addr} {ws : List (Key × V)} (o : StOK K pn B Hs S σ H) (hs : Hs d = some (.dK ws)) : (∀ u, B.s d = some u → u = .dK ws) ∧ (∀ u, B.h d = some u → u = .dK ws) := by
  have hH := o.w _ _ hs
  refine ⟨fun u h => ?_, fun u h => ?_⟩
  · have := o.e.s _ _ h
    rw [hs] at this; exact (Option.some.inj this).symm
  · have := o.e.k _ _ h fun z => by
      obtain ⟨⟨_, ns, t, r, e, _⟩, _⟩ := o.pen d z
      rw [hH] at e; cases e
    rw [hH] at this; exact (Option.some.inj this).symm
theorem le_lockD (i : Nat) (h : S.ρ[i]? = some (some (.sh (dicT kvs)))) (q : LEc X pn e (Lckd i) S P) : LE X pn e S P := by
  intro B Hs σ H o Q k
  obtain ⟨v, hσ, d, ws, rfl, hr, ha⟩ := o.sh i _ h
  rcases hr with hd | ⟨od, hd⟩
  · obtain ⟨b1, b2⟩ := base_dk o hd
    refine we_of (pe_lock pe_we) ⟨d, .dK ws, o.w _ _ hd, True.intro, fun od => ?_⟩
    refine q _ _ σ _ (o.lock (od := od) hd) ⟨d, od, ws, hσ, upd_same⟩ _ fun R S' v Hs' H' p o' e' r' => ?_
    have hd' := e' _ _ upd_same
    exact ⟨o'.w _ _ hd', k R S' v _ _ p (o'.unlock hd' b1 b2) (same_unlock hd e') (R.ul hd' r')⟩
  · exact q B Hs σ H o ⟨d, od, ws, hσ, o.w _ _ hd⟩ Q k
theorem ln_lockD (i : Nat) (h : S.ρ[i]? = some (some (.sh (dicT kvs)))) (q : LNc X pn e (Lckd i) S PO) : LN X pn e S PO := by
  intro B Hs σ H o Q k
  obtain ⟨v, hσ, d, ws, rfl, hr, ha⟩ := o.sh i _ h
  rcases hr with hd | ⟨od, hd⟩
  · obtain ⟨b1, b2⟩ := base_dk o hd
    refine we_of (pe_lock pe_we) ⟨d, .dK ws, o.w _ _ hd, True.intro, fun od => ?_⟩
    refine q _ _ σ _ (o.lock (od := od) hd) ⟨d, od, ws, hσ, upd_same⟩ _ fun O S' a u Hs' H' p o' e' hn hu hp hb hj => ?_
    have hd' := e' _ _ upd_same
    have ne : a ≠ d := fun z => by rw [z, hd'] at hn; cases hn
    exact ⟨o'.w _ _ hd', k O S' a u _ _ p (o'.unlock hd' b1 b2) (same_unlock hd e') (by rw [upd_ne ne]; exact hn) (by rw [upd_ne ne]; exact hu) (O.ul hd' hp) (lkF_none.mp hb) hj⟩
  · exact q B Hs σ H o ⟨d, od, ws, hσ, o.w _ _ hd⟩ Q k
theorem l1_lockD (i : Nat) (h : S.ρ[i]? = some (some (.sh (dicT kvs)))) (q : L1c X pn st (Lckd i) S D) : L1 X pn st S D := by
  intro B Hs σ H o E t
  obtain ⟨v, hσ, d, ws, rfl, hr, ha⟩ := o.sh i _ h
  rcases hr with hd | ⟨od, hd⟩
  · refine ws_of (ps_lock ps_ws) ⟨d, .dK ws, o.w _ _ hd, True.intro, fun od => ?_⟩
    have o0 := o.rebase
    obtain ⟨b1, b2⟩ := base_dk o0 hd
    have back : ∀ {S' : LSt} {σ' : St} {Hs' H' : Hp}, StOK X.K pn ((⟨Hs, B.h, B.c⟩ : Base).lk d (.frz od (.dK ws))) Hs' S' σ' H' → H' d = some (.frz od (.dK ws)) ∧ StOK X.K pn B (upd Hs' d (.dK ws)) S' σ' (upd H' d (.dK ws)) ∧ Hs' d = some (.frz od (.dK ws)) := fun {S' σ' Hs' H'} o' => by
      have hd' : Hs' d = some (.frz od (.dK ws)) := o'.e.s _ _ (by
        show lkF d _ Hs d = _
        rw [lkF_d, hd])
      exact ⟨o'.w _ _ hd', (o'.unlock hd' b1 b2).back o.e.s o.e.f, hd'⟩
    refine q _ _ σ _ (o0.lock (od := od) hd) ⟨d, od, ws, hσ, upd_same⟩ _ ⟨fun S' Hs' σ' H' p o' => ?_, fun R S' Hs' σ' v H' p o' r => ?_, fun S' Hs' σ' H' p o' => ?_, fun S' Hs' σ' H' p o' => ?_⟩
    · obtain ⟨q1, q2, q3⟩ := back o'
      exact ⟨q1, t.nx S' _ σ' _ p q2⟩
    · obtain ⟨q1, q2, q3⟩ := back o'
      exact ⟨q1, t.rt R S' _ σ' v _ p q2 (R.ul q3 r)⟩
    · obtain ⟨q1, q2, q3⟩ := back o'
      exact ⟨q1, t.bk S' _ σ' _ p q2⟩
    · obtain ⟨q1, q2, q3⟩ := back o'
      exact ⟨q1, t.ct S' _ σ' _ p q2⟩
  · exact q B Hs σ H o ⟨d, od, ws, hσ, o.w _ _ hd⟩ E t
/-- the keys of a locked dict -/
theorem li_keys (i : Nat) (h : S.ρ[i]? = some (some (.sh (dicT kvs)))) (q : PL (kvs.map fun kv => vl (kV kv.1)) S) (hp : PE X iter (tVar i)) : LIc X pn tg iter (Lckd i) S PL := by
  refine ⟨_, pi_keys hp, fun B Hs σ H o hC R k => ?_⟩
  obtain ⟨v, hσ, d, ws, rfl, hr, ha⟩ := o.sh i _ h
  obtain ⟨d', od, ws', hσ', hf⟩ := hC
  rw [hσ] at hσ'; cases hσ'
  have hs : Hs d = some (.frz od (.dK ws)) ∧ ws' = ws := by
    rcases hr with hd | ⟨od', hd⟩
    · have := o.w _ _ hd
      rw [hf] at this; cases this
    · have := o.w _ _ hd
      rw [hf] at this; cases this; exact ⟨hd, rfl⟩
  obtain ⟨hs, rfl⟩ := hs
  refine ⟨.ref d, hσ, d, od, rfl, .inl ⟨ws', hf, k _ S Hs H _ q o (.refl _) ⟨fun j Hc H' w1 w2 hj => ⟨w2 _ _ (w1 _ _ hs), ?_⟩, fun j Hc H' w1 w2 hj => ⟨w2 _ _ (w1 _ _ hs), ?_⟩, fun j Hc H' x H'' w1 w2 hj hy => ?_⟩⟩⟩
  · rw [List.length_map, ha.length] at hj; exact hj
  · rw [List.length_map, ha.length] at hj; exact hj
  · obtain ⟨rfl, key, u, g1, rfl⟩ := hy
    have kg : ∀ {kvs : List (Key × Th)} {ws : List (Key × V)} {j : Nat}, KAll Hs kvs ws → ws[j]? = some (key, u) → (kvs.map fun kv => vl (kV kv.1))[j]? = some (vl (kV key)) := by
      intro kvs ws j h
      induction h generalizing j with
      | nil => intro e; simp at e
      | cons q t ih =>
        intro e
        cases j with
        | zero =>
          simp at e
          rename_i a b _ _
          have : a.1 = key := by rw [q.1, e]
          simp [this]
        | succ j => simpa using ih (by simpa using e)
    exact ⟨vl (kV key), Hc, kg ha g1, Ext.refl w2, rfl⟩
theorem le_lcD {elt : Expr} {ifs : List Expr} {scope : Scope} {own : List (Str × Nat)} (i : Nat) (hi : S.ρ[i]? = some (some (.sh (dicT kvs)))) (h : LCc X pn elt tg iter ifs scope (own.map Prod.snd) (Lckd i) S P) (ok : BlkOk X.N X.env.scope scope own) (hN : X.N.Nodup) (hc : X.calm = true := by rfl) (hs : ∀ x, foldedSetIterable iter X.env x = pure x := by intro _; rfl) :
    LE X pn (.ListComp elt [⟨tg, iter, ifs, 0⟩] scope pos) S P := by
  obtain ⟨wi, g, tt, te, pi, hg, ht, he, run⟩ := lc_run h
  exact le_lockD i hi fun B Hs σ H o hC Q k => we_of (pe_lc hc hN pi ok hg ht he hs) (run B Hs σ H o hC Q k)
theorem l1_setLcD {elt : Expr} {ifs : List Expr} {scope : Scope} {own : List (Str × Nat)} {j : Nat} {y : Str} {py spos : Pos} (i : Nat) (hi : S.ρ[i]? = some (some (.sh (dicT kvs)))) (h : LCc X pn elt tg iter ifs scope (own.map Prod.snd) (Lckd i) S fun R S1 => D.nx (S1.put j R)) (ok : BlkOk X.N X.env.scope scope own) (hN : X.N.Nodup)
    (hsw : swapsWith (.ListComp elt [⟨tg, iter, ifs, 0⟩] scope pos) (some (.Name y py)) spos.line X.env = pure true) (hy : X.N[j]? = some y := by rfl) (hyl : X.env.scope.names.lookup y = some .local := by rfl)
    (hc : X.calm = true := by rfl) (hs : ∀ x, foldedSetIterable iter X.env x = pure x := by intro _; rfl) : L1 X pn (.Assign [.Name y py] (.ListComp elt [⟨tg, iter, ifs, 0⟩] scope pos) spos) S D := by
  obtain ⟨wi, g, tt, te, pi, hg, ht, he, run⟩ := lc_run h
  refine l1_lockD i hi fun B Hs σ H o hC E t => ws_of (ps_setLc hc hN hy hyl hsw pi ok hg ht he hs) (run B Hs σ H o hC _ fun R S1 v Hs1 H1 p o1 _ r => ?_)
  exact t.nx _ Hs1 _ H1 p (o1.put r)
theorem l1_forD {body : List Stmt} (vs : List Nat) (i : Nat) (hi : S.ρ[i]? = some (some (.sh (dicT kvs)))) (h : LFc X pn tg iter body vs (Lckd i) S D)
    (hp : PassesOwn (model X.prog X.w) X.A X.env X.xe) (hc : X.calm = true := by rfl) (hs : ∀ x, foldedSetIterable iter X.env x = pure x := by intro _; rfl) : L1 X pn (.For tg iter body [] pos) S D := by
  obtain ⟨wi, pi, run⟩ := for_run h
  exact l1_lockD i hi fun B Hs σ H o hC E t => ws_of (ps_for hp hc pi pg_wg ps_wb hs) (run B Hs σ H o hC E t)
end

/-! ### dict comprehensions -/
section
variable {X : Cx} {pn : Option Addr} {kx vx tg iter : Expr} {ifs : List Expr} {scope : Scope} {own : List (Str × Nat)} {pos : Pos} {S : LSt} {PO : Own → LSt → Prop}
def LDI (X : Cx) (pn : Option Addr) (kx vx tg : Expr) (ifs : List Expr) (scope : Scope) (vs : List Nat) (P : Own → LSt → Prop) (Rs : List Th) (S1 : LSt) : Prop :=
  Rs.length ≤ 100000 ∧ ∃ I : Nat → List (Key × Th) → Nat → Prop, I 0 [] S1.n ∧
    (∀ i R acc n, Rs[i]? = some R → I i acc n → Blk X scope fun Y => LG Y pn vs tg ⟨wipeR S1.ρ vs, n⟩ R fun S2 => Blk X scope fun Y => LTs Y pn ifs S2 fun b S3 => if b = true then Blk X scope fun Y => LE Y pn kx S3 fun Rk S4 => Blk X scope fun Y => LE Y pn vx S4 fun R' S5 => ∃ key, Rk = vl (kV key) ∧ acc.length ≤ 100000 ∧ I (i + 1) (putT acc key R') S5.n else I (i + 1) acc S3.n) ∧
    ∀ acc n, I Rs.length acc n → P (ownD acc) ⟨S1.ρ, n⟩
def LDc (X : Cx) (pn : Option Addr) (kx vx tg iter : Expr) (ifs : List Expr) (scope : Scope) (vs : List Nat) (C : St → Hp → Prop) (S : LSt) (P : Own → LSt → Prop) : Prop :=
  LIc X pn tg iter C S (LDI X pn kx vx tg ifs scope vs P)
theorem dc_run {C : St → Hp → Prop} (h : LDc X pn kx vx tg iter ifs scope (own.map Prod.snd) C S PO) :
    ∃ wi g tt tk te, PI X tg iter wi ∧ (∀ (s : Shared) (H : Hp) (C : Addr) (cl : List (Str × Addr)) (fp : List Addr), PG (X.blk s H scope (compEnvC scope cl C X.env) fp) tg g) ∧ (∀ (s : Shared) (H : Hp) (C : Addr) (cl : List (Str × Addr)) (fp : List Addr), PTs (X.blk s H scope (compEnvC scope cl C X.env) fp) ifs tt) ∧
      (∀ (s : Shared) (H : Hp) (C : Addr) (cl : List (Str × Addr)) (fp : List Addr), PE (X.blk s H scope (compEnvC scope cl C X.env) fp) kx tk) ∧ (∀ (s : Shared) (H : Hp) (C : Addr) (cl : List (Str × Addr)) (fp : List Addr), PE (X.blk s H scope (compEnvC scope cl C X.env) fp) vx te) ∧
      ∀ B Hs σ H, StOK X.K pn B Hs S σ H → C σ H → ∀ Q : VK, (∀ O S' a o Hs' H', PO O S' → StOK X.K pn B Hs' S' σ H' → Same Hs Hs' → Hs' a = none → H' a = some o → O.p Hs' a o → B.h a = none →
        (∀ (j : Nat) O', S'.ρ[j]? = some (some (.ow O')) → σ[j]? ≠ some (some (.ref a))) → Q (.ref a) H') → tDc wi g tt tk te (own.map Prod.snd) σ H Q := by
  obtain ⟨wi, pi, hi⟩ := h
  refine ⟨wi, fun v σ H Q => Blk X scope fun Y => WG Y tg v σ H Q, fun σ H Q => Blk X scope fun Y => WTs Y ifs σ H Q, fun σ H Q => Blk X scope fun Y => WE Y kx σ H Q, fun σ H Q => Blk X scope fun Y => WE Y vx σ H Q, pi,
    fun s H C cl fp => ⟨fun pins s' σ H' v u Q I r h => h s H C cl fp pins s' u I r⟩, fun s H C cl fp => ⟨fun pins s' σ H' Q I h => h s H C cl fp pins s' I⟩, fun s H C cl fp => ⟨fun pins s' σ H' Q I h => h s H C cl fp pins s' I⟩, fun s H C cl fp => ⟨fun pins s' σ H' Q I h => h s H C cl fp pins s' I⟩, fun B Hs σ H o hC Q k => ?_⟩
  refine hi B Hs σ H o hC _ fun Rs S1 Hs1 H1 J p o1 e1 g => ?_
  obtain ⟨hz, I, i0, it, ie⟩ := p
  intro D hD
  have npn : pn ≠ some D := fun z => by
    obtain ⟨⟨_, ns, t, r, e, _⟩, _⟩ := o1.pen D z
    rw [hD] at e; cases e
  refine ⟨fun i m H2 => i ≤ Rs.length ∧ m = Rs.length - i ∧ ∃ acc ws Hs2 n, I i acc n ∧ KAll Hs2 acc ws ∧ H2 D = some (.dK ws) ∧ Hs2 D = none ∧ Ext pn Hs1 H1 Hs2 H2 ∧ ∀ a, pn = some a → PenAt X.K B.c a n Hs2 H2, ⟨_, Nat.zero_le _, rfl, [], [], Hs1, S1.n, i0, .nil, upd_same, o1.w.free hD, ?_, ?_⟩, fun i m H2 w => ?_⟩
  · exact ⟨.refl _, Same.upd2 o1.w (o1.w.free hD), fun b u h _ => by rw [upd_ne (ne_of_none h hD)]; exact h, fun b h => by
      by_cases hb : b = D
      · subst hb; exact absurd hD h
      · rw [upd_ne hb]; exact h, fun _ h _ => h⟩
  · intro a ha
    obtain ⟨⟨h0, ns, t, r, e, h2⟩, _⟩ := o1.pen a ha
    have hne : a ≠ D := fun z => npn (by rw [← z]; exact ha)
    exact ⟨h0, ns, t, r, by rw [upd_ne hne]; exact e, h2⟩
  · obtain ⟨hil, rfl, acc, ws, Hs2, n, hI, ha, hd, hn, x, hp⟩ := w
    have o2 : StOK X.K pn B Hs2 ⟨S1.ρ, n⟩ σ H2 := o1.extN x hp
    by_cases hlt : i < Rs.length
    · refine .inr ⟨g.go i Hs2 H2 x.s x.w hlt, fun H' => i + 1 ≤ Rs.length ∧ ∃ acc ws Hs2 n, I (i + 1) acc n ∧ KAll Hs2 acc ws ∧ H' D = some (.dK ws) ∧ Hs2 D = none ∧ Ext pn Hs1 H1 Hs2 H' ∧ ∀ a, pn = some a → PenAt X.K B.c a n Hs2 H', fun H' ⟨q1, q⟩ => ⟨_, by omega, q1, rfl, q⟩, fun y H' hy => ?_⟩
      obtain ⟨R, Hs3, hR, x3, r3⟩ := g.yld i Hs2 H2 y H' x.s x.w hlt hy
      have o3 : StOK X.K pn B Hs3 ⟨S1.ρ, n⟩ σ H' := o2.ext x3
      have ob := o3.blk (own.map Prod.snd)
      intro s0 H0 C0 cl0 fp0
      refine it i R acc n hR hI s0 H0 C0 cl0 fp0 _ _ _ _ y ob r3 _ fun S4 σ4 Hs4 H4 p4 o4 e4 w4 => ⟨w4.trans wipe_wipe, ?_⟩
      intro s1 H1' C1 cl1 fp1
      refine p4 s1 H1' C1 cl1 fp1 _ _ _ _ o4 _ fun b S5 Hs5 H5 p5 o5 e5 => ?_
      have x3n : Hs3 D = none := x3.f D hn (by rw [hd]; simp)
      cases b with
      | true =>
        show Blk X scope fun Y => WE Y kx σ4 H5 _
        intro s2 H2' C2 cl2 fp2
        refine (show Blk X scope fun Y => LE Y pn kx S5 _ from p5) s2 H2' C2 cl2 fp2 _ _ _ _ o5 _ fun Rk S6 yk Hs6 H6 p6 o6 e6 r6 => ?_
        intro s3 H3' C3 cl3 fp3
        refine p6 s3 H3' C3 cl3 fp3 _ _ _ _ o6 _ fun R' S7 yv Hs7 H7 p7 o7 e7 r7 => ?_
        obtain ⟨key, rfl, hz2, p7⟩ := p7
        cases (show yk = kV key from r6)
        have x7 : Ext pn Hs3 H' Hs7 H7 := o7.e
        have hd7 : H7 D = some (.dK ws) := x7.k _ _ (x3.same _ _ hd) npn
        have hn7 : Hs7 D = none := x7.f D x3n (by rw [x3.same _ _ hd]; simp)
        refine ⟨ws, key, rfl, hd7, Nat.lt_of_le_of_lt (by rw [← ha.length]; exact hz2) (by decide), by omega, putT acc key R', putK ws key yv, Hs7, S7.n, p7, ?_, upd_same, hn7, ?_, ?_⟩
        · exact put_ok (ha.mono (x3.s.trans x7.s)) r7
        · have xx : Ext pn Hs1 H1 Hs7 H7 := (x.trans x3.pen).trans x7
          exact ⟨xx.s, Same.upd2 xx.w hn7, fun b u h hq => by rw [upd_ne (ne_of_none h hD)]; exact xx.k b u h hq, fun b h => by
            by_cases hb : b = D
            · subst hb; rw [upd_same]; simp
            · rw [upd_ne hb]; exact xx.t b h, xx.f⟩
        · intro a hpa
          obtain ⟨⟨h0, ns, t, r, e, h2⟩, _⟩ := o7.pen a hpa
          have hne : a ≠ D := fun z => npn (by rw [← z]; exact hpa)
          exact ⟨h0, ns, t, r, by rw [upd_ne hne]; exact e, h2⟩
      | false =>
        have p5 : I (i + 1) acc S5.n := p5
        have x5 : Ext pn Hs3 H' Hs5 H5 := o5.e
        exact ⟨by omega, acc, ws, Hs5, S5.n, p5, ha.mono (x3.s.trans x5.s), x5.k _ _ (x3.same _ _ hd) npn, x5.f D x3n (by rw [x3.same _ _ hd]; simp), (x.trans x3.pen).trans x5, fun a hpa => (o5.pen a hpa).1⟩
    · have e : i = Rs.length := by omega
      subst e
      refine .inl ⟨g.stop _ Hs2 H2 x.s x.w (Nat.le_refl _), ?_⟩
      have hb : B.h D = none := by
        cases q : B.h D with
        | none => rfl
        | some u => exact absurd hD (o1.e.t D (by rw [q]; simp))
      refine k (ownD acc) ⟨S1.ρ, n⟩ D (.dK ws) Hs2 H2 (ie acc n hI) o2 (e1.trans x.s) hn hd ⟨ws, rfl, ha⟩ hb fun j O' hj hσ => ?_
      obtain ⟨a, u, g1, _, _, g4, _⟩ := o1.ow j O' hj
      rw [hσ] at g1; cases g1
      rw [hD] at g4; cases g4
theorem ln_dc (h : LDc X pn kx vx tg iter ifs scope (own.map Prod.snd) (fun _ _ => True) S PO) (ok : BlkOk X.N X.env.scope scope own) (hN : X.N.Nodup) (hc : X.calm = true := by rfl) (hs : ∀ x, foldedSetIterable iter X.env x = pure x := by intro _; rfl) :
    LN X pn (.DictComp kx vx [⟨tg, iter, ifs, 0⟩] scope pos) S PO := by
  obtain ⟨wi, g, tt, tk, te, pi, hg, ht, hk, he, run⟩ := dc_run h
  exact fun B Hs σ H o Q k => we_of (pe_dc hc hN pi ok hg ht hk he hs) (run B Hs σ H o True.intro Q k)
theorem ln_dcD {kvs : List (Key × Th)} (i : Nat) (hi : S.ρ[i]? = some (some (.sh (dicT kvs)))) (h : LDc X pn kx vx tg iter ifs scope (own.map Prod.snd) (Lckd i) S PO) (ok : BlkOk X.N X.env.scope scope own) (hN : X.N.Nodup) (hc : X.calm = true := by rfl) (hs : ∀ x, foldedSetIterable iter X.env x = pure x := by intro _; rfl) :
    LN X pn (.DictComp kx vx [⟨tg, iter, ifs, 0⟩] scope pos) S PO := by
  obtain ⟨wi, g, tt, tk, te, pi, hg, ht, hk, he, run⟩ := dc_run h
  exact ln_lockD i hi fun B Hs σ H o hC Q k => we_of (pe_dc hc hN pi ok hg ht hk he hs) (run B Hs σ H o hC Q k)
/-- a new object that is not changed -/
theorem le_new {e : Expr} {P : Th → LSt → Prop} (h : LN X pn e S fun O S1 => ∃ R, (∀ (Hs : Hp) (a : Addr) u, Hs a = some u → O.p Hs a u → R.p Hs (.ref a)) ∧ P R S1) : LE X pn e S P := by
  intro B Hs σ H o Q k
  refine h B Hs σ H o Q fun O S' a u Hs' H' ⟨R, hR, p⟩ o' e' hn hu hp hb hj => ?_
  have w := Same.upd (o := u) hn
  have ne : ∀ b v, Hs' b = some v → b ≠ a := fun b v h => ne_of_none h hn
  refine k R S' (.ref a) (upd Hs' a u) H' p ⟨⟨o'.e.s.trans w, fun b v q => ?_, o'.e.k, o'.e.t, fun b q q' => ?_⟩, o'.len, fun i R' q => ?_, fun i O' q => ?_, o'.ne, fun b q => ⟨?_, (o'.pen b q).2⟩⟩ (e'.trans w) (hR _ a u upd_same (O.mono w hp))
  · by_cases e : b = a
    · rw [e, upd_same] at q; cases q; rw [e]; exact hu
    · rw [upd_ne e] at q; exact o'.w _ _ q
  · have e : b ≠ a := fun z => by rw [z] at q'; exact q' hb
    rw [upd_ne e]; exact o'.e.f b q q'
  · obtain ⟨v, h1, h2⟩ := o'.sh i R' q
    exact ⟨v, h1, R'.mono w h2⟩
  · obtain ⟨c, v, h1, h2, h3, h4, h5⟩ := o'.ow i O' q
    have e : c ≠ a := fun z => by subst z; exact hj i O' q h1
    exact ⟨c, v, h1, h2, by rw [upd_ne e]; exact h3, h4, O'.mono w h5⟩
  · obtain ⟨⟨h0, ns, t, r, e1, h2, h3⟩, h4⟩ := o'.pen b q
    have e : b ≠ a := fun z => by rw [z] at h4; exact h4 hb
    exact ⟨by rw [upd_ne e]; exact h0, ns, t, r, e1, w _ _ h2, h3⟩
theorem le_newD {e : Expr} {P : Th → LSt → Prop} (h : LN X pn e S fun O S1 => ∃ kvs, O = ownD kvs ∧ P (dicT kvs) S1) : LE X pn e S P :=
  le_new fun B Hs σ H o Q k => h B Hs σ H o Q fun O S' a u Hs' H' ⟨kvs, e, p⟩ => k O S' a u Hs' H' ⟨dicT kvs, by subst e; exact share_D, p⟩
end
end DL
set_option Elab.async false
set_option linter.all false
set_option maxRecDepth 100000
set_option maxHeartbeats 4000000
/-! enumerate over a tuple; texts sign by sign; small dicts; sorted of a dict; calls by keywords. -/
namespace DLE
open PySem
abbrev tIt (t : Addr) : Obj := { cls := .type "tuple_iterator", data := .fields #[.ref t, .int 0 0] }
abbrev eIt (a : Addr) : Obj := { cls := .type "enumerate", data := .fields #[.none, .bool false, .ref a, rawInt 0, .none, .none] }
theorem newE {t : Addr} {items : Array Value} :
    Meets (Builtin.«enumerate.__new__» ⟨[.type "enumerate", .ref t], []⟩) (fun _ R s => s.heap.IsTuple t items ∧ R (.ok (.ret (.ref (s.heap.objs.size + 1)))) { s with heap := (s.heap.push (tIt t)).push (eIt s.heap.objs.size) }) :=
  .of_wp fun prog w A R s ⟨h1, h2⟩ => by
    obtain ⟨hp, g, d, tk, os⟩ := s
    have sb := sub_enumerate
    have hz : (hp.push (tIt t)).objs.size = hp.objs.size + 1 := Heap.size_push ..
    have q1 : ∀ {B : Around} {F : Value → Shared → Prop} {Q : Value → Shared → Prop}, Q (.ref hp.objs.size) ⟨hp.push (tIt t), g, d, tk, os⟩ → wpAny (model prog w) B (pyIter (.ref t)) Q F ⟨hp, g, d, tk, os⟩ := fun q => wpAny_pyIter_tuple (s := ⟨hp, g, d, tk, os⟩) h1 q
    have q2 : R (.ok (.ret (.ref (hp.push (tIt t)).objs.size))) ⟨(hp.push (tIt t)).push (eIt hp.objs.size), g, d, tk, os⟩ := by rw [hz]; exact h2
    wp_walk using q1
    refine wpAny_stack_any fun st => wpAny_pure ?_
    split
    · rename_i c _ _ _ _ _
      cases (c == Value.type "enumerate")
      all_goals
        wp_walk using q1
        exact ⟨_, rfl, q2⟩
    · wp_walk using q1
      exact ⟨_, rfl, q2⟩
theorem callE {prog : Program} {w : World} {A : Around} {E : Value → Shared → Prop} {s : Shared} {t : Addr} {items : Array Value} {Q : Value → Shared → Prop} (ht : s.heap.IsTuple t items)
    (h : ∀ h', IsEnum h' (s.heap.objs.size + 1) s.heap.objs.size 0 .none → h'.IsTupleIter s.heap.objs.size t 0 → h'.objs.size = s.heap.objs.size + 2 → (∀ b o, s.heap.get? b = some o → h'.get? b = some o) → Q (.ref (s.heap.objs.size + 1)) { s with heap := h' }) :
    wpAny (model prog w) A (call (.type "enumerate") [.ref t]) Q E s := by
  have hz : (s.heap.push (tIt t)).objs.size = s.heap.objs.size + 1 := Heap.size_push ..
  have g1 : (s.heap.push (tIt t)).get? s.heap.objs.size = some (tIt t) := Heap.get?_push_size _ rfl
  have he : IsEnum ((s.heap.push (tIt t)).push (eIt s.heap.objs.size)) (s.heap.objs.size + 1) s.heap.objs.size 0 .none := by
    have q := Heap.get?_push_size (s.heap.push (tIt t)) (o := eIt s.heap.objs.size) rfl
    rw [hz] at q; exact q
  refine callType_new F.called_enumerate (by decide) (F.typeCall_enumerate_1 _) (F.newCall_enumerate_1 _) (fun obj => F.args_object_init_2 obj _) F.entry_enumerate_new (newE (items := items)) ?_
  exact ⟨ht, ⟨_, he, rfl⟩, h _ he ⟨_, Heap.get?_push_of_some _ g1, rfl, rfl⟩ (by rw [Heap.size_push, hz]) fun b o x => Heap.get?_push_of_some _ (Heap.get?_push_of_some _ x)⟩
end DLE
namespace DL
open PySem PySem.Spec L2
open PyProof.Rows hiding St

/-- a tuple's items in new pairs with their places -/
def Itq (K : PySem.W.Frag) (a : Addr) : It where
  go := fun i H => ∃ (xs : List V) (x : V), SqT K H a xs ∧ xs[i]? = some x
  yld := fun i H v H' => ∃ T x, v = .ref T ∧ H T = none ∧ H' = upd H T (.tup [.int (i : Nat), x]) ∧ ∀ xs, SqT K H a xs → xs[i]? = some x
  stop := fun i H => ∃ xs : List V, SqT K H a xs ∧ xs.length ≤ i
theorem turn_q {P : Program} {w : World} {K : PySem.W.Frag} {elts : List Expr} {kk : Nat} {tpos : Pos} (a e it : Addr) :
    Turn P w K (.Tuple elts kk tpos) (Itq K a) [e, it] e (fun i h => (∃ old, IsEnum h e it ((i : Nat) : Int) old) ∧ h.IsTupleIter it a i ∧ e ≠ it) where
  mem := List.mem_cons_self
  obj := fun i h st b hb => by
    obtain ⟨⟨old, he⟩, ⟨o, ho, hc, hd⟩, _⟩ := st
    rcases List.mem_cons.mp hb with z | z
    · subst z
      refine ⟨_, he, fun v q => ?_⟩
      cases q
    · rw [List.mem_singleton.mp z]
      exact ⟨o, ho, fun v q => by rw [hd] at q; cases q⟩
  keep := fun i h h' st k => let ⟨⟨old, he⟩, hi, hne⟩ := st; ⟨⟨old, k e (by simp) _ he⟩, hi.at fun o q => k it (by simp) o q, hne⟩
  item := by
    intro X hP hw hK hc i pins s σ H E I hf st hg
    subst hP hw hK
    obtain ⟨⟨old, he⟩, hit, hne⟩ := st
    obtain ⟨xs, x, hq, hx⟩ := hg
    obtain ⟨its, rv, p, hz⟩ := I.tuple hq
    obtain ⟨u, hu, ru⟩ := rv.get hx
    have ht : s.heap.IsTuple a its.toArray := p
    have hi : i < its.toArray.size := by
      have := (List.getElem?_eq_some_iff.mp hu).1
      simpa using this
    have el := Heap.lt_size he
    have il : it < s.heap.objs.size := by obtain ⟨_, q, _⟩ := hit; exact Heap.lt_size q
    have cl : ∀ o, s.heap.get? a = some o → o.cls = .type "tuple" := fun o ho => by
      obtain ⟨o', h1, h2, _⟩ := p
      rw [ho] at h1; cases h1; exact h2
    have hea : e ≠ a := fun z => by
      have h1 := cl _ (by rw [← z]; exact he)
      revert h1; simp
    have hia : a ≠ it := fun z => by
      obtain ⟨o, h1, h2, _⟩ := hit
      have h3 := cl o (by rw [z]; exact h1)
      rw [h2] at h3; revert h3; simp
    have hh := I.ok.hd hc
    refine wpAny_pyNext_enum_itemD (Draws.tuple (A := X.A.in1) hh it a hia its.toArray) he ⟨hit, ht⟩ hi hne (by simp [hne, hea]) fun y h' tk hy ho hst hT hsz hk => ?_
    have hyu : y = u := by
      have : its.toArray[i]? = some u := by simpa using hu
      rw [this] at hy; exact (Option.some.inj hy).symm
    subst hyu
    refine ⟨_, rfl, wpAny_letOwnedTupleGo_enum (s := { s with heap := h', toks := tk + 1 }) ho fun h2 he2 sb => ?_⟩
    have hT2 : h2.get? s.heap.objs.size = some { cls := .type "tuple", data := .seq #[.int i tk, y] } := (sb.2 _ (Nat.ne_of_gt el)).trans hT
    have hn := I.hok.fresh (Nat.le_refl s.heap.objs.size)
    have new : ObjOk X.prog X.w (upd H s.heap.objs.size (.tup [.int (i : Nat), x])) h2 s.heap.objs.size (.tup [.int (i : Nat), x]) :=
      ⟨by show 2 ≤ sizeLine; decide, [.int i tk, y], .cons ⟨_, rfl⟩ (.cons ru .nil), ⟨_, hT2, rfl, _, rfl⟩⟩
    have kept : ∀ b o, b ∉ [e, it] → s.heap.get? b = some o → h2.get? b = some o := fun b o hb q => by
      have n1 : b ≠ e := fun z => hb (by simp [z])
      have n2 : b ≠ it := fun z => hb (by simp [z])
      exact (sb.2 b n1).trans (hk b o n1 n2 q)
    have I1 : Inv X pins σ (upd H s.heap.objs.size (.tup [.int (i : Nat), x])) { s with heap := h2, toks := tk + 1 } := I.turnedNew (ch := [e, it]) kept hf (Nat.le_refl _) new
    refine ⟨.ref s.heap.objs.size, _, I1, rfl, ⟨_, x, rfl, hn, rfl, fun ys hy => by rw [I.tuple_inj hy hq]; exact hx⟩, ⟨⟨y, ?_⟩, hst.1.at fun o q => (sb.2 it (Ne.symm hne)).trans q, hne⟩, fun b hb => ?_⟩
    · have e1 : ((i + 1 : Nat) : Int) = (i : Int) + 1 := by omega
      rw [e1]; exact he2
    · have hb' : b < s.heap.objs.size := by
        rcases List.mem_cons.mp hb with z | z
        · rw [z]; exact el
        · rw [List.mem_singleton.mp z]; exact il
      rw [upd_ne (Nat.ne_of_lt hb')]
      exact (hf b hb).1
  done := by
    intro X hP hw hK hc i pins s σ H E I hf st hg
    subst hP hw hK
    obtain ⟨⟨old, he⟩, hit, hne⟩ := st
    obtain ⟨xs, hq, hx⟩ := hg
    obtain ⟨its, rv, p, hz⟩ := I.tuple hq
    have ht : s.heap.IsTuple a its.toArray := p
    have cl : ∀ o, s.heap.get? a = some o → o.cls = .type "tuple" := fun o ho => by
      obtain ⟨o', h1, h2, _⟩ := p
      rw [ho] at h1; cases h1; exact h2
    have hia : a ≠ it := fun z => by
      obtain ⟨o, h1, h2, _⟩ := hit
      have h3 := cl o (by rw [z]; exact h1)
      rw [h2] at h3; revert h3; simp
    obtain ⟨f0, f1, f2, f3, f4, f5⟩ := hf it (by simp)
    have hh := I.ok.hd hc
    have hl : its.toArray.size ≤ i := by
      have := rv.length
      simp; omega
    have D : Draws X.prog X.w X.A.in1 it [it, a] i (fun _ _ => True) (fun j h => j = i ∧ h.IsTupleIter it a i ∧ h.IsTuple a its.toArray) := by
      refine ⟨fun j h st => ?_, fun j h h' st hk => ⟨st.1, st.2.1.at fun o e => hk it (by simp) o e, st.2.2.at fun o e => hk a (by simp) o e⟩, fun j s Q E hj st hQ => ?_, fun s Q E st hE => wpAny_nextOf_tuple_end hh st.2.1 st.2.2 (by simpa using hl) hE⟩
      · obtain ⟨o, ho, _⟩ := st.2.1
        exact ⟨o, ho⟩
      · exact absurd hj (by rw [st.1]; exact Nat.lt_irrefl _)
    exact wpAny_pyNext_enum_endD D he ⟨rfl, hit, ht⟩ fun h' eb => ⟨rfl, I.turned (t' := s.toks) (fun b o hb q => eb b o hb q) f0 f1 f3 f4 f5⟩
  self := fun A i s Q E st h => let ⟨⟨_, he⟩, _⟩ := st; wpAny_pyIter_enum he h
/-- enumerate(e), e a tuple: what is walked -/
def iQ (K : PySem.W.Frag) (ta : TA) : TI := fun σ H R => ta σ H fun vs H1 => ∃ a xs, vs = [.ref a] ∧ SqT K H1 a xs ∧ R (Itq K a) H1
theorem pi_q {X : Cx} {e : Expr} {ta : TA} {p pos tpos : Pos} {elts : List Expr} {kk : Nat} (hg : Gl X "enumerate") (hm : X.mg "enumerate" = none) (ha : PA X [e] ta) (hs : starEach [e] X.env = [(false, eval e X.env)] := by rfl) :
    PI X (.Tuple elts kk tpos) (.Call (.Name "enumerate" p) [e] [] pos) (iQ X.K ta) := by
  refine ⟨fun pins s σ H R I h => ?_⟩
  refine Call_ (ld_blt I hg hm (show bootBuiltins "enumerate" = some (.type "enumerate") by decide +kernel) (PyProof.Rows.callWith_type1 (thn (ha.run pos pins s σ H _ I h) fun us s1 ⟨vs, H1, I1, r1, q1⟩ => ?_) hs rfl))
  obtain ⟨a, xs, rfl, hq, q⟩ := q1
  cases r1 with
  | cons r rr =>
    cases rr
    cases r
    obtain ⟨its, rv, p', hz⟩ := I1.tuple hq
    refine DLE.callE (show s1.heap.IsTuple a its.toArray from p') fun h' he hit hsz hk => wpAny_pyIter_enum he ?_
    refine ⟨s1.heap.objs.size + 1, [s1.heap.objs.size + 1, s1.heap.objs.size], _, _, H1, rfl, I1.kept (t' := s1.toks) hk, turn_q a (s1.heap.objs.size + 1) s1.heap.objs.size, ⟨⟨.none, he⟩, hit, Nat.succ_ne_self _⟩, fun b hb => ?_, q⟩
    have hle : s1.heap.objs.size ≤ b := by
      rcases List.mem_cons.mp hb with z | z
      · rw [z]; exact Nat.le_succ _
      · rw [List.mem_singleton.mp z]; exact Nat.le_refl _
    exact I1.fpOk hle (I1.hok.fresh hle)

section
variable {X : Cx} {pn : Option Addr} {tg e iter a : Expr} {es : List Expr} {pos p tpos : Pos} {S : LSt} {P : Th → LSt → Prop} {PL : List Th → LSt → Prop} {PO : Own → LSt → Prop} {PB : Bool → LSt → Prop}
theorem good_q {K : PySem.W.Frag} {Hs : Hp} {a : Addr} {vs : List V} {Rs : List Th} (h2 : SqT K Hs a vs) (h3 : Alls Hs Rs vs) : GoodIt (Itq K a) (Rs.zipIdx.map fun p => tupT K [vl (.int ((p.2 : Nat) : Int)), p.1]) Hs where
  go := fun i Hc H w1 w2 hi => by
    rw [List.length_map, List.length_zipIdx] at hi
    have hi' : i < vs.length := by rw [← h3.length]; exact hi
    exact ⟨vs, vs[i], sqT_mono (w1.trans w2) h2, List.getElem?_eq_getElem hi'⟩
  stop := fun i Hc H w1 w2 hi => by
    rw [List.length_map, List.length_zipIdx] at hi
    exact ⟨vs, sqT_mono (w1.trans w2) h2, by rw [← h3.length]; exact hi⟩
  yld := fun i Hc H x H' w1 w2 hi hy => by
    obtain ⟨T, y, rfl, hT, rfl, hy⟩ := hy
    obtain ⟨R, h4, h5⟩ := h3.getV (hy vs (sqT_mono (w1.trans w2) h2))
    have w := Same.upd (o := HO.tup [V.int (i : Nat), y]) (w2.free hT)
    refine ⟨tupT K [vl (.int ((i : Nat) : Int)), R], upd Hc T (.tup [.int (i : Nat), y]), ?_, Ext.new w2 hT, ⟨T, _, rfl, SqT.of upd_same, .cons rfl (.cons (R.mono (w1.trans w) h5) .nil)⟩⟩
    rw [List.getElem?_map, List.getElem?_zipIdx, h4]
    simp
/-- enumerate over a tuple -/
theorem li_enumT {elts : List Expr} {kk : Nat} (hm : X.mg "enumerate" = none) (h : LA X pn [e] S fun Rs S1 => ∃ Ts, Rs = [tupT X.K Ts] ∧ PL (Ts.zipIdx.map fun p => tupT X.K [vl (.int ((p.2 : Nat) : Int)), p.1]) S1)
    (hg : Gl X "enumerate" := by rfl) (hs : starEach [e] X.env = [(false, eval e X.env)] := by rfl) : LI X pn (.Tuple elts kk tpos) (.Call (.Name "enumerate" p) [e] [] pos) S PL := by
  refine ⟨_, pi_q hg hm pa_wa hs, fun B Hs σ H o _ R k => h B Hs σ H o _ fun Rs S1 vs Hs1 H1 q o1 e1 r1 => ?_⟩
  obtain ⟨Ts, rfl, q⟩ := q
  cases r1 with
  | cons r1 r2 =>
    cases r2
    obtain ⟨a, ws, rfl, h2, h3⟩ := r1
    exact ⟨a, ws, rfl, sqT_mono o1.w h2, k _ S1 Hs1 H1 _ q o1 e1 (good_q h2 h3)⟩
/-- a text, sign by sign -/
theorem good_str {Hs : Hp} {x : Str} : GoodIt (Its x) (x.cps.toList.map fun c => vl (.str ⟨#[c]⟩)) Hs where
  go := fun i Hc H w1 w2 hi => by rw [List.length_map, Array.length_toList] at hi; exact hi
  stop := fun i Hc H w1 w2 hi => by rw [List.length_map, Array.length_toList] at hi; exact hi
  yld := fun i Hc H y H' w1 w2 hi hy => by
    obtain ⟨rfl, c, hc, rfl⟩ := hy
    exact ⟨vl (.str ⟨#[c]⟩), Hc, by rw [List.getElem?_map, Array.getElem?_toList, hc]; rfl, Ext.refl w2, rfl⟩
theorem li_str (h : LE X pn iter S fun R S1 => ∃ x : Str, R = vl (.str x) ∧ PL (x.cps.toList.map fun c => vl (.str ⟨#[c]⟩)) S1) : LI X pn tg iter S PL := by
  refine ⟨_, pi_str pe_we, fun B Hs σ H o _ R k => h B Hs σ H o _ fun R' S1 v Hs1 H1 q o1 e1 r1 => ?_⟩
  obtain ⟨x, rfl, q⟩ := q
  cases (show v = V.str x from r1)
  exact ⟨x, rfl, k _ S1 Hs1 H1 _ q o1 e1 good_str⟩
theorem le_inSign {b : Expr} (h : LE X pn a S fun Ra S1 => LE X pn b S1 fun Rb S2 => ∃ (c : Nat) (z : Str), Ra = vl (.str ⟨#[c]⟩) ∧ Rb = vl (.str z) ∧ P (vl (.bl (decide (c ∈ z.cps.toList)))) S2) (hm : behindInMarks .In b = false := by rfl) : LE X pn (.Compare a [.In] [b] pos) S P :=
  le_cmp op_in_sign (h.mono fun Ra S1 h1 => h1.mono fun Rb S2 ⟨c, z, e1, e2, q⟩ => by
    subst e1 e2
    exact lr_v (fun _ _ k => ⟨c, z, rfl, rfl, k⟩) q) hm
theorem lr_lenS {x : Str} (hz : x.length ≤ sizeLine) (q : P (vl (.int x.length)) S) : LRC X pn (fun xs H Q => ∃ z, xs = [.str z] ∧ z.length ≤ sizeLine ∧ Q (.int z.length) H) [vl (.str x)] S P :=
  rc_v (fun H Q k => ⟨x, rfl, hz, k⟩) q
/-- {} -/
theorem ln_dict0 (q : PO (ownD []) S) : LN X pn (.Dict [] [] pos) S PO := by
  intro B Hs σ H o Q k
  refine we_of pe_dnewK fun p hp => ?_
  have hb : B.h p = none := by
    cases q : B.h p with
    | none => rfl
    | some u => exact absurd hp (o.e.t p (by rw [q]; simp))
  refine k (ownD []) S p (.dK []) Hs (upd H p (.dK [])) q ?_ (.refl _) (o.w.free hp) upd_same ⟨[], rfl, .nil⟩ hb fun j O' hj hσ => ?_
  · exact o.ext ⟨.refl _, Same.upd2 o.w (o.w.free hp), fun b u h _ => by rw [upd_ne (ne_of_none h hp)]; exact h, fun b h => by
      by_cases hb : b = p
      · subst hb; exact absurd hp h
      · rw [upd_ne hb]; exact h, fun _ h _ => h⟩
  · obtain ⟨a, u, g1, _, _, g4, _⟩ := o.ow j O' hj
    rw [hσ] at g1
    cases g1
    rw [hp] at g4; cases g4
/-- {k: v}, the key and the value plain -/
theorem ln_dict1 {k v : Expr} {key : Key} {y : V} (hk : ∀ σ H, (∃ B Hs, StOK X.K pn B Hs S σ H) → ∀ Q : VK, Q (kV key) H → WE X k σ H Q) (hv : ∀ σ H, ∀ Q : VK, Q y H → WE X v σ H Q) (q : PO (ownD [(key, vl y)]) S)
    (hp : PE X (.Dict [some k] [v] pos) (tDisp [(WE X k, WE X v)]) := by exact pe_disp (pps_cons pe_we pe_we pps_nil) (by rfl) (by rfl) (fun z => by cases z) (by decide)) : LN X pn (.Dict [some k] [v] pos) S PO := by
  intro B Hs σ H o Q kk
  refine we_of hp fun p hp => ?_
  have hb : B.h p = none := by
    cases q : B.h p with
    | none => rfl
    | some u => exact absurd hp (o.e.t p (by rw [q]; simp))
  have ex : ∀ u, Ext none Hs H Hs (upd H p u) := fun u => ⟨.refl _, Same.upd2 o.w (o.w.free hp), fun b u h _ => by rw [upd_ne (ne_of_none h hp)]; exact h, fun b h => by
      by_cases hb : b = p
      · subst hb; exact absurd hp h
      · rw [upd_ne hb]; exact h, fun _ h _ => h⟩
  show WE X k σ (upd H p (.dK [])) _
  refine hk σ _ ⟨B, Hs, o.ext (ex _)⟩ _ ?_
  refine hv σ _ _ ?_
  refine ⟨upd_same, [(key, y)], rfl, by show 1 ≤ 15; decide, ?_⟩
  rw [upd_upd]
  refine kk (ownD [(key, vl y)]) S p (.dK [(key, y)]) Hs _ q (o.ext (ex _)) (.refl _) (o.w.free hp) upd_same ⟨_, rfl, .cons ⟨rfl, rfl⟩ .nil⟩ hb fun j O' hj hσ => ?_
  obtain ⟨a, u, g1, _, _, g4, _⟩ := o.ow j O' hj
  rw [hσ] at g1
  cases g1
  rw [hp] at g4; cases g4
theorem wk_var {i : Nat} {x : Str} {y : V} (hr : S.ρ[i]? = some (some (.sh (vl y)))) (hN : X.N[i]? = some x := by rfl) (hv : Vis X.env.scope x := by first | exact Or.inl rfl | exact Or.inr (Or.inl rfl) | exact Or.inr (Or.inr rfl))
    (hd : (x == ("__debug__" : Str)) = false := by decide) (hcd : (x == ("__classdict__" : Str)) = false := by decide) : ∀ σ H, (∃ B Hs, StOK X.K pn B Hs S σ H) → ∀ Q : VK, Q y H → WE X (.Name x pos) σ H Q := by
  intro σ H ⟨B, Hs, o⟩ Q k
  obtain ⟨v, h1, h2⟩ := o.sh i _ hr
  cases (show _ = y from h2)
  exact we_of (pe_var hN hv hd hcd) ⟨_, h1, k⟩
theorem wv_int {i : Int} {j : Nat} : ∀ (σ : L2.St) (H : Hp) (Q : VK), Q (.int i) H → WE X (.Constant (.int i) j pos) σ H Q := fun σ H Q k => we_of pe_int k
theorem wv_bl {i : Bool} {j : Nat} : ∀ (σ : L2.St) (H : Hp) (Q : VK), Q (.bl i) H → WE X (.Constant (.bool i) j pos) σ H Q := fun σ H Q k => we_of pe_bl k
end
end DL
set_option Elab.async false
set_option linter.all false
set_option maxRecDepth 100000
set_option maxHeartbeats 4000000
namespace DL
open PySem PySem.Spec L2
open PyProof.Rows hiding St
section
variable {X : Cx} {pn : Option Addr} {kx vx elt tg iter c : Expr} {ifs : List Expr} {scope : Scope} {vs : List Nat} {S1 : LSt} {P : Th → LSt → Prop} {PO : Own → LSt → Prop} {α : Type}
theorem take_snoc {l : List α} {i : Nat} {d : α} (h : l[i]? = some d) : l.take (i + 1) = l.take i ++ [d] := by
  rw [List.take_add_one, h]; rfl
/-- [elt for tg in ..] where each item gives one element -/
theorem lc_map (ds : List α) (g h : α → Th) (hz : ds.length ≤ 100000) (he : ∀ d ∈ ds, Blk X scope fun Y => LG Y pn vs tg ⟨wipeR S1.ρ vs, S1.n⟩ (g d) fun S2 => Blk X scope fun Y => LE Y pn elt S2 fun R' S3 => R' = h d ∧ S3.n = S1.n)
    (q : P (lstT (ds.map h)) ⟨S1.ρ, S1.n⟩) : LCI X pn elt tg [] scope vs P (ds.map g) S1 := by
  refine ⟨by rw [List.length_map]; exact hz, fun i acc n => acc = (ds.take i).map h ∧ n = S1.n, ⟨rfl, rfl⟩, fun i R acc n hR ⟨e1, e2⟩ => ?_, fun acc n ⟨e1, e2⟩ => ?_⟩
  · subst e1 e2
    rw [List.getElem?_map] at hR
    cases e : ds[i]? with
    | none => rw [e] at hR; cases hR
    | some d =>
      rw [e] at hR; cases hR
      have hd : d ∈ ds := List.mem_of_getElem? e
      intro s H C cl fp B Hs σ H' v o r Q k
      refine he d hd s H C cl fp B Hs σ H' v o r Q fun S2 σ2 Hs2 H2 p2 => k S2 σ2 Hs2 H2 ?_
      intro s H C cl fp
      refine lts_nil ?_
      show Blk X scope fun Y => LE Y pn elt S2 _
      intro s H C cl fp
      refine (p2 s H C cl fp).mono fun R' S3 ⟨e1, e2⟩ => ⟨?_, e2⟩
      rw [e1, take_snoc e, List.map_append]; rfl
  · subst e1 e2
    rw [List.length_map, List.take_length]
    exact q
/-- [elt for tg in .. if c] -/
theorem lc_fil (ds : List α) (g h : α → Th) (t : α → Bool) (hz : ds.length ≤ 100000) (he : ∀ d ∈ ds, Blk X scope fun Y => LG Y pn vs tg ⟨wipeR S1.ρ vs, S1.n⟩ (g d) fun S2 => Blk X scope fun Y => LT Y pn c S2 fun b S3 => b = t d ∧ S3.n = S1.n ∧ (b = true → Blk X scope fun Y => LE Y pn elt S3 fun R' S4 => R' = h d ∧ S4.n = S1.n))
    (q : P (lstT ((ds.filter t).map h)) ⟨S1.ρ, S1.n⟩) : LCI X pn elt tg [c] scope vs P (ds.map g) S1 := by
  refine ⟨by rw [List.length_map]; exact hz, fun i acc n => acc = ((ds.take i).filter t).map h ∧ n = S1.n, ⟨rfl, rfl⟩, fun i R acc n hR ⟨e1, e2⟩ => ?_, fun acc n ⟨e1, e2⟩ => ?_⟩
  · subst e1 e2
    rw [List.getElem?_map] at hR
    cases e : ds[i]? with
    | none => rw [e] at hR; cases hR
    | some d =>
      rw [e] at hR; cases hR
      have hd : d ∈ ds := List.mem_of_getElem? e
      intro s H C cl fp B Hs σ H' v o r Q k
      refine he d hd s H C cl fp B Hs σ H' v o r Q fun S2 σ2 Hs2 H2 p2 => k S2 σ2 Hs2 H2 ?_
      intro s H C cl fp
      refine lts_one ((p2 s H C cl fp).mono fun b S3 ⟨e1, e2, e3⟩ => ?_)
      cases b with
      | true =>
        show Blk X scope fun Y => LE Y pn elt S3 _
        intro s H C cl fp
        refine (e3 rfl s H C cl fp).mono fun R' S4 ⟨e4, e5⟩ => ⟨?_, e5⟩
        rw [e4, take_snoc e, List.filter_append, List.map_append, List.filter_cons, ← e1]; rfl
      | false =>
        show _ ∧ _
        refine ⟨?_, e2⟩
        rw [take_snoc e, List.filter_append, List.filter_cons, ← e1]
        simp
  · subst e1 e2
    rw [List.length_map, List.take_length]
    exact q
theorem put_new {kvs : List (Key × Th)} {k : Key} {R : Th} (h : k ∉ kvs.map Prod.fst) : putT kvs k R = kvs ++ [(k, R)] := by
  unfold putT
  rw [if_neg]
  intro e
  obtain ⟨p, hp, e⟩ := List.any_eq_true.mp e
  exact h (List.mem_map.mpr ⟨p, hp, of_decide_eq_true e⟩)
/-- {kx: vx for tg in ..}, the keys unlike -/
theorem dc_map (ds : List α) (g : α → Th) (key : α → Key) (h : α → Th) (hz : ds.length ≤ 100000) (hn : (ds.map key).Nodup) (he : ∀ d ∈ ds, Blk X scope fun Y => LG Y pn vs tg ⟨wipeR S1.ρ vs, S1.n⟩ (g d) fun S2 => Blk X scope fun Y => LE Y pn kx S2 fun Rk S3 => Rk = vl (kV (key d)) ∧ Blk X scope fun Y => LE Y pn vx S3 fun R' S4 => R' = h d ∧ S4.n = S1.n)
    (q : PO (ownD (ds.map fun d => (key d, h d))) ⟨S1.ρ, S1.n⟩) : LDI X pn kx vx tg [] scope vs PO (ds.map g) S1 := by
  refine ⟨by rw [List.length_map]; exact hz, fun i acc n => acc = (ds.take i).map (fun d => (key d, h d)) ∧ n = S1.n, ⟨rfl, rfl⟩, fun i R acc n hR ⟨e1, e2⟩ => ?_, fun acc n ⟨e1, e2⟩ => ?_⟩
  · subst e1 e2
    rw [List.getElem?_map] at hR
    cases e : ds[i]? with
    | none => rw [e] at hR; cases hR
    | some d =>
      rw [e] at hR; cases hR
      have hd : d ∈ ds := List.mem_of_getElem? e
      intro s H C cl fp B Hs σ H' v o r Q k
      refine he d hd s H C cl fp B Hs σ H' v o r Q fun S2 σ2 Hs2 H2 p2 => k S2 σ2 Hs2 H2 ?_
      intro s H C cl fp
      refine lts_nil ?_
      show Blk X scope fun Y => LE Y pn kx S2 _
      intro s H C cl fp
      refine (p2 s H C cl fp).mono fun Rk S3 ⟨e1, e2⟩ => ?_
      intro s H C cl fp
      refine (e2 s H C cl fp).mono fun R' S4 ⟨e3, e4⟩ => ⟨key d, e1, ?_, ?_, e4⟩
      · rw [List.length_map, List.length_take]; omega
      · rw [put_new, take_snoc e, List.map_append, e3]
        · rfl
        · rw [List.map_map]
          intro hm
          have hi : i < ds.length := (List.getElem?_eq_some_iff.mp e).1
          obtain ⟨d', hd', he'⟩ := List.mem_map.mp hm
          obtain ⟨j, hj, ej⟩ := List.getElem_of_mem hd'
          have hj2 : j < i := by rw [List.length_take] at hj; omega
          have e2 : (ds.map key)[j]? = (ds.map key)[i]? := by
            rw [List.getElem?_map, List.getElem?_map, e]
            have : ds[j]? = some d' := by
              rw [List.getElem_take] at ej
              rw [← ej]
              exact List.getElem?_eq_getElem (by omega)
            rw [this]
            exact congrArg some he'
          have := (List.getElem?_inj (by rw [List.length_map]; omega) hn).mp e2
          omega
  · subst e1 e2
    rw [List.length_map, List.take_length]
    exact q
end
section
variable {P : Program} {w : World} {K : PySem.W.Frag} {mg : Str → Option Value} {base : Heap} {N : List Str} {qual : Str} {st : Stmt} {f : Addr} {cdv : Value} {A : Around} {outer : List Env} {s : Shared} {H : Hp} {E : XK}
/-- a comprehension's block in a def -/
theorem bk {scope : Scope} {own : List (Str × Nat)} (h : blkC N (defScope st) scope own = true) : BlkOk (bx P w K mg base N qual st f cdv A outer s H E).N (bx P w K mg base N qual st f cdv A outer s H E).env.scope scope own := blkOk_by h
end
end DL
set_option Elab.async false
set_option linter.all false
set_option maxRecDepth 100000
set_option maxHeartbeats 4000000
/-! data with a Lean type; members of flat tuples; blocks in blocks -/
namespace DL
open PySem PySem.Spec L2
open PyProof.Rows hiding St
open PySem.W (Datum Tup)
/-- a value with a Lean type -/
abbrev tD {α : Type} [DecidableEq α] [Datum α] (K : PySem.W.Frag) (x : α) : Th := th K (Datum.toD x)
class Lay (α : Type) [DecidableEq α] [Datum α] : Prop where
  lay : ∀ a : α, (Datum.toD a).canLay0 = true
instance : Lay Int := ⟨fun _ => rfl⟩
instance : Lay Bool := ⟨fun _ => rfl⟩
section
variable {α β : Type} [DecidableEq α] [Datum α] [Lay α] [DecidableEq β] [Datum β] [Lay β]
theorem lays_map : ∀ xs : List α, PyData.canLayAll0 (xs.map Datum.toD) = true
  | [] => rfl
  | x :: xs => by
    rw [List.map_cons, PyData.canLayAll0, Lay.lay x, lays_map xs]; rfl
instance : Lay (List α) := ⟨fun xs => by show (PyData.list _).canLay0 = true; rw [PyData.canLay0]; exact lays_map xs⟩
instance : Lay (Tup α) := ⟨fun xs => by show (PyData.tuple _).canLay0 = true; rw [PyData.canLay0]; exact lays_map xs.items⟩
instance : Lay (α × β) := ⟨fun x => by show (PyData.tuple _).canLay0 = true; rw [PyData.canLay0, PyData.canLayAll0, PyData.canLayAll0, Lay.lay x.1, Lay.lay x.2]; rfl⟩
theorem lay_shaped (x : α) (h : Datum.depth α ≤ 64) : SeqAt.shaped (Datum.toD x) = true := by
  unfold SeqAt.shaped
  rw [Lay.lay x, decide_eq_true (Nat.le_trans (Datum.depth_le x) h)]; rfl
variable {X : Cx} {pn : Option Addr} {S : LSt} {P : Th → LSt → Prop}
theorem lr_eqT {x y : α} (q : P (vl (.bl (decide (x = y)))) S) (h : Datum.depth α ≤ 64 := by decide) : LR2 X pn (rEqD X.K) (tD X.K x) (tD X.K y) S P :=
  lr_eqD (lay_shaped x h) (lay_shaped y h) (by rw [Datum.eqv]; exact q)
theorem lr_neT {x y : α} (q : P (vl (.bl (!decide (x = y)))) S) (h : Datum.depth α ≤ 64 := by decide) : LR2 X pn (rNeD X.K) (tD X.K x) (tD X.K y) S P :=
  lr_neD (lay_shaped x h) (lay_shaped y h) (by rw [Datum.eqv]; exact q)
end
section
variable {X : Cx} {pn : Option Addr} {S : LSt} {P : Th → LSt → Prop} {a b : Expr} {pos : Pos}
/-- x in a tuple or list of flat values -/
theorem lr_in {x : V} {ys : List V} {R : Th} (sq : SeqT X.K R (ys.map vl)) (fx : flatV x = true) (fy : ys.all flatV = true) (q : P (vl (.bl (inV x ys))) S) : LR2 X pn (rIn X.K false) (vl x) R S P := by
  intro B Hs σ H u v o r1 r2 Q k
  cases (show u = x from r1)
  rcases sq with rfl | rfl
  · obtain ⟨p, vs, rfl, h2, h3⟩ := r2
    have e := (alls_vl (H' := H) h3).1
    subst e
    exact ⟨p, _, rfl, .inr (sqT_mono o.w h2), fx, fy, k _ S _ Hs H q o (.refl _) rfl⟩
  · obtain ⟨p, vs, rfl, h2, h3⟩ := r2
    have e := (alls_vl (H' := H) h3).1
    subst e
    exact ⟨p, _, rfl, .inl (SqL.of (o.w _ _ h2)), fx, fy, k _ S _ Hs H q o (.refl _) rfl⟩
theorem lr_notIn {x : V} {ys : List V} {R : Th} (sq : SeqT X.K R (ys.map vl)) (fx : flatV x = true) (fy : ys.all flatV = true) (q : P (vl (.bl (!inV x ys))) S) : LR2 X pn (rIn X.K true) (vl x) R S P := by
  intro B Hs σ H u v o r1 r2 Q k
  cases (show u = x from r1)
  rcases sq with rfl | rfl
  · obtain ⟨p, vs, rfl, h2, h3⟩ := r2
    have e := (alls_vl (H' := H) h3).1
    subst e
    exact ⟨p, _, rfl, .inr (sqT_mono o.w h2), fx, fy, k _ S _ Hs H q o (.refl _) rfl⟩
  · obtain ⟨p, vs, rfl, h2, h3⟩ := r2
    have e := (alls_vl (H' := H) h3).1
    subst e
    exact ⟨p, _, rfl, .inl (SqL.of (o.w _ _ h2)), fx, fy, k _ S _ Hs H q o (.refl _) rfl⟩
theorem inV_ints (i : Int) : ∀ ns : List Int, inV (.int i) (ns.map V.int) = decide (i ∈ ns)
  | [] => by simp [inV]
  | n :: ns => by
    have ih := inV_ints i ns
    unfold inV at ih ⊢
    rw [List.map_cons, List.any_cons, ih]
    show ((n == i) || _) = _
    by_cases h : n = i
    · subst h; simp
    · simp [h, Ne.symm h]
/-- a module's tuple -/
def GT (K : PySem.W.Frag) (mg : Str → Option Value) (x : Str) (R : Th) : Prop := ∃ a, mg x = some (.ref a) ∧ ∀ H : Hp, R.p H (.ref a)
theorem le_gt {x : Str} {Rs : List Th} (h : GT X.K X.mg x (tupT X.K Rs)) (q : P (tupT X.K Rs) S) (hg : Gl X x := by rfl) (hd : (x == ("__debug__" : Str)) = false := by decide) : LE X pn (.Name x pos) S P :=
  let ⟨_, hm, r⟩ := h
  le_globT hm r q hg hd
end
section
variable {P : Program} {w : World} {K : PySem.W.Frag} {mg : Str → Option Value} {base : Heap} {N : List Str} {qual : Str} {st : Stmt} {f : Addr} {cdv : Value} {A : Around} {outer : List Env} {s s1 : Shared} {H H1 : Hp} {E : XK} {C : Addr} {cl : List (Str × Addr)} {fp : List Addr}
/-- a comprehension's block in a comprehension's block in a def -/
theorem bk2 {scope scope' : Scope} {own : List (Str × Nat)} (h : blkC N (relS scope (defScope st)) scope' own = true) : BlkOk ((bx P w K mg base N qual st f cdv A outer s H E).blk s1 H1 scope (compEnvC scope cl C (bx P w K mg base N qual st f cdv A outer s H E).env) fp).N ((bx P w K mg base N qual st f cdv A outer s H E).blk s1 H1 scope (compEnvC scope cl C (bx P w K mg base N qual st f cdv A outer s H E).env) fp).env.scope scope' own := blkOk_by h
end
end DL
set_option Elab.async false
set_option linter.all false
set_option maxRecDepth 100000
set_option maxHeartbeats 4000000
/-! instances that are being made; sorted of short tuples and of dicts with whole keys -/
namespace DL
open PySem PySem.Spec L2
open PyProof.Rows hiding St
/-! ### own instances -/
def ownI (C : Addr) (fs : List (Str × Th)) : Own :=
  ⟨fun H _ o => ∃ dx vs, o = .ins C dx ((fs.map Prod.fst).zip vs) ∧ Alls H (fs.map Prod.snd) vs, fun e ⟨dx, vs, h1, h2⟩ => ⟨dx, vs, h1, h2.mono e⟩, fun ⟨dx, vs, h1, _⟩ => by subst h1; exact True.intro,
   fun h ⟨dx, vs, h1, h2⟩ => ⟨dx, vs, h1, h2.lk h⟩, fun h ⟨dx, vs, h1, h2⟩ => ⟨dx, vs, h1, h2.ul h⟩⟩
theorem share_I {C : Addr} {fs : List (Str × Th)} (Hs : Hp) (a : Addr) (u : HO) (h : Hs a = some u) (p : (ownI C fs).p Hs a u) : (objT C fs).p Hs (.ref a) := by
  obtain ⟨dx, vs, rfl, q⟩ := p
  exact ⟨a, dx, vs, rfl, h, q⟩
theorem putF_new {f : Str} {v : V} : ∀ {ks : List Str} {vs : List V}, f ∉ ks → ks.length = vs.length → putF f v (ks.zip vs) = (ks ++ [f]).zip (vs ++ [v])
  | [], [], _, _ => rfl
  | k :: ks, w :: vs, h, hl => by
    rw [List.zip_cons_cons]
    unfold putF
    rw [if_neg (fun z => h (by rw [z]; exact List.mem_cons_self)), putF_new (fun z => h (List.mem_cons_of_mem _ z)) (by simpa using hl)]
    rfl
/-- no slot holds an owned object -/
def Shs (S : LSt) : Prop := ∀ (i : Nat) O, S.ρ[i]? ≠ some (some (.ow O))
theorem StOK.self {K : PySem.W.Frag} {B : Base} {Hs : Hp} {S : LSt} {σ : St} {H : Hp} (o : StOK K none B Hs S σ H) (h : Shs S) : StOK K none ⟨Hs, H, 0⟩ Hs S σ H :=
  ⟨Ext.refl o.w, o.len, o.sh, fun i O q => absurd q (h i O), fun i j O O' a q => absurd q (h i O), fun a q => by cases q⟩
/-- an instance that is being made -/
def IAt (x C : Addr) (fs : List (Str × Th)) (Hs H : Hp) : Prop := Hs x = none ∧ ∃ dx vs, H x = some (.ins C dx ((fs.map Prod.fst).zip vs)) ∧ Alls Hs (fs.map Prod.snd) vs
theorem IAt.ext {x C : Addr} {fs : List (Str × Th)} {Hs H Hs' H' : Hp} (h : IAt x C fs Hs H) (e : Ext none Hs H Hs' H') : IAt x C fs Hs' H' := by
  obtain ⟨h0, dx, vs, h1, h2⟩ := h
  exact ⟨e.f x h0 (by rw [h1]; simp), dx, vs, e.same _ _ h1, h2.mono e.s⟩
/-- statements of an __init__: the fields before, behind -/
def LBI (X : Cx) (x C : Addr) (sts : List Stmt) (S : LSt) (fs gs : List (Str × Th)) : Prop :=
  ∀ Bs Bh Hs σ H, Bh x = none → Ext none Bs Bh Hs H → StOK X.K none ⟨Hs, H, 0⟩ Hs S σ H → IAt x C fs Hs H → ∀ E : Ends, (∀ Hs' σ' H', Ext none Bs Bh Hs' H' → IAt x C gs Hs' H' → E.nx σ' H') → WB X sts E σ H
section
variable {X : Cx} {e : Expr} {pos apos p : Pos} {S : LSt} {y f : Str} {i : Nat} {x C : Addr} {st : Stmt} {sts : List Stmt} {fs gs : List (Str × Th)}
theorem lbi_nil : LBI X x C [] S fs fs := fun Bs Bh Hs σ H hx ex o ia E t => wb_of pss_nil (t Hs σ H ex ia)
theorem lbi_st (h : L1 X none st S { nx := fun S1 => Shs S1 ∧ LBI X x C sts S1 fs gs, rt := fun _ _ => False }) : LBI X x C (st :: sts) S fs gs := by
  intro Bs Bh Hs σ H hx ex o ia E t
  refine wb_of (pss_cons ps_ws ps_wb) (h ⟨Hs, H, 0⟩ Hs σ H o _ ⟨fun S1 Hs1 σ1 H1 p o1 => ?_, fun _ _ _ _ _ _ p => p.elim, fun _ _ _ _ p => p.elim, fun _ _ _ _ p => p.elim⟩)
  exact p.2 Bs Bh Hs1 σ1 H1 hx (ex.trans o1.e) (o1.self p.1) (ia.ext o1.e) E t
/-- self.f = e, f new -/
theorem lbi_fld (i : Nat) (h : LE X none e S fun R S1 => S1.ρ[i]? = some (some (.sh (vl (.ref x)))) ∧ Cls X.K C ∧ NoAttr X.K C f ∧ f ∉ fs.map Prod.fst ∧ fs.length < 1000 ∧ Shs S1 ∧ LBI X x C sts S1 (fs ++ [(f, R)]) gs)
    (hN : X.N[i]? = some y := by rfl) (hv : Vis X.env.scope y := by first | exact Or.inl rfl | exact Or.inr (Or.inl rfl) | exact Or.inr (Or.inr rfl)) (hd : (y == ("__debug__" : Str)) = false := by decide) (hcd : (y == ("__classdict__" : Str)) = false := by decide)
    (hs : swapsWith e (some (.Attribute (.Name y p) f apos)) pos.line X.env = pure false := by rfl) : LBI X x C (.Assign [.Attribute (.Name y p) f apos] e pos :: sts) S fs gs := by
  intro Bs Bh Hs σ H hx ex o ia E t
  refine wb_of (pss_cons (ps_fld (pe_var hN hv hd hcd) pe_we hs) ps_wb) (h ⟨Hs, H, 0⟩ Hs σ H o _ fun R S1 v Hs1 H1 h1 o1 e1 r1 => ?_)
  obtain ⟨h1, hc, hn, hf, hz, sh, q⟩ := h1
  obtain ⟨u, hσ, ru⟩ := o1.sh i _ h1
  cases (show u = .ref x from ru)
  obtain ⟨hn1, dx, vs, hu, ha⟩ := ia.ext o1.e
  have hl : (fs.map Prod.fst).length = vs.length := by rw [List.length_map, ← ha.length, List.length_map]
  refine ⟨.ref x, hσ, x, C, dx, _, rfl, hu, hc, hn, by rw [List.length_zip]; rw [List.length_map] at hl ⊢; omega, ?_⟩
  rw [putF_new hf hl]
  have ex1 := ex.trans o1.e
  have keep : ∀ b o, b ≠ x → H1 b = some o → upd H1 x (.ins C dx ((fs.map Prod.fst ++ [f]).zip (vs ++ [v]))) b = some o := fun b o hb q => by rw [upd_ne hb]; exact q
  have w2 : Same Hs1 (upd H1 x (.ins C dx ((fs.map Prod.fst ++ [f]).zip (vs ++ [v])))) := fun b o q => keep b o (fun z => by rw [z, hn1] at q; cases q) (o1.w _ _ q)
  refine q Bs Bh Hs1 σ _ hx ⟨ex1.s, w2, fun b o q _ => keep b o (fun z => by rw [z, hx] at q; cases q) (ex1.same _ _ q), fun b q => ?_, ex1.f⟩ ?_ ⟨hn1, dx, vs ++ [v], ?_, ?_⟩ E t
  · by_cases hb : b = x
    · rw [hb, upd_same]; simp
    · rw [upd_ne hb]; exact ex1.t b q
  · exact ⟨Ext.refl w2, o1.len, o1.sh, fun i O q => absurd q (sh i O), fun i j O O' a q => absurd q (sh i O), fun a q => by cases q⟩
  · rw [upd_same, List.map_append]; rfl
  · rw [List.map_append]; exact ha.snoc r1
end

/-- what an __init__ gives: the fields of a new instance by what is known of the arguments -/
abbrev IFn := List Th → List (Str × Th) → Prop
def spI (C : Addr) (m : Nat) (F : IFn) : Sp := fun vs H Q _ => ∃ Hs H1 x dx rest Rs fs, vs = .ref x :: rest ∧ H1 x = none ∧ H1 dx = none ∧ dx ≠ x ∧ H = upd (upd H1 dx (.own x)) x (.ins C dx []) ∧ Same Hs H1 ∧ Rs.length = m ∧ Alls Hs Rs rest ∧ F Rs fs ∧
  ∀ Hs' H', Ext none Hs H1 Hs' H' → (objT C fs).p Hs' (.ref x) → Q .non H'
section
variable {P : Program} {w : World} {K : PySem.W.Frag} {mg : Str → Option Value} {base : Heap}
/-- an __init__ out of which nothing is raised -/
theorem fn_init {x qual : Str} {st : Stmt} {f C : Addr} {fd : FuncData} {N ps : List Str} {m k : Nat} {F : IFn} {dvs : List V} {kws : List (Str × V)} (Fd : FunD K x qual (defArgs st) (defBody st) (defScope st) dvs kws f fd) (S : FnScope N ps (defScope st)) (hps : ps.length = m + 1)
    (body : ∀ (cdv : Value) (A : Around) (outer : List Env) (s : Shared) (H : Hp) (E : XK) Rs fs x, Room k (A.deeper (envOfC qual (defScope st) s.heap.objs.size f cdv)) → F Rs fs →
      LBI (bx P w K mg base N qual st f cdv A outer s H E) x C (defBody st) ⟨start0 N (vl (.ref x) :: Rs), 0⟩ [] fs) : FnOk P w K mg base (L2.CX P w) (k + 1) f fd ps (spI C m F) := by
  refine Fd.ok S (fun vs H Q E h => ?_) fun cdv A outer s H vs Q E hr h => ?_
  · obtain ⟨Hs, H1, x, dx, rest, Rs, fs, rfl, _, _, _, _, _, h1, h2, _⟩ := h
    rw [List.length_cons, ← h2.length, h1, hps]
  · obtain ⟨Hs, H1, x, dx, rest, Rs, fs, rfl, g1, g2, g3, rfl, w0, h1, h2, h3, h4⟩ := h
    refine ⟨_, PSs.nox (ps_wb (X := bx P w K mg base N qual st f cdv A outer s _ E)), ?_⟩
    have k : ∀ b o, H1 b = some o → (upd (upd H1 dx (.own x)) x (.ins C dx [])) b = some o := fun b o e => by
      rw [upd_ne (ne_of_none e g1), upd_ne (ne_of_none e g2)]; exact e
    have w1 : Same Hs (upd (upd H1 dx (.own x)) x (.ins C dx [])) := fun b o e => k b o (w0 _ _ e)
    have e1 : Ext none Hs H1 Hs (upd (upd H1 dx (.own x)) x (.ins C dx [])) := ⟨.refl _, w1, fun b o e _ => k b o e, fun b e => by
      cases q : H1 b with
      | none => exact absurd q e
      | some o => rw [k b o q]; simp, fun b e _ => e⟩
    refine body cdv A outer s _ E Rs fs x hr h3 Hs H1 Hs _ _ g1 e1 (start_ok (Rs := vl (.ref x) :: Rs) w1 (.cons rfl h2)) ⟨w0.free g1, dx, [], upd_same, .nil⟩ _ fun Hs' σ' H' ex ia => ?_
    obtain ⟨hn, dx', vs, hu, ha⟩ := ia
    have w := Same.upd (o := .ins C dx' ((fs.map Prod.fst).zip vs)) hn
    refine h4 (upd Hs' x (.ins C dx' ((fs.map Prod.fst).zip vs))) H' ⟨ex.s.trans w, fun b o q => ?_, ex.k, ex.t, fun b q q' => ?_⟩ ⟨x, dx', vs, rfl, upd_same, ha.mono w⟩
    · by_cases hb : b = x
      · rw [hb, upd_same] at q; cases q; rw [hb]; exact hu
      · rw [upd_ne hb] at q; exact ex.w _ _ q
    · have hb : b ≠ x := fun z => by rw [z] at q'; exact q' g1
      rw [upd_ne hb]; exact ex.f b q q'
/-- a class of the module with its own __init__; so much is known of its defaults -/
structure KnI (P : Program) (w : World) (K : PySem.W.Frag) (mg : Str → Option Value) (base : Heap) (k : Nat) (x : Str) (C : Addr) (dRs : List Th) (m : Nat) (F : IFn) : Prop where
  ex : ∃ (f : Addr) (fd : FuncData) (ps : List Str) (ds : List Value) (dvs : List V), FnOk P w K mg base (L2.CX P w) k f fd ps (spI C m F) ∧ Mk K C f ∧ mg x = some (.ref C) ∧ Vals dvs ds ∧ Binds K fd ps ds ∧ ∀ H : Hp, Alls H dRs dvs
end
theorem Alls.app {H : Hp} : ∀ {Rs Rs' : List Th} {vs vs' : List V}, Alls H Rs vs → Alls H Rs' vs' → Alls H (Rs ++ Rs') (vs ++ vs')
  | _, _, _, _, .nil, s => s
  | _, _, _, _, .cons r t, s => .cons r (Alls.app t s)
section
variable {X : Cx} {pn : Option Addr} {e : Expr} {es : List Expr} {pos p : Pos} {S : LSt} {P : Th → LSt → Prop} {x : Str} {C : Addr} {k m : Nat} {F : IFn} {dRs : List Th}
/-- C(e, ..) -/
theorem le_make (D : KnI X.prog X.w X.K X.mg X.base k x C dRs m F) {j : Nat} (hr : Room j X.A) (hk : k + 1 ≤ j) (h : LA X pn (e :: es) S fun Rs S1 => ∃ fs, F (Rs ++ dRs) fs ∧ (Rs ++ dRs).length = m ∧ P (objT C fs) S1)
    (hg : Gl X x := by rfl) (hdb : (x == ("__debug__" : Str)) = false := by decide) (he : starEach (e :: es) X.env = (false, eval e X.env) :: starEach es X.env := by rfl) (hpl : (backTo pos (starEach es X.env)).any (·.1) = false := by rfl) :
    LE X pn (.Call (.Name x p) (e :: es) [] pos) S P := by
  intro B Hs σ H o Q q
  obtain ⟨f, fd, ps, ds, dvs, hf, hM, hm, hd, hb, ha⟩ := D.ex
  refine we_of (pe_make hM hf (hr.mono hk) hg hm hb hd passL pa_wa hdb he hpl) (h B Hs σ H o _ fun Rs S1 vs Hs1 H1 h1 o1 e1 r1 => ?_)
  obtain ⟨fs, h1, hl, p⟩ := h1
  intro y dx hy hdx hne
  exact ⟨Hs1, H1, y, dx, vs ++ dvs, Rs ++ dRs, fs, rfl, hy, hdx, hne, rfl, o1.w, hl, r1.app (ha _), h1, fun Hs' H' x r => ⟨rfl, q _ S1 _ Hs' H' p (o1.ext x) (e1.trans x.s) r⟩⟩
end

/-! ### sorted -/
theorem swo_none : SrtO.Swo (fun (_ _ : Value) => false) := ⟨fun _ _ h => (by cases h), fun _ _ _ _ _ => rfl⟩
section
variable {X : Cx}
/-- sorted(t) of a tuple of at most one item -/
theorem call_sortedT1 : CallR X (.builtin "sorted") (fun xs H Q => ∃ (a : Addr) (ys : List V), xs = [.ref a] ∧ SqT X.K H a ys ∧ ys.length ≤ 1 ∧ ∀ p : Addr, H p = none → Q (.ref p) (upd H p (.lst ys))) := by
  intro pins s σ H xs us Q I r q
  obtain ⟨a, ys, ex, hs, hl, q⟩ := q
  subst ex
  obtain ⟨u, eu, rx⟩ := vals1 r
  subst eu
  cases rx
  obtain ⟨its, rv, ⟨o, ho, hc, n, hd⟩, hz⟩ := I.tuple hs
  have hlen : its.length ≤ 1 := by rw [← rv.length]; exact hl
  have hz' : its.length ≤ sizeLine := Nat.le_trans hlen (by decide)
  refine Calls.call_function_entry PyProof.Rows.kind_sorted PyProof.Rows.plain_sorted PyProof.Rows.entry_sorted (PyProof.Rows.args_sorted1 _) ?_
  unfold Builtin.«sorted»
  refine wpAny_bind (m := checkCount "sorted" 1 1 _) (wpAny_pure ?_)
  refine wpAny_bind (wpAny_collect_seq a (.inr rfl) ho hc hd (fun h' hk => ?_) (by rw [List.size_toArray]; exact hz'))
  have I1 : Inv X pins σ H { s with heap := h' } := I.kept (t' := s.toks) hk
  refine wpAny_bind (wpAny_newList ?_ hz')
  have hoL : (h'.push (seqObj "list" its.toArray 0)).get? h'.objs.size = some (seqObj "list" its.toArray 0) := Heap.get?_push_size _ rfl
  show wpAny _ _ _ _ _ { s with heap := h'.push (seqObj "list" its.toArray 0) }
  refine wpAny_bind (wpAny_holding (wpAny_call_entry PyProof.Rows.slot_list_sort ⟨_, hoL, rfl⟩ PyProof.Rows.entry_list_sort
    (SrtO.list_sort_ord swo_none hoL hz' (fun h2 => absurd h2 (by omega)) fun out _ hb => ⟨_, rfl, ?_⟩) (PyProof.Rows.args_list_sort _)))
  obtain ⟨e', he'⟩ := PyProof.Rows.sortedHeap_at (vs := its) (out := out.toArray) hoL
  have eo : out = its := by
    have := hb.perm
    match its, hlen with
    | [], _ => exact List.perm_nil.mp this
    | [y], _ => exact List.perm_singleton.mp this
    | _ :: _ :: _, h => exact absurd h (by simp)
  rw [eo] at he'
  refine wpAny_pure ⟨_, rfl, .ref h'.objs.size, upd H h'.objs.size (.lst ys), I1.laid (t' := s.toks) (fun b u e => ?_) (Nat.le_refl _)
    (show ObjOk X.prog X.w _ _ _ (.lst ys) from ⟨Nat.le_trans hl (by decide), its, e', rv, by rw [← eo] at he' ⊢; exact he'⟩), rfl, q _ (I1.hok.fresh (Nat.le_refl _))⟩
  have hb : b < h'.objs.size := Heap.lt_size e
  rw [PyProof.Rows.sortedHeap_old (Nat.ne_of_lt hb) (by rw [size_push']; exact Nat.lt_succ_of_lt hb)]
  exact Heap.get?_push_of_some _ e
variable {pn : Option Addr} {S : LSt} {P : Th → LSt → Prop}
theorem rc_sortedT1 {Rs : List Th} (hl : Rs.length ≤ 1) (q : P (lstT Rs) S) : LRC X pn (fun xs H Q => ∃ (a : Addr) (ys : List V), xs = [.ref a] ∧ SqT X.K H a ys ∧ ys.length ≤ 1 ∧ ∀ p : Addr, H p = none → Q (.ref p) (upd H p (.lst ys))) [tupT X.K Rs] S P := by
  intro B Hs σ H vs o r1 Q k
  cases r1 with
  | cons r1 r2 =>
    cases r2
    obtain ⟨a, ws, rfl, h2, h3⟩ := r1
    refine ⟨a, ws, rfl, sqT_mono o.w h2, by rw [← h3.length]; exact hl, fun p hp => ?_⟩
    have w := Same.upd (o := .lst ws) (o.w.free hp)
    exact k _ S _ _ _ q (o.new hp) w ⟨p, ws, rfl, upd_same, h3.mono w⟩
theorem rc_sortedDI {kvs : List (Key × Th)} {ks : List Int} (hk : kvs.map (·.1) = ks.map Sum.inl) (hl : ks.length < 64) (q : P (lstT ((sortI ks).map fun b => vl (.int b))) S) :
    LRC X pn (fun xs H Q => ∃ (a : Addr) (kvs : List (Key × V)) (ks : List Int), xs = [.ref a] ∧ Rd H a (.dK kvs) ∧ kvs.map (·.1) = ks.map Sum.inl ∧ ks.length < 64 ∧ ∀ (ys : List Int) (p : Addr), ys.Perm ks → ys.Pairwise (· ≤ ·) → H p = none → Q (.ref p) (upd H p (.lst (ys.map V.int)))) [dicT kvs] S P := by
  intro B Hs σ H vs o r1 Q k
  cases r1 with
  | cons r1 r2 =>
    cases r2
    obtain ⟨a, ws, rfl, h2, h3⟩ := r1
    have keys : ∀ {kvs : List (Key × Th)} {ws : List (Key × V)}, KAll Hs kvs ws → ws.map (·.1) = kvs.map (·.1) := by
      intro kvs ws h
      induction h with
      | nil => rfl
      | cons r t ih => rw [List.map_cons, List.map_cons, ih, r.1]
    refine ⟨a, ws, ks, rfl, rd_mono o.w h2, (keys h3).trans hk, hl, fun ys p hp hu hn => ?_⟩
    cases sortI_the hp hu
    have w := Same.upd (o := .lst ((sortI ks).map V.int)) (o.w.free hn)
    exact k _ S _ _ _ q (o.new hn) w ⟨p, _, rfl, upd_same, alls_of_ints⟩
end
end DL
set_option Elab.async false
set_option linter.all false
set_option maxRecDepth 100000
set_option maxHeartbeats 4000000
/-! owned objects read for a while, in list comprehensions that are assigned; answers of which is known that there is one -/
namespace DL
open PySem PySem.Spec L2
open PyProof.Rows hiding St
section
variable {X : Cx} {pn : Option Addr} {e : Expr} {pos : Pos} {S : LSt} {P : Th → LSt → Prop} {i : Nat}
theorem borrow_run {K : PySem.W.Frag} {B : Base} {Hs : Hp} {σ : St} {H : Hp} {T : VK → Prop} {O : Own} {R : Th} (i : Nat) (o : StOK K pn B Hs S σ H) (h : S.ρ[i]? = some (some (.ow O))) (hR : ∀ (Hs : Hp) (a : Addr) u, Hs a = some u → O.p Hs a u → R.p Hs (.ref a)) (hO : ∀ (Hs : Hp) (a : Addr) u vs, O.p Hs a u → u ≠ .lst vs)
    (q : ∀ B1 Hs1, StOK K pn B1 Hs1 ⟨wipeR (S.put i R).ρ [], S.n⟩ σ H → ∀ Q : VK, (∀ R' S' v Hs' H', Flat R' ∧ P R' ⟨S.ρ, S'.n⟩ → StOK K pn B1 Hs' S' σ H' → Same Hs1 Hs' → R'.p Hs' v → Q v H') → T Q)
    (Q : VK) (k : ∀ R' S' v Hs' H', P R' S' → StOK K pn B Hs' S' σ H' → Same Hs Hs' → R'.p Hs' v → Q v H') : T Q := by
  obtain ⟨a, u, hσ, hn, hu, hp, ol⟩ := o.lend h hR
  refine q ⟨upd Hs a u, H, B.c⟩ (upd Hs a u) (ol.blk []) Q fun R' S' v Hs' H' ⟨fl, p⟩ o' e' r' => ?_
  have x := o'.e
  have w0 : Same Hs Hs' := (Same.upd hn).trans x.s
  have pen' : ∀ b, pn = some b → ∀ Hs2, Same Hs Hs2 → Hs2 b = none → PenAt K B.c b S'.n Hs2 H' := fun b hb Hs2 w2 h2 => by
    obtain ⟨⟨h0, ns, t, r, e1, e2, e3, e4⟩, _⟩ := o'.pen b hb
    obtain ⟨⟨k0, ns0, t0, r0, f1, f2, f3, f4⟩, _⟩ := o.pen b hb
    exact ⟨h2, ns0, t, r, e1, w2 _ _ f2, f3, e4⟩
  cases fl with
  | v y => exact k _ _ v Hs H' p (o.extN ⟨.refl _, w0.trans x.w, x.k, x.t, fun _ h _ => h⟩ fun b hb => pen' b hb Hs (.refl _) (o.pen b hb).1.1) (.refl _) r'
  | l xs =>
    obtain ⟨c, vs, rfl, g2, g3⟩ := r'
    obtain ⟨rfl, g3'⟩ := alls_vl (H' := upd Hs c (.lst vs)) g3
    have hca : c ≠ a := by
      rintro rfl
      have : Hs' c = some u := x.s _ _ upd_same
      rw [g2] at this
      exact hO Hs _ u vs hp (Option.some.inj this).symm
    have w1 : Same Hs (upd Hs c (.lst vs)) := fun b v hb => by
      by_cases e : b = c
      · subst e
        have := w0 _ _ hb
        rw [g2] at this
        rw [upd_same, this]
      · rw [upd_ne e]; exact hb
    refine k _ _ (.ref c) (upd Hs c (.lst vs)) H' p (o.extN ⟨w1, fun b v hb => ?_, x.k, x.t, fun b h1 h2 => ?_⟩ fun b hb => pen' b hb _ w1 ?_) w1 ⟨c, vs, rfl, upd_same, g3'⟩
    · by_cases e : b = c
      · subst e; rw [upd_same] at hb; cases hb; exact x.w _ _ g2
      · rw [upd_ne e] at hb; exact (w0.trans x.w) _ _ hb
    · have e : b ≠ c := by
        rintro rfl
        have := x.f b (by show upd Hs a u b = none; rw [upd_ne hca]; exact h1) h2
        rw [g2] at this; cases this
      rw [upd_ne e]; exact h1
    · have e : b ≠ c := by
        rintro rfl
        have := (o'.pen b hb).1.1
        rw [g2] at this; cases this
      rw [upd_ne e]; exact (o.pen b hb).1.1
theorem noL {kvs : List (Key × Th)} : ∀ (Hs : Hp) (a : Addr) u vs, (ownD kvs).p Hs a u → u ≠ .lst vs := fun Hs a u vs ⟨ws, e, _⟩ => by rw [e]; intro z; cases z
section
variable {D : LD} {elt tg iter : Expr} {ifs : List Expr} {scope : Scope} {own : List (Str × Nat)} {j : Nat} {y : Str} {py spos : Pos} {kvs : List (Key × Th)}
/-- y = [..] while the dict at slot i is read -/
theorem l1_setLcB (i : Nat) (hi : S.ρ[i]? = some (some (.ow (ownD kvs)))) (h : LC X pn elt tg iter ifs scope (own.map Prod.snd) ⟨wipeR (S.put i (dicT kvs)).ρ [], S.n⟩ fun R S1 => Flat R ∧ D.nx ((⟨S.ρ, S1.n⟩ : LSt).put j R)) (ok : BlkOk X.N X.env.scope scope own) (hN : X.N.Nodup)
    (hsw : swapsWith (.ListComp elt [⟨tg, iter, ifs, 0⟩] scope pos) (some (.Name y py)) spos.line X.env = pure true) (hy : X.N[j]? = some y := by rfl) (hyl : X.env.scope.names.lookup y = some .local := by rfl)
    (hc : X.calm = true := by rfl) (hs : ∀ x, foldedSetIterable iter X.env x = pure x := by intro _; rfl) : L1 X pn (.Assign [.Name y py] (.ListComp elt [⟨tg, iter, ifs, 0⟩] scope pos) spos) S D := by
  obtain ⟨wi, g, tt, te, pi, hg, ht, he, run⟩ := lc_run h
  intro B Hs σ H o E t
  refine ws_of (ps_setLc hc hN hy hyl hsw pi ok hg ht he hs) (borrow_run (P := fun R S1 => D.nx (S1.put j R)) (T := fun Q => tLc wi g tt te (own.map Prod.snd) σ H Q) i o hi share_D noL (fun B1 Hs1 o1 Q k => ?_) _ fun R S1 v Hs1 H1 p o1 e1 r => ?_)
  · exact run B1 Hs1 σ H o1 True.intro Q k
  · exact t.nx _ Hs1 _ H1 p (o1.put r)
/-- y = [.. for .. in d ..], d an owned dict -/
theorem l1_setLcBD (i : Nat) (hi : S.ρ[i]? = some (some (.ow (ownD kvs)))) (h : LCc X pn elt tg iter ifs scope (own.map Prod.snd) (Lckd i) ⟨wipeR (S.put i (dicT kvs)).ρ [], S.n⟩ fun R S1 => Flat R ∧ D.nx ((⟨S.ρ, S1.n⟩ : LSt).put j R)) (ok : BlkOk X.N X.env.scope scope own) (hN : X.N.Nodup)
    (hsw : swapsWith (.ListComp elt [⟨tg, iter, ifs, 0⟩] scope pos) (some (.Name y py)) spos.line X.env = pure true) (hy : X.N[j]? = some y := by rfl) (hyl : X.env.scope.names.lookup y = some .local := by rfl)
    (hc : X.calm = true := by rfl) (hs : ∀ x, foldedSetIterable iter X.env x = pure x := by intro _; rfl) : L1 X pn (.Assign [.Name y py] (.ListComp elt [⟨tg, iter, ifs, 0⟩] scope pos) spos) S D := by
  obtain ⟨wi, g, tt, te, pi, hg, ht, he, run⟩ := lc_run h
  intro B Hs σ H o E t
  have slot : (wipeR (S.put i (dicT kvs)).ρ [])[i]? = some (some (.sh (dicT kvs))) := by
    have hl := (List.getElem?_eq_some_iff.mp hi).1
    show ((S.ρ.set i _).map keepSh)[i]? = _
    rw [List.getElem?_map, List.getElem?_set_self hl]; rfl
  refine borrow_run (P := fun R S1 => D.nx (S1.put j R)) (T := fun Q => ∀ E : Ends, (∀ v H', Q v H' → E.nx (σ.set j (some v)) H') → WS X _ E σ H) i o hi share_D noL (fun B1 Hs1 o1 Q k E hE => ?_) (fun v H' => E.nx (σ.set j (some v)) H') (fun R S1 v Hs1 H1 p o1 e1 r => t.nx _ Hs1 _ H1 p (o1.put r)) E fun _ _ q => q
  obtain ⟨v, hσ, d, ws, rfl, hr, ha⟩ := o1.sh i _ slot
  rcases hr with hd | ⟨od, hd⟩
  · obtain ⟨b1, b2⟩ := base_dk o1 hd
    refine ws_of (ps_lock ps_ws) ⟨d, .dK ws, o1.w _ _ hd, True.intro, fun od => ?_⟩
    refine ws_of (ps_setLc hc hN hy hyl hsw pi ok hg ht he hs) (run _ _ σ _ (o1.lock (od := od) hd) ⟨d, od, ws, hσ, upd_same⟩ _ fun R S' v Hs' H' p o' e' r' => ?_)
    have hd' := e' _ _ upd_same
    exact ⟨o'.w _ _ hd', hE v _ (k R S' v _ _ p (o'.unlock hd' b1 b2) (same_unlock hd e') (R.ul hd' r'))⟩
  · exact ws_of (ps_setLc hc hN hy hyl hsw pi ok hg ht he hs) (run B1 Hs1 σ H o1 ⟨d, od, ws, hσ, o1.w _ _ hd⟩ _ fun R S' v Hs' H' p o' e' r' => hE v H' (k R S' v Hs' H' p o' e' r'))
end

/-! ### there is one -/
/-- what is known of some a with p -/
def exT {α : Type} (p : α → Prop) (f : α → Th) : Th :=
  ⟨fun H v => ∃ a, p a ∧ (f a).p H v, fun e ⟨a, h1, h2⟩ => ⟨a, h1, (f a).mono e h2⟩, fun h ⟨a, h1, h2⟩ => ⟨a, h1, (f a).lk h h2⟩, fun h ⟨a, h1, h2⟩ => ⟨a, h1, (f a).ul h h2⟩⟩
theorem sh_open {K : PySem.W.Frag} {B : Base} {Hs : Hp} {σ : St} {H : Hp} {α : Type} {p : α → Prop} {f : α → Th} (o : StOK K pn B Hs S σ H) (h : S.ρ[i]? = some (some (.sh (exT p f)))) : ∃ a, p a ∧ StOK K pn B Hs (S.putE i (.sh (f a))) σ H := by
  obtain ⟨v, hσ, a, ha, hv⟩ := o.sh i _ h
  refine ⟨a, ha, ⟨o.e, by show (S.ρ.set i _).length = _; rw [List.length_set]; exact o.len, fun j R' q => ?_, fun j O q => ?_, fun j l O O' c q1 q2 q3 q4 => ?_, o.pen⟩⟩
  · rcases set_get q with ⟨rfl, _, q⟩ | ⟨_, q⟩
    · cases q; exact ⟨v, hσ, hv⟩
    · exact o.sh j R' q
  · rcases set_get q with ⟨_, _, q⟩ | ⟨_, q⟩
    · cases q
    · exact o.ow j O q
  · rcases set_get q1 with ⟨_, _, q⟩ | ⟨_, q1⟩
    · cases q
    · rcases set_get q2 with ⟨_, _, q⟩ | ⟨_, q2⟩
      · cases q
      · exact o.ne j l O O' c q1 q2 q3 q4
theorem lb_open {α : Type} {p : α → Prop} {f : α → Th} {D : LD} {sts : List Stmt} (i : Nat) (h : S.ρ[i]? = some (some (.sh (exT p f)))) (q : ∀ a, p a → LB X pn sts (S.put i (f a)) D) : LB X pn sts S D := by
  intro B Hs σ H o E t
  obtain ⟨a, ha, o1⟩ := sh_open o h
  exact q a ha B Hs σ H o1 E t
end
/-- of an answer of which is known that there is one: that one -/
theorem le_close {X : Cx} {pn : Option Addr} {e : Expr} {S : LSt} {Q : Th → LSt → Prop} {α : Type} {p : α → Prop} {f : α → Th} (h : LE X pn e S fun R S1 => ∃ a, R = f a ∧ p a ∧ Q (exT p f) S1) : LE X pn e S Q := by
  intro B Hs σ H o Q' k
  refine h B Hs σ H o Q' fun R S1 v Hs1 H1 ⟨a, e, ha, q⟩ o1 e1 r => ?_
  subst e
  exact k (exT p f) S1 v Hs1 H1 q o1 e1 ⟨a, ha, r⟩
/-- an expression's answer opened -/
theorem le_open {X : Cx} {pn : Option Addr} {e : Expr} {S : LSt} {Q : Th → LSt → Prop} {α : Type} {p : α → Prop} {f : α → Th} (h : LE X pn e S fun R S1 => R = exT p f ∧ ∀ a, p a → Q (f a) S1) : LE X pn e S Q := by
  intro B Hs σ H o Q' k
  refine h B Hs σ H o Q' fun R S1 v Hs1 H1 ⟨e, q⟩ o1 e1 r => ?_
  subst e
  obtain ⟨a, ha, r⟩ := r
  exact k (f a) S1 v Hs1 H1 (q a ha) o1 e1 r
end DL
set_option Elab.async false
set_option linter.all false
set_option maxRecDepth 100000
set_option maxHeartbeats 4000000
/-! d1[k], d2[k] = a, b -/
namespace DL
open PySem PySem.Spec L2
open PyProof.Rows hiding St
section
variable {X : Cx} {pn : Option Addr} {S : LSt} {D : LD}
theorem putK_of {kvs : List (Key × Th)} {H : Hp} {ws : List (Key × V)} {k : Key} {R : Th} {v : V} (h : KAll H kvs ws) (r : R.p H v) : KAll H (putT kvs k R) (putK ws k v) := put_ok h r
/-- d1[k], d2[k] = a, b of two owned dicts' names -/
theorem l1_dput2 {x1 x2 y : Str} {p1 p2 p3 p4 s1 s2 pt pt2 pos : Pos} {a b : Expr} {kt k2 : Nat} (i1 i2 j : Nat) {key : Key}
    (h : LA X pn [a, b] S fun Rs S1 => ∃ Ra Rb kvs1 kvs2, Rs = [Ra, Rb] ∧ S1.ρ[i1]? = some (some (.ow (ownD kvs1))) ∧ S1.ρ[i2]? = some (some (.ow (ownD kvs2))) ∧ S1.ρ[j]? = some (some (.sh (vl (kV key)))) ∧ kvs1.length < sizeLine ∧ kvs2.length < sizeLine ∧
      D.nx ((S1.putE i1 (.ow (ownD (putT kvs1 key Ra)))).putE i2 (.ow (ownD (putT kvs2 key Rb))))) {n : Nat} (hr : Room n X.A) (hne : i1 ≠ i2)
    (v1 : PE X (.Name x1 p1) (tVar i1)) (v2 : PE X (.Name x2 p2) (tVar i2)) (v3 : PE X (.Name y p3) (tVar j)) (v4 : PE X (.Name y p4) (tVar j))
    (ha1 : ∀ v, assign (.Subscript (.Name x1 p1) (.Name y p3) s1) X.env v = (do
      let ov ← holding [v] (eval (.Name x1 p1) X.env)
      let iv ← holding [v, ov] (eval (.Name y p3) X.env)
      standAt s1
      holding [v, ov, iv] (setItem ov iv v)
      release [v, ov, iv] []) := by intro _; rfl)
    (ha2 : ∀ v, assign (.Subscript (.Name x2 p2) (.Name y p4) s2) X.env v = (do
      let ov ← holding [v] (eval (.Name x2 p2) X.env)
      let iv ← holding [v, ov] (eval (.Name y p4) X.env)
      standAt s2
      holding [v, ov, iv] (setItem ov iv v)
      release [v, ov, iv] []) := by intro _; rfl)
    (hc : X.calm = true := by rfl)
    (e1 : (assignEach [.Subscript (.Name x1 p1) (.Name y p3) s1, .Subscript (.Name x2 p2) (.Name y p4) s2] X.env).map (·.2) = assign (.Subscript (.Name x1 p1) (.Name y p3) s1) X.env :: (assignEach [.Subscript (.Name x2 p2) (.Name y p4) s2] X.env).map (·.2) := by rfl)
    (e2 : (assignEach [.Subscript (.Name x2 p2) (.Name y p4) s2] X.env).map (·.2) = assign (.Subscript (.Name x2 p2) (.Name y p4) s2) X.env :: (assignEach [] X.env).map (·.2) := by rfl)
    (hlen : (assignEach [.Subscript (.Name x1 p1) (.Name y p3) s1, .Subscript (.Name x2 p2) (.Name y p4) s2] X.env).length = 2 := by rfl) (hst : (assignEach [.Subscript (.Name x1 p1) (.Name y p3) s1, .Subscript (.Name x2 p2) (.Name y p4) s2] X.env).findIdx? (·.1) = none := by rfl)
    (hs : swapsWithSole [.Tuple [.Subscript (.Name x1 p1) (.Name y p3) s1, .Subscript (.Name x2 p2) (.Name y p4) s2] kt pt] (.Tuple [a, b] k2 pt2) pos.line X.env = pure false := by rfl) (hw : swappedStores [.Tuple [.Subscript (.Name x1 p1) (.Name y p3) s1, .Subscript (.Name x2 p2) (.Name y p4) s2] kt pt] (.Tuple [a, b] k2 pt2) X.env = pure none := by rfl)
    (h1 : (assignEach [.Tuple [.Subscript (.Name x1 p1) (.Name y p3) s1, .Subscript (.Name x2 p2) (.Name y p4) s2] kt pt] X.env).map (·.2) = [assign (.Tuple [.Subscript (.Name x1 p1) (.Name y p3) s1, .Subscript (.Name x2 p2) (.Name y p4) s2] kt pt) X.env] := by rfl) :
    L1 X pn (.Assign [.Tuple [.Subscript (.Name x1 p1) (.Name y p3) s1, .Subscript (.Name x2 p2) (.Name y p4) s2] kt pt] (.Tuple [a, b] k2 pt2) pos) S D := by
  intro B Hs σ H o E t
  refine ws_of (ps_asg (pe_tup pa_wa) (pg_tup hc (pgs_cons (pg_sub v1 v3 (set_dict (hu_of hr)) ha1) (pgs_cons (pg_sub v2 v4 (set_dict (hu_of hr)) ha2) pgs_nil e2) e1) hlen hst) hs hw h1) (h B Hs σ H o _ fun Rs S1 vs Hs1 H1 g o1 _ r1 => ?_)
  obtain ⟨Ra, Rb, kvs1, kvs2, rfl, g1, g2, g3, z1, z2, q⟩ := g
  obtain ⟨v, w, rfl, ra, rb⟩ : ∃ v w, vs = [v, w] ∧ Ra.p Hs1 v ∧ Rb.p Hs1 w := by
    cases r1 with
    | cons r1 r2 =>
      cases r2 with
      | cons r2 r3 => cases r3; exact ⟨_, _, rfl, r1, r2⟩
  refine ⟨by show 2 ≤ sizeLine; decide, fun p hp => ⟨p, [v, w], rfl, SqT.of upd_same, rfl, v, [w], rfl, ?_⟩⟩
  have x : Ext none Hs1 H1 Hs1 (upd H1 p (.tup [v, w])) := ⟨.refl _, Same.upd2 o1.w (o1.w.free hp), fun b u h _ => by rw [upd_ne (ne_of_none h hp)]; exact h, fun b h => by
      by_cases hb : b = p
      · subst hb; exact absurd hp h
      · rw [upd_ne hb]; exact h, fun _ h _ => h⟩
  have o2 := o1.ext x
  obtain ⟨a1, u1, hσ1, hu1, ws1, rfl, ha1⟩ := own_at o2 g1
  obtain ⟨kv, hσ3, rk⟩ := o2.sh j _ g3
  cases (show kv = kV key from rk)
  refine ⟨.ref a1, hσ1, kV key, hσ3, a1, _, rfl, DPut.k hu1 (by rw [← ha1.length]; exact z1), ?_⟩
  have o3 := o2.change g1 hσ1 (O' := ownD (putT kvs1 key Ra)) ⟨_, rfl, putK_of (v := v) ha1 ra⟩
  have g2' : (S1.putE i1 (.ow (ownD (putT kvs1 key Ra)))).ρ[i2]? = some (some (.ow (ownD kvs2))) := by
    show (S1.ρ.set i1 _)[i2]? = _
    rw [List.getElem?_set_ne hne]; exact g2
  obtain ⟨a2, u2, hσ2, hu2, ws2, rfl, ha2⟩ := own_at o3 g2'
  refine ⟨w, [], rfl, .ref a2, hσ2, kV key, hσ3, a2, _, rfl, DPut.k hu2 (by rw [← ha2.length]; exact z2), rfl, ?_⟩
  exact t.nx _ Hs1 _ _ q (o3.change g2' hσ2 (O' := ownD (putT kvs2 key Rb)) ⟨_, rfl, putK_of (v := w) ha2 rb⟩)
end
end DL
set_option Elab.async false
set_option linter.all false
set_option maxRecDepth 100000
set_option maxHeartbeats 4000000
/-! The program's checks, ratios, papers: what each def gives. -/
namespace DL
open PySem PySem.Spec L2
open PyProof.Rows hiding St
def top (i : Nat) : Stmt := PySem.Challenge.pw_whicheverworld_k75_classes_and_stays_of.main.body.getD i (.Pass ⟨0, 0, 0, 0⟩)
abbrev Scp (N ps : List Str) (st : Stmt) : Prop := FnScope N ps (defScope st)
/-- a name that is still the built-in; one that holds a plain constant -/
abbrev Blt (mg : Str → Option Value) (x : Str) : Prop := mg x = none
abbrev Cst (mg : Str → Option Value) (x : Str) (v : V) : Prop := ∃ u, mg x = some u ∧ RelV v u
theorem le_cst {X : Cx} {pn : Option Addr} {S : LSt} {P : Th → LSt → Prop} {pos : Pos} {x : Str} {v : V} (h : Cst X.mg x v) (q : P (vl v) S) (hg : Gl X x := by rfl) (hd : (x == ("__debug__" : Str)) = false := by decide) : LE X pn (.Name x pos) S P :=
  let ⟨_, hm, r⟩ := h
  le_glob hm r q hg hd
def SeqS (K : PySem.W.Frag) (R : Th) : Prop := ∃ Rs, SeqT K R Rs
/-- what is neither a list nor a tuple -/
def NoSeq (K : PySem.W.Frag) (R : Th) : Prop := ∃ t, TyTh K R (.type t) ∧ kitB t "list" = some false ∧ kitB t "tuple" = some false
/-- what is no integer (bools are none) -/
def NoInt (K : PySem.W.Frag) (R : Th) : Prop := ∃ t k1 k2, TyTh K R (.type t) ∧ kitB t "int" = some k1 ∧ kitB t "bool" = some k2 ∧ (k1 && !k2) = false
theorem noInt_non {K : PySem.W.Frag} : NoInt K (vl .non) := ⟨"NoneType", false, false, ty_non, by decide +kernel, by decide +kernel, rfl⟩
theorem noInt_bl {K : PySem.W.Frag} {b : Bool} : NoInt K (vl (.bl b)) := ⟨"bool", true, true, ty_bl, by decide +kernel, by decide +kernel, rfl⟩
theorem noInt_str {K : PySem.W.Frag} {x : Str} : NoInt K (vl (.str x)) := ⟨"str", false, false, ty_str, by decide +kernel, by decide +kernel, rfl⟩
theorem noInt_tup {K : PySem.W.Frag} {Rs : List Th} : NoInt K (tupT K Rs) := ⟨"tuple", false, false, ty_tup, by decide +kernel, by decide +kernel, rfl⟩
theorem noSeq_non {K : PySem.W.Frag} : NoSeq K (vl .non) := ⟨"NoneType", ty_non, by decide +kernel, by decide +kernel⟩
theorem noSeq_int {K : PySem.W.Frag} {i : Int} : NoSeq K (vl (.int i)) := ⟨"int", ty_int, by decide +kernel, by decide +kernel⟩
theorem noSeq_str {K : PySem.W.Frag} {x : Str} : NoSeq K (vl (.str x)) := ⟨"str", ty_str, by decide +kernel, by decide +kernel⟩
theorem ite_b {A B : Prop} {b : Bool} (h1 : b = true → A) (h2 : b = false → B) : if b = true then A else B := by
  cases b with
  | true => exact h1 rfl
  | false => exact h2 rfl

section
variable {P : Program} {w : World} {K : PySem.W.Frag} {mg : Str → Option Value} {base : Heap} {f : Addr} {fd : FuncData}
/-! ### checks -/
abbrev st_is_integer : Stmt := top 14
theorem sc_is_integer : Scp ["value"] ["value"] st_is_integer := ⟨rfl, rfl, rfl, by decide +kernel, rfl, by decide +kernel, by decide +kernel⟩
def fIsInteger (K : PySem.W.Frag) : PFn := fun Rs R => (∃ i, Rs = [vl (.int i)] ∧ R = vl (.bl true)) ∨ ∃ R0, Rs = [R0] ∧ NoInt K R0 ∧ R = vl (.bl false)
theorem kn_is_integer (F : Fun K "is_integer" "is_integer" st_is_integer f fd) (hm : mg "is_integer" = some (.ref f)) (hb : Binds K fd ["value"] []) (h1 : Blt mg "isinstance") (h2 : Blt mg "int") (h3 : Blt mg "bool") :
    Kn P w K mg base 1 "is_integer" (spP 1 (fIsInteger K)) := by
  refine kn_pure F hm hb sc_is_integer rfl fun cdv A outer s H E Rs R hr h => ?_
  have main : ∀ R0 t k1 k2, Rs = [R0] → TyTh K R0 (.type t) → kitB t "int" = some k1 → kitB t "bool" = some k2 → R = vl (.bl (k1 && !k2)) → LB (bx P w K mg base ["value"] "is_integer" st_is_integer f cdv A outer s H E) none (defBody st_is_integer) ⟨start0 ["value"] Rs, 0⟩ { nx := fun _ => vl .non = R, rt := fun R' _ => R' = R } := by
    rintro R0 t k1 k2 rfl ty e1 e2 rfl
    refine lb_cons (l1_ret (le_and (le_isi h1 h2 (by decide +kernel) (le_var (i := 0) rfl ⟨t, k1, ty, e1, k1, rfl, ?_⟩))))
    cases k1 with
    | true => exact le_one (le_not (le_isi h1 h3 (by decide +kernel) (le_var (i := 0) rfl ⟨t, k2, ty, e2, k2, rfl, rfl⟩)))
    | false => exact rfl
  rcases h with ⟨i, rfl, q⟩ | ⟨R, rfl, ⟨t, k1, k2, ty, e1, e2, e3⟩, q⟩
  · exact main _ "int" true false rfl ty_int (by decide +kernel) (by decide +kernel) q
  · exact main _ t k1 k2 rfl ty e1 e2 (by rw [e3]; exact q)

abbrev st_is_within : Stmt := top 15
theorem sc_is_within : Scp ["value", "low", "high"] ["value", "low", "high"] st_is_within := ⟨rfl, rfl, rfl, by decide +kernel, rfl, by decide +kernel, by decide +kernel⟩
def fIsWithin (K : PySem.W.Frag) : PFn := fun Rs R => (∃ i lo hi, Rs = [vl (.int i), vl (.int lo), vl (.int hi)] ∧ R = vl (.bl (decide (lo ≤ i) && decide (i ≤ hi)))) ∨ ∃ R1 R2 R3, Rs = [R1, R2, R3] ∧ NoInt K R1 ∧ R = vl (.bl false)
theorem kn_is_within (F : Fun K "is_within" "is_within" st_is_within f fd) (hm : mg "is_within" = some (.ref f)) (hb : Binds K fd ["value", "low", "high"] []) (h1 : Kn P w K mg base 1 "is_integer" (spP 1 (fIsInteger K))) :
    Kn P w K mg base 2 "is_within" (spP 3 (fIsWithin K)) := by
  refine kn_pure F hm hb sc_is_within rfl fun cdv A outer s H E Rs R hr h => ?_
  rcases h with ⟨i, lo, hi, rfl, rfl⟩ | ⟨R1, R2, R3, rfl, ni, rfl⟩
  · refine lb_cons (l1_ret (le_and (le_call h1 hr (by decide) (la_cons (le_var (i := 0) rfl (la_nil ⟨_, .inl ⟨i, rfl, rfl⟩, rfl, true, rfl, ?_⟩))))))
    refine le_one (le_chain op_le op_le (le_var (i := 1) rfl (le_var (i := 0) rfl (lr_I0 ⟨_, rfl, ite_b (fun e => ?_) (fun e => ?_)⟩))))
    · exact le_var (i := 2) rfl (lr_I0 (by rw [e]; rfl))
    · rw [e]; rfl
  · exact lb_cons (l1_ret (le_and (le_call h1 hr (by decide) (la_cons (le_var (i := 0) rfl (la_nil ⟨_, .inr ⟨R1, rfl, ni, rfl⟩, rfl, false, rfl, rfl⟩))))))
end
end DL
set_option Elab.async false
set_option linter.all false
set_option maxRecDepth 100000
set_option maxHeartbeats 4000000
namespace DL
open PySem PySem.Spec L2
open PyProof.Rows hiding St
section
variable {P : Program} {w : World} {K : PySem.W.Frag} {mg : Str → Option Value} {base : Heap} {f : Addr} {fd : FuncData}
abbrev st_is_listed : Stmt := top 16
theorem sc_is_listed : Scp ["value"] ["value"] st_is_listed := ⟨rfl, rfl, rfl, by decide +kernel, rfl, by decide +kernel, by decide +kernel⟩
def fIsListed (K : PySem.W.Frag) : PFn := fun Rs R => (∃ R1, Rs = [R1] ∧ SeqS K R1 ∧ R = vl (.bl true)) ∨ ∃ R1, Rs = [R1] ∧ NoSeq K R1 ∧ R = vl (.bl false)
theorem kn_is_listed (F : Fun K "is_listed" "is_listed" st_is_listed f fd) (hm : mg "is_listed" = some (.ref f)) (hb : Binds K fd ["value"] []) (h1 : Blt mg "isinstance") (h2 : Blt mg "list") (h3 : Blt mg "tuple") :
    Kn P w K mg base 1 "is_listed" (spP 1 (fIsListed K)) := by
  refine kn_pure F hm hb sc_is_listed rfl fun cdv A outer s H E Rs R hr h => ?_
  rcases h with ⟨R1, rfl, ⟨Ts, sq⟩, rfl⟩ | ⟨R1, rfl, ⟨t, ty, e1, e2⟩, rfl⟩
  · rcases sq with rfl | rfl
    · exact lb_cons (l1_ret (le_isi2 (T1 := "list") (T2 := "tuple") h1 h2 (by decide +kernel) h3 (by decide +kernel) (le_var (i := 0) rfl ⟨"tuple", true, ty_tup, ⟨false, true, by decide +kernel, by decide +kernel, rfl⟩, rfl⟩)))
    · exact lb_cons (l1_ret (le_isi2 (T1 := "list") (T2 := "tuple") h1 h2 (by decide +kernel) h3 (by decide +kernel) (le_var (i := 0) rfl ⟨"list", true, ty_lst, ⟨true, false, by decide +kernel, by decide +kernel, rfl⟩, rfl⟩)))
  · exact lb_cons (l1_ret (le_isi2 (T1 := "list") (T2 := "tuple") h1 h2 (by decide +kernel) h3 (by decide +kernel) (le_var (i := 0) rfl ⟨t, false, ty, ⟨false, false, e1, e2, rfl⟩, rfl⟩)))

def LETTERS : Str := "abcdefghijklmnopqrstuvwxyz"
def nameOk (x : Str) : Bool := (decide (1 ≤ x.length) && decide (x.length ≤ 8)) && x.cps.toList.all fun c => decide (c ∈ LETTERS.cps.toList)
abbrev st_is_name : Stmt := top 17
theorem sc_is_name : Scp ["value", "letter"] ["value"] st_is_name := ⟨rfl, rfl, rfl, by decide +kernel, rfl, by decide +kernel, by decide +kernel⟩
def fIsName : PFn := fun Rs R => ∃ x, Rs = [vl (.str x)] ∧ nameOk x = true ∧ R = vl (.bl true)
theorem kn_is_name (F : Fun K "is_name" "is_name" st_is_name f fd) (hm : mg "is_name" = some (.ref f)) (hb : Binds K fd ["value"] []) (h1 : Blt mg "isinstance") (h2 : Blt mg "str") (h3 : Blt mg "len") (h4 : Cst mg "MOST_LETTERS" (.int 8)) (h5 : Cst mg "LETTERS" (.str LETTERS)) (h6 : Blt mg "all") :
    Kn P w K mg base 1 "is_name" (spP 1 fIsName) := by
  refine kn_pure F hm hb sc_is_name rfl fun cdv A outer s H E Rs R hr h => ?_
  obtain ⟨x, rfl, ok, rfl⟩ := h
  unfold nameOk at ok
  rw [Bool.and_eq_true, Bool.and_eq_true, decide_eq_true_eq, decide_eq_true_eq] at ok
  obtain ⟨⟨l1, l2⟩, l3⟩ := ok
  refine lb_cons (l1_if (lt_ww (lw_or (lt_not (lt_val (le_isi (T := "str") h1 h2 (by decide +kernel) (le_var (i := 0) rfl ⟨"str", true, ty_str, by decide +kernel, true, rfl, ?_⟩)))))))
  refine lw_or1 (lt_not (lt_chain op_le op_le (le_int (le_cb call_len_str h3 (by decide +kernel) (la_cons (le_var (i := 0) rfl (la_nil (lr_lenS (Nat.le_trans l2 (by decide)) (lr_I0 ⟨_, rfl, ?_⟩))))))))) 
  rw [decide_eq_true (show (1 : Int) ≤ (x.length : Int) by omega)]
  refine le_cst h4 (lr_I0 ⟨_, rfl, ?_⟩)
  rw [decide_eq_true (show (x.length : Int) ≤ 8 by omega)]
  refine lb_nil (lb_cons (l1_ret (le_cb (cr_all rfl) h6 (by decide +kernel) (la_cons (le_lc (own := [("letter", 1)]) (li_str (le_var (i := 0) rfl ⟨x, rfl, ?_⟩)) (bk (by decide +kernel)) sc_is_name.nd)))))
  have hz : x.cps.toList.length ≤ 100000 := by
    have : x.cps.toList.length = x.length := by simp [Str.length]
    omega
  refine lc_map x.cps.toList _ (fun c => vl (.bl (decide (c ∈ LETTERS.cps.toList)))) hz (fun c hc => ?_) ?_
  · intro s H C cl fp
    refine lg_name (i := 1) ?_ sc_is_name.nd
    intro s H C cl fp
    exact le_inSign (le_var (i := 1) rfl (le_cst h5 ⟨c, _, rfl, rfl, rfl, rfl⟩))
  · refine la_nil ?_
    have e : (x.cps.toList.map fun c => vl (.bl (decide (c ∈ LETTERS.cps.toList)))) = (x.cps.toList.map fun c => decide (c ∈ LETTERS.cps.toList)).map fun b => vl (.bl b) := by rw [List.map_map]; rfl
    rw [e]
    refine rc_all ?_
    rw [List.all_map]
    show vl (.bl (x.cps.toList.all _)) = _
    have : x.cps.toList.all (id ∘ fun c => decide (c ∈ LETTERS.cps.toList)) = true := l3
    rw [this]
end
end DL
set_option Elab.async false
set_option linter.all false
set_option maxRecDepth 100000
set_option maxHeartbeats 4000000
namespace DL
open PySem PySem.Spec L2
open PyProof.Rows hiding St
section
variable {P : Program} {w : World} {K : PySem.W.Frag} {mg : Str → Option Value} {base : Heap} {f : Addr} {fd : FuncData}
abbrev sT (x : Str) : Th := vl (.str x)
abbrev iT (i : Int) : Th := vl (.int i)
abbrev bT (b : Bool) : Th := vl (.bl b)
theorem nodup_inr {xs : List Str} (h : xs.Nodup) : (xs.map (Sum.inr : Str → Key)).Nodup := List.pairwise_map.mpr (h.imp fun hab e => hab (Sum.inr.inj e))
abbrev st_are_unlike : Stmt := top 18
theorem sc_are_unlike : Scp ["values", "value"] ["values"] st_are_unlike := ⟨rfl, rfl, rfl, by decide +kernel, rfl, by decide +kernel, by decide +kernel⟩
def fAreUnlike : PFn := fun Rs R => ∃ xs : List Str, Rs = [lstT (xs.map sT)] ∧ xs.Nodup ∧ xs.length ≤ 1000 ∧ R = bT true
theorem kn_are_unlike (F : Fun K "are_unlike" "are_unlike" st_are_unlike f fd) (hm : mg "are_unlike" = some (.ref f)) (hb : Binds K fd ["values"] []) (h1 : Blt mg "len") :
    Kn P w K mg base 1 "are_unlike" (spP 1 fAreUnlike) := by
  refine kn_pure F hm hb sc_are_unlike rfl fun cdv A outer s H E Rs R hr h => ?_
  obtain ⟨xs, rfl, nd, hz, rfl⟩ := h
  refine lb_cons (l1_ret (le_cmp op_eq (le_cb call_len_seq h1 (by decide +kernel) (la_cons (le_var (i := 0) rfl (la_nil (rc_len (.inr rfl) ?_)))))))
  refine le_cb call_lenR h1 (by decide +kernel) (la_cons (le_newD (ln_dc (own := [("value", 1)]) (li_lst (le_var (i := 0) rfl ⟨_, rfl, ?_⟩)) (bk (by decide +kernel)) sc_are_unlike.nd)))
  refine dc_map xs sT Sum.inr (fun _ => bT true) (by omega) (nodup_inr nd) (fun x hx => ?_) ⟨_, rfl, ?_⟩
  · intro s H C cl fp
    refine lg_name (i := 1) ?_ sc_are_unlike.nd
    intro s H C cl fp
    refine le_var (i := 1) rfl ⟨rfl, ?_⟩
    intro s H C cl fp
    exact le_bl ⟨rfl, rfl⟩
  · refine la_nil (rc_lenD (lr_eq rfl ?_))
    rw [List.length_map, List.length_map, decide_eq_true rfl]

abbrev st_are_names : Stmt := top 19
theorem sc_are_names : Scp ["value", "most", "one"] ["value", "most"] st_are_names := ⟨rfl, rfl, rfl, by decide +kernel, rfl, by decide +kernel, by decide +kernel⟩
def fAreNames : PFn := fun Rs R => ∃ (xs : List Str) (m : Int), Rs = [lstT (xs.map sT), iT m] ∧ xs.Nodup ∧ (∀ x ∈ xs, nameOk x = true) ∧ 1 ≤ xs.length ∧ (xs.length : Int) ≤ m ∧ xs.length ≤ 1000 ∧ R = bT true
theorem alls_true {α : Type} {xs : List α} {g : α → Th} (h : ∀ x ∈ xs, g x = bT true) : xs.map g = (xs.map fun _ => true).map fun b => bT b := by
  rw [List.map_map]
  exact List.map_congr_left fun x hx => h x hx
theorem all_true {α : Type} {xs : List α} : (xs.map fun _ => true).all id = true := by
  rw [List.all_map]; exact List.all_eq_true.mpr fun _ _ => rfl
theorem kn_are_names (F : Fun K "are_names" "are_names" st_are_names f fd) (hm : mg "are_names" = some (.ref f)) (hb : Binds K fd ["value", "most"] []) (h1 : Blt mg "len") (h2 : Blt mg "all") (k1 : Kn P w K mg base 1 "is_listed" (spP 1 (fIsListed K))) (k2 : Kn P w K mg base 1 "is_name" (spP 1 fIsName)) (k3 : Kn P w K mg base 1 "are_unlike" (spP 1 fAreUnlike)) :
    Kn P w K mg base 2 "are_names" (spP 2 fAreNames) := by
  refine kn_pure F hm hb sc_are_names rfl fun cdv A outer s H E Rs R hr h => ?_
  obtain ⟨xs, m, rfl, nd, ok, l1, l2, l3, rfl⟩ := h
  refine lb_cons (l1_if (lt_ww (lw_or (lt_not (lt_val (le_call k1 hr (by decide) (la_cons (le_var (i := 0) rfl (la_nil ⟨_, .inl ⟨_, rfl, ⟨_, .inr rfl⟩, rfl⟩, rfl, true, rfl, ?_⟩)))))))))
  refine lw_or1 (lt_not (lt_chain op_le op_le (le_int (le_cb call_len_seq h1 (by decide +kernel) (la_cons (le_var (i := 0) rfl (la_nil (rc_len (.inr rfl) (lr_I0 ⟨_, rfl, ?_⟩)))))))))
  rw [List.length_map, decide_eq_true (show (1 : Int) ≤ (xs.length : Int) by omega)]
  refine le_var (i := 1) rfl (lr_I0 ⟨_, rfl, ?_⟩)
  rw [decide_eq_true (show (xs.length : Int) ≤ m from l2)]
  refine lb_nil (lb_cons (l1_ret (le_and (le_cb (cr_all rfl) h2 (by decide +kernel) (la_cons (le_lc (own := [("one", 2)]) (li_lst (le_var (i := 0) rfl ⟨_, rfl, ?_⟩)) (bk (by decide +kernel)) sc_are_names.nd))))))
  refine lc_map xs sT (fun _ => bT true) (by omega) (fun x hx => ?_) ?_
  · intro s H C cl fp
    refine lg_name (i := 2) ?_ sc_are_names.nd
    intro s H C cl fp
    exact le_call k2 hr (by decide) (la_cons (le_var (i := 2) rfl (la_nil ⟨_, ⟨x, rfl, ok x hx, rfl⟩, rfl, rfl, rfl⟩)))
  · refine la_nil ?_
    rw [alls_true (g := fun _ => bT true) (fun _ _ => rfl)]
    refine rc_all ⟨_, rfl, ?_⟩
    rw [all_true]
    exact le_one (le_call k3 hr (by decide) (la_cons (le_var (i := 0) rfl (la_nil ⟨_, ⟨xs, rfl, nd, l3, rfl⟩, rfl, rfl⟩))))

abbrev st_ascends : Stmt := top 20
theorem sc_ascends : Scp ["values", "at"] ["values"] st_ascends := ⟨rfl, rfl, rfl, by decide +kernel, rfl, by decide +kernel, by decide +kernel⟩
def ascB : List Int → Bool
  | x :: y :: r => decide (x < y) && ascB (y :: r)
  | _ => true
def fAscends (K : PySem.W.Frag) : PFn := fun Rs R => ∃ (R1 : Th) (ns : List Int), Rs = [R1] ∧ SeqT K R1 (ns.map iT) ∧ ns.length ≤ 1000 ∧ R = bT (ascB ns)
theorem asc_range : ∀ ns : List Int, ((List.range (ns.length - 1)).map fun i => decide (ns.getD i 0 < ns.getD (i + 1) 0)).all id = ascB ns
  | [] => rfl
  | [_] => rfl
  | x :: y :: r => by
    have ih := asc_range (y :: r)
    have e : (x :: y :: r).length - 1 = ((y :: r).length - 1) + 1 := by simp
    rw [e, List.range_succ_eq_map, List.map_cons, List.map_map, List.all_cons]
    unfold ascB
    rw [← ih]
    rfl
theorem kn_ascends (F : Fun K "ascends" "ascends" st_ascends f fd) (hm : mg "ascends" = some (.ref f)) (hb : Binds K fd ["values"] []) (h1 : Blt mg "len") (h2 : Blt mg "all") (h3 : Blt mg "range") :
    Kn P w K mg base 1 "ascends" (spP 1 (fAscends K)) := by
  refine kn_pure F hm hb sc_ascends rfl fun cdv A outer s H E Rs R hr h => ?_
  obtain ⟨R1, ns, rfl, sq, hz, rfl⟩ := h
  refine lb_cons (l1_ret (le_cb (cr_all rfl) h2 (by decide +kernel) (la_cons (le_lc (own := [("at", 1)]) (li_range1 h3 (la_cons (le_bin op_sub (le_cb call_len_seq h1 (by decide +kernel) (la_cons (le_var (i := 0) rfl (la_nil (rc_len sq ?_)))))))) (bk (by decide +kernel)) sc_ascends.nd))))
  rw [List.length_map]
  refine le_int (lr_I0 (la_nil ⟨_, rfl, by omega, by omega, ?_⟩))
  have e : ((ns.length : Int) - 1).toNat = ns.length - 1 := by omega
  rw [e]
  refine lc_map (List.range (ns.length - 1)) _ (fun i => bT (decide (ns.getD i 0 < ns.getD (i + 1) 0))) (by rw [List.length_range]; omega) (fun i hi => ?_) ?_
  · have hi := List.mem_range.mp hi
    intro s H C cl fp
    refine lg_name (i := 1) ?_ sc_ascends.nd
    intro s H C cl fp
    have at' : ∀ j : Nat, j < ns.length → atI (ns.map iT) (j : Int) = some (iT (ns.getD j 0)) := fun j hj => atI_nat (by
      rw [List.getElem?_map, List.getElem?_eq_getElem hj, List.getD_eq_getElem?_getD, List.getElem?_eq_getElem hj]; rfl)
    refine le_cmp op_lt (le_ix (le_var (i := 0) rfl (le_var (i := 1) rfl ⟨_, _, _, sq, rfl, by rw [Int.zero_add]; exact at' i (by omega), ?_⟩)))
    refine le_ix (le_var (i := 0) rfl (le_bin op_add (le_var (i := 1) rfl (le_int (lr_I0 ⟨_, _, _, sq, rfl, ?_, lr_I0 ⟨rfl, rfl⟩⟩)))))
    have e2 : (0 : Int) + (i : Int) + 1 = ((i + 1 : Nat) : Int) := by omega
    rw [e2]
    exact at' (i + 1) (by omega)
  · refine la_nil ?_
    have e3 : ((List.range (ns.length - 1)).map fun i => bT (decide (ns.getD i 0 < ns.getD (i + 1) 0))) = ((List.range (ns.length - 1)).map fun i => decide (ns.getD i 0 < ns.getD (i + 1) 0)).map fun b => vl (.bl b) := by rw [List.map_map]; rfl
    rw [e3]
    refine rc_all ?_
    rw [asc_range]
end
end DL
set_option Elab.async false
set_option linter.all false
set_option maxRecDepth 100000
set_option maxHeartbeats 4000000
namespace DL
open PySem PySem.Spec L2
open PyProof.Rows hiding St
section
variable {P : Program} {w : World} {K : PySem.W.Frag} {mg : Str → Option Value} {base : Heap} {f : Addr} {fd : FuncData}
theorem zl {n : Nat} (h : n ≤ 1000 := by decide) : n ≤ sizeLine := Nat.le_trans h (by decide)
/-- a ratio -/
abbrev rT (K : PySem.W.Frag) (r : Int × Int) : Th := tupT K [iT r.1, iT r.2]
abbrev st_is_ratio : Stmt := top 24
theorem sc_is_ratio : Scp ["value"] ["value"] st_is_ratio := ⟨rfl, rfl, rfl, by decide +kernel, rfl, by decide +kernel, by decide +kernel⟩
def fIsRatio (K : PySem.W.Frag) : PFn := fun Rs R => ∃ r : Int × Int, Rs = [rT K r] ∧ 1 ≤ r.2 ∧ Nat.gcd r.1.natAbs r.2.natAbs = 1 ∧ R = bT true
theorem kn_is_ratio (F : Fun K "is_ratio" "is_ratio" st_is_ratio f fd) (hm : mg "is_ratio" = some (.ref f)) (hb : Binds K fd ["value"] []) (h1 : Blt mg "isinstance") (h2 : Blt mg "tuple") (h3 : Blt mg "len") (h4 : mg "gcd" = some (.builtin "math.gcd")) (k1 : Kn P w K mg base 1 "is_integer" (spP 1 (fIsInteger K))) :
    Kn P w K mg base 2 "is_ratio" (spP 1 (fIsRatio K)) := by
  refine kn_pure F hm hb sc_is_ratio rfl fun cdv A outer s H E Rs R hr h => ?_
  obtain ⟨⟨t, b⟩, rfl, l1, l2, rfl⟩ := h
  refine lb_cons (l1_if (lt_ww (lw_or (lt_not (lt_val (le_isi (T := "tuple") h1 h2 (by decide +kernel) (le_var (i := 0) rfl ⟨"tuple", true, ty_tup, by decide +kernel, true, rfl, ?_⟩)))))))
  refine lw_or (lt_cmp op_ne (le_cb call_len_seq h3 (by decide +kernel) (la_cons (le_var (i := 0) rfl (la_nil (rc_len (.inl rfl) (le_int (lr_ne rfl ⟨_, rfl, ?_⟩))))))))
  refine lw_or (lt_not (lt_val (le_call k1 hr (by decide) (la_cons (le_ix (le_var (i := 0) rfl (le_int ⟨_, _, _, .inl rfl, rfl, rfl, la_nil ⟨_, .inl ⟨t, rfl, rfl⟩, rfl, true, rfl, ?_⟩⟩)))))))
  refine lw_or1 (lt_not (lt_val (le_call k1 hr (by decide) (la_cons (le_ix (le_var (i := 0) rfl (le_int ⟨_, _, _, .inl rfl, rfl, rfl, la_nil ⟨_, .inl ⟨b, rfl, rfl⟩, rfl, true, rfl, ?_⟩⟩)))))))
  refine lb_nil (lb_cons (l1_ret (le_and (le_cmp op_ge (le_ix (le_var (i := 0) rfl (le_int ⟨_, _, _, .inl rfl, rfl, rfl, le_int (lr_I0 ⟨_, rfl, ?_⟩)⟩)))))))
  rw [decide_eq_true (show (1 : Int) ≤ b from l1)]
  refine le_one <| le_cmp op_eq <| le_gcd h4 <| la_cons <| le_ix <| le_var (i := 0) rfl <| le_int ⟨_, _, _, .inl rfl, rfl, rfl, ?_⟩
  refine la_cons <| le_ix <| le_var (i := 0) rfl <| le_int ⟨_, _, _, .inl rfl, rfl, rfl, la_nil ⟨t, b, rfl, le_int (lr_eq rfl ?_)⟩⟩
  have l2 : Nat.gcd t.natAbs b.natAbs = 1 := l2
  rw [l2]
  rfl
abbrev st_less : Stmt := top 25
theorem sc_less : Scp ["one", "other"] ["one", "other"] st_less := ⟨rfl, rfl, rfl, by decide +kernel, rfl, by decide +kernel, by decide +kernel⟩
def Sml (i : Int) : Prop := -(2 ^ 64) < i ∧ i < 2 ^ 64
instance (i : Int) : Decidable (Sml i) := by unfold Sml; infer_instance
def fLess (K : PySem.W.Frag) : PFn := fun Rs R => ∃ r q : Int × Int, Rs = [rT K r, rT K q] ∧ Sml r.1 ∧ Sml q.1 ∧ R = bT (decide (r.1 * q.2 < q.1 * r.2))
theorem kn_less (F : Fun K "less" "less" st_less f fd) (hm : mg "less" = some (.ref f)) (hb : Binds K fd ["one", "other"] []) : Kn P w K mg base 1 "less" (spP 2 (fLess K)) := by
  refine kn_pure F hm hb sc_less rfl fun cdv A outer s H E Rs R hr h => ?_
  obtain ⟨⟨t, b⟩, ⟨t', b'⟩, rfl, l1, l2, rfl⟩ := h
  refine lb_cons (l1_ret (le_cmp op_lt (le_bin op_mul (le_ix (le_var (i := 0) rfl (le_int ⟨_, _, _, .inl rfl, rfl, rfl, le_ix (le_var (i := 1) rfl (le_int ⟨_, _, _, .inl rfl, rfl, rfl, lr_I (.inl l1) ?_⟩))⟩))))))
  exact le_bin op_mul (le_ix (le_var (i := 1) rfl (le_int ⟨_, _, _, .inl rfl, rfl, rfl, le_ix (le_var (i := 0) rfl (le_int ⟨_, _, _, .inl rfl, rfl, rfl, lr_I (.inl l2) (lr_I0 rfl)⟩))⟩)))

/-! ### total -/
def totStep (r q : Int × Int) : Int × Int :=
  let t := r.1 * q.2 + q.1 * r.2
  let b := r.2 * q.2
  let g : Int := ((Nat.gcd t.natAbs b.natAbs : Nat) : Int)
  (t / g, b / g)
def totF (r : Int × Int) (rs : List (Int × Int)) : Int × Int := rs.foldl totStep r
def stepOK (r q : Int × Int) : Bool :=
  decide (Sml r.1) && decide (Sml r.2) && decide (Sml q.1) && decide (Sml q.2) && decide (0 < Nat.gcd (r.1 * q.2 + q.1 * r.2).natAbs (r.2 * q.2).natAbs) && decide (Nat.gcd (r.1 * q.2 + q.1 * r.2).natAbs (r.2 * q.2).natAbs < 1073741824)
def totOK : Int × Int → List (Int × Int) → Bool
  | _, [] => true
  | r, q :: rs => stepOK r q && totOK (totStep r q) rs
theorem totOK_at : ∀ {rs : List (Int × Int)} {r : Int × Int} {i : Nat} {q : Int × Int}, totOK r rs = true → rs[i]? = some q → stepOK (totF r (rs.take i)) q = true
  | [], _, i, _, _, e => by simp at e
  | q :: rs, r, 0, q', h, e => by
    unfold totOK at h
    rw [Bool.and_eq_true] at h
    simp at e; subst e; exact h.1
  | q :: rs, r, i + 1, q', h, e => by
    unfold totOK at h
    rw [Bool.and_eq_true] at h
    exact totOK_at (rs := rs) (r := totStep r q) h.2 (by simpa using e)
abbrev st_total : Stmt := top 26
theorem sc_total : Scp ["some", "top", "bottom", "one", "shared"] ["some"] st_total := ⟨rfl, rfl, rfl, by decide +kernel, rfl, by decide +kernel, by decide +kernel⟩
def fTotal (K : PySem.W.Frag) : PFn := fun Rs R => ∃ rs : List (Int × Int), Rs = [lstT (rs.map (rT K))] ∧ totOK (0, 1) rs = true ∧ R = rT K (totF (0, 1) rs)
theorem kn_total (F : Fun K "total" "total" st_total f fd) (hm : mg "total" = some (.ref f)) (hb : Binds K fd ["some"] []) (h4 : mg "gcd" = some (.builtin "math.gcd")) : Kn P w K mg base 1 "total" (spP 1 (fTotal K)) := by
  refine kn_pure F hm hb sc_total rfl fun cdv A outer s H E Rs R hr h => ?_
  obtain ⟨rs, rfl, ok, rfl⟩ := h
  refine lb_cons (l1_parN (is := [1, 2]) (lo_sh (le_int (lo_sh (le_int (lo_nil ⟨rfl, ?_⟩))))) (.cons sc_total.nd rfl (.inl rfl) (.inr rfl) rfl (.cons sc_total.nd rfl (.inl rfl) (.inr rfl) rfl .nil)))
  refine lb_cons (l1_for [3] (li_lst (le_var (i := 0) rfl ⟨_, rfl, ?_⟩)) .never)
  refine ⟨fun i S => ∃ o sh, S = ⟨[some (.sh (lstT (rs.map (rT K)))), some (.sh (iT (totF (0, 1) (rs.take i)).1)), some (.sh (iT (totF (0, 1) (rs.take i)).2)), o, sh], 0⟩, ⟨none, none, rfl⟩, ?_, ?_⟩
  · rintro i R' S2 hR ⟨o, sh, rfl⟩
    rw [List.getElem?_map] at hR
    cases e : rs[i]? with
    | none => rw [e] at hR; cases hR
    | some q =>
      rw [e] at hR; cases hR
      have so := totOK_at ok e
      have e2 : totF (0, 1) (rs.take (i + 1)) = totStep (totF (0, 1) (rs.take i)) q := by
        unfold totF
        rw [take_snoc e, List.foldl_append]; rfl
      generalize totF (0, 1) (rs.take i) = r at so e2 ⊢
      obtain ⟨t, b⟩ := r
      obtain ⟨x, y⟩ := q
      unfold stepOK at so
      simp only [Bool.and_eq_true, decide_eq_true_eq] at so
      obtain ⟨⟨⟨⟨⟨s1, s2⟩, s3⟩, s4⟩, s5⟩, s6⟩ := so
      refine lg_name (i := 3) ?_ sc_total.nd
      refine lb_cons (l1_par2 (i := 1) (j := 2) (lo_sh (le_bin op_add (le_bin op_mul (le_var (i := 1) rfl (le_ix (le_var (i := 3) rfl (le_int ⟨_, _, _, .inl rfl, rfl, rfl, lr_I (.inl s1) ?_⟩))))))) sc_total.nd)
      refine le_bin op_mul (le_ix (le_var (i := 3) rfl (le_int ⟨_, _, _, .inl rfl, rfl, rfl, le_var (i := 2) rfl (lr_I (.inl s3) (lr_I0 ?_))⟩)))
      refine lo_sh (le_bin op_mul (le_var (i := 2) rfl (le_ix (le_var (i := 3) rfl (le_int ⟨_, _, _, .inl rfl, rfl, rfl, lr_I (.inl s2) (lo_nil ⟨rfl, ?_⟩)⟩)))))
      refine lb_cons (l1_set (i := 4) (le_gcd h4 (la_cons (le_var (i := 1) rfl (la_cons (le_var (i := 2) rfl (la_nil ⟨_, _, rfl, ?_⟩)))))) sc_total.nd)
      have g1 : (0 : Int) < ((Nat.gcd (t * y + x * b).natAbs (b * y).natAbs : Nat) : Int) := Int.natCast_pos.mpr s5
      have g2 : ((Nat.gcd (t * y + x * b).natAbs (b * y).natAbs : Nat) : Int) < 1073741824 := Int.ofNat_lt.mpr s6
      refine lb_cons <| l1_par2 (i := 1) (j := 2) (lo_sh <| le_bin op_fdiv <| le_var (i := 1) rfl <| le_var (i := 4) rfl <| lr_I ⟨g1, g2⟩ ?_) sc_total.nd
      refine lo_sh <| le_bin op_fdiv <| le_var (i := 2) rfl <| le_var (i := 4) rfl <| lr_I ⟨g1, g2⟩ <| lo_nil ⟨rfl, lb_nil ⟨some (.sh (rT K (x, y))), some (.sh (iT ((Nat.gcd (t * y + x * b).natAbs (b * y).natAbs : Nat) : Int))), ?_⟩⟩
      rw [e2]
      rfl
  · rintro S2 ⟨o, sh, rfl⟩
    rw [List.length_map, List.take_length]
    exact lb_cons (l1_ret (le_tup (la_cons (le_var (i := 1) rfl (la_cons (le_var (i := 2) rfl (la_nil ⟨zl (n := 2), rfl⟩)))))))

/-! ### fixed -/
mutual
def fixD : PyData → PyData
  | .list xs => .tuple (fixDs xs)
  | .tuple xs => .tuple (fixDs xs)
  | d => d
def fixDs : List PyData → List PyData
  | [] => []
  | d :: ds => fixD d :: fixDs ds
end
theorem fixDs_map : ∀ ds : List PyData, fixDs ds = ds.map fixD
  | [] => rfl
  | d :: ds => by
    show fixD d :: fixDs ds = _
    rw [fixDs_map ds, List.map_cons]
/-- nested at most so deep, few items each -/
def depD : Nat → PyData → Prop
  | 0, .list _ => False
  | 0, .tuple _ => False
  | n + 1, .list xs => xs.length ≤ 1000 ∧ ∀ x ∈ xs, depD n x
  | n + 1, .tuple xs => xs.length ≤ 1000 ∧ ∀ x ∈ xs, depD n x
  | _, .dict _ => False
  | _, _ => True
abbrev st_fixed : Stmt := top 28
theorem sc_fixed : Scp ["value", "one"] ["value"] st_fixed := ⟨rfl, rfl, rfl, by decide +kernel, rfl, by decide +kernel, by decide +kernel⟩
def fFixed (K : PySem.W.Frag) (n : Nat) : PFn := fun Rs R => ∃ d, Rs = [th K d] ∧ depD n d ∧ R = th K (fixD d)
theorem kn_fixed (F : Fun K "fixed" "fixed" st_fixed f fd) (hm : mg "fixed" = some (.ref f)) (hb : Binds K fd ["value"] []) (h1 : Blt mg "isinstance") (h2 : Blt mg "list") (h3 : Blt mg "tuple") : ∀ n, Kn P w K mg base (n + 1) "fixed" (spP 1 (fFixed K n)) := by
  intro n
  induction n with
  | zero =>
    refine kn_pure F hm hb sc_fixed rfl fun cdv A outer s H E Rs R hr h => ?_
    obtain ⟨d, rfl, dd, rfl⟩ := h
    have plain : ∀ t, TyTh K (th K d) (.type t) → kitB t "list" = some false → kitB t "tuple" = some false → fixD d = d → LB (bx P w K mg base ["value", "one"] "fixed" st_fixed f cdv A outer s H E) none (defBody st_fixed) ⟨start0 ["value", "one"] [th K d], 0⟩ { nx := fun _ => vl .non = th K (fixD d), rt := fun R' _ => R' = th K (fixD d) } := by
      intro t ty e1 e2 ef
      rw [ef]
      refine lb_cons <| l1_if <| lt_val <| le_isi2 (T1 := "list") (T2 := "tuple") h1 h2 (by decide +kernel) h3 (by decide +kernel) <| le_var (i := 0) rfl ⟨t, false, ty, ⟨false, false, e1, e2, rfl⟩, false, rfl, ?_⟩
      exact lb_nil <| lb_cons <| l1_ret <| le_var (i := 0) rfl rfl
    cases d with
    | none => exact plain "NoneType" ty_non (by decide +kernel) (by decide +kernel) rfl
    | bool b => exact plain "bool" ty_bl (by decide +kernel) (by decide +kernel) rfl
    | int i => exact plain "int" ty_int (by decide +kernel) (by decide +kernel) rfl
    | str x => exact plain "str" ty_str (by decide +kernel) (by decide +kernel) rfl
    | list xs => exact (show False from dd).elim
    | tuple xs => exact (show False from dd).elim
    | dict xs => exact (show False from dd).elim
  | succ n ih =>
    refine kn_pure F hm hb sc_fixed rfl fun cdv A outer s H E Rs R hr h => ?_
    obtain ⟨d, rfl, dd, rfl⟩ := h
    have plain : ∀ t, TyTh K (th K d) (.type t) → kitB t "list" = some false → kitB t "tuple" = some false → fixD d = d → LB (bx P w K mg base ["value", "one"] "fixed" st_fixed f cdv A outer s H E) none (defBody st_fixed) ⟨start0 ["value", "one"] [th K d], 0⟩ { nx := fun _ => vl .non = th K (fixD d), rt := fun R' _ => R' = th K (fixD d) } := by
      intro t ty e1 e2 ef
      rw [ef]
      refine lb_cons <| l1_if <| lt_val <| le_isi2 (T1 := "list") (T2 := "tuple") h1 h2 (by decide +kernel) h3 (by decide +kernel) <| le_var (i := 0) rfl ⟨t, false, ty, ⟨false, false, e1, e2, rfl⟩, false, rfl, ?_⟩
      exact lb_nil <| lb_cons <| l1_ret <| le_var (i := 0) rfl rfl
    cases d with
    | none => exact plain "NoneType" ty_non (by decide +kernel) (by decide +kernel) rfl
    | bool b => exact plain "bool" ty_bl (by decide +kernel) (by decide +kernel) rfl
    | int i => exact plain "int" ty_int (by decide +kernel) (by decide +kernel) rfl
    | str x => exact plain "str" ty_str (by decide +kernel) (by decide +kernel) rfl
    | dict xs => exact (show False from dd).elim
    | list xs =>
      obtain ⟨hz, hx⟩ := (show xs.length ≤ 1000 ∧ ∀ x ∈ xs, depD n x from dd)
      refine lb_cons <| l1_if <| lt_val <| le_isi2 (T1 := "list") (T2 := "tuple") h1 h2 (by decide +kernel) h3 (by decide +kernel) <| le_var (i := 0) rfl ⟨"list", true, ty_lst, ⟨true, false, by decide +kernel, by decide +kernel, rfl⟩, true, rfl, ?_⟩
      refine lb_cons <| l1_ret <| le_ct call_tuple_of h3 (by decide +kernel) <| la_cons <| le_lc (own := [("one", 1)]) (li_lst (le_var (i := 0) rfl ⟨_, rfl, ?_⟩)) (bk (by decide +kernel)) sc_fixed.nd
      rw [ths_map]
      refine lc_map xs (th K) (fun d => th K (fixD d)) (by omega) (fun x hm => ?_) ?_
      · intro s H C cl fp
        refine lg_name (i := 1) ?_ sc_fixed.nd
        intro s H C cl fp
        exact le_call ih hr (by omega) <| la_cons <| le_var (i := 1) rfl <| la_nil ⟨_, ⟨x, rfl, hx x hm, rfl⟩, rfl, rfl, rfl⟩
      · refine la_nil (rc_tuple (.inr rfl) ?_)
        show tupT K _ = tupT K (ths K (fixDs xs))
        rw [ths_map, fixDs_map, List.map_map]; rfl
    | tuple xs =>
      obtain ⟨hz, hx⟩ := (show xs.length ≤ 1000 ∧ ∀ x ∈ xs, depD n x from dd)
      refine lb_cons <| l1_if <| lt_val <| le_isi2 (T1 := "list") (T2 := "tuple") h1 h2 (by decide +kernel) h3 (by decide +kernel) <| le_var (i := 0) rfl ⟨"tuple", true, ty_tup, ⟨false, true, by decide +kernel, by decide +kernel, rfl⟩, true, rfl, ?_⟩
      refine lb_cons <| l1_ret <| le_ct call_tuple_of h3 (by decide +kernel) <| la_cons <| le_lc (own := [("one", 1)]) (li_tup (le_var (i := 0) rfl ⟨_, rfl, ?_⟩)) (bk (by decide +kernel)) sc_fixed.nd
      rw [ths_map]
      refine lc_map xs (th K) (fun d => th K (fixD d)) (by omega) (fun x hm => ?_) ?_
      · intro s H C cl fp
        refine lg_name (i := 1) ?_ sc_fixed.nd
        intro s H C cl fp
        exact le_call ih hr (by omega) <| la_cons <| le_var (i := 1) rfl <| la_nil ⟨_, ⟨x, rfl, hx x hm, rfl⟩, rfl, rfl, rfl⟩
      · refine la_nil (rc_tuple (.inr rfl) ?_)
        show tupT K _ = tupT K (ths K (fixDs xs))
        rw [ths_map, fixDs_map, List.map_map]; rfl
end
end DL
set_option Elab.async false
set_option linter.all false
set_option maxRecDepth 100000
set_option maxHeartbeats 4000000
namespace DL
open PySem PySem.Spec L2
open PyProof.Rows hiding St
open PySem.W (Datum Tup)
/-- a row of a yard -/
inductive Row where
  | mine (acts : List (Str × Nat))
  | foe (acts : List (Str × Nat))
  | luck (outs : List (Nat × List (Int × Int)))
  | fin
abbrev nT (n : Nat) : Th := iT (n : Int)
abbrev actT (K : PySem.W.Frag) (a : Str × Nat) : Th := tupT K [sT a.1, nT a.2]
abbrev actsT (K : PySem.W.Frag) (as : List (Str × Nat)) : Th := lstT (as.map (actT K))
abbrev oddT (K : PySem.W.Frag) (os : List (Int × Int)) : Th := lstT (os.map (rT K))
abbrev outT (K : PySem.W.Frag) (o : Nat × List (Int × Int)) : Th := tupT K [nT o.1, oddT K o.2]
abbrev outsT (K : PySem.W.Frag) (os : List (Nat × List (Int × Int))) : Th := lstT (os.map (outT K))
def rowT (K : PySem.W.Frag) : Row → Th
  | .mine as => tupT K [sT "mine", actsT K as]
  | .foe as => tupT K [sT "foe", actsT K as]
  | .luck os => tupT K [sT "luck", outsT K os]
  | .fin => tupT K [sT "end"]
section
variable {P : Program} {w : World} {K : PySem.W.Frag} {mg : Str → Option Value} {base : Heap} {f : Addr} {fd : FuncData}
abbrev st_is_pair : Stmt := top 40
theorem sc_is_pair : Scp ["value"] ["value"] st_is_pair := ⟨rfl, rfl, rfl, by decide +kernel, rfl, by decide +kernel, by decide +kernel⟩
def fIsPair (K : PySem.W.Frag) : PFn := fun Rs R => ∃ R0 R1 R2, Rs = [R0] ∧ SeqT K R0 [R1, R2] ∧ R = bT true
theorem kn_is_pair (F : Fun K "is_pair" "is_pair" st_is_pair f fd) (hm : mg "is_pair" = some (.ref f)) (hb : Binds K fd ["value"] []) (h1 : Blt mg "len") (k1 : Kn P w K mg base 1 "is_listed" (spP 1 (fIsListed K))) :
    Kn P w K mg base 2 "is_pair" (spP 1 (fIsPair K)) := by
  refine kn_pure F hm hb sc_is_pair rfl fun cdv A outer s H E Rs R hr h => ?_
  obtain ⟨R0, R1, R2, rfl, sq, rfl⟩ := h
  refine lb_cons <| l1_ret <| le_and <| le_call k1 hr (by decide) <| la_cons <| le_var (i := 0) rfl <| la_nil ⟨_, .inl ⟨_, rfl, ⟨_, sq⟩, rfl⟩, rfl, true, rfl, ?_⟩
  refine le_one <| le_cmp op_eq <| le_cb call_len_seq h1 (by decide +kernel) <| la_cons <| le_var (i := 0) rfl <| la_nil <| rc_len sq <| le_int <| lr_eq rfl ?_
  rfl
abbrev st_is_act : Stmt := top 41
theorem sc_is_act : Scp ["value", "many"] ["value", "many"] st_is_act := ⟨rfl, rfl, rfl, by decide +kernel, rfl, by decide +kernel, by decide +kernel⟩
def fIsAct (K : PySem.W.Frag) : PFn := fun Rs R => ∃ (a : Str × Nat) (m : Nat), Rs = [actT K a, nT m] ∧ nameOk a.1 = true ∧ a.2 < m ∧ R = bT true
theorem kn_is_act (F : Fun K "is_act" "is_act" st_is_act f fd) (hm : mg "is_act" = some (.ref f)) (hb : Binds K fd ["value", "many"] []) (k1 : Kn P w K mg base 2 "is_pair" (spP 1 (fIsPair K))) (k2 : Kn P w K mg base 1 "is_name" (spP 1 fIsName)) (k3 : Kn P w K mg base 2 "is_within" (spP 3 (fIsWithin K))) :
    Kn P w K mg base 3 "is_act" (spP 2 (fIsAct K)) := by
  refine kn_pure F hm hb sc_is_act rfl fun cdv A outer s H E Rs R hr h => ?_
  obtain ⟨⟨x, t⟩, m, rfl, h1, h2, rfl⟩ := h
  refine lb_cons <| l1_ret <| le_and <| le_call k1 hr (by decide) <| la_cons <| le_var (i := 0) rfl <| la_nil ⟨_, ⟨_, _, _, rfl, .inl rfl, rfl⟩, rfl, true, rfl, ?_⟩
  refine le_and <| le_call k2 hr (by decide) <| la_cons <| le_ix <| le_var (i := 0) rfl <| le_int ⟨_, _, _, .inl rfl, rfl, rfl, la_nil ⟨_, ⟨x, rfl, h1, rfl⟩, rfl, true, rfl, ?_⟩⟩
  refine le_one <| le_call k3 hr (by decide) <| la_cons <| le_ix <| le_var (i := 0) rfl <| le_int ⟨_, _, _, .inl rfl, rfl, rfl, la_cons <| le_int <| la_cons <| le_bin op_sub <| le_var (i := 1) rfl <| le_int <| lr_I0 <| la_nil ⟨_, .inl ⟨(t : Int), 0, (m : Int) - 1, rfl, rfl⟩, rfl, ?_⟩⟩
  have h2 : t < m := h2
  rw [decide_eq_true (show (0 : Int) ≤ (t : Int) by omega), decide_eq_true (show (t : Int) ≤ (m : Int) - 1 by omega)]
  rfl
abbrev st_are_acts : Stmt := top 42
theorem sc_are_acts : Scp ["value", "many", "one"] ["value", "many"] st_are_acts := ⟨rfl, rfl, rfl, by decide +kernel, rfl, by decide +kernel, by decide +kernel⟩
def ActsOk (as : List (Str × Nat)) (m : Nat) : Prop := 1 ≤ as.length ∧ as.length ≤ 4 ∧ (∀ a ∈ as, nameOk a.1 = true ∧ a.2 < m) ∧ (as.map Prod.fst).Nodup
def fAreActs (K : PySem.W.Frag) : PFn := fun Rs R => ∃ (as : List (Str × Nat)) (m : Nat), Rs = [actsT K as, nT m] ∧ ActsOk as m ∧ R = bT true
theorem kn_are_acts (F : Fun K "are_acts" "are_acts" st_are_acts f fd) (hm : mg "are_acts" = some (.ref f)) (hb : Binds K fd ["value", "many"] []) (h1 : Blt mg "len") (h2 : Blt mg "all") (c1 : Cst mg "MOST_ACTS" (.int 4)) (k1 : Kn P w K mg base 1 "is_listed" (spP 1 (fIsListed K))) (k2 : Kn P w K mg base 3 "is_act" (spP 2 (fIsAct K))) (k3 : Kn P w K mg base 1 "are_unlike" (spP 1 fAreUnlike)) :
    Kn P w K mg base 4 "are_acts" (spP 2 (fAreActs K)) := by
  refine kn_pure F hm hb sc_are_acts rfl fun cdv A outer s H E Rs R hr h => ?_
  obtain ⟨as, m, rfl, ⟨l1, l2, ok, nd⟩, rfl⟩ := h
  refine lb_cons <| l1_if <| lt_ww <| lw_or <| lt_not <| lt_val <| le_call k1 hr (by decide) <| la_cons <| le_var (i := 0) rfl <| la_nil ⟨_, .inl ⟨_, rfl, ⟨_, .inr rfl⟩, rfl⟩, rfl, true, rfl, ?_⟩
  refine lw_or1 <| lt_not <| lt_chain op_le op_le <| le_int <| le_cb call_len_seq h1 (by decide +kernel) <| la_cons <| le_var (i := 0) rfl <| la_nil <| rc_len (.inr rfl) <| lr_I0 ⟨_, rfl, ?_⟩
  rw [List.length_map, decide_eq_true (show (1 : Int) ≤ (as.length : Int) by omega)]
  refine le_cst c1 <| lr_I0 ⟨_, rfl, ?_⟩
  rw [decide_eq_true (show (as.length : Int) ≤ 4 by omega)]
  refine lb_nil <| lb_cons <| l1_ret <| le_and <| le_cb (cr_all rfl) h2 (by decide +kernel) <| la_cons <| le_lc (own := [("one", 2)]) (li_lst (le_var (i := 0) rfl ⟨_, rfl, ?_⟩)) (bk (by decide +kernel)) sc_are_acts.nd
  refine lc_map as (actT K) (fun _ => bT true) (by omega) (fun x hx => ?_) ?_
  · intro s H C cl fp
    refine lg_name (i := 2) ?_ sc_are_acts.nd
    intro s H C cl fp
    exact le_call k2 hr (by decide) <| la_cons <| le_var (i := 2) rfl <| la_cons <| le_var (i := 1) rfl <| la_nil ⟨_, ⟨x, m, rfl, (ok x hx).1, (ok x hx).2, rfl⟩, rfl, rfl, rfl⟩
  · refine la_nil ?_
    rw [alls_true (g := fun _ => bT true) (fun _ _ => rfl)]
    refine rc_all ⟨_, rfl, ?_⟩
    rw [all_true]
    refine le_one <| le_call k3 hr (by decide) <| la_cons <| le_lc (own := [("one", 2)]) (li_lst (le_var (i := 0) rfl ⟨_, rfl, ?_⟩)) (bk (by decide +kernel)) sc_are_acts.nd
    refine lc_map as (actT K) (fun a => sT a.1) (by omega) (fun x hx => ?_) ?_
    · intro s H C cl fp
      refine lg_name (i := 2) ?_ sc_are_acts.nd
      intro s H C cl fp
      exact le_ix <| le_var (i := 2) rfl <| le_int ⟨_, _, _, .inl rfl, rfl, rfl, rfl, rfl⟩
    · refine la_nil ⟨_, ⟨as.map Prod.fst, ?_, nd, by rw [List.length_map]; omega, rfl⟩, rfl, rfl⟩
      rw [List.map_map]; rfl
end
end DL
set_option Elab.async false
set_option linter.all false
set_option maxRecDepth 100000
set_option maxHeartbeats 4000000
namespace DL
open PySem PySem.Spec L2
open PyProof.Rows hiding St
open PySem.W (Datum Tup)
theorem ru {k : Nat} {A : Around} (hr : Room k A) : A.units + 64 < cLine := by have := hr.un; omega
def OddsOk (os : List (Int × Int)) (wn : Nat) : Prop := os.length = wn ∧ os.length ≤ 1000 ∧ (∀ r ∈ os, 1 ≤ r.2 ∧ Nat.gcd r.1.natAbs r.2.natAbs = 1 ∧ 0 ≤ r.1 ∧ Sml r.1) ∧ ∃ r ∈ os, r ≠ (0, 1)
theorem any_some {α : Type} {xs : List α} {t : α → Bool} (h : ∃ x ∈ xs, t x = true) : (xs.map t).any id = true := by
  obtain ⟨x, hx, e⟩ := h
  exact List.any_eq_true.mpr ⟨t x, List.mem_map.mpr ⟨x, hx, rfl⟩, e⟩
theorem any_none {α : Type} {xs : List α} {t : α → Bool} (h : ∀ x ∈ xs, t x = false) : (xs.map t).any id = false := by
  rw [List.any_eq_false]
  intro b hb
  obtain ⟨x, hx, e⟩ := List.mem_map.mp hb
  rw [← e, h x hx]; decide
section
variable {P : Program} {w : World} {K : PySem.W.Frag} {mg : Str → Option Value} {base : Heap} {f : Addr} {fd : FuncData}
theorem fx_r (r : Int × Int) : depD 1 (Datum.toD r) ∧ th K (fixD (Datum.toD r)) = rT K r := by
  refine ⟨⟨(by show 2 ≤ 1000; decide), fun x hx => ?_⟩, rfl⟩
  have hx : x ∈ [PyData.int r.1, PyData.int r.2] := hx
  simp at hx
  rcases hx with rfl | rfl <;> exact trivial
abbrev st_are_odds : Stmt := top 43
theorem sc_are_odds : Scp ["value", "worlds", "one"] ["value", "worlds"] st_are_odds := ⟨rfl, rfl, rfl, by decide +kernel, rfl, by decide +kernel, by decide +kernel⟩
def fAreOdds (K : PySem.W.Frag) : PFn := fun Rs R => ∃ (os : List (Int × Int)) (m : Nat), Rs = [oddT K os, nT m] ∧ OddsOk os m ∧ R = bT true
theorem kn_are_odds (F : Fun K "are_odds" "are_odds" st_are_odds f fd) (hm : mg "are_odds" = some (.ref f)) (hb : Binds K fd ["value", "worlds"] []) (h1 : Blt mg "len") (h2 : Blt mg "all") (h3 : Blt mg "any") (g1 : GT K mg "ZERO" (rT K (0, 1)))
    (k1 : Kn P w K mg base 1 "is_listed" (spP 1 (fIsListed K))) (k2 : Kn P w K mg base 2 "is_ratio" (spP 1 (fIsRatio K))) (k3 : Kn P w K mg base 1 "less" (spP 2 (fLess K))) (k4 : Kn P w K mg base 2 "fixed" (spP 1 (fFixed K 1))) :
    Kn P w K mg base 3 "are_odds" (spP 2 (fAreOdds K)) := by
  refine kn_pure F hm hb sc_are_odds rfl fun cdv A outer s H E Rs R hr h => ?_
  obtain ⟨os, m, rfl, ⟨l1, l2, ok, r0, hr0, ne0⟩, rfl⟩ := h
  refine lb_cons <| l1_if <| lt_ww <| lw_or <| lt_not <| lt_val <| le_call k1 hr (by decide) <| la_cons <| le_var (i := 0) rfl <| la_nil ⟨_, .inl ⟨_, rfl, ⟨_, .inr rfl⟩, rfl⟩, rfl, true, rfl, ?_⟩
  refine lw_or <| lt_cmp op_ne <| le_cb call_len_seq h1 (by decide +kernel) <| la_cons <| le_var (i := 0) rfl <| la_nil <| rc_len (.inr rfl) <| le_var (i := 1) rfl <| lr_ne rfl ⟨_, rfl, ?_⟩
  rw [List.length_map, l1, decide_eq_true rfl]
  refine lw_or1 <| lt_not <| lt_val <| le_cb (cr_all rfl) h2 (by decide +kernel) <| la_cons <| le_lc (own := [("one", 2)]) (li_lst (le_var (i := 0) rfl ⟨_, rfl, ?_⟩)) (bk (by decide +kernel)) sc_are_odds.nd
  refine lc_map os (rT K) (fun _ => bT true) (by omega) (fun x hx => ?_) ?_
  · intro s H C cl fp
    refine lg_name (i := 2) ?_ sc_are_odds.nd
    intro s H C cl fp
    exact le_call k2 hr (by decide) <| la_cons <| le_var (i := 2) rfl <| la_nil ⟨_, ⟨x, rfl, (ok x hx).1, (ok x hx).2.1, rfl⟩, rfl, rfl, rfl⟩
  · refine la_nil ?_
    rw [alls_true (g := fun _ => bT true) (fun _ _ => rfl)]
    refine rc_all ⟨_, rfl, ?_⟩
    rw [all_true]
    refine lb_nil <| lb_cons <| l1_ret <| le_and <| le_not <| le_cb (cr_any rfl) h3 (by decide +kernel) <| la_cons <| le_lc (own := [("one", 2)]) (li_lst (le_var (i := 0) rfl ⟨_, rfl, ?_⟩)) (bk (by decide +kernel)) sc_are_odds.nd
    refine lc_map os (rT K) (fun r => bT (decide (r.1 * 1 < 0 * r.2))) (by omega) (fun x hx => ?_) ?_
    · intro s H C cl fp
      refine lg_name (i := 2) ?_ sc_are_odds.nd
      intro s H C cl fp
      refine le_call k3 hr (by decide) <| la_cons <| le_call k4 hr (by decide) <| la_cons <| le_var (i := 2) rfl <| la_nil ⟨_, ⟨_, rfl, (fx_r (K := K) x).1, rfl⟩, rfl, ?_⟩
      rw [(fx_r (K := K) x).2]
      exact la_cons <| le_gt g1 <| la_nil ⟨_, ⟨x, (0, 1), rfl, (ok x hx).2.2.2, (by decide), rfl⟩, rfl, rfl, rfl⟩
    · refine la_nil ?_
      have e : (os.map fun r => bT (decide (r.1 * 1 < 0 * r.2))) = (os.map fun r => decide (r.1 * 1 < 0 * r.2)).map fun b => vl (.bl b) := by rw [List.map_map]; rfl
      rw [e]
      refine rc_any ⟨_, rfl, ?_⟩
      rw [any_none fun r hr => decide_eq_false (by have := (ok r hr).2.2.1; omega)]
      refine ⟨_, rfl, ?_⟩
      refine le_one <| le_cb (cr_any rfl) h3 (by decide +kernel) <| la_cons <| le_lc (own := [("one", 2)]) (li_lst (le_var (i := 0) rfl ⟨_, rfl, ?_⟩)) (bk (by decide +kernel)) sc_are_odds.nd
      refine lc_map os (rT K) (fun r => bT (!decide (r = (0, 1)))) (by omega) (fun x hx => ?_) ?_
      · intro s H C cl fp
        refine lg_name (i := 2) ?_ sc_are_odds.nd
        intro s H C cl fp
        refine le_cmp (op_neD (ru hr)) <| le_call k4 hr (by decide) <| la_cons <| le_var (i := 2) rfl <| la_nil ⟨_, ⟨_, rfl, (fx_r (K := K) x).1, rfl⟩, rfl, ?_⟩
        rw [(fx_r (K := K) x).2]
        exact le_gt g1 <| lr_neT (x := x) (y := ((0, 1) : Int × Int)) ⟨rfl, rfl⟩
      · refine la_nil ?_
        have e : (os.map fun r => bT (!decide (r = (0, 1)))) = (os.map fun r => !decide (r = (0, 1))).map fun b => vl (.bl b) := by rw [List.map_map]; rfl
        rw [e]
        refine rc_any ?_
        rw [any_some ⟨r0, hr0, by rw [decide_eq_false ne0]; rfl⟩]

abbrev st_is_outcome : Stmt := top 44
theorem sc_is_outcome : Scp ["value", "many", "worlds"] ["value", "many", "worlds"] st_is_outcome := ⟨rfl, rfl, rfl, by decide +kernel, rfl, by decide +kernel, by decide +kernel⟩
def fIsOutcome (K : PySem.W.Frag) : PFn := fun Rs R => ∃ (o : Nat × List (Int × Int)) (m wn : Nat), Rs = [outT K o, nT m, nT wn] ∧ o.1 < m ∧ OddsOk o.2 wn ∧ R = bT true
theorem kn_is_outcome (F : Fun K "is_outcome" "is_outcome" st_is_outcome f fd) (hm : mg "is_outcome" = some (.ref f)) (hb : Binds K fd ["value", "many", "worlds"] []) (k1 : Kn P w K mg base 2 "is_pair" (spP 1 (fIsPair K))) (k2 : Kn P w K mg base 2 "is_within" (spP 3 (fIsWithin K))) (k3 : Kn P w K mg base 3 "are_odds" (spP 2 (fAreOdds K))) :
    Kn P w K mg base 4 "is_outcome" (spP 3 (fIsOutcome K)) := by
  refine kn_pure F hm hb sc_is_outcome rfl fun cdv A outer s H E Rs R hr h => ?_
  obtain ⟨⟨t, os⟩, m, wn, rfl, h1, h2, rfl⟩ := h
  refine lb_cons <| l1_ret <| le_and <| le_call k1 hr (by decide) <| la_cons <| le_var (i := 0) rfl <| la_nil ⟨_, ⟨_, _, _, rfl, .inl rfl, rfl⟩, rfl, true, rfl, ?_⟩
  refine le_and <| le_call k2 hr (by decide) <| la_cons <| le_ix <| le_var (i := 0) rfl <| le_int ⟨_, _, _, .inl rfl, rfl, rfl, la_cons <| le_int <| la_cons <| le_bin op_sub <| le_var (i := 1) rfl <| le_int <| lr_I0 <| la_nil ⟨_, .inl ⟨(t : Int), 0, (m : Int) - 1, rfl, rfl⟩, rfl, _, rfl, ?_⟩⟩
  have h1 : t < m := h1
  rw [decide_eq_true (show (0 : Int) ≤ (t : Int) by omega), decide_eq_true (show (t : Int) ≤ (m : Int) - 1 by omega)]
  exact le_one <| le_call k3 hr (by decide) <| la_cons <| le_ix <| le_var (i := 0) rfl <| le_int ⟨_, _, _, .inl rfl, rfl, rfl, la_cons <| le_var (i := 2) rfl <| la_nil ⟨_, ⟨os, wn, rfl, h2, rfl⟩, rfl, rfl⟩⟩

abbrev st_are_outcomes : Stmt := top 45
theorem sc_are_outcomes : Scp ["value", "many", "worlds", "one", "world"] ["value", "many", "worlds"] st_are_outcomes := ⟨rfl, rfl, rfl, by decide +kernel, rfl, by decide +kernel, by decide +kernel⟩
/-- what a world has of some outcomes -/
def colF (os : List (Nat × List (Int × Int))) (j : Nat) : List (Int × Int) := os.map fun o => o.2.getD j (0, 1)
def OutsOk (os : List (Nat × List (Int × Int))) (m wn : Nat) : Prop := 1 ≤ os.length ∧ os.length ≤ 6 ∧ wn ≤ 1000 ∧ (∀ o ∈ os, o.1 < m ∧ OddsOk o.2 wn) ∧ ∀ j, j < wn → totOK (0, 1) (colF os j) = true ∧ totF (0, 1) (colF os j) = (1, 1)
def fAreOutcomes (K : PySem.W.Frag) : PFn := fun Rs R => ∃ (os : List (Nat × List (Int × Int))) (m wn : Nat), Rs = [outsT K os, nT m, nT wn] ∧ OutsOk os m wn ∧ R = bT true
theorem kn_are_outcomes (F : Fun K "are_outcomes" "are_outcomes" st_are_outcomes f fd) (hm : mg "are_outcomes" = some (.ref f)) (hb : Binds K fd ["value", "many", "worlds"] []) (h1 : Blt mg "len") (h2 : Blt mg "all") (h3 : Blt mg "range") (c1 : Cst mg "MOST_OUTCOMES" (.int 6)) (g1 : GT K mg "ONE" (rT K (1, 1)))
    (k1 : Kn P w K mg base 1 "is_listed" (spP 1 (fIsListed K))) (k2 : Kn P w K mg base 4 "is_outcome" (spP 3 (fIsOutcome K))) (k3 : Kn P w K mg base 1 "total" (spP 1 (fTotal K))) (k4 : Kn P w K mg base 2 "fixed" (spP 1 (fFixed K 1))) :
    Kn P w K mg base 5 "are_outcomes" (spP 3 (fAreOutcomes K)) := by
  refine kn_pure F hm hb sc_are_outcomes rfl fun cdv A outer s H E Rs R hr h => ?_
  obtain ⟨os, m, wn, rfl, ⟨l1, l2, l3, ok, tt⟩, rfl⟩ := h
  refine lb_cons <| l1_if <| lt_ww <| lw_or <| lt_not <| lt_val <| le_call k1 hr (by decide) <| la_cons <| le_var (i := 0) rfl <| la_nil ⟨_, .inl ⟨_, rfl, ⟨_, .inr rfl⟩, rfl⟩, rfl, true, rfl, ?_⟩
  refine lw_or1 <| lt_not <| lt_chain op_le op_le <| le_int <| le_cb call_len_seq h1 (by decide +kernel) <| la_cons <| le_var (i := 0) rfl <| la_nil <| rc_len (.inr rfl) <| lr_I0 ⟨_, rfl, ?_⟩
  rw [List.length_map, decide_eq_true (show (1 : Int) ≤ (os.length : Int) by omega)]
  refine le_cst c1 <| lr_I0 ⟨_, rfl, ?_⟩
  rw [decide_eq_true (show (os.length : Int) ≤ 6 by omega)]
  refine lb_nil <| lb_cons <| l1_if <| lt_not <| lt_val <| le_cb (cr_all rfl) h2 (by decide +kernel) <| la_cons <| le_lc (own := [("one", 3)]) (li_lst (le_var (i := 0) rfl ⟨_, rfl, ?_⟩)) (bk (by decide +kernel)) sc_are_outcomes.nd
  refine lc_map os (outT K) (fun _ => bT true) (by omega) (fun x hx => ?_) ?_
  · intro s H C cl fp
    refine lg_name (i := 3) ?_ sc_are_outcomes.nd
    intro s H C cl fp
    exact le_call k2 hr (by decide) <| la_cons <| le_var (i := 3) rfl <| la_cons <| le_var (i := 1) rfl <| la_cons <| le_var (i := 2) rfl <| la_nil ⟨_, ⟨x, m, wn, rfl, (ok x hx).1, (ok x hx).2, rfl⟩, rfl, rfl, rfl⟩
  · refine la_nil ?_
    rw [alls_true (g := fun _ => bT true) (fun _ _ => rfl)]
    refine rc_all ⟨_, rfl, ?_⟩
    rw [all_true]
    refine lb_nil <| lb_cons <| l1_ret <| le_cb (cr_all rfl) h2 (by decide +kernel) <| la_cons <| le_lc (own := [("world", 4)]) (li_range1 h3 (la_cons (le_var (i := 2) rfl (la_nil ⟨_, rfl, by omega, by omega, ?_⟩)))) (bk (by decide +kernel)) sc_are_outcomes.nd
    rw [Int.toNat_natCast]
    refine lc_map (List.range wn) _ (fun i => bT true) (by rw [List.length_range]; omega) (fun j hj => ?_) ?_
    · have hj := List.mem_range.mp hj
      intro s H C cl fp
      refine lg_name (i := 4) ?_ sc_are_outcomes.nd
      intro s H C cl fp
      refine le_cmp (op_eqD (ru hr)) <| le_call k3 hr (by decide) <| la_cons <| le_lc (own := [("one", 3)]) (li_lst (le_var (i := 0) rfl ⟨_, rfl, ?_⟩)) (bk2 (by decide +kernel)) sc_are_outcomes.nd
      refine lc_map os (outT K) (fun o => rT K (o.2.getD j (0, 1))) (by omega) (fun x hx => ?_) ?_
      · intro s H C cl fp
        refine lg_name (i := 3) ?_ sc_are_outcomes.nd
        intro s H C cl fp
        have hl : x.2.length = wn := (ok x hx).2.1
        have e : atI (x.2.map (rT K)) ((0 : Int) + (j : Int)) = some (rT K (x.2.getD j (0, 1))) := by
          rw [Int.zero_add]
          refine atI_nat ?_
          rw [List.getElem?_map, List.getElem?_eq_getElem (by omega), List.getD_eq_getElem?_getD, List.getElem?_eq_getElem (by omega)]; rfl
        refine le_call k4 hr (by decide) <| la_cons <| le_ix <| le_ix <| le_var (i := 3) rfl <| le_int ⟨_, _, _, .inl rfl, rfl, rfl, le_var (i := 4) rfl ⟨_, _, _, .inr rfl, rfl, e, la_nil ⟨_, ⟨_, rfl, (fx_r (K := K) _).1, rfl⟩, rfl, ?_⟩⟩⟩
        exact ⟨(fx_r (K := K) _).2, rfl⟩
      · refine la_nil ⟨_, ⟨colF os j, ?_, (tt j hj).1, rfl⟩, rfl, ?_⟩
        · unfold colF; rw [List.map_map]; rfl
        · rw [(tt j hj).2]
          exact le_gt g1 <| lr_eqT (x := ((1, 1) : Int × Int)) (y := ((1, 1) : Int × Int)) ⟨rfl, rfl⟩
    · refine la_nil ?_
      rw [alls_true (g := fun _ => bT true) (fun _ _ => rfl)]
      refine rc_all ?_
      rw [all_true]
end
end DL
set_option Elab.async false
set_option linter.all false
set_option maxRecDepth 100000
set_option maxHeartbeats 4000000
namespace DL
open PySem PySem.Spec L2
open PyProof.Rows hiding St
open PySem.W (Datum Tup)
def RowOk (m wn : Nat) : Row → Prop
  | .mine as => ActsOk as m
  | .foe as => ActsOk as m
  | .luck os => OutsOk os m wn
  | .fin => True
section
variable {P : Program} {w : World} {K : PySem.W.Frag} {mg : Str → Option Value} {base : Heap} {f : Addr} {fd : FuncData}
abbrev st_is_row : Stmt := top 46
theorem sc_is_row : Scp ["value", "many", "worlds"] ["value", "many", "worlds"] st_is_row := ⟨rfl, rfl, rfl, by decide +kernel, rfl, by decide +kernel, by decide +kernel⟩
def fIsRow (K : PySem.W.Frag) : PFn := fun Rs R => ∃ (r : Row) (m wn : Nat), Rs = [rowT K r, nT m, nT wn] ∧ RowOk m wn r ∧ R = bT true
theorem kn_is_row (F : Fun K "is_row" "is_row" st_is_row f fd) (hm : mg "is_row" = some (.ref f)) (hb : Binds K fd ["value", "many", "worlds"] []) (h1 : Blt mg "len") (h2 : Blt mg "isinstance") (h3 : Blt mg "str") (c1 : Cst mg "END" (.str "end")) (c2 : Cst mg "LUCK" (.str "luck")) (c3 : Cst mg "MINE" (.str "mine")) (c4 : Cst mg "FOE" (.str "foe"))
    (k1 : Kn P w K mg base 1 "is_listed" (spP 1 (fIsListed K))) (k2 : Kn P w K mg base 5 "are_outcomes" (spP 3 (fAreOutcomes K))) (k3 : Kn P w K mg base 4 "are_acts" (spP 2 (fAreActs K))) :
    Kn P w K mg base 6 "is_row" (spP 3 (fIsRow K)) := by
  refine kn_pure F hm hb sc_is_row rfl fun cdv A outer s H E Rs R hr h => ?_
  obtain ⟨r, m, wn, rfl, ok, rfl⟩ := h
  have main : ∀ x Ts, rowT K r = tupT K (sT x :: Ts) → (decide ((Ts.length : Int) + 1 = 0) = false) →
      LB (bx P w K mg base ["value", "many", "worlds"] "is_row" st_is_row f cdv A outer s H E) none (defBody st_is_row).tail ⟨start0 ["value", "many", "worlds"] [tupT K (sT x :: Ts), nT m, nT wn], 0⟩ { nx := fun _ => vl .non = bT true, rt := fun R' _ => R' = bT true } →
      LB (bx P w K mg base ["value", "many", "worlds"] "is_row" st_is_row f cdv A outer s H E) none (defBody st_is_row) ⟨start0 ["value", "many", "worlds"] [rowT K r, nT m, nT wn], 0⟩ { nx := fun _ => vl .non = bT true, rt := fun R' _ => R' = bT true } := by
    intro x Ts e hz q
    rw [e]
    refine lb_cons <| l1_if <| lt_ww <| lw_or <| lt_not <| lt_val <| le_call k1 hr (by decide) <| la_cons <| le_var (i := 0) rfl <| la_nil ⟨_, .inl ⟨_, rfl, ⟨_, .inl rfl⟩, rfl⟩, rfl, true, rfl, ?_⟩
    refine lw_or <| lt_cmp op_eq <| le_cb call_len_seq h1 (by decide +kernel) <| la_cons <| le_var (i := 0) rfl <| la_nil <| rc_len (.inl rfl) <| le_int <| lr_eq rfl ⟨_, rfl, ?_⟩
    have e0 : decide (V.int (((sT x :: Ts).length : Nat) : Int) = V.int 0) = false := by
      refine decide_eq_false fun z => ?_
      injection z with z
      rw [List.length_cons] at z
      omega
    rw [e0]
    refine lw_or1 <| lt_not <| lt_val <| le_isi (T := "str") h2 h3 (by decide +kernel) <| le_ix <| le_var (i := 0) rfl <| le_int ⟨_, _, sT x, .inl rfl, rfl, atI_nat (j := 0) rfl, "str", true, ty_str, by decide +kernel, true, rfl, ?_⟩
    exact lb_nil q
  have no : ∀ Ts : List Th, decide ((Ts.length : Int) + 1 = 0) = false := fun Ts => decide_eq_false (by omega)
  have acts : ∀ as x, (x = "mine" ∨ x = "foe") → ActsOk as m → LB (bx P w K mg base ["value", "many", "worlds"] "is_row" st_is_row f cdv A outer s H E) none (defBody st_is_row).tail ⟨start0 ["value", "many", "worlds"] [tupT K [sT x, actsT K as], nT m, nT wn], 0⟩ { nx := fun _ => vl .non = bT true, rt := fun R' _ => R' = bT true } := by
    intro as x hx ok
    have f1 : decide (V.str x = V.str "end") = false := by rcases hx with rfl | rfl <;> decide
    have f2 : decide (V.str x = V.str "luck") = false := by rcases hx with rfl | rfl <;> decide
    have f3 : inV (.str x) [V.str "mine", V.str "foe"] = true := by rcases hx with rfl | rfl <;> decide
    refine lb_cons <| l1_if <| lt_cmp op_eq <| le_ix <| le_var (i := 0) rfl <| le_int ⟨_, _, _, .inl rfl, rfl, rfl, le_cst c1 <| lr_eq rfl ⟨_, rfl, ?_⟩⟩
    rw [f1]
    refine lb_nil <| lb_cons <| l1_if <| lt_cmp op_ne <| le_cb call_len_seq h1 (by decide +kernel) <| la_cons <| le_var (i := 0) rfl <| la_nil <| rc_len (.inl rfl) <| le_int <| lr_ne rfl ⟨_, rfl, lb_nil <| lb_cons ?_⟩
    refine l1_if <| lt_cmp op_eq <| le_ix <| le_var (i := 0) rfl <| le_int ⟨_, _, _, .inl rfl, rfl, rfl, le_cst c2 <| lr_eq rfl ⟨_, rfl, ?_⟩⟩
    rw [f2]
    refine lb_nil <| lb_cons <| l1_ret <| le_and <| le_cmp op_in_seq <| le_ix <| le_var (i := 0) rfl <| le_int ⟨_, _, _, .inl rfl, rfl, rfl, le_tup <| la_cons <| le_cst c3 <| la_cons <| le_cst c4 <| la_nil ⟨zl (n := 2), ?_⟩⟩
    refine lr_in (ys := [.str "mine", .str "foe"]) (.inl rfl) rfl rfl ⟨_, rfl, ?_⟩
    rw [f3]
    exact le_one <| le_call k3 hr (by decide) <| la_cons <| le_ix <| le_var (i := 0) rfl <| le_int ⟨_, _, _, .inl rfl, rfl, rfl, la_cons <| le_var (i := 1) rfl <| la_nil ⟨_, ⟨as, m, rfl, ok, rfl⟩, rfl, rfl⟩⟩
  cases r with
  | mine as => exact main "mine" [actsT K as] rfl (no _) (acts as "mine" (.inl rfl) ok)
  | foe as => exact main "foe" [actsT K as] rfl (no _) (acts as "foe" (.inr rfl) ok)
  | fin =>
    refine main "end" [] rfl (no _) ?_
    refine lb_cons <| l1_if <| lt_cmp op_eq <| le_ix <| le_var (i := 0) rfl <| le_int ⟨_, _, _, .inl rfl, rfl, rfl, le_cst c1 <| lr_eq rfl ⟨_, rfl, ?_⟩⟩
    refine lb_cons <| l1_ret <| le_cmp op_eq <| le_cb call_len_seq h1 (by decide +kernel) <| la_cons <| le_var (i := 0) rfl <| la_nil <| rc_len (.inl rfl) <| le_int <| lr_eq rfl rfl
  | luck os =>
    refine main "luck" [outsT K os] rfl (no _) ?_
    refine lb_cons <| l1_if <| lt_cmp op_eq <| le_ix <| le_var (i := 0) rfl <| le_int ⟨_, _, _, .inl rfl, rfl, rfl, le_cst c1 <| lr_eq rfl ⟨_, rfl, ?_⟩⟩
    refine lb_nil <| lb_cons <| l1_if <| lt_cmp op_ne <| le_cb call_len_seq h1 (by decide +kernel) <| la_cons <| le_var (i := 0) rfl <| la_nil <| rc_len (.inl rfl) <| le_int <| lr_ne rfl ⟨_, rfl, lb_nil <| lb_cons ?_⟩
    refine l1_if <| lt_cmp op_eq <| le_ix <| le_var (i := 0) rfl <| le_int ⟨_, _, _, .inl rfl, rfl, rfl, le_cst c2 <| lr_eq rfl ⟨_, rfl, ?_⟩⟩
    exact lb_cons <| l1_ret <| le_call k2 hr (by decide) <| la_cons <| le_ix <| le_var (i := 0) rfl <| le_int ⟨_, _, _, .inl rfl, rfl, rfl, la_cons <| le_var (i := 1) rfl <| la_cons <| le_var (i := 2) rfl <| la_nil ⟨_, ⟨os, m, wn, rfl, ok, rfl⟩, rfl, rfl⟩⟩

abbrev st_are_states : Stmt := top 48
theorem sc_are_states : Scp ["value", "many", "one"] ["value", "many"] st_are_states := ⟨rfl, rfl, rfl, by decide +kernel, rfl, by decide +kernel, by decide +kernel⟩
def fAreStates (K : PySem.W.Frag) : PFn := fun Rs R => ∃ i m : Nat, Rs = [lstT [nT i], nT m] ∧ i < m ∧ R = bT true
theorem kn_are_states (F : Fun K "are_states" "are_states" st_are_states f fd) (hm : mg "are_states" = some (.ref f)) (hb : Binds K fd ["value", "many"] []) (h2 : Blt mg "all") (k1 : Kn P w K mg base 1 "is_listed" (spP 1 (fIsListed K))) (k2 : Kn P w K mg base 2 "is_within" (spP 3 (fIsWithin K))) (k3 : Kn P w K mg base 1 "ascends" (spP 1 (fAscends K))) :
    Kn P w K mg base 3 "are_states" (spP 2 (fAreStates K)) := by
  refine kn_pure F hm hb sc_are_states rfl fun cdv A outer s H E Rs R hr h => ?_
  obtain ⟨i, m, rfl, lt, rfl⟩ := h
  refine lb_cons <| l1_ret <| le_and <| le_call k1 hr (by decide) <| la_cons <| le_var (i := 0) rfl <| la_nil ⟨_, .inl ⟨_, rfl, ⟨_, .inr rfl⟩, rfl⟩, rfl, true, rfl, ?_⟩
  refine le_and <| le_cb (cr_all rfl) h2 (by decide +kernel) <| la_cons <| le_lc (own := [("one", 2)]) (li_lst (le_var (i := 0) rfl ⟨_, rfl, ?_⟩)) (bk (by decide +kernel)) sc_are_states.nd
  refine lc_map [i] nT (fun _ => bT true) (by show 1 ≤ 100000; decide) (fun x hx => ?_) ?_
  · intro s H C cl fp
    refine lg_name (i := 2) ?_ sc_are_states.nd
    intro s H C cl fp
    refine le_call k2 hr (by decide) <| la_cons <| le_var (i := 2) rfl <| la_cons <| le_int <| la_cons <| le_bin op_sub <| le_var (i := 1) rfl <| le_int <| lr_I0 <| la_nil ⟨_, .inl ⟨(x : Int), 0, (m : Int) - 1, rfl, rfl⟩, rfl, ?_, rfl⟩
    cases List.mem_singleton.mp hx
    rw [decide_eq_true (show (0 : Int) ≤ (i : Int) by omega), decide_eq_true (show (i : Int) ≤ (m : Int) - 1 by omega)]
    rfl
  · refine la_nil ?_
    show LRC _ _ _ [lstT ([true].map fun b => vl (.bl b))] _ _
    refine rc_all ⟨true, rfl, ?_⟩
    exact le_one <| le_call k3 hr (by decide) <| la_cons <| le_var (i := 0) rfl <| la_nil ⟨_, ⟨_, [(i : Int)], rfl, .inr rfl, (by show 1 ≤ 1000; decide), rfl⟩, rfl, rfl⟩

abbrev st_are_marks : Stmt := top 47
theorem sc_are_marks : Scp ["value", "many", "one"] ["value", "many"] st_are_marks := ⟨rfl, rfl, rfl, by decide +kernel, rfl, by decide +kernel, by decide +kernel⟩
/-- the marks of the law's yards: at most one goal -/
abbrev markT (K : PySem.W.Frag) (i : Nat) : Th := tupT K [sT "goal", lstT [nT i]]
def fAreMarks (K : PySem.W.Frag) : PFn := fun Rs R => ∃ (R0 : Th) (gs : List Nat) (m : Nat), Rs = [R0, nT m] ∧ SeqT K R0 (gs.map (markT K)) ∧ gs.length ≤ 1 ∧ (∀ g ∈ gs, g < m) ∧ R = bT true
theorem li_varS {X : Cx} {pn : Option Addr} {tg : Expr} {p : Pos} {S : LSt} {Q : List Th → LSt → Prop} {i : Nat} {x : Str} {R : Th} {Rs : List Th} (hr : S.ρ[i]? = some (some (.sh R))) (sq : SeqT X.K R Rs) (q : Q Rs S) (hN : X.N[i]? = some x := by rfl) (hv : Vis X.env.scope x := by first | exact Or.inl rfl | exact Or.inr (Or.inl rfl) | exact Or.inr (Or.inr rfl))
    (hd : (x == ("__debug__" : Str)) = false := by decide) (hcd : (x == ("__classdict__" : Str)) = false := by decide) : LI X pn tg (.Name x p) S Q := by
  rcases sq with rfl | rfl
  · exact li_tup (le_var hr ⟨_, rfl, q⟩ hN hv hd hcd)
  · exact li_lst (le_var hr ⟨_, rfl, q⟩ hN hv hd hcd)
theorem kn_are_marks (F : Fun K "are_marks" "are_marks" st_are_marks f fd) (hm : mg "are_marks" = some (.ref f)) (hb : Binds K fd ["value", "many"] []) (h1 : Blt mg "len") (h2 : Blt mg "all") (c1 : Cst mg "MOST_MARKS" (.int 6)) (k1 : Kn P w K mg base 1 "is_listed" (spP 1 (fIsListed K))) (k2 : Kn P w K mg base 2 "is_pair" (spP 1 (fIsPair K)))
    (k3 : Kn P w K mg base 1 "is_name" (spP 1 fIsName)) (k4 : Kn P w K mg base 1 "are_unlike" (spP 1 fAreUnlike)) (k5 : Kn P w K mg base 3 "are_states" (spP 2 (fAreStates K))) :
    Kn P w K mg base 4 "are_marks" (spP 2 (fAreMarks K)) := by
  refine kn_pure F hm hb sc_are_marks rfl fun cdv A outer s H E Rs R hr h => ?_
  obtain ⟨R0, gs, m, rfl, sq, hl, ok, rfl⟩ := h
  refine lb_cons <| l1_if <| lt_ww <| lw_or <| lt_not <| lt_val <| le_call k1 hr (by decide) <| la_cons <| le_var (i := 0) rfl <| la_nil ⟨_, .inl ⟨_, rfl, ⟨_, sq⟩, rfl⟩, rfl, true, rfl, ?_⟩
  refine lw_or <| lt_cmp op_gt <| le_cb call_len_seq h1 (by decide +kernel) <| la_cons <| le_var (i := 0) rfl <| la_nil <| rc_len sq <| le_cst c1 <| lr_I0 ⟨_, rfl, ?_⟩
  rw [List.length_map, decide_eq_false (show ¬ ((6 : Int) < (gs.length : Int)) by omega)]
  refine lw_or1 <| lt_not <| lt_val <| le_cb (cr_all rfl) h2 (by decide +kernel) <| la_cons <| le_lc (own := [("one", 2)]) (li_varS (i := 0) rfl sq ?_) (bk (by decide +kernel)) sc_are_marks.nd
  refine lc_map gs (markT K) (fun _ => bT true) (by omega) (fun x hx => ?_) ?_
  · intro s H C cl fp
    refine lg_name (i := 2) ?_ sc_are_marks.nd
    intro s H C cl fp
    refine le_and <| le_call k2 hr (by decide) <| la_cons <| le_var (i := 2) rfl <| la_nil ⟨_, ⟨_, _, _, rfl, .inl rfl, rfl⟩, rfl, true, rfl, ?_⟩
    exact le_one <| le_call k3 hr (by decide) <| la_cons <| le_ix <| le_var (i := 2) rfl <| le_int ⟨_, _, _, .inl rfl, rfl, rfl, la_nil ⟨_, ⟨"goal", rfl, by decide, rfl⟩, rfl, rfl, rfl⟩⟩
  · refine la_nil ?_
    rw [alls_true (g := fun _ => bT true) (fun _ _ => rfl)]
    refine rc_all ⟨_, rfl, ?_⟩
    rw [all_true]
    refine lb_nil <| lb_cons <| l1_if <| lt_not <| lt_val <| le_call k4 hr (by decide) <| la_cons <| le_lc (own := [("one", 2)]) (li_varS (i := 0) rfl sq ?_) (bk (by decide +kernel)) sc_are_marks.nd
    refine lc_map gs (markT K) (fun _ => sT "goal") (by omega) (fun x hx => ?_) ?_
    · intro s H C cl fp
      refine lg_name (i := 2) ?_ sc_are_marks.nd
      intro s H C cl fp
      exact le_ix <| le_var (i := 2) rfl <| le_int ⟨_, _, _, .inl rfl, rfl, rfl, rfl, rfl⟩
    · refine la_nil ⟨_, ⟨gs.map fun _ => "goal", ?_, ?_, ?_, rfl⟩, rfl, true, rfl, ?_⟩
      · rw [List.map_map]; rfl
      · match gs, hl with
        | [], _ => exact List.nodup_nil
        | [g], _ => exact (List.nodup_cons.mpr ⟨List.not_mem_nil, List.nodup_nil⟩)
        | _ :: _ :: _, h => exact absurd h (by simp)
      · rw [List.length_map]; omega
      · refine lb_nil <| lb_cons <| l1_ret <| le_cb (cr_all rfl) h2 (by decide +kernel) <| la_cons <| le_lc (own := [("one", 2)]) (li_varS (i := 0) rfl sq ?_) (bk (by decide +kernel)) sc_are_marks.nd
        refine lc_map gs (markT K) (fun _ => bT true) (by omega) (fun x hx => ?_) ?_
        · intro s H C cl fp
          refine lg_name (i := 2) ?_ sc_are_marks.nd
          intro s H C cl fp
          exact le_call k5 hr (by decide) <| la_cons <| le_ix <| le_var (i := 2) rfl <| le_int ⟨_, _, _, .inl rfl, rfl, rfl, la_cons <| le_var (i := 1) rfl <| la_nil ⟨_, ⟨x, m, rfl, ok x hx, rfl⟩, rfl, rfl, rfl⟩⟩
        · refine la_nil ?_
          rw [alls_true (g := fun _ => bT true) (fun _ _ => rfl)]
          refine rc_all ?_
          rw [all_true]
end
end DL
set_option Elab.async false
set_option linter.all false
set_option maxRecDepth 100000
set_option maxHeartbeats 4000000
namespace DL
open PySem PySem.Spec L2
open PyProof.Rows hiding St
open PySem.W (Datum Tup)
section
variable {X : Cx} {pn : Option Addr} {a : Expr} {pos : Pos} {S : LSt} {PB : Bool → LSt → Prop}
theorem lt_isN {j : Nat} {pos' : Pos} (h : LE X pn a S fun R S1 => ∃ n : Bool, (∀ H v, R.p H v → decide (v = V.non) = n) ∧ PB n S1) : LT X pn (.Compare a [.Is] [.Constant .none j pos'] pos) S PB := by
  intro B Hs σ H o Q k
  refine wt_of (pt_cmp (pc_isN pe_we)) (h B Hs σ H o _ fun R S1 x Hs1 H1 h1 o1 e1 r1 => ?_)
  obtain ⟨n, hn, q⟩ := h1
  rw [hn _ _ r1]
  exact ⟨n, rfl, k n S1 Hs1 H1 q o1 e1⟩
theorem lt_notN {j : Nat} {pos' : Pos} (h : LE X pn a S fun R S1 => ∃ n : Bool, (∀ H v, R.p H v → decide (v = V.non) = n) ∧ PB (!n) S1) : LT X pn (.Compare a [.IsNot] [.Constant .none j pos'] pos) S PB := by
  intro B Hs σ H o Q k
  refine wt_of (pt_cmp (pc_notN pe_we)) (h B Hs σ H o _ fun R S1 x Hs1 H1 h1 o1 e1 r1 => ?_)
  obtain ⟨n, hn, q⟩ := h1
  rw [hn _ _ r1]
  exact ⟨!n, rfl, k (!n) S1 Hs1 H1 q o1 e1⟩
theorem nN_non : ∀ (H : Hp) v, (vl .non).p H v → decide (v = V.non) = true := fun _ v h => by cases (show v = _ from h); rfl
theorem nN_tup {K : PySem.W.Frag} {Rs : List Th} : ∀ (H : Hp) v, (tupT K Rs).p H v → decide (v = V.non) = false := fun _ v h => by
  obtain ⟨a, vs, rfl, _⟩ := h
  exact decide_eq_false fun z => by cases z
theorem nN_obj {C : Addr} {fs : List (Str × Th)} : ∀ (H : Hp) v, (objT C fs).p H v → decide (v = V.non) = false := fun _ v h => by
  obtain ⟨a, dx, vs, rfl, _⟩ := h
  exact decide_eq_false fun z => by cases z
end
/-! ### what fixed makes of a row -/
def actD (a : Str × Nat) : PyData := .tuple [.str a.1, .int a.2]
def oddD (r : Int × Int) : PyData := .tuple [.int r.1, .int r.2]
def outD (o : Nat × List (Int × Int)) : PyData := .tuple [.int o.1, .list (o.2.map oddD)]
def rowD : Row → PyData
  | .mine as => .tuple [.str "mine", .list (as.map actD)]
  | .foe as => .tuple [.str "foe", .list (as.map actD)]
  | .luck os => .tuple [.str "luck", .list (os.map outD)]
  | .fin => .tuple [.str "end"]
abbrev outF (K : PySem.W.Frag) (o : Nat × List (Int × Int)) : Th := tupT K [nT o.1, tupT K (o.2.map (rT K))]
def rowF (K : PySem.W.Frag) : Row → Th
  | .mine as => tupT K [sT "mine", tupT K (as.map (actT K))]
  | .foe as => tupT K [sT "foe", tupT K (as.map (actT K))]
  | .luck os => tupT K [sT "luck", tupT K (os.map (outF K))]
  | .fin => tupT K [sT "end"]
section
variable {K : PySem.W.Frag}
theorem ths_acts (as : List (Str × Nat)) : ths K (as.map actD) = as.map (actT K) := by
  rw [ths_map, List.map_map]; rfl
theorem ths_odds (os : List (Int × Int)) : ths K (os.map oddD) = os.map (rT K) := by
  rw [ths_map, List.map_map]; rfl
theorem th_out (o : Nat × List (Int × Int)) : th K (outD o) = outT K o := by
  show tupT K [nT o.1, lstT (ths K (o.2.map oddD))] = _
  rw [ths_odds]
theorem th_row : ∀ r : Row, th K (rowD r) = rowT K r
  | .mine as => by show tupT K [sT "mine", lstT (ths K (as.map actD))] = _; rw [ths_acts]; rfl
  | .foe as => by show tupT K [sT "foe", lstT (ths K (as.map actD))] = _; rw [ths_acts]; rfl
  | .luck os => by
    show tupT K [sT "luck", lstT (ths K (os.map outD))] = _
    rw [ths_map, List.map_map, show (th K ∘ outD) = outT K from funext th_out]; rfl
  | .fin => rfl
theorem fxs_acts (as : List (Str × Nat)) : ths K (fixDs (as.map actD)) = as.map (actT K) := by
  rw [ths_map, fixDs_map, List.map_map, List.map_map]; rfl
theorem fxs_odds (os : List (Int × Int)) : ths K (fixDs (os.map oddD)) = os.map (rT K) := by
  rw [ths_map, fixDs_map, List.map_map, List.map_map]; rfl
theorem fx_out (o : Nat × List (Int × Int)) : th K (fixD (outD o)) = outF K o := by
  show tupT K [nT o.1, tupT K (ths K (fixDs (o.2.map oddD)))] = _
  rw [fxs_odds]
theorem fx_row : ∀ r : Row, th K (fixD (rowD r)) = rowF K r
  | .mine as => by show tupT K [sT "mine", tupT K (ths K (fixDs (as.map actD)))] = _; rw [fxs_acts]; rfl
  | .foe as => by show tupT K [sT "foe", tupT K (ths K (fixDs (as.map actD)))] = _; rw [fxs_acts]; rfl
  | .luck os => by
    show tupT K [sT "luck", tupT K (ths K (fixDs (os.map outD)))] = _
    rw [ths_map, fixDs_map, List.map_map, List.map_map, show ((th K ∘ fixD) ∘ outD) = outF K from funext fx_out]; rfl
  | .fin => rfl
theorem dep_two {n : Nat} {a b : PyData} (h1 : depD n a) (h2 : depD n b) : depD (n + 1) (.tuple [a, b]) := by
  refine ⟨(by show 2 ≤ 1000; decide), fun x hx => ?_⟩
  have hx : x ∈ [a, b] := hx
  simp at hx
  rcases hx with rfl | rfl
  · exact h1
  · exact h2
theorem dep_flat {n : Nat} {d : PyData} (h : depD 0 d) : depD n d := by
  cases n with
  | zero => exact h
  | succ n => cases d <;> first | exact trivial | exact False.elim h
theorem dep_act (a : Str × Nat) : depD 1 (actD a) := dep_two trivial trivial
theorem dep_odd (a : Int × Int) : depD 1 (oddD a) := dep_two trivial trivial
theorem dep_lst {n : Nat} {α : Type} {xs : List α} {g : α → PyData} (hl : xs.length ≤ 1000) (h : ∀ x ∈ xs, depD n (g x)) : depD (n + 1) (.list (xs.map g)) := by
  refine ⟨by rw [List.length_map]; exact hl, fun d hd => ?_⟩
  obtain ⟨x, hx, rfl⟩ := List.mem_map.mp hd
  exact h x hx
theorem dep_mono : ∀ {d : PyData} {n : Nat}, depD n d → depD (n + 1) d
  | .none, _, _ => trivial
  | .bool _, _, _ => trivial
  | .int _, _, _ => trivial
  | .str _, _, _ => trivial
  | .dict _, n, h => by cases n <;> exact False.elim h
  | .list xs, 0, h => False.elim h
  | .tuple xs, 0, h => False.elim h
  | .list xs, n + 1, h => ⟨h.1, fun x hx => dep_mono (h.2 x hx)⟩
  | .tuple xs, n + 1, h => ⟨h.1, fun x hx => dep_mono (h.2 x hx)⟩
theorem dep_row {m wn : Nat} : ∀ r : Row, RowOk m wn r → depD 5 (rowD r)
  | .mine as, h => dep_two trivial (dep_lst (by have := h.2.1; omega) fun a _ => dep_mono (dep_mono (dep_act a)))
  | .foe as, h => dep_two trivial (dep_lst (by have := h.2.1; omega) fun a _ => dep_mono (dep_mono (dep_act a)))
  | .luck os, h => dep_two trivial (dep_lst (by have := h.2.1; omega) fun o ho => dep_two trivial (dep_lst (h.2.2.2.1 o ho).2.2.1 fun a _ => dep_odd a))
  | .fin, _ => ⟨(by show 1 ≤ 1000; decide), fun x hx => by have hx : x ∈ [PyData.str "end"] := hx; simp at hx; subst hx; exact trivial⟩
end
/-! ### yards -/
structure YardD where
  ws : List Str
  rows : List Row
  start : Nat
  gs : List Nat
structure YardOk (y : YardD) : Prop where
  nd : y.ws.Nodup
  nm : ∀ x ∈ y.ws, nameOk x = true
  w1 : 1 ≤ y.ws.length
  w2 : y.ws.length ≤ 4
  r1 : 2 ≤ y.rows.length
  r2 : y.rows.length ≤ 400
  ro : ∀ r ∈ y.rows, RowOk y.rows.length y.ws.length r
  st : y.start < y.rows.length
  g1 : y.gs.length ≤ 1
  g2 : ∀ g ∈ y.gs, g < y.rows.length
def gD (i : Nat) : PyData := .tuple [.str "goal", .list [.int i]]
abbrev markF (K : PySem.W.Frag) (i : Nat) : Th := tupT K [sT "goal", tupT K [nT i]]
def yardF (K : PySem.W.Frag) (y : YardD) : List (Str × Th) := [("worlds", tupT K (y.ws.map sT)), ("states", tupT K (y.rows.map (rowF K))), ("start", nT y.start), ("marks", tupT K (y.gs.map (markF K))), ("pays", tupT K (List.replicate y.rows.length (iT 0)))]
def fYard (K : PySem.W.Frag) : IFn := fun Rs fs => ∃ (y : YardD) (R4 : Th), Rs = [lstT (y.ws.map sT), lstT (y.rows.map (rowT K)), nT y.start, R4, vl .non] ∧ SeqT K R4 (y.gs.map (markT K)) ∧ YardOk y ∧ fs = yardF K y
/-- a class as an __init__ of its own needs it -/
structure YC (K : PySem.W.Frag) (C : Addr) : Prop where
  c : Cls K C
  n1 : NoAttr K C "worlds"
  n2 : NoAttr K C "states"
  n3 : NoAttr K C "start"
  n4 : NoAttr K C "marks"
  n5 : NoAttr K C "pays"
def inCls : Stmt → List Stmt
  | .ClassDef (body := b) .. => b
  | _ => []
def meth (i j : Nat) : Stmt := (inCls (top i)).getD j (.Pass ⟨0, 0, 0, 0⟩)
abbrev st_init : Stmt := meth 50 0
abbrev yN : List Str := ["self", "worlds", "states", "start", "marks", "pays", "many", "row"]
theorem sc_init : Scp yN ["self", "worlds", "states", "start", "marks", "pays"] st_init := ⟨rfl, rfl, rfl, by decide +kernel, rfl, by decide +kernel, by decide +kernel⟩
section
variable {P : Program} {w : World} {K : PySem.W.Frag} {mg : Str → Option Value} {base : Heap} {f C : Addr} {fd : FuncData} {dvs : List V} {kws : List (Str × V)}
theorem depth_strs (xs : List Str) (h : xs.length ≤ 1000) : depD 6 (.list (xs.map PyData.str)) := dep_lst h fun _ _ => trivial
theorem shs_of {ρ : List (Option Ent)} {n : Nat} (h : ∀ (i : Nat) O, ρ[i]? ≠ some (some (.ow O))) : Shs ⟨ρ, n⟩ := h
theorem kn_yard (F : FunD K "__init__" "Yard.__init__" (defArgs st_init) (defBody st_init) (defScope st_init) dvs kws f fd) (yc : YC K C) (h1 : Blt mg "len") (h2 : Blt mg "all") (h3 : Blt mg "tuple") (h4 : Blt mg "sorted") (c1 : Cst mg "MOST_WORLDS" (.int 4)) (c2 : Cst mg "MOST_STATES" (.int 400))
    (k1 : Kn P w K mg base 2 "are_names" (spP 2 fAreNames)) (k2 : Kn P w K mg base 1 "is_listed" (spP 1 (fIsListed K))) (k3 : Kn P w K mg base 6 "is_row" (spP 3 (fIsRow K))) (k4 : Kn P w K mg base 2 "is_within" (spP 3 (fIsWithin K))) (k5 : Kn P w K mg base 4 "are_marks" (spP 2 (fAreMarks K))) (k6 : Kn P w K mg base 7 "fixed" (spP 1 (fFixed K 6))) :
    FnOk P w K mg base (L2.CX P w) 8 f fd ["self", "worlds", "states", "start", "marks", "pays"] (spI C 5 (fYard K)) := by
  refine fn_init F sc_init rfl fun cdv A outer s H E Rs fs x hr h => ?_
  obtain ⟨y, R4, rfl, sq, ok, rfl⟩ := h
  refine lbi_st <| l1_if <| lt_not <| lt_val <| le_call k1 hr (by decide) <| la_cons <| le_var (i := 1) rfl <| la_cons <| le_cst c1 <| la_nil ⟨_, ⟨y.ws, 4, rfl, ok.nd, ok.nm, ok.w1, by have := ok.w2; omega, by have := ok.w2; omega, rfl⟩, rfl, true, rfl, ?_⟩
  have sh0 : Shs ⟨start0 yN [vl (.ref x), lstT (y.ws.map sT), lstT (y.rows.map (rowT K)), nT y.start, R4, vl .non], 0⟩ := by
    intro i O
    match i with
    | 0 | 1 | 2 | 3 | 4 | 5 | 6 | 7 => intro z; cases z
    | _ + 8 => intro z; cases z
  refine lb_nil ⟨sh0, ?_⟩
  refine lbi_st <| l1_if <| lt_ww <| lw_or <| lt_not <| lt_val <| le_call k2 hr (by decide) <| la_cons <| le_var (i := 2) rfl <| la_nil ⟨_, .inl ⟨_, rfl, ⟨_, .inr rfl⟩, rfl⟩, rfl, true, rfl, ?_⟩
  refine lw_or1 <| lt_not <| lt_chain op_le op_le <| le_int <| le_cb call_len_seq h1 (by decide +kernel) <| la_cons <| le_var (i := 2) rfl <| la_nil <| rc_len (.inr rfl) <| lr_I0 ⟨_, rfl, ?_⟩
  rw [List.length_map, decide_eq_true (show (1 : Int) ≤ (y.rows.length : Int) by have := ok.r1; omega)]
  refine le_cst c2 <| lr_I0 ⟨_, rfl, ?_⟩
  rw [decide_eq_true (show (y.rows.length : Int) ≤ 400 by have := ok.r2; omega)]
  refine lb_nil ⟨sh0, ?_⟩
  refine lbi_st <| l1_set (i := 6) (le_cb call_len_seq h1 (by decide +kernel) <| la_cons <| le_var (i := 2) rfl <| la_nil <| rc_len (.inr rfl) ?_) sc_init.nd
  rw [List.length_map]
  have sh1 : Shs ⟨[some (.sh (vl (.ref x))), some (.sh (lstT (y.ws.map sT))), some (.sh (lstT (y.rows.map (rowT K)))), some (.sh (nT y.start)), some (.sh R4), some (.sh (vl .non)), some (.sh (nT y.rows.length)), none], 0⟩ := by
    intro i O
    match i with
    | 0 | 1 | 2 | 3 | 4 | 5 | 6 | 7 => intro z; cases z
    | _ + 8 => intro z; cases z
  refine ⟨sh1, ?_⟩
  refine lbi_st <| l1_if <| lt_not <| lt_val <| le_cb (cr_all rfl) h2 (by decide +kernel) <| la_cons <| le_lc (own := [("row", 7)]) (li_lst (le_var (i := 2) rfl ⟨_, rfl, ?_⟩)) (bk (by decide +kernel)) sc_init.nd
  refine lc_map y.rows (rowT K) (fun _ => bT true) (by have := ok.r2; omega) (fun r hm => ?_) ?_
  · intro s H C cl fp
    refine lg_name (i := 7) ?_ sc_init.nd
    intro s H C cl fp
    refine le_call k3 hr (by decide) <| la_cons <| le_var (i := 7) rfl <| la_cons <| le_var (i := 6) rfl <| la_cons <| le_cb call_len_seq h1 (by decide +kernel) <| la_cons <| le_var (i := 1) rfl <| la_nil <| rc_len (.inr rfl) <| la_nil ⟨bT true, ⟨r, y.rows.length, y.ws.length, ?_, ok.ro r hm, rfl⟩, rfl, rfl, rfl⟩
    rw [List.length_map]
  · refine la_nil ?_
    rw [alls_true (g := fun _ => bT true) (fun _ _ => rfl)]
    refine rc_all ⟨_, rfl, ?_⟩
    rw [all_true]
    refine lb_nil ⟨sh1, ?_⟩
    refine lbi_st <| l1_if <| lt_not <| lt_val <| le_call k4 hr (by decide) <| la_cons <| le_var (i := 3) rfl <| la_cons <| le_int <| la_cons <| le_bin op_sub <| le_var (i := 6) rfl <| le_int <| lr_I0 <| la_nil ⟨_, .inl ⟨(y.start : Int), 0, (y.rows.length : Int) - 1, rfl, rfl⟩, rfl, _, rfl, ?_⟩
    rw [decide_eq_true (show (0 : Int) ≤ (y.start : Int) by omega), decide_eq_true (show (y.start : Int) ≤ (y.rows.length : Int) - 1 by have := ok.st; omega)]
    refine lb_nil ⟨sh1, ?_⟩
    refine lbi_st <| l1_if <| lt_not <| lt_val <| le_call k5 hr (by decide) <| la_cons <| le_var (i := 4) rfl <| la_cons <| le_var (i := 6) rfl <| la_nil ⟨_, ⟨R4, y.gs, y.rows.length, rfl, sq, ok.g1, ok.g2, rfl⟩, rfl, true, rfl, lb_nil ⟨sh1, ?_⟩⟩
    refine lbi_st <| l1_if <| lt_ww <| lw_and <| lt_notN <| le_var (i := 5) rfl ⟨true, nN_non, lb_nil ⟨sh1, ?_⟩⟩
    refine lbi_fld 0 (le_call k6 hr (by decide) <| la_cons <| le_var (i := 1) rfl <| la_nil ⟨tupT K (y.ws.map sT), ⟨.list (y.ws.map PyData.str), ?_, depth_strs _ (by have := ok.w2; omega), ?_⟩, rfl, rfl, yc.c, yc.n1, by decide, by decide, sh1, ?_⟩)
    · show [lstT (y.ws.map sT)] = [lstT (ths K (y.ws.map PyData.str))]
      rw [ths_map, List.map_map]; rfl
    · show tupT K (y.ws.map sT) = tupT K (ths K (fixDs (y.ws.map PyData.str)))
      rw [ths_map, fixDs_map, List.map_map, List.map_map]; rfl
    refine lbi_fld 0 (le_call k6 hr (by decide) <| la_cons <| le_var (i := 2) rfl <| la_nil ⟨tupT K (y.rows.map (rowF K)), ⟨.list (y.rows.map rowD), ?_, dep_lst (by have := ok.r2; omega) fun r hm => dep_row r (ok.ro r hm), ?_⟩, rfl, rfl, yc.c, yc.n2, (show ("states" : Str) ∉ ([("worlds" : Str)] : List Str) by decide), (by show 1 < 1000; decide), sh1, ?_⟩)
    · show [lstT (y.rows.map (rowT K))] = [lstT (ths K (y.rows.map rowD))]
      rw [ths_map, List.map_map, show (th K ∘ rowD) = rowT K from funext th_row]
    · show tupT K (y.rows.map (rowF K)) = tupT K (ths K (fixDs (y.rows.map rowD)))
      rw [ths_map, fixDs_map, List.map_map, List.map_map, show ((th K ∘ fixD) ∘ rowD) = rowF K from funext fx_row]
    refine lbi_fld 0 (le_var (i := 3) rfl ⟨rfl, yc.c, yc.n3, (show ("start" : Str) ∉ ([("worlds" : Str), ("states" : Str)] : List Str) by decide), (by show 2 < 1000; decide), sh1, ?_⟩)
    have fm : ∀ (d : PyData), (d = .list (y.gs.map gD) ∨ d = .tuple (y.gs.map gD)) → depD 6 d ∧ th K (fixD d) = tupT K (y.gs.map (markF K)) := by
      have dm : ∀ x ∈ (y.gs.map gD), depD 5 x := fun x hx => by
        obtain ⟨i, _, rfl⟩ := List.mem_map.mp hx
        exact dep_two trivial (dep_lst (xs := [i]) (g := fun i => PyData.int i) (by show 1 ≤ 1000; decide) fun _ _ => trivial)
      have e : ths K (fixDs (y.gs.map gD)) = y.gs.map (markF K) := by
        rw [ths_map, fixDs_map, List.map_map, List.map_map]; rfl
      have hl : (y.gs.map gD).length ≤ 1000 := by rw [List.length_map]; have := ok.g1; omega
      rintro d (rfl | rfl)
      · exact ⟨⟨hl, dm⟩, congrArg (tupT K) e⟩
      · exact ⟨⟨hl, dm⟩, congrArg (tupT K) e⟩
    have em : ths K (y.gs.map gD) = y.gs.map (markT K) := by
      rw [ths_map, List.map_map]; rfl
    refine lbi_fld 0 (le_ct call_tuple_of h3 (by decide +kernel) <| la_cons <| le_cb call_sortedT1 h4 (by decide +kernel) <| la_cons <| le_call k6 hr (by decide) <| la_cons <| le_var (i := 4) rfl <| la_nil ⟨tupT K (y.gs.map (markF K)), ?_, rfl, la_nil (rc_sortedT1 (by rw [List.length_map]; exact ok.g1) (la_nil (rc_tuple (.inr rfl) ⟨rfl, yc.c, yc.n4, (show ("marks" : Str) ∉ ([("worlds" : Str), ("states" : Str), ("start" : Str)] : List Str) by decide), (by show 3 < 1000; decide), sh1, ?_⟩)))⟩)
    · rcases sq with rfl | rfl
      · exact ⟨.tuple (y.gs.map gD), congrArg (fun z => [tupT K z]) em.symm, (fm _ (.inr rfl)).1, (fm _ (.inr rfl)).2.symm⟩
      · exact ⟨.list (y.gs.map gD), congrArg (fun z => [lstT z]) em.symm, (fm _ (.inl rfl)).1, (fm _ (.inl rfl)).2.symm⟩
    refine lbi_fld 0 (le_if <| lt_isN <| le_var (i := 5) rfl ⟨true, nN_non, ?_⟩)
    refine le_repT <| le_tup <| la_cons <| le_int <| la_nil ⟨zl (n := 1), le_var (i := 6) rfl ⟨[iT 0], _, rfl, rfl, ⟨by have := ok.r1; omega, by have := ok.r2; omega, (by show 1 ≤ 1000; decide), by simp⟩, ?_⟩⟩
    refine ⟨rfl, yc.c, yc.n5, (show ("pays" : Str) ∉ ([("worlds" : Str), ("states" : Str), ("start" : Str), ("marks" : Str)] : List Str) by decide), (by show 4 < 1000; decide), sh1, ?_⟩
    have e : (List.replicate (y.rows.length : Int).toNat [iT 0]).flatten = List.replicate y.rows.length (iT 0) := by
      rw [Int.toNat_natCast]
      induction y.rows.length with
      | zero => rfl
      | succ n ih => rw [List.replicate_succ, List.replicate_succ, List.flatten_cons, ih]; rfl
    rw [e]
    exact lbi_nil
end
end DL
set_option Elab.async false
set_option linter.all false
set_option maxRecDepth 100000
set_option maxHeartbeats 4000000
namespace DL
open PySem PySem.Spec L2
open PyProof.Rows hiding St
open PySem.W (Datum Tup)
def kindS : Row → Str
  | .mine _ => "mine"
  | .foe _ => "foe"
  | .luck _ => "luck"
  | .fin => "end"
def actsOf : Row → List (Str × Nat)
  | .mine as => as
  | .foe as => as
  | _ => []
def outsOf : Row → List (Nat × List (Int × Int))
  | .luck os => os
  | _ => []
abbrev yT (K : PySem.W.Frag) (C : Addr) (y : YardD) : Th := objT C (yardF K y)
theorem row0 (K : PySem.W.Frag) : ∀ r : Row, ∃ Ts, rowF K r = tupT K (sT (kindS r) :: Ts)
  | .mine _ => ⟨_, rfl⟩
  | .foe _ => ⟨_, rfl⟩
  | .luck _ => ⟨_, rfl⟩
  | .fin => ⟨_, rfl⟩
theorem at0 {R : Th} {Rs : List Th} : atI (R :: Rs) 0 = some R := atI_nat (j := 0) rfl
theorem atRow {K : PySem.W.Frag} {rs : List Row} {s : Nat} {r : Row} (h : rs[s]? = some r) : atI (rs.map (rowF K)) (s : Int) = some (rowF K r) := atI_nat (by rw [List.getElem?_map, h]; rfl)
section
variable {P : Program} {w : World} {K : PySem.W.Frag} {mg : Str → Option Value} {base : Heap} {f C : Addr} {fd : FuncData}
theorem kn_meth {m qual : Str} {st : Stmt} {N ps : List Str} {n k : Nat} {F : PFn} (Fd : Fun K m qual st f fd) (hc : Cls K C) (hm : Meth K C m f) (hb : Binds K fd ps []) (S : FnScope N ps (defScope st)) (hps : ps.length = n)
    (body : ∀ (cdv : Value) (A : Around) (outer : List Env) (s : Shared) (H : Hp) (E : XK) Rs R, Room k (A.deeper (envOfC qual (defScope st) s.heap.objs.size f cdv)) → F Rs R →
      LB (bx P w K mg base N qual st f cdv A outer s H E) none (defBody st) ⟨start0 N Rs, 0⟩ { nx := fun _ => vl .non = R, rt := fun R' _ => R' = R }) : KnM P w K mg base (k + 1) C m (spP n F) :=
  ⟨f, fd, ps, fn_pure Fd S hps body, hc, hm, hb⟩
abbrev st_kind : Stmt := meth 50 2
theorem sc_kind : Scp ["self", "state"] ["self", "state"] st_kind := ⟨rfl, rfl, rfl, by decide +kernel, rfl, by decide +kernel, by decide +kernel⟩
def fKind (K : PySem.W.Frag) (C : Addr) : PFn := fun Rs R => ∃ (y : YardD) (s : Nat) (r : Row), Rs = [yT K C y, nT s] ∧ y.rows[s]? = some r ∧ R = sT (kindS r)
theorem kn_kind (F : Fun K "kind" "Yard.kind" st_kind f fd) (yc : YC K C) (hm : Meth K C "kind" f) (hb : Binds K fd ["self", "state"] []) : KnM P w K mg base 1 C "kind" (spP 2 (fKind K C)) := by
  refine kn_meth F yc.c hm hb sc_kind rfl fun cdv A outer s H E Rs R hr h => ?_
  obtain ⟨y, s, r, rfl, hr, rfl⟩ := h
  obtain ⟨Ts, e⟩ := row0 K r
  exact lb_cons <| l1_ret <| le_ix <| le_ix <| le_fld <| le_var (i := 0) rfl ⟨_, _, _, rfl, yc.c, yc.n2, rfl, le_var (i := 1) rfl ⟨_, _, _, .inl rfl, rfl, atRow hr, le_int ⟨_, _, _, .inl e, rfl, at0, rfl⟩⟩⟩
abbrev st_acts : Stmt := meth 50 3
theorem sc_acts : Scp ["self", "state"] ["self", "state"] st_acts := ⟨rfl, rfl, rfl, by decide +kernel, rfl, by decide +kernel, by decide +kernel⟩
def fActs (K : PySem.W.Frag) (C : Addr) : PFn := fun Rs R => ∃ (y : YardD) (s : Nat) (r : Row), Rs = [yT K C y, nT s] ∧ y.rows[s]? = some r ∧ R = tupT K ((actsOf r).map (actT K))
theorem kn_acts (F : Fun K "acts" "Yard.acts" st_acts f fd) (yc : YC K C) (hm : Meth K C "acts" f) (hb : Binds K fd ["self", "state"] []) (c3 : Cst mg "MINE" (.str "mine")) (c4 : Cst mg "FOE" (.str "foe")) : KnM P w K mg base 1 C "acts" (spP 2 (fActs K C)) := by
  refine kn_meth F yc.c hm hb sc_acts rfl fun cdv A outer s H E Rs R hr h => ?_
  obtain ⟨y, s, r, rfl, hr, rfl⟩ := h
  obtain ⟨Ts, e⟩ := row0 K r
  refine lb_cons <| l1_ret <| le_if <| lt_cmp op_in_seq <| le_ix <| le_ix <| le_fld <| le_var (i := 0) rfl ⟨_, _, _, rfl, yc.c, yc.n2, rfl, le_var (i := 1) rfl ⟨_, _, _, .inl rfl, rfl, atRow hr, le_int ⟨_, _, _, .inl e, rfl, at0, ?_⟩⟩⟩
  refine le_tup <| la_cons <| le_cst c3 <| la_cons <| le_cst c4 <| la_nil ⟨zl (n := 2), lr_in (ys := [.str "mine", .str "foe"]) (.inl rfl) rfl rfl ⟨_, rfl, ?_⟩⟩
  cases r with
  | mine as =>
    rw [show inV (.str (kindS (.mine as))) [V.str "mine", V.str "foe"] = true from (by decide : inV (.str "mine") [V.str "mine", V.str "foe"] = true)]
    exact le_ix <| le_ix <| le_fld <| le_var (i := 0) rfl ⟨_, _, _, rfl, yc.c, yc.n2, rfl, le_var (i := 1) rfl ⟨_, _, _, .inl rfl, rfl, atRow hr, le_int ⟨_, _, _, .inl rfl, rfl, rfl, rfl⟩⟩⟩
  | foe as =>
    rw [show inV (.str (kindS (.foe as))) [V.str "mine", V.str "foe"] = true from (by decide : inV (.str "foe") [V.str "mine", V.str "foe"] = true)]
    exact le_ix <| le_ix <| le_fld <| le_var (i := 0) rfl ⟨_, _, _, rfl, yc.c, yc.n2, rfl, le_var (i := 1) rfl ⟨_, _, _, .inl rfl, rfl, atRow hr, le_int ⟨_, _, _, .inl rfl, rfl, rfl, rfl⟩⟩⟩
  | luck os =>
    rw [show inV (.str (kindS (.luck os))) [V.str "mine", V.str "foe"] = false from (by decide : inV (.str "luck") [V.str "mine", V.str "foe"] = false)]
    exact le_tup <| la_nil ⟨zl (n := 0), rfl⟩
  | fin =>
    rw [show inV (.str (kindS .fin)) [V.str "mine", V.str "foe"] = false from by decide]
    exact le_tup <| la_nil ⟨zl (n := 0), rfl⟩
abbrev st_outcomes : Stmt := meth 50 4
theorem sc_outcomes : Scp ["self", "state"] ["self", "state"] st_outcomes := ⟨rfl, rfl, rfl, by decide +kernel, rfl, by decide +kernel, by decide +kernel⟩
def fOutcomes (K : PySem.W.Frag) (C : Addr) : PFn := fun Rs R => ∃ (y : YardD) (s : Nat) (r : Row), Rs = [yT K C y, nT s] ∧ y.rows[s]? = some r ∧ R = tupT K ((outsOf r).map (outF K))
theorem kn_outcomes (F : Fun K "outcomes" "Yard.outcomes" st_outcomes f fd) (yc : YC K C) (hm : Meth K C "outcomes" f) (hb : Binds K fd ["self", "state"] []) (c2 : Cst mg "LUCK" (.str "luck")) : KnM P w K mg base 1 C "outcomes" (spP 2 (fOutcomes K C)) := by
  refine kn_meth F yc.c hm hb sc_outcomes rfl fun cdv A outer s H E Rs R hr h => ?_
  obtain ⟨y, s, r, rfl, hr, rfl⟩ := h
  obtain ⟨Ts, e⟩ := row0 K r
  refine lb_cons <| l1_ret <| le_if <| lt_cmp op_eq <| le_ix <| le_ix <| le_fld <| le_var (i := 0) rfl ⟨_, _, _, rfl, yc.c, yc.n2, rfl, le_var (i := 1) rfl ⟨_, _, _, .inl rfl, rfl, atRow hr, le_int ⟨_, _, _, .inl e, rfl, at0, le_cst c2 <| lr_eq rfl ⟨_, rfl, ?_⟩⟩⟩⟩
  cases r with
  | luck os =>
    rw [show decide (V.str (kindS (.luck os)) = V.str "luck") = true from (by decide : decide (V.str "luck" = V.str "luck") = true)]
    exact le_ix <| le_ix <| le_fld <| le_var (i := 0) rfl ⟨_, _, _, rfl, yc.c, yc.n2, rfl, le_var (i := 1) rfl ⟨_, _, _, .inl rfl, rfl, atRow hr, le_int ⟨_, _, _, .inl rfl, rfl, rfl, rfl⟩⟩⟩
  | mine as =>
    rw [show decide (V.str (kindS (.mine as)) = V.str "luck") = false from (by decide : decide (V.str "mine" = V.str "luck") = false)]
    exact le_tup <| la_nil ⟨zl (n := 0), rfl⟩
  | foe as =>
    rw [show decide (V.str (kindS (.foe as)) = V.str "luck") = false from (by decide : decide (V.str "foe" = V.str "luck") = false)]
    exact le_tup <| la_nil ⟨zl (n := 0), rfl⟩
  | fin =>
    rw [show decide (V.str (kindS .fin) = V.str "luck") = false from by decide]
    exact le_tup <| la_nil ⟨zl (n := 0), rfl⟩

abbrev st_need_yard : Stmt := top 51
theorem sc_need_yard : Scp ["value"] ["value"] st_need_yard := ⟨rfl, rfl, rfl, by decide +kernel, rfl, by decide +kernel, by decide +kernel⟩
def fNeedYard (K : PySem.W.Frag) (C : Addr) : PFn := fun Rs R => ∃ y : YardD, Rs = [yT K C y] ∧ R = vl .non
theorem kn_need_yard (F : Fun K "need_yard" "need_yard" st_need_yard f fd) (hm : mg "need_yard" = some (.ref f)) (hb : Binds K fd ["value"] []) (h1 : Blt mg "isinstance") (hC : mg "Yard" = some (.ref C)) (ky : PySem.W.kitOne K (.ref C) (.ref C) = some true) (ic : IsiC K C) : Kn P w K mg base 1 "need_yard" (spP 1 (fNeedYard K C)) := by
  refine kn_pure F hm hb sc_need_yard rfl fun cdv A outer s H E Rs R hr h => ?_
  obtain ⟨y, rfl, rfl⟩ := h
  exact lb_cons <| l1_if <| lt_not <| lt_val <| le_isiC h1 hC <| le_var (i := 0) rfl ⟨_, true, ty_obj ic, ky, true, rfl, lb_nil <| lb_nil rfl⟩
abbrev st_need_state : Stmt := top 52
theorem sc_need_state : Scp ["yard", "value"] ["yard", "value"] st_need_state := ⟨rfl, rfl, rfl, by decide +kernel, rfl, by decide +kernel, by decide +kernel⟩
def fNeedState (K : PySem.W.Frag) (C : Addr) : PFn := fun Rs R => ∃ (y : YardD) (s : Nat), Rs = [yT K C y, nT s] ∧ s < y.rows.length ∧ R = vl .non
theorem kn_need_state (F : Fun K "need_state" "need_state" st_need_state f fd) (hm : mg "need_state" = some (.ref f)) (hb : Binds K fd ["yard", "value"] []) (yc : YC K C) (h1 : Blt mg "len") (k1 : Kn P w K mg base 1 "is_integer" (spP 1 (fIsInteger K))) : Kn P w K mg base 2 "need_state" (spP 2 (fNeedState K C)) := by
  refine kn_pure F hm hb sc_need_state rfl fun cdv A outer s H E Rs R hr h => ?_
  obtain ⟨y, n, rfl, hn, rfl⟩ := h
  refine lb_cons <| l1_if <| lt_ww <| lw_or <| lt_not <| lt_val <| le_call k1 hr (by decide) <| la_cons <| le_var (i := 1) rfl <| la_nil ⟨_, .inl ⟨(n : Int), rfl, rfl⟩, rfl, true, rfl, ?_⟩
  refine lw_or1 <| lt_not <| lt_chain op_le op_lt <| le_int <| le_var (i := 1) rfl <| lr_I0 ⟨_, rfl, ?_⟩
  rw [decide_eq_true (show (0 : Int) ≤ (n : Int) by omega)]
  refine le_cb call_len_seq h1 (by decide +kernel) <| la_cons <| le_fld <| le_var (i := 0) rfl ⟨_, _, _, rfl, yc.c, yc.n2, rfl, la_nil <| rc_len (.inl rfl) <| lr_I0 ⟨_, rfl, ?_⟩⟩
  rw [List.length_map, decide_eq_true (show (n : Int) < (y.rows.length : Int) by omega)]
  exact lb_nil <| lb_nil rfl
abbrev st_has_kind : Stmt := top 53
theorem sc_has_kind : Scp ["yard", "kind", "row"] ["yard", "kind"] st_has_kind := ⟨rfl, rfl, rfl, by decide +kernel, rfl, by decide +kernel, by decide +kernel⟩
def fHasKind (K : PySem.W.Frag) (C : Addr) : PFn := fun Rs R => ∃ (y : YardD) (x : Str), Rs = [yT K C y, sT x] ∧ y.rows.length ≤ 400 ∧ R = bT (y.rows.any fun r => decide (kindS r = x))
theorem kn_has_kind (F : Fun K "has_kind" "has_kind" st_has_kind f fd) (hm : mg "has_kind" = some (.ref f)) (hb : Binds K fd ["yard", "kind"] []) (yc : YC K C) (h1 : Blt mg "any") : Kn P w K mg base 1 "has_kind" (spP 2 (fHasKind K C)) := by
  refine kn_pure F hm hb sc_has_kind rfl fun cdv A outer s H E Rs R hr h => ?_
  obtain ⟨y, x, rfl, hl, rfl⟩ := h
  refine lb_cons <| l1_ret <| le_cb (cr_any rfl) h1 (by decide +kernel) <| la_cons <| le_lc (own := [("row", 2)]) (li_tup (le_fld <| le_var (i := 0) rfl ⟨_, _, _, rfl, yc.c, yc.n2, rfl, _, rfl, ?_⟩)) (bk (by decide +kernel)) sc_has_kind.nd
  refine lc_map y.rows (rowF K) (fun r => bT (decide (kindS r = x))) (by omega) (fun r hx => ?_) ?_
  · intro s H C cl fp
    refine lg_name (i := 2) ?_ sc_has_kind.nd
    intro s H C cl fp
    obtain ⟨Ts, e⟩ := row0 K r
    refine le_cmp op_eq <| le_ix <| le_var (i := 2) rfl <| le_int ⟨_, _, _, .inl e, rfl, at0, le_var (i := 1) rfl <| lr_eq rfl ⟨?_, rfl⟩⟩
    refine congrArg (fun b => bT b) (decide_eq_decide.mpr ⟨fun z => ?_, fun z => by rw [z]⟩)
    injection z
  · refine la_nil ?_
    have e : (y.rows.map fun r => bT (decide (kindS r = x))) = (y.rows.map fun r => decide (kindS r = x)).map fun b => vl (.bl b) := by rw [List.map_map]; rfl
    rw [e]
    refine rc_any ?_
    rw [List.any_map]
    rfl
end
end DL
set_option Elab.async false
set_option linter.all false
set_option maxRecDepth 100000
set_option maxHeartbeats 4000000
namespace DL
open PySem PySem.Spec L2
open PyProof.Rows hiding St
open PySem.W (Datum Tup)
abbrev kT (K : PySem.W.Frag) (ns : List Nat) : Th := tupT K (ns.map nT)
def upN : List Nat → Bool
  | x :: y :: r => decide (x < y) && upN (y :: r)
  | _ => true
theorem ascB_nat : ∀ ns : List Nat, ascB (ns.map fun (n : Nat) => (n : Int)) = upN ns
  | [] => rfl
  | [_] => rfl
  | x :: y :: r => by
    have ih := ascB_nat (y :: r)
    show (decide ((x : Int) < (y : Int)) && ascB ((y : Int) :: r.map fun (n : Nat) => (n : Int))) = _
    unfold upN
    rw [← ih]
    congr 1
    exact decide_eq_decide.mpr Int.ofNat_lt
theorem nts (ns : List Nat) : ns.map nT = (ns.map fun (n : Nat) => (n : Int)).map iT := by rw [List.map_map]; rfl
/-- knowledge that may be told -/
def KnOk (y : YardD) (ns : List Nat) : Prop := ns ≠ [] ∧ ns.length ≤ 1000 ∧ (∀ n ∈ ns, n < y.ws.length) ∧ upN ns = true
section
variable {P : Program} {w : World} {K : PySem.W.Frag} {mg : Str → Option Value} {base : Heap} {f C : Addr} {fd : FuncData}
theorem lc_mapE {X : Cx} {pn : Option Addr} {elt tg : Expr} {scope : Scope} {vs : List Nat} {S1 : LSt} {Q : Th → LSt → Prop} {α : Type} {Rs : List Th} {ds : List α} {g : α → Th} (e : Rs = ds.map g) (h : α → Th) (hz : ds.length ≤ 100000) (he : ∀ d ∈ ds, Blk X scope fun Y => LG Y pn vs tg ⟨wipeR S1.ρ vs, S1.n⟩ (g d) fun S2 => Blk X scope fun Y => LE Y pn elt S2 fun R' S3 => R' = h d ∧ S3.n = S1.n)
    (q : Q (lstT (ds.map h)) ⟨S1.ρ, S1.n⟩) : LCI X pn elt tg [] scope vs Q Rs S1 := by
  subst e
  exact lc_map ds g h hz he q
theorem lc_filE {X : Cx} {pn : Option Addr} {elt tg c : Expr} {scope : Scope} {vs : List Nat} {S1 : LSt} {Q : Th → LSt → Prop} {α : Type} {Rs : List Th} {ds : List α} {g : α → Th} (e : Rs = ds.map g) (h : α → Th) (t : α → Bool) (hz : ds.length ≤ 100000)
    (he : ∀ d ∈ ds, Blk X scope fun Y => LG Y pn vs tg ⟨wipeR S1.ρ vs, S1.n⟩ (g d) fun S2 => Blk X scope fun Y => LT Y pn c S2 fun b S3 => b = t d ∧ S3.n = S1.n ∧ (b = true → Blk X scope fun Y => LE Y pn elt S3 fun R' S4 => R' = h d ∧ S4.n = S1.n))
    (q : Q (lstT ((ds.filter t).map h)) ⟨S1.ρ, S1.n⟩) : LCI X pn elt tg [c] scope vs Q Rs S1 := by
  subst e
  exact lc_fil ds g h t hz he q
abbrev st_is_knowledge : Stmt := top 55
theorem sc_is_knowledge : Scp ["yard", "value", "one"] ["yard", "value"] st_is_knowledge := ⟨rfl, rfl, rfl, by decide +kernel, rfl, by decide +kernel, by decide +kernel⟩
def fIsKnowledge (K : PySem.W.Frag) (C : Addr) : PFn := fun Rs R => ∃ (y : YardD) (R1 : Th) (ns : List Nat), Rs = [yT K C y, R1] ∧ SeqT K R1 (ns.map nT) ∧ KnOk y ns ∧ R = bT true
theorem kn_is_knowledge (F : Fun K "is_knowledge" "is_knowledge" st_is_knowledge f fd) (hm : mg "is_knowledge" = some (.ref f)) (hb : Binds K fd ["yard", "value"] []) (yc : YC K C) (h1 : Blt mg "len") (h2 : Blt mg "all") (k1 : Kn P w K mg base 1 "is_listed" (spP 1 (fIsListed K))) (k2 : Kn P w K mg base 2 "is_within" (spP 3 (fIsWithin K))) (k3 : Kn P w K mg base 1 "ascends" (spP 1 (fAscends K))) :
    Kn P w K mg base 3 "is_knowledge" (spP 2 (fIsKnowledge K C)) := by
  refine kn_pure F hm hb sc_is_knowledge rfl fun cdv A outer s H E Rs R hr h => ?_
  obtain ⟨y, R1, ns, rfl, sq, ⟨g1, g2, g3, g4⟩, rfl⟩ := h
  refine lb_cons <| l1_if <| lt_ww <| lw_or <| lt_not <| lt_val <| le_call k1 hr (by decide) <| la_cons <| le_var (i := 1) rfl <| la_nil ⟨_, .inl ⟨_, rfl, ⟨_, sq⟩, rfl⟩, rfl, true, rfl, ?_⟩
  refine lw_or1 <| lt_cmp op_eq <| le_cb call_len_seq h1 (by decide +kernel) <| la_cons <| le_var (i := 1) rfl <| la_nil <| rc_len sq <| le_int <| lr_eq rfl ⟨_, rfl, ?_⟩
  have e0 : decide (V.int ((ns.map nT).length : Nat) = V.int 0) = false := decide_eq_false fun z => by
    injection z with z
    rw [List.length_map] at z
    exact g1 (List.length_eq_zero_iff.mp (by omega))
  rw [e0]
  refine lb_nil <| lb_cons <| l1_ret <| le_and <| le_cb (cr_all rfl) h2 (by decide +kernel) <| la_cons <| le_lc (own := [("one", 2)]) (li_varS (i := 1) rfl sq ?_) (bk (by decide +kernel)) sc_is_knowledge.nd
  refine lc_map ns nT (fun _ => bT true) (by omega) (fun n hn => ?_) ?_
  · intro s H C cl fp
    refine lg_name (i := 2) ?_ sc_is_knowledge.nd
    intro s H C cl fp
    refine le_call k2 hr (by decide) <| la_cons <| le_var (i := 2) rfl <| la_cons <| le_int <| la_cons <| le_bin op_sub <| le_cb call_len_seq h1 (by decide +kernel) <| la_cons <| le_fld <| le_var (i := 0) rfl ⟨_, _, _, rfl, yc.c, yc.n1, rfl, la_nil <| rc_len (.inl rfl) <| le_int <| lr_I0 <| la_nil ⟨_, .inl ⟨(n : Int), 0, (y.ws.length : Int) - 1, ?_, rfl⟩, rfl, ?_, rfl⟩⟩
    · rw [List.length_map]
    · rw [decide_eq_true (show (0 : Int) ≤ (n : Int) by omega), decide_eq_true (show (n : Int) ≤ (y.ws.length : Int) - 1 by have := g3 n hn; omega)]
      rfl
  · refine la_nil ?_
    rw [alls_true (g := fun _ => bT true) (fun _ _ => rfl)]
    refine rc_all ⟨_, rfl, ?_⟩
    rw [all_true]
    refine le_one <| le_call k3 hr (by decide) <| la_cons <| le_var (i := 1) rfl <| la_nil ⟨_, ⟨R1, ns.map fun (n : Nat) => (n : Int), rfl, by rw [← nts]; exact sq, by rw [List.length_map]; exact g2, rfl⟩, rfl, ?_⟩
    rw [ascB_nat, g4]

/-- those of some worlds that can have an outcome -/
def knF (o : List (Int × Int)) (ns : List Nat) : List Nat := ns.filter fun n => !decide (o.getD n (0, 1) = (0, 1))
abbrev st_known : Stmt := top 56
theorem sc_known : Scp ["yard", "state", "outcome", "knowledge", "odds", "world"] ["yard", "state", "outcome", "knowledge"] st_known := ⟨rfl, rfl, rfl, by decide +kernel, rfl, by decide +kernel, by decide +kernel⟩
def fKnown (K : PySem.W.Frag) (C : Addr) : PFn := fun Rs R => ∃ (y : YardD) (s j : Nat) (r : Row) (o : Nat × List (Int × Int)) (ns : List Nat), Rs = [yT K C y, nT s, nT j, kT K ns] ∧ y.rows[s]? = some r ∧ (outsOf r)[j]? = some o ∧ (∀ n ∈ ns, n < o.2.length) ∧ ns.length ≤ 1000 ∧ R = kT K (knF o.2 ns)
theorem at_odd {K : PySem.W.Frag} {os : List (Int × Int)} {n : Nat} (h : n < os.length) : atI (os.map (rT K)) (n : Int) = some (rT K (os.getD n (0, 1))) := atI_nat (by
  rw [List.getElem?_map, List.getElem?_eq_getElem h, List.getD_eq_getElem?_getD, List.getElem?_eq_getElem h]; rfl)
theorem kn_known (F : Fun K "known" "known" st_known f fd) (hm : mg "known" = some (.ref f)) (hb : Binds K fd ["yard", "state", "outcome", "knowledge"] []) (yc : YC K C) (h1 : Blt mg "tuple") (g1 : GT K mg "ZERO" (rT K (0, 1))) (k1 : KnM P w K mg base 1 C "outcomes" (spP 2 (fOutcomes K C))) :
    Kn P w K mg base 2 "known" (spP 4 (fKnown K C)) := by
  refine kn_pure F hm hb sc_known rfl fun cdv A outer s H E Rs R hr h => ?_
  obtain ⟨y, n, j, r, o, ns, rfl, e1, e2, e3, e4, rfl⟩ := h
  refine lb_cons <| l1_set (i := 4) (le_ix <| le_ix <| le_meth k1 hr (by decide) <| le_var (i := 0) rfl ⟨_, rfl, rfl, la_cons <| le_var (i := 1) rfl <| la_nil ⟨_, ⟨y, n, r, rfl, e1, rfl⟩, rfl, le_var (i := 2) rfl ⟨_, _, outF K o, .inl rfl, rfl, atI_nat (by rw [List.getElem?_map, e2]; rfl), le_int ⟨_, _, _, .inl rfl, rfl, rfl, ?_⟩⟩⟩⟩) sc_known.nd
  refine lb_cons <| l1_ret <| le_ct call_tuple_of h1 (by decide +kernel) <| la_cons <| le_lc (own := [("world", 5)]) (li_tup (le_var (i := 3) rfl ⟨_, rfl, ?_⟩)) (bk (by decide +kernel)) sc_known.nd
  refine lc_fil ns nT nT (fun n => !decide (o.2.getD n (0, 1) = (0, 1))) (by omega) (fun n hn => ?_) ?_
  · intro s H C cl fp
    refine lg_name (i := 5) ?_ sc_known.nd
    intro s H C cl fp
    refine lt_cmp (op_neD (ru hr)) <| le_ix <| le_var (i := 4) rfl <| le_var (i := 5) rfl ⟨_, _, _, .inl rfl, rfl, at_odd (e3 n hn), le_gt g1 <| lr_neT (x := o.2.getD n (0, 1)) (y := ((0, 1) : Int × Int)) ⟨_, rfl, rfl, rfl, fun _ => ?_⟩⟩
    intro s H C cl fp
    exact le_var (i := 5) rfl ⟨rfl, rfl⟩
  · exact la_nil <| rc_tuple (.inr rfl) rfl

/-- an edge: its place, its target, what is known behind it -/
abbrev Edge : Type := Nat × Nat × List Nat
abbrev edT (K : PySem.W.Frag) (e : Edge) : Th := tupT K [nT e.1, nT e.2.1, kT K e.2.2]
def luckE (os : List (Nat × List (Int × Int))) (ns : List Nat) : List Edge := (os.zipIdx.map fun p => (p.2, p.1.1, knF p.1.2 ns)).filter fun e => !decide (e.2.2 = [])
def behF (r : Row) (ns : List Nat) : List Edge := match r with
  | .luck os => luckE os ns
  | r => (actsOf r).zipIdx.map fun p => (p.2, p.1.2, ns)
abbrev st_behind : Stmt := top 57
abbrev bN : List Str := ["yard", "state", "knowledge", "at", "act", "found", "outcome", "later"]
theorem sc_behind : Scp bN ["yard", "state", "knowledge"] st_behind := ⟨rfl, rfl, rfl, by decide +kernel, rfl, by decide +kernel, by decide +kernel⟩
/-- what is asked of a state of a yard and some worlds -/
structure At (y : YardD) (s : Nat) (r : Row) (ns : List Nat) : Prop where
  row : y.rows[s]? = some r
  ok : RowOk y.rows.length y.ws.length r
  kn : ∀ n ∈ ns, n < y.ws.length
  l : ns.length ≤ 1000
theorem At.acts {y : YardD} {s : Nat} {r : Row} {ns : List Nat} (h : At y s r ns) : (actsOf r).length ≤ 4 := by
  have := h.ok
  cases r with
  | mine as => exact this.2.1
  | foe as => exact this.2.1
  | luck os => show 0 ≤ 4; omega
  | fin => show 0 ≤ 4; omega
theorem At.outs {y : YardD} {s : Nat} {r : Row} {ns : List Nat} (h : At y s r ns) : (outsOf r).length ≤ 6 := by
  have := h.ok
  cases r with
  | mine as => show 0 ≤ 6; omega
  | foe as => show 0 ≤ 6; omega
  | luck os => exact this.2.1
  | fin => show 0 ≤ 6; omega
theorem At.odds {y : YardD} {s : Nat} {r : Row} {ns : List Nat} (h : At y s r ns) {o : Nat × List (Int × Int)} (ho : o ∈ outsOf r) : o.1 < y.rows.length ∧ o.2.length = y.ws.length := by
  have := h.ok
  cases r with
  | mine as => cases ho
  | foe as => cases ho
  | luck os => exact ⟨(this.2.2.2.1 o ho).1, (this.2.2.2.1 o ho).2.1⟩
  | fin => cases ho
def fBehind (K : PySem.W.Frag) (C : Addr) : PFn := fun Rs R => ∃ (y : YardD) (s : Nat) (r : Row) (ns : List Nat), Rs = [yT K C y, nT s, kT K ns] ∧ At y s r ns ∧ R = tupT K ((behF r ns).map (edT K))
theorem zip_map {α β : Type} (g : α → β) (l : List α) : (l.map g).zipIdx = l.zipIdx.map fun p => (g p.1, p.2) := by
  rw [List.zipIdx_map]; rfl
theorem tT_k (K : PySem.W.Frag) (ns : List Nat) : kT K ns = tD K (⟨ns.map fun (n : Nat) => (n : Int)⟩ : Tup Int) := by
  show tupT K (ns.map nT) = tupT K (ths K ((ns.map fun (n : Nat) => (n : Int)).map PyData.int))
  rw [ths_map, List.map_map, List.map_map]; rfl
theorem tup_eq_nil (ns : List Nat) : decide ((⟨ns.map fun (n : Nat) => (n : Int)⟩ : Tup Int) = ⟨[]⟩) = decide (ns = []) := decide_eq_decide.mpr ⟨fun z => by
  injection z with z
  exact List.map_eq_nil_iff.mp z, fun z => by rw [z]; rfl⟩
theorem kn_behind (F : Fun K "behind" "behind" st_behind f fd) (hm : mg "behind" = some (.ref f)) (hb : Binds K fd ["yard", "state", "knowledge"] []) (yc : YC K C) (h1 : Blt mg "tuple") (h2 : Blt mg "enumerate") (c2 : Cst mg "LUCK" (.str "luck"))
    (k1 : KnM P w K mg base 1 C "kind" (spP 2 (fKind K C))) (k2 : KnM P w K mg base 1 C "acts" (spP 2 (fActs K C))) (k3 : KnM P w K mg base 1 C "outcomes" (spP 2 (fOutcomes K C))) (k4 : Kn P w K mg base 2 "known" (spP 4 (fKnown K C))) :
    Kn P w K mg base 3 "behind" (spP 3 (fBehind K C)) := by
  refine kn_pure F hm hb sc_behind rfl fun cdv A outer s H E Rs R hr h => ?_
  obtain ⟨y, n, r, ns, rfl, a, rfl⟩ := h
  refine lb_cons <| l1_if <| lt_cmp op_ne <| le_meth k1 hr (by decide) <| le_var (i := 0) rfl ⟨_, rfl, rfl, la_cons <| le_var (i := 1) rfl <| la_nil ⟨_, ⟨y, n, r, rfl, a.row, rfl⟩, rfl, le_cst c2 <| lr_ne rfl ⟨_, rfl, ?_⟩⟩⟩
  by_cases hl : ∃ os, r = .luck os
  · obtain ⟨os, rfl⟩ := hl
    rw [show (!decide (V.str (kindS (.luck os)) = V.str "luck")) = false from (by decide : (!decide (V.str "luck" = V.str "luck")) = false)]
    refine lb_nil <| lb_cons <| l1_setO (i := 5) (ln_lst <| la_nil ⟨zl (n := 0), ?_⟩) sc_behind.nd
    refine lb_cons <| l1_for [3, 6] (li_enumT h2 <| la_cons <| le_meth k3 hr (by decide) <| le_var (i := 0) rfl ⟨_, rfl, rfl, la_cons <| le_var (i := 1) rfl <| la_nil ⟨_, ⟨y, n, .luck os, rfl, a.row, rfl⟩, rfl, la_nil ⟨_, rfl, ?_⟩⟩⟩) .never
    have ol : os.length ≤ 6 := a.outs
    refine ⟨fun i S => ∃ q3 q6 q7, S = ⟨[some (.sh (yT K C y)), some (.sh (nT n)), some (.sh (kT K ns)), q3, none, some (.ow (ownL ((luckE (os.take i) ns).map (edT K)))), q6, q7], 0⟩, ⟨none, none, none, rfl⟩, ?_, ?_⟩
    · rintro i R' S2 hR ⟨q3, q6, q7, rfl⟩
      rw [List.getElem?_map, zip_map, List.getElem?_map, List.getElem?_zipIdx, show outsOf (.luck os) = os from rfl] at hR
      cases e : os[i]? with
      | none => rw [e] at hR; cases hR
      | some o =>
        rw [e] at hR
        cases hR
        have hm : o ∈ outsOf (.luck os) := List.mem_of_getElem? e
        have hj := a.odds hm
        refine lg_tup ⟨_, rfl, rfl, lgs_cons <| lg_name (i := 3) (lgs_cons <| lg_name (i := 6) (lgs_nil ?_) sc_behind.nd) sc_behind.nd⟩
        refine lb_cons <| l1_set (i := 7) (le_call k4 hr (by decide) <| la_cons <| le_var (i := 0) rfl <| la_cons <| le_var (i := 1) rfl <| la_cons <| le_var (i := 3) rfl <| la_cons <| le_var (i := 2) rfl <| la_nil ⟨kT K (knF o.2 ns), ⟨y, n, i, .luck os, o, ns, by rw [Nat.zero_add], a.row, e, fun m hm => by rw [hj.2]; exact a.kn m hm, a.l, rfl⟩, rfl, ?_⟩) sc_behind.nd
        refine lb_cons <| l1_if <| lt_cmp (op_neD (ru hr)) <| le_var (i := 7) rfl <| le_tup <| la_nil ⟨zl (n := 0), ?_⟩
        have e2 : luckE (os.take (i + 1)) ns = luckE (os.take i) ns ++ (if knF o.2 ns = [] then [] else [(i, o.1, knF o.2 ns)]) := by
          unfold luckE
          have hi : (os.take i).length = i := by
            have := (List.getElem?_eq_some_iff.mp e).1
            rw [List.length_take]; omega
          rw [take_snoc e, List.zipIdx_append, List.map_append, List.filter_append, hi, Nat.zero_add]
          congr 1
          show List.filter _ [(i, o.1, knF o.2 ns)] = _
          rw [List.filter_cons]
          by_cases z : knF o.2 ns = []
          · rw [if_pos z]; simp [z]
          · rw [if_neg z]; simp [z]
        rw [tT_k]
        refine lr_neT (x := (⟨(knF o.2 ns).map fun (n : Nat) => (n : Int)⟩ : Tup Int)) (y := (⟨[]⟩ : Tup Int)) ⟨_, rfl, ?_⟩
        rw [tup_eq_nil]
        by_cases z : knF o.2 ns = []
        · rw [decide_eq_true z]
          refine lb_nil <| lb_nil ?_
          dsimp only
          rw [e2, if_pos z, List.append_nil]
          exact ⟨_, _, _, rfl⟩
        · rw [decide_eq_false z]
          refine lb_cons <| l1_append 5 ⟨_, rfl⟩ (le_tup <| la_cons <| le_var (i := 3) rfl <| la_cons <| le_ix <| le_var (i := 6) rfl <| le_int ⟨_, _, _, .inl rfl, rfl, rfl, la_cons <| le_var (i := 7) rfl <| la_nil ⟨zl (n := 3), _, rfl, ?_, lb_nil <| lb_nil ?_⟩⟩)
          · rw [List.length_map]
            unfold luckE
            refine Nat.lt_of_le_of_lt (List.length_filter_le _ _) ?_
            rw [List.length_map, List.length_zipIdx, List.length_take]
            exact Nat.lt_of_le_of_lt (Nat.le_trans (Nat.min_le_right _ _) ol) (by decide)
          · dsimp only
            rw [e2, if_neg z, List.map_append, Nat.zero_add, ← tT_k]
            exact ⟨_, _, _, rfl⟩
    · rintro S2 ⟨q3, q6, q7, rfl⟩
      rw [List.length_map, List.length_zipIdx, List.length_map, show (outsOf (.luck os)).length = os.length from rfl, List.take_length]
      refine lb_shareL (i := 5) rfl <| lb_cons <| l1_ret <| le_ct call_tuple_of h1 (by decide +kernel) <| la_cons <| le_var (i := 5) rfl <| la_nil <| rc_tuple (.inr rfl) rfl
  · have e1 : (!decide (V.str (kindS r) = V.str "luck")) = true := by
      cases r with
      | luck os => exact absurd ⟨os, rfl⟩ hl
      | mine as => exact (by decide : (!decide (V.str "mine" = V.str "luck")) = true)
      | foe as => exact (by decide : (!decide (V.str "foe" = V.str "luck")) = true)
      | fin => exact (by decide : (!decide (V.str "end" = V.str "luck")) = true)
    have e2 : behF r ns = (actsOf r).zipIdx.map fun p => (p.2, p.1.2, ns) := by
      cases r with
      | luck os => exact absurd ⟨os, rfl⟩ hl
      | mine as => rfl
      | foe as => rfl
      | fin => rfl
    rw [e1, e2]
    refine lb_cons <| l1_ret <| le_ct call_tuple_of h1 (by decide +kernel) <| la_cons <| le_lc (own := [("at", 3), ("act", 4)]) (li_enumT h2 <| la_cons <| le_meth k2 hr (by decide) <| le_var (i := 0) rfl ⟨_, rfl, rfl, la_cons <| le_var (i := 1) rfl <| la_nil ⟨_, ⟨y, n, r, rfl, a.row, rfl⟩, rfl, la_nil ⟨_, rfl, ?_⟩⟩⟩) (bk (by decide +kernel)) sc_behind.nd
    refine lc_mapE (ds := (actsOf r).zipIdx) (g := fun p => tupT K [nT p.2, actT K p.1]) (by rw [zip_map, List.map_map]; rfl) (fun p => edT K (p.2, p.1.2, ns)) (by rw [List.length_zipIdx]; have := a.acts; omega) (fun p hp => ?_) ?_
    · intro s H C cl fp
      refine lg_tup ⟨_, rfl, rfl, lgs_cons <| lg_name (i := 3) (lgs_cons <| lg_name (i := 4) (lgs_nil ?_) sc_behind.nd) sc_behind.nd⟩
      intro s H C cl fp
      exact le_tup <| la_cons <| le_var (i := 3) rfl <| la_cons <| le_ix <| le_var (i := 4) rfl <| le_int ⟨_, _, _, .inl rfl, rfl, rfl, la_cons <| le_var (i := 2) rfl <| la_nil ⟨zl (n := 3), rfl, rfl⟩⟩
    · refine la_nil <| rc_tuple (.inr rfl) ?_
      rw [List.map_map]; rfl
end
end DL
set_option Elab.async false
set_option linter.all false
set_option maxRecDepth 100000
set_option maxHeartbeats 4000000
namespace DL
open PySem PySem.Spec L2
open PyProof.Rows hiding St
open PySem.W (Datum Tup)
abbrev nK (n : Nat) : Key := Sum.inl (n : Int)
/-- a dict whose keys are these, all true -/
abbrev lotT (ks : List Nat) : Th := dicT (ks.map fun n => (nK n, bT true))
theorem look_keys {α : Type} {ks : List α} {key : α → Key} {g : α → Th} {k : Key} : (lookT (ks.map fun n => (key n, g n)) k).isSome = ks.any fun n => decide (key n = k) := by
  unfold lookT
  induction ks with
  | nil => rfl
  | cons x xs ih =>
    rw [List.map_cons, List.any_cons, List.find?_cons]
    by_cases h : key x = k
    · simp [h]
    · simp only [h, decide_false, Bool.false_or]
      exact ih
theorem nK_inj {a b : Nat} : nK a = nK b ↔ a = b := ⟨fun z => by injection z with z; omega, fun z => by rw [z]⟩
theorem look_lot {ks : List Nat} {g : Nat → Th} {n : Nat} : (lookT (ks.map fun n => (nK n, g n)) (nK n)).isSome = decide (n ∈ ks) := by
  rw [look_keys, Bool.eq_iff_iff, List.any_eq_true, decide_eq_true_eq]
  exact ⟨fun ⟨x, h1, h2⟩ => by rw [← nK_inj.mp (of_decide_eq_true h2)]; exact h1, fun h => ⟨n, h, decide_eq_true rfl⟩⟩
section
variable {P : Program} {w : World} {K : PySem.W.Frag} {mg : Str → Option Value} {base : Heap} {f C : Addr} {fd : FuncData}
abbrev st_odds_of : Stmt := top 59
theorem sc_odds_of : Scp ["yard", "state", "world", "target", "odds"] ["yard", "state", "world"] st_odds_of := ⟨rfl, rfl, rfl, by decide +kernel, rfl, by decide +kernel, by decide +kernel⟩
def fOddsOf (K : PySem.W.Frag) (C : Addr) : PFn := fun Rs R => ∃ (y : YardD) (s : Nat) (r : Row) (n : Nat), Rs = [yT K C y, nT s, nT n] ∧ At y s r [n] ∧ R = tupT K ((colF (outsOf r) n).map (rT K))
theorem kn_odds_of (F : Fun K "odds_of" "odds_of" st_odds_of f fd) (hm : mg "odds_of" = some (.ref f)) (hb : Binds K fd ["yard", "state", "world"] []) (h1 : Blt mg "tuple") (k1 : KnM P w K mg base 1 C "outcomes" (spP 2 (fOutcomes K C))) :
    Kn P w K mg base 2 "odds_of" (spP 3 (fOddsOf K C)) := by
  refine kn_pure F hm hb sc_odds_of rfl fun cdv A outer s H E Rs R hr h => ?_
  obtain ⟨y, n, r, m, rfl, a, rfl⟩ := h
  refine lb_cons <| l1_ret <| le_ct call_tuple_of h1 (by decide +kernel) <| la_cons <| le_lc (own := [("target", 3), ("odds", 4)]) (li_tup <| le_meth k1 hr (by decide) <| le_var (i := 0) rfl ⟨_, rfl, rfl, la_cons <| le_var (i := 1) rfl <| la_nil ⟨_, ⟨y, n, r, rfl, a.row, rfl⟩, rfl, _, rfl, ?_⟩⟩) (bk (by decide +kernel)) sc_odds_of.nd
  refine lc_map (outsOf r) (outF K) (fun o => rT K (o.2.getD m (0, 1))) (by have := a.outs; omega) (fun o ho => ?_) ?_
  · intro s H C cl fp
    refine lg_tup ⟨_, rfl, rfl, lgs_cons <| lg_name (i := 3) (lgs_cons <| lg_name (i := 4) (lgs_nil ?_) sc_odds_of.nd) sc_odds_of.nd⟩
    intro s H C cl fp
    exact le_ix <| le_var (i := 4) rfl <| le_var (i := 2) rfl ⟨_, _, _, .inl rfl, rfl, at_odd (by rw [(a.odds ho).2]; exact a.kn m (List.mem_singleton.mpr rfl)), rfl, rfl⟩
  · refine la_nil <| rc_tuple (.inr rfl) ?_
    unfold colF
    rw [List.map_map]; rfl

abbrev prT (K : PySem.W.Frag) (p : Nat × Nat) : Th := tupT K [nT p.1, nT p.2]
def keptF (r : Row) (ns : List Nat) : List (Nat × Nat) := ((behF r ns).filter fun e => decide (e.2.2 = ns)).map fun e => (e.1, e.2.1)
theorem beh_len {y : YardD} {s : Nat} {r : Row} {ns : List Nat} (a : At y s r ns) : (behF r ns).length ≤ 6 := by
  cases r with
  | luck os =>
    refine Nat.le_trans (List.length_filter_le _ _) ?_
    rw [List.length_map, List.length_zipIdx]
    exact a.outs
  | mine as => show (List.map _ (actsOf (.mine as)).zipIdx).length ≤ 6; rw [List.length_map, List.length_zipIdx]; have := a.acts; omega
  | foe as => show (List.map _ (actsOf (.foe as)).zipIdx).length ≤ 6; rw [List.length_map, List.length_zipIdx]; have := a.acts; omega
  | fin => exact Nat.zero_le 6
theorem kept_len {y : YardD} {s : Nat} {r : Row} {ns : List Nat} (a : At y s r ns) : (keptF r ns).length ≤ 6 := by
  unfold keptF
  rw [List.length_map]
  exact Nat.le_trans (List.length_filter_le _ _) (beh_len a)
theorem iN_inj {a b : List Nat} : decide ((⟨a.map fun (n : Nat) => (n : Int)⟩ : Tup Int) = ⟨b.map fun (n : Nat) => (n : Int)⟩) = decide (a = b) := decide_eq_decide.mpr ⟨fun z => by
  injection z with z
  exact List.map_inj_right (fun _ _ h => by omega) |>.mp z, fun z => by rw [z]⟩
abbrev st_kept_behind : Stmt := top 61
theorem sc_kept_behind : Scp ["yard", "state", "knowledge", "at", "target", "later"] ["yard", "state", "knowledge"] st_kept_behind := ⟨rfl, rfl, rfl, by decide +kernel, rfl, by decide +kernel, by decide +kernel⟩
def fKeptBehind (K : PySem.W.Frag) (C : Addr) : PFn := fun Rs R => ∃ (y : YardD) (s : Nat) (r : Row) (ns : List Nat), Rs = [yT K C y, nT s, kT K ns] ∧ At y s r ns ∧ R = lstT ((keptF r ns).map (prT K))
theorem kn_kept_behind (F : Fun K "kept_behind" "kept_behind" st_kept_behind f fd) (hm : mg "kept_behind" = some (.ref f)) (hb : Binds K fd ["yard", "state", "knowledge"] []) (k1 : Kn P w K mg base 3 "behind" (spP 3 (fBehind K C))) :
    Kn P w K mg base 4 "kept_behind" (spP 3 (fKeptBehind K C)) := by
  refine kn_pure F hm hb sc_kept_behind rfl fun cdv A outer s H E Rs R hr h => ?_
  obtain ⟨y, n, r, ns, rfl, a, rfl⟩ := h
  refine lb_cons <| l1_ret <| le_lc (own := [("at", 3), ("target", 4), ("later", 5)]) (li_tup <| le_call k1 hr (by decide) <| la_cons <| le_var (i := 0) rfl <| la_cons <| le_var (i := 1) rfl <| la_cons <| le_var (i := 2) rfl <| la_nil ⟨_, ⟨y, n, r, ns, rfl, a, rfl⟩, rfl, _, rfl, ?_⟩) (bk (by decide +kernel)) sc_kept_behind.nd
  refine lc_fil (behF r ns) (edT K) (fun e => prT K (e.1, e.2.1)) (fun e => decide (e.2.2 = ns)) (by have := beh_len a; omega) (fun e he => ?_) ?_
  · intro s H C cl fp
    refine lg_tup ⟨_, rfl, rfl, lgs_cons <| lg_name (i := 3) (lgs_cons <| lg_name (i := 4) (lgs_cons <| lg_name (i := 5) (lgs_nil ?_) sc_kept_behind.nd) sc_kept_behind.nd) sc_kept_behind.nd⟩
    intro s H C cl fp
    refine lt_cmp (op_eqD (ru hr)) <| le_var (i := 5) rfl <| le_var (i := 2) rfl ?_
    rw [tT_k, tT_k]
    refine lr_eqT (x := (⟨e.2.2.map fun (n : Nat) => (n : Int)⟩ : Tup Int)) (y := (⟨ns.map fun (n : Nat) => (n : Int)⟩ : Tup Int)) ⟨_, rfl, ?_, rfl, fun _ => ?_⟩
    · exact iN_inj
    · intro s H C cl fp
      exact le_tup <| la_cons <| le_var (i := 3) rfl <| la_cons <| le_var (i := 4) rfl <| la_nil ⟨zl (n := 2), rfl, rfl⟩
  · show lstT _ = lstT _
    unfold keptF
    rw [List.map_map]; rfl

def stayF (r : Row) (ns : List Nat) (inLot : Nat → Bool) : Bool := match r with
  | .mine as => (keptF (.mine as) ns).any fun p => inLot p.2
  | .luck os => (keptF (.luck os) ns).all fun p => inLot p.2
  | _ => false
abbrev st_does_stay : Stmt := top 62
abbrev dsN : List Str := ["yard", "state", "knowledge", "lot", "some", "at", "target"]
theorem sc_does_stay : Scp dsN ["yard", "state", "knowledge", "lot"] st_does_stay := ⟨rfl, rfl, rfl, by decide +kernel, rfl, by decide +kernel, by decide +kernel⟩
def fDoesStay (K : PySem.W.Frag) (C : Addr) : PFn := fun Rs R => ∃ (y : YardD) (s : Nat) (r : Row) (ns ks : List Nat), Rs = [yT K C y, nT s, kT K ns, lotT ks] ∧ At y s r ns ∧ R = bT (stayF r ns fun t => decide (t ∈ ks))
theorem kn_does_stay (F : Fun K "does_stay" "does_stay" st_does_stay f fd) (hm : mg "does_stay" = some (.ref f)) (hb : Binds K fd ["yard", "state", "knowledge", "lot"] []) (h1 : Blt mg "any") (h2 : Blt mg "all") (c2 : Cst mg "LUCK" (.str "luck")) (c3 : Cst mg "MINE" (.str "mine")) (k1 : Kn P w K mg base 4 "kept_behind" (spP 3 (fKeptBehind K C))) (k2 : KnM P w K mg base 1 C "kind" (spP 2 (fKind K C))) :
    Kn P w K mg base 5 "does_stay" (spP 4 (fDoesStay K C)) := by
  refine kn_pure F hm hb sc_does_stay rfl fun cdv A outer s H E Rs R hr h => ?_
  obtain ⟨y, n, r, ns, ks, rfl, a, rfl⟩ := h
  refine lb_cons <| l1_setLc (i := 4) (own := [("at", 5), ("target", 6)]) (li_lst <| le_call k1 hr (by decide) <| la_cons <| le_var (i := 0) rfl <| la_cons <| le_var (i := 1) rfl <| la_cons <| le_var (i := 2) rfl <| la_nil ⟨_, ⟨y, n, r, ns, rfl, a, rfl⟩, rfl, _, rfl, ?_⟩) (bk (by decide +kernel)) sc_does_stay.nd (sw_true rfl rfl rfl (by decide +kernel))
  refine lc_map (keptF r ns) (prT K) (fun p => bT (decide (p.2 ∈ ks))) (by have := kept_len a; omega) (fun p hp => ?_) ?_
  · intro s H C cl fp
    refine lg_tup ⟨_, rfl, rfl, lgs_cons <| lg_name (i := 5) (lgs_cons <| lg_name (i := 6) (lgs_nil ?_) sc_does_stay.nd) sc_does_stay.nd⟩
    intro s H C cl fp
    exact le_din (hr := hr) <| le_var (i := 6) rfl <| le_var (i := 3) rfl ⟨nK p.2, _, rfl, rfl, by rw [look_lot], rfl⟩
  · have e : ((keptF r ns).map fun p => bT (decide (p.2 ∈ ks))) = ((keptF r ns).map fun p => decide (p.2 ∈ ks)).map fun b => vl (.bl b) := by rw [List.map_map]; rfl
    rw [e]
    refine lb_cons <| l1_if <| lt_cmp op_eq <| le_meth k2 hr (by decide) <| le_var (i := 0) rfl ⟨_, rfl, rfl, la_cons <| le_var (i := 1) rfl <| la_nil ⟨_, ⟨y, n, r, rfl, a.row, rfl⟩, rfl, le_cst c3 <| lr_eq rfl ⟨_, rfl, ?_⟩⟩⟩
    cases r with
    | mine as =>
      rw [show decide (V.str (kindS (.mine as)) = V.str "mine") = true from (by decide : decide (V.str "mine" = V.str "mine") = true)]
      refine lb_cons <| l1_ret <| le_cb (cr_any rfl) h1 (by decide +kernel) <| la_cons <| le_var (i := 4) rfl <| la_nil <| rc_any ?_
      rw [List.any_map]; rfl
    | luck os =>
      rw [show decide (V.str (kindS (.luck os)) = V.str "mine") = false from (by decide : decide (V.str "luck" = V.str "mine") = false)]
      refine lb_nil <| lb_cons <| l1_ret <| le_and <| le_cmp op_eq <| le_meth k2 hr (by decide) <| le_var (i := 0) rfl ⟨_, rfl, rfl, la_cons <| le_var (i := 1) rfl <| la_nil ⟨_, ⟨y, n, _, rfl, a.row, rfl⟩, rfl, le_cst c2 <| lr_eq rfl ⟨true, rfl, ?_⟩⟩⟩
      refine le_one <| le_cb (cr_all rfl) h2 (by decide +kernel) <| la_cons <| le_var (i := 4) rfl <| la_nil <| rc_all ?_
      rw [List.all_map]; rfl
    | foe as =>
      rw [show decide (V.str (kindS (.foe as)) = V.str "mine") = false from (by decide : decide (V.str "foe" = V.str "mine") = false)]
      exact lb_nil <| lb_cons <| l1_ret <| le_and <| le_cmp op_eq <| le_meth k2 hr (by decide) <| le_var (i := 0) rfl ⟨_, rfl, rfl, la_cons <| le_var (i := 1) rfl <| la_nil ⟨_, ⟨y, n, _, rfl, a.row, rfl⟩, rfl, le_cst c2 <| lr_eq rfl ⟨false, rfl, rfl⟩⟩⟩
    | fin =>
      rw [show decide (V.str (kindS .fin) = V.str "mine") = false from (by decide : decide (V.str "end" = V.str "mine") = false)]
      exact lb_nil <| lb_cons <| l1_ret <| le_and <| le_cmp op_eq <| le_meth k2 hr (by decide) <| le_var (i := 0) rfl ⟨_, rfl, rfl, la_cons <| le_var (i := 1) rfl <| la_nil ⟨_, ⟨y, n, _, rfl, a.row, rfl⟩, rfl, le_cst c2 <| lr_eq rfl ⟨false, rfl, rfl⟩⟩⟩
end
end DL
set_option Elab.async false
set_option linter.all false
set_option maxRecDepth 100000
set_option maxHeartbeats 4000000
namespace DL
open PySem PySem.Spec L2
open PyProof.Rows hiding St
open PySem.W (Datum Tup)
/-- a small yard, worlds of it -/
structure Sm (y : YardD) (ns : List Nat) : Prop where
  ok : YardOk y
  sm : y.rows.length ≤ 60
  kn : ∀ n ∈ ns, n < y.ws.length
  l : ns.length ≤ 1000
def rowAt (y : YardD) (s : Nat) : Row := y.rows.getD s .fin
theorem rowAt_get {y : YardD} {s : Nat} (h : s < y.rows.length) : y.rows[s]? = some (rowAt y s) := by
  unfold rowAt
  rw [List.getD_eq_getElem?_getD, List.getElem?_eq_getElem h]; rfl
theorem Sm.at {y : YardD} {ns : List Nat} {s : Nat} (h : Sm y ns) (hs : s < y.rows.length) : At y s (rowAt y s) ns :=
  ⟨rowAt_get hs, h.ok.ro _ (List.mem_of_getElem? (rowAt_get hs)), h.kn, h.l⟩
structure LotOk (y : YardD) (ks : List Nat) : Prop where
  nd : ks.Nodup
  lt : ∀ s ∈ ks, s < y.rows.length
theorem nodup_len : ∀ {ks l : List Nat}, ks.Nodup → (∀ x ∈ ks, x ∈ l) → ks.length ≤ l.length
  | [], _, _, _ => Nat.zero_le _
  | k :: ks, l, nd, h => by
    obtain ⟨n1, n2⟩ := List.nodup_cons.mp nd
    have ih := nodup_len (l := l.erase k) n2 fun x hx => (List.mem_erase_of_ne (fun z => n1 (by rw [← z]; exact hx))).mpr (h x (List.mem_cons_of_mem _ hx))
    have hk := h k List.mem_cons_self
    rw [List.length_erase_of_mem hk] at ih
    have := List.length_pos_of_mem hk
    rw [List.length_cons]; omega
theorem LotOk.len {y : YardD} {ks : List Nat} (h : LotOk y ks) : ks.length ≤ y.rows.length := by
  have := nodup_len h.nd fun s hs => List.mem_range.mpr (h.lt s hs)
  rwa [List.length_range] at this
theorem LotOk.sub {y : YardD} {ks js : List Nat} (h : LotOk y ks) (s : js.Sublist ks) : LotOk y js := ⟨h.nd.sublist s, fun x hx => h.lt x (s.subset hx)⟩
/-- a state stays in a set of states -/
def stays (y : YardD) (ns : List Nat) (X : Nat → Bool) (s : Nat) : Bool := stayF (rowAt y s) ns X
theorem stayF_mono {r : Row} {ns : List Nat} {X Y : Nat → Bool} (h : ∀ s, X s = true → Y s = true) (q : stayF r ns X = true) : stayF r ns Y = true := by
  cases r with
  | mine as =>
    obtain ⟨p, h1, h2⟩ := List.any_eq_true.mp (show (keptF (.mine as) ns).any (fun p => X p.2) = true from q)
    exact List.any_eq_true.mpr ⟨p, h1, h _ h2⟩
  | luck os =>
    have q := List.all_eq_true.mp (show (keptF (.luck os) ns).all (fun p => X p.2) = true from q)
    exact List.all_eq_true.mpr fun p hp => h _ (q p hp)
  | foe as => cases q
  | fin => cases q
/-- ks' is the greatest part of ks that stays in itself -/
structure Closed (y : YardD) (ns ks ks' : List Nat) : Prop where
  sub : ks'.Sublist ks
  st : ∀ s ∈ ks', stays y ns (fun t => decide (t ∈ ks')) s = true
  gr : ∀ T : Nat → Bool, (∀ s, T s = true → s ∈ ks) → (∀ s, T s = true → stays y ns T s = true) → ∀ s, T s = true → s ∈ ks'
def stepC (y : YardD) (ns ks : List Nat) : List Nat := ks.filter fun s => stays y ns (fun t => decide (t ∈ ks)) s
def goneC (y : YardD) (ns ks : List Nat) : List Nat := ks.filter fun s => !stays y ns (fun t => decide (t ∈ ks)) s
theorem gone_step {y : YardD} {ns ks : List Nat} : (ks.filter fun s => decide (s ∉ goneC y ns ks)) = stepC y ns ks := by
  unfold stepC
  refine List.filter_congr fun s hs => ?_
  unfold goneC
  rw [Bool.eq_iff_iff, decide_eq_true_eq, List.mem_filter]
  cases stays y ns (fun t => decide (t ∈ ks)) s <;> simp [hs]
theorem step_len {y : YardD} {ns ks : List Nat} : (stepC y ns ks).length + (goneC y ns ks).length = ks.length := by
  unfold stepC goneC
  have := List.length_eq_countP_add_countP (fun s => stays y ns (fun t => decide (t ∈ ks)) s) (l := ks)
  rw [List.countP_eq_length_filter, List.countP_eq_length_filter] at this
  have e : (ks.filter fun a => decide (¬ stays y ns (fun t => decide (t ∈ ks)) a = true)) = ks.filter fun s => !stays y ns (fun t => decide (t ∈ ks)) s := List.filter_congr fun s _ => by
    cases stays y ns (fun t => decide (t ∈ ks)) s <;> rfl
  rw [e] at this
  omega
section
variable {P : Program} {w : World} {K : PySem.W.Frag} {mg : Str → Option Value} {base : Heap} {f C : Addr} {fd : FuncData}
/-- what may be compared with the empty list -/
theorem lr_neL {X : Cx} {pn : Option Addr} {S : LSt} {Q : Th → LSt → Prop} {ds : List PyData} (h : SeqAt.shaped (.list ds) = true) (q : Q (vl (.bl (!ds.isEmpty))) S) : LR2 X pn (rNeD X.K) (lstT (ths X.K ds)) (lstT []) S Q := by
  refine lr_neD (d := .list ds) (d' := .list []) h (by decide) ?_
  cases ds with
  | nil => exact q
  | cons d ds => exact q
theorem shaped_ints (ns : List Nat) : SeqAt.shaped (.list (ns.map fun (n : Nat) => PyData.int n)) = true := by
  have := lay_shaped (ns.map fun (n : Nat) => (n : Int)) (by decide)
  have e : Datum.toD (ns.map fun (n : Nat) => (n : Int)) = .list (ns.map fun (n : Nat) => PyData.int n) := by
    show PyData.list ((ns.map fun (n : Nat) => (n : Int)).map PyData.int) = _
    rw [List.map_map]; rfl
  rwa [e] at this
abbrev st_closed_lot : Stmt := top 63
abbrev clN : List Str := ["yard", "knowledge", "states", "lot", "gone", "state"]
theorem sc_closed_lot : Scp clN ["yard", "knowledge", "states"] st_closed_lot := ⟨rfl, rfl, rfl, by decide +kernel, rfl, by decide +kernel, by decide +kernel⟩
def fClosedLot (K : PySem.W.Frag) (C : Addr) : PFn := fun Rs R => ∃ (y : YardD) (ns ks : List Nat) (g : Nat → Th), Rs = [yT K C y, kT K ns, dicT (ks.map fun n => (nK n, g n))] ∧ Sm y ns ∧ LotOk y ks ∧ R = exT (Closed y ns ks) lotT
theorem lot_drop {ks : List Nat} {n : Nat} : dropT (ks.map fun n => (nK n, bT true)) (nK n) = (ks.filter fun s => decide (s ≠ n)).map fun n => (nK n, bT true) := by
  unfold dropT
  rw [List.filter_map]
  congr 1
  refine List.filter_congr fun s _ => ?_
  exact decide_eq_decide.mpr (not_congr nK_inj)
theorem kn_closed_lot (F : Fun K "closed_lot" "closed_lot" st_closed_lot f fd) (hm : mg "closed_lot" = some (.ref f)) (hb : Binds K fd ["yard", "knowledge", "states"] []) (k1 : Kn P w K mg base 5 "does_stay" (spP 4 (fDoesStay K C))) :
    Kn P w K mg base 6 "closed_lot" (spP 3 (fClosedLot K C)) := by
  refine kn_pure F hm hb sc_closed_lot rfl fun cdv A outer s H E Rs R hr h => ?_
  obtain ⟨y, ns, ks, g, rfl, sm, lo, rfl⟩ := h
  refine lb_cons <| l1_parN (is := [3, 4]) (lo_ow <| ln_dcD (own := [("state", 5)]) 2 rfl (li_keys 2 rfl ?_ (pv _)) (bk (by decide +kernel)) sc_closed_lot.nd) (.cons sc_closed_lot.nd rfl (.inr rfl) (.inl rfl) rfl (.cons sc_closed_lot.nd rfl (.inl rfl) (.inr rfl) rfl .nil))
  rw [List.map_map]
  have hks : ks.length ≤ 60 := Nat.le_trans lo.len sm.sm
  refine dc_map ks nT nK (fun _ => bT true) (by omega) (List.pairwise_map.mpr (lo.nd.imp fun h z => h (nK_inj.mp z))) (fun n hn => ?_) ?_
  · intro s H C cl fp
    refine lg_name (i := 5) ?_ sc_closed_lot.nd
    intro s H C cl fp
    refine le_var (i := 5) rfl ⟨rfl, ?_⟩
    intro s H C cl fp
    exact le_bl ⟨rfl, rfl⟩
  refine lo_sh <| le_lst <| la_cons <| le_non <| la_nil ⟨zl (n := 1), lo_nil ⟨rfl, ?_⟩⟩
  refine lb_cons <| l1_while (fun m S => ∃ (js : List Nat) (ds : List PyData) (q5 : Option Ent), S = ⟨[some (.sh (yT K C y)), some (.sh (kT K ns)), some (.sh (dicT (ks.map fun n => (nK n, g n)))), some (.ow (ownD (js.map fun n => (nK n, bT true)))), some (.sh (lstT (ths K ds))), q5], 0⟩ ∧
    SeqAt.shaped (.list ds) = true ∧ js.Sublist ks ∧ (∀ T : Nat → Bool, (∀ s, T s = true → s ∈ ks) → (∀ s, T s = true → stays y ns T s = true) → ∀ s, T s = true → s ∈ js) ∧ (ds = [] → ∀ s ∈ js, stays y ns (fun t => decide (t ∈ js)) s = true) ∧ m = js.length + (if ds = [] then 0 else 1)) ⟨_, ks, [.none], none, rfl, by decide, List.Sublist.refl _, fun T h _ => h, fun z => (by cases z), rfl⟩ ?_ .never
  rintro m S1 ⟨js, ds, q5, rfl, hd, sub, gr, fin, rfl⟩
  refine lt_cmp (op_neD (ru hr)) <| le_var (i := 4) rfl <| le_lst <| la_nil ⟨zl (n := 0), lr_neL hd ⟨_, rfl, ?_⟩⟩
  cases ds with
  | nil =>
    show LB _ _ _ _ _
    refine lb_shareD (i := 3) rfl <| lb_cons <| l1_ret <| le_close <| le_var (i := 3) rfl ⟨js, rfl, ⟨sub, fin rfl, gr⟩, rfl⟩
  | cons d ds =>
    show LB _ _ _ _ _
    have lj := lo.sub sub
    have hjs : js.length ≤ 60 := Nat.le_trans lj.len sm.sm
    refine lb_cons <| l1_setLcBD (own := [("state", 5)]) (j := 4) 3 rfl (li_keys 3 rfl ?_ (pv _)) (bk (by decide +kernel)) sc_closed_lot.nd (sw_true rfl rfl rfl (by decide +kernel))
    rw [List.map_map]
    refine lc_fil js nT nT (fun s => !stays y ns (fun t => decide (t ∈ js)) s) (by omega) (fun n hn => ?_) ?_
    · intro s H C cl fp
      refine lg_name (i := 5) ?_ sc_closed_lot.nd
      intro s H C cl fp
      refine lt_not <| lt_val <| le_call k1 hr (by decide) <| la_cons <| le_var (i := 0) rfl <| la_cons <| le_var (i := 5) rfl <| la_cons <| le_var (i := 1) rfl <| la_cons <| le_var (i := 3) rfl <| la_nil ⟨_, ⟨y, n, rowAt y n, ns, js, rfl, sm.at (lj.lt n hn), rfl⟩, rfl, _, rfl, rfl, rfl, fun _ => ?_⟩
      intro s H C cl fp
      exact le_var (i := 5) rfl ⟨rfl, rfl⟩
    refine ⟨?_, ?_⟩
    · have := Flat.l ((goneC y ns js).map fun (n : Nat) => V.int n)
      rw [List.map_map] at this
      exact this
    refine lb_cons <| l1_for [5] (li_lst (le_var (i := 4) rfl ⟨_, rfl, ?_⟩)) .never
    refine ⟨fun i S => ∃ q5, S = ⟨[some (.sh (yT K C y)), some (.sh (kT K ns)), some (.sh (dicT (ks.map fun n => (nK n, g n)))), some (.ow (ownD ((js.filter fun s => decide (s ∉ (goneC y ns js).take i)).map fun n => (nK n, bT true)))), some (.sh (lstT ((goneC y ns js).map nT))), q5], 0⟩, ⟨q5, ?_⟩, ?_, ?_⟩
    · have e : (js.filter fun s => decide (s ∉ (goneC y ns js).take 0)) = js := List.filter_eq_self.mpr fun s _ => by simp
      rw [e]; rfl
    · rintro i R' S2 hR ⟨q5, rfl⟩
      rw [List.getElem?_map] at hR
      cases e : (goneC y ns js)[i]? with
      | none => rw [show (js.filter fun s => !stays y ns (fun t => decide (t ∈ js)) s)[i]? = none from e] at hR; cases hR
      | some n =>
        rw [show (js.filter fun s => !stays y ns (fun t => decide (t ∈ js)) s)[i]? = some n from e] at hR
        cases hR
        refine lg_name (i := 5) ?_ sc_closed_lot.nd
        have e2 : (js.filter fun s => decide (s ∉ (goneC y ns js).take (i + 1))) = ((js.filter fun s => decide (s ∉ (goneC y ns js).take i)).filter fun s => decide (s ≠ n)) := by
          rw [List.filter_filter]
          refine List.filter_congr fun s _ => ?_
          rw [take_snoc e, ← Bool.decide_and]
          exact decide_eq_decide.mpr (by rw [List.mem_append, List.mem_singleton]; exact ⟨fun h => ⟨fun z => h (.inr z), fun z => h (.inl z)⟩, fun h z => z.elim h.2 h.1⟩)
        have nin : n ∈ (js.filter fun s => decide (s ∉ (goneC y ns js).take i)) := by
          refine List.mem_filter.mpr ⟨(List.mem_filter.mp (List.mem_of_getElem? e)).1, decide_eq_true fun z => ?_⟩
          have nd : (goneC y ns js).Nodup := lj.nd.filter _
          obtain ⟨k, hk, ek⟩ := List.mem_take_iff_getElem.mp z
          have h1 := (List.getElem?_eq_some_iff.mp e)
          have := (List.getElem_inj nd).mp (ek.trans h1.2.symm)
          omega
        refine lb_cons <| l1_ddel 3 ⟨_, rfl⟩ (le_var (i := 5) rfl ⟨nK n, _, rfl, rfl, by rw [look_lot]; exact decide_eq_true nin, lb_nil ?_⟩) (ps_ddel (pv _) pe_we)
        dsimp only
        rw [lot_drop, e2]
        exact ⟨_, rfl⟩
    · rintro S2 ⟨q5, rfl⟩
      rw [show ((js.filter fun s => !stays y ns (fun t => decide (t ∈ js)) s).map nT).length = (goneC y ns js).length from List.length_map _, List.take_length, gone_step]
      have eg : (goneC y ns js).map nT = ths K ((goneC y ns js).map fun (n : Nat) => PyData.int n) := by rw [ths_map, List.map_map]; rfl
      refine lb_nil ⟨(stepC y ns js).length + (if (goneC y ns js).map (fun (n : Nat) => PyData.int n) = [] then 0 else 1), ?_, stepC y ns js, (goneC y ns js).map fun (n : Nat) => PyData.int n, q5, by rw [eg], shaped_ints _, (List.filter_sublist).trans sub, fun T h1 h2 s hs => ?_, fun z s hs => ?_, rfl⟩
      · have := @step_len y ns js
        rw [if_neg (show ¬ (d :: ds = []) from List.cons_ne_nil _ _)]
        by_cases z : goneC y ns js = []
        · rw [z] at this ⊢
          simp at this ⊢
          omega
        · have := List.length_pos_iff.mpr z
          rw [if_neg (fun q => z (List.map_eq_nil_iff.mp q))]
          omega
      · refine List.mem_filter.mpr ⟨gr T h1 h2 s hs, stayF_mono (fun t ht => decide_eq_true (gr T h1 h2 t ht)) (h2 s hs)⟩
      · have z : goneC y ns js = [] := List.map_eq_nil_iff.mp z
        have e : stepC y ns js = js := by
          refine List.filter_eq_self.mpr fun s hs => ?_
          cases q : stays y ns (fun t => decide (t ∈ js)) s with
          | true => rfl
          | false =>
            have : s ∈ goneC y ns js := List.mem_filter.mpr ⟨hs, by rw [q]; rfl⟩
            rw [z] at this; cases this
        rw [e]
        exact (List.mem_filter.mp hs).2
end
end DL
set_option Elab.async false
set_option linter.all false
set_option maxRecDepth 100000
set_option maxHeartbeats 4000000
namespace DL
open PySem PySem.Spec L2
open PyProof.Rows hiding St
open PySem.W (Datum Tup)
section
variable {X : Cx} {pn : Option Addr} {e : Expr} {S : LSt} {PB : Bool → LSt → Prop} {kvs : List (Key × Th)}
theorem lt_borrowD (i : Nat) (h : S.ρ[i]? = some (some (.ow (ownD kvs)))) (q : LT X pn e ⟨wipeR (S.put i (dicT kvs)).ρ [], S.n⟩ fun b S' => PB b ⟨S.ρ, S'.n⟩) : LT X pn e S PB := by
  intro B Hs σ H o Q k
  have := borrow_run (P := fun R S' => ∃ b, R = vl (.bl b) ∧ PB b S') (T := fun Q => WT X e σ H fun b H' => Q (.bl b) H') i o h share_D noL
    (fun B1 Hs1 o1 Q k => q B1 Hs1 σ H o1 _ fun b S' Hs' H' p o' e' => k (vl (.bl b)) S' (.bl b) Hs' H' ⟨.v _, b, rfl, p⟩ o' e' rfl) (fun v H' => match v with | .bl b => Q b H' | _ => False)
    (fun R S' v Hs' H' ⟨b, e1, p⟩ o' e' r => by
      subst e1
      cases (show v = .bl b from r)
      exact k b S' Hs' H' p o' e')
  exact this
end
/-! ### sorted -/
def sortN (ks : List Nat) : List Nat := (sortI (ks.map fun (n : Nat) => (n : Int))).map Int.toNat
theorem sortN_int (ks : List Nat) : (sortI (ks.map fun (n : Nat) => (n : Int))) = (sortN ks).map fun (n : Nat) => (n : Int) := by
  unfold sortN
  rw [List.map_map]
  refine (List.map_id _).symm.trans (List.map_congr_left fun x hx => ?_)
  obtain ⟨n, _, rfl⟩ := List.mem_map.mp ((sortI_perm _).mem_iff.mp hx)
  simp
theorem sortN_perm (ks : List Nat) : (sortN ks).Perm ks := by
  have h := (sortI_perm (ks.map fun (n : Nat) => (n : Int))).map Int.toNat
  rw [List.map_map] at h
  have e : (Int.toNat ∘ fun (n : Nat) => (n : Int)) = id := funext fun n => by simp
  rw [e, List.map_id] at h
  exact h
theorem sortN_up (ks : List Nat) : (sortN ks).Pairwise (· ≤ ·) := by
  have h := sortI_up (ks.map fun (n : Nat) => (n : Int))
  rw [sortN_int] at h
  exact (List.pairwise_map.mp h).imp fun h => by omega
theorem sortN_map (ks : List Nat) : (sortI (ks.map fun (n : Nat) => (n : Int))).map iT = (sortN ks).map nT := by
  rw [sortN_int, List.map_map]; rfl

/-! ### ranks -/
abbrev NP : Type := Nat × Nat
abbrev npD (rk : List NP) : List (Key × Th) := rk.map fun p => (nK p.1, nT p.2)
def pickF (y : YardD) (ns : List Nat) (rk : List NP) (s : Nat) : Option NP :=
  if s ∈ rk.map Prod.fst then none else ((keptF (rowAt y s) ns).find? fun p => decide (p.2 ∈ rk.map Prod.fst)).map fun p => (s, p.1)
/-- where a goal is come to within some states -/
structure Ranks (y : YardD) (ns : List Nat) (goal : Nat) (ks : List Nat) (q : List NP × List NP) : Prop where
  nd : (q.1.map Prod.fst).Nodup
  sub : ∀ p ∈ q.1, p.1 ∈ ks
  g : (goal, 0) ∈ q.1
  st : ∀ p ∈ q.1, (p.1 = goal ∧ p.2 = 0) ∨ (p.1 ≠ goal ∧ 1 ≤ p.2 ∧ ∃ a t l, (a, t) ∈ keptF (rowAt y p.1) ns ∧ (p.1, a) ∈ q.2 ∧ (t, l) ∈ q.1 ∧ l < p.2)
  pn : (q.2.map Prod.fst).Nodup
  pk : ∀ p ∈ q.2, p.1 ∈ q.1.map Prod.fst
theorem Ranks.len {y : YardD} {ns : List Nat} {goal : Nat} {ks : List Nat} {q : List NP × List NP} (h : Ranks y ns goal ks q) : q.1.length ≤ ks.length := by
  have := nodup_len h.nd (l := ks) fun x hx => by
    obtain ⟨p, hp, rfl⟩ := List.mem_map.mp hx
    exact h.sub p hp
  rwa [List.length_map] at this
def nextR (lvl : Nat) (rk : List NP) (la : List NP) : List NP := rk ++ la.map fun p => (p.1, lvl)
theorem look_np {rk : List NP} {n : Nat} : (lookT (npD rk) (nK n)).isSome = decide (n ∈ rk.map Prod.fst) := by
  unfold npD
  rw [look_keys (ks := rk) (key := fun p => nK p.1) (g := fun p => nT p.2), Bool.eq_iff_iff, List.any_eq_true, decide_eq_true_eq]
  exact ⟨fun ⟨x, h1, h2⟩ => List.mem_map.mpr ⟨x, h1, nK_inj.mp (of_decide_eq_true h2)⟩, fun h => by
    obtain ⟨x, h1, h2⟩ := List.mem_map.mp h
    exact ⟨x, h1, decide_eq_true (by rw [h2])⟩⟩
theorem put_np {rk : List NP} {n v : Nat} (h : n ∉ rk.map Prod.fst) : putT (npD rk) (nK n) (nT v) = npD (rk ++ [(n, v)]) := by
  rw [put_new fun z => h ?_]
  · unfold npD; rw [List.map_append]; rfl
  · obtain ⟨x, hx, e⟩ := List.mem_map.mp z
    obtain ⟨p, hp, rfl⟩ := List.mem_map.mp hx
    exact List.mem_map.mpr ⟨p, hp, nK_inj.mp e⟩
theorem pick_some {y : YardD} {ns : List Nat} {rk : List NP} {s : Nat} {p : NP} (h : pickF y ns rk s = some p) : p.1 = s ∧ s ∉ rk.map Prod.fst ∧ ∃ t, (p.2, t) ∈ keptF (rowAt y s) ns ∧ t ∈ rk.map Prod.fst := by
  unfold pickF at h
  split at h
  · cases h
  · rename_i hn
    cases e : (keptF (rowAt y s) ns).find? fun p => decide (p.2 ∈ rk.map Prod.fst) with
    | none => rw [e] at h; cases h
    | some q =>
      rw [e] at h
      cases h
      exact ⟨rfl, hn, q.2, List.mem_of_find?_eq_some e, of_decide_eq_true (by simpa using List.find?_some e)⟩
theorem pick_none {y : YardD} {ns : List Nat} {rk : List NP} {s : Nat} (h : pickF y ns rk s = none) (hn : s ∉ rk.map Prod.fst) : ∀ p ∈ keptF (rowAt y s) ns, p.2 ∉ rk.map Prod.fst := by
  unfold pickF at h
  rw [if_neg hn, Option.map_eq_none_iff, List.find?_eq_none] at h
  exact fun p hp z => h p hp (decide_eq_true z)
theorem later_nd {y : YardD} {ns : List Nat} {rk : List NP} : ∀ {js : List Nat}, js.Nodup → ((js.filterMap (pickF y ns rk)).map Prod.fst).Nodup ∧ ∀ p ∈ js.filterMap (pickF y ns rk), p.1 ∈ js
  | [], _ => ⟨List.nodup_nil, fun p hp => by cases hp⟩
  | j :: js, h => by
    obtain ⟨h1, h2⟩ := List.nodup_cons.mp h
    obtain ⟨i1, i2⟩ := later_nd (y := y) (ns := ns) (rk := rk) h2
    rw [List.filterMap_cons]
    cases e : pickF y ns rk j with
    | none => exact ⟨i1, fun p hp => List.mem_cons_of_mem _ (i2 p hp)⟩
    | some p =>
      refine ⟨List.nodup_cons.mpr ⟨fun z => ?_, i1⟩, fun q hq => ?_⟩
      · obtain ⟨q, hq, e2⟩ := List.mem_map.mp z
        have := i2 q hq
        rw [e2, (pick_some e).1] at this
        exact h1 this
      · rcases List.mem_cons.mp hq with rfl | hq
        · rw [(pick_some e).1]; exact List.mem_cons_self
        · exact List.mem_cons_of_mem _ (i2 q hq)
theorem Ranks.next {y : YardD} {ns : List Nat} {goal : Nat} {ks js : List Nat} {rk pk : List NP} {lvl : Nat} (h : Ranks y ns goal ks (rk, pk)) (hl : ∀ p ∈ rk, p.2 ≤ lvl) (hj : js.Perm ks) (nd : ks.Nodup) :
    Ranks y ns goal ks (nextR (lvl + 1) rk (js.filterMap (pickF y ns rk)), pk ++ js.filterMap (pickF y ns rk)) ∧ ∀ p ∈ nextR (lvl + 1) rk (js.filterMap (pickF y ns rk)), p.2 ≤ lvl + 1 := by
  obtain ⟨l1, l2⟩ := later_nd (y := y) (ns := ns) (rk := rk) (hj.nodup_iff.mpr nd)
  have new : ∀ p ∈ js.filterMap (pickF y ns rk), p.1 ∉ rk.map Prod.fst ∧ ∃ t, (p.2, t) ∈ keptF (rowAt y p.1) ns ∧ t ∈ rk.map Prod.fst := fun p hp => by
    obtain ⟨s, _, e⟩ := List.mem_filterMap.mp hp
    obtain ⟨e1, e2, e3⟩ := pick_some e
    rw [e1]; exact ⟨e2, e3⟩
  have ek : (nextR (lvl + 1) rk (js.filterMap (pickF y ns rk))).map Prod.fst = rk.map Prod.fst ++ (js.filterMap (pickF y ns rk)).map Prod.fst := by
    unfold nextR
    rw [List.map_append, List.map_map]; rfl
  refine ⟨⟨?_, fun p hp => ?_, List.mem_append_left _ h.g, fun p hp => ?_, ?_, fun p hp => ?_⟩, fun p hp => ?_⟩
  · show ((nextR _ _ _).map Prod.fst).Nodup
    rw [ek]
    refine List.nodup_append.mpr ⟨h.nd, l1, fun a ha b hb e => ?_⟩
    obtain ⟨p, hp, rfl⟩ := List.mem_map.mp hb
    exact (new p hp).1 (by rw [← e]; exact ha)
  · rcases List.mem_append.mp (show p ∈ rk ++ _ from hp) with hp | hp
    · exact h.sub p hp
    · obtain ⟨q, hq, rfl⟩ := List.mem_map.mp hp
      exact hj.mem_iff.mp (l2 q hq)
  · rcases List.mem_append.mp (show p ∈ rk ++ _ from hp) with hp | hp
    · rcases h.st p hp with z | ⟨z1, z2, a, t, l, z3, z4, z5, z6⟩
      · exact .inl z
      · exact .inr ⟨z1, z2, a, t, l, z3, List.mem_append_left _ z4, List.mem_append_left _ z5, z6⟩
    · obtain ⟨q, hq, rfl⟩ := List.mem_map.mp hp
      obtain ⟨n1, t, n2, n3⟩ := new q hq
      obtain ⟨⟨t', l⟩, hl', rfl⟩ := List.mem_map.mp n3
      refine .inr ⟨fun z => n1 (by show q.1 ∈ _; rw [show q.1 = goal from z]; exact List.mem_map.mpr ⟨_, h.g, rfl⟩), by show 1 ≤ lvl + 1; omega, q.2, t', l, n2, List.mem_append_right _ hq, List.mem_append_left _ hl', ?_⟩
      have := hl _ hl'
      show l < lvl + 1
      exact Nat.lt_succ_of_le this
  · show ((pk ++ _).map Prod.fst).Nodup
    rw [List.map_append]
    refine List.nodup_append.mpr ⟨h.pn, l1, fun a ha b hb e => ?_⟩
    obtain ⟨p, hp, rfl⟩ := List.mem_map.mp hb
    obtain ⟨q, hq, e2⟩ := List.mem_map.mp ha
    exact (new p hp).1 (by rw [← e, ← e2]; exact h.pk q hq)
  · show p.1 ∈ (nextR _ _ _).map Prod.fst
    rw [ek]
    rcases List.mem_append.mp (show p ∈ pk ++ _ from hp) with hp | hp
    · exact List.mem_append_left _ (h.pk p hp)
    · exact List.mem_append_right _ (List.mem_map.mpr ⟨p, hp, rfl⟩)
  · rcases List.mem_append.mp (show p ∈ rk ++ _ from hp) with hp | hp
    · have := hl p hp; omega
    · obtain ⟨q, hq, rfl⟩ := List.mem_map.mp hp
      exact Nat.le_refl _
/-- nothing more comes to it -/
def Full (y : YardD) (ns ks : List Nat) (rk : List NP) : Prop := ∀ s ∈ ks, s ∉ rk.map Prod.fst → ∀ p ∈ keptF (rowAt y s) ns, p.2 ∉ rk.map Prod.fst
theorem full_of {y : YardD} {ns ks js : List Nat} {rk : List NP} (hj : js.Perm ks) (h : js.filterMap (pickF y ns rk) = []) : Full y ns ks rk := fun s hs hn => by
  refine pick_none ?_ hn
  have := List.filterMap_eq_nil_iff.mp h s (hj.mem_iff.mpr hs)
  exact this
end DL
set_option Elab.async false
set_option linter.all false
set_option maxRecDepth 100000
set_option maxHeartbeats 4000000
namespace DL
open PySem PySem.Spec L2
open PyProof.Rows hiding St
open PySem.W (Datum Tup)
section
variable {P : Program} {w : World} {K : PySem.W.Frag} {mg : Str → Option Value} {base : Heap} {f C : Addr} {fd : FuncData}
theorem shaped_prs (ps : List NP) : SeqAt.shaped (.list (ps.map fun p => PyData.tuple [.int p.1, .int p.2])) = true := by
  have := lay_shaped (ps.map fun p => ((p.1 : Int), (p.2 : Int))) (by decide)
  have e : Datum.toD (ps.map fun p => ((p.1 : Int), (p.2 : Int))) = .list (ps.map fun p => PyData.tuple [.int p.1, .int p.2]) := by
    show PyData.list ((ps.map fun p => ((p.1 : Int), (p.2 : Int))).map _) = _
    rw [List.map_map]; rfl
  rwa [e] at this
theorem prs_ths (ps : List NP) : ps.map (prT K) = ths K (ps.map fun p => PyData.tuple [.int p.1, .int p.2]) := by rw [ths_map, List.map_map]; rfl
theorem ints_ths (ns : List Nat) : ns.map nT = ths K (ns.map fun (n : Nat) => PyData.int n) := by rw [ths_map, List.map_map]; rfl
abbrev rkT (K : PySem.W.Frag) (q : List NP × List NP) : Th := tupT K [dicT (npD q.1), dicT (npD q.2)]
abbrev st_ranks_to : Stmt := top 64
abbrev rkN : List Str := ["yard", "goal", "knowledge", "lot", "ranks", "picked", "level", "is_new", "later", "state", "some", "at", "target"]
theorem sc_ranks_to : Scp rkN ["yard", "goal", "knowledge", "lot"] st_ranks_to := ⟨rfl, rfl, rfl, by decide +kernel, rfl, by decide +kernel, by decide +kernel⟩
def fRanksTo (K : PySem.W.Frag) (C : Addr) : PFn := fun Rs R => ∃ (y : YardD) (goal : Nat) (ns ks : List Nat), Rs = [yT K C y, nT goal, kT K ns, lotT ks] ∧ Sm y ns ∧ LotOk y ks ∧ goal ∈ ks ∧ R = exT (fun q => Ranks y ns goal ks q ∧ Full y ns ks q.1) (rkT K)
theorem kn_ranks_to (F : Fun K "ranks_to" "ranks_to" st_ranks_to f fd) (hm : mg "ranks_to" = some (.ref f)) (hb : Binds K fd ["yard", "goal", "knowledge", "lot"] []) (h1 : Blt mg "sorted") (k1 : Kn P w K mg base 4 "kept_behind" (spP 3 (fKeptBehind K C))) :
    Kn P w K mg base 5 "ranks_to" (spP 4 (fRanksTo K C)) := by
  refine kn_pure F hm hb sc_ranks_to rfl fun cdv A outer s H E Rs R hr h => ?_
  obtain ⟨y, goal, ns, ks, rfl, sm, lo, hg, rfl⟩ := h
  have hks : ks.length ≤ 60 := Nat.le_trans lo.len sm.sm
  have hsz : (60 : Nat) < sizeLine := by decide
  refine lb_cons <| l1_parN (is := [4, 5, 6, 7]) (lo_ow <| ln_dict1 (key := nK goal) (wk_var (i := 1) rfl) wv_int <| lo_ow <| ln_dict0 <| lo_sh <| le_int <| lo_sh <| le_bl <| lo_nil ⟨rfl, ?_⟩) (.cons sc_ranks_to.nd rfl (.inr rfl) (.inl rfl) rfl (.cons sc_ranks_to.nd rfl (.inl rfl) (.inr rfl) rfl (.cons sc_ranks_to.nd rfl (.inl rfl) (.inr rfl) rfl (.cons sc_ranks_to.nd rfl (.inl rfl) (.inr rfl) rfl .nil))))
  refine lb_cons <| l1_while (fun m S => ∃ (rk pk : List NP) (lvl : Nat) (b : Bool) (q8 q9 q10 q11 q12 : Option Ent), S = ⟨[some (.sh (yT K C y)), some (.sh (nT goal)), some (.sh (kT K ns)), some (.sh (lotT ks)), some (.ow (ownD (npD rk))), some (.ow (ownD (npD pk))), some (.sh (nT lvl)), some (.sh (bT b)), q8, q9, q10, q11, q12], 0⟩ ∧
    Ranks y ns goal ks (rk, pk) ∧ (∀ p ∈ rk, p.2 ≤ lvl) ∧ (b = false → Full y ns ks rk) ∧ m = (ks.length - rk.length) + (if b = true then 1 else 0))
    ⟨_, [(goal, 0)], [], 0, true, none, none, none, none, none, rfl, ⟨(by show ([goal] : List Nat).Nodup; exact List.nodup_cons.mpr ⟨List.not_mem_nil, List.nodup_nil⟩), fun p hp => by cases List.mem_singleton.mp hp; exact hg, List.mem_singleton.mpr rfl, fun p hp => by cases List.mem_singleton.mp hp; exact .inl ⟨rfl, rfl⟩, List.nodup_nil, fun p hp => by cases hp⟩, fun p hp => by cases List.mem_singleton.mp hp; exact Nat.le_refl _, fun z => (by cases z), rfl⟩ ?_ .never
  rintro m S1 ⟨rk, pk, lvl, b, q8, q9, q10, q11, q12, rfl, rks, hle, full, rfl⟩
  have hrk : rk.length ≤ 60 := Nat.le_trans rks.len hks
  have hpk : pk.length ≤ 60 := by
    have := nodup_len rks.pn (l := rk.map Prod.fst) fun x hx => by
      obtain ⟨p, hp, rfl⟩ := List.mem_map.mp hx
      exact rks.pk p hp
    rw [List.length_map, List.length_map] at this
    exact Nat.le_trans (show pk.length ≤ rk.length from this) hrk
  refine lt_val <| le_var (i := 7) rfl ⟨b, rfl, ?_⟩
  cases b with
  | false =>
    show LB _ _ _ _ _
    refine lb_shareD (i := 4) rfl <| lb_shareD (i := 5) rfl <| lb_cons <| l1_ret <| le_close <| le_tup <| la_cons <| le_var (i := 4) rfl <| la_cons <| le_var (i := 5) rfl <| la_nil ⟨zl (n := 2), (rk, pk), rfl, ⟨rks, full rfl⟩, rfl⟩
  | true =>
    show LB _ _ _ _ _
    refine lb_cons <| l1_par2 (i := 6) (j := 8) (lo_sh <| le_bin op_add <| le_var (i := 6) rfl <| le_int <| lr_I0 <| lo_ow <| ln_lst <| la_nil ⟨zl (n := 0), lo_nil ⟨rfl, ?_⟩⟩) sc_ranks_to.nd
    have jl : (sortN ks).length ≤ 60 := by rw [(sortN_perm ks).length_eq]; exact hks
    refine lb_cons <| l1_for [9] (li_lst <| le_cb (call_sortedDI rfl) h1 (by decide +kernel) <| la_cons <| le_var (i := 3) rfl <| la_nil <| rc_sortedDI (ks := ks.map fun (n : Nat) => (n : Int)) (by rw [List.map_map, List.map_map]; rfl) (by rw [List.length_map]; omega) ⟨_, rfl, ?_⟩) .never
    refine ⟨fun i S => ∃ q9 q10 q11 q12, S = ⟨[some (.sh (yT K C y)), some (.sh (nT goal)), some (.sh (kT K ns)), some (.sh (lotT ks)), some (.ow (ownD (npD rk))), some (.ow (ownD (npD pk))), some (.sh (nT (lvl + 1))), some (.sh (bT true)), some (.ow (ownL ((((sortN ks).take i).filterMap (pickF y ns rk)).map (prT K)))), q9, q10, q11, q12], 0⟩, ⟨q9, q10, q11, q12, rfl⟩, ?_, ?_⟩
    · rintro i R' S2 hR ⟨q9, q10, q11, q12, rfl⟩
      have hR : ((sortI (ks.map fun (n : Nat) => (n : Int))).map iT)[i]? = some R' := hR
      rw [sortN_map, List.getElem?_map] at hR
      cases e : (sortN ks)[i]? with
      | none => rw [e] at hR; cases hR
      | some n =>
        rw [e] at hR
        cases hR
        have hn : n < y.rows.length := lo.lt n ((sortN_perm ks).mem_iff.mp (List.mem_of_getElem? e))
        have a := sm.at hn
        have kl := kept_len a
        refine lg_name (i := 9) ?_ sc_ranks_to.nd
        refine lb_cons <| l1_setLcB (own := [("at", 11), ("target", 12)]) (j := 10) 4 rfl (li_lst <| le_call k1 hr (by decide) <| la_cons <| le_var (i := 0) rfl <| la_cons <| le_var (i := 9) rfl <| la_cons <| le_var (i := 2) rfl <| la_nil ⟨_, ⟨y, n, rowAt y n, ns, rfl, a, rfl⟩, rfl, _, rfl, ?_⟩) (bk (by decide +kernel)) sc_ranks_to.nd (sw_true rfl rfl rfl (by decide +kernel))
        refine lc_fil (keptF (rowAt y n) ns) (prT K) (fun p => nT p.1) (fun p => decide (p.2 ∈ rk.map Prod.fst)) (by omega) (fun p hp => ?_) ?_
        · intro s H C cl fp
          refine lg_tup ⟨_, rfl, rfl, lgs_cons <| lg_name (i := 11) (lgs_cons <| lg_name (i := 12) (lgs_nil ?_) sc_ranks_to.nd) sc_ranks_to.nd⟩
          intro s H C cl fp
          refine lt_din (hr := hr) <| le_var (i := 12) rfl <| le_var (i := 4) rfl ⟨nK p.2, _, rfl, rfl, look_np, rfl, fun _ => ?_⟩
          intro s H C cl fp
          exact le_var (i := 11) rfl ⟨rfl, rfl⟩
        have fs : ((keptF (rowAt y n) ns).filter fun p => decide (p.2 ∈ rk.map Prod.fst)).head? = (keptF (rowAt y n) ns).find? fun p => decide (p.2 ∈ rk.map Prod.fst) := List.head?_filter
        have e2 : ((sortN ks).take (i + 1)).filterMap (pickF y ns rk) = ((sortN ks).take i).filterMap (pickF y ns rk) ++ (match pickF y ns rk n with | some p => [p] | none => []) := by
          rw [take_snoc e, List.filterMap_append]
          congr 1
          rw [List.filterMap_cons]
          cases pickF y ns rk n <;> rfl
        refine ⟨?_, ?_⟩
        · have := Flat.l (((keptF (rowAt y n) ns).filter fun p => decide (p.2 ∈ rk.map Prod.fst)).map fun p => V.int p.1)
          rw [List.map_map] at this
          exact this
        generalize hsome : ((keptF (rowAt y n) ns).filter fun p => decide (p.2 ∈ rk.map Prod.fst)) = sm at fs
        refine lb_cons <| l1_if <| lt_ww <| lw_and <| lt_borrowD 4 rfl <| lt_dnotin (hr := hr) <| le_var (i := 9) rfl <| le_var (i := 4) rfl ⟨nK n, _, rfl, rfl, ?_⟩
        rw [look_np]
        by_cases hin : n ∈ rk.map Prod.fst
        · rw [decide_eq_true hin]
          show LB _ _ _ _ _
          refine lb_nil <| lb_nil ?_
          dsimp only
          rw [e2, show pickF y ns rk n = none from if_pos hin, List.append_nil]
          exact ⟨_, _, _, _, rfl⟩
        · rw [decide_eq_false hin]
          show LW _ _ _ _ _
          have es : (sm.map fun p => nT p.1) = ths K ((sm.map Prod.fst).map fun (n : Nat) => PyData.int n) := by rw [← ints_ths, List.map_map]; rfl
          rw [es]
          refine lw_and1 <| lt_cmp (op_neD (ru hr)) <| le_var (i := 10) rfl <| le_lst <| la_nil ⟨zl (n := 0), lr_neL (shaped_ints _) ⟨_, rfl, ?_⟩⟩
          have ep : pickF y ns rk n = sm.head?.map fun p => (n, p.1) := by
            unfold pickF
            rw [if_neg hin, ← fs]
          cases sm with
          | nil =>
            show LB _ _ _ _ _
            refine lb_nil <| lb_nil ?_
            dsimp only
            rw [e2, ep]
            exact ⟨_, _, _, _, by rw [List.head?_nil, Option.map_none, List.append_nil]; rfl⟩
          | cons p sm =>
            show LB _ _ _ _ _
            refine lb_cons <| l1_append 8 ⟨_, rfl⟩ (le_tup <| la_cons <| le_var (i := 9) rfl <| la_cons <| le_ix <| le_var (i := 10) rfl <| le_int ⟨_, _, nT p.1, .inr rfl, rfl, at0, la_nil ⟨zl (n := 2), _, rfl, ?_, lb_nil <| lb_nil ?_⟩⟩)
            · rw [List.length_map]
              refine Nat.lt_of_le_of_lt (List.length_filterMap_le _ _) ?_
              rw [List.length_take]
              exact Nat.lt_of_le_of_lt (Nat.le_trans (Nat.min_le_right _ _) jl) hsz
            · dsimp only
              rw [e2, ep, List.map_append]
              exact ⟨_, _, _, _, rfl⟩
    · rintro S2 ⟨q9, q10, q11, q12, rfl⟩
      rw [show ((sortI (ks.map fun (n : Nat) => (n : Int))).map fun b => vl (.int b)) = (sortN ks).map nT from sortN_map ks, List.length_map, List.take_length]
      obtain ⟨nx, nl⟩ := rks.next hle (sortN_perm ks) lo.nd
      have fl := full_of (y := y) (ns := ns) (rk := rk) (sortN_perm ks)
      have lnd := (later_nd (y := y) (ns := ns) (rk := rk) ((sortN_perm ks).nodup_iff.mpr lo.nd)).1
      have lnew : ∀ p ∈ (sortN ks).filterMap (pickF y ns rk), p.1 ∉ rk.map Prod.fst := fun p hp => by
        obtain ⟨s, _, e⟩ := List.mem_filterMap.mp hp
        obtain ⟨e1, e2, _⟩ := pick_some e
        rw [e1]; exact e2
      generalize (sortN ks).filterMap (pickF y ns rk) = la at nx nl fl lnd lnew
      have lnewp : ∀ p ∈ la, p.1 ∉ pk.map Prod.fst := fun p hp z => by
        obtain ⟨q, hq, e⟩ := List.mem_map.mp z
        exact lnew p hp (by rw [← e]; exact rks.pk q hq)
      have lla : la.length ≤ 60 := by
        have := nx.len
        have e : (nextR (lvl + 1) rk la).length = rk.length + la.length := by unfold nextR; rw [List.length_append, List.length_map]
        rw [e] at this
        omega
      refine lb_shareL (i := 8) rfl <| lb_cons <| l1_for [9, 11] (li_lst (le_var (i := 8) rfl ⟨_, rfl, ?_⟩)) .never
      refine ⟨fun i S => ∃ q9 q10 q11 q12, S = ⟨[some (.sh (yT K C y)), some (.sh (nT goal)), some (.sh (kT K ns)), some (.sh (lotT ks)), some (.ow (ownD (npD (nextR (lvl + 1) rk (la.take i))))), some (.ow (ownD (npD (pk ++ la.take i)))), some (.sh (nT (lvl + 1))), some (.sh (bT true)), some (.sh (lstT (la.map (prT K)))), q9, q10, q11, q12], 0⟩, ?_, ?_, ?_⟩
      · refine ⟨q9, q10, q11, q12, ?_⟩
        rw [List.take_zero, List.append_nil, show nextR (lvl + 1) rk [] = rk from List.append_nil _]; rfl
      · rintro i R' S2 hR ⟨q9, q10, q11, q12, rfl⟩
        rw [List.getElem?_map] at hR
        cases e : la[i]? with
        | none => rw [e] at hR; cases hR
        | some p =>
          rw [e] at hR
          cases hR
          refine lg_tup ⟨_, rfl, rfl, lgs_cons <| lg_name (i := 9) (lgs_cons <| lg_name (i := 11) (lgs_nil ?_) sc_ranks_to.nd) sc_ranks_to.nd⟩
          have nin : p.1 ∉ (la.take i).map Prod.fst := fun z => by
            obtain ⟨q, hq, e2⟩ := List.mem_map.mp z
            obtain ⟨k, hk, ek⟩ := List.mem_take_iff_getElem.mp hq
            have h1 := List.getElem?_eq_some_iff.mp e
            have := (List.getElem_inj (xs := la.map Prod.fst) (i := k) (j := i) (h₀ := by rw [List.length_map]; omega) (h₁ := by rw [List.length_map]; exact h1.1) lnd).mp (by rw [List.getElem_map, List.getElem_map, ek, h1.2, e2])
            omega
          have n1 : p.1 ∉ (nextR (lvl + 1) rk (la.take i)).map Prod.fst := by
            unfold nextR
            rw [List.map_append, List.map_map, List.mem_append]
            exact fun z => z.elim (lnew p (List.mem_of_getElem? e)) nin
          have n2 : p.1 ∉ (pk ++ la.take i).map Prod.fst := by
            rw [List.map_append, List.mem_append]
            exact fun z => z.elim (lnewp p (List.mem_of_getElem? e)) nin
          refine lb_cons <| l1_dput2 4 5 9 (key := nK p.1) (la_cons <| le_var (i := 6) rfl <| la_cons <| le_var (i := 11) rfl <| la_nil ⟨_, _, npD (nextR (lvl + 1) rk (la.take i)), npD (pk ++ la.take i), rfl, rfl, rfl, rfl, ?_, ?_, lb_nil ?_⟩) hr (by decide) (pv _) (pv _) (pv _) (pv _)
          · unfold npD nextR
            rw [List.length_map, List.length_append, List.length_map, List.length_take]
            refine Nat.lt_of_le_of_lt (?_ : _ ≤ 120) (by decide)
            have := Nat.min_le_right i la.length
            omega
          · unfold npD
            rw [List.length_map, List.length_append, List.length_take]
            refine Nat.lt_of_le_of_lt (?_ : _ ≤ 120) (by decide)
            have := Nat.min_le_right i la.length
            omega
          · dsimp only
            rw [put_np n1, put_np n2]
            have e3 : nextR (lvl + 1) rk (la.take (i + 1)) = nextR (lvl + 1) rk (la.take i) ++ [(p.1, lvl + 1)] := by
              unfold nextR
              rw [take_snoc e, List.map_append, List.append_assoc]; rfl
            have e4 : pk ++ la.take (i + 1) = pk ++ la.take i ++ [(p.1, p.2)] := by rw [take_snoc e, List.append_assoc]
            rw [e3, e4]
            exact ⟨_, _, _, _, rfl⟩
      · rintro S2 ⟨q9, q10, q11, q12, rfl⟩
        rw [List.length_map, List.take_length, prs_ths]
        refine lb_cons <| l1_set (i := 7) (le_cmp (op_neD (ru hr)) <| le_var (i := 8) rfl <| le_lst <| la_nil ⟨zl (n := 0), lr_neL (shaped_prs la) ?_⟩) sc_ranks_to.nd
        refine lb_nil ⟨_, ?_, nextR (lvl + 1) rk la, pk ++ la, lvl + 1, !(la.map fun p => PyData.tuple [.int p.1, .int p.2]).isEmpty, _, _, _, _, _, rfl, nx, nl, fun z => ?_, rfl⟩
        · have e : (nextR (lvl + 1) rk la).length = rk.length + la.length := by unfold nextR; rw [List.length_append, List.length_map]
          have l1 := nx.len
          rw [e] at l1 ⊢
          cases la with
          | nil => simp
          | cons p la => simp at l1 ⊢; omega
        · cases la with
          | nil => rw [show nextR (lvl + 1) rk [] = rk from List.append_nil _]; exact fl rfl
          | cons p la => cases z
end
end DL
set_option Elab.async false
set_option linter.all false
set_option maxRecDepth 100000
set_option maxHeartbeats 4000000
namespace DL
open PySem PySem.Spec L2
open PyProof.Rows hiding St
open PySem.W (Datum Tup)
section
variable {X : Cx} {pn : Option Addr} {e : Expr} {S : LSt} {PB : Bool → LSt → Prop}
theorem borrow_runV {K : PySem.W.Frag} {B : Base} {Hs : Hp} {σ : St} {H : Hp} {T : VK → Prop} {O : Own} {R : Th} {P : V → LSt → Prop} (i : Nat) (o : StOK K pn B Hs S σ H) (h : S.ρ[i]? = some (some (.ow O))) (hR : ∀ (Hs : Hp) (a : Addr) u, Hs a = some u → O.p Hs a u → R.p Hs (.ref a))
    (q : ∀ B1 Hs1, StOK K pn B1 Hs1 ⟨wipeR (S.put i R).ρ [], S.n⟩ σ H → ∀ Q : VK, (∀ x S' Hs' H', P x ⟨S.ρ, S'.n⟩ → StOK K pn B1 Hs' S' σ H' → Same Hs1 Hs' → Q x H') → T Q)
    (Q : VK) (k : ∀ x S' Hs' H', P x S' → StOK K pn B Hs' S' σ H' → Same Hs Hs' → Q x H') : T Q := by
  obtain ⟨a, u, hσ, hn, hu, hp, ol⟩ := o.lend h hR
  refine q ⟨upd Hs a u, H, B.c⟩ (upd Hs a u) (ol.blk []) Q fun y S' Hs' H' p o' e' => ?_
  have x := o'.e
  have w0 : Same Hs Hs' := (Same.upd hn).trans x.s
  refine k _ _ Hs H' p (o.extN ⟨.refl _, w0.trans x.w, x.k, x.t, fun _ h _ => h⟩ fun b hb => ?_) (.refl _)
  obtain ⟨⟨h0, ns, t, r, e1, e2, e3, e4⟩, _⟩ := o'.pen b hb
  obtain ⟨⟨k0, ns0, t0, r0, f1, f2, f3, f4⟩, _⟩ := o.pen b hb
  exact ⟨k0, ns0, t, r, e1, f2, f3, e4⟩
theorem lt_borrowL {Rs : List Th} (i : Nat) (h : S.ρ[i]? = some (some (.ow (ownL Rs)))) (q : LT X pn e ⟨wipeR (S.put i (lstT Rs)).ρ [], S.n⟩ fun b S' => PB b ⟨S.ρ, S'.n⟩) : LT X pn e S PB := by
  intro B Hs σ H o Q k
  have := borrow_runV (P := fun x S' => ∃ b, x = .bl b ∧ PB b S') (T := fun Q => WT X e σ H fun b H' => Q (.bl b) H') i o h share_L
    (fun B1 Hs1 o1 Q k => q B1 Hs1 σ H o1 _ fun b S' Hs' H' p o' e' => k (.bl b) S' Hs' H' ⟨b, rfl, p⟩ o' e') (fun v H' => match v with | .bl b => Q b H' | _ => False)
    (fun x S' Hs' H' ⟨b, e1, p⟩ o' e' => by
      subst e1
      exact k b S' Hs' H' p o' e')
  exact this
end
/-! ### come_to -/
theorem kept_uniq {r : Row} {ns : List Nat} {a t t' : Nat} (h : (a, t) ∈ keptF r ns) (h' : (a, t') ∈ keptF r ns) : t = t' := by
  have gen : ∀ {α : Type} {l : List α} {g : α → Nat} {q : α → List Nat} {a t : Nat}, (a, t) ∈ ((l.zipIdx.map fun p => ((p.2, g p.1, q p.1) : Edge))).map (fun e => (e.1, e.2.1)) → ∃ x, l[a]? = some x ∧ g x = t := by
    intro α l g q a t h
    obtain ⟨e, he, e1⟩ := List.mem_map.mp h
    obtain ⟨p, hp, rfl⟩ := List.mem_map.mp he
    cases e1
    exact ⟨p.1, List.mem_zipIdx_iff_getElem?.mp hp, rfl⟩
  have sub : ∀ {l : List Edge} {t : Nat × Nat} (u : Edge → Bool), t ∈ (l.filter u).map (fun e => (e.1, e.2.1)) → t ∈ l.map (fun e => (e.1, e.2.1)) := fun u h => by
    obtain ⟨e, he, e1⟩ := List.mem_map.mp h
    exact List.mem_map.mpr ⟨e, (List.mem_filter.mp he).1, e1⟩
  unfold keptF at h h'
  have h := sub _ h
  have h' := sub _ h'
  cases r with
  | luck os =>
    have h := sub _ (show (a, t) ∈ (List.filter _ _).map _ from h)
    have h' := sub _ (show (a, t') ∈ (List.filter _ _).map _ from h')
    obtain ⟨x, e1, e2⟩ := gen (l := os) (g := Prod.fst) (q := fun o => knF o.2 ns) h
    obtain ⟨x', e1', e2'⟩ := gen (l := os) (g := Prod.fst) (q := fun o => knF o.2 ns) h'
    rw [e1] at e1'; cases e1'; rw [← e2, ← e2']
  | mine as =>
    obtain ⟨x, e1, e2⟩ := gen (l := as) (g := Prod.snd) (q := fun _ => ns) h
    obtain ⟨x', e1', e2'⟩ := gen (l := as) (g := Prod.snd) (q := fun _ => ns) h'
    rw [e1] at e1'; cases e1'; rw [← e2, ← e2']
  | foe as =>
    obtain ⟨x, e1, e2⟩ := gen (l := as) (g := Prod.snd) (q := fun _ => ns) h
    obtain ⟨x', e1', e2'⟩ := gen (l := as) (g := Prod.snd) (q := fun _ => ns) h'
    rw [e1] at e1'; cases e1'; rw [← e2, ← e2']
  | fin => cases h
/-- what is asked of a lot in which all come to a goal -/
structure Home (y : YardD) (ns : List Nat) (goal : Nat) (ks : List Nat) (rk pk : List NP) : Prop where
  sm : Sm y ns
  lo : LotOk y ks
  g : goal ∈ ks
  lk : ∃ os, rowAt y goal = .luck os
  st : ∀ s ∈ ks, stays y ns (fun t => decide (t ∈ ks)) s = true
  rks : Ranks y ns goal ks (rk, pk)
  all : ∀ s ∈ ks, s ∈ rk.map Prod.fst
/-- who goes from s to where -/
def goes (y : YardD) (ns : List Nat) (pk : List NP) (s : Nat) (p : NP) : Prop := p ∈ keptF (rowAt y s) ns ∧ ((∃ os, rowAt y s = .luck os) ∨ (s, p.1) ∈ pk)
structure Come (y : YardD) (ns : List Nat) (goal : Nat) (ks : List Nat) (pk : List NP) (fd : List Nat) : Prop where
  nd : fd.Nodup
  sub : ∀ s ∈ fd, s ∈ ks
  g : goal ∈ fd
  cl : ∀ s ∈ fd, ∀ p, goes y ns pk s p → p.2 ∈ fd
theorem look_pk {pk : List NP} {s a : Nat} (nd : (pk.map Prod.fst).Nodup) (h : (s, a) ∈ pk) : lookT (npD pk) (nK s) = some (nT a) := by
  unfold lookT npD
  induction pk with
  | nil => cases h
  | cons p pk ih =>
    obtain ⟨n1, n2⟩ := List.nodup_cons.mp nd
    rw [List.map_cons, List.find?_cons]
    by_cases e : p.1 = s
    · have : p = (s, a) := by
        rcases List.mem_cons.mp h with h | h
        · exact h.symm
        · exact absurd (List.mem_map.mpr ⟨_, h, e.symm⟩) n1
      subst this
      simp
    · have : decide (nK p.1 = nK s) = false := decide_eq_false fun z => e (nK_inj.mp z)
      rw [show decide ((nK p.1, nT p.2).1 = nK s) = false from this]
      refine ih n2 ?_
      rcases List.mem_cons.mp h with h | h
      · exact absurd (by rw [← h]) e
      · exact h
theorem Home.mine {y : YardD} {ns : List Nat} {goal : Nat} {ks : List Nat} {rk pk : List NP} (h : Home y ns goal ks rk pk) {s : Nat} (hs : s ∈ ks) (hl : ¬ ∃ os, rowAt y s = .luck os) : ∃ a t l l', (s, l') ∈ rk ∧ (a, t) ∈ keptF (rowAt y s) ns ∧ (s, a) ∈ pk ∧ (t, l) ∈ rk ∧ l < l' ∧ s ≠ goal := by
  obtain ⟨p, hp, e⟩ := List.mem_map.mp (h.all s hs)
  have ng : s ≠ goal := fun z => hl (by rw [z]; exact h.lk)
  rcases h.rks.st p hp with ⟨z, _⟩ | ⟨_, _, a, t, l, z3, z4, z5, z6⟩
  · exact absurd (by rw [← e]; exact z) ng
  · rw [e] at z3 z4
    exact ⟨a, t, l, p.2, by rw [← e]; exact hp, z3, z4, z5, z6, ng⟩
theorem Home.goes {y : YardD} {ns : List Nat} {goal : Nat} {ks : List Nat} {rk pk : List NP} (h : Home y ns goal ks rk pk) {s : Nat} (hs : s ∈ ks) {p : NP} (hg : goes y ns pk s p) : p.2 ∈ ks := by
  obtain ⟨h1, h2⟩ := hg
  by_cases hl : ∃ os, rowAt y s = .luck os
  · obtain ⟨os, e⟩ := hl
    have := h.st s hs
    unfold stays at this
    rw [e] at this h1
    exact of_decide_eq_true (List.all_eq_true.mp (show (keptF (.luck os) ns).all (fun p => decide (p.2 ∈ ks)) = true from this) p h1)
  · rcases h2 with z | z
    · exact absurd z hl
    · obtain ⟨a, t, l, l', _, z3, z4, z5, _⟩ := h.mine hs hl
      have e : a = p.1 := by
        have e1 := look_pk h.rks.pn z
        rw [look_pk h.rks.pn z4] at e1
        have : ∀ {m n : Nat}, nT m = nT n → m = n := fun {m n} e => by
          have h1 : (nT m).p (fun _ => none) (.int m) := rfl
          rw [e] at h1
          have := (show V.int (m : Int) = V.int (n : Int) from h1)
          injection this with this
          omega
        exact this (Option.some.inj e1)
      subst e
      rw [kept_uniq (t := p.2) (t' := t) h1 z3]
      exact h.rks.sub _ z5
section
variable {P : Program} {w : World} {K : PySem.W.Frag} {mg : Str → Option Value} {base : Heap} {f C : Addr} {fd : FuncData}
abbrev st_come_to : Stmt := top 65
abbrev ctN : List Str := ["yard", "first", "knowledge", "picked", "found", "line", "state", "at", "target"]
theorem sc_come_to : Scp ctN ["yard", "first", "knowledge", "picked"] st_come_to := ⟨rfl, rfl, rfl, by decide +kernel, rfl, by decide +kernel, by decide +kernel⟩
def fComeTo (K : PySem.W.Frag) (C : Addr) : PFn := fun Rs R => ∃ (y : YardD) (goal : Nat) (ns ks : List Nat) (rk pk : List NP), Rs = [yT K C y, nT goal, kT K ns, dicT (npD pk)] ∧ Home y ns goal ks rk pk ∧ R = exT (Come y ns goal ks pk) lotT
theorem put_lot {ks : List Nat} {n : Nat} (h : n ∉ ks) : putT (ks.map fun n => (nK n, bT true)) (nK n) (bT true) = (ks ++ [n]).map fun n => (nK n, bT true) := by
  rw [put_new fun z => h ?_]
  · rw [List.map_append]; rfl
  · obtain ⟨x, hx, e⟩ := List.mem_map.mp z
    obtain ⟨p, hp, rfl⟩ := List.mem_map.mp hx
    rw [← nK_inj.mp e]; exact hp
theorem kn_come_to (F : Fun K "come_to" "come_to" st_come_to f fd) (hm : mg "come_to" = some (.ref f)) (hb : Binds K fd ["yard", "first", "knowledge", "picked"] []) (c2 : Cst mg "LUCK" (.str "luck")) (k1 : Kn P w K mg base 4 "kept_behind" (spP 3 (fKeptBehind K C))) (k2 : KnM P w K mg base 1 C "kind" (spP 2 (fKind K C))) :
    Kn P w K mg base 5 "come_to" (spP 4 (fComeTo K C)) := by
  refine kn_pure F hm hb sc_come_to rfl fun cdv A outer s H E Rs R hr h => ?_
  obtain ⟨y, goal, ns, ks, rk, pk, rfl, ho, rfl⟩ := h
  have hks : ks.length ≤ 60 := Nat.le_trans ho.lo.len ho.sm.sm
  have hsz : (200 : Nat) < sizeLine := by decide
  refine lb_cons <| l1_par2 (i := 4) (j := 5) (lo_ow <| ln_dict1 (key := nK goal) (wk_var (i := 1) rfl) wv_bl <| lo_ow <| ln_lst <| la_cons <| le_var (i := 1) rfl <| la_nil ⟨zl (n := 1), lo_nil ⟨rfl, ?_⟩⟩) sc_come_to.nd
  refine lb_cons <| l1_while (fun m S => ∃ (fd ln : List Nat) (q6 q7 q8 : Option Ent), S = ⟨[some (.sh (yT K C y)), some (.sh (nT goal)), some (.sh (kT K ns)), some (.sh (dicT (npD pk))), some (.ow (ownD (fd.map fun n => (nK n, bT true)))), some (.ow (ownL (ln.map nT))), q6, q7, q8], 0⟩ ∧
    fd.Nodup ∧ (∀ s ∈ fd, s ∈ ks) ∧ goal ∈ fd ∧ (∀ s ∈ ln, s ∈ fd) ∧ (∀ s ∈ fd, s ∉ ln → ∀ p, goes y ns pk s p → p.2 ∈ fd) ∧ 2 * (ks.length - fd.length) + ln.length ≤ 120 ∧ m = 2 * (ks.length - fd.length) + ln.length)
    ⟨_, [goal], [goal], none, none, none, rfl, List.nodup_cons.mpr ⟨List.not_mem_nil, List.nodup_nil⟩, fun s hs => by cases List.mem_singleton.mp hs; exact ho.g, List.mem_singleton.mpr rfl, fun s hs => hs, fun s hs hn => absurd hs hn, (by show 2 * (ks.length - 1) + 1 ≤ 120; omega), rfl⟩ ?_ .never
  rintro m S1 ⟨fd, ln, q6, q7, q8, rfl, nd, sub, hg, lin, cl, hb120, rfl⟩
  have hfd : fd.length ≤ ks.length := nodup_len nd sub
  refine lt_borrowL 5 rfl <| lt_cmp (op_neD (ru hr)) <| le_var (i := 5) rfl ?_
  rw [ints_ths]
  refine le_lst <| la_nil ⟨zl (n := 0), lr_neL (shaped_ints _) ⟨_, rfl, ?_⟩⟩
  rcases List.eq_nil_or_concat ln with rfl | ⟨lm, n, eln⟩
  · show LB _ _ _ _ _
    refine lb_shareD (i := 4) rfl <| lb_cons <| l1_ret <| le_close <| le_var (i := 4) rfl ⟨fd, rfl, ⟨nd, sub, hg, fun s hs => cl s hs List.not_mem_nil⟩, rfl⟩
  · rw [List.concat_eq_append] at eln
    subst eln
    have e0 : (!((lm ++ [n]).map fun (n : Nat) => PyData.int n).isEmpty) = true := by simp
    rw [e0]
    show LB _ _ _ _ _
    simp only [List.length_append, List.length_singleton] at hb120
    have e5 : ths K ((lm ++ [n]).map fun (n : Nat) => PyData.int n) = lm.map nT ++ [nT n] := by rw [← ints_ths, List.map_append]; rfl
    have hn : n ∈ fd := lin n (by simp)
    have hnk : n ∈ ks := sub n hn
    have a := ho.sm.at (ho.lo.lt n hnk)
    refine lb_cons <| l1_set (i := 6) (le_pop 5 (Rs := lm.map nT) (R := nT n) (congrArg (fun z => some (some (Ent.ow (ownL z)))) e5) ?_) sc_come_to.nd
    refine lb_cons <| l1_for [7, 8] (li_lst <| le_call k1 hr (by decide) <| la_cons <| le_var (i := 0) rfl <| la_cons <| le_var (i := 6) rfl <| la_cons <| le_var (i := 2) rfl <| la_nil ⟨_, ⟨y, n, rowAt y n, ns, rfl, a, rfl⟩, rfl, _, rfl, ?_⟩) .never
    refine ⟨fun i S => ∃ (gd ln' : List Nat) (q7 q8 : Option Ent), S = ⟨[some (.sh (yT K C y)), some (.sh (nT goal)), some (.sh (kT K ns)), some (.sh (dicT (npD pk))), some (.ow (ownD (gd.map fun n => (nK n, bT true)))), some (.ow (ownL (ln'.map nT))), some (.sh (nT n)), q7, q8], 0⟩ ∧
      gd.Nodup ∧ (∀ s ∈ gd, s ∈ ks) ∧ (∀ s ∈ fd, s ∈ gd) ∧ (∀ s ∈ ln', s ∈ gd) ∧ (∀ s ∈ gd, s ∉ ln' → s ≠ n → ∀ p, goes y ns pk s p → p.2 ∈ gd) ∧ (∀ p ∈ (keptF (rowAt y n) ns).take i, goes y ns pk n p → p.2 ∈ gd) ∧ 2 * (ks.length - gd.length) + ln'.length ≤ 2 * (ks.length - fd.length) + lm.length,
      ⟨fd, lm, q7, q8, rfl, nd, sub, fun s hs => hs, fun s hs => lin s (by simp [hs]), fun s hs h1 h2 => cl s hs (by simp [h1, h2]), fun p hp => (by cases hp), Nat.le_refl _⟩, ?_, ?_⟩
    · rintro i R' S2 hR ⟨gd, ln', q7, q8, rfl, nd', sub', mono, lin', cl', tk, hm⟩
      rw [List.getElem?_map] at hR
      cases e : (keptF (rowAt y n) ns)[i]? with
      | none => rw [e] at hR; cases hR
      | some p =>
        rw [e] at hR
        cases hR
        have hp : p ∈ keptF (rowAt y n) ns := List.mem_of_getElem? e
        have hgd : gd.length ≤ ks.length := nodup_len nd' sub'
        refine lg_tup ⟨_, rfl, rfl, lgs_cons <| lg_name (i := 7) (lgs_cons <| lg_name (i := 8) (lgs_nil ?_) sc_come_to.nd) sc_come_to.nd⟩
        have skip : ∀ S', S' = (⟨[some (.sh (yT K C y)), some (.sh (nT goal)), some (.sh (kT K ns)), some (.sh (dicT (npD pk))), some (.ow (ownD (gd.map fun n => (nK n, bT true)))), some (.ow (ownL (ln'.map nT))), some (.sh (nT n)), some (.sh (nT p.1)), some (.sh (nT p.2))], 0⟩ : LSt) → (goes y ns pk n p → p.2 ∈ gd) → ∃ (gd ln' : List Nat) (q7 q8 : Option Ent), S' = ⟨[some (.sh (yT K C y)), some (.sh (nT goal)), some (.sh (kT K ns)), some (.sh (dicT (npD pk))), some (.ow (ownD (gd.map fun n => (nK n, bT true)))), some (.ow (ownL (ln'.map nT))), some (.sh (nT n)), q7, q8], 0⟩ ∧
            gd.Nodup ∧ (∀ s ∈ gd, s ∈ ks) ∧ (∀ s ∈ fd, s ∈ gd) ∧ (∀ s ∈ ln', s ∈ gd) ∧ (∀ s ∈ gd, s ∉ ln' → s ≠ n → ∀ p, goes y ns pk s p → p.2 ∈ gd) ∧ (∀ p ∈ (keptF (rowAt y n) ns).take (i + 1), goes y ns pk n p → p.2 ∈ gd) ∧ 2 * (ks.length - gd.length) + ln'.length ≤ 2 * (ks.length - fd.length) + lm.length := fun S' eS hgo =>
          ⟨gd, ln', _, _, eS, nd', sub', mono, lin', cl', fun p' hp' hg' => by
            rw [take_snoc e] at hp'
            rcases List.mem_append.mp hp' with hp' | hp'
            · exact tk p' hp' hg'
            · cases List.mem_singleton.mp hp'; exact hgo hg', hm⟩
        refine lb_cons <| l1_if <| lt_ww <| lw_or <| lt_cmp op_eq <| le_meth k2 hr (by decide) <| le_var (i := 0) rfl ⟨_, rfl, rfl, la_cons <| le_var (i := 6) rfl <| la_nil ⟨_, ⟨y, n, rowAt y n, rfl, a.row, rfl⟩, rfl, le_cst c2 <| lr_eq rfl ⟨_, rfl, ?_⟩⟩⟩
        by_cases hl : ∃ os, rowAt y n = .luck os
        · have hgo : goes y ns pk n p := ⟨hp, .inl hl⟩
          have e1 : decide (V.str (kindS (rowAt y n)) = V.str "luck") = true := by
            obtain ⟨os, e⟩ := hl
            rw [e]; exact (by decide : decide (V.str "luck" = V.str "luck") = true)
          rw [e1]
          show LB _ _ _ _ _
          refine lb_cons <| l1_if <| lt_borrowD 4 rfl <| lt_dnotin (hr := hr) <| le_var (i := 8) rfl <| le_var (i := 4) rfl ⟨nK p.2, _, rfl, rfl, ?_⟩
          rw [look_lot]
          by_cases hin : p.2 ∈ gd
          · rw [decide_eq_true hin]
            show LB _ _ _ _ _
            exact lb_nil <| lb_nil <| lb_nil <| skip _ rfl fun _ => hin
          · rw [decide_eq_false hin]
            show LB _ _ _ _ _
            have hk2 : p.2 ∈ ks := ho.goes hnk hgo
            have nd2 : (gd ++ [p.2]).Nodup := List.nodup_append.mpr ⟨nd', List.nodup_cons.mpr ⟨List.not_mem_nil, List.nodup_nil⟩, fun a ha b hb z => hin (by cases List.mem_singleton.mp hb; rw [← z]; exact ha)⟩
            have sub2 : ∀ s ∈ gd ++ [p.2], s ∈ ks := fun s hs => (List.mem_append.mp hs).elim (sub' s) fun hs => by cases List.mem_singleton.mp hs; exact hk2
            have l2 : (gd ++ [p.2]).length ≤ ks.length := nodup_len nd2 sub2
            rw [List.length_append] at l2
            have l2 : gd.length + 1 ≤ ks.length := l2
            refine lb_cons <| l1_dput 4 ⟨_, rfl⟩ (le_bl <| le_var (i := 8) rfl ⟨nK p.2, _, rfl, rfl, by rw [List.length_map]; omega, ?_⟩) (ps_dput (hu_of hr) (pv _) pe_we pe_we rfl)
            refine lb_cons <| l1_append 5 ⟨_, rfl⟩ (le_var (i := 8) rfl ⟨_, rfl, by rw [List.length_map]; omega, ?_⟩)
            refine lb_nil <| lb_nil <| lb_nil ?_
            refine ⟨gd ++ [p.2], ln' ++ [p.2], some (.sh (nT p.1)), some (.sh (nT p.2)), ?_, nd2, sub2, fun s hs => List.mem_append_left _ (mono s hs), fun s hs => (List.mem_append.mp hs).elim (fun hs => List.mem_append_left _ (lin' s hs)) fun hs => List.mem_append_right _ hs, fun s hs h1 h2 q hq => ?_, fun q hq hg' => ?_, ?_⟩
            · rw [put_lot hin, List.map_append, List.map_append]; rfl
            · rcases List.mem_append.mp hs with hs | hs
              · exact List.mem_append_left _ (cl' s hs (fun z => h1 (List.mem_append_left _ z)) h2 q hq)
              · exact absurd (List.mem_append_right _ hs) h1
            · rw [take_snoc e] at hq
              rcases List.mem_append.mp hq with hq | hq
              · exact List.mem_append_left _ (tk q hq hg')
              · cases List.mem_singleton.mp hq; exact List.mem_append_right _ (List.mem_singleton.mpr rfl)
            · simp only [List.length_append, List.length_singleton]; omega
        · have e1 : decide (V.str (kindS (rowAt y n)) = V.str "luck") = false := by
            cases er : rowAt y n with
            | luck os => exact absurd ⟨os, er⟩ hl
            | mine as => exact (by decide : decide (V.str "mine" = V.str "luck") = false)
            | foe as => exact (by decide : decide (V.str "foe" = V.str "luck") = false)
            | fin => exact (by decide : decide (V.str "end" = V.str "luck") = false)
          rw [e1]
          show LW _ _ _ _ _
          obtain ⟨b, t, l, l', _, z3, z4, z5, z6, z7⟩ := ho.mine hnk hl
          refine lw_or1 <| lt_cmp op_eq <| le_var (i := 7) rfl <| le_dget (hr := hr) <| le_var (i := 3) rfl <| le_var (i := 6) rfl ⟨nK n, npD pk, nT b, rfl, rfl, look_pk ho.rks.pn z4, lr_eq rfl ⟨_, rfl, ?_⟩⟩
          by_cases eb : p.1 = b
          · have hgo : goes y ns pk n p := ⟨hp, .inr (by rw [eb]; exact z4)⟩
            rw [decide_eq_true (show V.int (p.1 : Int) = V.int (b : Int) by rw [eb])]
            show LB _ _ _ _ _
            refine lb_cons <| l1_if <| lt_borrowD 4 rfl <| lt_dnotin (hr := hr) <| le_var (i := 8) rfl <| le_var (i := 4) rfl ⟨nK p.2, _, rfl, rfl, ?_⟩
            rw [look_lot]
            by_cases hin : p.2 ∈ gd
            · rw [decide_eq_true hin]
              show LB _ _ _ _ _
              exact lb_nil <| lb_nil <| lb_nil <| skip _ rfl fun _ => hin
            · rw [decide_eq_false hin]
              show LB _ _ _ _ _
              have hk2 : p.2 ∈ ks := ho.goes hnk hgo
              have nd2 : (gd ++ [p.2]).Nodup := List.nodup_append.mpr ⟨nd', List.nodup_cons.mpr ⟨List.not_mem_nil, List.nodup_nil⟩, fun a ha b hb z => hin (by cases List.mem_singleton.mp hb; rw [← z]; exact ha)⟩
              have sub2 : ∀ s ∈ gd ++ [p.2], s ∈ ks := fun s hs => (List.mem_append.mp hs).elim (sub' s) fun hs => by cases List.mem_singleton.mp hs; exact hk2
              have l2 : (gd ++ [p.2]).length ≤ ks.length := nodup_len nd2 sub2
              rw [List.length_append] at l2
              have l2 : gd.length + 1 ≤ ks.length := l2
              refine lb_cons <| l1_dput 4 ⟨_, rfl⟩ (le_bl <| le_var (i := 8) rfl ⟨nK p.2, _, rfl, rfl, by rw [List.length_map]; omega, ?_⟩) (ps_dput (hu_of hr) (pv _) pe_we pe_we rfl)
              refine lb_cons <| l1_append 5 ⟨_, rfl⟩ (le_var (i := 8) rfl ⟨_, rfl, by rw [List.length_map]; omega, ?_⟩)
              refine lb_nil <| lb_nil <| lb_nil ?_
              refine ⟨gd ++ [p.2], ln' ++ [p.2], some (.sh (nT p.1)), some (.sh (nT p.2)), ?_, nd2, sub2, fun s hs => List.mem_append_left _ (mono s hs), fun s hs => (List.mem_append.mp hs).elim (fun hs => List.mem_append_left _ (lin' s hs)) fun hs => List.mem_append_right _ hs, fun s hs h1 h2 q hq => ?_, fun q hq hg' => ?_, ?_⟩
              · rw [put_lot hin, List.map_append, List.map_append]; rfl
              · rcases List.mem_append.mp hs with hs | hs
                · exact List.mem_append_left _ (cl' s hs (fun z => h1 (List.mem_append_left _ z)) h2 q hq)
                · exact absurd (List.mem_append_right _ hs) h1
              · rw [take_snoc e] at hq
                rcases List.mem_append.mp hq with hq | hq
                · exact List.mem_append_left _ (tk q hq hg')
                · cases List.mem_singleton.mp hq; exact List.mem_append_right _ (List.mem_singleton.mpr rfl)
              · simp only [List.length_append, List.length_singleton]; omega

          · rw [decide_eq_false (show ¬ V.int (p.1 : Int) = V.int (b : Int) from fun z => eb (by injection z with z; omega))]
            show LB _ _ _ _ _
            refine lb_nil <| lb_nil <| skip _ rfl fun hg' => ?_
            rcases hg'.2 with z | z
            · exact absurd z hl
            · have e2 := look_pk ho.rks.pn z
              rw [look_pk ho.rks.pn z4] at e2
              have h1 : (nT b).p (fun _ => none) (.int b) := rfl
              rw [Option.some.inj e2] at h1
              have h1 := (show V.int (b : Int) = V.int (p.1 : Int) from h1)
              injection h1 with h1
              exact absurd (by omega) eb
    · rintro S2 ⟨gd, ln', q7, q8, rfl, nd', sub', mono, lin', cl', tk, hm⟩
      rw [List.length_map, List.take_length] at tk
      refine lb_nil ⟨_, ?_, gd, ln', _, q7, q8, rfl, nd', sub', mono goal hg, lin', fun s hs h1 p hgo => ?_, (by omega), rfl⟩
      · simp only [List.length_append, List.length_singleton]; omega
      · by_cases z : s = n
        · subst z; exact tk p hgo.1 hgo
        · exact cl' s hs h1 z p hgo
end
end DL
set_option Elab.async false
set_option linter.all false
set_option maxRecDepth 100000
set_option maxHeartbeats 4000000
namespace DL
open PySem PySem.Spec L2
open PyProof.Rows hiding St
open PySem.W (Datum Tup)
/-- target = e -/
theorem l1_asgG {X : Cx} {pn : Option Addr} {e tg : Expr} {pos : Pos} {S : LSt} {D : LD} (vs : List Nat) (h : LE X pn e S fun R S1 => LG X pn vs tg S1 R D.nx) (hs : swapsWithSole [tg] e pos.line X.env = pure false := by rfl) (hw : swappedStores [tg] e X.env = pure none := by rfl)
    (h1 : (assignEach [tg] X.env).map (·.2) = [assign tg X.env] := by rfl) : L1 X pn (.Assign [tg] e pos) S D := by
  intro B Hs σ H o E t
  refine ws_of (ps_asg pe_we pg_wg hs hw h1) (h B Hs σ H o _ fun R S1 v Hs1 H1 p o1 e1 r => ?_)
  exact p B Hs1 σ H1 v o1 r E.nx fun S2 σ2 Hs2 H2 p2 o2 e2 _ => t.nx S2 Hs2 σ2 H2 p2 o2
def pkAt (pk : List NP) (s : Nat) : Nat := ((pk.find? fun p => decide (p.1 = s)).map Prod.snd).getD 0
theorem look_at : ∀ {pk : List NP} {s : Nat}, s ∈ pk.map Prod.fst → lookT (npD pk) (nK s) = some (nT (pkAt pk s)) ∧ (s, pkAt pk s) ∈ pk
  | [], _, h => by cases h
  | p :: pk, s, h => by
    by_cases e : p.1 = s
    · subst e
      constructor
      · unfold lookT npD pkAt
        simp
      · unfold pkAt
        simp
    · have hm : s ∈ pk.map Prod.fst := by
        rcases List.mem_cons.mp h with h | h
        · exact absurd h.symm e
        · exact h
      obtain ⟨h1, h2⟩ := look_at hm
      have e1 : pkAt (p :: pk) s = pkAt pk s := by
        unfold pkAt
        rw [List.find?_cons, decide_eq_false e]
      rw [e1]
      refine ⟨?_, List.mem_cons_of_mem _ h2⟩
      rw [← h1]
      unfold lookT npD
      rw [List.map_cons, List.find?_cons, show decide ((nK p.1, nT p.2).1 = nK s) = false from decide_eq_false fun z => e (nK_inj.mp z)]
theorem npD_as {rk : List NP} (nd : (rk.map Prod.fst).Nodup) : npD rk = (rk.map Prod.fst).map fun n => (nK n, nT (pkAt rk n)) := by
  unfold npD
  rw [List.map_map]
  refine List.map_congr_left fun p hp => ?_
  obtain ⟨h1, _⟩ := look_at (pk := rk) (s := p.1) (List.mem_map.mpr ⟨p, hp, rfl⟩)
  rw [look_pk (a := p.2) nd hp] at h1
  show (nK p.1, nT p.2) = (nK p.1, nT (pkAt rk p.1))
  rw [Option.some.inj h1]
/-- a set of states that keeps in itself and comes to a goal -/
structure Good (y : YardD) (ns : List Nat) (goal : Nat) (T : Nat → Bool) : Prop where
  lt : ∀ s, T s = true → s < y.rows.length
  st : ∀ s, T s = true → stays y ns T s = true
  go : ∃ ρ : Nat → Nat, ∀ s, T s = true → s = goal ∨ ∃ p ∈ keptF (rowAt y s) ns, T p.2 = true ∧ ρ p.2 < ρ s
theorem Good.in_ranks {y : YardD} {ns : List Nat} {goal : Nat} {T : Nat → Bool} {ks : List Nat} {rk pk : List NP} (h : Good y ns goal T) (sub : ∀ s, T s = true → s ∈ ks) (rks : Ranks y ns goal ks (rk, pk)) (full : Full y ns ks rk) : ∀ s, T s = true → s ∈ rk.map Prod.fst := by
  obtain ⟨ρ, hρ⟩ := h.go
  have main : ∀ n s, ρ s ≤ n → T s = true → s ∈ rk.map Prod.fst := by
    intro n
    induction n with
    | zero =>
      intro s hs ht
      rcases hρ s ht with rfl | ⟨p, _, _, hl⟩
      · exact List.mem_map.mpr ⟨_, rks.g, rfl⟩
      · omega
    | succ n ih =>
      intro s hs ht
      rcases hρ s ht with rfl | ⟨p, hp, ht', hl⟩
      · exact List.mem_map.mpr ⟨_, rks.g, rfl⟩
      · have := ih p.2 (by omega) ht'
        exact Decidable.byContradiction fun hn => full s (sub s ht) hn p hp this
  exact fun s => main (ρ s) s (Nat.le_refl _)
/-- a row of a stay -/
abbrev SR : Type := Nat × Option Str × Nat
def stT (K : PySem.W.Frag) (r : SR) : Th := tupT K [nT r.1, (match r.2.1 with | some x => sT x | none => vl .non), nT r.2.2]
structure StayRows (y : YardD) (ns : List Nat) (goal : Nat) (rows : List SR) : Prop where
  nd : (rows.map Prod.fst).Nodup
  g : goal ∈ rows.map Prod.fst
  lt : ∀ r ∈ rows, r.1 < y.rows.length
  z : ∀ r ∈ rows, (r.2.2 = 0 ↔ r.1 = goal)
  row : ∀ r ∈ rows, (∃ os, rowAt y r.1 = .luck os ∧ r.2.1 = none ∧ (∀ p ∈ keptF (.luck os) ns, p.2 ∈ rows.map Prod.fst) ∧ (r.1 ≠ goal → ∃ p ∈ keptF (.luck os) ns, ∃ q ∈ rows, q.1 = p.2 ∧ q.2.2 < r.2.2)) ∨
    (∃ (as : List (Str × Nat)) (a : Nat) (x : Str) (t : Nat), rowAt y r.1 = .mine as ∧ as[a]? = some (x, t) ∧ r.2.1 = some x ∧ ∃ q ∈ rows, q.1 = t ∧ (r.1 ≠ goal → q.2.2 < r.2.2))
theorem kept_mine {as : List (Str × Nat)} {ns : List Nat} {a t : Nat} (h : (a, t) ∈ keptF (.mine as) ns) : ∃ x, as[a]? = some (x, t) := by
  unfold keptF at h
  obtain ⟨e, he, e1⟩ := List.mem_map.mp h
  have he := (List.mem_filter.mp he).1
  obtain ⟨p, hp, rfl⟩ := List.mem_map.mp (show e ∈ (as.zipIdx.map fun p => ((p.2, p.1.2, ns) : Edge)) from he)
  cases e1
  exact ⟨p.1.1, List.mem_zipIdx_iff_getElem?.mp hp⟩
def actAt (y : YardD) (pk : List NP) (s : Nat) : Option Str := match rowAt y s with
  | .mine as => some (as.getD (pkAt pk s) ("", 0)).1
  | _ => none
def rowsF (y : YardD) (rk pk : List NP) (fd : List Nat) : List SR := (sortN fd).map fun s => (s, actAt y pk s, pkAt rk s)
theorem stay_rows {y : YardD} {ns : List Nat} {goal : Nat} {ks : List Nat} {rk pk : List NP} {fd : List Nat} (h : Home y ns goal ks rk pk) (c : Come y ns goal ks pk fd) : StayRows y ns goal (rowsF y rk pk fd) := by
  have keys : (rowsF y rk pk fd).map Prod.fst = sortN fd := by
    unfold rowsF; rw [List.map_map]; exact List.map_id _
  have mem : ∀ {s}, s ∈ sortN fd ↔ s ∈ fd := (sortN_perm fd).mem_iff
  have rank : ∀ {s l}, (s, l) ∈ rk → pkAt rk s = l := fun {s l} hm => by
    have h2 := (look_at (pk := rk) (s := s) (List.mem_map.mpr ⟨_, hm, rfl⟩)).1
    rw [look_pk h.rks.nd hm] at h2
    have h1 : (nT l).p (fun _ => none) (.int l) := rfl
    rw [Option.some.inj h2] at h1
    have h1 := (show V.int (l : Int) = V.int (pkAt rk s : Int) from h1)
    injection h1 with h1
    omega
  have entry : ∀ {s}, s ∈ fd → (s, pkAt rk s) ∈ rk := fun hs => (look_at (h.all _ (c.sub _ hs))).2
  have inrows : ∀ {s}, s ∈ fd → (s, actAt y pk s, pkAt rk s) ∈ rowsF y rk pk fd := fun hs => List.mem_map.mpr ⟨_, mem.mpr hs, rfl⟩
  refine ⟨by rw [keys]; exact (sortN_perm fd).nodup_iff.mpr c.nd, by rw [keys]; exact mem.mpr c.g, ?_, ?_, ?_⟩
  · rintro r hr
    obtain ⟨s, hs, rfl⟩ := List.mem_map.mp hr
    exact h.lo.lt _ (c.sub _ (mem.mp hs))
  · rintro r hr
    obtain ⟨s, hs, rfl⟩ := List.mem_map.mp hr
    have hs := mem.mp hs
    rcases h.rks.st _ (entry hs) with ⟨z1, z2⟩ | ⟨z1, z2, _⟩
    · exact ⟨fun _ => z1, fun _ => z2⟩
    · exact ⟨fun z => absurd (show pkAt rk s = 0 from z) (by have : 1 ≤ pkAt rk s := z2; omega), fun z => absurd z z1⟩
  · rintro r hr
    obtain ⟨s, hs, rfl⟩ := List.mem_map.mp hr
    have hs := mem.mp hs
    have hk := c.sub _ hs
    by_cases hl : ∃ os, rowAt y s = .luck os
    · obtain ⟨os, e⟩ := hl
      refine .inl ⟨os, e, by show actAt y pk s = none; unfold actAt; rw [e], fun p hp => ?_, fun hg => ?_⟩
      · rw [keys]
        exact mem.mpr (c.cl s hs p ⟨by rw [e]; exact hp, .inl ⟨os, e⟩⟩)
      · rcases h.rks.st _ (entry hs) with ⟨z1, z2⟩ | ⟨z1, z2, a, t, l, z3, z4, z5, z6⟩
        · exact absurd z1 hg
        · rw [show rowAt y (s, pkAt rk s).1 = .luck os from e] at z3
          have ht : t ∈ fd := c.cl s hs (a, t) ⟨by rw [e]; exact z3, .inl ⟨os, e⟩⟩
          exact ⟨(a, t), z3, _, inrows ht, rfl, by show pkAt rk t < pkAt rk s; rw [rank z5]; exact z6⟩
    · obtain ⟨a, t, l, l', z0, z3, z4, z5, z6, z7⟩ := h.mine hk hl
      have st := h.st s hk
      unfold stays at st
      cases e : rowAt y s with
      | luck os => exact absurd ⟨os, e⟩ hl
      | foe as => rw [e] at st; cases st
      | fin => rw [e] at st; cases st
      | mine as =>
        rw [e] at z3
        obtain ⟨x, ex⟩ := kept_mine z3
        have ep : pkAt pk s = a := by
          have h2 := (look_at (pk := pk) (s := s) (List.mem_map.mpr ⟨_, z4, rfl⟩)).1
          rw [look_pk h.rks.pn z4] at h2
          have h1 : (nT a).p (fun _ => none) (.int a) := rfl
          rw [Option.some.inj h2] at h1
          have h1 := (show V.int (a : Int) = V.int (pkAt pk s : Int) from h1)
          injection h1 with h1
          omega
        have ht : t ∈ fd := c.cl s hs (a, t) ⟨by rw [e]; exact z3, .inr z4⟩
        refine .inr ⟨as, a, x, t, rfl, ex, ?_, _, inrows ht, rfl, fun _ => ?_⟩
        · show actAt y pk s = some x
          unfold actAt
          rw [e, ep]
          show some (as.getD a ("", 0)).1 = _
          rw [List.getD_eq_getElem?_getD, ex]; rfl
        · show pkAt rk t < pkAt rk s
          rw [rank z5, rank z0]; exact z6
theorem home_good {y : YardD} {ns : List Nat} {goal : Nat} {ks : List Nat} {rk pk : List NP} (h : Home y ns goal ks rk pk) : Good y ns goal fun s => decide (s ∈ ks) := by
  refine ⟨fun s hs => h.lo.lt s (of_decide_eq_true hs), fun s hs => h.st s (of_decide_eq_true hs), pkAt rk, fun s hs => ?_⟩
  have hs := of_decide_eq_true hs
  have hm := (look_at (h.all s hs)).2
  rcases h.rks.st _ hm with ⟨z1, _⟩ | ⟨z1, z2, a, t, l, z3, z4, z5, z6⟩
  · exact .inl z1
  · refine .inr ⟨(a, t), z3, decide_eq_true (h.rks.sub _ z5), ?_⟩
    have h2 := (look_at (pk := rk) (s := t) (List.mem_map.mpr ⟨_, z5, rfl⟩)).1
    rw [look_pk h.rks.nd z5] at h2
    have h1 : (nT l).p (fun _ => none) (.int l) := rfl
    rw [Option.some.inj h2] at h1
    have h1 := (show V.int (l : Int) = V.int (pkAt rk t : Int) from h1)
    injection h1 with h1
    show pkAt rk t < pkAt rk s
    have z6 : l < pkAt rk s := z6
    omega
/-- what a stay is: none just if there is no good set with the goal -/
def StayP (y : YardD) (ns : List Nat) (goal : Nat) : Option (List SR) → Prop
  | none => ∀ T, Good y ns goal T → T goal = false
  | some rows => rows.length ≤ 60 ∧ StayRows y ns goal rows ∧ ∃ T, Good y ns goal T ∧ T goal = true
def stayT (K : PySem.W.Frag) : Option (List SR) → Th
  | none => vl .non
  | some rows => tupT K (rows.map (stT K))
end DL
set_option Elab.async false
set_option linter.all false
set_option maxRecDepth 100000
set_option maxHeartbeats 4000000
namespace DL
open PySem PySem.Spec L2
open PyProof.Rows hiding St
open PySem.W (Datum Tup)
section
variable {P : Program} {w : World} {K : PySem.W.Frag} {mg : Str → Option Value} {base : Heap} {f C : Addr} {fd : FuncData}
theorem pk_eq {pk : List NP} {s a : Nat} (nd : (pk.map Prod.fst).Nodup) (h : (s, a) ∈ pk) : pkAt pk s = a := by
  have h2 := (look_at (pk := pk) (s := s) (List.mem_map.mpr ⟨_, h, rfl⟩)).1
  rw [look_pk nd h] at h2
  have h1 : (nT a).p (fun _ => none) (.int a) := rfl
  rw [Option.some.inj h2] at h1
  have h1 := (show V.int (a : Int) = V.int (pkAt pk s : Int) from h1)
  injection h1 with h1
  omega
abbrev st_stay_in : Stmt := top 66
abbrev siN : List Str := ["yard", "state", "knowledge", "allowed", "lot", "ranks", "picked", "found", "one", "act"]
theorem sc_stay_in : Scp siN ["yard", "state", "knowledge", "allowed"] st_stay_in := ⟨rfl, rfl, rfl, by decide +kernel, rfl, by decide +kernel, by decide +kernel⟩
def fStayIn (K : PySem.W.Frag) (C : Addr) : PFn := fun Rs R => ∃ (y : YardD) (goal : Nat) (ns : List Nat), Rs = [yT K C y, nT goal, kT K ns, lstT ((List.range y.rows.length).map nT)] ∧ Sm y ns ∧ (∃ os, rowAt y goal = .luck os) ∧ R = exT (StayP y ns goal) (stayT K)
theorem lenD {X : Cx} {pn : Option Addr} {S : LSt} {Q : Th → LSt → Prop} {e : Expr} {x : Str} {p pos : Pos} (h1 : Blt X.mg "len") (h : LE X pn e S fun R S1 => ∃ kvs, R = dicT kvs ∧ Q (nT kvs.length) S1) (hx : x = "len" := by rfl) (hg : Gl X "len" := by rfl)
    (he : starEach [e] X.env = (false, eval e X.env) :: starEach [] X.env := by rfl) (hpl : (backTo pos (starEach [] X.env)).any (·.1) = false := by rfl) : LE X pn (.Call (.Name x p) [e] [] pos) S Q := by
  subst hx
  exact le_cb call_lenR h1 (by decide +kernel) (la_cons (h.mono fun R S1 ⟨kvs, e, q⟩ => la_nil (by subst e; exact rc_lenD q)) he) hg (by decide) (by decide) he hpl
theorem kn_stay_in (F : Fun K "stay_in" "stay_in" st_stay_in f fd) (hm : mg "stay_in" = some (.ref f)) (hb : Binds K fd ["yard", "state", "knowledge", "allowed"] []) (h1 : Blt mg "len") (h2 : Blt mg "sorted") (h3 : Blt mg "tuple") (c3 : Cst mg "MINE" (.str "mine"))
    (k1 : Kn P w K mg base 6 "closed_lot" (spP 3 (fClosedLot K C))) (k2 : Kn P w K mg base 5 "ranks_to" (spP 4 (fRanksTo K C))) (k3 : Kn P w K mg base 5 "come_to" (spP 4 (fComeTo K C))) (k4 : KnM P w K mg base 1 C "kind" (spP 2 (fKind K C))) (k5 : KnM P w K mg base 1 C "acts" (spP 2 (fActs K C))) :
    Kn P w K mg base 7 "stay_in" (spP 4 (fStayIn K C)) := by
  refine kn_pure F hm hb sc_stay_in rfl fun cdv A outer s H E Rs R hr h => ?_
  obtain ⟨y, goal, ns, rfl, sm, hlk, rfl⟩ := h
  have hN := sm.sm
  have hsz : (200 : Nat) < sizeLine := by decide
  refine lb_cons <| l1_par3 (i := 4) (j := 5) (l := 6) (lo_sh <| le_newD <| ln_dc (own := [("one", 8)]) (li_lst (le_var (i := 3) rfl ⟨_, rfl, ?_⟩)) (bk (by decide +kernel)) sc_stay_in.nd) sc_stay_in.nd
  refine dc_map (List.range y.rows.length) nT nK (fun _ => bT true) (by rw [List.length_range]; omega) (List.pairwise_map.mpr (List.nodup_range.imp fun h z => h (nK_inj.mp z))) (fun n hn => ?_) ⟨_, rfl, ?_⟩
  · intro s H C cl fp
    refine lg_name (i := 8) ?_ sc_stay_in.nd
    intro s H C cl fp
    refine le_var (i := 8) rfl ⟨rfl, ?_⟩
    intro s H C cl fp
    exact le_bl ⟨rfl, rfl⟩
  refine lo_sh <| le_newD <| ln_dict0 ⟨_, rfl, lo_sh <| le_newD <| ln_dict0 ⟨_, rfl, lo_nil ⟨rfl, ?_⟩⟩⟩
  refine lb_cons <| l1_while (fun m S => ∃ (js : List Nat) (g : Nat → Th) (rk pk : List NP) (q7 q8 q9 : Option Ent), S = ⟨[some (.sh (yT K C y)), some (.sh (nT goal)), some (.sh (kT K ns)), some (.sh (lstT ((List.range y.rows.length).map nT))), some (.sh (dicT (js.map fun n => (nK n, g n)))), some (.sh (dicT (npD rk))), some (.sh (dicT (npD pk))), q7, q8, q9], 0⟩ ∧
    LotOk y js ∧ (∀ T, Good y ns goal T → ∀ s, T s = true → s ∈ js) ∧ (rk.length = js.length → Home y ns goal js rk pk) ∧ (rk.length ≠ js.length → rk = []) ∧ m = (if rk.length = js.length then 0 else js.length + 1))
    ⟨_, List.range y.rows.length, fun _ => bT true, [], [], none, none, none, rfl, ⟨List.nodup_range, fun s hs => List.mem_range.mp hs⟩, fun T hT s hs => List.mem_range.mpr (hT.lt s hs), fun z => absurd (show 0 = (List.range y.rows.length).length from z) (by rw [List.length_range]; have := sm.ok.r1; omega), fun _ => rfl, rfl⟩ ?_ .never
  rintro m S1 ⟨js, g, rk, pk, q7, q8, q9, rfl, lo, gr, fin, more, rfl⟩
  refine lt_cmp op_ne <| lenD h1 <| le_var (i := 5) rfl ⟨_, rfl, lenD h1 <| le_var (i := 4) rfl ⟨_, rfl, lr_ne rfl ⟨_, rfl, ?_⟩⟩⟩
  have el : decide (V.int ((npD rk).length : Nat) = V.int ((js.map fun n => (nK n, g n)).length : Nat)) = decide (rk.length = js.length) := by
    unfold npD
    rw [List.length_map, List.length_map]
    exact decide_eq_decide.mpr ⟨fun z => by injection z with z; omega, fun z => by rw [z]⟩
  rw [el]
  by_cases eq : rk.length = js.length
  · rw [decide_eq_true eq]
    show LB _ _ _ _ _
    have ho := fin eq
    refine lb_cons <| l1_setO (i := 7) (ln_lst <| la_nil ⟨zl (n := 0), ?_⟩) sc_stay_in.nd
    refine lb_cons <| l1_for [8] (li_lst <| le_cb (call_sortedDI rfl) h2 (by decide +kernel) <| la_cons <| le_open <| le_call k3 hr (by decide) <| la_cons <| le_var (i := 0) rfl <| la_cons <| le_var (i := 1) rfl <| la_cons <| le_var (i := 2) rfl <| la_cons <| le_var (i := 6) rfl <| la_nil ⟨_, ⟨y, goal, ns, js, rk, pk, rfl, ho, rfl⟩, rfl, rfl, fun fd hc => la_nil <| rc_sortedDI (ks := fd.map fun (n : Nat) => (n : Int)) (by rw [List.map_map, List.map_map]; rfl) ?_ ⟨_, rfl, ?_⟩⟩) .never
    · rw [List.length_map]
      have := nodup_len hc.nd hc.sub
      have := Nat.le_trans lo.len hN
      omega
    have lfd : (sortN fd).length ≤ 60 := by
      rw [(sortN_perm fd).length_eq]
      exact Nat.le_trans (nodup_len hc.nd hc.sub) (Nat.le_trans lo.len hN)
    refine ⟨fun i S => ∃ q8 q9, S = ⟨[some (.sh (yT K C y)), some (.sh (nT goal)), some (.sh (kT K ns)), some (.sh (lstT ((List.range y.rows.length).map nT))), some (.sh (dicT (js.map fun n => (nK n, g n)))), some (.sh (dicT (npD rk))), some (.sh (dicT (npD pk))), some (.ow (ownL (((sortN fd).take i).map fun s => stT K (s, actAt y pk s, pkAt rk s)))), q8, q9], 0⟩, ⟨q8, q9, rfl⟩, ?_, ?_⟩
    · rintro i R' S2 hR ⟨q8, q9, rfl⟩
      have hR : ((sortI (fd.map fun (n : Nat) => (n : Int))).map iT)[i]? = some R' := hR
      rw [sortN_map, List.getElem?_map] at hR
      cases e : (sortN fd)[i]? with
      | none => rw [e] at hR; cases hR
      | some n =>
        rw [e] at hR
        cases hR
        have hnk : n ∈ js := hc.sub n ((sortN_perm fd).mem_iff.mp (List.mem_of_getElem? e))
        have a := sm.at (lo.lt n hnk)
        refine lg_name (i := 8) ?_ sc_stay_in.nd
        have e2 : ((sortN fd).take (i + 1)).map (fun s => stT K (s, actAt y pk s, pkAt rk s)) = ((sortN fd).take i).map (fun s => stT K (s, actAt y pk s, pkAt rk s)) ++ [tupT K [nT n, (match actAt y pk n with | some x => sT x | none => vl .non), nT (pkAt rk n)]] := by
          rw [take_snoc e, List.map_append]; rfl
        refine lb_cons <| l1_set (i := 9) (le_if <| lt_cmp op_eq <| le_meth k4 hr (by decide) <| le_var (i := 0) rfl ⟨_, rfl, rfl, la_cons <| le_var (i := 8) rfl <| la_nil ⟨_, ⟨y, n, rowAt y n, rfl, a.row, rfl⟩, rfl, le_cst c3 <| lr_eq rfl ⟨_, rfl, ?_⟩⟩⟩) sc_stay_in.nd
        have lt7 : (((sortN fd).take i).map fun s => stT K (s, actAt y pk s, pkAt rk s)).length < sizeLine := by
          rw [List.length_map, List.length_take]
          exact Nat.lt_of_le_of_lt (Nat.le_trans (Nat.min_le_right _ _) lfd) (by decide)
        have rkn := (look_at (ho.all n hnk)).1
        by_cases hl : ∃ as, rowAt y n = .mine as
        · obtain ⟨as, er⟩ := hl
          have e1 : decide (V.str (kindS (rowAt y n)) = V.str "mine") = true := by
            rw [er]; exact (by decide : decide (V.str "mine" = V.str "mine") = true)
          rw [e1]
          show LE _ _ _ _ _
          obtain ⟨b, t, l, l', _, z3, z4, _, _, _⟩ := ho.mine hnk (fun ⟨os, z⟩ => by rw [er] at z; cases z)
          rw [er] at z3
          obtain ⟨x, ex⟩ := kept_mine z3
          have ea : actAt y pk n = some x := by
            unfold actAt
            rw [er, pk_eq ho.rks.pn z4]
            show some (as.getD b ("", 0)).1 = _
            rw [List.getD_eq_getElem?_getD, ex]; rfl
          rw [ea] at e2
          refine le_ix <| le_ix <| le_meth k5 hr (by decide) <| le_var (i := 0) rfl ⟨_, rfl, rfl, la_cons <| le_var (i := 8) rfl <| la_nil ⟨_, ⟨y, n, rowAt y n, rfl, a.row, rfl⟩, rfl, le_dget (hr := hr) <| le_var (i := 6) rfl <| le_var (i := 8) rfl ⟨nK n, npD pk, nT b, rfl, rfl, look_pk ho.rks.pn z4, _, _, actT K (x, t), .inl rfl, rfl, ?_, le_int ⟨_, _, sT x, .inl rfl, rfl, rfl, ?_⟩⟩⟩⟩
          · rw [er]
            exact atI_nat (by rw [List.getElem?_map, show (actsOf (.mine as))[b]? = some (x, t) from ex]; rfl)
          refine lb_cons <| l1_append 7 ⟨_, rfl⟩ (le_tup <| la_cons <| le_var (i := 8) rfl <| la_cons <| le_var (i := 9) rfl <| la_cons <| le_dget (hr := hr) <| le_var (i := 5) rfl <| le_var (i := 8) rfl ⟨nK n, npD rk, nT (pkAt rk n), rfl, rfl, rkn, la_nil ⟨zl (n := 3), _, rfl, lt7, lb_nil ?_⟩⟩)
          dsimp only
          rw [e2]
          exact ⟨_, _, rfl⟩
        · have e1 : decide (V.str (kindS (rowAt y n)) = V.str "mine") = false := by
            cases er : rowAt y n with
            | mine as => exact absurd ⟨as, er⟩ hl
            | luck os => exact (by decide : decide (V.str "luck" = V.str "mine") = false)
            | foe as => exact (by decide : decide (V.str "foe" = V.str "mine") = false)
            | fin => exact (by decide : decide (V.str "end" = V.str "mine") = false)
          rw [e1]
          show LE _ _ _ _ _
          have ea : actAt y pk n = none := by
            unfold actAt
            cases er : rowAt y n with
            | mine as => exact absurd ⟨as, er⟩ hl
            | luck os => rfl
            | foe as => rfl
            | fin => rfl
          rw [ea] at e2
          refine le_non ?_
          refine lb_cons <| l1_append 7 ⟨_, rfl⟩ (le_tup <| la_cons <| le_var (i := 8) rfl <| la_cons <| le_var (i := 9) rfl <| la_cons <| le_dget (hr := hr) <| le_var (i := 5) rfl <| le_var (i := 8) rfl ⟨nK n, npD rk, nT (pkAt rk n), rfl, rfl, rkn, la_nil ⟨zl (n := 3), _, rfl, lt7, lb_nil ?_⟩⟩)
          dsimp only
          rw [e2]
          exact ⟨_, _, rfl⟩
    · rintro S2 ⟨q8, q9, rfl⟩
      rw [show ((sortI (fd.map fun (n : Nat) => (n : Int))).map fun b => vl (.int b)) = (sortN fd).map nT from sortN_map fd, List.length_map, List.take_length]
      refine lb_shareL (i := 7) rfl <| lb_cons <| l1_ret <| le_close <| le_ct call_tuple_of h3 (by decide +kernel) <| la_cons <| le_var (i := 7) rfl <| la_nil <| rc_tuple (.inr rfl) ⟨some (rowsF y rk pk fd), ?_, ⟨?_, stay_rows ho hc, _, home_good ho, decide_eq_true ho.g⟩, rfl⟩
      · show tupT K _ = tupT K ((rowsF y rk pk fd).map (stT K))
        unfold rowsF
        rw [List.map_map]; rfl
      · unfold rowsF
        rw [List.length_map]; exact lfd
  · rw [decide_eq_false eq]
    show LB _ _ _ _ _
    have hjs : js.length ≤ 60 := Nat.le_trans lo.len hN
    refine lb_cons <| l1_set (i := 4) (le_call k1 hr (by decide) <| la_cons <| le_var (i := 0) rfl <| la_cons <| le_var (i := 2) rfl <| la_cons <| le_var (i := 4) rfl <| la_nil ⟨_, ⟨y, ns, js, g, rfl, sm, lo, rfl⟩, rfl, ?_⟩) sc_stay_in.nd
    refine lb_open 4 rfl fun ks cl => ?_
    have lk := lo.sub cl.sub
    have gr2 : ∀ T, Good y ns goal T → ∀ s, T s = true → s ∈ ks := fun T hT => cl.gr T (gr T hT) hT.st
    refine lb_cons <| l1_if <| lt_dnotin (hr := hr) <| le_var (i := 1) rfl <| le_var (i := 4) rfl ⟨nK goal, _, rfl, rfl, ?_⟩
    rw [look_lot]
    by_cases hg : goal ∈ ks
    · rw [decide_eq_true hg]
      show LB _ _ _ _ _
      refine lb_nil <| lb_cons <| l1_asgG [5, 6] (le_open <| le_call k2 hr (by decide) <| la_cons <| le_var (i := 0) rfl <| la_cons <| le_var (i := 1) rfl <| la_cons <| le_var (i := 2) rfl <| la_cons <| le_var (i := 4) rfl <| la_nil ⟨_, ⟨y, goal, ns, ks, rfl, sm, lk, hg, rfl⟩, rfl, rfl, fun q hq => ?_⟩)
      obtain ⟨rk2, pk2⟩ := q
      obtain ⟨rks, full⟩ := hq
      refine lg_tup ⟨_, rfl, rfl, lgs_cons <| lg_name (i := 5) (lgs_cons <| lg_name (i := 6) (lgs_nil ?_) sc_stay_in.nd) sc_stay_in.nd⟩
      refine lb_cons <| l1_if <| lt_cmp op_ne <| lenD h1 <| le_var (i := 5) rfl ⟨_, rfl, lenD h1 <| le_var (i := 4) rfl ⟨_, rfl, lr_ne rfl ⟨_, rfl, ?_⟩⟩⟩
      have el2 : decide (V.int ((npD rk2).length : Nat) = V.int ((ks.map fun n => (nK n, bT true)).length : Nat)) = decide (rk2.length = ks.length) := by
        unfold npD
        rw [List.length_map, List.length_map]
        exact decide_eq_decide.mpr ⟨fun z => by injection z with z; omega, fun z => by rw [z]⟩
      rw [el2]
      have lks : ks.length ≤ js.length := cl.sub.length_le
      by_cases eq2 : rk2.length = ks.length
      · rw [decide_eq_true eq2]
        show LB _ _ _ _ _
        refine lb_nil <| lb_nil ⟨0, ?_, ks, fun _ => bT true, rk2, pk2, q7, q8, q9, rfl, lk, gr2, fun _ => ⟨sm, lk, hg, hlk, cl.st, rks, ?_⟩, fun z => absurd eq2 z, by rw [if_pos eq2]⟩
        · rw [if_neg eq]; omega
        · intro s hs
          refine Decidable.byContradiction fun hn => ?_
          have := nodup_len (ks := s :: rk2.map Prod.fst) (l := ks) (List.nodup_cons.mpr ⟨hn, rks.nd⟩) fun x hx => (List.mem_cons.mp hx).elim (fun z => by rw [z]; exact hs) fun hx => by
            obtain ⟨p, hp, rfl⟩ := List.mem_map.mp hx
            exact rks.sub p hp
          rw [List.length_cons, List.length_map] at this
          omega
      · rw [decide_eq_false eq2]
        show LB _ _ _ _ _
        have lr := rks.len
        refine lb_cons <| l1_par2 (i := 4) (j := 5) (lo_sh <| le_var (i := 5) rfl <| lo_sh <| le_newD <| ln_dict0 ⟨_, rfl, lo_nil ⟨rfl, ?_⟩⟩) sc_stay_in.nd
        have lr : rk2.length ≤ ks.length := lr
        have hne : rk2.map Prod.fst ≠ [] := fun z => by
          have := rks.g
          rw [List.map_eq_nil_iff.mp z] at this; cases this
        have lpos := List.length_pos_iff.mpr hne
        have e9 := npD_as rks.nd
        have e9 : npD rk2 = (rk2.map Prod.fst).map fun n => (nK n, nT (pkAt rk2 n)) := e9
        rw [e9]
        refine lb_nil <| lb_nil ⟨(rk2.map Prod.fst).length + 1, ?_, rk2.map Prod.fst, fun n => nT (pkAt rk2 n), [], pk2, q7, q8, q9, rfl, ⟨rks.nd, fun s hs => ?_⟩, fun T hT s hs => hT.in_ranks (gr2 T hT) rks full s hs, fun z => absurd (show 0 = (rk2.map Prod.fst).length from z) (by omega), fun _ => rfl, by rw [if_neg (show ¬ (([] : List NP).length = (rk2.map Prod.fst).length) from fun z => by have z : 0 = (rk2.map Prod.fst).length := z; omega)]⟩
        · rw [if_neg eq, List.length_map]; omega
        · obtain ⟨p, hp, rfl⟩ := List.mem_map.mp hs
          exact lk.lt _ (rks.sub p hp)
    · rw [decide_eq_false hg]
      show LB _ _ _ _ _
      refine lb_cons <| l1_ret <| le_close <| le_non ⟨none, rfl, fun T hT => ?_, rfl⟩
      cases q : T goal with
      | false => rfl
      | true => exact absurd (gr2 T hT goal q) hg
end
end DL
set_option Elab.async false
set_option linter.all false
set_option maxRecDepth 100000
set_option maxHeartbeats 4000000
namespace DL
open PySem PySem.Spec L2
open PyProof.Rows hiding St
open PySem.W (Datum Tup)
theorem le_listRg {X : Cx} {pn : Option Addr} {S : LSt} {Q : Th → LSt → Prop} {a : Expr} {x y : Str} {p p2 pos pos2 : Pos} (hl : Blt X.mg "list") (hr : Blt X.mg "range") (h : LE X pn a S fun R S1 => ∃ n : Nat, R = nT n ∧ n ≤ 1000 ∧ Q (lstT ((List.range n).map nT)) S1)
    (hx : x = "list" := by rfl) (hy : y = "range" := by rfl) (hg : Gl X "list" := by rfl) (hg2 : Gl X "range" := by rfl) (hc : X.calm = true := by rfl) (na : starEach [.Call (.Name y p2) [a] [] pos2] X.env = (false, eval (.Call (.Name y p2) [a] [] pos2) X.env) :: starEach [] X.env := by rfl)
    (nb : starEach [a] X.env = (false, eval a X.env) :: starEach [] X.env := by rfl) : LE X pn (.Call (.Name x p) [.Call (.Name y p2) [a] [] pos2] [] pos) S Q := by
  subst hx hy
  intro B Hs σ H o Q' k
  refine we_of (pe_listRg hc hg hl (prg_1 hg2 hr pe_we nb) na) (h B Hs σ H o _ fun R S1 v Hs1 H1 h1 o1 e1 r1 => ?_)
  obtain ⟨n, rfl, hn, q⟩ := h1
  refine ⟨(n : Int), r1, RgOk.of_le (by omega) (by omega) (by omega) (by omega), fun l hl => ?_⟩
  have w := Same.upd (o := .lst (rgV 0 n)) (o1.w.free hl)
  refine k _ S1 _ _ _ q (o1.new hl) (e1.trans w) ⟨l, rgV 0 n, rfl, upd_same, ?_⟩
  unfold rgV
  rw [show ((n : Int) - 0).toNat = n by omega]
  have : ∀ (l : List Nat) (H : Hp), Alls H (l.map nT) (l.map fun i => V.int (0 + (i : Nat))) := by
    intro l H
    induction l with
    | nil => exact .nil
    | cons i l ih => exact .cons (by show V.int _ = V.int _; rw [Int.zero_add]) ih
  exact this _ _
section
variable {P : Program} {w : World} {K : PySem.W.Frag} {mg : Str → Option Value} {base : Heap} {f C : Addr} {fd : FuncData}
abbrev st_need_luck : Stmt := top 67
theorem sc_need_luck : Scp ["yard", "state", "knowledge"] ["yard", "state", "knowledge"] st_need_luck := ⟨rfl, rfl, rfl, by decide +kernel, rfl, by decide +kernel, by decide +kernel⟩
/-- what may be asked -/
structure Ask (y : YardD) (s : Nat) (ns : List Nat) : Prop where
  sm : Sm y ns
  lt : s < y.rows.length
  lk : ∃ os, rowAt y s = .luck os
  kn : KnOk y ns
def fNeedLuck (K : PySem.W.Frag) (C : Addr) : PFn := fun Rs R => ∃ (y : YardD) (s : Nat) (ns : List Nat) (R1 : Th), Rs = [yT K C y, nT s, R1] ∧ SeqT K R1 (ns.map nT) ∧ Ask y s ns ∧ R = kT K ns
theorem kn_need_luck (F : Fun K "need_luck" "need_luck" st_need_luck f fd) (hm : mg "need_luck" = some (.ref f)) (hb : Binds K fd ["yard", "state", "knowledge"] []) (c2 : Cst mg "LUCK" (.str "luck")) (k1 : Kn P w K mg base 1 "need_yard" (spP 1 (fNeedYard K C))) (k2 : Kn P w K mg base 2 "need_state" (spP 2 (fNeedState K C)))
    (k3 : KnM P w K mg base 1 C "kind" (spP 2 (fKind K C))) (k4 : Kn P w K mg base 3 "is_knowledge" (spP 2 (fIsKnowledge K C))) (k5 : Kn P w K mg base 2 "fixed" (spP 1 (fFixed K 1))) : Kn P w K mg base 4 "need_luck" (spP 3 (fNeedLuck K C)) := by
  refine kn_pure F hm hb sc_need_luck rfl fun cdv A outer s H E Rs R hr h => ?_
  obtain ⟨y, n, ns, R1, rfl, sq, ask, rfl⟩ := h
  refine lb_cons <| l1_drop <| le_call k1 hr (by decide) <| la_cons <| le_var (i := 0) rfl <| la_nil ⟨_, ⟨y, rfl, rfl⟩, rfl, ?_⟩
  refine lb_cons <| l1_drop <| le_call k2 hr (by decide) <| la_cons <| le_var (i := 0) rfl <| la_cons <| le_var (i := 1) rfl <| la_nil ⟨_, ⟨y, n, rfl, ask.lt, rfl⟩, rfl, ?_⟩
  refine lb_cons <| l1_if <| lt_cmp op_ne <| le_meth k3 hr (by decide) <| le_var (i := 0) rfl ⟨_, rfl, rfl, la_cons <| le_var (i := 1) rfl <| la_nil ⟨_, ⟨y, n, rowAt y n, rfl, rowAt_get ask.lt, rfl⟩, rfl, le_cst c2 <| lr_ne rfl ⟨_, rfl, ?_⟩⟩⟩
  have e1 : (!decide (V.str (kindS (rowAt y n)) = V.str "luck")) = false := by
    obtain ⟨os, e⟩ := ask.lk
    rw [e]; exact (by decide : (!decide (V.str "luck" = V.str "luck")) = false)
  rw [e1]
  show LB _ _ _ _ _
  refine lb_nil <| lb_cons <| l1_if <| lt_not <| lt_val <| le_call k4 hr (by decide) <| la_cons <| le_var (i := 0) rfl <| la_cons <| le_var (i := 2) rfl <| la_nil ⟨_, ⟨y, R1, ns, rfl, sq, ask.kn, rfl⟩, rfl, true, rfl, lb_nil ?_⟩
  have dk : ∀ d : PyData, (d = .list (ns.map fun (n : Nat) => PyData.int n) ∨ d = .tuple (ns.map fun (n : Nat) => PyData.int n)) → depD 1 d ∧ th K (fixD d) = kT K ns := by
    have hl : (ns.map fun (n : Nat) => PyData.int n).length ≤ 1000 := by rw [List.length_map]; exact ask.sm.l
    have e : ths K (fixDs (ns.map fun (n : Nat) => PyData.int n)) = ns.map nT := by rw [ths_map, fixDs_map, List.map_map, List.map_map]; rfl
    have dm : ∀ x ∈ (ns.map fun (n : Nat) => PyData.int n), depD 0 x := fun x hx => by
      obtain ⟨i, _, rfl⟩ := List.mem_map.mp hx
      exact trivial
    rintro d (rfl | rfl)
    · exact ⟨⟨hl, dm⟩, congrArg (tupT K) e⟩
    · exact ⟨⟨hl, dm⟩, congrArg (tupT K) e⟩
  refine lb_cons <| l1_ret <| le_call k5 hr (by decide) <| la_cons <| le_var (i := 2) rfl <| la_nil ⟨kT K ns, ?_, rfl, rfl⟩
  rcases sq with rfl | rfl
  · exact ⟨.tuple (ns.map fun (n : Nat) => PyData.int n), congrArg (fun z => [tupT K z]) (ints_ths ns), (dk _ (.inr rfl)).1, (dk _ (.inr rfl)).2.symm⟩
  · exact ⟨.list (ns.map fun (n : Nat) => PyData.int n), congrArg (fun z => [lstT z]) (ints_ths ns), (dk _ (.inl rfl)).1, (dk _ (.inl rfl)).2.symm⟩
abbrev st_stay : Stmt := top 69
theorem sc_stay : Scp ["yard", "state", "knowledge", "told"] ["yard", "state", "knowledge"] st_stay := ⟨rfl, rfl, rfl, by decide +kernel, rfl, by decide +kernel, by decide +kernel⟩
def NoFoe (y : YardD) : Prop := ∀ r ∈ y.rows, kindS r ≠ "foe"
def fStay (K : PySem.W.Frag) (C : Addr) : PFn := fun Rs R => ∃ (y : YardD) (s : Nat) (ns : List Nat) (R1 : Th), Rs = [yT K C y, nT s, R1] ∧ SeqT K R1 (ns.map nT) ∧ Ask y s ns ∧ NoFoe y ∧ R = exT (StayP y ns s) (stayT K)
theorem kn_stay (F : Fun K "stay" "stay" st_stay f fd) (hm : mg "stay" = some (.ref f)) (hb : Binds K fd ["yard", "state", "knowledge"] []) (yc : YC K C) (h1 : Blt mg "len") (h2 : Blt mg "list") (h3 : Blt mg "range") (c4 : Cst mg "FOE" (.str "foe")) (k1 : Kn P w K mg base 4 "need_luck" (spP 3 (fNeedLuck K C)))
    (k2 : Kn P w K mg base 1 "has_kind" (spP 2 (fHasKind K C))) (k3 : Kn P w K mg base 7 "stay_in" (spP 4 (fStayIn K C))) : Kn P w K mg base 8 "stay" (spP 3 (fStay K C)) := by
  refine kn_pure F hm hb sc_stay rfl fun cdv A outer s H E Rs R hr h => ?_
  obtain ⟨y, n, ns, R1, rfl, sq, ask, nf, rfl⟩ := h
  refine lb_cons <| l1_set (i := 3) (le_call k1 hr (by decide) <| la_cons <| le_var (i := 0) rfl <| la_cons <| le_var (i := 1) rfl <| la_cons <| le_var (i := 2) rfl <| la_nil ⟨_, ⟨y, n, ns, R1, rfl, sq, ask, rfl⟩, rfl, ?_⟩) sc_stay.nd
  refine lb_cons <| l1_if <| lt_val <| le_call k2 hr (by decide) <| la_cons <| le_var (i := 0) rfl <| la_cons <| le_cst c4 <| la_nil ⟨_, ⟨y, "foe", rfl, ask.sm.ok.r2, rfl⟩, rfl, _, rfl, ?_⟩
  have e1 : (y.rows.any fun r => decide (kindS r = "foe")) = false := by
    rw [List.any_eq_false]
    intro r hr
    rw [decide_eq_false (nf r hr)]; decide
  rw [e1]
  show LB _ _ _ _ _
  refine lb_nil <| lb_cons <| l1_ret <| le_call k3 hr (by decide) <| la_cons <| le_var (i := 0) rfl <| la_cons <| le_var (i := 1) rfl <| la_cons <| le_var (i := 3) rfl <| la_cons <| le_listRg h2 h3 <| le_cb call_len_seq h1 (by decide +kernel) <| la_cons <| le_fld <| le_var (i := 0) rfl ⟨_, _, _, rfl, yc.c, yc.n2, rfl, la_nil <| rc_len (.inl rfl) ⟨y.rows.length, by rw [List.length_map], by have := ask.sm.sm; omega, la_nil ⟨_, ⟨y, n, ns, rfl, ask.sm, ask.lk, rfl⟩, rfl, rfl⟩⟩⟩
end
end DL
set_option Elab.async false
set_option linter.all false
set_option maxRecDepth 100000
set_option maxHeartbeats 4000000
/-! the pen: defs that draw -/
namespace DL
open PySem PySem.Spec L2
open PyProof.Rows hiding St
section
variable {X : Cx} {pn : Option Addr} {e : Expr} {es : List Expr} {pos p sp pj : Pos} {S : LSt} {D : LD} {P : Th → LSt → Prop} {x : Str}
theorem alls_set {H : Hp} {R : Th} {v : V} (r : R.p H v) : ∀ {Rs : List Th} {vs : List V} {n : Nat}, Alls H Rs vs → Alls H (Rs.set n R) (vs.set n v)
  | _, _, _, .nil => .nil
  | _, _, 0, .cons _ t => .cons r t
  | _, _, n + 1, .cons q t => .cons q (alls_set (n := n) r t)
/-- xs[j] of an owned list's name -/
theorem le_ixO (i : Nat) {Rs : List Th} {R : Th} {a : Addr} {j : Int} {jj : Nat} (h : S.ρ[i]? = some (some (.ow ((ownL Rs).atA a)))) (e2 : atI Rs j = some R) (q : P R S) (hN : X.N[i]? = some x := by rfl) (hv : Vis X.env.scope x := by first | exact Or.inl rfl | exact Or.inr (Or.inl rfl) | exact Or.inr (Or.inr rfl))
    (hd : (x == ("__debug__" : Str)) = false := by decide) (hcd : (x == ("__classdict__" : Str)) = false := by decide) : LE X pn (.Subscript (.Name x p) (.Constant (.int j) jj pj) pos) S P := by
  intro B Hs σ H o Q k
  obtain ⟨b, u, hσ, hu, rfl, vs, rfl, ha⟩ := own_at o h
  obtain ⟨v, h1, h2⟩ := ha.at e2
  exact we_of (pe_ix ix_list (pe_var hN hv hd hcd) pe_int (fun _ _ => rfl)) ⟨.ref b, hσ, b, vs, j, v, rfl, rfl, SqL.of hu, h1, k R S v Hs H q o (.refl _) h2⟩
/-- xs[j] = e of an owned list's name -/
theorem l1_lset (i : Nat) {j : Int} {jj : Nat} (h0 : ∃ O, S.ρ[i]? = some (some (.ow O))) (h : LE X pn e S fun R S1 => ∃ Rs a n, S1.ρ[i]? = some (some (.ow ((ownL Rs).atA a))) ∧ ixN Rs.length j = some n ∧ D.nx (S1.putE i (.ow ((ownL (Rs.set n R)).atA a))))
    (hN : X.N[i]? = some x := by rfl) (hv : Vis X.env.scope x := by first | exact Or.inl rfl | exact Or.inr (Or.inl rfl) | exact Or.inr (Or.inr rfl)) (hd : (x == ("__debug__" : Str)) = false := by decide) (hcd : (x == ("__classdict__" : Str)) = false := by decide)
    (ha : ∀ v, assign (.Subscript (.Name x p) (.Constant (.int j) jj pj) sp) X.env v = (do
      let ov ← holding [v] (eval (.Name x p) X.env)
      let iv ← holding [v, ov] (eval (.Constant (.int j) jj pj) X.env)
      standAt sp
      holding [v, ov, iv] (setItem ov iv v)
      release [v, ov, iv] []) := by intro _; rfl)
    (hs : swapsWithSole [.Subscript (.Name x p) (.Constant (.int j) jj pj) sp] e pos.line X.env = pure false := by rfl) (hw : swappedStores [.Subscript (.Name x p) (.Constant (.int j) jj pj) sp] e X.env = pure none := by rfl)
    (h1 : (assignEach [.Subscript (.Name x p) (.Constant (.int j) jj pj) sp] X.env).map (·.2) = [assign (.Subscript (.Name x p) (.Constant (.int j) jj pj) sp) X.env] := by rfl) : L1 X pn (.Assign [.Subscript (.Name x p) (.Constant (.int j) jj pj) sp] e pos) S D := by
  intro B Hs σ H o E t
  refine ws_of (ps_asg pe_we (pg_sub (pe_var hN hv hd hcd) pe_int set_list ha) hs hw h1) (h B Hs σ H o _ fun R S1 v Hs1 H1 g o1 e1 r1 => ?_)
  obtain ⟨Rs, a, n, g1, g2, q⟩ := g
  obtain ⟨b, u, hσ, hu, rfl, vs, rfl, ha'⟩ := own_at o1 g1
  refine ⟨.ref b, hσ, b, vs, j, n, rfl, rfl, hu, by rw [← ha'.length]; exact g2, ?_⟩
  exact t.nx _ Hs1 _ _ q (o1.change g1 hσ (O' := (ownL (Rs.set n R)).atA b) ⟨rfl, _, rfl, alls_set r1 ha'⟩)
end

/-! ### defs that draw -/
/-- what a def gives that draws so often at most -/
abbrev WFn := List Th → Th → Nat → Prop
def mostN : Nat := 2000
def spW (K : PySem.W.Frag) (m : Nat) (F : WFn) : Sp := fun vs H Q _ => ∃ c a n Hs rest Rs R k, vs = .ref a :: rest ∧ Same Hs H ∧ PenAt K c a n Hs H ∧ Rs.length = m ∧ Alls Hs Rs rest ∧ F Rs R k ∧ n + k ≤ mostN ∧
  ∀ v Hs' H', Ext (some a) Hs H Hs' H' → PenAt K c a (n + k) Hs' H' → R.p Hs' v → Q v H'
theorem PenAt.le {K : PySem.W.Frag} {c a : Addr} {n m : Nat} {Hs H : Hp} (h : PenAt K c a n Hs H) (l : n ≤ m) : PenAt K c a m Hs H := by
  obtain ⟨h0, ns, t, r, h1, h2, h3, h4, h5, h6⟩ := h
  exact ⟨h0, ns, t, r, h1, h2, h3, h4, by omega, h6⟩
section
variable {P : Program} {w : World} {K : PySem.W.Frag} {mg : Str → Option Value} {base : Heap}
theorem fn_pen {x qual : Str} {st : Stmt} {f : Addr} {fd : FuncData} {N ps : List Str} {m k : Nat} {F : WFn} (Fd : Fun K x qual st f fd) (S : FnScope N ps (defScope st)) (hps : ps.length = m + 1)
    (body : ∀ (cdv : Value) (A : Around) (outer : List Env) (s : Shared) (H : Hp) (E : XK) Rs R j n a, Room k (A.deeper (envOfC qual (defScope st) s.heap.objs.size f cdv)) → F Rs R j → n + j ≤ mostN →
      LB (bx P w K mg base N qual st f cdv A outer s H E) (some a) (defBody st) ⟨start0 N (vl (.ref a) :: Rs), n⟩ { nx := fun S' => vl .non = R ∧ S'.n ≤ n + j, rt := fun R' S' => R' = R ∧ S'.n ≤ n + j }) : FnOk P w K mg base (L2.CX P w) (k + 1) f fd ps (spW K m F) := by
  refine Fd.okX S (fun vs H Q E h => ?_) fun cdv A outer s H vs Q E hr h => ?_
  · obtain ⟨c, a, n, Hs, rest, Rs, R, j, rfl, _, _, h1, h2, _⟩ := h
    rw [List.length_cons, ← h2.length, h1, hps]
  · obtain ⟨c, a, n, Hs, rest, Rs, R, j, rfl, w0, pn, h1, h2, h3, hn, h4⟩ := h
    refine ⟨_, PSs.nox (ps_wb (X := bx P w K mg base N qual st f cdv A outer s H E)), ?_⟩
    have o0 := start_ok (K := K) (N := N) (n := n) (Rs := vl (.ref a) :: Rs) w0 (.cons rfl h2)
    have o : StOK K (some a) ⟨Hs, H, c⟩ Hs ⟨start0 N (vl (.ref a) :: Rs), n⟩ (L2.start N (.ref a :: rest)) H := ⟨Ext.refl w0, o0.len, o0.sh, o0.ow, o0.ne, fun b hb => by
      cases hb
      obtain ⟨_, ns, t, r, e, _⟩ := id pn
      exact ⟨pn, fun z => by rw [show H a = none from z] at e; cases e⟩⟩
    refine body cdv A outer s H E Rs R j n a hr h3 hn ⟨Hs, H, c⟩ Hs _ H o _ ⟨fun S Hs' σ H' p o => ?_, fun R' S Hs' σ v H' p o r => ?_, fun _ _ _ _ p => p.elim, fun _ _ _ _ p => p.elim⟩
    · exact h4 .non Hs' H' o.e ((o.pen a rfl).1.le p.2) (by rw [← p.1]; rfl)
    · exact h4 v Hs' H' o.e ((o.pen a rfl).1.le p.2) (by rw [← p.1]; exact r)
/-- the list of ints at c -/
def cellT (c : Addr) (ns : List Int) : Th := ⟨fun H v => v = .ref c ∧ H c = some (.lst (ns.map V.int)), fun e ⟨h1, h2⟩ => ⟨h1, e _ _ h2⟩,
  fun h ⟨h1, h2⟩ => ⟨h1, by rw [upd_ne (ne_of h2 h (by intro z; cases z))]; exact h2⟩, fun h ⟨h1, h2⟩ => ⟨h1, by rw [upd_ne (ne_of h2 h (by intro z; cases z))]; exact h2⟩⟩
theorem cell_lst {c : Addr} {ns : List Int} {H : Hp} {v : V} (h : (cellT c ns).p H v) : (lstT (ns.map fun i => vl (.int i))).p H v := ⟨c, _, h.1, h.2, alls_of_ints⟩
theorem le_imp {X : Cx} {pn : Option Addr} {e : Expr} {S : LSt} {Q : Th → LSt → Prop} (h : LE X pn e S fun R S1 => ∃ R', (∀ H v, R.p H v → R'.p H v) ∧ Q R' S1) : LE X pn e S Q := by
  intro B Hs σ H o Q' k
  exact h B Hs σ H o Q' fun R S1 v Hs1 H1 ⟨R', hi, q⟩ o1 e1 r => k R' S1 v Hs1 H1 q o1 e1 (hi _ _ r)
/-- the def that draws itself: the pen is its own while it runs -/
theorem fn_draw {x qual : Str} {st : Stmt} {f : Addr} {fd : FuncData} {N ps : List Str} {m k : Nat} {F : WFn} (Fd : Fun K x qual st f fd) (S : FnScope N ps (defScope st)) (hps : ps.length = m + 1)
    (body : ∀ (cdv : Value) (A : Around) (outer : List Env) (s : Shared) (H : Hp) (E : XK) Rs R j n a c (ns : List Int) (t r : Int), Room k (A.deeper (envOfC qual (defScope st) s.heap.objs.size f cdv)) → F Rs R j → n + j ≤ mostN → ns.length ≤ 63 → 0 ≤ t → t ≤ n → 0 ≤ r →
      LB (bx P w K mg base N qual st f cdv A outer s H E) none (defBody st) ⟨some (.ow ((ownL [cellT c ns, vl (.int t), vl (.int r)]).atA a)) :: (start0 N (vl (.ref a) :: Rs)).tail, 0⟩
        { nx := fun _ => False, rt := fun R' S' => R' = R ∧ ∃ t' r' : Int, S'.ρ[0]? = some (some (.ow ((ownL [cellT c ns, vl (.int t'), vl (.int r')]).atA a))) ∧ 0 ≤ t' ∧ t' ≤ n + j ∧ 0 ≤ r' }) : FnOk P w K mg base (L2.CX P w) (k + 1) f fd ps (spW K m F) := by
  refine Fd.okX S (fun vs H Q E h => ?_) fun cdv A outer s H vs Q E hr h => ?_
  · obtain ⟨c, a, n, Hs, rest, Rs, R, j, rfl, _, _, h1, h2, _⟩ := h
    rw [List.length_cons, ← h2.length, h1, hps]
  · obtain ⟨c, a, n, Hs, rest, Rs, R, j, rfl, w0, pn, h1, h2, h3, hn, h4⟩ := h
    obtain ⟨g0, ns, t, r, g1, g2, g3, g4, g5, g6⟩ := pn
    refine ⟨_, PSs.nox (ps_wb (X := bx P w K mg base N qual st f cdv A outer s H E)), ?_⟩
    have o0 := start_ok (K := K) (N := N) (n := 0) (Rs := vl (.ref a) :: Rs) w0 (.cons rfl h2)
    have e0 : start0 N (vl (.ref a) :: Rs) = some (.sh (vl (.ref a))) :: (start0 N (vl (.ref a) :: Rs)).tail := rfl
    have notl : ∀ (i : Nat) O, (start0 N (vl (.ref a) :: Rs)).tail[i]? ≠ some (some (.ow O)) := fun i O z => by
      have := o0.ow (i + 1) O (by show (start0 N (vl (.ref a) :: Rs))[i + 1]? = _; rw [e0]; exact z)
      obtain ⟨b, u, q1, q2, q3, q4, _⟩ := this
      have q2 : H b = none := q2
      rw [q2] at q4; cases q4
    have o : StOK K none ⟨Hs, fun b => if b = a then none else H b, 0⟩ Hs ⟨some (.ow ((ownL [cellT c ns, vl (.int t), vl (.int r)]).atA a)) :: (start0 N (vl (.ref a) :: Rs)).tail, 0⟩ (L2.start N (.ref a :: rest)) H := by
      refine ⟨⟨.refl _, w0, fun b u q _ => ?_, fun b q => ?_, fun b q _ => q⟩, ?_, fun i R q => ?_, fun i O q => ?_, fun i l O O' b q1 q2 _ _ => ?_, fun b q => by cases q⟩
      · have q : (if b = a then none else H b) = some u := q
        split at q
        · cases q
        · exact q
      · have q : (if b = a then none else H b) ≠ none := q
        split at q
        · exact absurd rfl q
        · exact q
      · have := o0.len
        rw [show (⟨start0 N (vl (.ref a) :: Rs), 0⟩ : LSt).ρ = _ from e0] at this
        simpa using this
      · cases i with
        | zero => cases q
        | succ i => exact o0.sh (i + 1) R (by show (start0 N (vl (.ref a) :: Rs))[i + 1]? = _; rw [e0]; exact q)
      · cases i with
        | zero =>
          cases q
          refine ⟨a, _, rfl, if_pos rfl, g0, g1, rfl, _, rfl, .cons ⟨rfl, g2⟩ (.cons rfl (.cons rfl .nil))⟩
        | succ i => exact absurd q (notl i O)
      · cases i with
        | zero =>
          cases l with
          | zero => rfl
          | succ l => exact absurd q2 (notl l O')
        | succ i => exact absurd q1 (notl i O)
    refine body cdv A outer s H E Rs R j n a c ns t r hr h3 hn g3 g4 g5 g6 _ Hs _ H o _ ⟨fun S Hs' σ H' p o => p.elim, fun R' S Hs' σ v H' p o rr => ?_, fun _ _ _ _ p => p.elim, fun _ _ _ _ p => p.elim⟩
    obtain ⟨e1, t', r', hs, b1, b2, b3⟩ := p
    obtain ⟨b, u, q1, q2, q3, q4, q5, q6⟩ := o.ow 0 _ hs
    have q5 : b = a := q5
    subst q5
    obtain ⟨vs, rfl, ha⟩ := q6
    have ex : Ext (some b) Hs H Hs' H' := by
      refine ⟨o.e.s, o.e.w, fun d u q hd => o.e.k d u (by show (if d = b then none else H d) = _; rw [if_neg (fun z => hd (by rw [z]))]; exact q) (by simp), fun d q => ?_, fun d h1 h2 => ?_⟩
      · by_cases hd : d = b
        · rw [hd, q4]; simp
        · exact o.e.t d (by show (if d = b then none else H d) ≠ _; rw [if_neg hd]; exact q)
      · by_cases hd : d = b
        · rw [hd]; exact q3
        · exact o.e.f d h1 (by show (if d = b then none else H d) ≠ _; rw [if_neg hd]; exact h2)
    refine h4 v Hs' H' ex ⟨q3, ns, t', r', ?_, o.e.s _ _ g2, g3, b1, by omega, b3⟩ (by rw [← e1]; exact rr)
    cases ha with
    | cons c1 ha =>
      cases ha with
      | cons c2 ha =>
        cases ha with
        | cons c3 ha =>
          cases ha
          rw [q4, c1.1, show _ = V.int t' from c2, show _ = V.int r' from c3]
/-- a def of the module that draws -/
structure KnW (P : Program) (w : World) (K : PySem.W.Frag) (mg : Str → Option Value) (base : Heap) (k : Nat) (x : Str) (m : Nat) (F : WFn) : Prop where
  ex : ∃ (f : Addr) (fd : FuncData) (ps : List Str), FnOk P w K mg base (L2.CX P w) k f fd ps (spW K m F) ∧ mg x = some (.ref f) ∧ PySem.W.keepIn K (.ref f) = true ∧ Binds K fd ps []
end
section
variable {X : Cx} {a : Addr} {e : Expr} {es : List Expr} {pos : Pos} {S : LSt} {P : Th → LSt → Prop}
theorem le_draw {x : Str} {k m : Nat} {F : WFn} {p : Pos} (D : KnW X.prog X.w X.K X.mg X.base k x m F) {j : Nat} (hr : Room j X.A) (hk : k ≤ j) (h : LA X (some a) (e :: es) S fun Rs S1 => ∃ R Rs' i, Rs = vl (.ref a) :: Rs' ∧ F Rs' R i ∧ Rs'.length = m ∧ S1.n + i ≤ mostN ∧ P R ⟨S1.ρ, S1.n + i⟩)
    (hg : Gl X x := by rfl) (hdb : (x == ("__debug__" : Str)) = false := by decide) (he : starEach (e :: es) X.env = (false, eval e X.env) :: starEach es X.env := by rfl) (hpl : (backTo pos (starEach es X.env)).any (·.1) = false := by rfl) : LE X (some a) (.Call (.Name x p) (e :: es) [] pos) S P := by
  intro B Hs σ H o Q q
  obtain ⟨f, fd, ps, hf, hm, kp, hb⟩ := D.ex
  refine we_of (pe_call hf (hr.mono hk) hg hm kp hb .nil passL pa_wa hdb he hpl) (h B Hs σ H o _ fun Rs S1 vs Hs1 H1 h1 o1 e1 r1 => ?_)
  obtain ⟨R, Rs', i, rfl, h1, hl, hn, p⟩ := h1
  cases r1 with
  | cons r1 r2 =>
    rename_i v0 rest
    cases (show v0 = V.ref a from r1)
    refine ⟨B.c, a, S1.n, Hs1, rest, Rs', R, i, by rw [List.append_nil], o1.w, (o1.pen a rfl).1, hl, r2, h1, hn, fun v Hs' H' x pen r => ?_⟩
    refine q R ⟨S1.ρ, S1.n + i⟩ v Hs' H' p (o1.extN x fun b hb => ?_) (e1.trans x.s) r
    cases hb; exact pen
end
end DL
set_option Elab.async false
set_option linter.all false
set_option maxRecDepth 100000
set_option maxHeartbeats 4000000
/-! literal displays, by computing -/
namespace DL
open PySem PySem.Spec L2
open PyProof.Rows hiding St
def allSome (g : Expr → Option PyData) : List Expr → Option (List PyData)
  | [] => some []
  | e :: es => match g e with
    | none => none
    | some d => match allSome g es with
      | none => none
      | some ds => some (d :: ds)
def litStep (g : Expr → Option PyData) : Expr → Option PyData
  | .Constant (.int i) _ _ => some (.int i)
  | .Constant (.str x) _ _ => some (.str x)
  | .Tuple es _ _ => (allSome g es).bind fun ds => if ds.length ≤ 1000 then some (.tuple ds) else none
  | .List es _ => (allSome g es).bind fun ds => if ds.length ≤ 1000 then some (.list ds) else none
  | .BinOp (.List es _) .Mult (.Constant (.int k) _ _) _ => (allSome g es).bind fun ds => if 0 ≤ k ∧ k ≤ 1000 ∧ ds.length ≤ 1000 then some (.list (List.replicate k.toNat ds).flatten) else none
  | _ => none
/-- the data of a display of whole numbers and texts -/
def litD : Nat → Expr → Option PyData
  | 0 => fun _ => none
  | n + 1 => litStep (litD n)
section
variable {X : Cx} {pn : Option Addr}
theorem lit_star : ∀ {n : Nat} {e : Expr} {d : PyData}, litD n e = some d → ∀ es : List Expr, starEach (e :: es) X.env = (false, eval e X.env) :: starEach es X.env := by
  intro n e d h es
  cases n with
  | zero => cases h
  | succ n =>
    have h : litStep (litD n) e = some d := h
    unfold litStep at h
    split at h <;> first | rfl | (cases h; done)
theorem la_all {n : Nat} (ih : ∀ {e : Expr} {d : PyData} {S : LSt} {P : Th → LSt → Prop}, litD n e = some d → P (th X.K d) S → LE X pn e S P) : ∀ {es : List Expr} {ds : List PyData} {S : LSt} {PL : List Th → LSt → Prop}, allSome (litD n) es = some ds → PL (ths X.K ds) S → LA X pn es S PL
  | [], ds, S, PL, h, q => by
    cases h
    exact la_nil q
  | e :: es, ds, S, PL, h, q => by
    unfold allSome at h
    split at h
    · cases h
    · rename_i d hd
      split at h
      · cases h
      · rename_i ds' hds
        cases h
        exact la_cons (ih hd (la_all ih hds q)) (lit_star hd es)
theorem le_lit : ∀ {n : Nat} {e : Expr} {d : PyData} {S : LSt} {P : Th → LSt → Prop}, litD n e = some d → P (th X.K d) S → LE X pn e S P := by
  intro n
  induction n with
  | zero => intro e d S P h; cases h
  | succ n ih =>
    intro e d S P h q
    have h : litStep (litD n) e = some d := h
    unfold litStep at h
    split at h
    · cases h; exact le_int q
    · cases h; exact le_str q
    · obtain ⟨ds, h1, h2⟩ := Option.bind_eq_some_iff.mp h
      split at h2
      · rename_i hz
        cases h2
        exact le_tup (la_all ih h1 ⟨by rw [ths_map, List.length_map]; exact Nat.le_trans hz (by decide), q⟩)
      · cases h2
    · obtain ⟨ds, h1, h2⟩ := Option.bind_eq_some_iff.mp h
      split at h2
      · rename_i hz
        cases h2
        exact le_lst (la_all ih h1 ⟨by rw [ths_map, List.length_map]; exact Nat.le_trans hz (by decide), q⟩)
      · cases h2
    · obtain ⟨ds, h1, h2⟩ := Option.bind_eq_some_iff.mp h
      split at h2
      · rename_i hz
        cases h2
        refine le_rep (le_lst (la_all ih h1 ⟨by rw [ths_map, List.length_map]; exact Nat.le_trans hz.2.2 (by decide), le_int ⟨_, _, rfl, rfl, ⟨hz.1, hz.2.1, by rw [ths_map, List.length_map]; exact hz.2.2⟩, ?_⟩⟩))
        have e : ∀ k : Nat, (List.replicate k (ths X.K ds)).flatten = ths X.K (List.replicate k ds).flatten := fun k => by
          rw [ths_map, ths_map, List.map_flatten, List.map_replicate]
        rw [e]
        exact q
      · cases h2
    · cases h
end
end DL
set_option Elab.async false
set_option linter.all false
set_option maxRecDepth 100000
set_option maxHeartbeats 4000000
namespace DL
open PySem PySem.Spec L2
open PyProof.Rows hiding St
open PySem.W (Datum Tup)
/-- some number below -/
abbrev belT (m : Nat) : Th := exT (fun i : Nat => i < m) nT
theorem cr_int {X : Cx} {pn : Option Addr} {S : LSt} {Q : Th → LSt → Prop} {i : Int} (q : Q (iT i) S) : LRC X pn (fun xs H Q => (∃ i, xs = [.int i] ∧ Q (.int i) H) ∨ ∃ k, xs = [.bl k] ∧ Q (.int (if k then 1 else 0)) H) [iT i] S Q := rc_v (fun _ _ k => .inl ⟨i, rfl, k⟩) q
theorem cr_intB {X : Cx} {pn : Option Addr} {S : LSt} {Q : Th → LSt → Prop} {b : Bool} (q : Q (iT (if b then 1 else 0)) S) : LRC X pn (fun xs H Q => (∃ i, xs = [.int i] ∧ Q (.int i) H) ∨ ∃ k, xs = [.bl k] ∧ Q (.int (if k then 1 else 0)) H) [bT b] S Q := rc_v (fun _ _ k => .inr ⟨b, rfl, k⟩) q
theorem cr_absI {X : Cx} {pn : Option Addr} {S : LSt} {Q : Th → LSt → Prop} {i : Int} (q : Q (iT (if i < 0 then -i else i)) S) : LRC X pn (fun xs H Q => ∃ i, xs = [.int i] ∧ Q (.int (if i < 0 then -i else i)) H) [iT i] S Q := rc_v (fun _ _ k => ⟨i, rfl, k⟩) q
theorem shaped_Ints (ns : List Int) : SeqAt.shaped (.list (ns.map PyData.int)) = true := lay_shaped ns (by decide)
theorem Ints_ths (K : PySem.W.Frag) (ns : List Int) : (ns.map fun i => vl (.int i)) = ths K (ns.map PyData.int) := by rw [ths_map, List.map_map]; rfl
section
variable {P : Program} {w : World} {K : PySem.W.Frag} {mg : Str → Option Value} {base : Heap} {f C : Addr} {fd : FuncData}
abbrev st_draw : Stmt := top 72
abbrev drN : List Str := ["pen", "many", "rest", "turn", "cell", "mixed"]
theorem sc_draw : Scp drN ["pen", "many"] st_draw := ⟨rfl, rfl, rfl, by decide +kernel, rfl, by decide +kernel, by decide +kernel⟩
def fDraw : WFn := fun Rs R k => ∃ m : Nat, Rs = [nT m] ∧ 1 ≤ m ∧ m ≤ 1000 ∧ R = belT m ∧ k = 1
theorem bel_of {r : Int} {m : Nat} (h : 1 ≤ m) : vl (.int (r % (m : Int))) = nT (r % (m : Int)).toNat ∧ (r % (m : Int)).toNat < m := by
  have h1 : 0 ≤ r % (m : Int) := Int.emod_nonneg _ (by omega)
  have h2 : r % (m : Int) < m := Int.emod_lt_of_pos _ (by omega)
  exact ⟨by rw [show nT (r % (m : Int)).toNat = vl (.int ((r % (m : Int)).toNat : Int)) from rfl, Int.toNat_of_nonneg h1], by omega⟩
theorem kn_draw (F : Fun K "_law_draw" "_law_draw" st_draw f fd) (hm : mg "_law_draw" = some (.ref f)) (hb : Binds K fd ["pen", "many"] []) (h1 : Blt mg "int") (h2 : Blt mg "len") (h3 : Blt mg "abs") : KnW P w K mg base 1 "_law_draw" 1 fDraw := by
  refine ⟨f, fd, ["pen", "many"], ?_, hm, F.kp, hb⟩
  refine fn_draw F sc_draw rfl fun cdv A outer s H E Rs R j n a c ns t r hr h hn hl t0 tn r0 => ?_
  obtain ⟨m, rfl, m1, m2, rfl, rfl⟩ := h
  have hn : n + 1 ≤ 2000 := hn
  have int2 : ∀ (q : Int), (0 : Int) < (m : Int) := fun _ => by omega
  refine lb_cons <| l1_if <| lt_cmp op_gt <| le_ixO 0 rfl rfl <| le_int <| lr_I0 ⟨_, rfl, ?_⟩
  by_cases hr0 : 0 < r
  · rw [decide_eq_true hr0]
    show LB _ _ _ _ _
    refine lb_cons <| l1_set (i := 2) (le_ct call_int1 h1 (by decide +kernel) <| la_cons <| le_ixO 0 rfl rfl <| la_nil <| cr_int ?_) sc_draw.nd
    refine lb_cons <| l1_lset 0 ⟨_, rfl⟩ (le_bin op_fdiv <| le_var (i := 2) rfl <| le_var (i := 1) rfl <| lr_I ⟨by omega, by omega⟩ ⟨_, _, 2, rfl, rfl, ?_⟩)
    refine lb_cons <| l1_ret <| le_close <| le_bin op_mod <| le_ct call_int1 h1 (by decide +kernel) <| la_cons <| le_var (i := 2) rfl <| la_nil <| cr_int <| le_var (i := 1) rfl <| lr_I (int2 0) ⟨_, (bel_of (r := r) m1).1, (bel_of m1).2, rfl, t, r / (m : Int), rfl, t0, by omega, Int.ediv_nonneg (by omega) (by omega)⟩
  · rw [decide_eq_false hr0]
    show LB _ _ _ _ _
    refine lb_nil <| lb_cons <| l1_set (i := 3) (le_ixO 0 rfl rfl ?_) sc_draw.nd
    refine lb_cons <| l1_lset 0 ⟨_, rfl⟩ (le_bin op_add <| le_var (i := 3) rfl <| le_int <| lr_I0 ⟨_, _, 1, rfl, rfl, ?_⟩)
    refine lb_cons <| l1_set (i := 4) (le_bin op_add <| le_bin op_mul <| le_int <| le_var (i := 3) rfl <| lr_I (.inl (by decide)) <| le_int <| lr_I0 ?_) sc_draw.nd
    have tail : ∀ cl : Int, LB (bx P w K mg base drN "_law_draw" st_draw f cdv A outer s H E) none ((defBody st_draw).drop 5) ⟨[some (.ow ((ownL [cellT c ns, iT (t + 1), iT r]).atA a)), some (.sh (nT m)), none, some (.sh (iT t)), some (.sh (iT cl)), none], 0⟩
        { nx := fun _ => False, rt := fun R' S' => R' = belT m ∧ ∃ t' r' : Int, S'.ρ[0]? = some (some (.ow ((ownL [cellT c ns, vl (.int t'), vl (.int r')]).atA a))) ∧ 0 ≤ t' ∧ t' ≤ n + 1 ∧ 0 ≤ r' } := by
      intro cl
      have tail2 : LB (bx P w K mg base drN "_law_draw" st_draw f cdv A outer s H E) none ((defBody st_draw).drop 6) ⟨[some (.ow ((ownL [cellT c ns, iT (t + 1), iT r]).atA a)), some (.sh (nT m)), none, some (.sh (iT t)), some (.sh (iT cl)), none], 0⟩
          { nx := fun _ => False, rt := fun R' S' => R' = belT m ∧ ∃ t' r' : Int, S'.ρ[0]? = some (some (.ow ((ownL [cellT c ns, vl (.int t'), vl (.int r')]).atA a))) ∧ 0 ≤ t' ∧ t' ≤ n + 1 ∧ 0 ≤ r' } := by
        have p1 : 0 ≤ cl % 2147483549 := Int.emod_nonneg _ (by decide)
        have p2 : cl % 2147483549 < 2147483549 := Int.emod_lt_of_pos _ (by decide)
        refine lb_cons <| l1_set (i := 5) (le_bin op_mod <| le_ct call_int1 h1 (by decide +kernel) <| la_cons <| le_bin op_pow <| le_bin op_add <| le_bin op_add <| le_bin op_mod <| le_ct call_int1 h1 (by decide +kernel) <| la_cons <| le_var (i := 4) rfl <| la_nil <| cr_int <| le_int <| lr_I (by decide) <| le_bin op_mul <| le_int <| le_var (i := 3) rfl <| lr_I (.inl (by decide)) <| lr_I0 <| le_int <| lr_I0 <| le_int <| lr_I ⟨by decide, by decide, by omega⟩ <| la_nil <| cr_int <| le_int <| lr_I (by decide) ?_) sc_draw.nd
        generalize hM : (cl % 2147483549 + 310019 * t + 41039) ^ (5 : Int).toNat % 2147483629 = M
        have q1 : 0 ≤ M := by rw [← hM]; exact Int.emod_nonneg _ (by decide)
        have q2 : M < 2147483629 := by rw [← hM]; exact Int.emod_lt_of_pos _ (by decide)
        have sq : 0 ≤ t * t ∧ t * t ≤ 2000 * 2000 := ⟨Int.mul_nonneg t0 t0, Int.mul_le_mul (by omega) (by omega) t0 (by decide)⟩
        have mm : 0 ≤ M * (2 * t + 52067) ∧ M * (2 * t + 52067) ≤ 2147483629 * 56067 := ⟨Int.mul_nonneg q1 (by omega), Int.mul_le_mul (by omega) (by omega) (by omega) (by decide)⟩
        have as : 73121 * t * t = 73121 * (t * t) := Int.mul_assoc _ _ _
        refine lb_cons <| l1_set (i := 5) (le_bin op_mod <| le_ct call_int1 h1 (by decide +kernel) <| la_cons <| le_bin op_pow <| le_bin op_add <| le_bin op_add <| le_bin op_mul <| le_var (i := 5) rfl <| le_bin op_add <| le_bin op_mul <| le_int <| le_var (i := 3) rfl <| lr_I (.inl (by decide)) <| le_int <| lr_I0 <| lr_I (.inl ⟨by omega, by omega⟩) <| le_bin op_mul <| le_bin op_mul <| le_int <| le_var (i := 3) rfl <| lr_I (.inl (by decide)) <| le_var (i := 3) rfl <| lr_I (.inl ⟨by omega, by omega⟩) <| lr_I0 <| le_int <| lr_I0 <| le_int <| lr_I ⟨by decide, by decide, by rw [as]; omega⟩ <| la_nil <| cr_int <| le_int <| lr_I (by decide) ?_) sc_draw.nd
        refine lb_cons <| l1_ret <| le_close <| le_bin op_mod <| le_ct call_int1 h1 (by decide +kernel) <| la_cons <| le_bin op_fdiv <| le_var (i := 5) rfl <| le_int <| lr_I ⟨by decide, by decide⟩ <| la_nil <| cr_int <| le_var (i := 1) rfl <| lr_I (int2 0) ⟨_, (bel_of m1).1, (bel_of m1).2, rfl, t + 1, r, rfl, by omega, by omega, r0⟩
      refine lb_cons <| l1_if <| lt_ww <| lw_and <| lt_cmp op_lt <| le_var (i := 3) rfl <| le_cb call_len_seq h2 (by decide +kernel) <| la_cons <| le_imp <| le_ixO 0 rfl rfl ⟨_, fun _ _ => cell_lst, la_nil <| rc_len (.inr rfl) <| lr_I0 ⟨_, rfl, ?_⟩⟩
      refine ite_b (fun _ => ?_) fun _ => lb_nil tail2
      refine lw_and1 <| lt_cmp op_ge <| le_cb call_abs h3 (by decide +kernel) <| la_cons <| le_var (i := 4) rfl <| la_nil <| cr_absI <| le_bin op_pow <| le_int <| le_int <| lr_I ⟨by decide, by decide, by decide⟩ <| lr_I0 ⟨_, rfl, ?_⟩
      refine ite_b (fun hb => ?_) fun _ => lb_nil tail2
      have hb := of_decide_eq_true hb
      generalize hA : (if cl < 0 then -cl else cl) = A0 at hb
      refine lb_cons <| l1_set (i := 2) (le_bin op_add <| le_bin op_mul <| le_int <| le_bin op_sub <| le_cb call_abs h3 (by decide +kernel) <| la_cons <| le_var (i := 4) rfl <| la_nil <| cr_absI <| le_bin op_pow <| le_int <| le_int <| lr_I ⟨by decide, by decide, by decide⟩ <| lr_I0 <| lr_I (.inl (by decide)) <| le_ct call_int1 h1 (by decide +kernel) <| la_cons <| le_cmp op_lt <| le_var (i := 4) rfl <| le_int <| lr_I0 <| la_nil <| cr_intB <| lr_I0 ?_) sc_draw.nd
      rw [hA]
      generalize hR : (2 * (A0 - 10 ^ (18 : Int).toNat) + (if decide (cl < 0) = true then 1 else 0) : Int) = R0
      have hR0 : 0 ≤ R0 := by
        rw [← hR]
        split <;> omega
      refine lb_cons <| l1_lset 0 ⟨_, rfl⟩ (le_bin op_fdiv <| le_ct call_int1 h1 (by decide +kernel) <| la_cons <| le_var (i := 2) rfl <| la_nil <| cr_int <| le_var (i := 1) rfl <| lr_I ⟨by omega, by omega⟩ ⟨_, _, 2, rfl, rfl, ?_⟩)
      refine lb_cons <| l1_ret <| le_close <| le_bin op_mod <| le_ct call_int1 h1 (by decide +kernel) <| la_cons <| le_var (i := 2) rfl <| la_nil <| cr_int <| le_var (i := 1) rfl <| lr_I (int2 0) ⟨_, (bel_of (r := R0) m1).1, (bel_of m1).2, rfl, t + 1, R0 / (m : Int), rfl, by omega, by omega, Int.ediv_nonneg hR0 (by omega)⟩
    refine lb_cons <| l1_if <| lt_cmp (op_neD (ru hr)) <| le_imp <| le_ixO 0 rfl rfl ⟨_, fun _ _ h => by rw [← Ints_ths]; exact cell_lst h, le_lst <| la_nil ⟨zl (n := 0), lr_neL (shaped_Ints ns) ⟨_, rfl, ?_⟩⟩⟩
    refine ite_b (fun hne => ?_) fun _ => lb_nil (tail _)
    have hpos : 0 < ns.length := by
      cases ns with
      | nil => cases hne
      | cons i ns => simp
    have hlt := Int.emod_lt_of_pos t (show (0 : Int) < (ns.length : Int) by omega)
    have hge := Int.emod_nonneg t (show (ns.length : Int) ≠ 0 by omega)
    have hi : (t % (ns.length : Int)).toNat < ns.length := by omega
    refine lb_cons <| l1_set (i := 4) (le_ix <| le_imp <| le_ixO 0 rfl rfl ⟨_, fun _ _ => cell_lst, le_bin op_mod <| le_ct call_int1 h1 (by decide +kernel) <| la_cons <| le_var (i := 3) rfl <| la_nil <| cr_int <| le_cb call_len_seq h2 (by decide +kernel) <| la_cons <| le_imp <| le_ixO 0 rfl rfl ⟨_, fun _ _ => cell_lst, la_nil <| rc_len (.inr rfl) <| lr_I (by rw [List.length_map]; omega) ⟨_, _, iT (ns[(t % (ns.length : Int)).toNat]), .inr rfl, rfl, ?_, ?_⟩⟩⟩) sc_draw.nd
    · rw [List.length_map]
      have h9 : atI (ns.map fun i => vl (.int i)) (((t % (ns.length : Int)).toNat : Nat) : Int) = some (iT (ns[(t % (ns.length : Int)).toNat])) := atI_nat (by rw [List.getElem?_map, List.getElem?_eq_getElem hi]; rfl)
      rwa [Int.toNat_of_nonneg hge] at h9
    · exact lb_nil (tail _)
end
end DL
set_option Elab.async false
set_option linter.all false
set_option maxRecDepth 100000
set_option maxHeartbeats 4000000
namespace DL
open PySem PySem.Spec L2
open PyProof.Rows hiding St
open PySem.W (Datum Tup)
section
variable {X : Cx} {pn : Option Addr} {S : LSt} {Q : Th → LSt → Prop} {PO : Own → LSt → Prop} {e : Expr} {x y : Str} {p pos p2 : Pos}
/-- list(e), a new list -/
theorem ln_listOf (hm : Blt X.mg "list") (h : LE X pn e S fun R S1 => ∃ Rs, SeqT X.K R Rs ∧ PO (ownL Rs) S1) (hx : x = "list" := by rfl) (hg : Gl X "list" := by rfl) (he : starEach [e] X.env = (false, eval e X.env) :: starEach [] X.env := by rfl) (hpl : (backTo pos (starEach [] X.env)).any (·.1) = false := by rfl) :
    LN X pn (.Call (.Name x p) [e] [] pos) S PO := by
  subst hx
  intro B Hs σ H o Q k
  refine we_of (pe_callTy call_list_of hg hm (by decide +kernel) (pa_cons pe_we pa_nil he) (by decide) (by decide) he hpl) (h B Hs σ H o _ fun R S1 v Hs1 H1 h1 o1 e1 r1 => ?_)
  obtain ⟨Rs, sq, q⟩ := h1
  obtain ⟨a, ws, rfl, hq, ha⟩ : ∃ a ws, v = V.ref a ∧ (SqL X.K H1 a ws ∨ SqT X.K H1 a ws) ∧ Alls Hs1 Rs ws := by
    rcases sq with rfl | rfl
    · obtain ⟨a, ws, rfl, h2, h3⟩ := r1
      exact ⟨a, ws, rfl, .inr (sqT_mono o1.w h2), h3⟩
    · obtain ⟨a, ws, rfl, h2, h3⟩ := r1
      exact ⟨a, ws, rfl, .inl (SqL.of (o1.w _ _ h2)), h3⟩
  refine ⟨a, ws, rfl, hq, fun l hl => ?_⟩
  have hb : B.h l = none := by
    cases q : B.h l with
    | none => rfl
    | some u => exact absurd hl (o1.e.t l (by rw [q]; simp))
  refine k (ownL Rs) S1 l (.lst ws) Hs1 (upd H1 l (.lst ws)) q ?_ e1 (o1.w.free hl) upd_same ⟨ws, rfl, ha⟩ hb fun j O' hj hσ => ?_
  · exact o1.ext ⟨.refl _, Same.upd2 o1.w (o1.w.free hl), fun b u h _ => by rw [upd_ne (ne_of_none h hl)]; exact h, fun b h => by
      by_cases hb : b = l
      · subst hb; exact absurd hl h
      · rw [upd_ne hb]; exact h, fun _ h _ => h⟩
  · obtain ⟨b, u, g1, _, _, g4, _⟩ := o1.ow j O' hj
    rw [hσ] at g1
    cases g1
    rw [hl] at g4; cases g4
/-- len(xs) of an owned list's name -/
theorem le_lenO (i : Nat) {Rs : List Th} (h1 : Blt X.mg "len") (h : S.ρ[i]? = some (some (.ow (ownL Rs)))) (q : Q (nT Rs.length) S) (hx : x = "len" := by rfl) (hg : Gl X "len" := by rfl) (hN : X.N[i]? = some y := by rfl) (hv : Vis X.env.scope y := by first | exact Or.inl rfl | exact Or.inr (Or.inl rfl) | exact Or.inr (Or.inr rfl))
    (hd : (y == ("__debug__" : Str)) = false := by decide) (hcd : (y == ("__classdict__" : Str)) = false := by decide) (he : starEach [.Name y p2] X.env = (false, eval (.Name y p2) X.env) :: starEach [] X.env := by rfl) (hpl : (backTo pos (starEach [] X.env)).any (·.1) = false := by rfl) :
    LE X pn (.Call (.Name x p) [.Name y p2] [] pos) S Q := by
  subst hx
  have hl := (List.getElem?_eq_some_iff.mp h).1
  have slot : (wipeR (S.put i (lstT Rs)).ρ [])[i]? = some (some (.sh (lstT Rs))) := by
    show ((S.ρ.set i _).map keepSh)[i]? = _
    rw [List.getElem?_map, List.getElem?_set_self hl]; rfl
  exact le_borrowL i h <| le_cb call_len_seq h1 (by decide +kernel) (la_cons (le_var slot (la_nil (rc_len (.inr rfl) ⟨_, rfl, q⟩)) hN hv hd hcd) he) hg (by decide) (by decide) he hpl
end
section
variable {P : Program} {w : World} {K : PySem.W.Frag} {mg : Str → Option Value} {base : Heap} {f C : Addr} {fd : FuncData}
abbrev st_pick : Stmt := top 73
theorem sc_pick : Scp ["pen", "some"] ["pen", "some"] st_pick := ⟨rfl, rfl, rfl, by decide +kernel, rfl, by decide +kernel, by decide +kernel⟩
def fPick (K : PySem.W.Frag) : WFn := fun Rs R k => ∃ (R0 : Th) (Ts : List Th), Rs = [R0] ∧ SeqT K R0 Ts ∧ 1 ≤ Ts.length ∧ Ts.length ≤ 1000 ∧ R = exT (fun T : Th => T ∈ Ts) id ∧ k = 1
theorem kn_pick (F : Fun K "_law_pick" "_law_pick" st_pick f fd) (hm : mg "_law_pick" = some (.ref f)) (hb : Binds K fd ["pen", "some"] []) (h1 : Blt mg "len") (k1 : KnW P w K mg base 1 "_law_draw" 1 fDraw) : KnW P w K mg base 2 "_law_pick" 1 (fPick K) := by
  refine ⟨f, fd, ["pen", "some"], ?_, hm, F.kp, hb⟩
  refine fn_pen F sc_pick rfl fun cdv A outer s H E Rs R j n a hr h hn => ?_
  obtain ⟨R0, Ts, rfl, sq, m1, m2, rfl, rfl⟩ := h
  refine lb_cons <| l1_ret <| le_close (p := fun T : Th => T ∈ Ts) (f := id) <| le_ix <| le_var (i := 1) rfl <| le_open <| le_draw k1 hr (by decide) <| la_cons <| le_var (i := 0) rfl <| la_cons <| le_cb call_len_seq h1 (by decide +kernel) <| la_cons <| le_var (i := 1) rfl <| la_nil <| rc_len sq <| la_nil ⟨_, _, _, rfl, ⟨Ts.length, rfl, m1, m2, rfl, rfl⟩, rfl, hn, rfl, fun i hi => ?_⟩
  exact ⟨Ts, i, Ts[i], sq, rfl, atI_nat (List.getElem?_eq_getElem hi), Ts[i], rfl, List.getElem_mem hi, rfl, Nat.le_refl _⟩

abbrev st_mixed : Stmt := top 74
abbrev mxN : List Str := ["pen", "some", "left", "found", "turn"]
theorem sc_mixed : Scp mxN ["pen", "some"] st_mixed := ⟨rfl, rfl, rfl, by decide +kernel, rfl, by decide +kernel, by decide +kernel⟩
def fMixed (K : PySem.W.Frag) : WFn := fun Rs R k => ∃ (R0 : Th) (Ts : List Th), Rs = [R0] ∧ SeqT K R0 Ts ∧ Ts.length ≤ 100 ∧ R = exT (fun Us : List Th => Us.Perm Ts) lstT ∧ k = Ts.length
theorem perm_erase {Ts Us Vs : List Th} {i : Nat} {T : Th} (h : (Us ++ Vs).Perm Ts) (e : Us[i]? = some T) : (Us.eraseIdx i ++ (Vs ++ [T])).Perm Ts := by
  have h1 : (T :: Us.eraseIdx i).Perm Us := by
    induction Us generalizing i Ts Vs with
    | nil => simp at e
    | cons U Us ih =>
      cases i with
      | zero => simp at e; subst e; exact .refl _
      | succ i =>
        have := ih (Ts := Us ++ Vs) (Vs := Vs) (.refl _) (show Us[i]? = some T by simpa using e)
        exact (List.Perm.swap U T _).trans (this.cons U)
  refine List.Perm.trans ?_ h
  refine List.Perm.trans ?_ (h1.append_right Vs)
  rw [← List.append_assoc]
  exact List.perm_append_singleton T _
theorem kn_mixed (F : Fun K "_law_mixed" "_law_mixed" st_mixed f fd) (hm : mg "_law_mixed" = some (.ref f)) (hb : Binds K fd ["pen", "some"] []) (h1 : Blt mg "len") (h2 : Blt mg "list") (h3 : Blt mg "range") (k1 : KnW P w K mg base 1 "_law_draw" 1 fDraw) : KnW P w K mg base 2 "_law_mixed" 1 (fMixed K) := by
  refine ⟨f, fd, ["pen", "some"], ?_, hm, F.kp, hb⟩
  refine fn_pen F sc_mixed rfl fun cdv A outer s H E Rs R j n a hr h hn => ?_
  obtain ⟨R0, Ts, rfl, sq, m2, rfl, rfl⟩ := h
  refine lb_cons <| l1_par2 (i := 2) (j := 3) (lo_ow <| ln_listOf h2 <| le_var (i := 1) rfl ⟨Ts, sq, lo_ow <| ln_lst <| la_nil ⟨zl (n := 0), lo_nil ⟨rfl, ?_⟩⟩⟩) sc_mixed.nd
  refine lb_cons <| l1_for [4] (li_range1 h3 (la_cons (le_lenO 2 h1 rfl (la_nil ⟨_, rfl, by omega, by omega, ?_⟩)))) .never
  rw [Int.toNat_natCast]
  refine ⟨fun i S => ∃ (Us Vs : List Th) (q4 : Option Ent), S = ⟨[some (.sh (vl (.ref a))), some (.sh R0), some (.ow (ownL Us)), some (.ow (ownL Vs)), q4], n + i⟩ ∧ (Us ++ Vs).Perm Ts ∧ Us.length + i = Ts.length, ⟨Ts, [], none, rfl, by rw [List.append_nil], rfl⟩, ?_, ?_⟩
  · rintro i R' S2 hR ⟨Us, Vs, q4, rfl, hp, hl⟩
    rw [List.getElem?_map] at hR
    cases e : (List.range Ts.length)[i]? with
    | none => rw [e] at hR; cases hR
    | some t =>
      have hi : i < Ts.length := by
        have := (List.getElem?_eq_some_iff.mp e).1
        rwa [List.length_range] at this
      rw [e] at hR
      cases hR
      have hlv : Vs.length ≤ 100 := by
        have := hp.length_eq
        rw [List.length_append] at this
        omega
      refine lg_name (i := 4) ?_ sc_mixed.nd
      refine lb_cons <| l1_append 3 ⟨_, rfl⟩ (le_popAt 2 ⟨_, rfl⟩ <| le_open <| le_draw k1 hr (by decide) <| la_cons <| le_var (i := 0) rfl <| la_cons <| le_lenO 2 h1 rfl <| la_nil ⟨_, _, _, rfl, ⟨Us.length, rfl, by omega, by omega, rfl, rfl⟩, rfl, by show n + i + 1 ≤ mostN; omega, rfl, fun k hk => ?_⟩)
      refine ⟨Us, k, Us[k], rfl, rfl, by omega, List.getElem?_eq_getElem hk, Vs, rfl, Nat.lt_of_le_of_lt hlv (by decide), lb_nil ⟨Us.eraseIdx k, Vs ++ [Us[k]], _, rfl, perm_erase hp (List.getElem?_eq_getElem hk), ?_⟩⟩
      rw [List.length_eraseIdx, if_pos hk]
      omega
  · rintro S2 ⟨Us, Vs, q4, rfl, hp, hl⟩
    rw [List.length_map, List.length_range] at hl
    have e : Us = [] := List.length_eq_zero_iff.mp (by omega)
    subst e
    refine lb_shareL (i := 3) rfl <| lb_cons <| l1_ret <| le_close <| le_var (i := 3) rfl ⟨Vs, rfl, by simpa using hp, rfl, ?_⟩
    show n + _ ≤ n + _
    rw [List.length_map, List.length_range]
    exact Nat.le_refl _
end
end DL
set_option Elab.async false
set_option linter.all false
set_option maxRecDepth 100000
set_option maxHeartbeats 4000000
namespace DL
open PySem PySem.Spec L2
open PyProof.Rows hiding St
open PySem.W (Datum Tup)
/-- what _law_spread may give for so many outcomes -/
def menu : Nat → List (List (Int × Int))
  | 1 => [[(1, 1)]]
  | 2 => [[(1, 2), (1, 2)], [(1, 3), (2, 3)], [(1, 1), (0, 1)], [(1, 2), (1, 2)]]
  | 3 => [[(1, 4), (1, 4), (1, 2)], [(1, 3), (1, 3), (1, 3)], [(0, 1), (1, 2), (1, 2)], [(1, 4), (1, 4), (1, 2)]]
  | 4 => [[(1, 4), (1, 4), (1, 4), (1, 4)], [(1, 4), (1, 4), (1, 3), (1, 6)], [(0, 1), (1, 3), (1, 3), (1, 3)]]
  | 5 => [[(1, 5), (1, 5), (1, 5), (1, 5), (1, 5)], [(1, 5), (1, 5), (1, 5), (1, 10), (3, 10)], [(1, 2), (1, 4), (1, 4), (0, 1), (0, 1)]]
  | 6 => [[(1, 6), (1, 6), (1, 6), (1, 6), (1, 6), (1, 6)], [(1, 6), (1, 6), (1, 6), (1, 6), (1, 3), (0, 1)], [(1, 6), (1, 6), (1, 6), (1, 6), (1, 12), (1, 4)]]
  | _ => []
def menuD (m : Nat) : PyData := .list ((menu m).map fun os => .list (os.map oddD))
theorem th_menu (K : PySem.W.Frag) (m : Nat) : th K (menuD m) = lstT ((menu m).map (oddT K)) := by
  show lstT (ths K ((menu m).map fun os => .list (os.map oddD))) = _
  rw [ths_map, List.map_map]
  congr 1
  refine List.map_congr_left fun os _ => ?_
  show lstT (ths K (os.map oddD)) = _
  rw [ths_odds]
theorem le_litL {X : Cx} {pn : Option Addr} {n : Nat} {e : Expr} {ds : List PyData} {S : LSt} {Q : Th → LSt → Prop} (h : litD n e = some (.list ds)) (q : Q (lstT (ths X.K ds)) S) : LE X pn e S Q := le_lit h q
theorem ths_menu (K : PySem.W.Frag) (ms : List Nat) : ths K (ms.map menuD) = ms.map fun m => lstT ((menu m).map (oddT K)) := by
  rw [ths_map, List.map_map]
  exact List.map_congr_left fun m _ => th_menu K m
section
variable {P : Program} {w : World} {K : PySem.W.Frag} {mg : Str → Option Value} {base : Heap} {f C : Addr} {fd : FuncData}
abbrev st_spread : Stmt := top 85
theorem sc_spread : Scp ["pen", "size", "some"] ["pen", "size"] st_spread := ⟨rfl, rfl, rfl, by decide +kernel, rfl, by decide +kernel, by decide +kernel⟩
def fSpread (K : PySem.W.Frag) : WFn := fun Rs R k => ∃ m : Nat, Rs = [nT m] ∧ 1 ≤ m ∧ m ≤ 6 ∧ R = exT (fun os : List (Int × Int) => os ∈ menu m) (oddT K) ∧ k = 1
theorem kn_spread (F : Fun K "_law_spread" "_law_spread" st_spread f fd) (hm : mg "_law_spread" = some (.ref f)) (hb : Binds K fd ["pen", "size"] []) (k1 : KnW P w K mg base 2 "_law_pick" 1 (fPick K)) : KnW P w K mg base 3 "_law_spread" 1 (fSpread K) := by
  refine ⟨f, fd, ["pen", "size"], ?_, hm, F.kp, hb⟩
  refine fn_pen F sc_spread rfl fun cdv A outer s H E Rs R j n a hr h hn => ?_
  obtain ⟨m, rfl, m1, m2, rfl, rfl⟩ := h
  refine lb_cons ?_
  refine l1_set (i := 2) (x := "some") (hi := ?a1_1) (hx := ?a2_1) (hs := ?hs_1) (hf := ?a3_1) ?_ ?nd_1
  case a1_1 => rfl
  case a2_1 => exact .inl rfl
  case hs_1 => rfl
  case a3_1 => exact .inr rfl
  case nd_1 => exact sc_spread.nd
  refine le_litL (n := 8) (ds := [1, 2].map menuD) ?lit_1 ?_
  case lit_1 => kernel_rfl
  rw [show (bx P w K mg base ["pen", "size", "some"] "_law_spread" st_spread f cdv A outer s H E).K = K from rfl, ths_menu]
  refine lb_cons ?_
  refine l1_set (i := 2) (x := "some") (hi := ?a1_2) (hx := ?a2_2) (hs := ?hs_2) (hf := ?a3_2) ?_ ?nd_2
  case a1_2 => rfl
  case a2_2 => exact .inl rfl
  case hs_2 => rfl
  case a3_2 => exact .inr rfl
  case nd_2 => exact sc_spread.nd
  refine le_cat ?_
  refine le_var (i := 2) rfl ?_
  refine le_litL (n := 8) (ds := [3].map menuD) ?lit_2 ?_
  case lit_2 => kernel_rfl
  refine ⟨_, _, rfl, rfl, zl (n := 3), ?_⟩
  rw [show (bx P w K mg base ["pen", "size", "some"] "_law_spread" st_spread f cdv A outer s H E).K = K from rfl, ths_menu]
  refine lb_cons ?_
  refine l1_set (i := 2) (x := "some") (hi := ?a1_3) (hx := ?a2_3) (hs := ?hs_3) (hf := ?a3_3) ?_ ?nd_3
  case a1_3 => rfl
  case a2_3 => exact .inl rfl
  case hs_3 => rfl
  case a3_3 => exact .inr rfl
  case nd_3 => exact sc_spread.nd
  refine le_cat ?_
  refine le_var (i := 2) rfl ?_
  refine le_litL (n := 8) (ds := [4].map menuD) ?lit_3 ?_
  case lit_3 => kernel_rfl
  refine ⟨_, _, rfl, rfl, zl (n := 4), ?_⟩
  rw [show (bx P w K mg base ["pen", "size", "some"] "_law_spread" st_spread f cdv A outer s H E).K = K from rfl, ths_menu]
  refine lb_cons ?_
  refine l1_set (i := 2) (x := "some") (hi := ?a1_4) (hx := ?a2_4) (hs := ?hs_4) (hf := ?a3_4) ?_ ?nd_4
  case a1_4 => rfl
  case a2_4 => exact .inl rfl
  case hs_4 => rfl
  case a3_4 => exact .inr rfl
  case nd_4 => exact sc_spread.nd
  refine le_cat ?_
  refine le_var (i := 2) rfl ?_
  refine le_litL (n := 8) (ds := [5].map menuD) ?lit_4 ?_
  case lit_4 => kernel_rfl
  refine ⟨_, _, rfl, rfl, zl (n := 5), ?_⟩
  rw [show (bx P w K mg base ["pen", "size", "some"] "_law_spread" st_spread f cdv A outer s H E).K = K from rfl, ths_menu]
  refine lb_cons ?_
  refine l1_set (i := 2) (x := "some") (hi := ?a1_5) (hx := ?a2_5) (hs := ?hs_5) (hf := ?a3_5) ?_ ?nd_5
  case a1_5 => rfl
  case a2_5 => exact .inl rfl
  case hs_5 => rfl
  case a3_5 => exact .inr rfl
  case nd_5 => exact sc_spread.nd
  refine le_cat ?_
  refine le_var (i := 2) rfl ?_
  refine le_litL (n := 8) (ds := [6].map menuD) ?lit_5 ?_
  case lit_5 => kernel_rfl
  refine ⟨_, _, rfl, rfl, zl (n := 6), ?_⟩
  rw [show (bx P w K mg base ["pen", "size", "some"] "_law_spread" st_spread f cdv A outer s H E).K = K from rfl, ths_menu]
  have main : ∀ (L : List Th), L[m - 1]? = some (lstT ((menu m).map (oddT K))) → 1 ≤ (menu m).length → (menu m).length ≤ 10 → LB (bx P w K mg base ["pen", "size", "some"] "_law_spread" st_spread f cdv A outer s H E) (some a) ((defBody st_spread).drop 5) ⟨[some (.sh (vl (.ref a))), some (.sh (nT m)), some (.sh (lstT L))], n⟩
      { nx := fun S' => vl .non = exT (fun os : List (Int × Int) => os ∈ menu m) (oddT K) ∧ S'.n ≤ n + 1, rt := fun R' S' => R' = exT (fun os : List (Int × Int) => os ∈ menu m) (oddT K) ∧ S'.n ≤ n + 1 } := by
    intro L e l1 l2
    refine lb_cons <| l1_ret <| le_close (p := fun os : List (Int × Int) => os ∈ menu m) (f := oddT K) <| le_open <| le_draw k1 hr (by decide) <| la_cons <| le_var (i := 0) rfl <| la_cons <| le_ix <| le_var (i := 2) rfl <| le_bin op_sub <| le_var (i := 1) rfl <| le_int <| lr_I0 ⟨L, _, lstT ((menu m).map (oddT K)), .inr rfl, rfl, ?_, la_nil ⟨_, _, _, rfl, ⟨_, _, rfl, .inr rfl, by rw [List.length_map]; exact l1, by rw [List.length_map]; omega, rfl, rfl⟩, rfl, hn, rfl, fun T hT => ?_⟩⟩
    · rw [show (m : Int) - 1 = ((m - 1 : Nat) : Int) by omega]
      exact atI_nat e
    · obtain ⟨os, ho, rfl⟩ := List.mem_map.mp hT
      exact ⟨os, rfl, ho, rfl, Nat.le_refl _⟩
  have six : m = 1 ∨ m = 2 ∨ m = 3 ∨ m = 4 ∨ m = 5 ∨ m = 6 := by omega
  rcases six with rfl | rfl | rfl | rfl | rfl | rfl
  all_goals exact main _ rfl (by decide) (by decide)
end
end DL
set_option Elab.async false
set_option linter.all false
set_option maxRecDepth 100000
set_option maxHeartbeats 4000000
namespace DL
open PySem PySem.Spec L2
open PyProof.Rows hiding St
/-! ### the odds that are drawn are odds -/
def allB : Nat → List (List Bool)
  | 0 => [[]]
  | n + 1 => (allB n).map (true :: ·) ++ (allB n).map (false :: ·)
theorem mem_allB : ∀ (bs : List Bool), bs ∈ allB bs.length
  | [] => List.mem_singleton.mpr rfl
  | true :: bs => List.mem_append_left _ (List.mem_map.mpr ⟨bs, mem_allB bs, rfl⟩)
  | false :: bs => List.mem_append_right _ (List.mem_map.mpr ⟨bs, mem_allB bs, rfl⟩)
/-- what is kept of a world's odds -/
def keptO (m : Nat) (os : List (Int × Int)) (mask : Nat → Bool) : List (Int × Int) := ((List.range m).filter mask).map fun i => os.getD i (0, 1)
def okB (m : Nat) (os : List (Int × Int)) (bs : List Bool) : Bool :=
  !((List.range m).all fun i => !decide (0 < (os.getD i (0, 1)).1) || bs.getD i false) || (totOK (0, 1) (keptO m os fun i => bs.getD i false) && decide (totF (0, 1) (keptO m os fun i => bs.getD i false) = (1, 1)))
theorem okB_all : ([1, 2, 3, 4, 5, 6].all fun m => (menu m).all fun os => (allB m).all fun bs => okB m os bs) = true := by decide +kernel
theorem menu_ok : ([1, 2, 3, 4, 5, 6].all fun m => (menu m).all fun os => decide (os.length = m) && os.all fun r => decide (1 ≤ r.2) && decide (Nat.gcd r.1.natAbs r.2.natAbs = 1) && decide (0 ≤ r.1) && decide (Sml r.1)) = true := by decide +kernel
theorem six {m : Nat} (h1 : 1 ≤ m) (h2 : m ≤ 6) : m ∈ [1, 2, 3, 4, 5, 6] := by
  have : m = 1 ∨ m = 2 ∨ m = 3 ∨ m = 4 ∨ m = 5 ∨ m = 6 := by omega
  simp; omega
theorem menu_tot {m : Nat} {os : List (Int × Int)} {mask : Nat → Bool} (h1 : 1 ≤ m) (h2 : m ≤ 6) (h : os ∈ menu m) (hm : ∀ i, i < m → 0 < (os.getD i (0, 1)).1 → mask i = true) : totOK (0, 1) (keptO m os mask) = true ∧ totF (0, 1) (keptO m os mask) = (1, 1) := by
  have hb : ((List.range m).map mask) ∈ allB m := by
    have := mem_allB ((List.range m).map mask)
    rwa [List.length_map, List.length_range] at this
  have h3 := List.all_eq_true.mp (List.all_eq_true.mp (List.all_eq_true.mp okB_all m (six h1 h2)) os h) _ hb
  have eb : ∀ i, i < m → ((List.range m).map mask).getD i false = mask i := fun i hi => by
    rw [List.getD_eq_getElem?_getD, List.getElem?_map, List.getElem?_range hi]; rfl
  have ek : keptO m os (fun i => ((List.range m).map mask).getD i false) = keptO m os mask := by
    unfold keptO
    congr 1
    exact List.filter_congr fun i hi => eb i (List.mem_range.mp hi)
  unfold okB at h3
  rw [ek] at h3
  have ha : ((List.range m).all fun i => !decide (0 < (os.getD i (0, 1)).1) || ((List.range m).map mask).getD i false) = true := by
    refine List.all_eq_true.mpr fun i hi => ?_
    have hi := List.mem_range.mp hi
    rw [eb i hi]
    by_cases hp : 0 < (os.getD i (0, 1)).1
    · rw [hm i hi hp]; simp
    · rw [decide_eq_false hp]; rfl
  rw [ha] at h3
  simpa using h3
theorem menu_row {m : Nat} {os : List (Int × Int)} (h1 : 1 ≤ m) (h2 : m ≤ 6) (h : os ∈ menu m) : os.length = m ∧ ∀ r ∈ os, 1 ≤ r.2 ∧ Nat.gcd r.1.natAbs r.2.natAbs = 1 ∧ 0 ≤ r.1 ∧ Sml r.1 := by
  have h3 := List.all_eq_true.mp (List.all_eq_true.mp menu_ok m (six h1 h2)) os h
  rw [Bool.and_eq_true, decide_eq_true_eq] at h3
  refine ⟨h3.1, fun r hr => ?_⟩
  have := List.all_eq_true.mp h3.2 r hr
  simp only [Bool.and_eq_true, decide_eq_true_eq] at this
  exact ⟨this.1.1.1, this.1.1.2, this.1.2, this.2⟩
def maskF (odds : List (List (Int × Int))) (i : Nat) : Bool := odds.any fun os => decide (0 < (os.getD i (0, 1)).1)
/-- the outcomes of a drawn row -/
def drawnO (odds : List (List (Int × Int))) (ts : List Nat) (is : List Nat) : List (Nat × List (Int × Int)) := (ts.zip is).map fun p => (p.1, odds.map fun os => os.getD p.2 (0, 1))
theorem drawn_ok {m many : Nat} {odds : List (List (Int × Int))} {ts : List Nat} (h1 : 1 ≤ m) (h2 : m ≤ 6) (ho : ∀ os ∈ odds, os ∈ menu m) (hw : 1 ≤ odds.length) (hw2 : odds.length ≤ 1000) (ht : ts.length = ((List.range m).filter (maskF odds)).length) (hlt : ∀ t ∈ ts, t < many) :
    OutsOk (drawnO odds ts ((List.range m).filter (maskF odds))) many odds.length := by
  have col : ∀ j (hj : j < odds.length), colF (drawnO odds ts ((List.range m).filter (maskF odds))) j = keptO m odds[j] (maskF odds) := by
    intro j hj
    unfold colF drawnO keptO
    rw [List.map_map]
    have e : ((ts.zip ((List.range m).filter (maskF odds))).map fun p => (odds[j]).getD p.2 (0, 1)) = ((ts.zip ((List.range m).filter (maskF odds))).map Prod.snd).map fun i => (odds[j]).getD i (0, 1) := by rw [List.map_map]; rfl
    rw [List.map_snd_zip (by omega)] at e
    rw [← e]
    refine List.map_congr_left fun p _ => ?_
    show (odds.map fun os => os.getD p.2 (0, 1)).getD j (0, 1) = _
    rw [List.getD_eq_getElem?_getD, List.getElem?_map, List.getElem?_eq_getElem hj]; rfl
  have tot : ∀ j (hj : j < odds.length), totOK (0, 1) (keptO m odds[j] (maskF odds)) = true ∧ totF (0, 1) (keptO m odds[j] (maskF odds)) = (1, 1) := fun j hj =>
    menu_tot h1 h2 (ho _ (List.getElem_mem hj)) fun i _ hp => List.any_eq_true.mpr ⟨odds[j], List.getElem_mem hj, decide_eq_true hp⟩
  have ll : (drawnO odds ts ((List.range m).filter (maskF odds))).length = ((List.range m).filter (maskF odds)).length := by
    unfold drawnO
    rw [List.length_map, List.length_zip]; omega
  refine ⟨?_, ?_, hw2, fun o hmem => ?_, fun j hj => ?_⟩
  · rw [ll]
    refine Nat.pos_of_ne_zero fun z => ?_
    have := (tot 0 (by omega)).2
    unfold keptO at this
    rw [List.length_eq_zero_iff.mp z] at this
    exact absurd (show ((0 : Int), (1 : Int)) = (1, 1) from this) (by decide)
  · rw [ll]
    refine Nat.le_trans (List.length_filter_le _ _) ?_
    rw [List.length_range]; exact h2
  · obtain ⟨p, hp, rfl⟩ := List.mem_map.mp hmem
    obtain ⟨q1, q2⟩ := List.of_mem_zip hp
    obtain ⟨q3, q4⟩ := List.mem_filter.mp q2
    have q3 := List.mem_range.mp q3
    have get : ∀ os ∈ odds, os.getD p.2 (0, 1) ∈ os := fun os hos => by
      have hl := (menu_row h1 h2 (ho os hos)).1
      rw [List.getD_eq_getElem?_getD, List.getElem?_eq_getElem (by omega)]
      exact List.getElem_mem _
    refine ⟨hlt _ q1, by rw [List.length_map], by rw [List.length_map]; exact hw2, fun r hr => ?_, ?_⟩
    · obtain ⟨os, hos, rfl⟩ := List.mem_map.mp hr
      exact (menu_row h1 h2 (ho os hos)).2 _ (get os hos)
    · obtain ⟨os, hos, hpos⟩ := List.any_eq_true.mp q4
      have hpos := of_decide_eq_true hpos
      exact ⟨_, List.mem_map.mpr ⟨os, hos, rfl⟩, fun z => by
        have z : os.getD p.2 (0, 1) = (0, 1) := z
        rw [z] at hpos; exact absurd hpos (by decide)⟩
  · rw [col j hj]
    exact tot j hj
end DL
set_option Elab.async false
set_option linter.all false
set_option maxRecDepth 100000
set_option maxHeartbeats 4000000
namespace DL
open PySem PySem.Spec L2
open PyProof.Rows hiding St
open PySem.W (Datum Tup)
theorem odd_pos {os : List (Int × Int)} {wn n : Nat} (h : OddsOk os wn) (hn : n < os.length) : decide (0 < (os.getD n (0, 1)).1) = !decide (os.getD n (0, 1) = (0, 1)) := by
  have hm : os.getD n (0, 1) ∈ os := by
    rw [List.getD_eq_getElem?_getD, List.getElem?_eq_getElem hn]
    exact List.getElem_mem _
  obtain ⟨h1, h2, h3, _⟩ := h.2.2.1 _ hm
  generalize os.getD n (0, 1) = r at h1 h2 h3
  obtain ⟨x, y⟩ := r
  by_cases hx : x = 0
  · subst hx
    have h2 : Nat.gcd 0 y.natAbs = 1 := h2
    rw [Nat.gcd_zero_left] at h2
    have h1 : 1 ≤ y := h1
    have : y = 1 := by omega
    subst this
    rfl
  · have h3 : 0 ≤ x := h3
    rw [decide_eq_true (show 0 < x by omega), decide_eq_false (show ¬ (x, y) = (0, 1) from fun z => hx (Prod.mk.inj z).1)]; rfl
section
variable {P : Program} {w : World} {K : PySem.W.Frag} {mg : Str → Option Value} {base : Heap} {f C : Addr} {fd : FuncData}
abbrev st_lknown : Stmt := top 75
theorem sc_lknown : Scp ["yard", "state", "at", "told", "world"] ["yard", "state", "at", "told"] st_lknown := ⟨rfl, rfl, rfl, by decide +kernel, rfl, by decide +kernel, by decide +kernel⟩
def fLKnown (K : PySem.W.Frag) (C : Addr) : PFn := fun Rs R => ∃ (y : YardD) (s j : Nat) (os : List (Nat × List (Int × Int))) (o : Nat × List (Int × Int)) (ns : List Nat), Rs = [yT K C y, nT s, nT j, kT K ns] ∧ At y s (.luck os) ns ∧ os[j]? = some o ∧ R = kT K (knF o.2 ns)
theorem kn_lknown (F : Fun K "_law_known" "_law_known" st_lknown f fd) (hm : mg "_law_known" = some (.ref f)) (hb : Binds K fd ["yard", "state", "at", "told"] []) (yc : YC K C) (h1 : Blt mg "tuple") : Kn P w K mg base 1 "_law_known" (spP 4 (fLKnown K C)) := by
  refine kn_pure F hm hb sc_lknown rfl fun cdv A outer s H E Rs R hr h => ?_
  obtain ⟨y, n, j, os, o, ns, rfl, a, e2, rfl⟩ := h
  have hmem : o ∈ outsOf (.luck os) := List.mem_of_getElem? e2
  have ho := (a.ok.2.2.2.1 o hmem).2
  refine lb_cons <| l1_ret <| le_ct call_tuple_of h1 (by decide +kernel) <| la_cons <| le_lc (own := [("world", 4)]) (li_tup (le_var (i := 3) rfl ⟨_, rfl, ?_⟩)) (bk (by decide +kernel)) sc_lknown.nd
  refine lc_fil ns nT nT (fun n => !decide (o.2.getD n (0, 1) = (0, 1))) (by have := a.l; omega) (fun m hm => ?_) ?_
  · have hml : m < o.2.length := by rw [(a.odds hmem).2]; exact a.kn m hm
    intro s H C cl fp
    refine lg_name (i := 4) ?_ sc_lknown.nd
    intro s H C cl fp
    refine lt_cmp op_gt <| le_ix <| le_ix <| le_ix <| le_ix <| le_ix <| le_ix <| le_fld <| le_var (i := 0) rfl ⟨_, _, _, rfl, yc.c, yc.n2, rfl, le_var (i := 1) rfl ⟨_, _, rowF K (.luck os), .inl rfl, rfl, atRow a.row, le_int ⟨_, _, _, .inl rfl, rfl, rfl, le_var (i := 2) rfl ⟨_, _, outF K o, .inl rfl, rfl, atI_nat (by rw [List.getElem?_map, e2]; rfl), le_int ⟨_, _, _, .inl rfl, rfl, rfl, le_var (i := 4) rfl ⟨_, _, _, .inl rfl, rfl, at_odd hml, le_int ⟨_, _, _, .inl rfl, rfl, rfl, le_int <| lr_I0 ⟨_, rfl, odd_pos ho hml, rfl, fun _ => ?_⟩⟩⟩⟩⟩⟩⟩⟩
    intro s H C cl fp
    exact le_var (i := 4) rfl ⟨rfl, rfl⟩
  · exact la_nil <| rc_tuple (.inr rfl) rfl
abbrev st_lbehind : Stmt := top 76
abbrev lbN : List Str := ["yard", "state", "told", "kind", "found", "at", "act", "one", "row"]
theorem sc_lbehind : Scp lbN ["yard", "state", "told"] st_lbehind := ⟨rfl, rfl, rfl, by decide +kernel, rfl, by decide +kernel, by decide +kernel⟩
def fLBehind (K : PySem.W.Frag) (C : Addr) : PFn := fun Rs R => ∃ (y : YardD) (s : Nat) (r : Row) (ns : List Nat), Rs = [yT K C y, nT s, kT K ns] ∧ At y s r ns ∧ R = lstT ((behF r ns).map (edT K))
theorem kn_lbehind (F : Fun K "_law_behind" "_law_behind" st_lbehind f fd) (hm : mg "_law_behind" = some (.ref f)) (hb : Binds K fd ["yard", "state", "told"] []) (yc : YC K C) (h2 : Blt mg "enumerate") (k1 : Kn P w K mg base 1 "_law_known" (spP 4 (fLKnown K C))) : Kn P w K mg base 2 "_law_behind" (spP 3 (fLBehind K C)) := by
  refine kn_pure F hm hb sc_lbehind rfl fun cdv A outer s H E Rs R hr h => ?_
  obtain ⟨y, n, r, ns, rfl, a, rfl⟩ := h
  obtain ⟨Ts, e⟩ := row0 K r
  refine lb_cons <| l1_set (i := 3) (le_ix <| le_ix <| le_fld <| le_var (i := 0) rfl ⟨_, _, _, rfl, yc.c, yc.n2, rfl, le_var (i := 1) rfl ⟨_, _, _, .inl rfl, rfl, atRow a.row, le_int ⟨_, _, _, .inl e, rfl, at0, ?_⟩⟩⟩) sc_lbehind.nd
  refine lb_cons <| l1_if <| lt_cmp op_ne <| le_var (i := 3) rfl <| le_str <| lr_ne rfl ⟨_, rfl, ?_⟩
  cases r with
  | luck os =>
    rw [show (!decide (V.str (kindS (.luck os)) = V.str "luck")) = false from (by decide : (!decide (V.str "luck" = V.str "luck")) = false)]
    refine lb_nil <| lb_cons <| l1_setLc (i := 4) (own := [("at", 5), ("one", 7)]) (li_enumT h2 <| la_cons <| le_ix <| le_ix <| le_fld <| le_var (i := 0) rfl ⟨_, _, _, rfl, yc.c, yc.n2, rfl, le_var (i := 1) rfl ⟨_, _, rowF K (.luck os), .inl rfl, rfl, atRow a.row, le_int ⟨_, _, _, .inl rfl, rfl, rfl, la_nil ⟨_, rfl, ?_⟩⟩⟩⟩) (bk (by decide +kernel)) sc_lbehind.nd (sw_true rfl rfl rfl (by decide +kernel))
    have ol : os.length ≤ 6 := a.outs
    refine lc_mapE (ds := os.zipIdx) (g := fun p => tupT K [nT p.2, outF K p.1]) (by rw [zip_map, List.map_map]; rfl) (fun p => edT K (p.2, p.1.1, knF p.1.2 ns)) (by rw [List.length_zipIdx]; omega) (fun p hp => ?_) ?_
    · intro s H C cl fp
      refine lg_tup ⟨_, rfl, rfl, lgs_cons <| lg_name (i := 5) (lgs_cons <| lg_name (i := 7) (lgs_nil ?_) sc_lbehind.nd) sc_lbehind.nd⟩
      intro s H C cl fp
      exact le_tup <| la_cons <| le_var (i := 5) rfl <| la_cons <| le_ix <| le_var (i := 7) rfl <| le_int ⟨_, _, _, .inl rfl, rfl, rfl, la_cons <| le_call k1 hr (by decide) <| la_cons <| le_var (i := 0) rfl <| la_cons <| le_var (i := 1) rfl <| la_cons <| le_var (i := 5) rfl <| la_cons <| le_var (i := 2) rfl <| la_nil ⟨kT K (knF p.1.2 ns), ⟨y, n, p.2, os, p.1, ns, rfl, a, List.mem_zipIdx_iff_getElem?.mp hp, rfl⟩, rfl, la_nil ⟨zl (n := 3), rfl, rfl⟩⟩⟩
    refine lb_cons <| l1_ret <| le_lc (own := [("row", 8)]) (li_lst (le_var (i := 4) rfl ⟨_, rfl, ?_⟩)) (bk (by decide +kernel)) sc_lbehind.nd
    refine lc_filE (ds := os.zipIdx.map fun p => ((p.2, p.1.1, knF p.1.2 ns) : Edge)) (g := edT K) (by rw [List.map_map]; rfl) (edT K) (fun e => !decide (e.2.2 = [])) (by rw [List.length_map, List.length_zipIdx]; omega) (fun e he => ?_) rfl
    intro s H C cl fp
    refine lg_name (i := 8) ?_ sc_lbehind.nd
    intro s H C cl fp
    refine lt_cmp (op_neD (ru hr)) <| le_ix <| le_var (i := 8) rfl <| le_int ⟨_, _, kT K e.2.2, .inl rfl, rfl, rfl, le_tup <| la_nil ⟨zl (n := 0), ?_⟩⟩
    rw [tT_k]
    refine lr_neT (x := (⟨e.2.2.map fun (n : Nat) => (n : Int)⟩ : Tup Int)) (y := (⟨[]⟩ : Tup Int)) ⟨_, rfl, ?_, rfl, fun _ => ?_⟩
    · rw [tup_eq_nil]
    · intro s H C cl fp
      exact le_var (i := 8) rfl ⟨rfl, rfl⟩
  | fin =>
    rw [show (!decide (V.str (kindS .fin) = V.str "luck")) = true from (by decide : (!decide (V.str "end" = V.str "luck")) = true)]
    refine lb_cons <| l1_ret <| le_if <| lt_cmp op_ne <| le_var (i := 3) rfl <| le_str <| lr_ne rfl ⟨_, rfl, ?_⟩
    rw [show (!decide (V.str (kindS .fin) = V.str "end")) = false from (by decide : (!decide (V.str "end" = V.str "end")) = false)]
    exact le_lst <| la_nil ⟨zl (n := 0), rfl⟩
  | mine as =>
    rw [show (!decide (V.str (kindS (.mine as)) = V.str "luck")) = true from (by decide : (!decide (V.str "mine" = V.str "luck")) = true)]
    refine lb_cons <| l1_ret <| le_if <| lt_cmp op_ne <| le_var (i := 3) rfl <| le_str <| lr_ne rfl ⟨_, rfl, ?_⟩
    rw [show (!decide (V.str (kindS (.mine as)) = V.str "end")) = true from (by decide : (!decide (V.str "mine" = V.str "end")) = true)]
    refine le_lc (own := [("at", 5), ("act", 6)]) (li_enumT h2 <| la_cons <| le_ix <| le_ix <| le_fld <| le_var (i := 0) rfl ⟨_, _, _, rfl, yc.c, yc.n2, rfl, le_var (i := 1) rfl ⟨_, _, rowF K (.mine as), .inl rfl, rfl, atRow a.row, le_int ⟨_, _, _, .inl rfl, rfl, rfl, la_nil ⟨_, rfl, ?_⟩⟩⟩⟩) (bk (by decide +kernel)) sc_lbehind.nd
    have al : as.length ≤ 4 := a.acts
    refine lc_mapE (ds := as.zipIdx) (g := fun p => tupT K [nT p.2, actT K p.1]) (by rw [zip_map, List.map_map]; rfl) (fun p => edT K (p.2, p.1.2, ns)) (by rw [List.length_zipIdx]; omega) (fun p hp => ?_) ?_
    · intro s H C cl fp
      refine lg_tup ⟨_, rfl, rfl, lgs_cons <| lg_name (i := 5) (lgs_cons <| lg_name (i := 6) (lgs_nil ?_) sc_lbehind.nd) sc_lbehind.nd⟩
      intro s H C cl fp
      exact le_tup <| la_cons <| le_var (i := 5) rfl <| la_cons <| le_ix <| le_var (i := 6) rfl <| le_int ⟨_, _, _, .inl rfl, rfl, rfl, la_cons <| le_var (i := 2) rfl <| la_nil ⟨zl (n := 3), rfl, rfl⟩⟩
    · show lstT _ = lstT ((as.zipIdx.map fun p => ((p.2, p.1.2, ns) : Edge)).map (edT K))
      rw [List.map_map]; rfl
  | foe as =>
    rw [show (!decide (V.str (kindS (.foe as)) = V.str "luck")) = true from (by decide : (!decide (V.str "foe" = V.str "luck")) = true)]
    refine lb_cons <| l1_ret <| le_if <| lt_cmp op_ne <| le_var (i := 3) rfl <| le_str <| lr_ne rfl ⟨_, rfl, ?_⟩
    rw [show (!decide (V.str (kindS (.foe as)) = V.str "end")) = true from (by decide : (!decide (V.str "foe" = V.str "end")) = true)]
    refine le_lc (own := [("at", 5), ("act", 6)]) (li_enumT h2 <| la_cons <| le_ix <| le_ix <| le_fld <| le_var (i := 0) rfl ⟨_, _, _, rfl, yc.c, yc.n2, rfl, le_var (i := 1) rfl ⟨_, _, rowF K (.foe as), .inl rfl, rfl, atRow a.row, le_int ⟨_, _, _, .inl rfl, rfl, rfl, la_nil ⟨_, rfl, ?_⟩⟩⟩⟩) (bk (by decide +kernel)) sc_lbehind.nd
    have al : as.length ≤ 4 := a.acts
    refine lc_mapE (ds := as.zipIdx) (g := fun p => tupT K [nT p.2, actT K p.1]) (by rw [zip_map, List.map_map]; rfl) (fun p => edT K (p.2, p.1.2, ns)) (by rw [List.length_zipIdx]; omega) (fun p hp => ?_) ?_
    · intro s H C cl fp
      refine lg_tup ⟨_, rfl, rfl, lgs_cons <| lg_name (i := 5) (lgs_cons <| lg_name (i := 6) (lgs_nil ?_) sc_lbehind.nd) sc_lbehind.nd⟩
      intro s H C cl fp
      exact le_tup <| la_cons <| le_var (i := 5) rfl <| la_cons <| le_ix <| le_var (i := 6) rfl <| le_int ⟨_, _, _, .inl rfl, rfl, rfl, la_cons <| le_var (i := 2) rfl <| la_nil ⟨zl (n := 3), rfl, rfl⟩⟩
    · show lstT _ = lstT ((as.zipIdx.map fun p => ((p.2, p.1.2, ns) : Edge)).map (edT K))
      rw [List.map_map]; rfl
end
end DL
set_option Elab.async false
set_option linter.all false
set_option maxRecDepth 100000
set_option maxHeartbeats 4000000
namespace DL
open PySem PySem.Spec L2
open PyProof.Rows hiding St
open PySem.W (Datum Tup)
/-! ### comprehensions that draw -/
section
variable {X : Cx} {pn : Option Addr} {elt tg c : Expr} {scope : Scope} {vs : List Nat} {S1 : LSt} {Q : Th → LSt → Prop} {α β : Type}
theorem paired_snoc {rel : α → β → Prop} : ∀ {as : List α} {bs : List β} {a : α} {b : β}, Paired rel as bs → rel a b → Paired rel (as ++ [a]) (bs ++ [b])
  | _, _, _, _, .nil, h => .cons h .nil
  | _, _, _, _, .cons r t, h => .cons r (paired_snoc t h)
/-- [elt for tg in ..], each item gives one of some, with so many draws -/
theorem lc_relF {Rs : List Th} {ds : List α} {g : α → Th} (e : Rs = ds.map g) (h : β → Th) (rel : α → β → Prop) (t : α → Bool) (k : Nat) (hz : ds.length ≤ 100000)
    (he : ∀ d ∈ ds, ∀ nn, nn + k ≤ S1.n + k * ds.length → Blk X scope fun Y => LG Y pn vs tg ⟨wipeR S1.ρ vs, nn⟩ (g d) fun S2 => Blk X scope fun Y => LT Y pn c S2 fun b S3 => b = t d ∧ S3.n = nn ∧ (b = true → Blk X scope fun Y => LE Y pn elt S3 fun R' S4 => ∃ y, R' = h y ∧ rel d y ∧ S4.n ≤ nn + k))
    (q : ∀ bs nn, Paired rel (ds.filter t) bs → nn ≤ S1.n + k * ds.length → Q (lstT (bs.map h)) ⟨S1.ρ, nn⟩) : LCI X pn elt tg [c] scope vs Q Rs S1 := by
  subst e
  refine ⟨by rw [List.length_map]; exact hz, fun i acc nn => ∃ bs, acc = bs.map h ∧ Paired rel ((ds.take i).filter t) bs ∧ nn ≤ S1.n + k * i, ⟨[], rfl, .nil, by omega⟩, fun i R acc nn hR ⟨bs, e1, e2, e3⟩ => ?_, fun acc nn ⟨bs, e1, e2, e3⟩ => ?_⟩
  · subst e1
    rw [List.getElem?_map] at hR
    cases e : ds[i]? with
    | none => rw [e] at hR; cases hR
    | some d =>
      rw [e] at hR; cases hR
      have hd : d ∈ ds := List.mem_of_getElem? e
      have hi : i + 1 ≤ ds.length := (List.getElem?_eq_some_iff.mp e).1
      have hk : k * i + k ≤ k * ds.length := by
        rw [← Nat.mul_succ]; exact Nat.mul_le_mul_left k hi
      intro s H C cl fp B Hs σ H' v o r Q k'
      refine he d hd nn (by omega) s H C cl fp B Hs σ H' v o r Q fun S2 σ2 Hs2 H2 p2 => k' S2 σ2 Hs2 H2 ?_
      intro s H C cl fp
      refine lts_one ((p2 s H C cl fp).mono fun b S3 ⟨f1, f2, f3⟩ => ?_)
      cases b with
      | true =>
        show Blk X scope fun Y => LE Y pn elt S3 _
        intro s H C cl fp
        refine (f3 rfl s H C cl fp).mono fun R' S4 ⟨y, g1, g2, g3⟩ => ⟨bs ++ [y], ?_, ?_, ?_⟩
        · rw [g1, List.map_append]; rfl
        · rw [take_snoc e, List.filter_append, List.filter_cons, ← f1]
          exact paired_snoc e2 g2
        · rw [Nat.mul_succ]; omega
      | false =>
        show ∃ _, _
        refine ⟨bs, rfl, ?_, ?_⟩
        · rw [take_snoc e, List.filter_append, List.filter_cons, ← f1]
          simpa using e2
        · rw [Nat.mul_succ]; omega
  · subst e1
    rw [List.length_map] at e2 e3
    rw [List.take_length] at e2
    exact q bs nn e2 e3
theorem lc_rel {Rs : List Th} {ds : List α} {g : α → Th} (e : Rs = ds.map g) (h : β → Th) (rel : α → β → Prop) (k : Nat) (hz : ds.length ≤ 100000)
    (he : ∀ d ∈ ds, ∀ nn, nn + k ≤ S1.n + k * ds.length → Blk X scope fun Y => LG Y pn vs tg ⟨wipeR S1.ρ vs, nn⟩ (g d) fun S2 => Blk X scope fun Y => LE Y pn elt S2 fun R' S4 => ∃ y, R' = h y ∧ rel d y ∧ S4.n ≤ nn + k)
    (q : ∀ bs nn, Paired rel ds bs → nn ≤ S1.n + k * ds.length → Q (lstT (bs.map h)) ⟨S1.ρ, nn⟩) : LCI X pn elt tg [] scope vs Q Rs S1 := by
  subst e
  refine ⟨by rw [List.length_map]; exact hz, fun i acc nn => ∃ bs, acc = bs.map h ∧ Paired rel (ds.take i) bs ∧ nn ≤ S1.n + k * i, ⟨[], rfl, .nil, by omega⟩, fun i R acc nn hR ⟨bs, e1, e2, e3⟩ => ?_, fun acc nn ⟨bs, e1, e2, e3⟩ => ?_⟩
  · subst e1
    rw [List.getElem?_map] at hR
    cases e : ds[i]? with
    | none => rw [e] at hR; cases hR
    | some d =>
      rw [e] at hR; cases hR
      have hd : d ∈ ds := List.mem_of_getElem? e
      have hi : i + 1 ≤ ds.length := (List.getElem?_eq_some_iff.mp e).1
      have hk : k * i + k ≤ k * ds.length := by
        rw [← Nat.mul_succ]; exact Nat.mul_le_mul_left k hi
      intro s H C cl fp B Hs σ H' v o r Q k'
      refine he d hd nn (by omega) s H C cl fp B Hs σ H' v o r Q fun S2 σ2 Hs2 H2 p2 => k' S2 σ2 Hs2 H2 ?_
      intro s H C cl fp
      refine lts_nil ?_
      show Blk X scope fun Y => LE Y pn elt S2 _
      intro s H C cl fp
      refine (p2 s H C cl fp).mono fun R' S4 ⟨y, g1, g2, g3⟩ => ⟨bs ++ [y], ?_, ?_, ?_⟩
      · rw [g1, List.map_append]; rfl
      · rw [take_snoc e]
        exact paired_snoc e2 g2
      · rw [Nat.mul_succ]; omega
  · subst e1
    rw [List.length_map] at e2 e3
    rw [List.take_length] at e2
    exact q bs nn e2 e3
end
/-! ### names that are drawn -/
theorem sT_inj {x y : Str} (h : sT x = sT y) : x = y := by
  have h1 : (sT x).p (fun _ => none) (.str x) := rfl
  rw [h] at h1
  have h1 := (show V.str x = V.str y from h1)
  injection h1
theorem perm_names {Us : List Th} {names : List Str} (h : Us.Perm (names.map sT)) (nd : names.Nodup) : ∃ xs : List Str, Us = xs.map sT ∧ xs.Nodup ∧ (∀ x ∈ xs, x ∈ names) ∧ xs.length = names.length := by
  have ex : ∀ Vs : List Th, (∀ U ∈ Vs, U ∈ names.map sT) → ∃ xs : List Str, Vs = xs.map sT ∧ ∀ x ∈ xs, x ∈ names := by
    intro Vs
    induction Vs with
    | nil => exact fun _ => ⟨[], rfl, fun x hx => by cases hx⟩
    | cons V Vs ih =>
      intro hv
      obtain ⟨xs, e1, e2⟩ := ih fun U hU => hv U (List.mem_cons_of_mem _ hU)
      obtain ⟨x, hx, e3⟩ := List.mem_map.mp (hv V List.mem_cons_self)
      exact ⟨x :: xs, by rw [List.map_cons, e3, e1], fun z hz => (List.mem_cons.mp hz).elim (fun q => by rw [q]; exact hx) (e2 z)⟩
  obtain ⟨xs, e1, e2⟩ := ex Us fun U hU => h.mem_iff.mp hU
  have n1 : (names.map sT).Nodup := List.pairwise_map.mpr (nd.imp fun hab z => hab (sT_inj z))
  have n2 : (xs.map sT).Nodup := by rw [← e1]; exact h.nodup_iff.mpr n1
  refine ⟨xs, e1, (List.pairwise_map.mp n2).imp fun hab z => hab (by rw [z]), e2, ?_⟩
  have := h.length_eq
  rw [e1, List.length_map, List.length_map] at this
  exact this
end DL
set_option Elab.async false
set_option linter.all false
set_option maxRecDepth 100000
set_option maxHeartbeats 4000000
namespace DL
open PySem PySem.Spec L2
open PyProof.Rows hiding St
open PySem.W (Datum Tup)
/-- a yard that the law draws -/
structure YLaw (y : YardD) : Prop where
  ok : YardOk y
  sm : y.rows.length ≤ 7
  w2 : 2 ≤ y.ws.length
  nf : NoFoe y
def names4 : List Str := ["go", "left", "right", "wait"]
def worlds4 : List Str := ["calm", "wild", "z", "abcdefgh"]
abbrev st_lyard : Stmt := top 86
abbrev lyN : List Str := ["pen", "worlds", "many", "rows", "state", "size", "odds", "name", "at", "one", "world"]
theorem sc_lyard : Scp lyN ["pen"] st_lyard := ⟨rfl, rfl, rfl, by decide +kernel, rfl, by decide +kernel, by decide +kernel⟩
def fLYard (K : PySem.W.Frag) (C : Addr) : WFn := fun Rs R k => Rs = [] ∧ R = exT YLaw (yT K C) ∧ k = 100
section
variable {P : Program} {w : World} {K : PySem.W.Frag} {mg : Str → Option Value} {base : Heap} {f C : Addr} {fd : FuncData}
theorem le_cast {X : Cx} {pn : Option Addr} {e : Expr} {S : LSt} {Q : Th → LSt → Prop} (h : LE X pn e S fun R S1 => ∃ R', R = R' ∧ Q R' S1) : LE X pn e S Q := h.mono fun R S1 ⟨R', e, q⟩ => by subst e; exact q
theorem nT_add (k m : Nat) : iT ((k : Int) + (m : Int)) = nT (k + m) := by show vl _ = vl _; rw [Int.natCast_add]
theorem cutL_upto {α : Type} (xs : List α) (k : Nat) : cutL xs none (some (k : Int)) = xs.take k := by
  have e : HT.sIx xs.length xs.length (some (k : Int)) = min k xs.length := by
    unfold HT.sIx
    simp
    intro h
    omega
  have e0 : HT.sIx xs.length 0 none = 0 := by
    unfold HT.sIx
    simp
  unfold cutL
  rw [e, e0, List.drop_zero, Nat.sub_zero]
  rcases Nat.le_total k xs.length with h | h
  · rw [Nat.min_eq_left h]
  · rw [Nat.min_eq_right h, List.take_of_length_le h, List.take_of_length_le (Nat.le_refl _)]
abbrev oddsT (K : PySem.W.Frag) (odds : List (List (Int × Int))) : Th := lstT (odds.map (oddT K))
theorem ones_ths {α : Type} (l : List α) : (l.map fun _ => iT 1) = ths K (l.map fun _ => PyData.int 1) := by rw [ths_map, List.map_map]; rfl
theorem shaped_ones {α : Type} (l : List α) : SeqAt.shaped (.list (l.map fun _ => PyData.int 1)) = true := by
  have := shaped_Ints (l.map fun _ => (1 : Int))
  rwa [List.map_map] at this
theorem filt_any {α : Type} (t : α → Bool) : ∀ l : List α, (!((l.filter t).map fun _ => PyData.int 1).isEmpty) = l.any t
  | [] => rfl
  | x :: l => by
    have ih := filt_any t l
    rw [List.filter_cons, List.any_cons, ← ih]
    cases t x <;> rfl
theorem drawn_of {odds : List (List (Int × Int))} {M : Nat} : ∀ {is : List Nat} {bs : List (Nat × List (Int × Int))}, Paired (fun (i : Nat) (o : Nat × List (Int × Int)) => o.1 < M ∧ o.2 = odds.map fun os => os.getD i (0, 1)) is bs → bs = drawnO odds (bs.map Prod.fst) is ∧ (bs.map Prod.fst).length = is.length ∧ ∀ t ∈ bs.map Prod.fst, t < M
  | _, _, .nil => ⟨rfl, rfl, fun t ht => by cases ht⟩
  | _, _, .cons (b := o) r t => by
    obtain ⟨e1, e2, e3⟩ := drawn_of t
    refine ⟨?_, by rw [List.map_cons, List.length_cons, List.length_cons, e2], fun z hz => ?_⟩
    · unfold drawnO at e1 ⊢
      rw [List.map_cons, List.zip_cons_cons, List.map_cons, ← e1, ← r.2]
    · rcases List.mem_cons.mp hz with rfl | hz
      · exact r.1
      · exact e3 z hz
theorem kn_lyard (F : Fun K "_law_yard" "_law_yard" st_lyard f fd) (hm : mg "_law_yard" = some (.ref f)) (hb : Binds K fd ["pen"] []) (h1 : Blt mg "range") (k1 : KnW P w K mg base 1 "_law_draw" 1 fDraw) (k2 : KnW P w K mg base 2 "_law_pick" 1 (fPick K)) (k3 : KnW P w K mg base 2 "_law_mixed" 1 (fMixed K)) (k4 : KnW P w K mg base 3 "_law_spread" 1 (fSpread K))
    (k5 : KnI P w K mg base 8 "Yard" C [vl .non] 5 (fYard K)) : KnW P w K mg base 10 "_law_yard" 0 (fLYard K C) := by
  refine ⟨f, fd, ["pen"], ?_, hm, F.kp, hb⟩
  refine fn_pen F sc_lyard rfl fun cdv A outer s H E Rs R j n a hr h hn => ?_
  obtain ⟨rfl, rfl, rfl⟩ := h
  have hn : n + 100 ≤ 2000 := hn
  refine lb_cons <| l1_parN (is := [1, 2]) (lo_sh <| le_cast <| le_bin op_add <| le_int <| le_open <| le_draw k1 hr (by decide) <| la_cons <| le_var (i := 0) rfl <| la_cons <| le_int <| la_nil ⟨_, _, _, rfl, ⟨3, rfl, by decide, by decide, rfl, rfl⟩, rfl, by show n + 1 ≤ 2000; omega, rfl, fun wd hwd => lr_I0 ⟨nT (2 + wd), nT_add 2 wd, ?_⟩⟩) (.cons sc_lyard.nd rfl (.inl rfl) (.inr rfl) rfl (.cons sc_lyard.nd rfl (.inr rfl) (.inl rfl) rfl .nil))
  refine lo_sh <| le_cast <| le_bin op_add <| le_int <| le_open <| le_draw k1 hr (by decide) <| la_cons <| le_var (i := 0) rfl <| la_cons <| le_int <| la_nil ⟨_, _, _, rfl, ⟨5, rfl, by decide, by decide, rfl, rfl⟩, rfl, by show n + 1 + 1 ≤ 2000; omega, rfl, fun md hmd => lr_I0 ⟨nT (3 + md), nT_add 3 md, lo_nil ⟨rfl, ?_⟩⟩⟩
  generalize hW : 2 + wd = W
  generalize hM : 3 + md = M
  refine lb_cons <| l1_setO (i := 3) (ln_lst <| la_nil ⟨zl (n := 0), ?_⟩) sc_lyard.nd
  refine lb_cons <| l1_for [4] (li_range1 h1 (la_cons (le_bin op_sub <| le_var (i := 2) rfl <| le_int <| lr_I0 <| la_nil ⟨_, rfl, by omega, by omega, ?_⟩))) .never
  refine ⟨fun i S => ∃ (rs : List Row) (nn : Nat) (q4 q5 q6 q7 q8 q9 q10 : Option Ent), S = ⟨[some (.sh (vl (.ref a))), some (.sh (nT W)), some (.sh (nT M)), some (.ow (ownL (rs.map (rowT K)))), q4, q5, q6, q7, q8, q9, q10], nn⟩ ∧ rs.length = i ∧ (∀ r ∈ rs, RowOk M W r ∧ kindS r ≠ "foe") ∧ nn ≤ n + 2 + 12 * i, ⟨[], n + 1 + 1, none, none, none, none, none, none, none, rfl, rfl, fun r hr => (by cases hr), by omega⟩, ?_, ?_⟩
  · rintro i R' S2 hR ⟨rs, nn, q4, q5, q6, q7, q8, q9, q10, rfl, hl, hok, hnn⟩
    have hi := (List.getElem?_eq_some_iff.mp hR).1
    rw [List.length_map, List.length_range] at hi
    refine lg_name (i := 4) ?_ sc_lyard.nd
    refine lb_cons <| l1_if <| lt_cmp op_lt <| le_open <| le_draw k1 hr (by decide) <| la_cons <| le_var (i := 0) rfl <| la_cons <| le_int <| la_nil ⟨_, _, _, rfl, ⟨5, rfl, by decide, by decide, rfl, rfl⟩, rfl, by show nn + 1 ≤ 2000; omega, rfl, fun d hd => le_int <| lr_I0 ⟨_, rfl, ?_⟩⟩
    refine ite_b (fun _ => ?_) fun _ => ?_
    · refine lb_cons <| l1_append 3 ⟨_, rfl⟩ (le_tup <| la_cons <| le_str <| la_cons <| le_lc (own := [("name", 7)]) (li_lst <| le_slL <| le_open <| le_draw k3 hr (by decide) <| la_cons <| le_var (i := 0) rfl <| la_cons <| le_lst <| la_cons <| le_str <| la_cons <| le_str <| la_cons <| le_str <| la_cons <| le_str <| la_nil ⟨zl (n := 4), la_nil ⟨_, _, _, rfl, ⟨_, names4.map sT, rfl, .inr rfl, (by show 4 ≤ 100; decide), rfl, rfl⟩, rfl, by show nn + 1 + 4 ≤ 2000; omega, rfl, fun Us hUs => ⟨Us, rfl, ?_⟩⟩⟩) (bk (by decide +kernel)) sc_lyard.nd)
      show LE _ _ _ _ _
      refine le_bin op_add <| le_int <| le_open <| le_draw k1 hr (by decide) <| la_cons <| le_var (i := 0) rfl <| la_cons <| le_int <| la_nil ⟨_, _, _, rfl, ⟨4, rfl, by decide, by decide, rfl, rfl⟩, rfl, by show nn + 1 + 4 + 1 ≤ 2000; omega, rfl, fun d2 hd2 => lr_I0 ⟨_, rfl, _, rfl, ?_⟩⟩
      obtain ⟨xs, rfl, xnd, xin, xlen⟩ := perm_names hUs (by decide)
      have ec : cutL (xs.map sT) none (some ((1 : Int) + (d2 : Int))) = (xs.take (1 + d2)).map sT := by
        rw [show (1 : Int) + (d2 : Int) = ((1 + d2 : Nat) : Int) by omega, cutL_upto, List.map_take]
      have xl : xs.length = 4 := xlen
      have tl : (xs.take (1 + d2)).length = 1 + d2 := by rw [List.length_take]; omega
      refine lc_rel ec (actT K) (fun (x : Str) (b : Str × Nat) => b.1 = x ∧ b.2 < M) 1 (by omega) (fun x hx mm hmm => ?_) fun bs mm pd hmm => ?_
      · have hmm : mm + 1 ≤ nn + 1 + 4 + 1 + 1 * (xs.take (1 + d2)).length := hmm
        intro s H C cl fp
        refine lg_name (i := 7) ?_ sc_lyard.nd
        intro s H C cl fp
        refine le_tup <| la_cons <| le_var (i := 7) rfl <| la_cons <| le_open <| le_draw k1 hr (by decide) <| la_cons <| le_var (i := 0) rfl <| la_cons <| le_var (i := 2) rfl <| la_nil ⟨_, _, _, rfl, ⟨M, rfl, by omega, by omega, rfl, rfl⟩, rfl, by show mm + 1 ≤ 2000; omega, rfl, fun t ht => la_nil ⟨zl (n := 2), (x, t), rfl, ⟨rfl, ht⟩, Nat.le_refl _⟩⟩
      · have hmm : mm ≤ nn + 1 + 4 + 1 + 1 * (xs.take (1 + d2)).length := hmm
        have pl : bs.length = 1 + d2 := by rw [← Paired.length pd]; exact tl
        have pk : bs.map Prod.fst = xs.take (1 + d2) ∧ ∀ b ∈ bs, b.1 ∈ xs.take (1 + d2) ∧ b.2 < M := by
          clear pl tl hmm ec
          generalize xs.take (1 + d2) = zs at pd
          induction pd with
          | nil => exact ⟨rfl, fun b hb => by cases hb⟩
          | cons r t ih =>
            refine ⟨by rw [List.map_cons, r.1, ih.1], fun b hb => ?_⟩
            rcases List.mem_cons.mp hb with rfl | hb
            · exact ⟨by rw [r.1]; exact List.mem_cons_self, r.2⟩
            · exact ⟨List.mem_cons_of_mem _ (ih.2 b hb).1, (ih.2 b hb).2⟩
        refine la_nil ⟨zl (n := 2), _, rfl, by rw [List.length_map]; exact Nat.lt_of_le_of_lt (show rs.length ≤ 10 by omega) (by decide), lb_nil <| lb_nil ?_⟩
        refine ⟨rs ++ [.mine bs], mm, _, q5, q6, q7, q8, q9, q10, by rw [List.map_append]; rfl, by rw [List.length_append, hl]; rfl, fun r hr => ?_, by omega⟩
        rcases List.mem_append.mp hr with hr | hr
        · exact hok r hr
        · cases List.mem_singleton.mp hr
          refine ⟨⟨by omega, by omega, fun b hb => ?_, ?_⟩, (by decide : ("mine" : Str) ≠ "foe")⟩
          · have hx := List.mem_of_mem_take (pk.2 b hb).1
            have hx := xin _ hx
            refine ⟨?_, (pk.2 b hb).2⟩
            have : ∀ z ∈ names4, nameOk z = true := by decide +kernel
            exact this _ hx
          · rw [pk.1]
            exact xnd.sublist (List.take_sublist _ _)
    · refine lb_cons <| l1_set (i := 5) (le_open <| le_draw k2 hr (by decide) <| la_cons <| le_var (i := 0) rfl <| la_cons <| le_lst <| la_cons <| le_int <| la_cons <| le_int <| la_cons <| le_int <| la_cons <| le_int <| la_cons <| le_int <| la_cons <| le_int <| la_cons <| le_int <| la_cons <| le_int <| la_nil ⟨zl (n := 8), la_nil ⟨_, _, _, rfl, ⟨_, [1, 2, 2, 3, 3, 4, 5, 6].map nT, rfl, .inr rfl, (by show 1 ≤ 8; decide), (by show 8 ≤ 1000; decide), rfl, rfl⟩, rfl, by show nn + 1 + 1 ≤ 2000; omega, rfl, fun T hT => ?_⟩⟩) sc_lyard.nd
      obtain ⟨m, hmm, rfl⟩ := List.mem_map.mp hT
      have m16 : 1 ≤ m ∧ m ≤ 6 := by simp at hmm; omega
      refine lb_cons <| l1_set (i := 6) (le_lc (own := [("world", 10)]) (li_range1 h1 (la_cons (le_var (i := 1) rfl (la_nil ⟨_, rfl, by omega, by omega, ?_⟩)))) (bk (by decide +kernel)) sc_lyard.nd) sc_lyard.nd
      rw [Int.toNat_natCast]
      refine lc_rel (ds := List.range W) rfl (oddT K) (fun (_ : Nat) (os : List (Int × Int)) => os ∈ menu m) 1 (by rw [List.length_range]; omega) (fun x hx mm hm2 => ?_) fun odds mm pd hm2 => ?_
      · have hm2 : mm + 1 ≤ nn + 1 + 1 + 1 * (List.range W).length := hm2
        rw [List.length_range] at hm2
        intro s H C cl fp
        refine lg_name (i := 10) ?_ sc_lyard.nd
        intro s H C cl fp
        exact le_open <| le_draw k4 hr (by decide) <| la_cons <| le_var (i := 0) rfl <| la_cons <| le_var (i := 5) rfl <| la_nil ⟨_, _, _, rfl, ⟨m, rfl, m16.1, m16.2, rfl, rfl⟩, rfl, by show mm + 1 ≤ 2000; omega, rfl, fun os hos => ⟨os, rfl, hos, Nat.le_refl _⟩⟩
      have hm2 : mm ≤ nn + 1 + 1 + 1 * (List.range W).length := hm2
      rw [List.length_range] at hm2
      have ow : odds.length = W := by rw [← Paired.length pd, List.length_range]
      have oin : ∀ os ∈ odds, os ∈ menu m := by
        clear hm2 ow
        generalize List.range W = zs at pd
        induction pd with
        | nil => exact fun os h => by cases h
        | cons r t ih => exact fun os h => (List.mem_cons.mp h).elim (fun z => by rw [z]; exact r) (ih os)
      refine lb_cons <| l1_append 3 ⟨_, rfl⟩ (le_tup <| la_cons <| le_str <| la_cons <| le_lc (own := [("at", 8)]) (li_range1 h1 (la_cons (le_var (i := 5) rfl (la_nil ⟨_, rfl, by omega, by omega, ?_⟩)))) (bk (by decide +kernel)) sc_lyard.nd)
      rw [Int.toNat_natCast]
      refine lc_relF (ds := List.range m) rfl (outT K) (fun (i : Nat) (o : Nat × List (Int × Int)) => o.1 < M ∧ o.2 = odds.map fun os => os.getD i (0, 1)) (maskF odds) 1 (by rw [List.length_range]; omega) (fun x hx m3 hm3 => ?_) fun bs m3 pd3 hm3 => ?_
      · have hm3 : m3 + 1 ≤ mm + 1 * (List.range m).length := hm3
        have hx := List.mem_range.mp hx
        rw [List.length_range] at hm3
        have at9 : ∀ os ∈ odds, atI (os.map (rT K)) ((0 : Int) + (x : Int)) = some (rT K (os.getD x (0, 1))) := fun os hos => by
          rw [Int.zero_add]
          exact at_odd (by rw [(menu_row m16.1 m16.2 (oin os hos)).1]; exact hx)
        intro s H C cl fp
        refine lg_name (i := 8) ?_ sc_lyard.nd
        intro s H C cl fp
        refine lt_cmp (op_neD (ru hr)) <| le_lc (own := [("one", 9)]) (li_lst (le_var (i := 6) rfl ⟨_, rfl, ?_⟩)) (bk2 (by decide +kernel)) sc_lyard.nd
        refine lc_fil odds (oddT K) (fun _ => iT 1) (fun os => decide (0 < (os.getD x (0, 1)).1)) (by omega) (fun os hos => ?_) ?_
        · intro s H C cl fp
          refine lg_name (i := 9) ?_ sc_lyard.nd
          intro s H C cl fp
          refine lt_cmp op_gt <| le_ix <| le_ix <| le_var (i := 9) rfl <| le_var (i := 8) rfl ⟨_, _, _, .inr rfl, rfl, at9 os hos, le_int ⟨_, _, _, .inl rfl, rfl, rfl, le_int <| lr_I0 ⟨_, rfl, rfl, rfl, fun _ => ?_⟩⟩⟩
          intro s H C cl fp
          exact le_int ⟨rfl, rfl⟩
        · rw [ones_ths (K := K)]
          refine le_lst <| la_nil ⟨zl (n := 0), lr_neL (shaped_ones _) ⟨_, rfl, filt_any _ _, rfl, fun _ => ?_⟩⟩
          intro s H C cl fp
          refine le_tup <| la_cons <| le_open <| le_draw k1 hr (by decide) <| la_cons <| le_var (i := 0) rfl <| la_cons <| le_var (i := 2) rfl <| la_nil ⟨_, _, _, rfl, ⟨M, rfl, by omega, by omega, rfl, rfl⟩, rfl, by show m3 + 1 ≤ 2000; omega, rfl, fun t ht => la_cons <| le_lc (own := [("one", 9)]) (li_lst (le_var (i := 6) rfl ⟨_, rfl, ?_⟩)) (bk2 (by decide +kernel)) sc_lyard.nd⟩
          refine lc_map odds (oddT K) (fun os => rT K (os.getD x (0, 1))) (by omega) (fun os hos => ?_) ?_
          · intro s H C cl fp
            refine lg_name (i := 9) ?_ sc_lyard.nd
            intro s H C cl fp
            exact le_ix <| le_var (i := 9) rfl <| le_var (i := 8) rfl ⟨_, _, _, .inr rfl, rfl, at9 os hos, rfl, rfl⟩
          · refine la_nil ⟨zl (n := 2), (t, odds.map fun os => os.getD x (0, 1)), ?_, ⟨ht, rfl⟩, Nat.le_refl _⟩
            show tupT K [nT t, lstT _] = tupT K [nT t, lstT ((odds.map fun os => os.getD x (0, 1)).map (rT K))]
            rw [List.map_map]; rfl
      · have hm3 : m3 ≤ mm + 1 * (List.range m).length := hm3
        rw [List.length_range] at hm3
        obtain ⟨d1, d2, d3⟩ := drawn_of pd3
        have outs := drawn_ok (many := M) m16.1 m16.2 oin (by omega) (by omega) d2 d3
        rw [← d1, ow] at outs
        refine la_nil ⟨zl (n := 2), _, rfl, by rw [List.length_map]; exact Nat.lt_of_le_of_lt (show rs.length ≤ 10 by omega) (by decide), lb_nil <| lb_nil ?_⟩
        refine ⟨rs ++ [.luck bs], m3, _, some (.sh (nT m)), some (.sh (oddsT K odds)), q7, q8, q9, q10, by rw [List.map_append]; rfl, by rw [List.length_append, hl]; rfl, fun r hr => ?_, by omega⟩
        rcases List.mem_append.mp hr with hr | hr
        · exact hok r hr
        · cases List.mem_singleton.mp hr
          exact ⟨outs, (by decide : ("luck" : Str) ≠ "foe")⟩
  · rintro S2 ⟨rs, nn, q4, q5, q6, q7, q8, q9, q10, rfl, hl, hok, hnn⟩
    rw [List.length_map, List.length_range] at hl hnn
    have lrs : rs.length + 1 = M := by omega
    refine lb_shareL (i := 3) rfl <| lb_cons <| l1_ret <| le_close (p := YLaw) (f := yT K C) <| le_make k5 hr (by decide) <| la_cons <| le_slL <| le_lst <| la_cons <| le_str <| la_cons <| le_str <| la_cons <| le_str <| la_cons <| le_str <| la_nil ⟨zl (n := 4), worlds4.map sT, rfl, ?_⟩
    show LE _ _ _ _ _
    refine le_var (i := 1) rfl ⟨_, rfl, ?_⟩
    refine la_cons <| le_cat <| le_var (i := 3) rfl <| le_lst <| la_cons <| le_tup <| la_cons <| le_str <| la_nil ⟨zl (n := 1), la_nil ⟨zl (n := 1), rs.map (rowT K), [tupT K [sT "end"]], rfl, rfl, by rw [List.length_map]; exact Nat.le_trans (show rs.length + 1 ≤ 10 by omega) (by decide), ?_⟩⟩
    refine la_cons <| le_open <| le_draw k1 hr (by decide) <| la_cons <| le_var (i := 0) rfl <| la_cons <| le_var (i := 2) rfl <| la_nil ⟨_, _, _, rfl, ⟨M, rfl, by omega, by omega, rfl, rfl⟩, rfl, by show nn + 1 ≤ 2000; omega, rfl, fun st hst => ?_⟩
    refine la_cons <| le_lst <| la_cons <| le_tup <| la_cons <| le_str <| la_cons <| le_lst <| la_cons <| le_bin op_sub <| le_var (i := 2) rfl <| le_int <| lr_I0 <| la_nil ⟨zl (n := 1), la_nil ⟨zl (n := 2), la_nil ⟨zl (n := 1), la_nil ?_⟩⟩⟩
    have wl : (worlds4.take W).length = W := by rw [List.length_take]; exact Nat.min_eq_left (show W ≤ 4 by omega)
    have yl : (rs ++ [Row.fin]).length = M := by rw [List.length_append]; exact lrs
    have yok : YardOk ⟨worlds4.take W, rs ++ [.fin], st, [M - 1]⟩ := by
      refine ⟨?_, fun x hx => ?_, ?_, ?_, ?_, ?_, fun r hr => ?_, ?_, Nat.le_refl _, fun g hg => ?_⟩
      · exact (show worlds4.Nodup by decide).sublist (List.take_sublist _ _)
      · have : ∀ z ∈ worlds4, nameOk z = true := by decide +kernel
        exact this x (List.mem_of_mem_take hx)
      · show 1 ≤ (worlds4.take W).length; omega
      · show (worlds4.take W).length ≤ 4; omega
      · show 2 ≤ (rs ++ [Row.fin]).length; omega
      · show (rs ++ [Row.fin]).length ≤ 400; omega
      · show RowOk (rs ++ [Row.fin]).length (worlds4.take W).length r
        rw [yl, wl]
        rcases List.mem_append.mp hr with hr | hr
        · exact (hok r hr).1
        · cases List.mem_singleton.mp hr; exact trivial
      · show st < (rs ++ [Row.fin]).length; omega
      · cases List.mem_singleton.mp hg
        show M - 1 < (rs ++ [Row.fin]).length; omega
    refine ⟨yardF K ⟨worlds4.take W, rs ++ [.fin], st, [M - 1]⟩, ⟨⟨worlds4.take W, rs ++ [.fin], st, [M - 1]⟩, lstT [markT K (M - 1)], ?_, .inr rfl, yok, rfl⟩, rfl, ⟨worlds4.take W, rs ++ [.fin], st, [M - 1]⟩, rfl, ⟨yok, ?_, ?_, fun r hr => ?_⟩, rfl, ?_⟩
    · rw [cutL_upto, ← List.map_take]
      show [lstT _, lstT _, nT st, lstT [tupT K [sT "goal", lstT [iT ((M : Int) - 1)]]], vl .non] = [lstT _, lstT ((rs ++ [Row.fin]).map (rowT K)), nT st, lstT [tupT K [sT "goal", lstT [nT (M - 1)]]], vl .non]
      rw [List.map_append, show (M : Int) - 1 = ((M - 1 : Nat) : Int) by omega]
      rfl
    · show (rs ++ [Row.fin]).length ≤ 7; omega
    · show 2 ≤ (worlds4.take W).length; omega
    · rcases List.mem_append.mp hr with hr | hr
      · exact (hok r hr).2
      · cases List.mem_singleton.mp hr; exact (by decide : ("end" : Str) ≠ "foe")
    · show nn + 1 ≤ n + 100; omega
end
end DL
set_option Elab.async false
set_option linter.all false
set_option maxRecDepth 100000
set_option maxHeartbeats 4000000
namespace DL
open PySem PySem.Spec L2
open PyProof.Rows hiding St
open PySem.W (Datum Tup)
section
variable {P : Program} {w : World} {K : PySem.W.Frag} {mg : Str → Option Value} {base : Heap} {f C : Addr} {fd : FuncData}
abbrev st_count : Stmt := top 79
theorem sc_count : Scp ["value", "most"] ["value", "most"] st_count := ⟨rfl, rfl, rfl, by decide +kernel, rfl, by decide +kernel, by decide +kernel⟩
/-- a number that is no bool, at least 0, of no told bound -/
def fCount : PFn := fun Rs R => ∃ n : Nat, Rs = [nT n, vl .non] ∧ R = bT true
theorem kn_count (F : Fun K "_law_is_count" "_law_is_count" st_count f fd) (hm : mg "_law_is_count" = some (.ref f)) (hb : Binds K fd ["value", "most"] []) (h1 : Blt mg "isinstance") (h2 : Blt mg "int") (h3 : Blt mg "bool") : Kn P w K mg base 1 "_law_is_count" (spP 2 fCount) := by
  refine kn_pure F hm hb sc_count rfl fun cdv A outer s H E Rs R hr h => ?_
  obtain ⟨n, rfl, rfl⟩ := h
  refine lb_cons <| l1_ret <| le_and <| le_isi (T := "int") h1 h2 (by decide +kernel) <| le_var (i := 0) rfl ⟨"int", true, ty_int, (by decide +kernel), true, rfl, ?_⟩
  refine le_and <| le_not <| le_isi (T := "bool") h1 h3 (by decide +kernel) <| le_var (i := 0) rfl ⟨"int", false, ty_int, by decide +kernel, false, rfl, true, rfl, ?_⟩
  refine le_and <| le_cmp op_ge <| le_var (i := 0) rfl <| le_int <| lr_I0 ⟨_, rfl, ?_⟩
  rw [decide_eq_true (show (0 : Int) ≤ (n : Int) by omega)]
  exact le_one <| le_or <| le_isN <| le_var (i := 1) rfl ⟨true, nN_non, true, rfl, rfl⟩
theorem filt_one : ∀ {as : List (Str × Nat)} {a : Nat} {x : Str} {t : Nat}, (as.map Prod.fst).Nodup → as[a]? = some (x, t) → as.filter (fun b => decide (b.1 = x)) = [(x, t)]
  | [], _, _, _, _, e => by simp at e
  | b :: as, 0, x, t, nd, e => by
    simp at e
    subst e
    obtain ⟨n1, n2⟩ := List.nodup_cons.mp nd
    rw [List.filter_cons, if_pos (by simp)]
    have : as.filter (fun b => decide (b.1 = x)) = [] := List.filter_eq_nil_iff.mpr fun c hc z => n1 (List.mem_map.mpr ⟨c, hc, of_decide_eq_true z⟩)
    rw [this]
  | b :: as, a + 1, x, t, nd, e => by
    obtain ⟨n1, n2⟩ := List.nodup_cons.mp nd
    have e' : as[a]? = some (x, t) := by simpa using e
    have hm : x ∈ as.map Prod.fst := List.mem_map.mpr ⟨_, List.mem_of_getElem? e', rfl⟩
    rw [List.filter_cons, if_neg (by simpa using fun z => n1 (by rw [z]; exact hm))]
    exact filt_one n2 e'
abbrev st_target : Stmt := top 78
abbrev tgN : List Str := ["yard", "state", "name", "some", "one", "target"]
theorem sc_target : Scp tgN ["yard", "state", "name"] st_target := ⟨rfl, rfl, rfl, by decide +kernel, rfl, by decide +kernel, by decide +kernel⟩
def fTarget (K : PySem.W.Frag) (C : Addr) : PFn := fun Rs R => ∃ (y : YardD) (s a : Nat) (as : List (Str × Nat)) (ns : List Nat) (x : Str) (t : Nat), Rs = [yT K C y, nT s, sT x] ∧ At y s (.mine as) ns ∧ as[a]? = some (x, t) ∧ R = nT t
theorem kn_target (F : Fun K "_law_target" "_law_target" st_target f fd) (hm : mg "_law_target" = some (.ref f)) (hb : Binds K fd ["yard", "state", "name"] []) (yc : YC K C) (h1 : Blt mg "isinstance") (h2 : Blt mg "str") : Kn P w K mg base 1 "_law_target" (spP 3 (fTarget K C)) := by
  refine kn_pure F hm hb sc_target rfl fun cdv A outer s H E Rs R hr h => ?_
  obtain ⟨y, n, a, as, ns, x, t, rfl, at', ex, rfl⟩ := h
  have al : as.length ≤ 4 := at'.acts
  refine lb_cons <| l1_set (i := 3) (le_if <| lt_ww <| lw_and <| lt_cmp op_eq <| le_ix <| le_ix <| le_fld <| le_var (i := 0) rfl ⟨_, _, _, rfl, yc.c, yc.n2, rfl, le_var (i := 1) rfl ⟨_, _, rowF K (.mine as), .inl rfl, rfl, atRow at'.row, le_int ⟨_, _, sT "mine", .inl rfl, rfl, rfl, le_str <| lr_eq rfl ⟨true, rfl, ?_⟩⟩⟩⟩) sc_target.nd
  refine lw_and1 <| lt_val <| le_isi (T := "str") h1 h2 (by decide +kernel) <| le_var (i := 2) rfl ⟨"str", true, ty_str, (by decide +kernel), true, rfl, ?_⟩
  refine le_lc (own := [("one", 4), ("target", 5)]) (li_tup <| le_ix <| le_ix <| le_fld <| le_var (i := 0) rfl ⟨_, _, _, rfl, yc.c, yc.n2, rfl, le_var (i := 1) rfl ⟨_, _, rowF K (.mine as), .inl rfl, rfl, atRow at'.row, le_int ⟨_, _, tupT K (as.map (actT K)), .inl rfl, rfl, rfl, _, rfl, ?_⟩⟩⟩) (bk (by decide +kernel)) sc_target.nd
  refine lc_fil as (actT K) (fun b => nT b.2) (fun b => decide (b.1 = x)) (by omega) (fun b hb => ?_) ?_
  · intro s H C cl fp
    refine lg_tup ⟨_, rfl, rfl, lgs_cons <| lg_name (i := 4) (lgs_cons <| lg_name (i := 5) (lgs_nil ?_) sc_target.nd) sc_target.nd⟩
    intro s H C cl fp
    refine lt_cmp op_eq <| le_var (i := 4) rfl <| le_var (i := 2) rfl <| lr_eq rfl ⟨_, rfl, decide_eq_decide.mpr ⟨fun z => by injection z, fun z => by rw [z]⟩, rfl, fun _ => ?_⟩
    intro s H C cl fp
    exact le_var (i := 5) rfl ⟨rfl, rfl⟩
  · rw [filt_one at'.ok.2.2.2 ex]
    refine lb_cons <| l1_ret <| le_if <| lt_cmp (op_neD (ru hr)) <| le_var (i := 3) rfl <| le_lst <| la_nil ⟨zl (n := 0), lr_neL (ds := [.int t]) (shaped_Ints [(t : Int)]) ⟨true, rfl, ?_⟩⟩
    exact le_ix <| le_var (i := 3) rfl <| le_int ⟨_, _, nT t, .inr rfl, rfl, rfl, rfl⟩
end
end DL
set_option Elab.async false
set_option linter.all false
set_option maxRecDepth 100000
set_option maxHeartbeats 4000000
namespace DL
open PySem PySem.Spec L2
open PyProof.Rows hiding St
open PySem.W (Datum Tup)
section
variable {P : Program} {w : World} {K : PySem.W.Frag} {mg : Str → Option Value} {base : Heap} {f C : Addr} {fd : FuncData}
abbrev st_rows3 : Stmt := top 80
theorem sc_rows3 : Scp ["value", "size", "row"] ["value", "size"] st_rows3 := ⟨rfl, rfl, rfl, by decide +kernel, rfl, by decide +kernel, by decide +kernel⟩
def fAreRows (K : PySem.W.Frag) : PFn := fun Rs R => ∃ rows : List SR, Rs = [tupT K (rows.map (stT K)), iT 3] ∧ rows.length ≤ 1000 ∧ R = bT true
theorem kn_are_rows (F : Fun K "_law_are_rows" "_law_are_rows" st_rows3 f fd) (hm : mg "_law_are_rows" = some (.ref f)) (hb : Binds K fd ["value", "size"] []) (h1 : Blt mg "isinstance") (h2 : Blt mg "tuple") (h3 : Blt mg "len") : Kn P w K mg base 1 "_law_are_rows" (spP 2 (fAreRows K)) := by
  refine kn_pure F hm hb sc_rows3 rfl fun cdv A outer s H E Rs R hr h => ?_
  obtain ⟨rows, rfl, hl, rfl⟩ := h
  refine lb_cons <| l1_ret <| le_and <| le_isi (T := "tuple") h1 h2 (by decide +kernel) <| le_var (i := 0) rfl ⟨"tuple", true, ty_tup, (by decide +kernel), true, rfl, ?_⟩
  refine le_one <| le_cmp (op_eqD (ru hr)) <| le_lc (own := [("row", 2)]) (li_tup (le_var (i := 0) rfl ⟨_, rfl, ?_⟩)) (bk (by decide +kernel)) sc_rows3.nd
  refine lc_fil rows (stT K) (stT K) (fun _ => false) (by omega) (fun r hr' => ?_) ?_
  · intro s H C cl fp
    refine lg_name (i := 2) ?_ sc_rows3.nd
    intro s H C cl fp
    refine lt_ww <| lw_or <| lt_not <| lt_val <| le_isi (T := "tuple") h1 h2 (by decide +kernel) <| le_var (i := 2) rfl ⟨"tuple", true, ty_tup, (by decide +kernel), true, rfl, ?_⟩
    refine lw_or1 <| lt_cmp op_ne <| le_cb call_len_seq h3 (by decide +kernel) <| la_cons <| le_var (i := 2) rfl <| la_nil <| rc_len (.inl rfl) <| le_var (i := 1) rfl <| lr_ne rfl ⟨false, rfl, rfl, rfl, fun z => (by cases z)⟩
  · rw [show rows.filter (fun _ => false) = [] from List.filter_eq_nil_iff.mpr fun _ _ => (by decide)]
    exact le_lst <| la_nil ⟨zl (n := 0), lr_eqD (d := .list []) (d' := .list []) (by decide) (by decide) rfl⟩
end
end DL
set_option Elab.async false
set_option linter.all false
set_option maxRecDepth 100000
set_option maxHeartbeats 4000000
/-! dicts whose keys are nested tuples, their values at addresses -/
namespace DL
open PySem PySem.Spec L2
open PyProof.Rows hiding St
/-- an entry: the key, its own tuple, where its value stands -/
abbrev NEnt := NestedKey × Addr × Addr
abbrev nval (x : NEnt) : NestedKey × Addr × Value := (x.1, x.2.1, Value.ref x.2.2)
def NDk (P : Program) (w : World) (d : Addr) (o : Obj) (xs : List NEnt) (h : Heap) : Prop :=
  h.get? d = some o ∧ xs.length ≤ sizeLine ∧ (d == sysModules) = false ∧ o.ExactDict ∧ ∃ es ep, o.data = .dict es ep ∧ es.toList = (xs.map nval).map (entryOfKey (nestedKind P w)) ∧ ((xs.map nval).map (·.1)).Nodup
def NDO (P : Program) (w : World) (d : Addr) (o : Obj) (xs : List NEnt) : HO := .ext (NDk P w d o xs)
theorem nd_new {P : Program} {w : World} {d : Addr} {o : Obj} {xs : List NEnt} {H : Hp} {h : Heap} (x : NDk P w d o xs h) : ObjOk P w H h d (NDO P w d o xs) :=
  ⟨x, ⟨o, x.1⟩, fun h1 h2 y k => ⟨k _ y.1, y.2⟩⟩
def KeyAt (K : PySem.W.Frag) (H : Hp) (k : NestedKey) (b : Addr) : Prop := k.depth ≤ 8 ∧ Dp K H (.ref b) k.data
section
variable {X : Cx} {pins : List (Addr × Obj)} {σ : St} {H : Hp} {s : Shared} {A : Around} {E : Value → Shared → Prop}
mutual
theorem dp_nested (I : Inv X pins σ H s) : ∀ (k : NestedKey) (v : V) (u : Value), Dp X.K H v k.data → RelV v u → NestedIs s.heap k u
  | .none, _, _, h, r => by
    rw [NestedKey.data] at h
    cases h
    cases r
    exact .none
  | .num i, _, _, h, r => by
    rw [NestedKey.data] at h
    cases h
    obtain ⟨t, rfl⟩ := r
    exact .int i t
  | .text x, _, _, h, r => by
    rw [NestedKey.data] at h
    cases h
    obtain ⟨t, rfl⟩ := r
    exact .text x t
  | .tup ks, _, _, h, r => by
    rw [NestedKey.data] at h
    cases h with
    | tup hs ha =>
      cases r
      obtain ⟨its, rv, ⟨o, ho, hc, n, hd⟩, _⟩ := I.tuple hs
      exact .tup ho hc hd (by simpa using dp_nestedAll I ks _ its ha rv)
theorem dp_nestedAll (I : Inv X pins σ H s) : ∀ (ks : List NestedKey) (vs : List V) (us : List Value), DpAll X.K H vs (NestedKey.datas ks) → Vals vs us → NestedAll s.heap ks us
  | [], _, _, h, r => by
    rw [NestedKey.datas] at h
    cases h
    cases r
    exact .nil
  | k :: ks, _, _, h, r => by
    rw [NestedKey.datas] at h
    cases h with
    | cons h1 h2 =>
      cases r with
      | cons r1 r2 => exact .cons (dp_nested I k _ _ h1 r1) (dp_nestedAll I ks _ _ h2 r2)
end
theorem key_is (I : Inv X pins σ H s) {k : NestedKey} {b : Addr} (h : KeyAt X.K H k b) : (nestedKind X.prog X.w).is s.heap k b := ⟨dp_nested I k _ _ h.2 rfl, h.1⟩
theorem nd_of {d : Addr} {o : Obj} {xs : List NEnt} (I : Inv X pins σ H s) (h : H d = some (NDO X.prog X.w d o xs)) : NDk X.prog X.w d o xs s.heap := (I.hok d _ h).1
theorem nd_dict {d : Addr} {o : Obj} {xs : List NEnt} (I : Inv X pins σ H s) (h : H d = some (NDO X.prog X.w d o xs)) (hk : ∀ x ∈ xs, KeyAt X.K H x.1 x.2.1) : s.heap.DictOfH (nestedKind X.prog X.w) d (xs.map nval) := by
  obtain ⟨ho, _, _, hx, es, ep, hd, he, hn⟩ := nd_of I h
  refine ⟨o, es, ep, ho, hx, hd, he, fun y hy => ?_, hn⟩
  obtain ⟨x, hx, rfl⟩ := List.mem_map.mp hy
  exact key_is I (hk x hx)
theorem nd_room (hu : A.units + 64 < cLine) : (nestedKind X.prog X.w).room A.in1 := by
  show A.in1.units + 8 < cLine
  rw [Around.in1_units]; omega
end
/-- d[k], d a dict of such keys -/
def rNGet (X : Cx) : R2 := fun x y H Q => ∃ a o xs k b va p, x = .ref a ∧ y = .ref b ∧ H a = some (NDO X.prog X.w a o xs) ∧ (∀ z ∈ xs, KeyAt X.K H z.1 z.2.1) ∧ KeyAt X.K H k b ∧ atKey (xs.map nval) k = some (p, .ref va) ∧ Q (.ref va) H
/-- d[k] = v, the key new -/
def sNPut (X : Cx) (td ty tv : TE) : TS := fun D σ H => tv σ H fun v H1 => td σ H1 fun x H2 => ty σ H2 fun y H3 => ∃ a o xs k b va, x = .ref a ∧ y = .ref b ∧ v = .ref va ∧ H3 a = some (NDO X.prog X.w a o xs) ∧ (∀ z ∈ xs, KeyAt X.K H3 z.1 z.2.1) ∧ KeyAt X.K H3 k b ∧ atKey (xs.map nval) k = none ∧ xs.length < sizeLine ∧
  ∀ o', D.nx σ (upd H3 a (NDO X.prog X.w a o' (xs ++ [(k, b, va)])))
/-- d.setdefault(k, v) -/
def tNSetd (X : Cx) (td ty tv : TE) : TE := fun σ H Q => td σ H fun x H1 => ∃ a o xs, x = .ref a ∧ H1 a = some (NDO X.prog X.w a o xs) ∧ ty σ H1 fun y H2 => tv σ H2 fun v H3 => ∃ k b va, y = .ref b ∧ v = .ref va ∧ H3 a = some (NDO X.prog X.w a o xs) ∧ (∀ z ∈ xs, KeyAt X.K H3 z.1 z.2.1) ∧ KeyAt X.K H3 k b ∧ xs.length < sizeLine ∧
  (∀ p vp, atKey (xs.map nval) k = some (p, .ref vp) → Q (.ref vp) H3) ∧ (atKey (xs.map nval) k = none → ∀ o', Q (.ref va) (upd H3 a (NDO X.prog X.w a o' (xs ++ [(k, b, va)]))))
section
variable {X : Cx} {o i e f value : Expr} {pos pos' tpos apos cpos : Pos} {td ty tv : TE}
theorem pe_ndget (hu : X.A.units + 64 < cLine) (ho : PE X o td) (hi : PE X i ty) (hs : NoSl i) : PE X (.Subscript o i pos) (tOp (rNGet X) td ty) := by
  refine ⟨fun pins s σ H Q I h => ?_⟩
  refine subD_of PySem.F.slot_dict_getitem.lookup hs (thn (ho.run pins s σ H _ I h) fun u s1 ⟨x, H1, I1, rx, q1⟩ => thn (hi.run pins s1 σ H1 _ I1 q1) fun iv s2 ⟨y, H2, I2, ry, a, o, xs, k, b, va, p, ex, ey, g, hk, hb, hat, q2⟩ => ?_)
  subst ex
  subst ey
  obtain rfl : u = Value.ref a := rx
  obtain rfl : iv = Value.ref b := ry
  have dd := nd_dict I2 g hk
  exact ⟨dd.typeIs, wpAny_getItem_heap (nd_room hu) (key_is I2 hb) dd hat ⟨.ref va, H2, I2.tok _, rfl, q2⟩⟩
theorem nd_write {pins : List (Addr × Obj)} {σ : St} {H : Hp} {s : Shared} {a : Addr} {ob : Obj} {xs ys : List NEnt} {h' : Heap} {t' : Nat} (I : Inv X pins σ H s) (g : H a = some (NDO X.prog X.w a ob xs)) (hl : ys.length ≤ sizeLine) (dd : h'.DictOfH (nestedKind X.prog X.w) a (ys.map nval)) (hs : Heap.SameBut a s.heap h') :
    ∃ o', Inv X pins σ (upd H a (NDO X.prog X.w a o' ys)) { s with heap := h', toks := t' } := by
  obtain ⟨_, _, hz, _⟩ := nd_of I g
  obtain ⟨q, es, ep, hq, h2, h3, h4, _, h5⟩ := dd
  exact ⟨q, d_write I (by rw [g]; exact True.intro) hs ⟨q, hq⟩ (nd_new ⟨hq, hl, hz, h2, es, ep, h3, h4, h5⟩)⟩
theorem nval_snoc {xs : List NEnt} {k : NestedKey} {b va : Addr} : xs.map nval ++ [(k, b, Value.ref va)] = (xs ++ [(k, b, va)]).map nval := by rw [List.map_append]; rfl
theorem ps_ndput (hu : X.A.units + 64 < cLine) (ho : PE X o td) (hi : PE X i ty) (hv : PE X value tv) (hs : swapsWith value (some (.Subscript o i pos')) pos.line X.env = pure false) :
    PS X (.Assign [.Subscript o i pos'] value pos) (sNPut X td ty tv) := by
  refine ⟨fun pins s σ H D I h => ?_⟩
  refine wpAny_Assign_Subscript (thn (hv.run pins s σ H _ I h) fun r s1 ⟨v, H1, I1, rv, q1⟩ => thn (ho.run pins s1 σ H1 _ I1 q1) fun u s2 ⟨x, H2, I2, rx, q2⟩ => thn (hi.run pins s2 σ H2 _ I2 q2) fun iv s3 ⟨y, H3, I3, ry, a, ob, xs, k, b, va, ex, ey, ev, g, hk, hb, hat, hl, q3⟩ => ?_) hs
  subst ex ey ev
  obtain rfl : u = Value.ref a := rx
  obtain rfl : iv = Value.ref b := ry
  obtain rfl : r = Value.ref va := rv
  refine wpAny_setItem_heap (hsz := by rw [List.length_map]; omega) (nd_room hu) (key_is I3 hb) (nd_dict I3 g hk) fun h' dd' hs' => ?_
  rw [storedH_new hat, nval_snoc] at dd'
  obtain ⟨o', I4⟩ := nd_write (t' := s3.toks + (nestedKind X.prog X.w).draws k) I3 g (by rw [List.length_append]; exact hl) dd' hs'
  exact ⟨σ, _, I4, q3 o'⟩
theorem pe_ndsetd (hu : X.A.units + 64 < cLine) (ho : PE X o td) (he : PE X e ty) (hf : PE X f tv) (m : M2 X o "setdefault" apos e f cpos) : PE X (.Call (.Attribute o "setdefault" apos) [e, f] [] cpos) (tNSetd X td ty tv) := by
  refine ⟨fun pins s σ H Q I h => ?_⟩
  refine wpAny_Call_method m.base m.few m.line PySem.F.plainAttrs_dict PySem.F.slot_dict_setdefault PySem.F.type_dict_setdefault (thn (ho.run pins s σ H _ I h) fun u s1 ⟨x, H1, I1, rx, a, ob, xs, ex, g1, q1⟩ => ?_)
  subst ex
  obtain rfl : u = Value.ref a := rx
  obtain ⟨ho1, _, hz, hx, _⟩ := nd_of I1 g1
  refine ⟨⟨ob, ho1, hx.1⟩, fun c q => (by cases q; exact ⟨ob, ho1, hx.2.1⟩), ?_⟩
  rw [m.trees]
  refine Calls.callWith_builtin rfl (Calls.evalArgs_plain (Calls.spliced_cons (thn (he.run pins s1 σ H1 _ I1 q1) fun iv s2 ⟨y, H2, I2, ry, q2⟩ =>
    Calls.spliced_cons (thn (hf.run pins s2 σ H2 _ I2 q2) fun fv s3 ⟨v, H3, I3, rv, k, b, va, ey, ev, g, hk, hb, hl, q3, q4⟩ => Calls.spliced_nil ?_))))
  subst ey ev
  obtain rfl : iv = Value.ref b := ry
  obtain rfl : fv = Value.ref va := rv
  refine call_setdefault_heap (hsz := by rw [List.length_map]; omega) (nd_room hu) (key_is I3 hb) hz (nd_dict I3 g hk) (fun p hp => ?_) fun hn h' dd' hs' => ?_
  · obtain ⟨p1, p2⟩ := p
    obtain ⟨z, hz', e⟩ := Option.map_eq_some_iff.mp hp
    have hz' := List.mem_of_find?_eq_some hz'
    obtain ⟨x, _, rfl⟩ := List.mem_map.mp hz'
    cases e
    exact ⟨.ref x.2.2, _, I3.tok _, rfl, q3 _ _ hp⟩
  · rw [storedH_new hn, nval_snoc] at dd'
    obtain ⟨o', I4⟩ := nd_write (t' := s3.toks + (nestedKind X.prog X.w).draws k) I3 g (by rw [List.length_append]; exact hl) dd' hs'
    exact ⟨.ref va, _, I4, rfl, q4 hn o'⟩
/-- {} -/
def tNNew (X : Cx) : TE := fun _ H Q => ∀ p o, H p = none → Q (.ref p) (upd H p (NDO X.prog X.w p o []))
theorem pe_ndnew : PE X (.Dict [] [] pos) (tNNew X) := ⟨fun pins s σ H Q I h =>
  wpAny_Dict_empty ⟨.ref s.heap.objs.size, _, I.laid (a := s.heap.objs.size) (o := NDO X.prog X.w s.heap.objs.size { cls := .type "dict", data := .dict #[] } []) (t' := s.toks) (fun _ _ q => Heap.get?_push_of_some _ q) (Nat.le_refl _)
    (nd_new ⟨Heap.get?_push_size _ rfl, Nat.zero_le _, beq_eq_false_iff_ne.mpr (Ne.symm (Nat.ne_of_lt I.big)), ⟨rfl, rfl, rfl⟩, #[], 0, rfl, rfl, List.nodup_nil⟩), rfl, h _ _ (I.hok.fresh (Nat.le_refl _))⟩⟩
end
/-! ### d.values() -/
def Itn (P : Program) (w : World) (d : Addr) (o : Obj) (xs : List NEnt) : It :=
  ⟨fun i H => H d = some (NDO P w d o xs) ∧ i < xs.length, fun i H x H' => H' = H ∧ ∃ z, xs[i]? = some z ∧ x = .ref z.2.2, fun i H => H d = some (NDO P w d o xs) ∧ xs.length ≤ i⟩
theorem turn_nvals {P : Program} {w : World} {K : PySem.W.Frag} {tg : Expr} {d : Addr} {o : Obj} {xs : List NEnt} {es : Array DictEntry} {ep : Nat} (it : Addr) (hod : o.data = .dict es ep) : Turn P w K tg (Itn P w d o xs) [it] it (fun i h => h.IsValIter it d i es.size ep) where
  mem := by simp
  obj := fun i h st b hb => by
    have e : b = it := by simpa using hb
    subst e
    obtain ⟨oi, e, c, dd⟩ := st
    exact ⟨oi, e, fun v z => by rw [dd] at z; cases z⟩
  keep := fun i h h' st k => st.at fun oi e => k it (by simp) oi e
  item := by
    intro X hP hw hK hc i pins s σ H E I hf st hg
    subst hP hw hK
    obtain ⟨hd, hi⟩ := hg
    obtain ⟨f0, f1, f2, f3, f4, f5⟩ := hf it (by simp)
    obtain ⟨ho, _, _, hx, es', ep', hdt, he, _⟩ := nd_of I hd
    obtain ⟨rfl, rfl⟩ := dict_ep hod hdt
    have hsz := size_of_entries he
    rw [List.length_map] at hsz
    have hi' : i < es'.size := by omega
    have en := entry_at he i
    rw [Array.getElem?_eq_getElem hi', List.getElem?_map, List.getElem?_eq_getElem hi, Option.map_some, Option.map_some] at en
    have en := Option.some.inj en
    refine wpAny_pyNext_values_item_raw st ⟨o, ho, hx, hdt⟩ hi' fun h' st' sb => ?_
    have I1 : Inv X pins σ H { s with heap := h' } := I.turned (t' := s.toks) (fun b ob hb e => (sb.2 b hb).trans e) f0 f1 f3 f4 f5
    obtain ⟨oi, e, c, dd⟩ := id st'
    refine ⟨_, rfl, go_of (s := { s with heap := h' }) e c dd (by decide) ⟨.ref xs[i].2.2, H, I1, by rw [en]; rfl, ⟨rfl, xs[i], List.getElem?_eq_getElem hi, rfl⟩, st', fun b hb => (hf b hb).1⟩⟩
  done := by
    intro X hP hw hK hc i pins s σ H E I hf st hg
    subst hP hw hK
    obtain ⟨hd, hi⟩ := hg
    obtain ⟨f0, f1, f2, f3, f4, f5⟩ := hf it (by simp)
    obtain ⟨ho, _, _, hx, es', ep', hdt, he, _⟩ := nd_of I hd
    obtain ⟨rfl, rfl⟩ := dict_ep hod hdt
    have hsz := size_of_entries he
    rw [List.length_map] at hsz
    exact wpAny_pyNext_values_end_raw (I.ok.hd hc) st ⟨o, ho, hx, hdt⟩ (by omega) fun h' eb => ⟨rfl, I.turned (t' := s.toks) (fun b ob hb e => eb b ob hb e) f0 f1 f3 f4 f5⟩
  self := fun A i s Q E st h => wpAny_pyIter_valiter st h
def iNVals (X : Cx) (td : TE) : TI := fun σ H R => td σ H fun x H1 => ∃ d o xs, x = .ref d ∧ H1 d = some (NDO X.prog X.w d o xs) ∧ R (Itn X.prog X.w d o xs) H1
theorem pi_nvalues {X : Cx} {tg e : Expr} {td : TE} {apos cpos : Pos} (he : PE X e td) (hbase : attributeBase e "values" X.env (eval e X.env) = eval e X.env := by rfl) (hline : (apos.endLine == cpos.line) = true := by rfl) : PI X tg (.Call (.Attribute e "values" apos) [] [] cpos) (iNVals X td) := by
  refine ⟨fun pins s σ H R I h => ?_⟩
  refine wpAny_Call_method (T := "dict") (id := "dict.values") hbase rfl hline F.plainAttrs_dict F.slot_dict_values F.type_dict_values (thn (he.run pins s σ H _ I h) fun u s1 ⟨x, H1, I1, rx, d, o, xs, ex, hd, q⟩ => ?_)
  subst ex
  obtain rfl : u = Value.ref d := rx
  obtain ⟨ho, _, hs, hx, es, ep, hdt, he', _⟩ := nd_of I1 hd
  have raw : s1.heap.DictRaw d es ep := ⟨o, ho, hx, hdt⟩
  refine ⟨raw.typeIs, fun c q => (by cases q; exact ⟨o, ho, hx.2.1⟩), ?_⟩
  have I2 : Inv X pins σ H1 { s1 with heap := s1.heap.push { cls := .type "dict_values", data := .fields #[.ref d] } } := I1.kept (t' := s1.toks) fun b ob q => Heap.get?_push_of_some _ q
  have fin : wpAny (model X.prog X.w) X.A (pyIter (.ref s1.heap.objs.size)) (PIE X pins σ tg R) X.xe { s1 with heap := s1.heap.push { cls := .type "dict_values", data := .fields #[.ref d] } } :=
    wpAny_pyIter_values_raw (d := d) ⟨_, Heap.get?_push_size _ rfl, rfl, rfl⟩ (raw.at fun ob q => Heap.get?_push_of_some _ q) (pi_one (tk := s1.toks) I2 _ (turn_nvals _ hdt) ⟨_, Heap.get?_push_size _ rfl, rfl, rfl⟩ q)
  show wpAny _ _ (callWith cpos (.builtin "dict.values") [.ref d] [] []) _ X.xe s1
  exact method_meetsIn F.slot_dict_values F.entry_dict_values rfl (PySem.evalArgs_none ⟨rfl, raw.typeIs, F.args_dict_values_1 _, _, meets_dict_values_raw d hs, ⟨es, ep, raw⟩, fin⟩)
end DL
set_option Elab.async false
set_option linter.all false
set_option maxRecDepth 100000
set_option maxHeartbeats 4000000
/-! dicts with nested keys in DL -/
namespace DL
open PySem PySem.Spec L2
open PyProof.Rows hiding St
/-- entries with what is known of them -/
abbrev NAll (K : PySem.W.Frag) (H : Hp) (kvs : List (NestedKey × Th)) (xs : List NEnt) : Prop :=
  Paired (fun (p : NestedKey × Th) (x : NEnt) => p.1 = x.1 ∧ p.1.depth ≤ 8 ∧ (th K p.1.data).p H (.ref x.2.1) ∧ p.2.p H (.ref x.2.2)) kvs xs
theorem NAll.mono {K : PySem.W.Frag} {H H' : Hp} (e : Same H H') : ∀ {kvs : List (NestedKey × Th)} {xs : List NEnt}, NAll K H kvs xs → NAll K H' kvs xs
  | _, _, .nil => .nil
  | _, _, .cons (a := R) r t => .cons ⟨r.1, r.2.1, (th K _).mono e r.2.2.1, R.2.mono e r.2.2.2⟩ (NAll.mono e t)
theorem NAll.lk {K : PySem.W.Frag} {H : Hp} {d : Addr} {od : Obj} {ws : List (Key × V)} (h : H d = some (.dK ws)) : ∀ {kvs : List (NestedKey × Th)} {xs : List NEnt}, NAll K H kvs xs → NAll K (upd H d (.frz od (.dK ws))) kvs xs
  | _, _, .nil => .nil
  | _, _, .cons (a := R) r t => .cons ⟨r.1, r.2.1, (th K _).lk h r.2.2.1, R.2.lk h r.2.2.2⟩ (NAll.lk h t)
theorem NAll.ul {K : PySem.W.Frag} {H : Hp} {d : Addr} {od : Obj} {ws : List (Key × V)} (h : H d = some (.frz od (.dK ws))) : ∀ {kvs : List (NestedKey × Th)} {xs : List NEnt}, NAll K H kvs xs → NAll K (upd H d (.dK ws)) kvs xs
  | _, _, .nil => .nil
  | _, _, .cons (a := R) r t => .cons ⟨r.1, r.2.1, (th K _).ul h r.2.2.1, R.2.ul h r.2.2.2⟩ (NAll.ul h t)
def ownN (P : Program) (w : World) (K : PySem.W.Frag) (kvs : List (NestedKey × Th)) : Own :=
  ⟨fun H a o => ∃ ob xs, o = NDO P w a ob xs ∧ NAll K H kvs xs, fun e ⟨ob, xs, h1, h2⟩ => ⟨ob, xs, h1, h2.mono e⟩, fun ⟨ob, xs, h1, _⟩ => by subst h1; exact True.intro,
   fun h ⟨ob, xs, h1, h2⟩ => ⟨ob, xs, h1, h2.lk h⟩, fun h ⟨ob, xs, h1, h2⟩ => ⟨ob, xs, h1, h2.ul h⟩⟩
def ndT (P : Program) (w : World) (K : PySem.W.Frag) (kvs : List (NestedKey × Th)) : Th :=
  ⟨fun H v => ∃ a ob xs, v = .ref a ∧ H a = some (NDO P w a ob xs) ∧ NAll K H kvs xs, fun e ⟨a, ob, xs, h0, h1, h2⟩ => ⟨a, ob, xs, h0, e _ _ h1, h2.mono e⟩,
   fun h ⟨a, ob, xs, h0, h1, h2⟩ => ⟨a, ob, xs, h0, by rw [upd_ne (ne_of h1 h (by intro z; cases z))]; exact h1, h2.lk h⟩,
   fun h ⟨a, ob, xs, h0, h1, h2⟩ => ⟨a, ob, xs, h0, by rw [upd_ne (ne_of h1 h (by intro z; cases z))]; exact h1, h2.ul h⟩⟩
theorem share_N {P : Program} {w : World} {K : PySem.W.Frag} {kvs : List (NestedKey × Th)} (Hs : Hp) (a : Addr) (u : HO) (h : Hs a = some u) (p : (ownN P w K kvs).p Hs a u) : (ndT P w K kvs).p Hs (.ref a) := by
  obtain ⟨ob, xs, rfl, q⟩ := p
  exact ⟨a, ob, xs, rfl, h, q⟩
theorem nall_keys {K : PySem.W.Frag} {H H' : Hp} (e : Same H H') : ∀ {kvs : List (NestedKey × Th)} {xs : List NEnt}, NAll K H kvs xs → ∀ x ∈ xs, KeyAt K H' x.1 x.2.1
  | _, _, .cons (a := p) (b := x) r t, y, hy => by
    rcases List.mem_cons.mp hy with rfl | hy
    · obtain ⟨e1, e2, e3, _⟩ := r
      rw [e1] at e2 e3
      exact ⟨e2, th_dp ((th K _).mono e e3)⟩
    · exact nall_keys e t y hy
def lookN (kvs : List (NestedKey × Th)) (k : NestedKey) : Option Th := (kvs.find? fun p => decide (p.1 = k)).map Prod.snd
theorem nall_look {K : PySem.W.Frag} {H : Hp} {k : NestedKey} : ∀ {kvs : List (NestedKey × Th)} {xs : List NEnt}, NAll K H kvs xs →
    (∀ R, lookN kvs k = some R → ∃ x ∈ xs, x.1 = k ∧ atKey (xs.map nval) k = some (x.2.1, .ref x.2.2) ∧ R.p H (.ref x.2.2)) ∧ (lookN kvs k = none → atKey (xs.map nval) k = none)
  | _, _, .nil => ⟨fun R h => (by cases h), fun _ => rfl⟩
  | _, _, .cons (a := p) (b := x) (l₁ := kvs) (l₂ := xs) r t => by
    obtain ⟨h1, h2⟩ := nall_look (k := k) t
    obtain ⟨e1, e2, e3, e4⟩ := r
    unfold lookN atKey at *
    rw [List.map_cons, List.find?_cons, List.find?_cons]
    by_cases e : p.1 = k
    · have ex : x.1 = k := e1.symm.trans e
      rw [decide_eq_true e, show decide ((nval x).1 = k) = true from decide_eq_true ex]
      exact ⟨fun R h => ⟨x, List.mem_cons_self, ex, rfl, (by cases h; exact e4)⟩, fun h => (by cases h)⟩
    · have ex : ¬ x.1 = k := fun z => e (e1.trans z)
      rw [decide_eq_false e, show decide ((nval x).1 = k) = false from decide_eq_false ex]
      exact ⟨fun R h => let ⟨y, q1, q2⟩ := h1 R h; ⟨y, List.mem_cons_of_mem _ q1, q2⟩, h2⟩
theorem look_new {kvs : List (NestedKey × Th)} {k : NestedKey} (h : k ∉ kvs.map Prod.fst) : lookN kvs k = none := by
  unfold lookN
  rw [Option.map_eq_none_iff, List.find?_eq_none]
  intro p hp z
  exact h (List.mem_map.mpr ⟨p, hp, of_decide_eq_true z⟩)
section
variable {X : Cx} {pn : Option Addr} {a b e : Expr} {sts : List Stmt} {pos : Pos} {S : LSt} {D : LD} {P : Th → LSt → Prop} {PO : Own → LSt → Prop} {i : Nat} {kvs : List (NestedKey × Th)}
theorem lb_shareN (h : S.ρ[i]? = some (some (.ow (ownN X.prog X.w X.K kvs)))) (q : LB X pn sts (S.put i (ndT X.prog X.w X.K kvs)) D) : LB X pn sts S D := by
  intro B Hs σ H o E t
  obtain ⟨Hs', w, o'⟩ := o.share h share_N
  exact q B Hs' σ H o' E t
theorem ln_dictN (q : PO (ownN X.prog X.w X.K []) S) : LN X pn (.Dict [] [] pos) S PO := by
  intro B Hs σ H o Q k
  refine we_of pe_ndnew fun p ob hp => ?_
  have hb : B.h p = none := by
    cases q : B.h p with
    | none => rfl
    | some u => exact absurd hp (o.e.t p (by rw [q]; simp))
  refine k (ownN X.prog X.w X.K []) S p _ Hs (upd H p (NDO X.prog X.w p ob [])) q ?_ (.refl _) (o.w.free hp) upd_same ⟨ob, [], rfl, .nil⟩ hb fun j O' hj hσ => ?_
  · exact o.ext ⟨.refl _, Same.upd2 o.w (o.w.free hp), fun b u h _ => by rw [upd_ne (ne_of_none h hp)]; exact h, fun b h => by
      by_cases hb : b = p
      · subst hb; exact absurd hp h
      · rw [upd_ne hb]; exact h, fun _ h _ => h⟩
  · obtain ⟨a, u, g1, _, _, g4, _⟩ := o.ow j O' hj
    rw [hσ] at g1
    cases g1
    rw [hp] at g4; cases g4
/-- what stands at an address -/
def IsRef (R : Th) : Prop := ∀ H v, R.p H v → ∃ a, v = .ref a
theorem ref_tup {K : PySem.W.Frag} {Rs : List Th} : IsRef (tupT K Rs) := fun H v ⟨a, _, h, _⟩ => ⟨a, h⟩
theorem ref_lst {Rs : List Th} : IsRef (lstT Rs) := fun H v ⟨a, _, h, _⟩ => ⟨a, h⟩
theorem ref_key {K : PySem.W.Frag} {ks : List NestedKey} : IsRef (th K (NestedKey.tup ks).data) := fun H v h => by
  rw [NestedKey.data] at h
  exact ref_tup H v h
/-- d[k] = v, d an owned dict's name, the key new -/
theorem l1_ndput {tg k v : Expr} (i : Nat) (h0 : ∃ O, S.ρ[i]? = some (some (.ow O))) (h : LE X pn v S fun R S1 => LE X pn k S1 fun Rk S2 => ∃ key kvs, Rk = th X.K key.data ∧ IsRef Rk ∧ IsRef R ∧ S2.ρ[i]? = some (some (.ow (ownN X.prog X.w X.K kvs))) ∧ kvs.length < sizeLine ∧ key.depth ≤ 8 ∧ key ∉ kvs.map Prod.fst ∧ D.nx (S2.putE i (.ow (ownN X.prog X.w X.K (kvs ++ [(key, R)])))))
    (hp : PS X (.Assign [tg] v pos) (sNPut X (tVar i) (WE X k) (WE X v))) : L1 X pn (.Assign [tg] v pos) S D := by
  intro B Hs σ H o E t
  obtain ⟨O, h0⟩ := h0
  obtain ⟨a, u, hσ, _, _⟩ := own_at o h0
  refine ws_of hp (h B Hs σ H o _ fun R S1 x Hs1 H1 h1 o1 e1 r1 => ⟨.ref a, hσ, ?_⟩)
  refine h1 B Hs1 σ H1 o1 _ fun Rk S2 y Hs2 H2 h2 o2 e2 r2 => ?_
  obtain ⟨key, kvs, rfl, k1, k2, g1, hz, hd, hn, q⟩ := h2
  obtain ⟨a', u', hσ', hu', ob, xs, rfl, ha⟩ := own_at o2 g1
  rw [hσ] at hσ'; cases hσ'
  obtain ⟨b, rfl⟩ := k1 _ _ r2
  obtain ⟨va, rfl⟩ := k2 _ _ r1
  refine ⟨a, ob, xs, key, b, va, rfl, rfl, rfl, hu', nall_keys o2.w ha, ⟨hd, th_dp ((th X.K _).mono o2.w r2)⟩, (nall_look ha).2 (look_new hn), by rw [← Paired.length ha]; exact hz, fun o' => ?_⟩
  exact t.nx _ Hs2 _ _ q (o2.change g1 hσ (O' := ownN X.prog X.w X.K (kvs ++ [(key, R)])) ⟨o', _, rfl, Paired.snoc ha ⟨rfl, hd, r2, R.mono e2 r1⟩⟩)
/-- d[k] -/
theorem le_ndget (h : LE X pn a S fun Ra S1 => LE X pn b S1 fun Rb S2 => ∃ key kvs R, Rb = th X.K key.data ∧ IsRef Rb ∧ Ra = ndT X.prog X.w X.K kvs ∧ lookN kvs key = some R ∧ key.depth ≤ 8 ∧ P R S2) (hu : X.A.units + 64 < cLine) (hs : NoSl b := by exact fun _ _ => rfl) : LE X pn (.Subscript a b pos) S P := by
  refine le_op2 (r := rNGet X) (fun q => we_of (pe_ndget hu pe_we pe_we hs) q) (h.mono fun Ra S1 h1 => h1.mono fun Rb S2 ⟨key, kvs, R, e1, k1, e2, e3, hd, q⟩ => ?_)
  subst e1 e2
  intro B Hs σ H x y o r1 r2 Q k
  obtain ⟨a, ob, xs, rfl, h1, h2⟩ := r1
  obtain ⟨b, rfl⟩ := k1 _ _ r2
  obtain ⟨x, hx, _, hat, rx⟩ := (nall_look h2).1 R e3
  exact ⟨a, ob, xs, key, b, x.2.2, x.2.1, rfl, rfl, o.w _ _ h1, nall_keys o.w h2, ⟨hd, th_dp ((th X.K _).mono o.w r2)⟩, hat, k R S2 _ Hs H q o (.refl _) rx⟩
end
/-- .values() -/
theorem good_nvals {P : Program} {w : World} {K : PySem.W.Frag} {Hs : Hp} {d : Addr} {o : Obj} {kvs : List (NestedKey × Th)} {xs : List NEnt} (h1 : Hs d = some (NDO P w d o xs)) (h2 : NAll K Hs kvs xs) : GoodIt (Itn P w d o xs) (kvs.map Prod.snd) Hs where
  go := fun i Hc H w1 w2 hi => ⟨w2 _ _ (w1 _ _ h1), by rw [← Paired.length h2]; rwa [List.length_map] at hi⟩
  stop := fun i Hc H w1 w2 hi => ⟨w2 _ _ (w1 _ _ h1), by rw [← Paired.length h2]; rwa [List.length_map] at hi⟩
  yld := fun i Hc H x H' w1 w2 hi hy => by
    obtain ⟨rfl, z, hz, rfl⟩ := hy
    have : ∀ {kvs : List (NestedKey × Th)} {xs : List NEnt} {i : Nat} {z : NEnt}, NAll K Hs kvs xs → xs[i]? = some z → ∃ R, (kvs.map Prod.snd)[i]? = some R ∧ R.p Hs (.ref z.2.2) := by
      intro kvs xs i z h
      induction h generalizing i with
      | nil => intro e; simp at e
      | @cons p x ps qs r t ih =>
        intro e
        cases i with
        | zero => simp at e; subst e; exact ⟨p.2, rfl, r.2.2.2⟩
        | succ i => exact ih (by simpa using e)
    obtain ⟨R, h4, h5⟩ := this h2 hz
    exact ⟨R, Hc, h4, Ext.refl w2, R.mono w1 h5⟩
theorem li_nvals {X : Cx} {pn : Option Addr} {tg e : Expr} {apos cpos : Pos} {S : LSt} {PL : List Th → LSt → Prop} (h : LE X pn e S fun R S1 => ∃ kvs, R = ndT X.prog X.w X.K kvs ∧ PL (kvs.map Prod.snd) S1)
    (hbase : attributeBase e "values" X.env (eval e X.env) = eval e X.env := by rfl) (hline : (apos.endLine == cpos.line) = true := by rfl) : LI X pn tg (.Call (.Attribute e "values" apos) [] [] cpos) S PL := by
  refine ⟨_, pi_nvalues pe_we hbase hline, fun B Hs σ H o _ R k => h B Hs σ H o _ fun R' S1 x Hs1 H1 p o1 e1 r1 => ?_⟩
  obtain ⟨kvs, rfl, q⟩ := p
  obtain ⟨d, ob, xs, rfl, h1, h2⟩ := r1
  exact ⟨d, ob, xs, rfl, o1.w _ _ h1, k _ S1 Hs1 H1 _ q o1 e1 (good_nvals h1 h2)⟩
end DL
set_option Elab.async false
set_option linter.all false
set_option maxRecDepth 100000
set_option maxHeartbeats 4000000
/-! objects that are changed though no slot holds them alone: a private part of the heap -/
namespace DL
open PySem PySem.Spec L2
open PyProof.Rows hiding St
/-- the private objects: none of the answers', none of those that stood ahead -/
structure PvAt (Bh Hs H Pv : Hp) : Prop where
  b : ∀ a o, Pv a = some o → Bh a = none
  s : ∀ a o, Pv a = some o → Hs a = none
  h : ∀ a o, Pv a = some o → H a = some o
/-- what is known of them -/
structure PF where
  p : Hp → Hp → Prop
  mono : ∀ {Hs Hs' Pv : Hp}, Same Hs Hs' → p Hs Pv → p Hs' Pv
structure GPv (K : PySem.W.Frag) (B : Base) (Hs : Hp) (S : LSt) (σ : St) (H : Hp) (Pv : Hp) : Prop where
  ok : StOK K none B Hs S σ H
  sh : Shs S
  pv : PvAt B.h Hs H Pv
def GAt (K : PySem.W.Frag) (B : Base) (Hs : Hp) (S : LSt) (σ : St) (H : Hp) (F : PF) : Prop := ∃ Pv, GPv K B Hs S σ H Pv ∧ F.p Hs Pv
section
variable {K : PySem.W.Frag} {B : Base} {Hs Hs1 : Hp} {S S1 : LSt} {σ σ1 : St} {H H1 Pv : Hp} {F : PF}
theorem GPv.self (g : GPv K B Hs S σ H Pv) : StOK K none ⟨Hs, H, 0⟩ Hs S σ H := g.ok.self g.sh
theorem GPv.step (g : GPv K B Hs S σ H Pv) (o1 : StOK K none ⟨Hs, H, 0⟩ Hs1 S1 σ1 H1) (sh1 : Shs S1) : GPv K B Hs1 S1 σ1 H1 Pv where
  ok := ⟨g.ok.e.trans o1.e, o1.len, o1.sh, fun i O q => absurd q (sh1 i O), fun i j O O' a q => absurd q (sh1 i O), fun a q => by cases q⟩
  sh := sh1
  pv := ⟨g.pv.b, fun a o q => o1.e.f a (g.pv.s a o q) (by show H a ≠ none; rw [g.pv.h a o q]; simp), fun a o q => o1.e.k a o (g.pv.h a o q) (by simp)⟩
theorem GAt.step (g : GAt K B Hs S σ H F) (o1 : StOK K none ⟨Hs, H, 0⟩ Hs1 S1 σ1 H1) (sh1 : Shs S1) : GAt K B Hs1 S1 σ1 H1 F :=
  let ⟨Pv, g, f⟩ := g; ⟨Pv, g.step o1 sh1, F.mono o1.e.s f⟩
theorem GAt.self (g : GAt K B Hs S σ H F) : StOK K none ⟨Hs, H, 0⟩ Hs S σ H := let ⟨_, g, _⟩ := g; g.self
theorem GAt.sh (g : GAt K B Hs S σ H F) : Shs S := let ⟨_, g, _⟩ := g; g.sh
theorem GAt.ok (g : GAt K B Hs S σ H F) : StOK K none B Hs S σ H := let ⟨_, g, _⟩ := g; g.ok
theorem GPv.ext (g : GPv K B Hs S σ H Pv) (x : Ext none Hs H Hs1 H1) : GPv K B Hs1 S σ H1 Pv := g.step (g.self.ext x) g.sh
theorem GAt.rebase (g : GAt K B Hs S σ H F) : GAt K ⟨Hs, B.h, B.c⟩ Hs S σ H F := let ⟨Pv, g, f⟩ := g; ⟨Pv, ⟨g.ok.rebase, g.sh, g.pv⟩, f⟩
theorem GAt.back {Hs0 : Hp} (g : GAt K ⟨Hs0, B.h, B.c⟩ Hs S σ H F) (h : Same B.s Hs0) (f : ∀ b, B.s b = none → B.h b ≠ none → Hs0 b = none) : GAt K B Hs S σ H F :=
  let ⟨Pv, g, q⟩ := g; ⟨Pv, ⟨g.ok.back h f, g.sh, g.pv⟩, q⟩
/-- a private object is written -/
theorem GPv.write {d : Addr} {u0 u : HO} (g : GPv K B Hs S σ H Pv) (hd : Pv d = some u0) : GPv K B Hs S σ (upd H d u) (upd Pv d u) := by
  have h0 := g.pv.h d u0 hd
  have hs := g.pv.s d u0 hd
  have hb := g.pv.b d u0 hd
  refine ⟨⟨⟨g.ok.e.s, fun b o q => ?_, fun b o q n => ?_, fun b q => ?_, g.ok.e.f⟩, g.ok.len, g.ok.sh, fun i O q => absurd q (g.sh i O), fun i j O O' a q => absurd q (g.sh i O), fun a q => by cases q⟩, g.sh, ⟨fun a o q => ?_, fun a o q => ?_, fun a o q => ?_⟩⟩
  · rw [upd_ne (ne_of_none q hs)]; exact g.ok.e.w b o q
  · rw [upd_ne (ne_of_none q hb)]; exact g.ok.e.k b o q n
  · by_cases hbd : b = d
    · subst hbd; rw [upd_same]; simp
    · rw [upd_ne hbd]; exact g.ok.e.t b q
  · by_cases e : a = d
    · subst e; exact hb
    · rw [upd_ne e] at q; exact g.pv.b a o q
  · by_cases e : a = d
    · subst e; exact hs
    · rw [upd_ne e] at q; exact g.pv.s a o q
  · by_cases e : a = d
    · subst e; rw [upd_same] at q ⊢; exact q
    · rw [upd_ne e] at q ⊢; exact g.pv.h a o q
/-- a new private object -/
theorem GPv.new {p : Addr} {u : HO} (g : GPv K B Hs S σ H Pv) (hp : H p = none) : GPv K B Hs S σ (upd H p u) (upd Pv p u) := by
  have hs : Hs p = none := g.ok.w.free hp
  have hb : B.h p = none := by
    cases q : B.h p with
    | none => rfl
    | some u => exact absurd hp (g.ok.e.t p (by rw [q]; simp))
  refine ⟨⟨⟨g.ok.e.s, fun b o q => ?_, fun b o q n => ?_, fun b q => ?_, g.ok.e.f⟩, g.ok.len, g.ok.sh, fun i O q => absurd q (g.sh i O), fun i j O O' a q => absurd q (g.sh i O), fun a q => by cases q⟩, g.sh, ⟨fun a o q => ?_, fun a o q => ?_, fun a o q => ?_⟩⟩
  · rw [upd_ne (ne_of_none q hs)]; exact g.ok.e.w b o q
  · rw [upd_ne (ne_of_none q hb)]; exact g.ok.e.k b o q n
  · by_cases hbd : b = p
    · subst hbd; rw [upd_same]; simp
    · rw [upd_ne hbd]; exact g.ok.e.t b q
  · by_cases e : a = p
    · subst e; exact hb
    · rw [upd_ne e] at q; exact g.pv.b a o q
  · by_cases e : a = p
    · subst e; exact hs
    · rw [upd_ne e] at q; exact g.pv.s a o q
  · by_cases e : a = p
    · subst e; rw [upd_same] at q ⊢; exact q
    · rw [upd_ne e] at q ⊢; exact g.pv.h a o q
/-- the private objects among the shared ones -/
def lentH (Hs Pv : Hp) : Hp := fun b => match Pv b with | some o => some o | none => Hs b
theorem lent_p {Hs Pv : Hp} {b : Addr} {o : HO} (h : Pv b = some o) : lentH Hs Pv b = some o := by unfold lentH; rw [h]
theorem lent_s (g : GPv K B Hs S σ H Pv) : Same Hs (lentH Hs Pv) := fun b o q => by
  unfold lentH
  cases e : Pv b with
  | none => exact q
  | some u => rw [g.pv.s b u e] at q; cases q
theorem lent_w (g : GPv K B Hs S σ H Pv) : Same (lentH Hs Pv) H := fun b o q => by
  unfold lentH at q
  cases e : Pv b with
  | none => rw [e] at q; exact g.ok.w b o q
  | some u => rw [e] at q; cases q; exact g.pv.h b _ e
theorem StOK.putV {i : Nat} {a : V} {R : Th} (o : StOK K none B Hs S σ H) (h : S.ρ[i]? = some (some (.sh (vl a)))) (r : R.p Hs a) : StOK K none B Hs (S.put i R) σ H := by
  obtain ⟨v, hσ, hv⟩ := o.sh i _ h
  cases (show v = a from hv)
  have := o.put (i := i) r
  have e : σ.set i (some a) = σ := by
    have hl := (List.getElem?_eq_some_iff.mp hσ)
    exact List.ext_getElem? fun j => by
      by_cases hj : i = j
      · subst hj; rw [List.getElem?_set_self hl.1]; exact hσ.symm
      · rw [List.getElem?_set_ne hj]
  rw [e] at this
  exact this
theorem StOK.lent (g : GPv K B Hs S σ H Pv) : StOK K none B (lentH Hs Pv) S σ H where
  e := ⟨g.ok.e.s.trans (lent_s g), lent_w g, g.ok.e.k, g.ok.e.t, fun b h1 h2 => by
    unfold lentH
    cases e : Pv b with
    | none => exact g.ok.e.f b h1 h2
    | some u => exact absurd (g.pv.b b u e) h2⟩
  len := g.ok.len
  sh := fun i R q => let ⟨v, h1, h2⟩ := g.ok.sh i R q; ⟨v, h1, R.mono (lent_s g) h2⟩
  ow := fun i O q => absurd q (g.sh i O)
  ne := fun i j O O' a q => absurd q (g.sh i O)
  pen := fun a q => by cases q
end
abbrev NX := LSt → PF → Prop
abbrev RT := Th → LSt → Prop
structure GTo (K : PySem.W.Frag) (B : Base) (nx : NX) (rt : RT) (E : Ends) : Prop where
  nx : ∀ S' F' Hs' σ' H', nx S' F' → GAt K B Hs' S' σ' H' F' → E.nx σ' H'
  rt : ∀ R S' Hs' σ' v H', rt R S' → StOK K none B Hs' S' σ' H' → R.p Hs' v → E.rt v H'
def GB (X : Cx) (F : PF) (sts : List Stmt) (S : LSt) (nx : NX) (rt : RT) : Prop :=
  ∀ B Hs σ H, GAt X.K B Hs S σ H F → ∀ E : Ends, GTo X.K B nx rt E → WB X sts E σ H
def G1 (X : Cx) (F : PF) (st : Stmt) (S : LSt) (nx : NX) (rt : RT) : Prop :=
  ∀ B Hs σ H, GAt X.K B Hs S σ H F → ∀ E : Ends, GTo X.K B nx rt E → WS X st E σ H
section
variable {X : Cx} {F : PF} {st : Stmt} {sts sts' body : List Stmt} {S : LSt} {nx : NX} {rt : RT} {c tg iter e : Expr} {pos : Pos}
theorem gb_imp {F' : PF} (hF : ∀ Hs Pv, F.p Hs Pv → F'.p Hs Pv) (q : GB X F' sts S nx rt) : GB X F sts S nx rt := fun B Hs σ H ⟨Pv, g, f⟩ E t => q B Hs σ H ⟨Pv, g, hF _ _ f⟩ E t
theorem gb_nil (q : nx S F) : GB X F [] S nx rt := fun B Hs σ H g E t => wb_of pss_nil (t.nx S F Hs σ H q g)
theorem gb_cons (h : G1 X F st S (fun S' F' => GB X F' sts S' nx rt) rt) : GB X F (st :: sts) S nx rt := fun B Hs σ H g E t =>
  wb_of (pss_cons ps_ws ps_wb) (h B Hs σ H g _ ⟨fun S' F' Hs' σ' H' p g' => p B Hs' σ' H' g' E t, t.rt⟩)
theorem GTo.to {K : PySem.W.Frag} {B : Base} {Hs H : Hp} {σ : St} {E : Ends} (t : GTo K B nx rt E) (g : GAt K B Hs S σ H F) : LD.To K none ⟨Hs, H, 0⟩ { nx := fun S1 => Shs S1 ∧ nx S1 F, rt := fun R S1 => Shs S1 ∧ rt R S1 } E :=
  ⟨fun S1 Hs1 σ1 H1 p o1 => t.nx S1 F Hs1 σ1 H1 p.2 (g.step o1 p.1), fun R S1 Hs1 σ1 v H1 p o1 r => t.rt R S1 Hs1 σ1 v H1 p.2 (g.step o1 p.1).ok r, fun _ _ _ _ p => p.elim, fun _ _ _ _ p => p.elim⟩
/-- a statement that does not touch them -/
theorem g1_st (h : L1 X none st S { nx := fun S1 => Shs S1 ∧ nx S1 F, rt := fun R S1 => Shs S1 ∧ rt R S1 }) : G1 X F st S nx rt := fun B Hs σ H g E t => h ⟨Hs, H, 0⟩ Hs σ H g.self E (t.to g)
theorem g1_if (h : LT X none c S fun k S1 => Shs S1 ∧ if k = true then GB X F sts S1 nx rt else GB X F sts' S1 nx rt) : G1 X F (.If c sts sts' pos) S nx rt := by
  intro B Hs σ H g E t
  refine ws_of (ps_if pt_wt ps_wb ps_wb) (h ⟨Hs, H, 0⟩ Hs σ H g.self _ fun k S1 Hs1 H1 p o1 _ => ?_)
  have g1 := g.step o1 p.1
  cases k with
  | true =>
    show WB X sts E σ H1
    exact (show GB X F sts S1 nx rt from p.2) B Hs1 σ H1 g1 E t
  | false =>
    show WB X sts' E σ H1
    exact (show GB X F sts' S1 nx rt from p.2) B Hs1 σ H1 g1 E t
theorem g1_for (vs : List Nat) (h : LI X none tg iter S fun Rs S1 => Shs S1 ∧ ∃ I : Nat → LSt → PF → Prop, I 0 S1 F ∧
      (∀ i R S2 F2, Rs[i]? = some R → I i S2 F2 → LG X none vs tg S2 R fun S3 => Shs S3 ∧ GB X F2 body S3 (I (i + 1)) rt) ∧ ∀ S2 F2, I Rs.length S2 F2 → nx S2 F2)
    (hp : PassesOwn (model X.prog X.w) X.A X.env X.xe) (hc : X.calm = true := by rfl) (hs : ∀ x, foldedSetIterable iter X.env x = pure x := by intro _; rfl) : G1 X F (.For tg iter body [] pos) S nx rt := by
  obtain ⟨wi, pi, hi⟩ := h
  intro B Hs σ H g E t
  refine ws_of (ps_for hp hc pi pg_wg ps_wb hs) (hi ⟨Hs, H, 0⟩ Hs σ H g.self True.intro _ fun Rs S1 Hs1 H1 J p o1 e1 gi => ?_)
  obtain ⟨sh1, I, i0, it, ie⟩ := p
  have g1 := g.step o1 sh1
  refine ⟨fun i m σ2 H2 => i ≤ Rs.length ∧ m = Rs.length - i ∧ ∃ S2 F2 Hs2, I i S2 F2 ∧ GAt X.K B Hs2 S2 σ2 H2 F2 ∧ Same Hs1 Hs2, ⟨_, Nat.zero_le _, rfl, S1, F, Hs1, i0, g1, .refl _⟩, fun i m σ2 H2 w => ?_⟩
  obtain ⟨hil, rfl, S2, F2, Hs2, hI, g2, e2⟩ := w
  by_cases hlt : i < Rs.length
  · refine .inr ⟨gi.go i Hs2 H2 e2 g2.ok.w hlt, fun σ' H' => i + 1 ≤ Rs.length ∧ ∃ S2 F2 Hs2, I (i + 1) S2 F2 ∧ GAt X.K B Hs2 S2 σ' H' F2 ∧ Same Hs1 Hs2, fun σ' H' ⟨q1, q⟩ => ⟨_, by omega, q1, rfl, q⟩, fun y H' hy => ?_⟩
    obtain ⟨R, Hs3, hR, x3, r3⟩ := gi.yld i Hs2 H2 y H' e2 g2.ok.w hlt hy
    have g3 := g2.step (g2.self.ext x3) g2.sh
    refine it i R S2 F2 hR hI ⟨Hs3, H', 0⟩ Hs3 σ2 H' y g3.self r3 _ fun S4 σ4 Hs4 H4 p4 o4 e4 _ => ?_
    have g4 := g3.step o4 p4.1
    have e14 : Same Hs1 Hs4 := e2.trans (x3.s.trans e4)
    refine p4.2 ⟨Hs4, B.h, B.c⟩ Hs4 σ4 H4 g4.rebase _ ⟨fun S5 F5 Hs5 σ5 H5 q5 g5 => ?_, fun R S5 Hs5 σ5 v H5 q5 o5 r5 => ?_⟩
    · exact ⟨by omega, S5, F5, Hs5, q5, g5.back g4.ok.e.s g4.ok.e.f, e14.trans g5.ok.e.s⟩
    · exact t.rt R S5 Hs5 σ5 v H5 q5 (o5.back g4.ok.e.s g4.ok.e.f) r5
  · have e : i = Rs.length := by omega
    subst e
    exact .inl ⟨gi.stop _ Hs2 H2 e2 g2.ok.w (Nat.le_refl _), t.nx S2 F2 Hs2 σ2 H2 (ie S2 F2 hI) g2⟩
/-- an owned object's first private day -/
def ownF (O : Own) (a : Addr) : PF := ⟨fun Hs Pv => ∃ u, Pv a = some u ∧ O.p Hs a u, fun e ⟨u, h1, h2⟩ => ⟨u, h1, O.mono e h2⟩⟩
theorem lb_priv {D : LD} (i : Nat) {O : Own} (h : S.ρ[i]? = some (some (.ow O))) (ho : ∀ (j : Nat) O', S.ρ[j]? = some (some (.ow O')) → j = i) (q : ∀ a, GB X (ownF O a) sts (S.put i (vl (.ref a))) (fun S' _ => D.nx S') D.rt) : LB X none sts S D := by
  intro B Hs σ H o E t
  obtain ⟨a, u, hσ, hb, hs, hu, hp⟩ := o.ow i O h
  have sh : Shs (S.put i (vl (.ref a))) := fun j O' z => by
    rcases set_get z with ⟨_, _, z⟩ | ⟨e, z⟩
    · cases z
    · exact e (ho j O' z)
  refine q a B Hs σ H ⟨upd (fun _ => none) a u, ⟨⟨o.e, ?_, fun j R z => ?_, fun j O' z => absurd z (sh j O'), fun i j O O' a z => absurd z (sh i O), fun a z => by cases z⟩, sh, ⟨fun b v z => ?_, fun b v z => ?_, fun b v z => ?_⟩⟩, u, upd_same, hp⟩ E ⟨fun S' F' Hs' σ' H' p g => t.nx S' Hs' σ' H' p g.ok, t.rt⟩
  · show (S.ρ.set i _).length = _; rw [List.length_set]; exact o.len
  · rcases set_get z with ⟨rfl, _, z⟩ | ⟨e, z⟩
    · cases z; exact ⟨.ref a, hσ, rfl⟩
    · exact o.sh j R z
  all_goals
    by_cases e : b = a
    · subst e
      first
        | exact hb
        | exact hs
        | (rw [upd_same] at z; cases z; exact hu)
    · rw [upd_ne e] at z; cases z
/-- they may be kept in answers from here on -/
theorem gb_share (i : Nat) {a : V} {R : Th} (h : S.ρ[i]? = some (some (.sh (vl a)))) (hR : ∀ Hs Pv HL, F.p Hs Pv → Same Hs HL → (∀ b o, Pv b = some o → HL b = some o) → R.p HL a) (q : LB X none sts (S.put i R) { nx := fun _ => False, rt := rt }) : GB X F sts S nx rt := by
  intro B Hs σ H ⟨Pv, g, f⟩ E t
  exact q B (lentH Hs Pv) σ H ((StOK.lent g).putV h (hR Hs Pv _ f (lent_s g) fun b o z => lent_p z)) E ⟨fun _ _ _ _ p => p.elim, t.rt, fun _ _ _ _ p => p.elim, fun _ _ _ _ p => p.elim⟩
/-- y = [..] while they are read -/
theorem g1_setLcP {elt tg iter : Expr} {ifs : List Expr} {scope : Scope} {own : List (Str × Nat)} {j : Nat} {y : Str} {py spos pos : Pos} (i : Nat) {a : V} {R : Th} (h : S.ρ[i]? = some (some (.sh (vl a)))) (hR : ∀ Hs Pv HL, F.p Hs Pv → Same Hs HL → (∀ b o, Pv b = some o → HL b = some o) → R.p HL a)
    (q : LC X none elt tg iter ifs scope (own.map Prod.snd) (S.put i R) fun R' S1 => (∃ xs : List V, R' = lstT (xs.map vl)) ∧ nx (S.put j R') F) (ok : BlkOk X.N X.env.scope scope own) (hN : X.N.Nodup)
    (hsw : swapsWith (.ListComp elt [⟨tg, iter, ifs, 0⟩] scope pos) (some (.Name y py)) spos.line X.env = pure true) (hy : X.N[j]? = some y := by rfl) (hyl : X.env.scope.names.lookup y = some .local := by rfl)
    (hc : X.calm = true := by rfl) (hs : ∀ x, foldedSetIterable iter X.env x = pure x := by intro _; rfl) : G1 X F (.Assign [.Name y py] (.ListComp elt [⟨tg, iter, ifs, 0⟩] scope pos) spos) S nx rt := by
  obtain ⟨wi, gg, tt, te, pi, hg, ht, he, run⟩ := lc_runF q
  intro B Hs σ H ⟨Pv, g, f⟩ E t
  have oL := (StOK.lent g).putV h (hR Hs Pv _ f (lent_s g) fun b o z => lent_p z)
  have shL : Shs (S.put i R) := fun j O' z => by
    rcases set_get z with ⟨_, _, z⟩ | ⟨e, z⟩
    · cases z
    · exact g.sh j O' z
  refine ws_of (ps_setLc hc hN hy hyl hsw pi ok hg ht he hs) (run ⟨lentH Hs Pv, H, 0⟩ (lentH Hs Pv) σ H (oL.self shL) True.intro _ fun R' S1 v Hs1 H1 p o1 e1 r1 fr => ?_)
  obtain ⟨⟨xs, rfl⟩, p⟩ := p
  obtain ⟨l, vs, rfl, hl, ha⟩ := r1
  obtain ⟨l', e', hfr⟩ := fr
  cases e'
  have hfr : H l = none := hfr
  have x := o1.e
  have hsl : Hs l = none := g.ok.w.free hfr
  obtain ⟨rfl, ha'⟩ := alls_vl (H' := upd Hs l (.lst vs)) ha
  have ex : Ext none Hs H (upd Hs l (.lst vs)) H1 := ⟨Same.upd hsl, fun b o z => by
    by_cases e : b = l
    · subst e; rw [upd_same] at z; cases z; exact o1.w _ _ hl
    · rw [upd_ne e] at z; exact x.k b o (g.ok.w b o z) (by simp), x.k, x.t, fun b h1 h2 => by rw [upd_ne (fun e => h2 (by rw [e]; exact hfr))]; exact h1⟩
  have g1 := g.ext ex
  exact t.nx _ F _ _ H1 p ⟨Pv, ⟨g1.ok.put (R := lstT (vs.map vl)) ⟨l, vs, rfl, upd_same, ha'⟩, fun j O' z => by
    rcases set_get z with ⟨_, _, z⟩ | ⟨e, z⟩
    · cases z
    · exact g.sh j O' z, g1.pv⟩, F.mono ex.s f⟩
end
end DL
set_option Elab.async false
set_option linter.all false
set_option maxRecDepth 100000
set_option maxHeartbeats 4000000
/-! statements that change private objects: o.append(e), found.append([..]), found.setdefault(k, []).append(e) -/
namespace DL
open PySem PySem.Spec L2
open PyProof.Rows hiding St
section
variable {X : Cx} {F : PF} {S : LSt} {nx : NX} {rt : RT} {o e k : Expr} {es : List Expr} {pos apos cpos apos2 cpos2 lpos : Pos}
/-- o.append(e), o a private list -/
theorem g1_appendP (h : LE X none o S fun R S1 => ∃ a, R = vl (.ref a) ∧ Shs S1 ∧ (∀ Hs Pv, F.p Hs Pv → ∃ xs, Pv a = some (.lst xs)) ∧ LE X none e S1 fun R2 S2 => ∃ (y : V) (F' : PF), R2 = vl y ∧ Shs S2 ∧
      (∀ Hs Pv xs, F.p Hs Pv → Pv a = some (.lst xs) → xs.length < sizeLine ∧ F'.p Hs (upd Pv a (.lst (xs ++ [y])))) ∧ nx S2 F')
    (hp : PE X (.Call (.Attribute o "append" apos) [e] [] cpos) (tBM X.K "list" rAppend (WE X o) (tCons (WE X e) tNil)) := by exact pe_bm PySem.F.plainAttrs_list PySem.F.slot_list_append PySem.F.type_list_append mt_append pe_we (pa_cons pe_we pa_nil))
    (hs : swapsWith (.Call (.Attribute o "append" apos) [e] [] cpos) none pos.line X.env = pure false := by rfl) : G1 X F (.Expr (.Call (.Attribute o "append" apos) [e] [] cpos) pos) S nx rt := by
  intro B Hs σ H ⟨Pv, g, f⟩ E t
  refine ws_of (ps_expr hp hs) (h ⟨Hs, H, 0⟩ Hs σ H g.self _ fun R S1 v Hs1 H1 p1 o1 e1 r1 => ?_)
  obtain ⟨a, rfl, sh1, ha, h1⟩ := p1
  cases (show v = .ref a from r1)
  have g1 := g.step o1 sh1
  have f1 := F.mono o1.e.s f
  obtain ⟨xs0, hx0⟩ := ha _ _ f1
  refine ⟨.inl ⟨rfl, _, SqL.of (g1.pv.h _ _ hx0)⟩, ?_⟩
  refine h1 ⟨Hs1, H1, 0⟩ Hs1 σ H1 g1.self _ fun R2 S2 y Hs2 H2 p2 o2 e2 r2 => ?_
  obtain ⟨y', F', rfl, sh2, hF, q⟩ := p2
  cases (show y = y' from r2)
  have g2 := g1.step o2 sh2
  obtain ⟨hz, f3⟩ := hF _ _ _ (F.mono o2.e.s f1) hx0
  exact ⟨a, xs0, y, rfl, rfl, g2.pv.h _ _ hx0, hz, t.nx S2 F' Hs2 σ _ q ⟨_, g2.write hx0, f3⟩⟩
/-- d.append([..]), d a private list: the new list is private -/
theorem g1_appendN (i : Nat) {d : Addr} (hi : S.ρ[i]? = some (some (.sh (vl (.ref d))))) (hd : ∀ Hs Pv, F.p Hs Pv → ∃ xs, Pv d = some (.lst xs)) (h : LA X none es S fun Rs S1 => ∃ ys : List V, Rs = ys.map vl ∧ ys.length ≤ sizeLine ∧ Shs S1 ∧ ∀ p, ∃ F' : PF,
      (∀ Hs Pv xs, F.p Hs Pv → Pv d = some (.lst xs) → Pv p = none → xs.length < sizeLine ∧ F'.p Hs (upd (upd Pv p (.lst ys)) d (.lst (xs ++ [.ref p])))) ∧ nx S1 F')
    {c : Expr} (hp : PE X (.Call (.Attribute c "append" apos) [.List es lpos] [] cpos) (tBM X.K "list" rAppend (tVar i) (tCons (tLst (WA X es)) tNil)) := by exact pe_bm PySem.F.plainAttrs_list PySem.F.slot_list_append PySem.F.type_list_append mt_append (pv _) (pa_cons (pe_lst pa_wa) pa_nil))
    (hs : swapsWith (.Call (.Attribute c "append" apos) [.List es lpos] [] cpos) none pos.line X.env = pure false := by rfl) : G1 X F (.Expr (.Call (.Attribute c "append" apos) [.List es lpos] [] cpos) pos) S nx rt := by
  intro B Hs σ H ⟨Pv, g, f⟩ E t
  obtain ⟨v, hσ, hv⟩ := g.ok.sh i _ hi
  cases (show v = .ref d from hv)
  obtain ⟨xs0, hx0⟩ := hd _ _ f
  refine ws_of (ps_expr hp hs) ⟨.ref d, hσ, .inl ⟨rfl, _, SqL.of (g.pv.h _ _ hx0)⟩, ?_⟩
  refine h ⟨Hs, H, 0⟩ Hs σ H g.self _ fun Rs S1 vs Hs1 H1 p1 o1 e1 r1 => ?_
  obtain ⟨ys, rfl, hz, sh1, hF⟩ := p1
  obtain ⟨rfl, _⟩ := alls_vl (H' := H1) r1
  refine ⟨hz, fun p hp => ?_⟩
  obtain ⟨F', hF, q⟩ := hF p
  have g1 := g.step o1 sh1
  have hpn : Pv p = none := by
    cases z : Pv p with
    | none => rfl
    | some u => rw [g1.pv.h p u z] at hp; cases hp
  have hne : d ≠ p := fun z => by rw [← z, hx0] at hpn; cases hpn
  have g2 := g1.new (u := .lst vs) hp
  have hx2 : upd Pv p (.lst vs) d = some (.lst xs0) := by rw [upd_ne hne]; exact hx0
  obtain ⟨hz2, f3⟩ := hF _ _ _ (F.mono o1.e.s f) hx0 hpn
  exact ⟨d, xs0, .ref p, rfl, rfl, g2.pv.h _ _ hx2, hz2, t.nx S1 F' Hs1 σ _ q ⟨_, g2.write hx2, f3⟩⟩
end
/-! ### lots of ints under keys -/
/-- lots under keys -/
abbrev Cls' := List (NestedKey × List Int)
abbrev CAll (K : PySem.W.Frag) (Hs Pv : Hp) (cls : Cls') (xs : List NEnt) : Prop :=
  Paired (fun (c : NestedKey × List Int) (x : NEnt) => c.1 = x.1 ∧ c.1.depth ≤ 8 ∧ (th K c.1.data).p Hs (.ref x.2.1) ∧ Pv x.2.2 = some (.lst (c.2.map V.int))) cls xs
theorem CAll.mono {K : PySem.W.Frag} {Hs Hs' Pv : Hp} (e : Same Hs Hs') : ∀ {cls : Cls'} {xs : List NEnt}, CAll K Hs Pv cls xs → CAll K Hs' Pv cls xs
  | _, _, .nil => .nil
  | _, _, .cons r t => .cons ⟨r.1, r.2.1, (th K _).mono e r.2.2.1, r.2.2.2⟩ (CAll.mono e t)
/-- the dict at d, its lots private -/
def clsF (P : Program) (w : World) (K : PySem.W.Frag) (d : Addr) (cls : Cls') : PF :=
  ⟨fun Hs Pv => ∃ ob xs, Pv d = some (NDO P w d ob xs) ∧ CAll K Hs Pv cls xs ∧ (xs.map fun (x : NEnt) => x.2.2).Nodup, fun e ⟨ob, xs, h1, h2, h3⟩ => ⟨ob, xs, h1, h2.mono e, h3⟩⟩
def addC (cls : Cls') (k : NestedKey) (m : Int) : Cls' := if k ∈ cls.map Prod.fst then cls.map fun c => if c.1 = k then (c.1, c.2 ++ [m]) else c else cls ++ [(k, [m])]
theorem call_at {K : PySem.W.Frag} {Hs Pv : Hp} {k : NestedKey} : ∀ {cls : Cls'} {xs : List NEnt}, CAll K Hs Pv cls xs →
    (k ∈ cls.map Prod.fst → ∃ c x, c ∈ cls ∧ x ∈ xs ∧ c.1 = k ∧ atKey (xs.map nval) k = some (x.2.1, .ref x.2.2) ∧ Pv x.2.2 = some (.lst (c.2.map V.int))) ∧ (k ∉ cls.map Prod.fst → atKey (xs.map nval) k = none)
  | _, _, .nil => ⟨fun h => (by cases h), fun _ => rfl⟩
  | _, _, .cons (a := p) (b := x) (l₁ := cls) (l₂ := xs) r t => by
    obtain ⟨h1, h2⟩ := call_at (k := k) t
    obtain ⟨e1, e2, e3, e4⟩ := r
    unfold atKey at *
    rw [List.map_cons, List.map_cons, List.find?_cons]
    by_cases e : p.1 = k
    · have ex : x.1 = k := e1.symm.trans e
      rw [show decide ((nval x).1 = k) = true from decide_eq_true ex]
      exact ⟨fun _ => ⟨p, x, List.mem_cons_self, List.mem_cons_self, e, rfl, e4⟩, fun h => absurd (by rw [e]; exact List.mem_cons_self) h⟩
    · have ex : ¬ x.1 = k := fun z => e (e1.trans z)
      rw [show decide ((nval x).1 = k) = false from decide_eq_false ex]
      refine ⟨fun h => ?_, fun h => h2 fun z => h (List.mem_cons_of_mem _ z)⟩
      rcases List.mem_cons.mp h with h | h
      · exact absurd h.symm e
      · obtain ⟨c, y, q1, q2, q3⟩ := h1 h
        exact ⟨c, y, List.mem_cons_of_mem _ q1, List.mem_cons_of_mem _ q2, q3⟩
theorem CAll.keys {K : PySem.W.Frag} {Hs H Pv : Hp} (e : Same Hs H) : ∀ {cls : Cls'} {xs : List NEnt}, CAll K Hs Pv cls xs → ∀ x ∈ xs, KeyAt K H x.1 x.2.1
  | _, _, .cons (a := p) (b := x) r t, y, hy => by
    rcases List.mem_cons.mp hy with rfl | hy
    · obtain ⟨e1, e2, e3, _⟩ := r
      rw [e1] at e2 e3
      exact ⟨e2, th_dp ((th K _).mono e e3)⟩
    · exact CAll.keys e t y hy
theorem CAll.there {K : PySem.W.Frag} {Hs Pv : Hp} : ∀ {cls : Cls'} {xs : List NEnt}, CAll K Hs Pv cls xs → ∀ x ∈ xs, ∃ l : List Int, Pv x.2.2 = some (.lst (l.map V.int))
  | _, _, .cons (a := p) (b := x) r t, y, hy => by
    rcases List.mem_cons.mp hy with rfl | hy
    · exact ⟨_, r.2.2.2⟩
    · exact CAll.there t y hy
/-- other private objects may change -/
theorem CAll.other {K : PySem.W.Frag} {Hs Pv Pv' : Hp} : ∀ {cls : Cls'} {xs : List NEnt}, CAll K Hs Pv cls xs → (∀ x ∈ xs, Pv' x.2.2 = Pv x.2.2) → CAll K Hs Pv' cls xs
  | _, _, .nil, _ => .nil
  | _, _, .cons (a := p) (b := x) r t, h => .cons ⟨r.1, r.2.1, r.2.2.1, by rw [h x List.mem_cons_self]; exact r.2.2.2⟩ (CAll.other t fun y hy => h y (List.mem_cons_of_mem _ hy))
/-- a lot grows -/
theorem CAll.grow {K : PySem.W.Frag} {Hs Pv : Hp} {k : NestedKey} {m : Int} {a : Addr} {l : List Int} : ∀ {cls : Cls'} {xs : List NEnt}, CAll K Hs Pv cls xs → (xs.map fun x => x.1).Nodup → (xs.map fun x => x.2.2).Nodup → (∃ x ∈ xs, x.1 = k ∧ x.2.2 = a) → Pv a = some (.lst (l.map V.int)) →
    CAll K Hs (upd Pv a (.lst ((l ++ [m]).map V.int))) (cls.map fun c => if c.1 = k then (c.1, c.2 ++ [m]) else c) xs
  | _, _, .nil, _, _, ⟨x, hx, _⟩, _ => by cases hx
  | _, _, .cons (a := p) (b := x) (l₁ := cls) (l₂ := xs) r t, n1, n2, h, ha => by
    rw [List.map_cons] at n1 n2
    obtain ⟨n1a, n1b⟩ := List.nodup_cons.mp n1
    obtain ⟨n2a, n2b⟩ := List.nodup_cons.mp n2
    by_cases e : p.1 = k
    · -- this one
      have xk : x.1 = k := r.1.symm.trans e
      have xa : x.2.2 = a := by
        obtain ⟨z, hz, e1, e2⟩ := h
        rcases List.mem_cons.mp hz with rfl | hz
        · exact e2
        · exact absurd (List.mem_map.mpr ⟨z, hz, e1.trans xk.symm⟩) n1a
      have rest : cls.map (fun c => if c.1 = k then (c.1, c.2 ++ [m]) else c) = cls := by
        have : ∀ {cls : Cls'} {xs : List NEnt}, CAll K Hs Pv cls xs → k ∉ xs.map (fun x => x.1) → cls.map (fun c => if c.1 = k then (c.1, c.2 ++ [m]) else c) = cls := by
          intro cls xs q
          induction q with
          | nil => intro _; rfl
          | @cons p x ps qs r t ih =>
            intro hk
            rw [List.map_cons, ih fun z => hk (List.mem_cons_of_mem _ z), if_neg fun z => hk (by rw [← z, r.1]; exact List.mem_cons_self)]
        exact this t (by rw [← xk]; exact n1a)
      rw [List.map_cons, if_pos e, rest]
      have pl : p.2 = l := by
        have := r.2.2.2
        rw [xa, ha] at this
        have := Option.some.inj this
        injection this with this
        exact (List.map_inj_right (fun _ _ z => by injection z)).mp this.symm
      refine .cons ⟨r.1, r.2.1, r.2.2.1, by show upd Pv a _ x.2.2 = some (.lst ((p.2 ++ [m]).map V.int)); rw [xa, upd_same, pl]⟩ (CAll.other t fun y hy => ?_)
      rw [upd_ne]
      rw [← xa]
      exact fun z => n2a (List.mem_map.mpr ⟨y, hy, z⟩)
    · have xk : ¬ x.1 = k := fun z => e (r.1.trans z)
      have h' : ∃ z ∈ xs, z.1 = k ∧ z.2.2 = a := by
        obtain ⟨z, hz, e1, e2⟩ := h
        rcases List.mem_cons.mp hz with rfl | hz
        · exact absurd e1 xk
        · exact ⟨z, hz, e1, e2⟩
      have xa : x.2.2 ≠ a := fun z => by
        obtain ⟨y, hy, _, e2⟩ := h'
        exact n2a (List.mem_map.mpr ⟨y, hy, e2.trans z.symm⟩)
      rw [List.map_cons, if_neg e]
      exact .cons ⟨r.1, r.2.1, r.2.2.1, by rw [upd_ne xa]; exact r.2.2.2⟩ (CAll.grow t n1b n2b h' ha)
theorem CAll.fst {K : PySem.W.Frag} {Hs Pv : Hp} : ∀ {cls : Cls'} {xs : List NEnt}, CAll K Hs Pv cls xs → xs.map (fun x => x.1) = cls.map Prod.fst
  | _, _, .nil => rfl
  | _, _, .cons r t => by rw [List.map_cons, List.map_cons, CAll.fst t, r.1]
theorem nodup_at {α β : Type} {f : α → β} : ∀ {l : List α} {x y : α}, (l.map f).Nodup → x ∈ l → y ∈ l → f x = f y → x = y
  | z :: l, x, y, n, hx, hy, e => by
    obtain ⟨n1, n2⟩ := List.nodup_cons.mp n
    rcases List.mem_cons.mp hx with hx | hx <;> rcases List.mem_cons.mp hy with hy | hy
    · rw [hx, hy]
    · exact absurd (List.mem_map.mpr ⟨y, hy, e.symm.trans (congrArg f hx)⟩) n1
    · exact absurd (List.mem_map.mpr ⟨x, hx, e.trans (congrArg f hy)⟩) n1
    · exact nodup_at n2 hx hy e
section
variable {X : Cx} {S : LSt} {nx : NX} {rt : RT} {c e k : Expr} {pos apos cpos apos2 cpos2 lpos : Pos}
/-- c.setdefault(k, []).append(e) -/
theorem g1_setdA (i : Nat) {d : Addr} {cls : Cls'} (hi : S.ρ[i]? = some (some (.sh (vl (.ref d))))) (hb1 : cls.length < sizeLine) (hb2 : ∀ c ∈ cls, c.2.length < sizeLine) (hkn : (cls.map Prod.fst).Nodup)
    (h : LE X none k S fun Rk S1 => ∃ key : NestedKey, Rk = th X.K key.data ∧ IsRef Rk ∧ key.depth ≤ 8 ∧ Shs S1 ∧ LE X none e S1 fun R2 S2 => ∃ m : Int, R2 = vl (.int m) ∧ Shs S2 ∧ nx S2 (clsF X.prog X.w X.K d (addC cls key m)))
    (hp : PE X (.Call (.Attribute (.Call (.Attribute c "setdefault" apos2) [k, .List [] lpos] [] cpos2) "append" apos) [e] [] cpos) (tBM X.K "list" rAppend (tNSetd X (tVar i) (WE X k) (tLst tNil)) (tCons (WE X e) tNil)))
    (hs : swapsWith (.Call (.Attribute (.Call (.Attribute c "setdefault" apos2) [k, .List [] lpos] [] cpos2) "append" apos) [e] [] cpos) none pos.line X.env = pure false := by rfl) :
    G1 X (clsF X.prog X.w X.K d cls) (.Expr (.Call (.Attribute (.Call (.Attribute c "setdefault" apos2) [k, .List [] lpos] [] cpos2) "append" apos) [e] [] cpos) pos) S nx rt := by
  intro B Hs σ H ⟨Pv, g, ob, xs, hd, hc, hn⟩ E t
  obtain ⟨v, hσ, hv⟩ := g.ok.sh i _ hi
  cases (show v = .ref d from hv)
  refine ws_of (ps_expr hp hs) ⟨.ref d, hσ, d, ob, xs, rfl, g.pv.h _ _ hd, ?_⟩
  refine h ⟨Hs, H, 0⟩ Hs σ H g.self _ fun Rk S1 y Hs1 H1 p1 o1 e1 r1 => ?_
  obtain ⟨key, rfl, ir, hdp, sh1, h1⟩ := p1
  obtain ⟨b, rfl⟩ := ir _ _ r1
  have g1 := g.step o1 sh1
  have hc1 := hc.mono o1.e.s
  refine ⟨Nat.zero_le _, fun p hp => ?_⟩
  have g2 := g1.new (u := .lst []) hp
  have hpn : Pv p = none := by
    cases z : Pv p with
    | none => rfl
    | some u => rw [g1.pv.h p u z] at hp; cases hp
  have hdp' : d ≠ p := fun z => by rw [← z, hd] at hpn; cases hpn
  have hd2 : upd Pv p (.lst []) d = some (NDO X.prog X.w d ob xs) := by rw [upd_ne hdp']; exact hd
  have xne : ∀ x ∈ xs, x.2.2 ≠ p := fun x hx z => by
    obtain ⟨l, hl⟩ := hc1.there x hx
    rw [z, hpn] at hl; cases hl
  have xnd : ∀ x ∈ xs, x.2.2 ≠ d := fun x hx z => by
    obtain ⟨l, hl⟩ := hc1.there x hx
    rw [z, hd] at hl
    have hl : some (NDO X.prog X.w d ob xs) = some (HO.lst (l.map V.int)) := hl
    injection hl with hl
    cases hl
  have lxs : xs.length = cls.length := (Paired.length hc).symm
  have kn : (xs.map fun x => x.1).Nodup := by rw [hc.fst]; exact hkn
  -- what follows, whichever lot it is
  have fin : ∀ (a : Addr) (l : List Int) (Pv' : Hp) (H' : Hp), GPv X.K B Hs1 S1 σ H' Pv' → Pv' a = some (.lst (l.map V.int)) → l.length < sizeLine →
      (∀ (m : Int) Hs2, Same Hs1 Hs2 → (clsF X.prog X.w X.K d (addC cls key m)).p Hs2 (upd Pv' a (.lst ((l ++ [m]).map V.int)))) → (tyV X.K "list" (.ref a) H' ∧ (tCons (WE X e) tNil) σ H' fun vs H2 => rAppend (.ref a) vs H2 fun _ H3 => E.nx σ H3) := by
    intro a l Pv' H' g' ha hl hF
    refine ⟨.inl ⟨rfl, _, SqL.of (g'.pv.h _ _ ha)⟩, ?_⟩
    refine h1 ⟨Hs1, H', 0⟩ Hs1 σ H' g'.self _ fun R2 S2 z Hs2 H2 p2 o2 e2 r2 => ?_
    obtain ⟨m, rfl, sh2, q⟩ := p2
    cases (show z = .int m from r2)
    have g3 := g'.step o2 sh2
    refine ⟨a, _, .int m, rfl, rfl, g3.pv.h _ _ ha, by rw [List.length_map]; exact hl, ?_⟩
    have e3 : l.map V.int ++ [V.int m] = (l ++ [m]).map V.int := by rw [List.map_append]; rfl
    rw [e3]
    exact t.nx S2 _ Hs2 σ _ q ⟨_, g3.write ha, hF m Hs2 e2⟩
  refine ⟨key, b, p, rfl, rfl, g2.pv.h _ _ hd2, hc1.keys g2.ok.w, ⟨hdp, th_dp ((th X.K _).mono g2.ok.w r1)⟩, by rw [lxs]; exact hb1, fun p0 vp hat => ?_, fun hat o' => ?_⟩
  · by_cases hk : key ∈ cls.map Prod.fst
    · obtain ⟨c, x, hcm, hxm, e1', hat', hpx⟩ := (call_at hc1).1 hk
      rw [hat'] at hat
      cases hat
      refine fin x.2.2 c.2 _ _ g2 (by rw [upd_ne (xne x hxm)]; exact hpx) (hb2 c hcm) fun m Hs2 e2 => ?_
      have xk : x.1 = key := by
        unfold atKey at hat'
        obtain ⟨y, hy, ey⟩ := Option.map_eq_some_iff.mp hat'
        have hy1 := List.find?_some hy
        obtain ⟨x', hx', rfl⟩ := List.mem_map.mp (List.mem_of_find?_eq_some hy)
        have ee : x'.2.2 = x.2.2 := by
          have := congrArg Prod.snd ey
          injection this
        rw [← nodup_at hn hx' hxm ee]
        exact of_decide_eq_true hy1
      unfold addC
      rw [if_pos hk]
      refine ⟨ob, xs, ?_, ?_, hn⟩
      · rw [upd_ne (fun z => xnd x hxm z.symm)]; exact hd2
      · exact CAll.grow ((hc1.mono e2).other (fun y hy => by rw [upd_ne (xne y hy)])) kn hn ⟨x, hxm, xk, rfl⟩ (by rw [upd_ne (xne x hxm)]; exact hpx)
    · rw [(call_at hc1).2 hk] at hat
      cases hat
  · have hk : key ∉ cls.map Prod.fst := fun z => by
      obtain ⟨c, x, _, _, _, hat', _⟩ := (call_at hc1).1 z
      rw [hat'] at hat; cases hat
    refine fin p [] _ _ (g2.write (u := NDO X.prog X.w d o' (xs ++ [(key, b, p)])) hd2) (by rw [upd_ne hdp'.symm, upd_same]; rfl) (by rw [List.length_nil, sizeLine_eq]; omega) fun m Hs2 e2 => ?_
    unfold addC
    rw [if_neg hk]
    refine ⟨o', xs ++ [(key, b, p)], by rw [upd_ne hdp', upd_same], Paired.snoc ((hc1.mono e2).other fun y hy => ?_) ⟨rfl, hdp, (th X.K _).mono e2 r1, upd_same⟩, ?_⟩
    · rw [upd_ne (xne y hy), upd_ne (xnd y hy), upd_ne (xne y hy)]
    · rw [List.map_append, List.nodup_append]
      refine ⟨hn, by simp, fun a ha b' hb' z => ?_⟩
      obtain ⟨y, hy, rfl⟩ := List.mem_map.mp ha
      rw [List.map_cons, List.map_nil, List.mem_singleton] at hb'
      exact xne y hy (z.trans hb')
end
end DL
set_option Elab.async false
set_option linter.all false
set_option maxRecDepth 100000
set_option maxHeartbeats 4000000
namespace DL
open PySem PySem.Spec L2
open PyProof.Rows hiding St
open PySem.W (Datum Tup)
/-- odds as a key -/
def keyOf (col : List (Int × Int)) : NestedKey := .tup (col.map fun r => .tup [.num r.1, .num r.2])
theorem key_data (col : List (Int × Int)) : (keyOf col).data = .tuple (col.map oddD) := by
  unfold keyOf
  rw [NestedKey.data]
  congr 1
  induction col with
  | nil => rw [List.map_nil, NestedKey.datas]; rfl
  | cons r col ih => rw [List.map_cons, NestedKey.datas, ih, NestedKey.data, NestedKey.datas, NestedKey.datas, NestedKey.datas, NestedKey.data, NestedKey.data]; rfl
theorem key_th (K : PySem.W.Frag) (col : List (Int × Int)) : th K (keyOf col).data = tupT K (col.map (rT K)) := by
  rw [key_data]
  exact congrArg (tupT K) (ths_odds col)
theorem key_depth (col : List (Int × Int)) : (keyOf col).depth ≤ 8 := by
  unfold keyOf
  rw [NestedKey.depth]
  have : NestedKey.depthAll (col.map fun r => NestedKey.tup [.num r.1, .num r.2]) ≤ 1 := by
    induction col with
    | nil => rw [List.map_nil, NestedKey.depthAll]; omega
    | cons r col ih => rw [List.map_cons, NestedKey.depthAll, NestedKey.depth, NestedKey.depthAll, NestedKey.depthAll, NestedKey.depthAll, NestedKey.depth, NestedKey.depth]; omega
  omega
theorem key_inj {a b : List (Int × Int)} (h : keyOf a = keyOf b) : a = b := by
  unfold keyOf at h
  injection h with h
  exact (List.map_inj_right (fun x y z => by injection z with z; simp at z; exact Prod.ext z.1 z.2)).mp h
/-- the lots of worlds with like odds, by their first ones -/
def clsOf (r : Row) (ns : List Nat) : Cls' := ns.foldl (fun acc n => addC acc (keyOf (colF (outsOf r) n)) (n : Int)) []
theorem addC_nodup {cls : Cls'} {k : NestedKey} {m : Int} (h : (cls.map Prod.fst).Nodup) : ((addC cls k m).map Prod.fst).Nodup := by
  unfold addC
  by_cases hk : k ∈ cls.map Prod.fst
  · rw [if_pos hk, List.map_map]
    have : (cls.map (Prod.fst ∘ fun c => if c.1 = k then (c.1, c.2 ++ [m]) else c)) = cls.map Prod.fst := List.map_congr_left fun c _ => by
      show (if c.1 = k then (c.1, c.2 ++ [m]) else c).1 = c.1
      by_cases e : c.1 = k
      · rw [if_pos e]
      · rw [if_neg e]
    rw [this]; exact h
  · rw [if_neg hk, List.map_append, List.nodup_append]
    refine ⟨h, by simp, fun a ha b hb z => ?_⟩
    rw [List.map_cons, List.map_nil, List.mem_singleton] at hb
    exact hk (by rw [← (show b = k from hb), ← z]; exact ha)
theorem addC_len {cls : Cls'} {k : NestedKey} {m : Int} : (addC cls k m).length ≤ cls.length + 1 := by
  unfold addC
  by_cases hk : k ∈ cls.map Prod.fst
  · rw [if_pos hk, List.length_map]; omega
  · rw [if_neg hk, List.length_append]; simp
theorem addC_lot {cls : Cls'} {k : NestedKey} {m : Int} {n : Nat} (h : ∀ c ∈ cls, c.2.length ≤ n) : ∀ c ∈ addC cls k m, c.2.length ≤ n + 1 := by
  unfold addC
  intro c hc
  by_cases hk : k ∈ cls.map Prod.fst
  · rw [if_pos hk] at hc
    obtain ⟨c0, h0, rfl⟩ := List.mem_map.mp hc
    have := h c0 h0
    by_cases e : c0.1 = k
    · rw [if_pos e]; show (c0.2 ++ [m]).length ≤ _; rw [List.length_append]; simp; omega
    · rw [if_neg e]; omega
  · rw [if_neg hk] at hc
    rcases List.mem_append.mp hc with hc | hc
    · have := h c hc; omega
    · cases List.mem_singleton.mp hc; show 1 ≤ _; omega
theorem clsOf_snoc {r : Row} {ns : List Nat} {n : Nat} : clsOf r (ns ++ [n]) = addC (clsOf r ns) (keyOf (colF (outsOf r) n)) (n : Int) := by
  unfold clsOf; rw [List.foldl_append]; rfl
theorem clsOf_all {r : Row} (ns : List Nat) : ((clsOf r ns).map Prod.fst).Nodup ∧ (clsOf r ns).length ≤ ns.length ∧ ∀ c ∈ clsOf r ns, c.2.length ≤ ns.length := by
  have : ∀ (ms : List Nat), ((clsOf r ms.reverse).map Prod.fst).Nodup ∧ (clsOf r ms.reverse).length ≤ ms.length ∧ ∀ c ∈ clsOf r ms.reverse, c.2.length ≤ ms.length := by
    intro ms
    induction ms with
    | nil => exact ⟨List.nodup_nil, Nat.le_refl _, fun c hc => by cases hc⟩
    | cons m ms ih =>
      rw [List.reverse_cons, clsOf_snoc]
      exact ⟨addC_nodup ih.1, Nat.le_trans addC_len (by rw [List.length_cons]; have := ih.2.1; omega), addC_lot ih.2.2⟩
  have := this ns.reverse
  rwa [List.reverse_reverse, List.length_reverse] at this
/-- lots of ints, as a tuple of tuples -/
abbrev lotsT (K : PySem.W.Frag) (ls : List (List Int)) : Th := tupT K (ls.map fun l => tupT K (l.map iT))
section
variable {P : Program} {w : World} {K : PySem.W.Frag} {mg : Str → Option Value} {base : Heap} {f C : Addr} {fd : FuncData}
abbrev st_classes_in : Stmt := top 60
abbrev cnN : List Str := ["yard", "state", "knowledge", "found", "world", "worlds"]
theorem sc_classes_in : Scp cnN ["yard", "state", "knowledge"] st_classes_in := ⟨rfl, rfl, rfl, by decide +kernel, rfl, by decide +kernel, by decide +kernel⟩
def fClassesIn (K : PySem.W.Frag) (C : Addr) : PFn := fun Rs R => ∃ (y : YardD) (s : Nat) (r : Row) (ns : List Nat), Rs = [yT K C y, nT s, kT K ns] ∧ At y s r ns ∧ R = lotsT K ((clsOf r ns).map Prod.snd)
theorem kn_classes_in (F : Fun K "classes_in" "classes_in" st_classes_in f fd) (hm : mg "classes_in" = some (.ref f)) (hb : Binds K fd ["yard", "state", "knowledge"] []) (h1 : Blt mg "tuple") (k1 : Kn P w K mg base 2 "odds_of" (spP 3 (fOddsOf K C))) :
    Kn P w K mg base 3 "classes_in" (spP 3 (fClassesIn K C)) := by
  refine kn_pure F hm hb sc_classes_in rfl fun cdv A outer s H E Rs R hr h => ?_
  obtain ⟨y, n, r, ns, rfl, a, rfl⟩ := h
  have nl := a.l
  refine lb_cons <| l1_setO (i := 3) (ln_dictN ?_) sc_classes_in.nd
  refine lb_priv 3 rfl (fun j O' q => ?_) fun d => ?_
  · match j, q with
    | 3, _ => rfl
    | 0, q => cases q
    | 1, q => cases q
    | 2, q => cases q
    | 4, q => cases q
    | 5, q => cases q
    | j + 6, q => cases q
  refine gb_imp (F' := clsF P w K d (clsOf r [])) (fun Hs Pv ⟨u, h1, ob, xs, h2, h3⟩ => (by cases h3; exact ⟨ob, [], by rw [h1, h2]; rfl, .nil, List.nodup_nil⟩)) ?_
  have shs : ∀ (q4 : Option Ent), (∀ O, q4 ≠ some (.ow O)) → Shs ⟨[some (.sh (yT K C y)), some (.sh (nT n)), some (.sh (kT K ns)), some (.sh (vl (.ref d))), q4, none], 0⟩ := by
    intro q4 h4 i O q
    match i, q with
    | 0, q => cases q
    | 1, q => cases q
    | 2, q => cases q
    | 3, q => cases q
    | 4, q => exact h4 O (Option.some.inj q)
    | 5, q => cases q
    | i + 6, q => cases q
  refine gb_cons <| g1_for [4] (li_tup (le_var (i := 2) rfl ⟨_, rfl, ?_⟩)) .never
  refine ⟨shs none (fun O z => by cases z), fun i S F => ∃ q4, (∀ O, q4 ≠ some (.ow O)) ∧ S = ⟨[some (.sh (yT K C y)), some (.sh (nT n)), some (.sh (kT K ns)), some (.sh (vl (.ref d))), q4, none], 0⟩ ∧ F = clsF P w K d (clsOf r (ns.take i)), ⟨none, (fun O z => by cases z), rfl, rfl⟩, ?_, ?_⟩
  · rintro i R S2 F2 hR ⟨q4, h4, rfl, rfl⟩
    rw [List.getElem?_map] at hR
    cases e : ns[i]? with
    | none => rw [e] at hR; cases hR
    | some m =>
      rw [e] at hR
      cases hR
      obtain ⟨b1, b2, b3⟩ := clsOf_all (r := r) (ns.take i)
      have lt : (ns.take i).length ≤ 1000 := by rw [List.length_take]; omega
      have big : 1000 < sizeLine := by rw [sizeLine_eq]; omega
      have am : At y n r [m] := ⟨a.row, a.ok, fun k hk => (by cases List.mem_singleton.mp hk; exact a.kn m (List.mem_of_getElem? e)), Nat.le_add_left 1 999⟩
      refine lg_name (i := 4) ?_ sc_classes_in.nd
      refine ⟨shs _ (fun O z => by cases z), gb_cons <| g1_setdA 3 rfl (by omega) (fun c hc => by have := b3 c hc; omega) b1 (le_call k1 hr (by decide) <| la_cons <| le_var (i := 0) rfl <| la_cons <| le_var (i := 1) rfl <| la_cons <| le_var (i := 4) rfl <| la_nil ⟨_, ⟨y, n, r, m, rfl, am, rfl⟩, rfl, keyOf (colF (outsOf r) m), (key_th K _).symm, ref_tup, key_depth _, shs _ (fun O z => by cases z), le_var (i := 4) rfl ⟨(m : Int), rfl, shs _ (fun O z => by cases z), gb_nil ?_⟩⟩) ?_⟩
      · exact ⟨_, fun O z => (by cases z), rfl, by rw [take_snoc e, clsOf_snoc]; rfl⟩
      · exact pe_bm PySem.F.plainAttrs_list PySem.F.slot_list_append PySem.F.type_list_append mt_append (pe_ndsetd (ru hr) (pv _) pe_we (pe_lst pa_nil) ⟨rfl, rfl, rfl, rfl⟩) (pa_cons pe_we pa_nil)
  · rintro S2 F2 ⟨q4, h4, rfl, rfl⟩
    rw [List.length_map, List.take_length]
    obtain ⟨b1, b2, b3⟩ := clsOf_all (r := r) ns
    refine gb_share 3 (R := ndT P w K ((clsOf r ns).map fun c => (c.1, lstT (c.2.map iT)))) rfl (fun Hs Pv HL ⟨ob, xs, hd, hc, _⟩ e1 e2 => ⟨d, ob, xs, rfl, e2 _ _ hd, ?_⟩) ?_
    · have : ∀ {cls : Cls'} {xs : List NEnt}, CAll K Hs Pv cls xs → NAll K HL (cls.map fun c => (c.1, lstT (c.2.map iT))) xs := by
        intro cls xs q
        induction q with
        | nil => exact .nil
        | cons r t ih => exact .cons ⟨r.1, r.2.1, (th K _).mono e1 r.2.2.1, _, _, rfl, e2 _ _ r.2.2.2, alls_of_ints⟩ ih
      exact this hc
    refine lb_cons <| l1_ret <| le_ct call_tuple_of h1 (by decide +kernel) <| la_cons <| le_lc (own := [("worlds", 5)]) (li_nvals (le_var (i := 3) rfl ⟨_, rfl, ?_⟩)) (bk (by decide +kernel)) sc_classes_in.nd
    rw [List.map_map]
    refine lc_map (clsOf r ns) (fun c => lstT (c.2.map iT)) (fun c => tupT K (c.2.map iT)) (by omega) (fun c hc => ?_) ?_
    · intro s H C cl fp
      refine lg_name (i := 5) ?_ sc_classes_in.nd
      intro s H C cl fp
      exact le_ct call_tuple_of h1 (by decide +kernel) <| la_cons <| le_var (i := 5) rfl <| la_nil <| rc_tuple (.inr rfl) ⟨rfl, rfl⟩
    · refine la_nil <| rc_tuple (.inr rfl) ?_
      show tupT K _ = lotsT K _
      unfold lotsT
      rw [List.map_map]; rfl
end
end DL
set_option Elab.async false
set_option linter.all false
set_option maxRecDepth 100000
set_option maxHeartbeats 4000000
namespace DL
open PySem PySem.Spec L2
open PyProof.Rows hiding St
open PySem.W (Datum Tup)
section
variable {P : Program} {w : World} {K : PySem.W.Frag} {mg : Str → Option Value} {base : Heap} {f C : Addr} {fd : FuncData}
abbrev st_classes : Stmt := top 68
theorem sc_classes : Scp ["yard", "state", "knowledge"] ["yard", "state", "knowledge"] st_classes := ⟨rfl, rfl, rfl, by decide +kernel, rfl, by decide +kernel, by decide +kernel⟩
def fClasses (K : PySem.W.Frag) (C : Addr) : PFn := fun Rs R => ∃ (y : YardD) (s : Nat) (ns : List Nat) (R1 : Th), Rs = [yT K C y, nT s, R1] ∧ SeqT K R1 (ns.map nT) ∧ Ask y s ns ∧ R = lotsT K ((clsOf (rowAt y s) ns).map Prod.snd)
theorem kn_classes (F : Fun K "classes" "classes" st_classes f fd) (hm : mg "classes" = some (.ref f)) (hb : Binds K fd ["yard", "state", "knowledge"] []) (k1 : Kn P w K mg base 4 "need_luck" (spP 3 (fNeedLuck K C))) (k2 : Kn P w K mg base 3 "classes_in" (spP 3 (fClassesIn K C))) :
    Kn P w K mg base 5 "classes" (spP 3 (fClasses K C)) := by
  refine kn_pure F hm hb sc_classes rfl fun cdv A outer s H E Rs R hr h => ?_
  obtain ⟨y, n, ns, R1, rfl, sq, ask, rfl⟩ := h
  exact lb_cons <| l1_ret <| le_call k2 hr (by decide) <| la_cons <| le_var (i := 0) rfl <| la_cons <| le_var (i := 1) rfl <| la_cons <| le_call k1 hr (by decide) <| la_cons <| le_var (i := 0) rfl <| la_cons <| le_var (i := 1) rfl <| la_cons <| le_var (i := 2) rfl <|
    la_nil ⟨_, ⟨y, n, ns, R1, rfl, sq, ask, rfl⟩, rfl, la_nil ⟨_, ⟨y, n, rowAt y n, ns, rfl, ask.sm.at ask.lt, rfl⟩, rfl, rfl⟩⟩
end
end DL
set_option Elab.async false
set_option linter.all false
set_option maxRecDepth 100000
set_option maxHeartbeats 4000000
namespace DL
open PySem PySem.Spec L2
open PyProof.Rows hiding St
open PySem.W (Datum Tup)
/-- a lot: where it stands, its worlds -/
abbrev Lot := Addr × List Int
def lawF (d : Addr) (lots : List Lot) : PF :=
  ⟨fun _ Pv => Pv d = some (.lst (lots.map fun l => V.ref l.1)) ∧ (∀ l ∈ lots, Pv l.1 = some (.lst (l.2.map V.int))) ∧ (lots.map Prod.fst).Nodup ∧ d ∉ lots.map Prod.fst, fun _ h => h⟩
/-- each lot begins with a world whose odds are its key -/
def ClsOk (r : Row) (ns : List Nat) (cls : Cls') : Prop := ∀ c ∈ cls, ∃ (h : Nat) (t : List Int), c.2 = (h : Int) :: t ∧ c.1 = keyOf (colF (outsOf r) h) ∧ h ∈ ns
theorem clsOk_of {r : Row} {ns : List Nat} : ∀ {ms : List Nat}, (∀ m ∈ ms, m ∈ ns) → ClsOk r ns (clsOf r ms) := by
  have : ∀ (ms : List Nat), (∀ m ∈ ms, m ∈ ns) → ClsOk r ns (clsOf r ms.reverse) := by
    intro ms
    induction ms with
    | nil => intro _ c hc; cases hc
    | cons m ms ih =>
      intro hm
      have ih := ih fun x hx => hm x (List.mem_cons_of_mem _ hx)
      rw [List.reverse_cons, clsOf_snoc]
      intro c hc
      unfold addC at hc
      by_cases hk : keyOf (colF (outsOf r) m) ∈ (clsOf r ms.reverse).map Prod.fst
      · rw [if_pos hk] at hc
        obtain ⟨c0, h0, rfl⟩ := List.mem_map.mp hc
        obtain ⟨h, t, e1, e2, e3⟩ := ih c0 h0
        by_cases e : c0.1 = keyOf (colF (outsOf r) m)
        · rw [if_pos e]; exact ⟨h, t ++ [(m : Int)], by show c0.2 ++ _ = _; rw [e1]; rfl, e2, e3⟩
        · rw [if_neg e]; exact ⟨h, t, e1, e2, e3⟩
      · rw [if_neg hk] at hc
        rcases List.mem_append.mp hc with hc | hc
        · exact ih c hc
        · cases List.mem_singleton.mp hc
          exact ⟨m, [], rfl, rfl, hm m List.mem_cons_self⟩
  intro ms hm
  have := this ms.reverse fun m h => hm m (List.mem_reverse.mp h)
  rwa [List.reverse_reverse] at this
abbrev LotsR (lots : List Lot) (cls : Cls') : Prop := Paired (fun (l : Lot) (c : NestedKey × List Int) => l.2 = c.2) lots cls
/-- the lots of a column -/
def likeL (r : Row) (m : Nat) (lots : List Lot) : List Lot := lots.filter fun l => decide (colF (outsOf r) (l.2.headD 0).toNat = colF (outsOf r) m)
theorem like_none {r : Row} {ns : List Nat} {m : Nat} : ∀ {lots : List Lot} {cls : Cls'}, LotsR lots cls → ClsOk r ns cls → keyOf (colF (outsOf r) m) ∉ cls.map Prod.fst → likeL r m lots = []
  | _, _, .nil, _, _ => rfl
  | _, _, .cons (a := l) (b := c) (l₁ := lots) (l₂ := cls) e t, ok, hk => by
    obtain ⟨h, u, e1, e2, _⟩ := ok c List.mem_cons_self
    have ih := like_none t (fun c hc => ok c (List.mem_cons_of_mem _ hc)) fun z => hk (List.mem_cons_of_mem _ z)
    unfold likeL at ih ⊢
    rw [List.filter_cons, if_neg, ih]
    rw [e, e1]
    intro z
    have z : colF (outsOf r) ((h : Int)).toNat = colF (outsOf r) m := of_decide_eq_true z
    rw [Int.toNat_natCast] at z
    exact hk (by rw [← z, ← e2]; exact List.mem_cons_self)
/-- the lots of a column when there is one: it, at its place -/
theorem like_one {r : Row} {ns : List Nat} {m : Nat} : ∀ {lots : List Lot} {cls : Cls'}, LotsR lots cls → ClsOk r ns cls → (cls.map Prod.fst).Nodup → keyOf (colF (outsOf r) m) ∈ cls.map Prod.fst →
    ∃ as l bs, lots = as ++ l :: bs ∧ likeL r m lots = [l] ∧ LotsR (as ++ (l.1, l.2 ++ [(m : Int)]) :: bs) (cls.map fun c => if c.1 = keyOf (colF (outsOf r) m) then (c.1, c.2 ++ [(m : Int)]) else c)
  | _, _, .nil, _, _, h => by cases h
  | _, _, .cons (a := l) (b := c) (l₁ := lots) (l₂ := cls) e t, ok, nd, hk => by
    obtain ⟨h, u, e1, e2, _⟩ := ok c List.mem_cons_self
    obtain ⟨n1, n2⟩ := List.nodup_cons.mp nd
    have ok' : ClsOk r ns cls := fun c hc => ok c (List.mem_cons_of_mem _ hc)
    by_cases ek : c.1 = keyOf (colF (outsOf r) m)
    · have none := like_none (m := m) t ok' (by rw [← ek]; exact n1)
      refine ⟨[], l, lots, rfl, ?_, ?_⟩
      · unfold likeL at none ⊢
        rw [List.filter_cons, if_pos, none]
        refine decide_eq_true ?_
        rw [e, e1]
        have : colF (outsOf r) h = colF (outsOf r) m := key_inj (e2.symm.trans ek)
        show colF (outsOf r) ((h : Int)).toNat = _
        rw [Int.toNat_natCast]
        exact this
      · rw [List.map_cons, if_pos ek]
        have rest : cls.map (fun c => if c.1 = keyOf (colF (outsOf r) m) then (c.1, c.2 ++ [(m : Int)]) else c) = cls := by
          refine (List.map_congr_left fun c' hc => ?_).trans (List.map_id _)
          rw [if_neg fun z => n1 (by rw [ek, ← z]; exact List.mem_map.mpr ⟨c', hc, rfl⟩)]; rfl
        rw [rest]
        exact .cons (by show l.2 ++ _ = c.2 ++ _; rw [e]) t
    · have hk' : keyOf (colF (outsOf r) m) ∈ cls.map Prod.fst := by
        rcases List.mem_cons.mp hk with z | z
        · exact absurd z.symm ek
        · exact z
      obtain ⟨as, l', bs, q1, q2, q3⟩ := like_one t ok' n2 hk'
      refine ⟨l :: as, l', bs, by rw [q1]; rfl, ?_, ?_⟩
      · unfold likeL at q2 ⊢
        rw [List.filter_cons, if_neg, q2]
        rw [e, e1]
        intro z
        have z : colF (outsOf r) ((h : Int)).toNat = colF (outsOf r) m := of_decide_eq_true z
        rw [Int.toNat_natCast] at z
        exact ek (by rw [e2, z])
      · rw [List.map_cons, if_neg ek]
        exact .cons e q3
theorem lotsR_snd {lots : List Lot} {cls : Cls'} (h : LotsR lots cls) : lots.map Prod.snd = cls.map Prod.snd := by
  induction h with
  | nil => rfl
  | cons e t ih => rw [List.map_cons, List.map_cons, ih, e]
theorem col_tD (K : PySem.W.Frag) (col : List (Int × Int)) : lstT (col.map (rT K)) = tD K col := by
  show lstT _ = lstT (ths K _)
  rw [ths_map, List.map_map]; rfl
section
variable {P : Program} {w : World} {K : PySem.W.Frag} {mg : Str → Option Value} {base : Heap} {f C : Addr} {fd : FuncData}
abbrev st_lclasses : Stmt := top 77
abbrev lcN : List Str := ["yard", "state", "told", "found", "world", "like", "lot", "one"]
theorem sc_lclasses : Scp lcN ["yard", "state", "told"] st_lclasses := ⟨rfl, rfl, rfl, by decide +kernel, rfl, by decide +kernel, by decide +kernel⟩
/-- if a != b, a with private parts -/
theorem g1_ifNeP {X : Cx} {F : PF} {S : LSt} {nx : NX} {rt : RT} {a b : Expr} {sts sts' : List Stmt} {pos pos' : Pos} (hu : X.A.units + 64 < cLine) (h : LE X none a S fun Ra S1 => Shs S1 ∧ LE X none b S1 fun Rb S2 => Shs S2 ∧ ∃ d e, SeqAt.shaped d = true ∧ SeqAt.shaped e = true ∧
      (∀ Hs Pv H va, F.p Hs Pv → Ra.p Hs va → Same Hs H → (∀ b o, Pv b = some o → H b = some o) → Dp X.K H va d) ∧ Rb = th X.K e ∧ if (!PyData.eqv d e) = true then GB X F sts S2 nx rt else GB X F sts' S2 nx rt)
    (hm : behindInMarks .NotEq b = false := by first | exact nomark _ | rfl) : G1 X F (.If (.Compare a [.NotEq] [b] pos') sts sts' pos) S nx rt := by
  intro B Hs σ H g E t
  refine ws_of (ps_if pt_wt ps_wb ps_wb) (wt_of (pt_cmpR (op_neD hu) pe_we pe_we hm) (h ⟨Hs, H, 0⟩ Hs σ H g.self _ fun Ra S1 va Hs1 H1 p1 o1 e1 r1 => ?_))
  obtain ⟨sh1, h1⟩ := p1
  have g1 := g.step o1 sh1
  refine h1 ⟨Hs1, H1, 0⟩ Hs1 σ H1 g1.self _ fun Rb S2 vb Hs2 H2 p2 o2 e2 r2 => ?_
  obtain ⟨sh2, d, e, q1, q2, q3, rfl, q⟩ := p2
  have g2 := g1.step o2 sh2
  obtain ⟨Pv, gp, f⟩ := id g2
  refine ⟨d, e, q3 Hs2 Pv H2 va f (Ra.mono e2 r1) gp.ok.w gp.pv.h, th_dp ((th X.K e).mono gp.ok.w r2), q1, q2, _, rfl, ?_⟩
  by_cases z : (!PyData.eqv d e) = true
  · rw [if_pos z] at q ⊢
    exact q B Hs2 σ H2 g2 E t
  · rw [if_neg z] at q ⊢
    exact q B Hs2 σ H2 g2 E t
def fLClasses (K : PySem.W.Frag) (C : Addr) : PFn := fun Rs R => ∃ (y : YardD) (s : Nat) (os : List (Nat × List (Int × Int))) (ns : List Nat), Rs = [yT K C y, nT s, kT K ns] ∧ At y s (.luck os) ns ∧ R = lstT (((clsOf (.luck os) ns).map Prod.snd).map fun l => tupT K (l.map iT))
theorem kn_lclasses (F : Fun K "_law_classes" "_law_classes" st_lclasses f fd) (hm : mg "_law_classes" = some (.ref f)) (hb : Binds K fd ["yard", "state", "told"] []) (yc : YC K C) (h1 : Blt mg "tuple") :
    Kn P w K mg base 1 "_law_classes" (spP 3 (fLClasses K C)) := by
  refine kn_pure F hm hb sc_lclasses rfl fun cdv A outer s H E Rs R hr h => ?_
  obtain ⟨y, n, os, ns, rfl, a, rfl⟩ := h
  have nl := a.l
  have ol : os.length ≤ 6 := a.outs
  have big : 1000 < sizeLine := by rw [sizeLine_eq]; omega
  refine lb_cons <| l1_setO (i := 3) (ln_lst <| la_nil ⟨zl (n := 0), ?_⟩) sc_lclasses.nd
  refine lb_priv 3 rfl (fun j O' q => ?_) fun d => ?_
  · match j, q with
    | 3, _ => rfl
    | 0, q => cases q
    | 1, q => cases q
    | 2, q => cases q
    | 4, q => cases q
    | 5, q => cases q
    | 6, q => cases q
    | 7, q => cases q
    | j + 8, q => cases q
  refine gb_imp (F' := lawF d []) (fun Hs Pv ⟨u, h1, vs, h2, h3⟩ => (by cases h3; exact ⟨by rw [h1, h2]; rfl, fun l hl => (by cases hl), List.nodup_nil, fun z => (by cases z)⟩)) ?_
  have shs : ∀ (q4 q5 : Option Ent), (∀ O, q4 ≠ some (.ow O)) → (∀ O, q5 ≠ some (.ow O)) → Shs ⟨[some (.sh (yT K C y)), some (.sh (nT n)), some (.sh (kT K ns)), some (.sh (vl (.ref d))), q4, q5, none, none], 0⟩ := by
    intro q4 q5 h4 h5 i O q
    match i, q with
    | 0, q => cases q
    | 1, q => cases q
    | 2, q => cases q
    | 3, q => cases q
    | 4, q => exact h4 O (Option.some.inj q)
    | 5, q => exact h5 O (Option.some.inj q)
    | 6, q => cases q
    | 7, q => cases q
    | i + 8, q => cases q
  have noq : ∀ R O, some (Ent.sh R) ≠ some (.ow O) := fun R O z => by cases z
  refine gb_cons <| g1_for [4] (li_tup (le_var (i := 2) rfl ⟨_, rfl, ?_⟩)) .never
  refine ⟨shs none none (fun O z => by cases z) (fun O z => by cases z), fun i S F => ∃ q4 q5 lots, (∀ O, q4 ≠ some (.ow O)) ∧ (∀ O, q5 ≠ some (.ow O)) ∧ S = ⟨[some (.sh (yT K C y)), some (.sh (nT n)), some (.sh (kT K ns)), some (.sh (vl (.ref d))), q4, q5, none, none], 0⟩ ∧ F = lawF d lots ∧ LotsR lots (clsOf (.luck os) (ns.take i)),
    ⟨none, none, [], (fun O z => by cases z), (fun O z => by cases z), rfl, rfl, .nil⟩, ?_, ?_⟩
  · rintro i R S2 F2 hR ⟨q4, q5, lots, h4, h5, rfl, rfl, rel⟩
    rw [List.getElem?_map] at hR
    cases e : ns[i]? with
    | none => rw [e] at hR; cases hR
    | some m =>
      rw [e] at hR
      cases hR
      obtain ⟨b1, b2, b3⟩ := clsOf_all (r := .luck os) (ns.take i)
      have lt : (ns.take i).length ≤ 1000 := by rw [List.length_take]; omega
      have ok : ClsOk (.luck os) ns (clsOf (.luck os) (ns.take i)) := clsOk_of fun x hx => List.mem_of_mem_take hx
      have ll : lots.length ≤ 1000 := by rw [Paired.length rel]; omega
      refine lg_name (i := 4) ?_ sc_lclasses.nd
      refine ⟨shs _ _ (noq _) h5, gb_cons <| g1_setLcP (i := 3) (j := 5) (own := [("lot", 6)]) (R := lstT (lots.map fun l => cellT l.1 l.2)) rfl (fun Hs Pv HL ⟨f1, f2, f3, f4⟩ w0 w1 => ⟨d, _, rfl, w1 _ _ f1, ?_⟩) (li_lst (le_var (i := 3) rfl ⟨_, rfl, ?_⟩)) (bk (by decide +kernel)) sc_lclasses.nd (sw_true rfl rfl rfl (by decide +kernel))⟩
      · have : ∀ (ls : List Lot), (∀ l ∈ ls, Pv l.1 = some (.lst (l.2.map V.int))) → Alls HL (ls.map fun l => cellT l.1 l.2) (ls.map fun l => V.ref l.1) := by
          intro ls
          induction ls with
          | nil => exact fun _ => .nil
          | cons l ls ih => exact fun q => .cons ⟨rfl, w1 _ _ (q l List.mem_cons_self)⟩ (ih fun l' hl => q l' (List.mem_cons_of_mem _ hl))
        exact this lots f2
      have heads : ∀ l ∈ lots, ∃ (h : Nat) (t : List Int), l.2 = (h : Int) :: t ∧ h ∈ ns := by
        intro l hl
        obtain ⟨k, hk⟩ := List.getElem?_of_mem hl
        obtain ⟨c, hc, ec⟩ : ∃ c, (clsOf (.luck os) (ns.take i))[k]? = some c ∧ l.2 = c.2 := by
          clear hl ll ok lt
          generalize clsOf (.luck os) (ns.take i) = cls at rel
          induction rel generalizing k with
          | nil => simp at hk
          | cons r t ih =>
            cases k with
            | zero => simp at hk; subst hk; exact ⟨_, rfl, r⟩
            | succ k => exact ih k (by simpa using hk)
        obtain ⟨h, t, e1, _, e3⟩ := ok c (List.mem_of_getElem? hc)
        exact ⟨h, t, by rw [ec, e1], e3⟩
      have colw : ∀ x ∈ ns, ∀ o ∈ os, atI (o.2.map (rT K)) ((x : Nat) : Int) = some (rT K (o.2.getD x (0, 1))) := fun x hx o ho => at_odd (by rw [(a.odds ho).2]; exact a.kn x hx)
      have hm : m ∈ ns := List.mem_of_getElem? e
      refine lc_fil lots (fun l => cellT l.1 l.2) (fun l => vl (.ref l.1)) (fun l => decide (colF (outsOf (.luck os)) (l.2.headD 0).toNat = colF (outsOf (.luck os)) m)) (by omega) (fun l hl => ?_) ?_
      · obtain ⟨hh, tt, el, hmem⟩ := heads l hl
        intro s H C0 cl fp
        refine lg_name (i := 6) ?_ sc_lclasses.nd
        intro s H C0 cl fp
        refine lt_cmp (op_eqD (ru hr)) <| le_lc (own := [("one", 7)]) (li_tup <| le_ix <| le_ix <| le_fld <| le_var (i := 0) rfl ⟨_, _, _, rfl, yc.c, yc.n2, rfl, le_var (i := 1) rfl ⟨_, _, rowF K (.luck os), .inl rfl, rfl, atRow a.row, le_int ⟨_, _, tupT K (os.map (outF K)), .inl rfl, rfl, rfl, _, rfl, ?_⟩⟩⟩) (bk2 (by decide +kernel)) sc_lclasses.nd
        refine lc_map os (outF K) (fun o => rT K (o.2.getD hh (0, 1))) (by omega) (fun o ho => ?_) ?_
        · intro s H C0 cl fp
          refine lg_name (i := 7) ?_ sc_lclasses.nd
          intro s H C0 cl fp
          refine le_ix <| le_ix <| le_var (i := 7) rfl <| le_int ⟨_, _, tupT K (o.2.map (rT K)), .inl rfl, rfl, rfl, le_ix <| le_imp <| le_var (i := 6) rfl ⟨_, fun H v q => cell_lst q, le_int ⟨_, _, nT hh, .inr rfl, rfl, by rw [el]; exact at0, ?_⟩⟩⟩
          exact ⟨_, _, _, .inl rfl, rfl, colw hh hmem o ho, rfl, rfl⟩
        · refine le_lc (own := [("one", 7)]) (li_tup <| le_ix <| le_ix <| le_fld <| le_var (i := 0) rfl ⟨_, _, _, rfl, yc.c, yc.n2, rfl, le_var (i := 1) rfl ⟨_, _, rowF K (.luck os), .inl rfl, rfl, atRow a.row, le_int ⟨_, _, tupT K (os.map (outF K)), .inl rfl, rfl, rfl, _, rfl, ?_⟩⟩⟩) (bk2 (by decide +kernel)) sc_lclasses.nd
          refine lc_map os (outF K) (fun o => rT K (o.2.getD m (0, 1))) (by omega) (fun o ho => ?_) ?_
          · intro s H C0 cl fp
            refine lg_name (i := 7) ?_ sc_lclasses.nd
            intro s H C0 cl fp
            exact le_ix <| le_ix <| le_var (i := 7) rfl <| le_int ⟨_, _, tupT K (o.2.map (rT K)), .inl rfl, rfl, rfl, le_var (i := 4) rfl ⟨_, _, _, .inl rfl, rfl, colw m hm o ho, rfl, rfl⟩⟩
          · have ce : ∀ x, lstT (os.map fun o => rT K (o.2.getD x (0, 1))) = tD K (colF (outsOf (.luck os)) x) := fun x => by
              rw [← col_tD]
              unfold colF
              rw [List.map_map]; rfl
            rw [ce, ce]
            refine lr_eqT ⟨_, rfl, ?_, rfl, fun _ => ?_⟩
            · rw [el]; rfl
            · intro s H C0 cl fp
              exact le_imp <| le_var (i := 6) rfl ⟨vl (.ref l.1), fun H v q => q.1, rfl, rfl⟩
      · refine ⟨⟨(likeL (.luck os) m lots).map fun l => V.ref l.1, by rw [List.map_map]; rfl⟩, ?_⟩
        by_cases hk : keyOf (colF (outsOf (.luck os)) m) ∈ (clsOf (.luck os) (ns.take i)).map Prod.fst
        · obtain ⟨as, l, bs, q1, q2, q3⟩ := like_one rel ok b1 hk
          have q2 : (lots.filter fun l => decide (colF (outsOf (.luck os)) (l.2.headD 0).toNat = colF (outsOf (.luck os)) m)) = [l] := q2
          rw [q2]
          have lm : l ∈ lots := by rw [q1]; simp
          have l2 : l.2.length ≤ 1000 := by
            have : ∀ {lots : List Lot} {cls : Cls'}, LotsR lots cls → (∀ c ∈ cls, c.2.length ≤ 1000) → ∀ l ∈ lots, l.2.length ≤ 1000 := by
              intro lots cls q
              induction q with
              | nil => intro _ l hl; cases hl
              | cons e t ih =>
                intro hc l hl
                rcases List.mem_cons.mp hl with rfl | hl
                · rw [e]; exact hc _ List.mem_cons_self
                · exact ih (fun c z => hc c (List.mem_cons_of_mem _ z)) l hl
            exact this rel (fun c hc => by have := b3 c hc; omega) l lm
          refine gb_cons <| g1_ifNeP (ru hr) (le_var (i := 5) rfl ⟨shs _ _ (noq _) (noq _), le_lst <| la_nil ⟨zl (n := 0), shs _ _ (noq _) (noq _), .list [.list (l.2.map PyData.int)], .list [], lay_shaped ([l.2] : List (List Int)) (by decide), (by decide), ?_, rfl, ?_⟩⟩)
          · rintro Hs Pv H va ⟨f1, f2, f3, f4⟩ ⟨c, vs, rfl, hl, ha⟩ w0 w1
            cases ha with
            | cons r1 r2 =>
              cases r2
              cases (show _ = V.ref l.1 from r1)
              have di : ∀ ks : List Int, DpAll K H (ks.map V.int) (ks.map PyData.int) := by
                intro ks
                induction ks with
                | nil => exact .nil
                | cons k ks ih => exact .cons (.int k) ih
              exact .lst (SqL.of (w0 _ _ hl)) (.cons (.lst (SqL.of (w1 _ _ (f2 l lm))) (di l.2)) .nil)
          · show GB _ _ _ _ _ _
            refine gb_cons <| g1_appendP (le_ix <| le_var (i := 5) rfl <| le_int ⟨_, _, vl (.ref l.1), .inr rfl, rfl, at0, l.1, rfl, shs _ _ (noq _) (noq _), fun Hs Pv ⟨_, f2, _⟩ => ⟨_, f2 l lm⟩, le_var (i := 4) rfl ⟨.int m, lawF d (as ++ (l.1, l.2 ++ [(m : Int)]) :: bs), rfl, shs _ _ (noq _) (noq _), ?_, gb_nil <| gb_nil ?_⟩⟩)
            · rintro Hs Pv xs ⟨f1, f2, f3, f4⟩ hx
              rw [f2 l lm] at hx
              cases hx
              refine ⟨by rw [List.length_map]; omega, ?_⟩
              have fsts : (as ++ (l.1, l.2 ++ [(m : Int)]) :: bs).map Prod.fst = lots.map Prod.fst := by rw [q1, List.map_append, List.map_append]; rfl
              have dl : d ≠ l.1 := fun z => f4 (by rw [z]; exact List.mem_map.mpr ⟨l, lm, rfl⟩)
              refine ⟨?_, fun l' hl' => ?_, by rw [fsts]; exact f3, by rw [fsts]; exact f4⟩
              · rw [upd_ne dl, f1, q1]
                simp
              · have nd := f3
                rw [q1, List.map_append, List.map_cons] at nd
                obtain ⟨_, nb, nab⟩ := List.nodup_append.mp nd
                obtain ⟨n1, _⟩ := List.nodup_cons.mp nb
                have oth : ∀ l' ∈ as ++ bs, l'.1 ≠ l.1 := fun l' h z => (List.mem_append.mp h).elim (fun h => nab _ (List.mem_map.mpr ⟨l', h, rfl⟩) _ List.mem_cons_self z) fun h => n1 (by rw [← z]; exact List.mem_map.mpr ⟨l', h, rfl⟩)
                rcases List.mem_append.mp hl' with h | h
                · rw [upd_ne (oth l' (List.mem_append_left _ h))]; exact f2 l' (by rw [q1]; exact List.mem_append_left _ h)
                · rcases List.mem_cons.mp h with rfl | h
                  · show upd Pv l.1 _ l.1 = _
                    rw [upd_same, List.map_append]; rfl
                  · rw [upd_ne (oth l' (List.mem_append_right _ h))]; exact f2 l' (by rw [q1]; exact List.mem_append_right _ (List.mem_cons_of_mem _ h))
            · refine ⟨_, _, _, noq _, noq _, rfl, rfl, ?_⟩
              rw [take_snoc e, clsOf_snoc]
              unfold addC
              rw [if_pos hk]
              exact q3
        · have q2 : (lots.filter fun l => decide (colF (outsOf (.luck os)) (l.2.headD 0).toNat = colF (outsOf (.luck os)) m)) = [] := like_none rel ok hk
          rw [q2]
          refine gb_cons <| g1_ifNeP (ru hr) (le_var (i := 5) rfl ⟨shs _ _ (noq _) (noq _), le_lst <| la_nil ⟨zl (n := 0), shs _ _ (noq _) (noq _), .list [], .list [], (by decide), (by decide), ?_, rfl, ?_⟩⟩)
          · rintro Hs Pv H va _ r w0 _
            exact th_dp ((th K (.list [])).mono w0 r)
          · show GB _ _ _ _ _ _
            refine gb_cons <| g1_appendN (F := lawF d lots) (d := d) 3 rfl (fun Hs Pv f => ⟨_, f.1⟩) (la_cons <| le_var (i := 4) rfl <| la_nil ⟨[.int m], rfl, zl (n := 1), shs _ _ (noq _) (noq _), fun p => ⟨lawF d (lots ++ [(p, [(m : Int)])]), ?_, gb_nil <| gb_nil ?_⟩⟩)
            · rintro Hs Pv xs ⟨f1, f2, f3, f4⟩ hx hp
              rw [f1] at hx
              cases hx
              have dp : d ≠ p := fun z => by rw [z, hp] at f1; cases f1
              have lp : ∀ l ∈ lots, l.1 ≠ p := fun l hl z => by have := f2 l hl; rw [z, hp] at this; cases this
              refine ⟨by rw [List.length_map]; omega, by rw [upd_same, List.map_append]; rfl, fun l hl => ?_, ?_, ?_⟩
              · rcases List.mem_append.mp hl with hl | hl
                · rw [upd_ne (fun z => f4 (by rw [← z]; exact List.mem_map.mpr ⟨l, hl, rfl⟩)), upd_ne (lp l hl)]; exact f2 l hl
                · cases List.mem_singleton.mp hl
                  show upd _ d _ p = _
                  rw [upd_ne dp.symm, upd_same]; rfl
              · rw [List.map_append, List.nodup_append]
                refine ⟨f3, by simp, fun x hx y hy z => ?_⟩
                rw [List.map_cons, List.map_nil, List.mem_singleton] at hy
                obtain ⟨l, hl, rfl⟩ := List.mem_map.mp hx
                exact lp l hl (z.trans hy)
              · rw [List.map_append]
                intro z
                rcases List.mem_append.mp z with z | z
                · exact f4 z
                · exact dp (List.mem_singleton.mp z)
            · refine ⟨_, _, _, noq _, noq _, rfl, rfl, ?_⟩
              rw [take_snoc e, clsOf_snoc]
              unfold addC
              rw [if_neg hk]
              exact Paired.snoc rel rfl
  · rintro S2 F2 ⟨q4, q5, lots, h4, h5, rfl, rfl, rel⟩
    rw [List.length_map, List.take_length] at rel
    obtain ⟨b1, b2, b3⟩ := clsOf_all (r := .luck os) ns
    have ll : lots.length ≤ 1000 := by rw [Paired.length rel]; omega
    refine gb_share 3 (R := lstT (lots.map fun l => lstT (l.2.map iT))) rfl (fun Hs Pv HL ⟨f1, f2, _⟩ w0 w1 => ⟨d, _, rfl, w1 _ _ f1, ?_⟩) ?_
    · have : ∀ (ls : List Lot), (∀ l ∈ ls, Pv l.1 = some (.lst (l.2.map V.int))) → Alls HL (ls.map fun l => lstT (l.2.map iT)) (ls.map fun l => V.ref l.1) := by
        intro ls
        induction ls with
        | nil => exact fun _ => .nil
        | cons l ls ih => exact fun q => .cons ⟨_, _, rfl, w1 _ _ (q l List.mem_cons_self), alls_of_ints⟩ (ih fun l' hl => q l' (List.mem_cons_of_mem _ hl))
      exact this lots f2
    refine lb_cons <| l1_ret <| le_lc (own := [("lot", 6)]) (li_lst (le_var (i := 3) rfl ⟨_, rfl, ?_⟩)) (bk (by decide +kernel)) sc_lclasses.nd
    refine lc_map lots (fun l => lstT (l.2.map iT)) (fun l => tupT K (l.2.map iT)) (by omega) (fun l hl => ?_) ?_
    · intro s H C0 cl fp
      refine lg_name (i := 6) ?_ sc_lclasses.nd
      intro s H C0 cl fp
      exact le_ct call_tuple_of h1 (by decide +kernel) <| la_cons <| le_var (i := 6) rfl <| la_nil <| rc_tuple (.inr rfl) ⟨rfl, rfl⟩
    · show lstT _ = lstT _
      rw [← lotsR_snd rel, List.map_map]; rfl
end
end DL
set_option Elab.async false
set_option linter.all false
set_option maxRecDepth 100000
set_option maxHeartbeats 4000000
/-! what _law_stays computes is whether there is a good set with the goal -/
namespace DL
open PySem PySem.Spec L2
open PyProof.Rows hiding St
theorem perm_of_sub : ∀ {a b : List Nat}, a.Nodup → (∀ x ∈ a, x ∈ b) → b.length ≤ a.length → a.Perm b
  | [], b, _, _, h => by
    have : b = [] := List.length_eq_zero_iff.mp (Nat.le_zero.mp h)
    rw [this]
  | x :: a, b, n, s, h => by
    obtain ⟨n1, n2⟩ := List.nodup_cons.mp n
    have hx := s x List.mem_cons_self
    have ih := perm_of_sub (a := a) (b := b.erase x) n2 (fun z hz => (List.mem_erase_of_ne (fun e => n1 (by rw [← e]; exact hz))).mpr (s z (List.mem_cons_of_mem _ hz))) (by
      rw [List.length_erase_of_mem hx]
      rw [List.length_cons] at h
      omega)
    exact (ih.cons x).trans (List.perm_cons_erase hx).symm
section
variable (y : YardD) (ns : List Nat) (goal : Nat)
def tgtF (s : Nat) : List Nat := (keptF (rowAt y s) ns).map Prod.snd
/-- those of a lot at which one stays in it: luck first -/
def stL (lot : List Nat) : List Nat := lot.filter fun s => decide (kindS (rowAt y s) = "luck") && (tgtF y ns s).all fun t => decide (t ∈ lot)
def stM (lot : List Nat) : List Nat := lot.filter fun s => decide (kindS (rowAt y s) = "mine") && (tgtF y ns s).any fun t => decide (t ∈ lot)
def stB (lot : List Nat) : List Nat := stL y ns lot ++ stM y ns lot
/-- from which the goal is come to, in so many rounds -/
def thF (st : List Nat) : Nat → List Nat
  | 0 => if goal ∈ st then [goal] else []
  | k + 1 => thF st k ++ st.filter fun s => !decide (s ∈ thF st k) && (tgtF y ns s).any fun t => decide (t ∈ thF st k)
end
section
variable {y : YardD} {ns : List Nat} {goal : Nat}
theorem stays_kind {X : Nat → Bool} {s : Nat} : stays y ns X s = ((decide (kindS (rowAt y s) = "luck") && (tgtF y ns s).all X) || (decide (kindS (rowAt y s) = "mine") && (tgtF y ns s).any X)) := by
  unfold stays tgtF
  rw [List.all_map, List.any_map]
  cases rowAt y s with
  | mine as =>
    show (keptF (.mine as) ns).any (fun p => X p.2) = ((decide ("mine" = "luck") && _) || (decide ("mine" = "mine") && _))
    rw [show (decide ("mine" = "luck")) = false from by decide, show (decide ("mine" = "mine")) = true from by decide, Bool.false_and, Bool.false_or, Bool.true_and]; rfl
  | luck os =>
    show (keptF (.luck os) ns).all (fun p => X p.2) = ((decide ("luck" = "luck") && _) || (decide ("luck" = "mine") && _))
    rw [show (decide ("luck" = "mine")) = false from by decide, show (decide ("luck" = "luck")) = true from by decide, Bool.false_and, Bool.or_false, Bool.true_and]; rfl
  | foe as =>
    show false = ((decide ("foe" = "luck") && _) || (decide ("foe" = "mine") && _))
    rw [show (decide ("foe" = "luck")) = false from by decide, show (decide ("foe" = "mine")) = false from by decide]; rfl
  | fin =>
    show false = ((decide ("end" = "luck") && _) || (decide ("end" = "mine") && _))
    rw [show (decide ("end" = "luck")) = false from by decide, show (decide ("end" = "mine")) = false from by decide]; rfl
theorem mem_stB {lot : List Nat} {s : Nat} : s ∈ stB y ns lot ↔ s ∈ lot ∧ stays y ns (fun t => decide (t ∈ lot)) s = true := by
  unfold stB stL stM
  rw [stays_kind, List.mem_append, List.mem_filter, List.mem_filter, Bool.or_eq_true]
  exact ⟨fun h => h.elim (fun h => ⟨h.1, .inl h.2⟩) fun h => ⟨h.1, .inr h.2⟩, fun ⟨h1, h2⟩ => h2.elim (fun h => .inl ⟨h1, h⟩) fun h => .inr ⟨h1, h⟩⟩
theorem stB_nodup {lot : List Nat} (h : lot.Nodup) : (stB y ns lot).Nodup := by
  unfold stB
  rw [List.nodup_append]
  refine ⟨h.filter _, h.filter _, fun a ha b hb e => ?_⟩
  subst e
  have h1 := (List.mem_filter.mp ha).2
  have h2 := (List.mem_filter.mp hb).2
  rw [Bool.and_eq_true] at h1 h2
  have e1 := of_decide_eq_true h1.1
  have e2 := of_decide_eq_true h2.1
  rw [e1] at e2
  exact absurd e2 (by decide)
theorem thF_sub {st : List Nat} : ∀ {k : Nat} {s : Nat}, s ∈ thF y ns goal st k → s ∈ st
  | 0, s, h => by
    unfold thF at h
    by_cases e : goal ∈ st
    · rw [if_pos e] at h; cases List.mem_singleton.mp h; exact e
    · rw [if_neg e] at h; cases h
  | k + 1, s, h => by
    unfold thF at h
    rcases List.mem_append.mp h with h | h
    · exact thF_sub h
    · exact (List.mem_filter.mp h).1
theorem thF_nodup {st : List Nat} (n : st.Nodup) : ∀ {k : Nat}, (thF y ns goal st k).Nodup
  | 0 => by
    unfold thF
    by_cases e : goal ∈ st
    · rw [if_pos e]; simp
    · rw [if_neg e]; exact List.nodup_nil
  | k + 1 => by
    unfold thF
    rw [List.nodup_append]
    refine ⟨thF_nodup n, n.filter _, fun a ha b hb e => ?_⟩
    subst e
    have := (List.mem_filter.mp hb).2
    rw [Bool.and_eq_true, decide_eq_true ha] at this
    cases this.1
theorem thF_goal {st : List Nat} : ∀ {k : Nat}, thF y ns goal st k ≠ [] → goal ∈ thF y ns goal st k
  | 0, h => by
    unfold thF at h ⊢
    by_cases e : goal ∈ st
    · rw [if_pos e]; exact List.mem_singleton.mpr rfl
    · rw [if_neg e] at h; exact absurd rfl h
  | k + 1, h => by
    by_cases e : thF y ns goal st k = []
    · exfalso
      refine h ?_
      show thF y ns goal st k ++ _ = _
      rw [e, List.nil_append]
      refine List.filter_eq_nil_iff.mpr fun s _ z => ?_
      rw [Bool.and_eq_true] at z
      obtain ⟨t, _, ht⟩ := List.any_eq_true.mp z.2
      exact absurd (of_decide_eq_true ht) (by simp)
    · exact List.mem_append_left _ (thF_goal e)
/-- nothing more comes -/
def Shut (y : YardD) (ns st th : List Nat) : Prop := ∀ s ∈ st, s ∉ th → ∀ t ∈ tgtF y ns s, t ∉ th
theorem thF_shut_stay {st : List Nat} {k : Nat} (h : Shut y ns st (thF y ns goal st k)) : thF y ns goal st (k + 1) = thF y ns goal st k := by
  show thF y ns goal st k ++ _ = _
  rw [List.filter_eq_nil_iff.mpr fun s hs z => ?_, List.append_nil]
  rw [Bool.and_eq_true] at z
  obtain ⟨t, ht, h2⟩ := List.any_eq_true.mp z.2
  have : s ∉ thF y ns goal st k := fun q => by rw [decide_eq_true q] at z; cases z.1
  exact h s hs this t ht (of_decide_eq_true h2)
theorem thF_grow {st : List Nat} (n : st.Nodup) : ∀ k, Shut y ns st (thF y ns goal st k) ∨ k + 1 ≤ (thF y ns goal st k).length
  | 0 => by
    by_cases e : goal ∈ st
    · refine .inr ?_
      unfold thF
      rw [if_pos e]; simp
    · refine .inl fun s _ _ t _ ht => ?_
      unfold thF at ht
      rw [if_neg e] at ht; cases ht
  | k + 1 => by
    rcases thF_grow n k with h | h
    · rw [thF_shut_stay h]; exact .inl h
    · by_cases hs : Shut y ns st (thF y ns goal st k)
      · rw [thF_shut_stay hs]; exact .inl hs
      · refine .inr ?_
        show _ ≤ (thF y ns goal st k ++ _).length
        rw [List.length_append]
        have : (st.filter fun s => !decide (s ∈ thF y ns goal st k) && (tgtF y ns s).any fun t => decide (t ∈ thF y ns goal st k)) ≠ [] := fun z => by
          refine hs fun s h1 h2 t h3 h4 => ?_
          have := List.filter_eq_nil_iff.mp z s h1
          refine this ?_
          rw [decide_eq_false h2, Bool.not_false, Bool.true_and]
          exact List.any_eq_true.mpr ⟨t, h3, decide_eq_true h4⟩
        have := List.length_pos_iff.mpr this
        omega
theorem thF_shut {st : List Nat} (n : st.Nodup) : Shut y ns st (thF y ns goal st st.length) := by
  rcases thF_grow (y := y) (ns := ns) (goal := goal) n st.length with h | h
  · exact h
  · have := nodup_len (thF_nodup (y := y) (ns := ns) (goal := goal) n (k := st.length)) fun x hx => thF_sub hx
    omega
/-- who is there has a way to the goal -/
theorem thF_way {st : List Nat} : ∀ (k : Nat), ∃ ρ : Nat → Nat, (∀ s ∈ thF y ns goal st k, s = goal ∨ ∃ t ∈ tgtF y ns s, t ∈ thF y ns goal st k ∧ ρ t < ρ s) ∧ ∀ s ∈ thF y ns goal st k, ρ s ≤ k
  | 0 => by
    refine ⟨fun _ => 0, fun s hs => .inl ?_, fun _ _ => Nat.le_refl _⟩
    unfold thF at hs
    by_cases e : goal ∈ st
    · rw [if_pos e] at hs; exact List.mem_singleton.mp hs
    · rw [if_neg e] at hs; cases hs
  | k + 1 => by
    obtain ⟨ρ, h1, h2⟩ := thF_way (st := st) k
    have e : ∀ s, s ∈ thF y ns goal st (k + 1) ↔ s ∈ thF y ns goal st k ∨ s ∈ st.filter fun s => !decide (s ∈ thF y ns goal st k) && (tgtF y ns s).any fun t => decide (t ∈ thF y ns goal st k) := fun s => List.mem_append
    refine ⟨fun s => if s ∈ thF y ns goal st k then ρ s else k + 1, fun s hs => ?_, fun s hs => ?_⟩
    · by_cases hk : s ∈ thF y ns goal st k
      · rcases h1 s hk with h | ⟨t, q1, q2, q3⟩
        · exact .inl h
        · refine .inr ⟨t, q1, (e t).mpr (.inl q2), ?_⟩
          dsimp only
          rw [if_pos q2, if_pos hk]; exact q3
      · rcases (e s).mp hs with h | h
        · exact absurd h hk
        · have := (List.mem_filter.mp h).2
          rw [Bool.and_eq_true] at this
          obtain ⟨t, q1, q2⟩ := List.any_eq_true.mp this.2
          have q2 := of_decide_eq_true q2
          refine .inr ⟨t, q1, (e t).mpr (.inl q2), ?_⟩
          dsimp only
          rw [if_pos q2, if_neg hk]
          have := h2 t q2
          omega
    · show (if s ∈ thF y ns goal st k then ρ s else k + 1) ≤ k + 1
      by_cases hk : s ∈ thF y ns goal st k
      · rw [if_pos hk]; have := h2 s hk; omega
      · rw [if_neg hk]; omega
/-- what is left behind a lap -/
abbrev nextLot (y : YardD) (ns : List Nat) (goal : Nat) (lot : List Nat) : List Nat := thF y ns goal (stB y ns lot) (stB y ns lot).length
theorem next_sub {lot : List Nat} {s : Nat} (h : s ∈ nextLot y ns goal lot) : s ∈ lot := (mem_stB.mp (thF_sub h)).1
theorem next_nodup {lot : List Nat} (h : lot.Nodup) : (nextLot y ns goal lot).Nodup := thF_nodup (stB_nodup h)
theorem good_next {lot : List Nat} {T : Nat → Bool} (g : Good y ns goal T) (hg : T goal = true) (n : lot.Nodup) (h : ∀ s, T s = true → s ∈ lot) : ∀ s, T s = true → s ∈ nextLot y ns goal lot := by
  have inst : ∀ s, T s = true → s ∈ stB y ns lot := fun s hs => mem_stB.mpr ⟨h s hs, stayF_mono (fun t ht => decide_eq_true (h t ht)) (g.st s hs)⟩
  have shut := thF_shut (y := y) (ns := ns) (goal := goal) (stB_nodup (y := y) (ns := ns) n)
  have gin : goal ∈ nextLot y ns goal lot := by
    have : ∀ k, goal ∈ thF y ns goal (stB y ns lot) k := by
      intro k
      induction k with
      | zero => unfold thF; rw [if_pos (inst goal hg)]; exact List.mem_singleton.mpr rfl
      | succ k ih => exact List.mem_append_left _ ih
    exact this _
  obtain ⟨ρ, hρ⟩ := g.go
  have main : ∀ m s, ρ s ≤ m → T s = true → s ∈ nextLot y ns goal lot := by
    intro m
    induction m with
    | zero =>
      intro s hs ht
      rcases hρ s ht with rfl | ⟨p, _, _, hl⟩
      · exact gin
      · omega
    | succ m ih =>
      intro s hs ht
      rcases hρ s ht with rfl | ⟨p, hp, ht', hl⟩
      · exact gin
      · have := ih p.2 (by omega) ht'
        exact Decidable.byContradiction fun hn => shut s (inst s ht) hn p.2 (List.mem_map.mpr ⟨p, hp, rfl⟩) this
  exact fun s => main (ρ s) s (Nat.le_refl _)
/-- the last lap: all stay -/
theorem last_good {lot : List Nat} (lt : ∀ s ∈ lot, s < y.rows.length) (hp : (nextLot y ns goal lot).Perm lot) (hne : lot ≠ []) : ∃ T, Good y ns goal T ∧ T goal = true := by
  have all : ∀ s ∈ lot, s ∈ nextLot y ns goal lot := fun s hs => hp.mem_iff.mpr hs
  have ne : nextLot y ns goal lot ≠ [] := fun z => hne (by rw [z] at hp; exact List.nil_perm.mp hp)
  have gin : goal ∈ lot := hp.mem_iff.mp (thF_goal ne)
  obtain ⟨ρ, h1, _⟩ := thF_way (y := y) (ns := ns) (goal := goal) (st := stB y ns lot) (stB y ns lot).length
  refine ⟨fun s => decide (s ∈ lot), ⟨fun s hs => lt s (of_decide_eq_true hs), fun s hs => ?_, ρ, fun s hs => ?_⟩, decide_eq_true gin⟩
  · exact (mem_stB.mp (thF_sub (all s (of_decide_eq_true hs)))).2
  · rcases h1 s (all s (of_decide_eq_true hs)) with h | ⟨t, q1, q2, q3⟩
    · exact .inl h
    · obtain ⟨p, hp', rfl⟩ := List.mem_map.mp q1
      exact .inr ⟨p, hp', decide_eq_true (next_sub q2), q3⟩
end
end DL
set_option Elab.async false
set_option linter.all false
set_option maxRecDepth 100000
set_option maxHeartbeats 4000000
/-! dict(pairs), in over ints, == [] -/
namespace DL
open PySem PySem.Spec L2
open PyProof.Rows hiding St
theorem merge_new : ∀ {more kvs : List (Key × V)}, ((kvs ++ more).map Prod.fst).Nodup → mergeK kvs more = kvs ++ more
  | [], kvs, _ => by rw [List.append_nil]; rfl
  | p :: more, kvs, h => by
    have hp : ¬ (kvs.any fun kv => decide (kv.1 = p.1)) = true := fun z => by
      obtain ⟨q, hq, e⟩ := List.any_eq_true.mp z
      rw [List.map_append, List.map_cons, List.nodup_append] at h
      exact h.2.2 _ (List.mem_map.mpr ⟨q, hq, rfl⟩) _ List.mem_cons_self (of_decide_eq_true e)
    have e : putK kvs p.1 p.2 = kvs ++ [p] := by
      unfold putK
      rw [if_neg hp]
    show mergeK (putK kvs p.1 p.2) more = _
    rw [e, merge_new (by rw [List.append_assoc]; exact h), List.append_assoc]; rfl
section
variable {X : Cx} {pn : Option Addr} {S : LSt} {P : Th → LSt → Prop}
/-- dict(xs) of a list of pairs, their keys unlike -/
theorem rc_dictP {α : Type} {ds : List α} {key : α → Key} {g : α → Th} (hn : (ds.map key).Nodup) (q : P (dicT (ds.map fun d => (key d, g d))) S) :
    LRC X pn (fun xs H Q => ∃ (a : Addr) (ps : List Addr) (kvs : List (Key × V)), xs = [.ref a] ∧ SqL X.K H a (ps.map V.ref) ∧ Paired (fun p kv => SqT X.K H p [kV kv.1, kv.2]) ps kvs ∧ ∀ p, H p = none → Q (.ref p) (upd H p (.dK (mergeK [] kvs)))) [lstT (ds.map fun d => tupT X.K [vl (kV (key d)), g d])] S P := by
  intro B Hs σ H vs o r1 Q k
  cases r1 with
  | cons r1 r2 =>
    cases r2
    obtain ⟨a, ws, rfl, h2, h3⟩ := r1
    have : ∀ {ds : List α} {ws : List V}, Alls Hs (ds.map fun d => tupT X.K [vl (kV (key d)), g d]) ws → ∃ (ps : List Addr) (kvs : List (Key × V)), ws = ps.map V.ref ∧ Paired (fun p kv => SqT X.K H p [kV kv.1, kv.2]) ps kvs ∧ KAll Hs (ds.map fun d => (key d, g d)) kvs := by
      intro ds
      induction ds with
      | nil => intro ws h; cases h; exact ⟨[], [], rfl, .nil, .nil⟩
      | cons d ds ih =>
        intro ws h
        cases h with
        | cons r t =>
          obtain ⟨p, us, rfl, q1, q2⟩ := r
          cases q2 with
          | cons s1 q2 =>
            cases q2 with
            | cons s2 q2 =>
              cases q2
              cases (show _ = kV (key d) from s1)
              obtain ⟨ps, kvs, rfl, q3, q4⟩ := ih t
              exact ⟨p :: ps, (key d, _) :: kvs, rfl, .cons (sqT_mono o.w q1) q3, .cons ⟨rfl, s2⟩ q4⟩
    obtain ⟨ps, kvs, rfl, q3, q4⟩ := this h3
    refine ⟨a, ps, kvs, rfl, SqL.of (o.w _ _ h2), q3, fun p hp => ?_⟩
    have keys : kvs.map Prod.fst = ds.map key := by
      have : ∀ {ks : List (Key × Th)} {ws : List (Key × V)}, KAll Hs ks ws → ws.map Prod.fst = ks.map Prod.fst := by
        intro ks ws h
        induction h with
        | nil => rfl
        | cons r t ih => rw [List.map_cons, List.map_cons, ih, r.1]
      rw [this q4, List.map_map]; rfl
    rw [merge_new (by rw [List.nil_append, keys]; exact hn), List.nil_append]
    have w := Same.upd (o := .dK kvs) (o.w.free hp)
    exact k _ S _ _ _ q (o.new hp) w ⟨p, kvs, rfl, .inl upd_same, q4.mono w⟩
theorem flat_ints (js : List Nat) : (js.map fun (n : Nat) => V.int n).all flatV = true := List.all_eq_true.mpr fun x hx => by
  obtain ⟨n, _, rfl⟩ := List.mem_map.mp hx; rfl
theorem inV_nats (i : Nat) (js : List Nat) : inV (.int i) (js.map fun (n : Nat) => V.int n) = decide (i ∈ js) := by
  have := inV_ints (i : Int) (js.map fun (n : Nat) => (n : Int))
  rw [List.map_map] at this
  rw [show (js.map fun (n : Nat) => V.int n) = js.map (V.int ∘ fun (n : Nat) => (n : Int)) from rfl, this]
  refine decide_eq_decide.mpr ⟨fun h => ?_, fun h => List.mem_map.mpr ⟨i, h, rfl⟩⟩
  obtain ⟨n, hn, e⟩ := List.mem_map.mp h
  rw [← Int.ofNat.inj e]; exact hn
theorem lr_inN {i : Nat} {js : List Nat} (q : P (vl (.bl (decide (i ∈ js)))) S) : LR2 X pn (rIn X.K false) (vl (.int i)) (lstT (js.map fun (n : Nat) => vl (.int n))) S P := by
  rw [show (js.map fun (n : Nat) => vl (.int n)) = (js.map fun (n : Nat) => V.int n).map vl by rw [List.map_map]; rfl]
  exact lr_in (.inr rfl) rfl (flat_ints js) (by rw [inV_nats]; exact q)
theorem lr_ninN {i : Nat} {js : List Nat} (q : P (vl (.bl (!decide (i ∈ js)))) S) : LR2 X pn (rIn X.K true) (vl (.int i)) (lstT (js.map fun (n : Nat) => vl (.int n))) S P := by
  rw [show (js.map fun (n : Nat) => vl (.int n)) = (js.map fun (n : Nat) => V.int n).map vl by rw [List.map_map]; rfl]
  exact lr_notIn (.inr rfl) rfl (flat_ints js) (by rw [inV_nats]; exact q)
end
end DL
set_option Elab.async false
set_option linter.all false
set_option maxRecDepth 100000
set_option maxHeartbeats 4000000
namespace DL
open PySem PySem.Spec L2
open PyProof.Rows hiding St
open PySem.W (Datum Tup)
/-- the keys of the law's table -/
def keyTab (ns : List Nat) (i : Nat) : NestedKey := .tup [.num i, .tup (ns.map fun (n : Nat) => .num n)]
theorem keyTab_data (ns : List Nat) (i : Nat) : (keyTab ns i).data = .tuple [.int i, .tuple (ns.map fun (n : Nat) => PyData.int n)] := by
  unfold keyTab
  rw [NestedKey.data, NestedKey.datas, NestedKey.datas, NestedKey.datas, NestedKey.data, NestedKey.data]
  congr 4
  induction ns with
  | nil => rw [List.map_nil, NestedKey.datas]; rfl
  | cons n ns ih => rw [List.map_cons, NestedKey.datas, ih, NestedKey.data]; rfl
theorem keyTab_th (K : PySem.W.Frag) (ns : List Nat) (i : Nat) : th K (keyTab ns i).data = tupT K [nT i, kT K ns] := by
  rw [keyTab_data]
  show tupT K [nT i, tupT K (ths K (ns.map fun (n : Nat) => PyData.int n))] = _
  rw [ths_map, List.map_map]; rfl
theorem keyTab_depth (ns : List Nat) (i : Nat) : (keyTab ns i).depth ≤ 8 := by
  unfold keyTab
  rw [NestedKey.depth, NestedKey.depthAll, NestedKey.depthAll, NestedKey.depthAll, NestedKey.depth, NestedKey.depth]
  have : NestedKey.depthAll (ns.map fun (n : Nat) => NestedKey.num n) = 0 := by
    induction ns with
    | nil => rw [List.map_nil, NestedKey.depthAll]
    | cons n ns ih => rw [List.map_cons, NestedKey.depthAll, ih, NestedKey.depth]; rfl
  omega
theorem keyTab_inj {ns : List Nat} {i j : Nat} (h : keyTab ns i = keyTab ns j) : i = j := by
  unfold keyTab at h
  injection h with h
  injection h with h _
  injection h with h
  omega
/-- a row of the table -/
abbrev tgT (K : PySem.W.Frag) (e : Edge) : Th := tupT K [nT e.2.1, kT K e.2.2]
def tabV (K : PySem.W.Frag) (y : YardD) (ns : List Nat) (i : Nat) : Th := tupT K [sT (kindS (rowAt y i)), lstT ((behF (rowAt y i) ns).map (tgT K))]
def tabL (K : PySem.W.Frag) (y : YardD) (ns : List Nat) (is : List Nat) : List (NestedKey × Th) := is.map fun i => (keyTab ns i, tabV K y ns i)
theorem look_tab {K : PySem.W.Frag} {y : YardD} {ns : List Nat} {i : Nat} : ∀ {is : List Nat}, i ∈ is → lookN (tabL K y ns is) (keyTab ns i) = some (tabV K y ns i)
  | [], h => by cases h
  | j :: is, h => by
    unfold lookN tabL
    rw [List.map_cons, List.find?_cons]
    by_cases e : j = i
    · subst e; rw [show decide ((keyTab ns j, tabV K y ns j).1 = keyTab ns j) = true from decide_eq_true rfl]; rfl
    · rw [show decide ((keyTab ns j, tabV K y ns j).1 = keyTab ns i) = false from decide_eq_false fun z => e (keyTab_inj z)]
      exact look_tab ((List.mem_cons.mp h).resolve_left fun z => e z.symm)
theorem tgt_eq {y : YardD} {ns : List Nat} {s : Nat} : (((behF (rowAt y s) ns).filter fun e => decide (e.2.2 = ns)).map fun e => nT e.2.1) = (tgtF y ns s).map nT := by
  unfold tgtF keptF
  rw [List.map_map, List.map_map]; rfl
theorem tgt_len {y : YardD} {ns : List Nat} {s : Nat} (sm : Sm y ns) (h : s < y.rows.length) : (tgtF y ns s).length ≤ 6 := by
  unfold tgtF
  rw [List.length_map]
  exact kept_len (sm.at h)
abbrev tgD (y : YardD) (ns : List Nat) (lot : List Nat) : Th := dicT (lot.map fun s => (nK s, lstT ((tgtF y ns s).map nT)))
theorem look_tgt {y : YardD} {ns : List Nat} {s : Nat} : ∀ {lot : List Nat}, s ∈ lot → lookT (lot.map fun s => (nK s, lstT ((tgtF y ns s).map nT))) (nK s) = some (lstT ((tgtF y ns s).map nT))
  | [], h => by cases h
  | j :: lot, h => by
    unfold lookT
    rw [List.map_cons, List.find?_cons]
    by_cases e : j = s
    · subst e
      rw [show decide ((nK j, lstT ((tgtF y ns j).map nT)).1 = nK j) = true from decide_eq_true rfl]; rfl
    · rw [show decide ((nK j, lstT ((tgtF y ns j).map nT)).1 = nK s) = false from decide_eq_false fun z => e (nK_inj.mp z)]
      exact look_tgt ((List.mem_cons.mp h).resolve_left fun z => e z.symm)
theorem lr_eqE {X : Cx} {pn : Option Addr} {S : LSt} {Q : Th → LSt → Prop} {ds : List PyData} (h : SeqAt.shaped (.list ds) = true) (q : Q (vl (.bl ds.isEmpty)) S) : LR2 X pn (rEqD X.K) (lstT (ths X.K ds)) (lstT []) S Q := by
  refine lr_eqD (d := .list ds) (d' := .list []) h (by decide) ?_
  cases ds with
  | nil => exact q
  | cons d ds => exact q
theorem filt_all {α : Type} (t : α → Bool) : ∀ l : List α, ((l.filter fun x => !t x).map fun _ => PyData.int 1).isEmpty = l.all t
  | [] => rfl
  | x :: l => by
    have ih := filt_all t l
    rw [List.filter_cons, List.all_cons, ← ih]
    cases t x <;> rfl
theorem rc_sortedN {X : Cx} {pn : Option Addr} {S : LSt} {Q : Th → LSt → Prop} {ns : List Nat} (q : Q (lstT ((sortI (ns.map fun (n : Nat) => (n : Int))).map iT)) S) : LRC X pn (rSortedI X.K) [lstT (ns.map nT)] S Q := by
  rw [nts]
  exact rc_sortedL q
/-- an answer by another name -/
theorem le_as {X : Cx} {pn : Option Addr} {e : Expr} {S : LSt} {Q : Th → LSt → Prop} (R0 : Th) (h : LE X pn e S fun R S1 => R = R0 ∧ S1 = S) (q : Q R0 S) : LE X pn e S Q := h.mono fun R S1 ⟨e1, e2⟩ => by rw [e1, e2]; exact q
theorem ints_tD (K : PySem.W.Frag) (ks : List Int) : lstT (ks.map iT) = tD K ks := by
  show lstT _ = lstT (ths K _)
  rw [ths_map, List.map_map]; rfl
theorem sort_perm {a b : List Nat} (h : sortI (a.map fun (n : Nat) => (n : Int)) = sortI (b.map fun (n : Nat) => (n : Int))) : a.Perm b := by
  have h1 := (sortI_perm (a.map fun (n : Nat) => (n : Int))).symm.trans (h ▸ sortI_perm (b.map fun (n : Nat) => (n : Int)))
  have h2 := h1.map Int.toNat
  rw [List.map_map, List.map_map] at h2
  have e : ∀ l : List Nat, l.map (Int.toNat ∘ fun (n : Nat) => (n : Int)) = l := fun l => (List.map_congr_left fun n _ => Int.toNat_natCast n).trans (List.map_id _)
  rwa [e, e] at h2
section
variable {P : Program} {w : World} {K : PySem.W.Frag} {mg : Str → Option Value} {base : Heap} {f C : Addr} {fd : FuncData}
abbrev st_lstays : Stmt := top 82
abbrev lsN : List Str := ["table", "told", "state", "some", "lot", "lap", "kept", "one", "target", "later", "staying", "there", "turn"]
theorem sc_lstays : Scp lsN ["table", "told", "state", "some"] st_lstays := ⟨rfl, rfl, rfl, by decide +kernel, rfl, by decide +kernel, by decide +kernel⟩
def fLStays (P : Program) (w : World) (K : PySem.W.Frag) : PFn := fun Rs R => ∃ (y : YardD) (goal : Nat) (ns : List Nat), Rs = [ndT P w K (tabL K y ns (List.range y.rows.length)), kT K ns, nT goal, lstT ((List.range y.rows.length).map nT)] ∧ Sm y ns ∧
  R = exT (fun b : Bool => b = true ↔ ∃ T, Good y ns goal T ∧ T goal = true) bT
theorem kn_lstays (F : Fun K "_law_stays" "_law_stays" st_lstays f fd) (hm : mg "_law_stays" = some (.ref f)) (hb : Binds K fd ["table", "told", "state", "some"] []) (h1 : Blt mg "list") (h2 : Blt mg "range") (h3 : Blt mg "len") (h4 : Blt mg "dict") (h5 : Blt mg "sorted") :
    Kn P w K mg base 1 "_law_stays" (spP 4 (fLStays P w K)) := by
  refine kn_pure F hm hb sc_lstays rfl fun cdv A outer s H E Rs R hr h => ?_
  obtain ⟨y, goal, ns, rfl, sm, rfl⟩ := h
  have nr := sm.sm
  have nl := sm.l
  refine lb_cons <| l1_set (i := 4) (le_ct call_list_of h1 (by decide +kernel) <| la_cons <| le_var (i := 3) rfl <| la_nil <| rc_list (.inr rfl) ?_) sc_lstays.nd
  refine lb_cons <| l1_for [5] (li_range1 h2 (la_cons <| le_bin op_add <| le_cb call_len_seq h3 (by decide +kernel) <| la_cons <| le_var (i := 4) rfl <| la_nil <| rc_len (.inr rfl) <| le_int <| lr_I0 <| la_nil ⟨_, rfl, by rw [List.length_map, List.length_range]; omega, by rw [List.length_map, List.length_range]; omega, ?_⟩)) .never
  rw [List.length_map, List.length_range]
  refine ⟨fun i S => ∃ lot q5 q6 q10 q11 q12, S = ⟨[some (.sh (ndT P w K (tabL K y ns (List.range y.rows.length)))), some (.sh (kT K ns)), some (.sh (nT goal)), some (.sh (lstT ((List.range y.rows.length).map nT))), some (.sh (lstT (lot.map nT))), q5, q6, none, none, none, q10, q11, q12], 0⟩ ∧
    LotOk y lot ∧ lot.length + i ≤ y.rows.length ∧ ∀ T, Good y ns goal T → T goal = true → ∀ s, T s = true → s ∈ lot, ?_, ?_, ?_⟩
  · exact ⟨List.range y.rows.length, none, none, none, none, none, rfl, ⟨List.nodup_range, fun s h => List.mem_range.mp h⟩, by rw [List.length_range]; exact Nat.le_refl _, fun T g _ s hs => List.mem_range.mpr (g.lt s hs)⟩
  · rintro i R S2 hR ⟨lot, q5, q6, q10, q11, q12, rfl, lo, hl, inv⟩
    rw [List.getElem?_map] at hR
    cases e : (List.range ((y.rows.length : Int) + 2).toNat)[i]? with
    | none => rw [e] at hR; cases hR
    | some i' =>
      rw [e] at hR
      cases hR
      have ll : lot.length ≤ 60 := Nat.le_trans lo.len nr
      have inr : ∀ {x}, x ∈ lot → x ∈ List.range y.rows.length := fun h => List.mem_range.mpr (lo.lt _ h)
      refine lg_name (i := 5) ?_ sc_lstays.nd
      refine lb_cons <| l1_set (i := 6) (le_ct (call_dictP rfl) h4 (by decide +kernel) <| la_cons <| le_lc (own := [("one", 7)]) (li_lst (le_var (i := 4) rfl ⟨_, rfl, ?_⟩)) (bk (by decide +kernel)) sc_lstays.nd) sc_lstays.nd
      refine lc_map lot nT (fun s => tupT K [nT s, lstT ((tgtF y ns s).map nT)]) (by omega) (fun x hx => ?_) ?_
      · intro s H C0 cl fp
        refine lg_name (i := 7) ?_ sc_lstays.nd
        intro s H C0 cl fp
        refine le_tup <| la_cons <| le_var (i := 7) rfl <| la_cons <| le_lc (own := [("target", 8), ("later", 9)]) (li_lst <| le_ix <| le_ndget (hu := ru hr) <| le_var (i := 0) rfl <| le_tup <| la_cons <| le_var (i := 7) rfl <| la_cons <| le_var (i := 1) rfl <| la_nil ⟨zl (n := 2), keyTab ns x, _, tabV K y ns x, (keyTab_th K ns x).symm, ref_tup, rfl, look_tab (inr hx), keyTab_depth ns x, le_int ⟨_, _, lstT ((behF (rowAt y x) ns).map (tgT K)), .inl rfl, rfl, rfl, _, rfl, ?_⟩⟩) (bk2 (by decide +kernel)) sc_lstays.nd
        refine lc_fil (behF (rowAt y x) ns) (tgT K) (fun e => nT e.2.1) (fun e => decide (e.2.2 = ns)) (by have := beh_len (sm.at (lo.lt x hx)); omega) (fun e he => ?_) ?_
        · intro s H C0 cl fp
          refine lg_tup ⟨_, rfl, rfl, lgs_cons <| lg_name (i := 8) (lgs_cons <| lg_name (i := 9) (lgs_nil ?_) sc_lstays.nd) sc_lstays.nd⟩
          intro s H C0 cl fp
          refine lt_cmp (op_eqD (ru hr)) <| le_var (i := 9) rfl <| le_var (i := 1) rfl ?_
          rw [tT_k, tT_k]
          refine lr_eqT (x := (⟨e.2.2.map fun (n : Nat) => (n : Int)⟩ : Tup Int)) (y := (⟨ns.map fun (n : Nat) => (n : Int)⟩ : Tup Int)) ⟨_, rfl, iN_inj, rfl, fun _ => ?_⟩
          intro s H C0 cl fp
          exact le_var (i := 8) rfl ⟨rfl, rfl⟩
        · rw [tgt_eq]
          exact la_nil ⟨zl (n := 2), rfl, rfl⟩
      refine la_nil <| rc_dictP (ds := lot) (key := nK) (g := fun s => lstT ((tgtF y ns s).map nT)) (List.pairwise_map.mpr (lo.nd.imp fun h z => h (nK_inj.mp z))) ?_
      refine lb_cons <| l1_setLc (i := 10) (own := [("one", 7)]) (li_lst (le_var (i := 4) rfl ⟨_, rfl, ?_⟩)) (bk (by decide +kernel)) sc_lstays.nd (sw_true rfl rfl rfl (by decide +kernel))
      refine lc_fil lot nT nT (fun s => decide (kindS (rowAt y s) = "luck") && (tgtF y ns s).all fun t => decide (t ∈ lot)) (by omega) (fun x hx => ?_) ?_
      · have tl := tgt_len (ns := ns) sm (lo.lt x hx)
        intro s H C0 cl fp
        refine lg_name (i := 7) ?_ sc_lstays.nd
        intro s H C0 cl fp
        refine lt_ww <| lw_and <| lt_cmp op_eq <| le_ix <| le_ndget (hu := ru hr) <| le_var (i := 0) rfl <| le_tup <| la_cons <| le_var (i := 7) rfl <| la_cons <| le_var (i := 1) rfl <| la_nil ⟨zl (n := 2), keyTab ns x, _, tabV K y ns x, (keyTab_th K ns x).symm, ref_tup, rfl, look_tab (inr hx), keyTab_depth ns x, le_int ⟨_, _, sT (kindS (rowAt y x)), .inl rfl, rfl, rfl, le_str <| lr_eq rfl ⟨_, rfl, ite_b (fun hk => ?_) fun hk => ?_⟩⟩⟩
        · have hk : kindS (rowAt y x) = "luck" := by have := of_decide_eq_true hk; injection this
          refine lw_and1 <| lt_cmp (op_eqD (ru hr)) <| le_lc (own := [("target", 8)]) (li_lst <| le_dget (hr := hr) <| le_var (i := 6) rfl <| le_var (i := 7) rfl ⟨nK x, _, _, rfl, rfl, look_tgt hx, _, rfl, ?_⟩) (bk2 (by decide +kernel)) sc_lstays.nd
          refine lc_fil (tgtF y ns x) nT (fun _ => iT 1) (fun t => !decide (t ∈ lot)) (by omega) (fun t ht => ?_) ?_
          · intro s H C0 cl fp
            refine lg_name (i := 8) ?_ sc_lstays.nd
            intro s H C0 cl fp
            refine lt_cmp op_notIn_seq <| le_var (i := 8) rfl <| le_var (i := 4) rfl <| lr_ninN ⟨_, rfl, rfl, rfl, fun _ => ?_⟩
            intro s H C0 cl fp
            exact le_int ⟨rfl, rfl⟩
          · rw [ones_ths (K := K)]
            refine le_lst <| la_nil ⟨zl (n := 0), lr_eqE (shaped_ones _) ⟨_, rfl, ?_, rfl, fun _ => ?_⟩⟩
            · rw [filt_all, decide_eq_true hk, Bool.true_and]
            · intro s H C0 cl fp
              exact le_var (i := 7) rfl ⟨rfl, rfl⟩
        · have hk : ¬ kindS (rowAt y x) = "luck" := fun z => of_decide_eq_false hk (by rw [z])
          exact ⟨by rw [decide_eq_false hk]; rfl, rfl, fun z => by cases z⟩
      refine lb_cons <| l1_set (i := 10) (le_cat <| le_var (i := 10) rfl <| le_lc (own := [("one", 7)]) (li_lst (le_var (i := 4) rfl ⟨_, rfl, ?_⟩)) (bk (by decide +kernel)) sc_lstays.nd) sc_lstays.nd
      refine lc_fil lot nT nT (fun s => decide (kindS (rowAt y s) = "mine") && (tgtF y ns s).any fun t => decide (t ∈ lot)) (by omega) (fun x hx => ?_) ?_
      · have tl := tgt_len (ns := ns) sm (lo.lt x hx)
        intro s H C0 cl fp
        refine lg_name (i := 7) ?_ sc_lstays.nd
        intro s H C0 cl fp
        refine lt_ww <| lw_and <| lt_cmp op_eq <| le_ix <| le_ndget (hu := ru hr) <| le_var (i := 0) rfl <| le_tup <| la_cons <| le_var (i := 7) rfl <| la_cons <| le_var (i := 1) rfl <| la_nil ⟨zl (n := 2), keyTab ns x, _, tabV K y ns x, (keyTab_th K ns x).symm, ref_tup, rfl, look_tab (inr hx), keyTab_depth ns x, le_int ⟨_, _, sT (kindS (rowAt y x)), .inl rfl, rfl, rfl, le_str <| lr_eq rfl ⟨_, rfl, ite_b (fun hk => ?_) fun hk => ?_⟩⟩⟩
        · have hk : kindS (rowAt y x) = "mine" := by have := of_decide_eq_true hk; injection this
          refine lw_and1 <| lt_cmp (op_neD (ru hr)) <| le_lc (own := [("target", 8)]) (li_lst <| le_dget (hr := hr) <| le_var (i := 6) rfl <| le_var (i := 7) rfl ⟨nK x, _, _, rfl, rfl, look_tgt hx, _, rfl, ?_⟩) (bk2 (by decide +kernel)) sc_lstays.nd
          refine lc_fil (tgtF y ns x) nT (fun _ => iT 1) (fun t => decide (t ∈ lot)) (by omega) (fun t ht => ?_) ?_
          · intro s H C0 cl fp
            refine lg_name (i := 8) ?_ sc_lstays.nd
            intro s H C0 cl fp
            refine lt_cmp op_in_seq <| le_var (i := 8) rfl <| le_var (i := 4) rfl <| lr_inN ⟨_, rfl, rfl, rfl, fun _ => ?_⟩
            intro s H C0 cl fp
            exact le_int ⟨rfl, rfl⟩
          · rw [ones_ths (K := K)]
            refine le_lst <| la_nil ⟨zl (n := 0), lr_neL (shaped_ones _) ⟨_, rfl, ?_, rfl, fun _ => ?_⟩⟩
            · rw [filt_any, decide_eq_true hk, Bool.true_and]
            · intro s H C0 cl fp
              exact le_var (i := 7) rfl ⟨rfl, rfl⟩
        · have hk : ¬ kindS (rowAt y x) = "mine" := fun z => of_decide_eq_false hk (by rw [z])
          exact ⟨by rw [decide_eq_false hk]; rfl, rfl, fun z => by cases z⟩
      have bl : (stB y ns lot).length ≤ 60 := by
        have := nodup_len (stB_nodup (y := y) (ns := ns) lo.nd) fun x hx => (mem_stB.mp hx).1
        omega
      refine ⟨_, _, rfl, rfl, ?_, ?_⟩
      · rw [List.length_map, List.length_map]
        have : (stL y ns lot ++ stM y ns lot).length ≤ 60 := bl
        rw [List.length_append] at this
        exact Nat.le_trans this (by rw [sizeLine_eq]; omega)
      rw [← List.map_append]
      change LB _ _ _ (LSt.put _ 10 (lstT ((stB y ns lot).map nT))) _
      refine lb_cons <| l1_set (i := 11) (le_as (lstT ((thF y ns goal (stB y ns lot) 0).map nT)) (le_if <| lt_cmp op_in_seq <| le_var (i := 2) rfl <| le_var (i := 10) rfl <| lr_inN ⟨_, rfl, ite_b (fun hk => ?_) fun hk => ?_⟩) ?_) sc_lstays.nd
      · refine le_lst <| la_cons <| le_var (i := 2) rfl <| la_nil ⟨zl (n := 1), ?_, rfl⟩
        unfold thF
        rw [if_pos (of_decide_eq_true hk)]; rfl
      · refine le_lst <| la_nil ⟨zl (n := 0), ?_, rfl⟩
        unfold thF
        rw [if_neg (of_decide_eq_false hk)]; rfl
      refine lb_cons <| l1_for [12] (li_range1 h2 (la_cons <| le_cb call_len_seq h3 (by decide +kernel) <| la_cons <| le_var (i := 10) rfl <| la_nil <| rc_len (.inr rfl) <| la_nil ⟨_, rfl, by rw [List.length_map]; omega, by rw [List.length_map]; omega, ?_⟩)) .never
      rw [List.length_map, Int.toNat_natCast]
      refine ⟨fun j S => ∃ q5 q12, S = ⟨[some (.sh (ndT P w K (tabL K y ns (List.range y.rows.length)))), some (.sh (kT K ns)), some (.sh (nT goal)), some (.sh (lstT ((List.range y.rows.length).map nT))), some (.sh (lstT (lot.map nT))), q5, some (.sh (tgD y ns lot)), none, none, none, some (.sh (lstT ((stB y ns lot).map nT))), some (.sh (lstT ((thF y ns goal (stB y ns lot) j).map nT))), q12], 0⟩, ⟨_, q12, rfl⟩, ?_, ?_⟩
      · rintro j R S2 hR ⟨q5, q12, rfl⟩
        rw [List.getElem?_map] at hR
        cases e : (List.range (stB y ns lot).length)[j]? with
        | none => rw [e] at hR; cases hR
        | some j' =>
          rw [e] at hR
          cases hR
          have tb : (thF y ns goal (stB y ns lot) j).length ≤ 60 := Nat.le_trans (nodup_len (thF_nodup (stB_nodup (y := y) (ns := ns) lo.nd)) fun x hx => thF_sub hx) bl
          refine lg_name (i := 12) ?_ sc_lstays.nd
          refine lb_cons <| l1_set (i := 11) (le_cat <| le_var (i := 11) rfl <| le_lc (own := [("one", 7)]) (li_lst (le_var (i := 10) rfl ⟨_, rfl, ?_⟩)) (bk (by decide +kernel)) sc_lstays.nd) sc_lstays.nd
          refine lc_fil (stB y ns lot) nT nT (fun s => !decide (s ∈ thF y ns goal (stB y ns lot) j) && (tgtF y ns s).any fun t => decide (t ∈ thF y ns goal (stB y ns lot) j)) (by omega) (fun x hx => ?_) ?_
          · have hxl : x ∈ lot := (mem_stB.mp hx).1
            have tl := tgt_len (ns := ns) sm (lo.lt x hxl)
            intro s H C0 cl fp
            refine lg_name (i := 7) ?_ sc_lstays.nd
            intro s H C0 cl fp
            refine lt_ww <| lw_and <| lt_cmp op_notIn_seq <| le_var (i := 7) rfl <| le_var (i := 11) rfl <| lr_ninN ⟨_, rfl, ite_b (fun hk => ?_) fun hk => ?_⟩
            · refine lw_and1 <| lt_cmp (op_neD (ru hr)) <| le_lc (own := [("target", 8)]) (li_lst <| le_dget (hr := hr) <| le_var (i := 6) rfl <| le_var (i := 7) rfl ⟨nK x, _, _, rfl, rfl, look_tgt hxl, _, rfl, ?_⟩) (bk2 (by decide +kernel)) sc_lstays.nd
              refine lc_fil (tgtF y ns x) nT (fun _ => iT 1) (fun t => decide (t ∈ thF y ns goal (stB y ns lot) j)) (by omega) (fun t ht => ?_) ?_
              · intro s H C0 cl fp
                refine lg_name (i := 8) ?_ sc_lstays.nd
                intro s H C0 cl fp
                refine lt_cmp op_in_seq <| le_var (i := 8) rfl <| le_var (i := 11) rfl <| lr_inN ⟨_, rfl, rfl, rfl, fun _ => ?_⟩
                intro s H C0 cl fp
                exact le_int ⟨rfl, rfl⟩
              · rw [ones_ths (K := K)]
                refine le_lst <| la_nil ⟨zl (n := 0), lr_neL (shaped_ones _) ⟨_, rfl, ?_, rfl, fun _ => ?_⟩⟩
                · rw [filt_any, hk, Bool.true_and]
                · intro s H C0 cl fp
                  exact le_var (i := 7) rfl ⟨rfl, rfl⟩
            · exact ⟨by rw [hk]; rfl, rfl, fun z => by cases z⟩
          · refine ⟨_, _, rfl, rfl, ?_, lb_nil ?_⟩
            · rw [List.length_map, List.length_map]
              have : (thF y ns goal (stB y ns lot) (j + 1)).length ≤ 60 := Nat.le_trans (nodup_len (thF_nodup (stB_nodup (y := y) (ns := ns) lo.nd)) fun x hx => thF_sub hx) bl
              unfold thF at this
              rw [List.length_append] at this
              exact Nat.le_trans this (by rw [sizeLine_eq]; omega)
            · rw [← List.map_append]
              exact ⟨q5, _, rfl⟩
      · rintro S2 ⟨q5, q12, rfl⟩
        rw [List.length_map, List.length_range]
        refine lb_cons <| l1_if <| lt_cmp (op_eqD (ru hr)) <| le_cb cr_sortedI h5 (by decide +kernel) <| la_cons <| le_var (i := 11) rfl <| la_nil <| rc_sortedN <| le_cb cr_sortedI h5 (by decide +kernel) <| la_cons <| le_var (i := 4) rfl <| la_nil <| rc_sortedN ?_
        rw [ints_tD K, ints_tD K]
        refine lr_eqT ⟨_, rfl, ite_b (fun hk => ?_) fun hk => ?_⟩
        · have pm : (nextLot y ns goal lot).Perm lot := sort_perm (of_decide_eq_true hk)
          refine lb_cons <| l1_ret <| le_close (p := fun b : Bool => b = true ↔ ∃ T, Good y ns goal T ∧ T goal = true) (f := bT) <| le_cmp (op_neD (ru hr)) <| le_var (i := 4) rfl <| le_lst <| la_nil ⟨zl (n := 0), ?_⟩
          rw [ints_ths (K := K)]
          refine lr_neL (shaped_ints _) ⟨_, rfl, ⟨fun z => ?_, fun ⟨T, g, hg⟩ => ?_⟩, rfl⟩
          · exact last_good lo.lt pm fun e => by rw [e] at z; cases z
          · have := inv T g hg goal hg
            cases lot with
            | nil => cases this
            | cons a l => rfl
        · refine lb_nil <| lb_cons <| l1_set (i := 4) (le_var (i := 11) rfl <| lb_nil ?_) sc_lstays.nd
          refine ⟨nextLot y ns goal lot, _, _, _, _, _, rfl, ⟨next_nodup lo.nd, fun x hx => lo.lt x (next_sub hx)⟩, ?_, fun T g hg => good_next g hg lo.nd (inv T g hg)⟩
          have le := nodup_len (next_nodup (y := y) (ns := ns) (goal := goal) lo.nd) fun x hx => next_sub hx
          have ne : (nextLot y ns goal lot).length ≠ lot.length := fun z => by
            have pm := perm_of_sub (next_nodup (y := y) (ns := ns) (goal := goal) lo.nd) (fun x hx => next_sub hx) (by omega)
            have := sortI_the ((sortI_perm _).trans (pm.map fun (n : Nat) => (n : Int))) (sortI_up _)
            exact of_decide_eq_false hk this
          show (nextLot y ns goal lot).length + (i + 1) ≤ _
          omega
  · rintro S2 ⟨lot, q5, q6, q10, q11, q12, rfl, lo, hl, inv⟩
    rw [List.length_map, List.length_range] at hl
    omega
end
end DL
set_option Elab.async false
set_option linter.all false
set_option pp.maxSteps 400
set_option maxRecDepth 100000
set_option maxHeartbeats 4000000
namespace DL
open PySem PySem.Spec L2
open PyProof.Rows hiding St
open PySem.W (Datum Tup)
def actTh (r : SR) : Th := match r.2.1 with | some x => sT x | none => vl .non
/-- a row of a stay without its state -/
abbrev arT (K : PySem.W.Frag) (r : SR) : Th := tupT K [actTh r, nT r.2.2]
abbrev arD (K : PySem.W.Frag) (rows : List SR) : Th := dicT (rows.map fun r => (nK r.1, arT K r))
theorem look_row {K : PySem.W.Frag} {r : SR} : ∀ {rows : List SR}, (rows.map Prod.fst).Nodup → r ∈ rows → lookT (rows.map fun r => (nK r.1, arT K r)) (nK r.1) = some (arT K r)
  | [], _, h => by cases h
  | q :: rows, nd, h => by
    obtain ⟨n1, n2⟩ := List.nodup_cons.mp nd
    unfold lookT
    rw [List.map_cons, List.find?_cons]
    rcases List.mem_cons.mp h with rfl | h
    · rw [show decide ((nK r.1, arT K r).1 = nK r.1) = true from decide_eq_true rfl]; rfl
    · rw [show decide ((nK q.1, arT K q).1 = nK r.1) = false from decide_eq_false fun z => n1 (by rw [nK_inj.mp z]; exact List.mem_map.mpr ⟨r, h, rfl⟩)]
      exact look_row n2 h
theorem look_isrow {K : PySem.W.Frag} {rows : List SR} {s : Nat} : (lookT (rows.map fun r => (nK r.1, arT K r)) (nK s)).isSome = decide (s ∈ rows.map Prod.fst) := by
  rw [look_keys (key := fun (r : SR) => nK r.1), Bool.eq_iff_iff, List.any_eq_true, decide_eq_true_eq, List.mem_map]
  exact ⟨fun ⟨x, h1, h2⟩ => ⟨x, h1, nK_inj.mp (of_decide_eq_true h2)⟩, fun ⟨x, h1, h2⟩ => ⟨x, h1, decide_eq_true (by rw [h2])⟩⟩
theorem none_filter {α : Type} {l : List α} : l.filter (fun _ => false) = [] := List.filter_eq_nil_iff.mpr fun _ _ => (by decide)
theorem act_isN (r : SR) : ∀ (H : Hp) v, (actTh r).p H v → decide (v = V.non) = r.2.1.isNone := fun H v h => by
  unfold actTh at h
  cases e : r.2.1 with
  | none => rw [e] at h; cases (show v = _ from h); rfl
  | some x => rw [e] at h; cases (show v = _ from h); rfl
def rkOf (rows : List SR) (t : Nat) : Nat := ((rows.find? fun q => decide (q.1 = t)).map fun q => q.2.2).getD 0
theorem rk_at {q : SR} : ∀ {rows : List SR}, (rows.map Prod.fst).Nodup → q ∈ rows → rkOf rows q.1 = q.2.2
  | [], _, h => by cases h
  | p :: rows, nd, h => by
    obtain ⟨n1, n2⟩ := List.nodup_cons.mp nd
    unfold rkOf
    rw [List.find?_cons]
    rcases List.mem_cons.mp h with rfl | h
    · rw [show decide (q.1 = q.1) = true from decide_eq_true rfl]; rfl
    · rw [show decide (p.1 = q.1) = false from decide_eq_false fun z => n1 (by rw [z]; exact List.mem_map.mpr ⟨q, h, rfl⟩)]
      exact rk_at n2 h
section
variable {P : Program} {w : World} {K : PySem.W.Frag} {mg : Str → Option Value} {base : Heap} {f C : Addr} {fd : FuncData}
abbrev st_lright : Stmt := top 83
abbrev lrN : List Str := ["yard", "rows", "state", "told", "one", "act", "rank", "kind", "kept", "at", "target", "later"]
theorem sc_lright : Scp lrN ["yard", "rows", "state", "told"] st_lright := ⟨rfl, rfl, rfl, by decide +kernel, rfl, by decide +kernel, by decide +kernel⟩
def fLRight (K : PySem.W.Frag) (C : Addr) : PFn := fun Rs R => ∃ (y : YardD) (goal : Nat) (ns : List Nat) (rows : List SR), Rs = [yT K C y, arD K rows, nT goal, kT K ns] ∧ Sm y ns ∧ StayRows y ns goal rows ∧ rows.length ≤ 60 ∧ R = bT true
theorem kn_lright (F : Fun K "_law_stay_right" "_law_stay_right" st_lright f fd) (hm : mg "_law_stay_right" = some (.ref f)) (hb : Binds K fd ["yard", "rows", "state", "told"] []) (yc : YC K C) (k1 : Kn P w K mg base 1 "_law_is_count" (spP 2 fCount)) (k2 : Kn P w K mg base 2 "_law_behind" (spP 3 (fLBehind K C))) (k3 : Kn P w K mg base 1 "_law_target" (spP 3 (fTarget K C))) :
    Kn P w K mg base 3 "_law_stay_right" (spP 4 (fLRight K C)) := by
  refine kn_pure F hm hb sc_lright rfl fun cdv A outer s H E Rs R hr h => ?_
  obtain ⟨y, goal, ns, rows, rfl, sm, sr, rl, rfl⟩ := h
  have nr := sm.sm
  have nl := sm.l
  refine lb_cons <| l1_if <| lt_ww <| lw_or <| lt_dnotin (hr := hr) <| le_var (i := 2) rfl <| le_var (i := 1) rfl ⟨nK goal, _, rfl, rfl, ?_⟩
  rw [look_isrow, decide_eq_true sr.g]
  show LW _ _ _ _ _
  refine lw_or1 <| lt_cmp (op_neD (ru hr)) <| le_lcD (own := [("one", 4)]) 1 rfl (li_keys 1 rfl ?_ (pv _)) (bk (by decide +kernel)) sc_lright.nd
  rw [List.map_map]
  refine lc_fil rows (fun r => nT r.1) (fun r => nT r.1) (fun _ => false) (by omega) (fun r hr' => ?_) ?_
  · intro s H C0 cl fp
    refine lg_name (i := 4) ?_ sc_lright.nd
    intro s H C0 cl fp
    refine lt_not <| lt_val <| le_call k1 hr (by decide) <| la_cons <| le_ix <| le_dget (hr := hr) <| le_var (i := 1) rfl <| le_var (i := 4) rfl ⟨nK r.1, _, _, rfl, rfl, look_row sr.nd hr', le_int ⟨_, _, nT r.2.2, .inl rfl, rfl, rfl, la_cons <| le_non <| la_nil ⟨_, ⟨r.2.2, rfl, rfl⟩, rfl, true, rfl, rfl, rfl, fun z => by cases z⟩⟩⟩
  rw [none_filter]
  refine le_lst <| la_nil ⟨zl (n := 0), lr_neL (ds := []) (by decide) ⟨false, rfl, ?_⟩⟩
  show LB _ _ _ _ _
  refine lb_nil <| lb_cons <| l1_forD [4, 5, 6, 7, 8] 1 rfl (li_keys 1 rfl ?_ (pv _)) .never
  rw [List.map_map]
  refine ⟨fun i S => ∃ q4 q5 q6 q7 q8, S = ⟨[some (.sh (yT K C y)), some (.sh (arD K rows)), some (.sh (nT goal)), some (.sh (kT K ns)), q4, q5, q6, q7, q8, none, none, none], 0⟩, ⟨none, none, none, none, none, rfl⟩, ?_, ?_⟩
  · rintro i R S2 hR ⟨q4, q5, q6, q7, q8, rfl⟩
    rw [List.getElem?_map] at hR
    cases e : rows[i]? with
    | none => rw [e] at hR; cases hR
    | some r =>
      rw [e] at hR
      cases hR
      have hr' : r ∈ rows := List.mem_of_getElem? e
      have a := sm.at (sr.lt r hr')
      show LG _ _ _ _ _ (nT r.1) _
      refine lg_name (i := 4) ?_ sc_lright.nd
      refine lb_cons <| l1_asgG [5, 6] (le_dget (hr := hr) <| le_var (i := 1) rfl <| le_var (i := 4) rfl ⟨nK r.1, _, _, rfl, rfl, look_row sr.nd hr', ?_⟩)
      refine lg_tup ⟨_, rfl, rfl, lgs_cons <| lg_name (i := 5) (lgs_cons <| lg_name (i := 6) (lgs_nil ?_) sc_lright.nd) sc_lright.nd⟩
      obtain ⟨Ts, er⟩ := row0 K (rowAt y r.1)
      refine lb_cons <| l1_set (i := 7) (le_ix <| le_ix <| le_fld <| le_var (i := 0) rfl ⟨_, _, _, rfl, yc.c, yc.n2, rfl, le_var (i := 4) rfl ⟨_, _, _, .inl rfl, rfl, atRow a.row, le_int ⟨_, _, _, .inl er, rfl, at0, ?_⟩⟩⟩) sc_lright.nd
      have hn : r.1 < y.rows.length := sr.lt r hr'
      have fk : (∃ os, rowAt y r.1 = .luck os ∧ r.2.1 = none) ∨ ∃ as x, rowAt y r.1 = .mine as ∧ r.2.1 = some x := by
        rcases sr.row r hr' with ⟨os, e1, e2, _⟩ | ⟨as, a, x, t, e1, e2, e3, _⟩
        · exact .inl ⟨os, e1, e2⟩
        · exact .inr ⟨as, x, e1, e3⟩
      have f1 : inV (.str (kindS (rowAt y r.1))) [.str "mine", .str "luck"] = true := by
        rcases fk with ⟨os, e1, _⟩ | ⟨as, x, e1, _⟩
        · rw [e1]; exact (by decide : inV (.str "luck") [.str "mine", .str "luck"] = true)
        · rw [e1]; exact (by decide : inV (.str "mine") [.str "mine", .str "luck"] = true)
      have f2 : r.2.1.isNone = decide (V.str (kindS (rowAt y r.1)) = V.str "luck") := by
        rcases fk with ⟨os, e1, e2⟩ | ⟨as, x, e1, e2⟩
        · rw [e1, e2]; exact (by decide : true = decide (V.str "luck" = V.str "luck"))
        · rw [e1, e2]; exact (by decide : false = decide (V.str "mine" = V.str "luck"))
      have f3 : decide (V.int (r.2.2 : Int) = V.int 0) = decide (V.int (r.1 : Int) = V.int (goal : Int)) := decide_eq_decide.mpr ⟨fun z => by
        injection z with z
        rw [(sr.z r hr').mp (by omega)], fun z => by
        injection z with z
        rw [(sr.z r hr').mpr (by omega)]; rfl⟩
      obtain ⟨kl, hkl, p1, p2, p3⟩ : ∃ kl : List Nat, ((∃ os, rowAt y r.1 = .luck os ∧ kl = tgtF y ns r.1) ∨ ∃ as a x t, rowAt y r.1 = .mine as ∧ as[a]? = some (x, t) ∧ r.2.1 = some x ∧ kl = [t]) ∧ kl.length ≤ 6 ∧ (∀ t ∈ kl, t ∈ rows.map Prod.fst) ∧ (r.1 ≠ goal → ∃ t ∈ kl, ∃ q ∈ rows, q.1 = t ∧ q.2.2 < r.2.2) := by
        rcases sr.row r hr' with ⟨os, e1, e2, e3, e4⟩ | ⟨as, a, x, t, e1, e2, e3, q, hq, e4, e5⟩
        · refine ⟨tgtF y ns r.1, .inl ⟨os, e1, rfl⟩, tgt_len sm hn, fun t ht => ?_, fun z => ?_⟩
          · obtain ⟨p, hp, rfl⟩ := List.mem_map.mp ht
            rw [e1] at hp
            exact e3 p hp
          · obtain ⟨p, hp, q, hq, q1, q2⟩ := e4 z
            exact ⟨p.2, List.mem_map.mpr ⟨p, by rw [e1]; exact hp, rfl⟩, q, hq, q1, q2⟩
        · exact ⟨[t], .inr ⟨as, a, x, t, e1, e2, e3, rfl⟩, by show 1 ≤ 6; omega, fun t' ht => (by cases List.mem_singleton.mp ht; exact List.mem_map.mpr ⟨q, hq, e4⟩), fun z => ⟨t, List.mem_singleton.mpr rfl, q, hq, e4, e5 z⟩⟩
      refine lb_cons <| l1_if <| lt_ww <| lw_or <| lt_cmp op_notIn_seq <| le_var (i := 7) rfl <| le_tup <| la_cons <| le_str <| la_cons <| le_str <| la_nil ⟨zl (n := 2), lr_notIn (ys := [.str "mine", .str "luck"]) (.inl rfl) rfl rfl ⟨_, rfl, ?_⟩⟩
      rw [f1]
      show LW _ _ _ _ _
      refine lw_or <| lt_cmp op_ne <| le_isN <| le_var (i := 5) rfl ⟨r.2.1.isNone, act_isN r, le_cmp op_eq <| le_var (i := 7) rfl <| le_str <| lr_eq rfl <| lr_ne rfl ⟨_, rfl, ?_⟩⟩
      rw [f2, show (!decide (V.bl (decide (V.str (kindS (rowAt y r.1)) = V.str "luck")) = V.bl (decide (V.str (kindS (rowAt y r.1)) = V.str "luck")))) = false by rw [decide_eq_true rfl]; rfl]
      show LW _ _ _ _ _
      refine lw_or1 <| lt_cmp op_ne <| le_cmp op_eq <| le_var (i := 6) rfl <| le_int <| lr_eq rfl <| le_cmp op_eq <| le_var (i := 4) rfl <| le_var (i := 2) rfl <| lr_eq rfl <| lr_ne rfl ⟨_, rfl, ?_⟩
      rw [f3, show (!decide (V.bl (decide (V.int (r.1 : Int) = V.int (goal : Int))) = V.bl (decide (V.int (r.1 : Int) = V.int (goal : Int))))) = false by rw [decide_eq_true rfl]; rfl]
      show LB _ _ _ _ _
      refine lb_nil <| lb_cons <| l1_set (i := 8) (le_as (lstT (kl.map nT)) (le_if <| lt_cmp op_eq <| le_var (i := 7) rfl <| le_str <| lr_eq rfl ⟨_, rfl, ?_⟩) ?_) sc_lright.nd
      · rcases hkl with ⟨os, e1, rfl⟩ | ⟨as, aa, x, t, e1, e2, e3, rfl⟩
        · rw [show decide (V.str (kindS (rowAt y r.1)) = V.str "luck") = true by rw [e1]; exact (by decide : decide (V.str "luck" = V.str "luck") = true)]
          show LE _ _ _ _ _
          refine le_lc (own := [("at", 9), ("target", 10), ("later", 11)]) (li_lst <| le_call k2 hr (by decide) <| la_cons <| le_var (i := 0) rfl <| la_cons <| le_var (i := 4) rfl <| la_cons <| le_var (i := 3) rfl <| la_nil ⟨_, ⟨y, r.1, rowAt y r.1, ns, rfl, a, rfl⟩, rfl, _, rfl, ?_⟩) (bk (by decide +kernel)) sc_lright.nd
          refine lc_fil (behF (rowAt y r.1) ns) (edT K) (fun e => nT e.2.1) (fun e => decide (e.2.2 = ns)) (by have := beh_len a; omega) (fun e he => ?_) ?_
          · intro s H C0 cl fp
            refine lg_tup ⟨_, rfl, rfl, lgs_cons <| lg_name (i := 9) (lgs_cons <| lg_name (i := 10) (lgs_cons <| lg_name (i := 11) (lgs_nil ?_) sc_lright.nd) sc_lright.nd) sc_lright.nd⟩
            intro s H C0 cl fp
            refine lt_cmp (op_eqD (ru hr)) <| le_var (i := 11) rfl <| le_var (i := 3) rfl ?_
            rw [tT_k, tT_k]
            refine lr_eqT (x := (⟨e.2.2.map fun (n : Nat) => (n : Int)⟩ : Tup Int)) (y := (⟨ns.map fun (n : Nat) => (n : Int)⟩ : Tup Int)) ⟨_, rfl, iN_inj, rfl, fun _ => ?_⟩
            intro s H C0 cl fp
            exact le_var (i := 10) rfl ⟨rfl, rfl⟩
          · exact ⟨by rw [tgt_eq], rfl⟩
        · rw [show decide (V.str (kindS (rowAt y r.1)) = V.str "luck") = false by rw [e1]; exact (by decide : decide (V.str "mine" = V.str "luck") = false)]
          show LE _ _ _ _ _
          have ax : actTh r = sT x := by unfold actTh; rw [e3]
          have am : At y r.1 (.mine as) ns := by rw [← e1]; exact a
          refine le_lst <| la_cons <| le_call k3 hr (by decide) <| la_cons <| le_var (i := 0) rfl <| la_cons <| le_var (i := 4) rfl <| la_cons <| le_var (i := 5) rfl <| la_nil ⟨_, ⟨y, r.1, aa, as, ns, x, t, ?_, am, e2, rfl⟩, rfl, la_nil ⟨zl (n := 1), rfl, rfl⟩⟩
          rw [ax]
      · refine lb_cons <| l1_if <| lt_ww <| lw_or <| lt_cmp (op_neD (ru hr)) <| le_lc (own := [("target", 10)]) (li_lst (le_var (i := 8) rfl ⟨_, rfl, ?_⟩)) (bk (by decide +kernel)) sc_lright.nd
        refine lc_fil kl nT nT (fun _ => false) (by omega) (fun t ht => ?_) ?_
        · intro s H C0 cl fp
          refine lg_name (i := 10) ?_ sc_lright.nd
          intro s H C0 cl fp
          refine lt_dnotin (hr := hr) <| le_var (i := 10) rfl <| le_var (i := 1) rfl ⟨nK t, _, rfl, rfl, ?_, rfl, fun z => absurd z (by rw [look_isrow, decide_eq_true (p2 t ht)]; decide)⟩
          rw [look_isrow, decide_eq_true (p2 t ht)]; rfl
        rw [none_filter]
        refine le_lst <| la_nil ⟨zl (n := 0), lr_neL (ds := []) (by decide) ⟨false, rfl, ?_⟩⟩
        show LW _ _ _ _ _
        refine lw_or1 <| lt_ww <| lw_and <| lt_cmp op_ne <| le_var (i := 4) rfl <| le_var (i := 2) rfl <| lr_ne rfl ⟨_, rfl, ite_b (fun hk => ?_) fun hk => ?_⟩
        · have hk : r.1 ≠ goal := fun z => by rw [z, decide_eq_true rfl] at hk; cases hk
          refine lw_and1 <| lt_cmp (op_eqD (ru hr)) <| le_lc (own := [("target", 10)]) (li_lst (le_var (i := 8) rfl ⟨_, rfl, ?_⟩)) (bk (by decide +kernel)) sc_lright.nd
          refine lc_fil kl nT (fun _ => iT 1) (fun t => decide (rkOf rows t < r.2.2)) (by omega) (fun t ht => ?_) ?_
          · obtain ⟨q, hq, rfl⟩ := List.mem_map.mp (p2 t ht)
            intro s H C0 cl fp
            refine lg_name (i := 10) ?_ sc_lright.nd
            intro s H C0 cl fp
            refine lt_cmp op_lt <| le_ix <| le_dget (hr := hr) <| le_var (i := 1) rfl <| le_var (i := 10) rfl ⟨nK q.1, _, _, rfl, rfl, look_row sr.nd hq, le_int ⟨_, _, nT q.2.2, .inl rfl, rfl, rfl, le_var (i := 6) rfl <| lr_I0 ⟨_, rfl, ?_, rfl, fun _ => ?_⟩⟩⟩
            · rw [rk_at sr.nd hq]
              exact decide_eq_decide.mpr (by omega)
            · intro s H C0 cl fp
              exact le_int ⟨rfl, rfl⟩
          · rw [ones_ths (K := K)]
            refine le_lst <| la_nil ⟨zl (n := 0), lr_eqE (shaped_ones _) ⟨false, ?_, ?_⟩⟩
            · obtain ⟨t, ht, q, hq, e1, e2⟩ := p3 hk
              have := filt_any (fun t => decide (rkOf rows t < r.2.2)) kl
              rw [List.any_eq_true.mpr ⟨t, ht, decide_eq_true (by rw [← e1, rk_at sr.nd hq]; exact e2)⟩] at this
              rw [Bool.not_eq_true'] at this
              rw [this]
            · show LB _ _ _ _ _
              exact lb_nil <| lb_nil ⟨_, _, _, _, _, rfl⟩
        · show LB _ _ _ _ _
          exact lb_nil <| lb_nil ⟨_, _, _, _, _, rfl⟩
  · rintro S2 ⟨q4, q5, q6, q7, q8, rfl⟩
    exact lb_cons <| l1_ret <| le_bl rfl
end
end DL
set_option Elab.async false
set_option linter.all false
set_option pp.maxSteps 400
set_option maxRecDepth 100000
set_option maxHeartbeats 4000000
/-! repr of data, len(set(..)), calls by keywords, more draws at most, parts of lists by draws -/
namespace DL
open PySem PySem.Spec L2
open PyProof.Rows hiding St
section
variable {X : Cx} {pn : Option Addr} {e e1 e2 e3 : Expr} {S : LSt} {P : Th → LSt → Prop} {p p2 q pos : Pos} {x : Str}
/-- len(set(xs)), ints that are unlike -/
theorem le_lenSet {y : Str} (hl : X.mg "len" = none) (hs : X.mg "set" = none) (h : LE X pn e S fun R S1 => ∃ ns : List Int, R = lstT (ns.map fun b => vl (.int b)) ∧ ns.length < 64 ∧ ns.Nodup ∧ P (vl (.int ns.length)) S1)
    (hx : x = "len" := by rfl) (hy : y = "set" := by rfl) (hc : X.calm = true := by rfl) (hg : Gl X "len" := by rfl) (hg2 : Gl X "set" := by rfl) (na : starEach [e] X.env = (false, eval e X.env) :: starEach [] X.env := by rfl) :
    LE X pn (.Call (.Name x p) [.Call (.Name y p2) [e] [] q] [] pos) S P := by
  subst hx hy
  intro B Hs σ H o Q k
  refine we_of (pe_lenSetI hc hg hl hg2 hs pe_we na) (h B Hs σ H o _ fun R S1 v Hs1 H1 h1 o1 e1 r1 => ?_)
  obtain ⟨ns, rfl, hz, nd, h1⟩ := h1
  obtain ⟨a, ws, rfl, h2, h3⟩ := r1
  cases alls_ints h3
  exact ⟨a, ns, rfl, SqL.of (o1.w _ _ h2), hz, nd, k _ S1 _ Hs1 H1 h1 o1 e1 rfl⟩
/-- repr(x), x a tuple of data, nothing being written out meanwhile -/
theorem call_reprD (hg : X.A.guards = some []) (hu : X.A.units + 64 < cLine) : CallR X (.builtin "repr") (fun xs H Q => ∃ (a : Addr) (d : PyData), xs = [.ref a] ∧ Dp X.K H (.ref a) d ∧ d.showable = true ∧ d.hasDict = false ∧ d.depth ≤ 60 ∧ d.shown.length ≤ sizeLine ∧ Q (.str d.shown) H) := by
  intro pins s σ H xs us Q I r h
  obtain ⟨a, d, rfl, hd, h1, h2, h3, h4, q⟩ := h
  obtain rfl := Vals.ref1 r
  obtain ⟨as, rd⟩ := Dp.reads I d (.ref a) (.ref a) hd rfl
  exact repr_of_reads' (hsz := h4) rd h1 (fun z => by rw [h2] at z; cases z) hg (by omega) (fun _ _ z => z) fun h' u tk hk => ⟨.str d.shown, H, I.kept hk, ⟨u, rfl⟩, q⟩
theorem rc_repr {d : PyData} (hr : ∀ H v, (th X.K d).p H v → ∃ a, v = .ref a) (h1 : d.showable = true) (h2 : d.hasDict = false) (h3 : d.depth ≤ 60) (h4 : d.shown.length ≤ sizeLine) (q : P (vl (.str d.shown)) S) :
    LRC X pn (fun xs H Q => ∃ (a : Addr) (d : PyData), xs = [.ref a] ∧ Dp X.K H (.ref a) d ∧ d.showable = true ∧ d.hasDict = false ∧ d.depth ≤ 60 ∧ d.shown.length ≤ sizeLine ∧ Q (.str d.shown) H) [th X.K d] S P := by
  intro B Hs σ H vs o r1 Q k
  cases r1 with
  | cons r1 r2 =>
    cases r2
    obtain ⟨a, rfl⟩ := hr _ _ r1
    exact ⟨a, d, rfl, th_dp ((th X.K d).mono o.w r1), h1, h2, h3, h4, k _ S _ Hs H q o (.refl _) rfl⟩
/-- a def that is called by its three keywords, the last one first -/
structure KnK (P : Program) (w : World) (K : PySem.W.Frag) (mg : Str → Option Value) (base : Heap) (k : Nat) (x : Str) (ks : List Str) (sp : Sp) : Prop where
  ex : ∃ (f : Addr) (fd : FuncData) (ps : List Str), FnOk P w K mg base (L2.CX P w) k f fd ps sp ∧ mg x = some (.ref f) ∧ PySem.W.keepIn K (.ref f) = true ∧ KBn K fd ps 0 ks (fun _ ws => ws.reverse) (fun _ zs => zs.reverse)
theorem le_callK3 {k m : Nat} {F : PFn} {n1 n2 n3 : Str} {p1 p2 p3 : Pos} (D : KnK X.prog X.w X.K X.mg X.base k x [n1, n2, n3] (spP m F)) {j : Nat} (hr : Room j X.A) (hk : k ≤ j)
    (h : LE X pn e1 S fun R1 S1 => LE X pn e2 S1 fun R2 S2 => LE X pn e3 S2 fun R3 S3 => ∃ R, F [R3, R2, R1] R ∧ [R3, R2, R1].length = m ∧ P R S3)
    (hg : Gl X x := by rfl) (hdb : (x == ("__debug__" : Str)) = false := by decide)
    (hall : (backToKw pos (keywordEach [⟨some n1, e1, p1⟩, ⟨some n2, e2, p2⟩, ⟨some n3, e3, p3⟩] X.env)).all (·.1.isSome) = true := by rfl) (hks : (backToKw pos (keywordEach [⟨some n1, e1, p1⟩, ⟨some n2, e2, p2⟩, ⟨some n3, e3, p3⟩] X.env)).filterMap (·.1) = [n1, n2, n3] := by rfl)
    (hpl : ((backTo pos (starEach [] X.env)).any (·.1) || (backToKw pos (keywordEach [⟨some n1, e1, p1⟩, ⟨some n2, e2, p2⟩, ⟨some n3, e3, p3⟩] X.env)).any (·.1.isNone)) = false := by rfl) :
    LE X pn (.Call (.Name x p) [] [⟨some n1, e1, p1⟩, ⟨some n2, e2, p2⟩, ⟨some n3, e3, p3⟩] pos) S P := by
  intro B Hs σ H o Q q
  obtain ⟨f, fd, ps, hf, hm, kp, hb⟩ := D.ex
  have pk : PK X [⟨some n1, e1, p1⟩, ⟨some n2, e2, p2⟩, ⟨some n3, e3, p3⟩] (tCons (WE X e1) (tCons (WE X e2) (tCons (WE X e3) tNil))) := pk_cons pe_we (pk_cons pe_we (pk_cons pe_we pk_nil))
  have pe : PE X (.Call (.Name x p) [] [⟨some n1, e1, p1⟩, ⟨some n2, e2, p2⟩, ⟨some n3, e3, p3⟩] pos) fun σ H Q => (tCons (WE X e1) (tCons (WE X e2) (tCons (WE X e3) tNil))) σ H fun zs H2 => zs.length = 3 ∧ spP m F zs.reverse H2 Q fun _ _ _ => False := by
    refine ⟨fun pins s σ H Q I h => ?_⟩
    refine wpAny_Call_Name_kw (ld_glob I hg hm ?_ hdb)
    refine PySem.W.callWith_KW0 (h₀ := X.base) I.ok.mod.kin kp hall (thn (pk.run pos pins s σ H _ I h) fun ws s2 ⟨zs, H2, I2, rz, l2, q2⟩ => ⟨I2.kIn, ?_⟩) hpl
    rw [hks]
    exact run_fnN (us := []) (vs := []) hf (hr.mono hk) hb passL I2 .nil rz rfl l2 q2
  refine we_of pe (h B Hs σ H o _ fun R1 S1 v1 Hs1 H1 h1 o1 x1 r1 => ?_)
  refine h1 B Hs1 σ H1 o1 _ fun R2 S2 v2 Hs2 H2 h2 o2 x2 r2 => ?_
  refine h2 B Hs2 σ H2 o2 _ fun R3 S3 v3 Hs3 H3 h3 o3 x3 r3 => ?_
  obtain ⟨R, h3, hl, pp⟩ := h3
  exact ⟨rfl, Hs3, [R3, R2, R1], R, o3.w, hl, .cons r3 (.cons (R2.mono x3 r2) (.cons (R1.mono (x2.trans x3) r1) .nil)), h3, fun v Hs' H' x r => q R S3 v Hs' H' pp (o3.ext x) (x1.trans (x2.trans (x3.trans x.s))) r⟩
/-- more draws at most -/
theorem StOK.up {K : PySem.W.Frag} {B : Base} {Hs : Hp} {σ : St} {H : Hp} {m : Nat} (o : StOK K pn B Hs S σ H) (h : S.n ≤ m) : StOK K pn B Hs ⟨S.ρ, m⟩ σ H :=
  ⟨o.e, o.len, o.sh, o.ow, o.ne, fun a z => ⟨(o.pen a z).1.le h, (o.pen a z).2⟩⟩
theorem le_n (m : Nat) (h : LE X pn e S fun R S1 => S1.n ≤ m ∧ P R ⟨S1.ρ, m⟩) : LE X pn e S P := fun B Hs σ H o Q k =>
  h B Hs σ H o Q fun R S1 v Hs1 H1 p o1 e1 r1 => k R _ v Hs1 H1 p.2 (o1.up p.1) e1 r1
end
/-- [elt for tg in .. if c], c by draws: some of them -/
theorem lc_sub {X : Cx} {pn : Option Addr} {elt tg c : Expr} {scope : Scope} {vs : List Nat} {S1 : LSt} {Q : Th → LSt → Prop} {α : Type} {Rs : List Th} {ds : List α} {g : α → Th} (e : Rs = ds.map g) (h : α → Th) (k : Nat) (hz : ds.length ≤ 100000)
    (he : ∀ d ∈ ds, ∀ nn, nn + k ≤ S1.n + k * ds.length → Blk X scope fun Y => LG Y pn vs tg ⟨wipeR S1.ρ vs, nn⟩ (g d) fun S2 => Blk X scope fun Y => LT Y pn c S2 fun b S3 => S3.n ≤ nn + k ∧ (b = true → Blk X scope fun Y => LE Y pn elt S3 fun R' S4 => R' = h d ∧ S4.n ≤ nn + k))
    (q : ∀ (bs : List α) (nn : Nat), bs.Sublist ds → nn ≤ S1.n + k * ds.length → Q (lstT (bs.map h)) ⟨S1.ρ, nn⟩) : LCI X pn elt tg [c] scope vs Q Rs S1 := by
  subst e
  refine ⟨by rw [List.length_map]; exact hz, fun i acc nn => ∃ bs, acc = bs.map h ∧ bs.Sublist (ds.take i) ∧ nn ≤ S1.n + k * i, ⟨[], rfl, List.nil_sublist _, by omega⟩, fun i R acc nn hR ⟨bs, e1, e2, e3⟩ => ?_, fun acc nn ⟨bs, e1, e2, e3⟩ => ?_⟩
  · subst e1
    rw [List.getElem?_map] at hR
    cases e : ds[i]? with
    | none => rw [e] at hR; cases hR
    | some d =>
      rw [e] at hR; cases hR
      have hd : d ∈ ds := List.mem_of_getElem? e
      have hi : i + 1 ≤ ds.length := (List.getElem?_eq_some_iff.mp e).1
      have hk : k * i + k ≤ k * ds.length := by
        rw [← Nat.mul_succ]; exact Nat.mul_le_mul_left k hi
      intro s H C cl fp B Hs σ H' v o r Q k'
      refine he d hd nn (by omega) s H C cl fp B Hs σ H' v o r Q fun S2 σ2 Hs2 H2 p2 => k' S2 σ2 Hs2 H2 ?_
      intro s H C cl fp
      refine lts_one ((p2 s H C cl fp).mono fun b S3 ⟨f2, f3⟩ => ?_)
      cases b with
      | true =>
        show Blk X scope fun Y => LE Y pn elt S3 _
        intro s H C cl fp
        refine (f3 rfl s H C cl fp).mono fun R' S4 ⟨g1, g3⟩ => ⟨bs ++ [d], ?_, ?_, ?_⟩
        · rw [g1, List.map_append]; rfl
        · rw [take_snoc e]
          exact e2.append (List.Sublist.refl _)
        · rw [Nat.mul_succ]; omega
      | false =>
        show ∃ _, _
        refine ⟨bs, rfl, ?_, ?_⟩
        · rw [take_snoc e]
          exact e2.trans (List.sublist_append_left _ _)
        · rw [Nat.mul_succ]; omega
  · subst e1
    rw [List.length_map] at e2 e3
    rw [List.take_length] at e2
    exact q bs nn e2 e3
end DL
set_option Elab.async false
set_option linter.all false
set_option pp.maxSteps 400
set_option maxRecDepth 100000
set_option maxHeartbeats 4000000
/-! defs that run where nothing is being written out by repr (so repr gives the whole text): the law and what it calls -/
namespace DL
open PySem PySem.Spec L2
open PyProof.Rows hiding St
/-- nothing is being written out -/
abbrev Gd (A : Around) : Prop := A.guards = some []
theorem gd_deeper {A : Around} {env : Env} (h : Gd A) : Gd (A.deeper env) := h
/-- as FnOk, where nothing is being written out -/
structure FnG (P : Program) (w : World) (K : PySem.W.Frag) (mg : Str → Option Value) (base : Heap) (k : Nat) (f : Addr) (fd : FuncData) (ps : List Str) (sp : Sp) : Prop where
  len : ∀ vs H Q E, sp vs H Q E → vs.length = ps.length
  go : ∀ A, Gd A → Room k A → ∀ outer s H args us vs Q E, Env0 P w K mg base A outer s H → BindsTo s fd args (ps.zip us) → Vals vs us → sp vs H Q E →
    codeAny (model P w) A (.call (.ref f) args) (CR (L2.CX P w) outer P w H s Q E) s
section
variable {P : Program} {w : World} {K : PySem.W.Frag} {mg : Str → Option Value} {base : Heap}
theorem fn_g {x qual : Str} {st : Stmt} {f : Addr} {fd : FuncData} {N ps : List Str} {k : Nat} {sp : Sp} (Fd : Fun K x qual st f fd) (S : FnScope N ps (defScope st)) (hlen : ∀ vs H Q E, sp vs H Q E → vs.length = ps.length)
    (body : ∀ cdv A outer s H vs Q E, Gd (A.deeper (envOfC qual (defScope st) s.heap.objs.size f cdv)) → Room k (A.deeper (envOfC qual (defScope st) s.heap.objs.size f cdv)) → sp vs H Q E →
      ∃ t, PSs (cxOf (L2.CX P w) P w K mg base N qual (defScope st) f cdv A outer s H E) (defBody st) t ∧ t { nx := fun _ H' => Q .non H', rt := Q } (L2.start N vs) H) : FnG P w K mg base (k + 1) f fd ps sp := by
  obtain ⟨oc, od, kV, doc, pm, an, cdv, ct, osl, rfl, look, code⟩ := Fd.ex
  constructor
  · exact hlen
  intro A gd room outer s H args us vs Q E en bnd rel want
  have vl := hlen vs H Q E want
  have held : ∀ b o, base.get? b = some o → s.heap.get? b = some o := fun b o z => (en.bs b o z).1
  have kin := en.mod.kin.keeps held
  refine codeAny_call_function room.depth (kin _ _ look) rfl S.co S.gen rfl (PySem.W.codeRec_of kin code) (bnd _ _ _ _ ?_)
  refine wpAny_newFunctionEnv_cells S.kind (fun y hy => ?_) fun env henv s1 ic => ?_
  · obtain ⟨n, v⟩ := y
    rcases S.par n (List.of_mem_zip hy).1 with z | z
    · exact Or.inl z
    · exact Or.inr ⟨z, PySem.W.cellsFrom_some _ _ _ (Or.inl z)⟩
  cases henv
  refine ⟨(en.mod.nolimit.keeps held).keeps ic.toInCall.keep, codeAny_func ?_⟩
  obtain ⟨t, pt, tq⟩ := body cdv A outer s H vs Q E (gd_deeper gd) (room.deeper _) want
  have inv0 := inv_start (CX := L2.CX P w) (E := E) S room.hd en vl rel ic
  refine wpAny_mono (pt.run [] s1 (L2.start N vs) H _ inv0 tq) (fun fl s2 h => ?_) fun e s2 h => h
  match fl, h with
  | .ret u, ⟨v, σ2, H2, J, rv, q⟩ => exact ⟨v, H2, J.os, J.bare, J.base, J.hok, rv, q⟩
  | .next, ⟨σ2, H2, J, q⟩ => exact ⟨V.non, H2, J.os, J.bare, J.base, J.hok, rfl, q⟩
  | .brk, ⟨_, _, _, q⟩ => exact q.elim
  | .cont, ⟨_, _, _, q⟩ => exact q.elim
/-- a def that draws -/
theorem fn_penG {x qual : Str} {st : Stmt} {f : Addr} {fd : FuncData} {N ps : List Str} {m k : Nat} {F : WFn} (Fd : Fun K x qual st f fd) (S : FnScope N ps (defScope st)) (hps : ps.length = m + 1)
    (body : ∀ (cdv : Value) (A : Around) (outer : List Env) (s : Shared) (H : Hp) (E : XK) Rs R j n a, Gd (A.deeper (envOfC qual (defScope st) s.heap.objs.size f cdv)) → Room k (A.deeper (envOfC qual (defScope st) s.heap.objs.size f cdv)) → F Rs R j → n + j ≤ mostN →
      LB (bx P w K mg base N qual st f cdv A outer s H E) (some a) (defBody st) ⟨start0 N (vl (.ref a) :: Rs), n⟩ { nx := fun S' => vl .non = R ∧ S'.n ≤ n + j, rt := fun R' S' => R' = R ∧ S'.n ≤ n + j }) : FnG P w K mg base (k + 1) f fd ps (spW K m F) := by
  refine fn_g Fd S (fun vs H Q E h => ?_) fun cdv A outer s H vs Q E gd hr h => ?_
  · obtain ⟨c, a, n, Hs, rest, Rs, R, j, rfl, _, _, h1, h2, _⟩ := h
    rw [List.length_cons, ← h2.length, h1, hps]
  · obtain ⟨c, a, n, Hs, rest, Rs, R, j, rfl, w0, pn, h1, h2, h3, hn, h4⟩ := h
    refine ⟨_, PSs.nox (ps_wb (X := bx P w K mg base N qual st f cdv A outer s H E)), ?_⟩
    have o0 := start_ok (K := K) (N := N) (n := n) (Rs := vl (.ref a) :: Rs) w0 (.cons rfl h2)
    have o : StOK K (some a) ⟨Hs, H, c⟩ Hs ⟨start0 N (vl (.ref a) :: Rs), n⟩ (L2.start N (.ref a :: rest)) H := ⟨Ext.refl w0, o0.len, o0.sh, o0.ow, o0.ne, fun b hb => by
      cases hb
      obtain ⟨_, ns, t, r, e, _⟩ := id pn
      exact ⟨pn, fun z => by rw [show H a = none from z] at e; cases e⟩⟩
    refine body cdv A outer s H E Rs R j n a gd hr h3 hn ⟨Hs, H, c⟩ Hs _ H o _ ⟨fun S Hs' σ H' p o => ?_, fun R' S Hs' σ v H' p o r => ?_, fun _ _ _ _ p => p.elim, fun _ _ _ _ p => p.elim⟩
    · exact h4 .non Hs' H' o.e ((o.pen a rfl).1.le p.2) (by rw [← p.1]; rfl)
    · exact h4 v Hs' H' o.e ((o.pen a rfl).1.le p.2) (by rw [← p.1]; exact r)
/-- a def of the module that draws, where nothing is being written out -/
structure KnWG (P : Program) (w : World) (K : PySem.W.Frag) (mg : Str → Option Value) (base : Heap) (k : Nat) (x : Str) (m : Nat) (F : WFn) : Prop where
  ex : ∃ (f : Addr) (fd : FuncData) (ps : List Str), FnG P w K mg base k f fd ps (spW K m F) ∧ mg x = some (.ref f) ∧ PySem.W.keepIn K (.ref f) = true ∧ Binds K fd ps []
end
section
variable {X : Cx} {e : Expr} {es : List Expr} {S : LSt} {P : Th → LSt → Prop} {a : Addr} {pos : Pos}
theorem le_drawG {x : Str} {k m : Nat} {F : WFn} {p : Pos} (D : KnWG X.prog X.w X.K X.mg X.base k x m F) {j : Nat} (gd : Gd X.A) (hr : Room j X.A) (hk : k ≤ j) (h : LA X (some a) (e :: es) S fun Rs S1 => ∃ R Rs' i, Rs = vl (.ref a) :: Rs' ∧ F Rs' R i ∧ Rs'.length = m ∧ S1.n + i ≤ mostN ∧ P R ⟨S1.ρ, S1.n + i⟩)
    (hg : Gl X x := by rfl) (hdb : (x == ("__debug__" : Str)) = false := by decide) (he : starEach (e :: es) X.env = (false, eval e X.env) :: starEach es X.env := by rfl) (hpl : (backTo pos (starEach es X.env)).any (·.1) = false := by rfl) : LE X (some a) (.Call (.Name x p) (e :: es) [] pos) S P := by
  intro B Hs σ H o Q q
  obtain ⟨f, fd, ps, hf, hm, kp, hb⟩ := D.ex
  have pe : PE X (.Call (.Name x p) (e :: es) [] pos) (tCall (spW X.K m F) [] (fun _ _ _ => False) (WA X (e :: es))) := by
    constructor
    intro pins s σ H Q I h
    refine wpAny_Call_Name_kw (ld_glob I hg hm ?_ hdb)
    refine PySem.W.callWith_K (h₀ := X.base) I.ok.mod.kin kp (thn (pa_wa.run pos pins s σ H _ I h) fun us s1 ⟨vs, H1, I1, r, q⟩ => ⟨I1.kIn, ?_⟩) he hpl
    have q : spW X.K m F (vs ++ []) H1 Q (fun _ _ _ => False) := q
    rw [List.append_nil] at q
    have hl : us.length = ps.length := r.length.symm.trans (hf.len _ _ _ _ q)
    have bnd := hb s1 us I1.kIn (by rw [List.append_nil]; exact hl)
    rw [List.append_nil] at bnd
    refine wpAny_call (codeAny_mono (hf.go X.A gd (hr.mono hk) X.stack s1 H1 ⟨us, []⟩ us vs Q (fun _ _ _ => False) I1.env0 bnd r q) fun res s' hq => ?_)
    match res, hq with
    | .error e, hq => exact passL pins σ H1 s1 e s' I1 hq
    | .ok (.ret u), hq => exact I1.after hq
    | .ok .next, hq => exact (show False from hq).elim
    | .ok .brk, hq => exact (show False from hq).elim
    | .ok .cont, hq => exact (show False from hq).elim
  refine we_of pe (h B Hs σ H o _ fun Rs S1 vs Hs1 H1 h1 o1 e1 r1 => ?_)
  obtain ⟨R, Rs', i, rfl, h1, hl, hn, pp⟩ := h1
  cases r1 with
  | cons r1 r2 =>
    rename_i v0 rest
    cases (show v0 = V.ref a from r1)
    refine ⟨B.c, a, S1.n, Hs1, rest, Rs', R, i, by rw [List.append_nil], o1.w, (o1.pen a rfl).1, hl, r2, h1, hn, fun v Hs' H' x pen r => ?_⟩
    refine q R ⟨S1.ρ, S1.n + i⟩ v Hs' H' pp (o1.extN x fun b hb => ?_) (e1.trans x.s) r
    cases hb; exact pen
end
/-! ### the law's def -/
/-- what is kept of a heap without what is tracked in it -/
theorem hid_mod {K : PySem.W.Frag} {mg mb : Str → Option Value} {h : Heap} {H : Hp} (kx : K.In h) (g : h.Ns mainGlobals mg) (b : h.Ns builtinsNs mb) (bb : ∀ x : Str, x ≠ "__name__" → mb x = bootBuiltins x) (nl : h.NoLimit)
    (noD : ∀ c o es ep, h.get? c = some o → o.data = .dict es ep → H c = none) (noK : ∀ c o, K.lookup c = some o → H c = none) : Mod K mg (hidT h H) := by
  have ns : ∀ {c : Addr} {m : Str → Option Value}, h.Ns c m → (hidT h H).Ns c m := by
    rintro c m ⟨o, es, ep, e1, e2, e3⟩
    exact ⟨o, es, ep, hidT_get e1 (noD c o es ep e1 e2), e2, e3⟩
  obtain ⟨mc, l1, l2⟩ := nl
  exact ⟨fun c o e => hidT_get (kx c o e) (noK c o e), ns g, ⟨mb, ns b, bb⟩, ⟨mc, ns l1, l2⟩⟩
/-- the law's call, its def's promise told where nothing is being written out -/
theorem law_g {P : Program} {w : World} {K : PySem.W.Frag} {mg mb : Str → Option Value} {k : Nat} {fa a : Addr} {fd : FuncData} {x : Str} {sp : Sp} {s₁ : Shared} {vs : List Value} {ns : List Int}
    (kx : K.In s₁.heap) (hg : s₁.heap.Ns mainGlobals mg) (hb : s₁.heap.Ns builtinsNs mb) (hbb : ∀ x : Str, x ≠ "__name__" → mb x = bootBuiltins x) (hnl : s₁.heap.NoLimit) (hgen : s₁.gens = #[])
    (ha : s₁.heap.get? a = some { cls := .type "list", data := .seq vs.toArray }) (hi : IntsAre vs ns) (hl : ns.length ≤ sizeLine) (room : Room k callerA)
    (F : ∀ base : Heap, K.In base → base.Ns mainGlobals mg → FnG P w K mg base k fa fd [x] sp) (bnd : ∀ (s : Shared) (u : Value), BindsTo s fd ⟨[u], []⟩ [(x, u)])
    (want : ∀ H : Hp, Only H → SqL K H a (ns.map V.int) → sp [.ref a] H (fun v _ => v = .bl true) fun _ _ _ => False) :
    codeAny (model P w) callerA (.call (.ref fa) ⟨[.ref a], []⟩) (fun r s' => r = .ok (.ret (.bool true)) ∧ OldK s₁.heap s'.heap ∧ s'.os = s₁.os ∧ AllBare s'.gens) s₁ := by
  have hv := vals_ints hi
  have hlv := hi.length
  suffices go : ∀ H : Hp, Only H → SqL K H a (ns.map V.int) → HOk P w H s₁.heap → (∀ c u, H c = some u → c = a ∧ K.lookup a = none) →
      codeAny (model P w) callerA (.call (.ref fa) ⟨[.ref a], []⟩) (fun r s' => r = .ok (.ret (.bool true)) ∧ OldK s₁.heap s'.heap ∧ s'.os = s₁.os ∧ AllBare s'.gens) s₁ by
    cases look : K.lookup a with
    | none =>
      have at' : ∀ c u, (if c = a then some (HO.frz { cls := .type "list", data := .seq vs.toArray } (.lst (ns.map V.int))) else none) = some u → c = a ∧ u = HO.frz { cls := .type "list", data := .seq vs.toArray } (.lst (ns.map V.int)) := by
        intro c u z
        by_cases e : c = a
        · rw [if_pos e] at z; exact ⟨e, (Option.some.inj z).symm⟩
        · rw [if_neg e] at z; cases z
      refine go (fun c => if c = a then some (.frz { cls := .type "list", data := .seq vs.toArray } (.lst (ns.map V.int))) else none) (fun c => ?_) (Or.inl (Or.inr ⟨_, if_pos rfl⟩)) (fun c u z => ?_) fun c u z => ⟨(at' c u z).1, look⟩
      · by_cases e : c = a
        · exact Or.inr ⟨_, _, if_pos e⟩
        · exact Or.inl (if_neg e)
      · obtain ⟨rfl, rfl⟩ := at' c u z
        exact ⟨ha, by rw [List.length_map]; exact hl, vs, _, hv, ha⟩
    | some o =>
      have e := kx a o look
      rw [ha] at e
      cases e
      exact go (fun _ => none) (fun _ => Or.inl rfl) (Or.inr ⟨_, vs.toArray, _, look, rfl, rfl, rfl, by rw [List.size_toArray, hlv]; exact hl, by simpa using hv⟩) (fun c u z => by cases z) fun c u z => by cases z
  intro H only isl hok tr
  have m := hid_mod (H := H) kx hg hb hbb hnl (fun c o es ep e1 e2 => ?_) fun c o e => ?_
  · have en : Env0 P w K mg (hidT s₁.heap H) callerA [] s₁ H := ⟨rfl, m, fun c o e => of_hidT e, Nat.le_of_eq (hidT_size _ _), trivial, fun c z => absurd (show c ∈ ([] : List Addr) from z) (by simp), hok, .of_eq hgen⟩
    refine codeAny_mono ((F _ m.kin m.glob).go callerA rfl room [] s₁ H ⟨[.ref a], []⟩ [.ref a] [.ref a] _ _ en (bnd s₁ (.ref a)) (.cons rfl .nil) (want H only isl)) fun res s' h => ?_
    match res, h with
    | .error e, h =>
      obtain ⟨_, _, _, _, _, _, _, _, _, _, _, _, z⟩ := h
      exact z.elim
    | .ok .next, h => exact (show False from h).elim
    | .ok .brk, h => exact (show False from h).elim
    | .ok .cont, h => exact (show False from h).elim
    | .ok (.ret u), ⟨v, H', os, bare, un, hok', rv, q⟩ =>
      cases (show v = V.bl true from q)
      cases (show u = Value.bool true from rv)
      refine ⟨rfl, OldK.of_keep fun c o e => ?_, os, bare⟩
      cases z : H c with
      | none => exact un.keep c o e z (fun y => absurd (show c ∈ ([] : List Addr) from y) (by simp)) (by simp)
      | some u =>
        rcases only c with y | ⟨ob, xs, y⟩
        · rw [z] at y; cases y
        · have e1 := (hok c _ y).1
          rw [e] at e1
          cases e1
          exact (hok' c _ (un.frzs c _ _ y)).1
  · cases z : H c with
    | none => rfl
    | some u =>
      obtain ⟨rfl, _⟩ := tr c u z
      rw [ha] at e1
      cases e1
      have e2 : Data.seq vs.toArray _ = Data.dict es ep := e2
      cases e2
  · cases z : H c with
    | none => rfl
    | some u =>
      obtain ⟨rfl, y⟩ := tr c u z
      rw [y] at e; cases e
/-- the end: as walk_ofK, for a law's def that runs where nothing is being written out -/
theorem walk_g {l : PySem.W.OpenLaw} {n k : Nat} {q : Program} {loose : List Str} {XP : (Str → Option Value) → Heap → Prop} {YP : World → Heap → Prop} {d : DefRec} {K : Params → PySem.W.Frag} {sp : PySem.W.Frag → Sp} {x : Str}
    (hn : l.most = some n) (hn2 : n ≤ sizeLine) (hdf : d.params.defaults = []) (hr : Room k callerA) (hY : ∀ (w : World) (h : Heap), YP w h → (K w.params).In h)
    (F : ∀ (w : World) (mg : Str → Option Value) (fa : Addr) (h : Heap), (K w.params).In h → h.Ns mainGlobals mg → mg d.name = some (.ref fa) →
      ∃ fd : FuncData, (∀ (s : Shared) (u : Value), BindsTo s fd ⟨[u], []⟩ [(x, u)]) ∧ ∀ base : Heap, (K w.params).In base → base.Ns mainGlobals mg → FnG l.prog w (K w.params) mg base k fa fd [x] (sp (K w.params)))
    (hsp : ∀ (K : PySem.W.Frag) (H : Hp) (a : Addr) (ns : List Int), ns.length ≤ n → Only H → SqL K H a (ns.map V.int) → sp K [.ref a] H (fun v _ => v = .bl true) fun _ _ _ => False) :
    PySem.W.WalkO q loose XP YP l.row.toRowW d [] (fun f vs => PySem.call f vs) := by
  refine Att.attach_call hn hdf fun w s₀ s₁ mg mb fa o pm cd doc a vs ns G Y _ _ _ named obj iis len gens => ?_
  have kx := hY w _ Y
  obtain ⟨fd, bnd, hF⟩ := F w mg fa _ kx G.T.g named
  exact law_g kx G.T.g G.T.b G.T.builtins G.T.nolimit gens obj iis (Nat.le_trans len hn2) hr hF bnd fun H only isl => hsp _ H a ns len only isl
end DL
set_option Elab.async false
set_option linter.all false
set_option pp.maxSteps 400
set_option maxRecDepth 100000
set_option maxHeartbeats 4000000
/-! lots as data, and how long they are when written out -/
namespace DL
open PySem PySem.Spec L2
open PyProof.Rows hiding St
open PySem.W (Datum Tup)
def lotsD (ls : List (List Int)) : PyData := .tuple (ls.map fun l => .tuple (l.map PyData.int))
def lotsX (ls : List (List Int)) : Tup (Tup Int) := ⟨ls.map fun l => ⟨l⟩⟩
theorem lotsX_D (ls : List (List Int)) : Datum.toD (lotsX ls) = lotsD ls := by
  show PyData.tuple ((ls.map fun l => (⟨l⟩ : Tup Int)).map Datum.toD) = _
  unfold lotsD
  rw [List.map_map]; rfl
theorem lots_th (K : PySem.W.Frag) (ls : List (List Int)) : th K (lotsD ls) = lotsT K ls := by
  show tupT K (ths K _) = tupT K _
  rw [ths_map, List.map_map]
  congr 1
  refine List.map_congr_left fun l _ => ?_
  show tupT K (ths K _) = tupT K _
  rw [ths_map, List.map_map]; rfl
theorem lots_tD (K : PySem.W.Frag) (ls : List (List Int)) : lotsT K ls = tD K (lotsX ls) := by rw [← lots_th, ← lotsX_D]
structure SmL (ls : List (List Int)) : Prop where
  l : ls.length ≤ 4
  i : ∀ l ∈ ls, l.length ≤ 4 ∧ ∀ i ∈ l, 0 ≤ i ∧ i < 10
theorem digit {i : Int} (h : 0 ≤ i ∧ i < 10) : (PyData.int i).showable = true ∧ (PyData.shown (.int i)).length ≤ 1 := by
  have : i = 0 ∨ i = 1 ∨ i = 2 ∨ i = 3 ∨ i = 4 ∨ i = 5 ∨ i = 6 ∨ i = 7 ∨ i = 8 ∨ i = 9 := by omega
  rcases this with rfl | rfl | rfl | rfl | rfl | rfl | rfl | rfl | rfl | rfl <;> exact ⟨by decide +kernel, by decide +kernel⟩
theorem text_len (ts : List Str) : (tupleText ts).length ≤ piled ts + 3 := by
  unfold tupleText
  rw [strLen_append, strLen_append]
  have e1 : ((("(" : String) : Str)).length = 1 := rfl
  have e3 : (((if ts.length == 1 then ",)" else ")" : String) : Str)).length ≤ 2 := by split <;> decide
  rw [e1]
  by_cases h : ts = []
  · subst h
    have : (Str.join ", " []).length = 0 := by decide +kernel
    rw [this]; omega
  · have := join_length_add ts h
    omega
theorem ints_shown : ∀ {l : List Int}, (∀ i ∈ l, 0 ≤ i ∧ i < 10) → PyData.showableAll (l.map PyData.int) = true ∧ PyData.hasDictAll (l.map PyData.int) = false ∧ piled (PyData.shownAll (l.map PyData.int)) ≤ 3 * l.length
  | [], _ => ⟨by rw [List.map_nil, PyData.showableAll], by rw [List.map_nil, PyData.hasDictAll], by rw [List.map_nil, PyData.shownAll]; exact Nat.le_refl _⟩
  | i :: l, h => by
    obtain ⟨h1, h2, h3⟩ := ints_shown fun j hj => h j (List.mem_cons_of_mem _ hj)
    obtain ⟨d1, d2⟩ := digit (h i List.mem_cons_self)
    refine ⟨by rw [List.map_cons, PyData.showableAll, d1, h1]; rfl, by rw [List.map_cons, PyData.hasDictAll, h2, PyData.hasDict]; rfl, ?_⟩
    rw [List.map_cons, PyData.shownAll, piled_cons, List.length_cons]
    omega
theorem lots_shown {ls : List (List Int)} (h : SmL ls) : (lotsD ls).showable = true ∧ (lotsD ls).hasDict = false ∧ (lotsD ls).depth ≤ 60 ∧ (lotsD ls).shown.length ≤ sizeLine := by
  have main : ∀ {ls : List (List Int)}, (∀ l ∈ ls, l.length ≤ 4 ∧ ∀ i ∈ l, 0 ≤ i ∧ i < 10) → PyData.showableAll (ls.map fun l => .tuple (l.map PyData.int)) = true ∧ PyData.hasDictAll (ls.map fun l => .tuple (l.map PyData.int)) = false ∧ piled (PyData.shownAll (ls.map fun l => .tuple (l.map PyData.int))) ≤ 20 * ls.length := by
    intro ls
    induction ls with
    | nil => exact fun _ => ⟨by rw [List.map_nil, PyData.showableAll], by rw [List.map_nil, PyData.hasDictAll], by rw [List.map_nil, PyData.shownAll]; exact Nat.le_refl _⟩
    | cons l ls ih =>
      intro h
      obtain ⟨h1, h2, h3⟩ := ih fun j hj => h j (List.mem_cons_of_mem _ hj)
      obtain ⟨q1, q2⟩ := h l List.mem_cons_self
      obtain ⟨d1, d2, d3⟩ := ints_shown q2
      refine ⟨by rw [List.map_cons, PyData.showableAll, PyData.showable, d1, h1]; rfl, by rw [List.map_cons, PyData.hasDictAll, h2, PyData.hasDict, d2]; rfl, ?_⟩
      rw [List.map_cons, PyData.shownAll, piled_cons, List.length_cons, PyData.shown]
      have := text_len (PyData.shownAll (l.map PyData.int))
      omega
  obtain ⟨m1, m2, m3⟩ := main h.i
  refine ⟨?_, ?_, ?_, ?_⟩
  · unfold lotsD; rw [PyData.showable]; exact m1
  · unfold lotsD; rw [PyData.hasDict]; exact m2
  · rw [← lotsX_D]; exact Nat.le_trans (Datum.depth_le _) (by decide)
  · unfold lotsD
    rw [PyData.shown]
    have := text_len (PyData.shownAll (ls.map fun l => .tuple (l.map PyData.int)))
    have := h.l
    rw [sizeLine_eq]; omega
theorem clsOf_mem {r : Row} : ∀ (ms : List Nat), ∀ c ∈ clsOf r ms.reverse, ∀ i ∈ c.2, ∃ n ∈ ms, i = (n : Int)
  | [], c, hc => by cases hc
  | m :: ms, c, hc => by
    have ih := clsOf_mem (r := r) ms
    rw [List.reverse_cons, clsOf_snoc] at hc
    unfold addC at hc
    have up : ∀ {c : NestedKey × List Int}, c ∈ clsOf r ms.reverse → ∀ i ∈ c.2, ∃ n ∈ m :: ms, i = (n : Int) := fun hc i hi => let ⟨n, h1, h2⟩ := ih _ hc i hi; ⟨n, List.mem_cons_of_mem _ h1, h2⟩
    by_cases hk : keyOf (colF (outsOf r) m) ∈ (clsOf r ms.reverse).map Prod.fst
    · rw [if_pos hk] at hc
      obtain ⟨c0, h0, rfl⟩ := List.mem_map.mp hc
      by_cases e : c0.1 = keyOf (colF (outsOf r) m)
      · rw [if_pos e]
        intro i hi
        rcases List.mem_append.mp hi with hi | hi
        · exact up h0 i hi
        · exact ⟨m, List.mem_cons_self, List.mem_singleton.mp hi⟩
      · rw [if_neg e]; exact up h0
    · rw [if_neg hk] at hc
      rcases List.mem_append.mp hc with hc | hc
      · exact up hc
      · cases List.mem_singleton.mp hc
        exact fun i hi => ⟨m, List.mem_cons_self, List.mem_singleton.mp hi⟩
theorem clsOf_sm {r : Row} {ns : List Nat} (h1 : ns.length ≤ 4) (h2 : ∀ n ∈ ns, n < 4) : SmL ((clsOf r ns).map Prod.snd) := by
  obtain ⟨_, b2, b3⟩ := clsOf_all (r := r) ns
  refine ⟨by rw [List.length_map]; omega, fun l hl => ?_⟩
  obtain ⟨c, hc, rfl⟩ := List.mem_map.mp hl
  refine ⟨by have := b3 c hc; omega, fun i hi => ?_⟩
  have := clsOf_mem (r := r) ns.reverse
  rw [List.reverse_reverse] at this
  obtain ⟨n, hn, rfl⟩ := this c hc i hi
  have := h2 n (List.mem_reverse.mp hn)
  omega
end DL
set_option Elab.async false
set_option linter.all false
set_option pp.maxSteps 400
set_option maxRecDepth 100000
set_option maxHeartbeats 4000000
namespace DL
open PySem PySem.Spec L2
open PyProof.Rows hiding St
open PySem.W (Datum Tup)
section
variable {X : Cx} {pn : Option Addr} {e tg a : Expr} {S : LSt} {Q : Th → LSt → Prop} {PL : List Th → LSt → Prop} {p pos : Pos}
theorem li_range1N (hm : X.mg "range" = none) (h : LA X pn [a] S fun Rs S1 => ∃ n : Nat, Rs = [nT n] ∧ n ≤ 100000 ∧ PL ((List.range n).map nT) S1)
    (hg : Gl X "range" := by rfl) (hs : starEach [a] X.env = [(false, eval a X.env)] := by rfl) : LI X pn tg (.Call (.Name "range" p) [a] [] pos) S PL := by
  refine li_range1 hm (fun B Hs σ H o Q k => h B Hs σ H o Q fun Rs S1 vs Hs1 H1 ⟨n, e, hn, q⟩ => k Rs S1 vs Hs1 H1 ⟨(n : Int), e, by omega, by omega, ?_⟩) hg hs
  rw [Int.toNat_natCast, show (fun (i : Nat) => vl (V.int (0 + (i : Int)))) = nT from funext fun i => by rw [Int.zero_add]]
  exact q
/-- an answer by another name, with more draws -/
theorem le_asn (R0 : Th) (m : Nat) (h : LE X pn e S fun R S1 => R = R0 ∧ S1 = ⟨S.ρ, m⟩) (q : Q R0 ⟨S.ρ, m⟩) : LE X pn e S Q := h.mono fun R S1 ⟨e1, e2⟩ => by rw [e1, e2]; exact q
end
/-- a drawn knowledge -/
structure KnL (y : YardD) (ns : List Nat) : Prop where
  ne : ns ≠ []
  l : ns.length ≤ 4
  lt : ∀ n ∈ ns, n < y.ws.length
  up : upN ns = true
theorem upN_of : ∀ {ns : List Nat}, ns.Pairwise (· < ·) → upN ns = true
  | [], _ => rfl
  | [n], _ => rfl
  | a :: b :: ns, h => by
    obtain ⟨h1, h2⟩ := List.pairwise_cons.mp h
    unfold upN
    rw [decide_eq_true (h1 b List.mem_cons_self), upN_of h2]; rfl
theorem stay_some {y : YardD} {ns : List Nat} {goal : Nat} {ro : Option (List SR)} {b : Bool} (h : StayP y ns goal ro) (hb : b = true ↔ ∃ T, Good y ns goal T ∧ T goal = true) : b = !ro.isNone := by
  cases ro with
  | none =>
    cases b with
    | false => rfl
    | true =>
      obtain ⟨T, g, hT⟩ := hb.mp rfl
      rw [h T g] at hT; cases hT
  | some rows => exact hb.mpr h.2.2
theorem stay_same {y : YardD} {ns : List Nat} {goal : Nat} {ro ro2 : Option (List SR)} (h : StayP y ns goal ro) (h2 : StayP y ns goal ro2) : ro.isNone = ro2.isNone := by
  cases ro with
  | none =>
    cases ro2 with
    | none => rfl
    | some rows =>
      obtain ⟨T, g, hT⟩ := h2.2.2
      rw [h T g] at hT; cases hT
  | some rows =>
    cases ro2 with
    | some rows => rfl
    | none =>
      obtain ⟨T, g, hT⟩ := h.2.2
      rw [h2 T g] at hT; cases hT
theorem stay_isN {K : PySem.W.Frag} (ro : Option (List SR)) : ∀ (H : Hp) v, (stayT K ro).p H v → decide (v = V.non) = ro.isNone := fun H v h => by
  cases ro with
  | none => cases (show v = _ from h); rfl
  | some rows => exact nN_tup H v h
section
variable {P : Program} {w : World} {K : PySem.W.Frag} {mg : Str → Option Value} {base : Heap} {f C : Addr} {fd : FuncData}
abbrev st_right : Stmt := top 87
abbrev riN : List Str := ["pen", "yard", "state", "told", "world", "rows", "table", "one", "row"]
theorem sc_right : Scp riN ["pen"] st_right := ⟨rfl, rfl, rfl, by decide +kernel, rfl, by decide +kernel, by decide +kernel⟩
def fRight : WFn := fun Rs R k => Rs = [] ∧ R = bT true ∧ k = 140
theorem kn_right (F : Fun K "_law_right" "_law_right" st_right f fd) (hm : mg "_law_right" = some (.ref f)) (hb : Binds K fd ["pen"] []) (yc : YC K C) (b1 : Blt mg "range") (b2 : Blt mg "len") (b3 : Blt mg "tuple") (b4 : Blt mg "list") (b5 : Blt mg "repr") (b6 : Blt mg "set") (b7 : Blt mg "dict")
    (kd : KnW P w K mg base 1 "_law_draw" 1 fDraw) (ky : KnW P w K mg base 10 "_law_yard" 0 (fLYard K C)) (kc : Kn P w K mg base 5 "classes" (spP 3 (fClasses K C))) (kcK : KnK P w K mg base 5 "classes" ["knowledge", "state", "yard"] (spP 3 (fClasses K C)))
    (ks : Kn P w K mg base 8 "stay" (spP 3 (fStay K C))) (ksK : KnK P w K mg base 8 "stay" ["knowledge", "state", "yard"] (spP 3 (fStay K C))) (klc : Kn P w K mg base 1 "_law_classes" (spP 3 (fLClasses K C))) (klb : Kn P w K mg base 2 "_law_behind" (spP 3 (fLBehind K C)))
    (kls : Kn P w K mg base 1 "_law_stays" (spP 4 (fLStays P w K))) (kar : Kn P w K mg base 1 "_law_are_rows" (spP 2 (fAreRows K))) (klr : Kn P w K mg base 3 "_law_stay_right" (spP 4 (fLRight K C))) : KnWG P w K mg base 11 "_law_right" 0 fRight := by
  refine ⟨f, fd, ["pen"], ?_, hm, F.kp, hb⟩
  refine fn_penG F sc_right rfl fun cdv A outer s H E Rs R j n a gd hr h hn => ?_
  obtain ⟨rfl, rfl, rfl⟩ := h
  have hn : n + 140 ≤ 2000 := hn
  refine lb_cons <| l1_set (i := 1) (le_open <| le_draw ky hr (by decide) <| la_cons <| le_var (i := 0) rfl <| la_nil ⟨_, _, _, rfl, ⟨rfl, rfl, rfl⟩, rfl, by show n + 100 ≤ 2000; omega, rfl, fun y yl => ?_⟩) sc_right.nd
  have r7 := yl.sm
  have w4 := yl.ok.w2
  refine lb_cons <| l1_for [2] (li_lst <| le_lc (own := [("state", 2)]) (li_range1N b1 (la_cons <| le_cb call_len_seq b2 (by decide +kernel) <| la_cons <| le_fld <| le_var (i := 1) rfl ⟨_, _, _, rfl, yc.c, yc.n2, rfl, la_nil <| rc_len (.inl rfl) <| la_nil ⟨y.rows.length, by rw [List.length_map], by omega, ?_⟩⟩)) (bk (by decide +kernel)) sc_right.nd) .never
  refine lc_fil (List.range y.rows.length) nT nT (fun i => decide (V.str (kindS (rowAt y i)) = V.str "luck")) (by rw [List.length_range]; omega) (fun i hi => ?_) ?_
  · intro s H C0 cl fp
    refine lg_name (i := 2) ?_ sc_right.nd
    intro s H C0 cl fp
    obtain ⟨Ts, er⟩ := row0 K (rowAt y i)
    refine lt_cmp op_eq <| le_ix <| le_ix <| le_fld <| le_var (i := 1) rfl ⟨_, _, _, rfl, yc.c, yc.n2, rfl, le_var (i := 2) rfl ⟨_, _, _, .inl rfl, rfl, atRow (rowAt_get (List.mem_range.mp hi)), le_int ⟨_, _, _, .inl er, rfl, at0, le_str <| lr_eq rfl ⟨_, rfl, rfl, rfl, fun _ => ?_⟩⟩⟩⟩
    intro s H C0 cl fp
    exact le_var (i := 2) rfl ⟨rfl, rfl⟩
  refine ⟨_, rfl, ?_⟩
  have sl : ((List.range y.rows.length).filter fun i => decide (V.str (kindS (rowAt y i)) = V.str "luck")).length ≤ 7 := by
    have := List.length_filter_le (fun i => decide (V.str (kindS (rowAt y i)) = V.str "luck")) (List.range y.rows.length)
    rw [List.length_range] at this
    omega
  generalize hsts : ((List.range y.rows.length).filter fun i => decide (V.str (kindS (rowAt y i)) = V.str "luck")) = sts at sl
  refine ⟨fun i S => ∃ nn q2 q3 q5 q6 q7, S = ⟨[some (.sh (vl (.ref a))), some (.sh (yT K C y)), q2, q3, none, q5, q6, q7, none], nn⟩ ∧ nn ≤ n + 100 + 5 * i, ⟨_, none, none, none, none, none, rfl, by show n + 100 ≤ _; omega⟩, ?_, ?_⟩
  · rintro i R S2 hR ⟨nn, q2, q3, q5, q6, q7, rfl, hnn⟩
    rw [List.getElem?_map] at hR
    cases e : sts[i]? with
    | none => rw [e] at hR; cases hR
    | some st =>
      rw [e] at hR
      cases hR
      have hi := (List.getElem?_eq_some_iff.mp e).1
      have hst : st < y.rows.length ∧ ∃ os, rowAt y st = .luck os := by
        have := List.mem_of_getElem? e
        rw [← hsts] at this
        obtain ⟨h1, h2⟩ := List.mem_filter.mp this
        refine ⟨List.mem_range.mp h1, ?_⟩
        have h2 := of_decide_eq_true h2
        injection h2 with h2
        cases er : rowAt y st with
        | luck os => exact ⟨os, rfl⟩
        | mine as => rw [er] at h2; exact absurd h2 (by decide : ("mine" : Str) ≠ "luck")
        | foe as => rw [er] at h2; exact absurd h2 (by decide : ("foe" : Str) ≠ "luck")
        | fin => rw [er] at h2; exact absurd h2 (by decide : ("end" : Str) ≠ "luck")
      refine lg_name (i := 2) ?_ sc_right.nd
      refine lb_cons <| l1_set (i := 3) (le_ct call_tuple_of b3 (by decide +kernel) <| la_cons <| le_lc (own := [("world", 4)]) (li_range1N b1 (la_cons <| le_cb call_len_seq b2 (by decide +kernel) <| la_cons <| le_fld <| le_var (i := 1) rfl ⟨_, _, _, rfl, yc.c, yc.n1, rfl, la_nil <| rc_len (.inl rfl) <| la_nil ⟨y.ws.length, by rw [List.length_map], by omega, ?_⟩⟩)) (bk (by decide +kernel)) sc_right.nd) sc_right.nd
      have hi7 : i + 1 ≤ 7 := by omega
      refine lc_sub (ds := List.range y.ws.length) rfl nT 1 (by rw [List.length_range]; omega) (fun x hx mm hmm => ?_) fun bs mm sub hmm => ?_
      · have hmm : mm + 1 ≤ nn + 1 * (List.range y.ws.length).length := hmm
        rw [List.length_range] at hmm
        intro s H C0 cl fp
        refine lg_name (i := 4) ?_ sc_right.nd
        intro s H C0 cl fp
        refine lt_cmp op_gt <| le_open <| le_draw kd hr (by decide) <| la_cons <| le_var (i := 0) rfl <| la_cons <| le_int <| la_nil ⟨_, _, _, rfl, ⟨4, rfl, by decide, by decide, rfl, rfl⟩, rfl, by show mm + 1 ≤ 2000; omega, rfl, fun d hd => le_int <| lr_I0 ⟨_, rfl, Nat.le_refl _, fun _ => ?_⟩⟩
        intro s H C0 cl fp
        exact le_var (i := 4) rfl ⟨rfl, Nat.le_refl _⟩
      have hmm : mm ≤ nn + 1 * (List.range y.ws.length).length := hmm
      rw [List.length_range] at hmm
      refine la_nil <| rc_tuple (.inr rfl) ?_
      have bw : ∀ x ∈ bs, x < y.ws.length := fun x hx => List.mem_range.mp (sub.subset hx)
      have bl : bs.length ≤ 4 := by
        have := sub.length_le
        rw [List.length_range] at this
        omega
      have bu : upN bs = true := upN_of (List.pairwise_lt_range.sublist sub)
      refine lb_cons <| l1_set (i := 3) (le_asn (exT (KnL y) (kT K)) (mm + 1) (le_n (mm + 1) <| le_close (p := KnL y) (f := kT K) <| le_if <| lt_cmp (op_neD (ru hr)) <| le_var (i := 3) rfl <| le_tup <| la_nil ⟨zl (n := 0), ?_⟩) ?_) sc_right.nd
      · show LR2 _ _ _ (kT K bs) _ _ _
        rw [tT_k]
        refine lr_neT (x := (⟨bs.map fun (n : Nat) => (n : Int)⟩ : Tup Int)) (y := (⟨[]⟩ : Tup Int)) ⟨_, rfl, ite_b (fun hk => ?_) fun hk => ?_⟩
        · rw [tup_eq_nil, Bool.not_eq_true'] at hk
          exact le_var (i := 3) rfl ⟨bs, rfl, ⟨of_decide_eq_false hk, bl, bw, bu⟩, Nat.le_succ _, rfl, rfl⟩
        · refine le_tup <| la_cons <| le_open <| le_draw kd hr (by decide) <| la_cons <| le_var (i := 0) rfl <| la_cons <| le_cb call_len_seq b2 (by decide +kernel) <| la_cons <| le_fld <| le_var (i := 1) rfl ⟨_, _, _, rfl, yc.c, yc.n1, rfl, la_nil <| rc_len (.inl rfl) <| la_nil ⟨_, _, _, rfl, ⟨y.ws.length, by rw [List.length_map], yl.ok.w1, by omega, rfl, rfl⟩, rfl, by show mm + 1 ≤ 2000; omega, rfl, fun d hd => la_nil ⟨zl (n := 1), [d], rfl, ⟨by simp, (by show 1 ≤ 4; omega), fun x hx => (by cases List.mem_singleton.mp hx; exact hd), rfl⟩, Nat.le_refl _, rfl, rfl⟩⟩⟩
      · refine lb_open 3 rfl fun ns kn => ?_
        obtain ⟨hlt, os, eos⟩ := hst
        have sm : Sm y ns := ⟨yl.ok, by omega, kn.lt, by have := kn.l; omega⟩
        have ask : Ask y st ns := ⟨sm, hlt, ⟨os, eos⟩, kn.ne, by have := kn.l; omega, kn.lt, kn.up⟩
        have at0' : At y st (.luck os) ns := by rw [← eos]; exact sm.at hlt
        have at1 : At y st (rowAt y st) ns := sm.at hlt
        have sml : SmL ((clsOf (rowAt y st) ns).map Prod.snd) := clsOf_sm kn.l fun n hn => by have := kn.lt n hn; omega
        obtain ⟨s1, s2, s3, s4⟩ := lots_shown sml
        have isr : ∀ H v, (th K (lotsD ((clsOf (rowAt y st) ns).map Prod.snd))).p H v → ∃ a, v = .ref a := ref_tup
        refine lb_cons <| l1_if <| lt_ww <| lw_or <| lt_cmp op_ne <| le_cb (call_reprD gd (ru hr)) b5 (by decide +kernel) <| la_cons <| le_call kc hr (by decide) <| la_cons <| le_var (i := 1) rfl <| la_cons <| le_var (i := 2) rfl <| la_cons <| le_ct call_list_of b4 (by decide +kernel) <| la_cons <| le_var (i := 3) rfl <| la_nil <| rc_list (.inl rfl) <| la_nil ⟨_, ⟨y, st, ns, _, rfl, .inr rfl, ask, rfl⟩, rfl, la_nil ?_⟩
        rw [← lots_th]
        refine rc_repr isr s1 s2 s3 s4 <| le_cb (call_reprD gd (ru hr)) b5 (by decide +kernel) <| la_cons <| le_ct call_tuple_of b3 (by decide +kernel) <| la_cons <| le_call klc hr (by decide) <| la_cons <| le_var (i := 1) rfl <| la_cons <| le_var (i := 2) rfl <| la_cons <| le_var (i := 3) rfl <| la_nil ⟨_, ⟨y, st, os, ns, rfl, at0', rfl⟩, rfl, la_nil <| rc_tuple (.inr rfl) <| la_nil ?_⟩
        rw [← eos]
        show LRC _ _ _ [lotsT K ((clsOf (rowAt y st) ns).map Prod.snd)] _ _
        rw [← lots_th]
        refine rc_repr isr s1 s2 s3 s4 <| lr_ne rfl ⟨false, by rw [decide_eq_true rfl]; rfl, ?_⟩
        show LW _ _ _ _ _
        refine lw_or1 <| lt_cmp (op_neD (ru hr)) <| le_callK3 kcK hr (by decide) <| le_var (i := 3) rfl <| le_var (i := 2) rfl <| le_var (i := 1) rfl ⟨_, ⟨y, st, ns, _, rfl, .inl rfl, ask, rfl⟩, rfl, le_call kc hr (by decide) <| la_cons <| le_var (i := 1) rfl <| la_cons <| le_var (i := 2) rfl <| la_cons <| le_var (i := 3) rfl <| la_nil ⟨_, ⟨y, st, ns, _, rfl, .inl rfl, ask, rfl⟩, rfl, ?_⟩⟩
        rw [lots_tD]
        refine lr_neT ⟨false, by rw [decide_eq_true rfl]; rfl, ?_⟩
        show LB _ _ _ _ _
        refine lb_nil <| lb_cons <| l1_par2 (i := 5) (j := 6) (lo_sh <| le_open <| le_callK3 ksK hr (by decide) <| le_var (i := 3) rfl <| le_var (i := 2) rfl <| le_var (i := 1) rfl ⟨_, ⟨y, st, ns, _, rfl, .inl rfl, ask, yl.nf, rfl⟩, rfl, rfl, fun ro hro => lo_ow <| ln_dictN <| lo_nil ⟨rfl, ?_⟩⟩) sc_right.nd
        refine lb_cons <| l1_for [7] (li_range1N b1 (la_cons <| le_cb call_len_seq b2 (by decide +kernel) <| la_cons <| le_fld <| le_var (i := 1) rfl ⟨_, _, _, rfl, yc.c, yc.n2, rfl, la_nil <| rc_len (.inl rfl) <| la_nil ⟨y.rows.length, by rw [List.length_map], by omega, ?_⟩⟩)) .never
        refine ⟨fun i S => ∃ q7, S = ⟨[some (.sh (vl (.ref a))), some (.sh (yT K C y)), some (.sh (nT st)), some (.sh (kT K ns)), none, some (.sh (stayT K ro)), some (.ow (ownN P w K (tabL K y ns (List.range i)))), q7, none], mm + 1⟩, ⟨_, rfl⟩, ?_, ?_⟩
        · rintro j R S3 hR ⟨q7, rfl⟩
          rw [List.getElem?_map] at hR
          cases e : (List.range y.rows.length)[j]? with
          | none => rw [e] at hR; cases hR
          | some o =>
            rw [e] at hR
            cases hR
            have hj := (List.getElem?_eq_some_iff.mp e).1
            rw [List.length_range] at hj
            rw [List.getElem?_range hj] at e
            cases e
            obtain ⟨Ts, er⟩ := row0 K (rowAt y j)
            have aj := sm.at hj
            refine lg_name (i := 7) ?_ sc_right.nd
            refine lb_cons <| l1_ndput 6 ⟨_, rfl⟩ (le_tup <| la_cons <| le_ix <| le_ix <| le_fld <| le_var (i := 1) rfl ⟨_, _, _, rfl, yc.c, yc.n2, rfl, le_var (i := 7) rfl ⟨_, _, _, .inl rfl, rfl, atRow aj.row, le_int ⟨_, _, _, .inl er, rfl, at0, la_cons <| le_lc (own := [("row", 8)]) (li_lst <| le_call klb hr (by decide) <| la_cons <| le_var (i := 1) rfl <| la_cons <| le_var (i := 7) rfl <| la_cons <| le_var (i := 3) rfl <| la_nil ⟨_, ⟨y, j, rowAt y j, ns, rfl, aj, rfl⟩, rfl, _, rfl, ?_⟩) (bk (by decide +kernel)) sc_right.nd⟩⟩⟩) (ps_ndput (ru hr) (pv _) pe_we pe_we rfl)
            refine lc_map (behF (rowAt y j) ns) (edT K) (tgT K) (by have := beh_len aj; omega) (fun ed hed => ?_) ?_
            · intro s H C0 cl fp
              refine lg_name (i := 8) ?_ sc_right.nd
              intro s H C0 cl fp
              exact le_slT <| le_var (i := 8) rfl ⟨_, rfl, le_int ⟨_, rfl, (by show ¬ (HT.sIx 3 0 (some 1) = 0 ∧ HT.sIx 3 3 none = 3); decide), rfl, rfl⟩⟩
            · refine la_nil ⟨zl (n := 2), le_tup <| la_cons <| le_var (i := 7) rfl <| la_cons <| le_var (i := 3) rfl <| la_nil ⟨zl (n := 2), keyTab ns j, tabL K y ns (List.range j), (keyTab_th K ns j).symm, ref_tup, ref_tup, rfl, ?_, keyTab_depth ns j, ?_, lb_nil ?_⟩⟩
              · unfold tabL
                rw [List.length_map, List.length_range, sizeLine_eq]; omega
              · unfold tabL
                rw [List.map_map]
                intro z
                obtain ⟨x, hx, ex⟩ := List.mem_map.mp z
                have := keyTab_inj ex
                have := List.mem_range.mp hx
                omega
              · have et : tabL K y ns (List.range (j + 1)) = tabL K y ns (List.range j) ++ [(keyTab ns j, tupT K [sT (kindS (rowAt y j)), lstT ((behF (rowAt y j) ns).map (tgT K))])] := by
                  rw [List.range_succ]
                  unfold tabL
                  rw [List.map_append]; rfl
                dsimp only
                rw [et]
                exact ⟨_, rfl⟩
        · rintro S3 ⟨q7, rfl⟩
          rw [List.length_map, List.length_range]
          refine lb_shareN (i := 6) rfl <| lb_cons <| l1_if <| lt_ww <| lw_or <| lt_cmp op_ne <| le_notN <| le_var (i := 5) rfl ⟨ro.isNone, stay_isN ro, le_open <| le_call kls hr (by decide) <| la_cons <| le_var (i := 6) rfl <| la_cons <| le_var (i := 3) rfl <| la_cons <| le_var (i := 2) rfl <| la_cons <| le_listRg b4 b1 <| le_cb call_len_seq b2 (by decide +kernel) <| la_cons <| le_fld <| le_var (i := 1) rfl ⟨_, _, _, rfl, yc.c, yc.n2, rfl, la_nil <| rc_len (.inl rfl) ⟨y.rows.length, by rw [List.length_map], by omega, la_nil ⟨_, ⟨y, st, ns, rfl, sm, rfl⟩, rfl, rfl, fun b hb => lr_ne rfl ⟨false, ?_, ?_⟩⟩⟩⟩⟩
          · rw [stay_some hro hb]
            rw [decide_eq_true rfl]; rfl
          show LW _ _ _ _ _
          refine lw_or1 <| lt_cmp op_ne <| le_isN <| le_var (i := 5) rfl ⟨ro.isNone, stay_isN ro, le_isN <| le_open <| le_call ks hr (by decide) <| la_cons <| le_var (i := 1) rfl <| la_cons <| le_var (i := 2) rfl <| la_cons <| le_ct call_list_of b4 (by decide +kernel) <| la_cons <| le_var (i := 3) rfl <| la_nil <| rc_list (.inl rfl) <| la_nil ⟨_, ⟨y, st, ns, _, rfl, .inr rfl, ask, yl.nf, rfl⟩, rfl, rfl, fun ro2 hro2 => ⟨ro2.isNone, stay_isN ro2, lr_ne rfl ⟨false, ?_, ?_⟩⟩⟩⟩
          · rw [stay_same hro hro2, decide_eq_true rfl]; rfl
          show LB _ _ _ _ _
          refine lb_nil ?_
          cases ro with
          | none =>
            refine lb_cons <| l1_if <| lt_ww <| lw_and <| lt_notN <| le_var (i := 5) rfl ⟨true, nN_non, ?_⟩
            show LB _ _ _ _ _
            refine lb_nil <| lb_cons <| l1_if <| lt_ww <| lw_and <| lt_notN <| le_var (i := 5) rfl ⟨true, nN_non, ?_⟩
            show LB _ _ _ _ _
            refine lb_nil <| lb_nil ⟨mm + 1, _, _, _, _, _, rfl, by have := yl.ok.w2; omega⟩
          | some rows =>
            obtain ⟨rl, sr, _⟩ := hro
            refine lb_cons <| l1_if <| lt_ww <| lw_and <| lt_notN <| le_var (i := 5) rfl ⟨false, nN_tup, ?_⟩
            show LW _ _ _ _ _
            refine lw_and1 <| lt_ww <| lw_or <| lt_not <| lt_val <| le_call kar hr (by decide) <| la_cons <| le_var (i := 5) rfl <| la_cons <| le_int <| la_nil ⟨_, ⟨rows, rfl, by omega, rfl⟩, rfl, true, rfl, ?_⟩
            show LW _ _ _ _ _
            refine lw_or1 <| lt_cmp op_ne <| le_lenSet b2 b6 <| le_lc (own := [("row", 8)]) (li_tup <| le_var (i := 5) rfl ⟨rows.map (stT K), rfl, ?_⟩) (bk (by decide +kernel)) sc_right.nd
            refine lc_map rows (stT K) (fun r => nT r.1) (by omega) (fun r hr' => ?_) ?_
            · intro s H C0 cl fp
              refine lg_name (i := 8) ?_ sc_right.nd
              intro s H C0 cl fp
              exact le_ix <| le_var (i := 8) rfl <| le_int ⟨_, _, _, .inl rfl, rfl, at0, rfl, rfl⟩
            refine ⟨rows.map fun r => (r.1 : Int), by rw [List.map_map]; rfl, by rw [List.length_map]; omega, ?_, ?_⟩
            · have := List.pairwise_map.mp sr.nd
              exact List.pairwise_map.mpr (this.imp fun h z => h (Int.ofNat.inj z))
            refine le_cb call_len_seq b2 (by decide +kernel) <| la_cons <| le_var (i := 5) rfl <| la_nil <| rc_len (.inl rfl) <| lr_ne rfl ⟨false, ?_, ?_⟩
            · rw [List.length_map, List.length_map, decide_eq_true rfl]; rfl
            show LB _ _ _ _ _
            refine lb_nil <| lb_cons <| l1_if <| lt_ww <| lw_and <| lt_notN <| le_var (i := 5) rfl ⟨false, nN_tup, ?_⟩
            show LW _ _ _ _ _
            refine lw_and1 <| lt_not <| lt_val <| le_call klr hr (by decide) <| la_cons <| le_var (i := 1) rfl <| la_cons <| le_ct (call_dictP rfl) b7 (by decide +kernel) <| la_cons <| le_lc (own := [("row", 8)]) (li_tup <| le_var (i := 5) rfl ⟨rows.map (stT K), rfl, ?_⟩) (bk (by decide +kernel)) sc_right.nd
            refine lc_map rows (stT K) (fun r => tupT K [nT r.1, arT K r]) (by omega) (fun r hr' => ?_) ?_
            · intro s H C0 cl fp
              refine lg_name (i := 8) ?_ sc_right.nd
              intro s H C0 cl fp
              exact le_tup <| la_cons <| le_ix <| le_var (i := 8) rfl <| le_int ⟨_, _, _, .inl rfl, rfl, at0, la_cons <| le_slT <| le_var (i := 8) rfl ⟨_, rfl, le_int ⟨_, rfl, (by show ¬ (HT.sIx 3 0 (some 1) = 0 ∧ HT.sIx 3 3 none = 3); decide), la_nil ⟨zl (n := 2), rfl, rfl⟩⟩⟩⟩
            refine la_nil <| rc_dictP (ds := rows) (key := fun r => nK r.1) (g := arT K) ?_ ?_
            · have := List.pairwise_map.mp sr.nd
              exact List.pairwise_map.mpr (this.imp fun h z => h (nK_inj.mp z))
            refine la_cons <| le_var (i := 2) rfl <| la_cons <| le_var (i := 3) rfl <| la_nil ⟨_, ⟨y, st, ns, rows, rfl, sm, sr, rl, rfl⟩, rfl, true, rfl, ?_⟩
            show LB _ _ _ _ _
            refine lb_nil <| lb_nil ⟨mm + 1, _, _, _, _, _, rfl, by have := yl.ok.w2; omega⟩
  · rintro S2 ⟨nn, q2, q3, q5, q6, q7, rfl, hnn⟩
    rw [List.length_map] at hnn
    exact lb_cons <| l1_ret <| le_bl ⟨rfl, by show nn ≤ n + 140; omega⟩
end
end DL
set_option Elab.async false
set_option linter.all false
set_option maxRecDepth 100000
set_option maxHeartbeats 4000000
/-! An own exception's __init__ that calls super().__init__(x), then self.f = x. -/
namespace DL
open PySem PySem.Spec L2
open PyProof.Rows hiding St
/-- what super() within D's def asks of the class C of self -/
structure SupC (K : PySem.W.Frag) (C D : Addr) (fn : Str) : Prop where
  oc : OexC K C
  sub : PySem.W.mroIn K C (.ref D) = some true
  nx : PySem.W.ks_superIn K C D "__init__" = some (some (.builtin "ValueError.__init__"))
  ve : PySem.W.subIn K (.ref C) (.type "ValueError") = some true
  np : PySem.W.findIn K (.ref C) fn = some none
def spPE (K : PySem.W.Frag) (D : Addr) (fn : Str) : Sp := fun vs H Q _ => ∃ (a C : Addr) (p : Str), vs = [.ref a, .str p] ∧ SupC K C D fn ∧ H a = some (exo a C none) ∧
  ∀ d, H d = none → d ≠ a → Q .non (upd (upd H d (exd d [(fn, .str p)])) a (exo a C (some d)))
theorem upd_id {H : Hp} {a : Addr} {o : HO} (e : H a = some o) : upd H a o = H := by
  funext b
  by_cases hb : b = a
  · rw [hb, upd_same, e]
  · rw [upd_ne hb]
section
variable {X : Cx} {f cc cda D a C : Addr} {fn me par : Str} {fd : FuncData} {oc ccl cl : Value} {od cdd cld : Option Addr} {osl ccs csl : Array (Option Value)} {vs0 : Array Value} {file : Str} {tf : Tok} {ar : Arg} {cdD : ClassData} {p : Str}
  {p0 p1 p2 p3 p4 p5 q1 q2 q3 q4 : Pos} {σ : St} {H : Hp} {s : Shared}
abbrev perrB (fn me par : Str) (p0 p1 p2 p3 p4 p5 q1 q2 q3 q4 : Pos) : List Stmt := [.Expr (.Call (.Attribute (.Call (.Name "super" p0) [] [] p1) "__init__" p2) [.Name par p3] [] p4) p5, .Assign [.Attribute (.Name me q1) fn q2] (.Name par q3) q4]
theorem perr_walk (I : Inv X [] σ H s) (hfu : X.env.func = some f) (hco : X.env.code = .ref cda) (gs : Gl X "super") (hkc : X.env.kindOf "__class__" = some .free) (hcc : X.env.cells.lookup ("__class__" : Str) = some cc)
    (N0 : X.N[0]? = some me) (N1 : X.N[1]? = some par) (v0 : X.env.kindOf me = some .local) (v1 : X.env.kindOf par = some .local) (s0 : σ[0]? = some (some (.ref a))) (s1 : σ[1]? = some (some (.str p)))
    (lk : X.K.lookup f = some ⟨oc, od, .func fd, osl⟩) (hp : (fd.params.posonlyargs ++ fd.params.args).head? = some ar) (har : ar.arg = me) (hcode : X.K.lookup cda = some ⟨ccl, cdd, .fields vs0, ccs⟩) (hvs : vs0[2]? = some (.str file tf)) (hfile : ((X.prog.main.file : Str) == file) = true)
    (hcell : X.K.lookup cc = some ⟨cl, cld, .cell (some (.ref D)), csl⟩) (hD : PySem.W.clsIn X.K D = some cdD) (hsm : X.mg "super" = none) (hst : PySem.W.nsIn X.K cStatics "thirdparty.any" = some none)
    (htop : (X.prog.main.scope.names.lookup ("super" : Str)).isSome = false) (T : SupC X.K C D fn) (ha : H a = some (exo a C none)) (hint : interactive X.env = false)
    (sw1 : swapsWith (.Call (.Attribute (.Call (.Name "super" p0) [] [] p1) "__init__" p2) [.Name par p3] [] p4) none p5.line X.env = pure false) (sw2 : swapsWith (.Name par q3) (some (.Attribute (.Name me q1) fn q2)) q4.line X.env = pure false)
    {pl : Sem Bool} (hev : eval (.Call (.Attribute (.Call (.Name "super" p0) [] [] p1) "__init__" p2) [.Name par p3] [] p4) X.env = (do
      let ov ← attributeBase (.Call (.Name "super" p0) [] [] p1) "__init__" X.env (eval (.Call (.Name "super" p0) [] [] p1) X.env)
      standAt p2.atName
      let (f, first) ← holding [ov] (getMethod ov "__init__" pl)
      callWith p4 f first (backTo p4 (starEach [.Name par p3] X.env)) []))
    (hm1 : (me == ("__debug__" : Str)) = false) (hm2 : (me == ("__classdict__" : Str)) = false) (hp1 : (par == ("__debug__" : Str)) = false) (hp2 : (par == ("__classdict__" : Str)) = false)
    {D0 : Ends} (q : ∀ d, H d = none → d ≠ a → D0.nx σ (upd (upd H d (exd d [(fn, .str p)])) a (exo a C (some d)))) :
    _root_.PySem.wpAt (model X.prog X.w) X.A (.func (perrB fn me par p0 p1 p2 p3 p4 p5 q1 q2 q3 q4) X.env) (execs (perrB fn me par p0 p1 p2 p3 p4 p5 q1 q2 q3 q4) X.env) (SP X [] D0) X.xe s := by
  obtain ⟨oD, hD1, hD2⟩ : ∃ oD, s.heap.get? D = some oD ∧ oD.data = .cls cdD := by
    unfold PySem.W.clsIn at hD
    split at hD
    · rename_i c d cd' sl ho
      cases hD
      exact ⟨_, I.kIn _ _ ho, rfl⟩
    · cases hD
  obtain ⟨t1, hx⟩ := exo_at I.hok ha
  have hns : ∃ m, s.heap.Ns X.env.locals m ∧ m me = some (.ref a) := by
    obtain ⟨m, hn, hl⟩ := I.loc
    obtain ⟨u, r, l⟩ := hl 0 me (.ref a) N0 s0 (.inl v0)
    obtain rfl : u = .ref a := r
    rcases l with ⟨_, e⟩ | ⟨hk, _⟩
    · exact ⟨m, hn, e⟩
    · rw [v0] at hk; rcases hk with hk | hk <;> cases hk
  obtain ⟨m, hn, hme⟩ := hns
  have IA : PySem.W.InstAt s.heap a _ C none := ⟨hx, rfl, rfl, trivial⟩
  obtain ⟨mb, b1, b2⟩ := I.mod.blt
  obtain ⟨nm, qn, N, bs, bm, sn, sub, ab, col, dd, k0, k1, k2, k3, k5, hC0, hbm⟩ := T.oc.cls
  have hcl : PySem.W.clsIn X.K C = some { name := nm, bases := bs, mro := .ref C :: bm, ns := N, qualname := qn, hasDict := true, slotNames := sn, subclasses := sub, abstract := ab, collection := col, hasDel := false } := by unfold PySem.W.clsIn; rw [hC0] <;> rfl
  have nx := T.nx
  unfold PySem.W.ks_superIn at nx
  rw [hcl] at nx
  refine PySem.ks_wpAt_execs_cons (PySem.ks_wpAt_Expr_any (PySem.ks_wpAt_MethodCall ?_ hev) hint sw1)
  refine PySem.ks_wpAt_super_base gs hkc rfl hfu (I.kIn _ _ lk) rfl hp hco (I.kIn _ _ hcode) rfl hvs hfile htop ?_
  refine PySem.W.ks_loadName_global I.ok.kind gs (Calls.loadGlobal_builtin (by rw [I.ok.glob]; exact I.mod.glob.keeps I.bk) hsm (by rw [I.ok.blt]; exact b1.keeps I.bk) ((b2 _ (by decide)).trans (by decide +kernel)) ⟨rfl, ?_⟩)
  refine wpAny_loadName_free I.ok.kind hkc hcc ⟨_, I.kIn _ _ hcell, rfl⟩ ?_
  rw [har]
  refine wpAny_loadName_local I.ok.kind v0 hn hme ?_
  refine PySem.ks_wpAny_isType_cls hD1 hD2 ⟨rfl, ?_⟩
  obtain ⟨hh, g, d, t, os⟩ := s
  refine PySem.ks_wpAny_call_super hD1 hD2 hx rfl (fun c e => by cases e) (PySem.W.looks_mroIn I.kIn T.sub) fun h' e k => ?_
  have I1 : Inv X [] σ H ⟨h', g, d, t, os⟩ := I.kept (t' := t) k
  have IA1 : PySem.W.InstAt h' a _ C none := ⟨k _ _ hx, rfl, rfl, trivial⟩
  refine PySem.W.kxs_getMethod PySem.W.kxs_ValueError e (PySem.W.looks_opaque I1.kIn hst) (l₀ := .ref C :: bm) (fun A Q E s k q => wpAny_bind ((PySem.W.looks_clsIn I1.kIn hcl) A _ E s k (wpAny_pure q))) rfl I1.kIn nx (IA1.type.andThen (PySem.W.looks_subIn I1.kIn T.ve)) (PySem.W.ks_ne I1.kIn IA1 hcl) rfl ?_
  have I2 : Inv X [] σ H ⟨h'.push (PySem.W.kxs_mw "ValueError.__init__" a), g, d, t + 1, os⟩ := I1.kept (t' := t + 1) fun b o z => Heap.get?_push_of_some _ z
  have hu : (h'.push (PySem.W.kxs_mw "ValueError.__init__" a)).get? h'.objs.size = some (PySem.W.kxs_mw "ValueError.__init__" a) := Heap.get?_push_at rfl rfl
  have I3 : Inv X [(h'.objs.size, PySem.W.kxs_mw "ValueError.__init__" a)] σ H ⟨h'.push (PySem.W.kxs_mw "ValueError.__init__" a), g, d, t + 1, os⟩ := I2.pins_of fun q hq => by
    have hq : q = (h'.objs.size, PySem.W.kxs_mw "ValueError.__init__" a) := by simpa using hq
    subst hq
    exact ⟨hu, I1.hok.fresh (Nat.le_refl _), fun z => absurd I1.lt (by rw [← z]; exact Nat.lt_irrefl _), I1.nofs (Nat.le_refl _), fun v z => by cases z⟩
  have he : starEach [Expr.Name par p3] X.env = (false, eval (.Name par p3) X.env) :: starEach [] X.env := rfl
  show wpAny _ _ (callWith p4 (.ref h'.objs.size) [] (backTo p4 (starEach [Expr.Name par p3] X.env)) []) _ _ _
  have A1 := (pa_cons (X := X) (pe_var (pos := p3) N1 (.inl v1) hp1 hp2) pa_nil he).run p4 [(h'.objs.size, PySem.W.kxs_mw "ValueError.__init__" a)] _ σ H (fun vs H1 => vs = [.str p] ∧ H1 = H) I3 ⟨_, s1, rfl, rfl⟩
  rw [he] at A1 ⊢
  refine PySem.W.kxs_callWith (i := "ValueError.__init__") (x := a) rfl (Calls.evalArgs_plain (thn A1 fun us s4 hus => ?_))
  obtain ⟨vs, H1, I4, rv, ⟨rfl, rfl⟩⟩ := hus
  have hu4 := (I4.pin (h'.objs.size, PySem.W.kxs_mw "ValueError.__init__" a) (List.mem_append_right _ (by simp))).1
  refine ⟨hu4, ?_⟩
  obtain ⟨t4, hx4⟩ := exo_at I4.hok ha
  have hC4 := I4.kIn _ _ hC0
  have hlen : ([] ++ us).length ≤ sizeLine := by
    have : us.length = 1 := by rw [← Paired.length rv]; rfl
    rw [List.nil_append, this, sizeLine_eq]; omega
  obtain ⟨h4, g4, d4, tk4, os4⟩ := s4
  refine wpAny_call (codeAny_of_tree ?_)
  show wpAny _ X.A.in1 (callAny (.ref h'.objs.size) ⟨[] ++ us, []⟩) _ _ _
  simp only [callAny]
  refine wpAny_bind (wpAny_load hu4 ?_)
  simp only [PySem.W.kxs_mw, show (Value.type "method-wrapper" == Value.type "method" || Value.type "method-wrapper" == Value.type "builtin_function_or_method" || Value.type "method-wrapper" == Value.type "method-wrapper") = true by decide, if_true]
  refine PySem.W.KFB.if_so (by decide) ?_
  refine wpAny_bind (PySem.W.check_bound_init F.excBase_ValueError.toExcCallFacts hC4 hx4 rfl ?_)
  refine wpAny_bind (wpAny_pure (wpAny_pure ?_))
  refine ⟨plainId_quiet F.excBase_ValueError.init.plain _, codeAny_builtin F.excBase_ValueError.initEntry ?_⟩
  refine PySem.W.exc_init_tree (cls := .ref C) (t0 := t4) (dv := none) (c2 := .none) (c3 := .none) (b4 := .bool false) hx4 hlen fun h5 k5' e5 _ => ?_
  have J := I4.write (t' := tk4) (x := a) (e := a) (o := exo a C none) (by rw [ha]; exact True.intro) (.inl rfl) k5' ⟨_, e5⟩ (exo_ok e5)
  rw [upd_id ha] at J
  show _root_.PySem.wpAt _ _ _ (execs [.Assign [.Attribute (.Name me q1) fn q2] (.Name par q3) q4] X.env) _ _ _
  refine wpAt_of_wpAny ?_
  refine thn ((pss_one (ps_ost (X := X) (f := fn) (pe_var (pos := q1) N0 (.inl v0) hm1 hm2) (pe_var (pos := q3) N1 (.inl v1) hp1 hp2) sw2)).run [(h'.objs.size, PySem.W.kxs_mw "ValueError.__init__" a)] _ σ H1 D0 J ⟨_, s1, _, s0, a, C, rfl, T.oc, T.np, .inl ⟨ha, fun dx n ne => q dx n ne⟩⟩) fun fl s6 hs => ?_
  have un : ∀ {σ' : St} {H' : Hp}, Inv X [(h'.objs.size, PySem.W.kxs_mw "ValueError.__init__" a)] σ' H' s6 → Inv X [] σ' H' s6 := fun I => I.pins_of fun p hp => absurd hp (by simp)
  cases fl with
  | next => obtain ⟨σ', H', I', z⟩ := hs; exact ⟨σ', H', un I', z⟩
  | brk => obtain ⟨σ', H', I', z⟩ := hs; exact ⟨σ', H', un I', z⟩
  | cont => obtain ⟨σ', H', I', z⟩ := hs; exact ⟨σ', H', un I', z⟩
  | ret u => obtain ⟨v, σ', H', I', r, z⟩ := hs; exact ⟨v, σ', H', un I', r, z⟩
end
theorem inter_fn {env : Env} (h : env.scope.kind = .function) : interactive env = false := by
  unfold interactive
  rw [h]; rfl
theorem meth_pos {o : Expr} {n : Str} {env : Env} {e : Expr} {p2 p4 : Pos} (h : (p2.endLine == p4.line) = true) (hs : starEach [e] env = [(false, eval e env)]) : eval (.Call (.Attribute o n p2) [e] [] p4) env = (do
      let ov ← attributeBase o n env (eval o env)
      standAt p2.atName
      let (f, first) ← holding [ov] (getMethod ov n (do return (← importBound o env).getD true))
      callWith p4 f first (backTo p4 (starEach [e] env)) []) := by
  show (do
    let ov ← attributeBase o n env (eval o env)
    standAt p2.atName
    methodCall o n p2 p4 env ov 1 (backTo p4 (starEach [e] env)) []) = _
  unfold methodCall methodCallPos calleeOf
  rw [h, hs]
  rfl
/-- the def at f -/
structure PErr (P : Program) (K : PySem.W.Frag) (mg : Str → Option Value) (f D : Addr) (fd : FuncData) (qual fn me par : Str) (body : List Stmt) : Prop where
  ex : ∃ (oc : Value) (od : Option Addr) (name : Str) (params : Arguments) (scope : Scope) (dV kV doc pm : Value) (an : Option Addr) (cda cc : Addr) (ct : Value) (osl : Array (Option Value)) (ccl : Value) (cdd : Option Addr) (vs0 : Array Value) (ccs : Array (Option Value)) (file : Str) (tf : Tok) (cl : Value) (cld : Option Addr) (csl : Array (Option Value)) (ar : Arg),
    fd = PySem.W.ksFn name qual params body scope dV kV doc pm an (.ref cda) ct cc ∧ K.lookup f = some ⟨oc, od, .func fd, osl⟩ ∧ PySem.W.codeIn K (.ref cda) qual = true ∧ NdefX.nscB [me, par, "__class__"] [me, par] ["__class__"] scope = true ∧
    (params.posonlyargs ++ params.args).head? = some ar ∧ ar.arg = me ∧ K.lookup cda = some ⟨ccl, cdd, .fields vs0, ccs⟩ ∧ vs0[2]? = some (.str file tf) ∧ ((P.main.file : Str) == file) = true ∧
    K.lookup cc = some ⟨cl, cld, .cell (some (.ref D)), csl⟩ ∧ scope.names.lookup ("super" : Str) = some .globalImplicit
  cD : (PySem.W.clsIn K D).isSome = true
  st : PySem.W.nsIn K cStatics "thirdparty.any" = some none
  tp : (P.main.scope.names.lookup ("super" : Str)).isSome = false
  sm : mg "super" = none
section
variable {P : Program} {w : World} {K : PySem.W.Frag} {mg : Str → Option Value} {base : Heap}
theorem fn_perr {f D : Addr} {fd : FuncData} {qual fn : Str} {p0 p1 p2 p3 p4 p5 q1 q2 q3 q4 : Pos} (F : PErr P K mg f D fd qual fn "self" "part" (perrB fn "self" "part" p0 p1 p2 p3 p4 p5 q1 q2 q3 q4)) (hpl : (p2.endLine == p4.line) = true) : FnOk P w K mg base (L2.CX P w) 1 f fd ["self", "part"] (spPE K D fn) := by
  obtain ⟨⟨oc, od, name, params, scope, dV, kV, doc, pm, an, cda, cc, ct, osl, ccl, cdd, vs0, ccs, file, tf, cl, cld, csl, ar, rfl, lk, hcd, S, hp, har, hcode, hvs, hfile, hcell, hks⟩, hD, hst, htop, hsm⟩ := F
  have S := NdefX.nscope_by S
  obtain ⟨cdD, hD⟩ := Option.isSome_iff_exists.mp hD
  refine ⟨fun vs H Q E ⟨a, C, p, e, _⟩ => by rw [e]; rfl, fun A outer s H args us vs Q E hr e0 hb r hsp => ?_⟩
  obtain ⟨a, C, p, rfl, T, ha, hq⟩ := hsp
  have KX : K.In s.heap := e0.mod.kin.keeps fun b o e => (e0.bs b o e).1
  have lim : s.heap.NoLimit := e0.mod.nolimit.keeps fun b o e => (e0.bs b o e).1
  refine codeAny_call_function hr.depth (KX _ _ lk) rfl S.co S.gen rfl (PySem.W.codeRec_of KX hcd) (hb _ _ _ _ ?_)
  refine wpAny_newFunctionEnv S.nocell (fun ⟨n, _⟩ hy => S.par n (List.of_mem_zip hy).1) (fun h₁ hns hsb => ⟨lim.fresh _ hsb, ?_⟩) S.kind
  have kp : ∀ b o, s.heap.get? b = some o → h₁.get? b = some o := fun b o e => hsb.extBut b o (Nat.ne_of_lt (Heap.lt_size e)) (Heap.get?_push_of_some _ e)
  have bcell : base.get? cc = some ⟨cl, cld, .cell (some (.ref D)), csl⟩ := e0.mod.kin _ _ hcell
  have CA : NdefX.CellsAt [("__class__", cc)] ["__class__"] [none] s.heap H := by
    have lkc : ∀ (y : Str) c, [(("__class__" : Str), cc)].lookup y = some c → y = "__class__" ∧ c = cc := fun y c e => by
      by_cases hy : y = "__class__"
      · subst hy
        simp [List.lookup] at e
        exact ⟨rfl, e.symm⟩
      · have hy' : (y == ("__class__" : Str)) = false := by simpa using hy
        simp [List.lookup, hy'] at e
    refine ⟨rfl, fun y c e => ?_, fun x y c e1 e2 => (lkc _ _ e1).1.trans (lkc _ _ e2).1.symm, fun i y hi => ?_⟩
    · obtain ⟨_, rfl⟩ := lkc y c e
      exact ⟨(e0.bs _ _ bcell).2, _, _, (e0.bs _ _ bcell).1, rfl⟩
    · cases i with
      | zero =>
        have : y = "__class__" := by simpa using hi.symm
        subst this
        refine ⟨cc, by simp [List.lookup], fun v hv => ?_⟩
        simp at hv
      | succ i => simp at hi
  have I := NdefX.inv_startN (CX := L2.CX P w) (P := P) (w := w) (K := K) (mg := mg) (base := base) (A := A) (outer := outer) (E := E) (f := f) (us := us) (vs := [.ref a, .str p]) (F := ⟨name, qual, params, perrB fn "self" "part" p0 p1 p2 p3 p4 p5 q1 q2 q3 q4, scope, [("__class__", cc)], cda⟩)
    (ws := [none]) (tk := s.toks + (([("self" : Str), "part"] : List Str).zip us).length) S hr.hd e0 rfl r CA hns kp
  refine PySem.ks_codeAny_funcAt ?_
  have W := perr_walk (fn := fn) (me := "self") (par := "part") (p0 := p0) (p1 := p1) (p2 := p2) (p3 := p3) (p4 := p4) (p5 := p5) (q1 := q1) (q2 := q2) (q3 := q3) (q4 := q4) (D0 := { nx := fun _ H' => Q .non H', rt := Q }) I (f := f) (cda := cda) (cc := cc) (D := D) (a := a) (C := C) (p := p) rfl rfl hks (S.frk "__class__" (by simp)) (show List.lookup ("__class__" : Str) [(("__class__" : Str), cc)] = some cc by simp [List.lookup]) rfl rfl (S.par "self" (by simp)) (S.par "part" (by simp)) rfl rfl lk hp har hcode hvs hfile hcell hD hsm hst htop T ha (inter_fn S.kind) rfl rfl (meth_pos hpl rfl) (by decide) (by decide) (by decide) (by decide) hq
  refine PySem.ks_wpAt_mono W (fun fl s' hs => ?_) fun e s' hs => hs
  have fin : ∀ {σ' : St} {H' : Hp} {v : V} {u : Value}, Inv (NdefX.ncx (L2.CX P w) P w K mg base ["self", "part", "__class__"] ⟨name, qual, params, perrB fn "self" "part" p0 p1 p2 p3 p4 p5 q1 q2 q3 q4, scope, [("__class__", cc)], cda⟩ f A outer s H E) [] σ' H' s' → RelV v u → Q v H' → CE outer P w H s Q u s' := fun {σ' H' v u} J rv q => ⟨v, H', J.os, J.bare, J.base, J.hok, rv, q⟩
  cases fl with
  | ret u =>
    obtain ⟨v, σ', H', J, rv, q⟩ := hs
    exact fin J rv q
  | next =>
    obtain ⟨σ', H', J, q⟩ := hs
    exact fin (v := V.non) (u := Value.none) J rfl q
  | brk =>
    obtain ⟨_, _, _, q⟩ := hs
    exact False.elim q
  | cont =>
    obtain ⟨_, _, _, q⟩ := hs
    exact False.elim q
end
end DL
set_option Elab.async false
set_option linter.all false
set_option maxRecDepth 100000
set_option maxHeartbeats 4000000
/-! Defs that refuse: judgements at one base, for code that only ends by an exception. -/
namespace DL
open PySem PySem.Spec L2
open PyProof.Rows hiding St
/-- the dict of a refusal that tells p -/
abbrev parD (p : Str) : HO := .xd [("part", .str p)]
/-- what is wanted of an exception (class C, part p) that leaves X, begun at B -/
def Wish (X : Cx) (B : Base) (C : Addr) (p : Str) : Prop := ∃ W : WX, Takes X W ∧ ∀ d σ Hs' H', Ext none B.s B.h Hs' H' → Hs' d = some (parD p) → W (.ref C) (some d) σ H'
def RE (X : Cx) (B : Base) (e : Expr) (S : LSt) : Prop := ∀ Hs σ H, StOK X.K none B Hs S σ H → ∀ Q : VK, WE X e σ H Q
def RA (X : Cx) (B : Base) (es : List Expr) (S : LSt) : Prop := ∀ Hs σ H, StOK X.K none B Hs S σ H → ∀ Q : List V → Hp → Prop, WA X es σ H Q
def R1 (X : Cx) (B : Base) (st : Stmt) (S : LSt) : Prop := ∀ Hs σ H, StOK X.K none B Hs S σ H → ∀ E : Ends, WS X st E σ H
def RB (X : Cx) (B : Base) (sts : List Stmt) (S : LSt) : Prop := ∀ Hs σ H, StOK X.K none B Hs S σ H → ∀ E : Ends, WB X sts E σ H
/-- the promise of a def that refuses -/
abbrev RFn := List Th → Addr → Str → Prop
def spR (m : Nat) (G : RFn) : Sp := fun vs H _ E => ∃ Hs Rs C p, Same Hs H ∧ Rs.length = m ∧ Alls Hs Rs vs ∧ G Rs C p ∧ ∀ d Hs' H', Ext none Hs H Hs' H' → Hs' d = some (parD p) → E (.ref C) (some d) H'
/-- an own exception's class, made by x("..") -/
structure XCls (P : Program) (w : World) (K : PySem.W.Frag) (mg : Str → Option Value) (base : Heap) (x : Str) (C : Addr) : Prop where
  ex : ∃ (D fI : Addr) (fd : FuncData), SupC K C D "part" ∧ PySem.W.findIn K (.ref C) "__init__" = some (some (.ref fI)) ∧ PySem.W.typeIn K (.ref fI) = some (.type "function") ∧ FnOk P w K mg base (L2.CX P w) 1 fI fd ["self", "part"] (spPE K D "part") ∧ Binds K fd ["self", "part"] []
  at_ : mg x = some (.ref C)
section
variable {X : Cx} {B : Base} {a b c e : Expr} {es : List Expr} {st : Stmt} {sts sts' : List Stmt} {pos pos2 p p1 : Pos} {S : LSt}
theorem rb_r (h : R1 X B st S) : RB X B (st :: sts) S := fun Hs σ H o E => wb_of (pss_cons ps_ws ps_wb) (h Hs σ H o _)
theorem rb_l (h : L1 X none st S { nx := fun S1 => RB X B sts S1, rt := fun _ _ => False }) : RB X B (st :: sts) S := by
  intro Hs σ H o E
  exact wb_of (pss_cons ps_ws ps_wb) (h B Hs σ H o _ ⟨fun S1 Hs1 σ1 H1 p o1 => p Hs1 σ1 H1 o1 E, fun _ _ _ _ _ _ p => p.elim, fun _ _ _ _ p => p.elim, fun _ _ _ _ p => p.elim⟩)
theorem r1_if (h : LT X none c S fun k S1 => if k = true then RB X B sts S1 else RB X B sts' S1) : R1 X B (.If c sts sts' pos) S := by
  intro Hs σ H o E
  refine ws_of (ps_if pt_wt ps_wb ps_wb) (h B Hs σ H o _ fun k S1 Hs1 H1 p o1 _ => ?_)
  cases k with
  | true => exact (show RB X B sts S1 from p) Hs1 σ H1 o1 E
  | false => exact (show RB X B sts' S1 from p) Hs1 σ H1 o1 E
theorem r1_drop (h : RE X B e S) (hs : swapsWith e none pos.line X.env = pure false := by rfl) : R1 X B (.Expr e pos) S := fun Hs σ H o E => ws_of (ps_expr pe_we hs) (h Hs σ H o _)
theorem r1_ret (h : RE X B e S) : R1 X B (.Return (some e) pos) S := fun Hs σ H o E => ws_of (ps_ret pe_we) (h Hs σ H o _)
theorem r1_set {i : Nat} {x : Str} {pos' : Pos} (h : RE X B e S) (hN : X.N.Nodup) (hi : X.N[i]? = some x := by rfl) (hx : Loc X.env.scope x := by first | exact .inl rfl | exact .inr rfl)
    (hs : swapsWith e (some (.Name x pos')) pos.line X.env = pure false := by rfl) (hf : X.fn x = true ∨ X.env.scope.names.lookup x = some .local := by first | exact .inl rfl | exact .inr rfl) : R1 X B (.Assign [.Name x pos'] e pos) S := fun Hs σ H o E =>
  ws_of (ps_set hN hi hx pe_we hs hf) (h Hs σ H o _)
theorem ra_l (h : LE X none e S fun R S1 => RA X B es S1) (hs : starEach (e :: es) X.env = (false, eval e X.env) :: starEach es X.env := by rfl) : RA X B (e :: es) S := by
  intro Hs σ H o Q
  exact wa_of (pa_cons pe_we pa_wa hs) (h B Hs σ H o _ fun R S1 x Hs1 H1 h1 o1 e1 r1 => h1 Hs1 σ H1 o1 _)
theorem ra_r (h : RE X B e S) (hs : starEach (e :: es) X.env = (false, eval e X.env) :: starEach es X.env := by rfl) : RA X B (e :: es) S := fun Hs σ H o Q => wa_of (pa_cons pe_we pa_wa hs) (h Hs σ H o _)
/-- x(.., .. that refuses, ..) -/
theorem re_callA {x : Str} {k : Nat} {sp : Sp} (D : Kn X.prog X.w X.K X.mg X.base k x sp) {j : Nat} (hr : Room j X.A) (hk : k ≤ j) (h : RA X B (e :: es) S)
    (hg : Gl X x := by rfl) (hdb : (x == ("__debug__" : Str)) = false := by decide) (he : starEach (e :: es) X.env = (false, eval e X.env) :: starEach es X.env := by rfl) (hpl : (backTo pos (starEach es X.env)).any (·.1) = false := by rfl) : RE X B (.Call (.Name x p) (e :: es) [] pos) S := by
  intro Hs σ H o Q
  obtain ⟨f, fd, ps, hf, hm, kp, hb⟩ := D.ex
  exact we_of (pe_call hf (hr.mono hk) hg hm kp hb .nil passL pa_wa hdb he hpl) (h Hs σ H o _)
/-- x(..), x a def that refuses -/
theorem re_call {x : Str} {k m : Nat} {G : RFn} (D : Kn X.prog X.w X.K X.mg X.base k x (spR m G)) {j : Nat} (hr : Room j X.A) (hk : k ≤ j) (h : LA X none (e :: es) S fun Rs S1 => ∃ C p, G Rs C p ∧ Rs.length = m ∧ Wish X B C p)
    (hg : Gl X x := by rfl) (hdb : (x == ("__debug__" : Str)) = false := by decide) (he : starEach (e :: es) X.env = (false, eval e X.env) :: starEach es X.env := by rfl) (hpl : (backTo pos (starEach es X.env)).any (·.1) = false := by rfl) : RE X B (.Call (.Name x p) (e :: es) [] pos) S := by
  intro Hs σ H o Q pins s I
  obtain ⟨f, fd, ps, hf, hm, kp, hb⟩ := D.ex
  refine wpAny_Call_Name_kw (ld_glob I hg hm ?_ hdb)
  refine PySem.W.callWith_K (h₀ := X.base) I.ok.mod.kin kp (thn (h B Hs σ H o (fun vs H1 => ∃ Hs1 Rs C p S1, StOK X.K none B Hs1 S1 σ H1 ∧ Alls Hs1 Rs vs ∧ G Rs C p ∧ Rs.length = m ∧ Wish X B C p) (fun Rs S1 vs Hs1 H1 ⟨C, p, h1, h2, h3⟩ o1 e1 r1 => ⟨Hs1, Rs, C, p, S1, o1, r1, h1, h2, h3⟩) pos pins s I) fun us s1 ⟨vs, H1, I1, r, q⟩ => ⟨I1.kIn, ?_⟩) he hpl
  obtain ⟨Hs1, Rs, C, p, S1, o1, r1, h1, h2, W, tk, hW⟩ := q
  exact run_fn (E := fun cls d H' => ∀ σ, W cls d σ H') hf (hr.mono hk) hb .nil (passes_call tk fun _ _ _ _ h => h _) I1 r ⟨Hs1, Rs, C, p, o1.w, h2, by rw [List.append_nil]; exact r1, h1, fun d Hs' H' x r σ' => hW d σ' Hs' H' ((o1.ext x).e) r⟩
/-- raise x(e) -/
theorem r1_raise {x : Str} {C : Addr} {j : Nat} {q : Str} (D : XCls X.prog X.w X.K X.mg X.base x C) (hr : Room j X.A) (hj : 2 ≤ j) (hw : Wish X B C q) (h : LE X none e S fun R S1 => R = vl (.str q)) (hc : X.calm = true := by rfl)
    (hg : Gl X x := by rfl) (hdb : (x == ("__debug__" : Str)) = false := by decide) (he : starEach [e] X.env = (false, eval e X.env) :: starEach [] X.env := by rfl) : R1 X B (.Raise (some (.Call (.Name x p) [e] [] pos)) none pos2) S := by
  intro Hs σ H o E
  obtain ⟨D0, fI, fd, T, iC, tI, F1, hb⟩ := D.ex
  obtain ⟨W, tk, hW⟩ := hw
  refine ws_of (ps_raise (W := W) hc tk (pmk_oex (k := 1) (ds := []) (dvs := []) T.oc iC tI F1 (hr.mono hj) hb .nil passL hg D.at_ (pa_cons pe_we pa_nil he) hdb he rfl)) ?_
  refine h B Hs σ H o _ fun R S1 v Hs1 H1 h1 o1 e1 r1 => ?_
  subst h1
  cases (show v = .str q from r1)
  refine ⟨by show 1 ≤ 1000; omega, fun a ha => ⟨a, C, q, rfl, T, upd_same, fun d hd hda => ⟨rfl, d, [("part", .str q)], upd_same, ?_, ?_, ?_⟩⟩⟩
  · rw [upd_ne hda, upd_same]
  · rw [upd_ne hda] at hd; exact hd
  · have hd1 : H1 d = none := by rw [upd_ne hda] at hd; exact hd
    have eq : upd (del (upd (upd (upd H1 a (exo a C none)) d (exd d [("part", .str q)])) a (exo a C (some d))) a) d (parD q) = upd H1 d (parD q) := by
      funext b
      by_cases h1 : b = d
      · subst h1; rw [upd_same, upd_same]
      · rw [upd_ne h1, upd_ne h1]
        by_cases h2 : b = a
        · subst h2; rw [del_same, ha]
        · rw [del_ne h2, upd_ne h2, upd_ne h1, upd_ne h2]
    show W (.ref C) (some d) σ (upd (del (upd (upd (upd H1 a (exo a C none)) d (exd d [("part", .str q)])) a (exo a C (some d))) a) d (parD q))
    rw [eq]
    exact hW d σ (upd Hs1 d (parD q)) _ (o1.new hd1).e upd_same
end
section
variable {P : Program} {w : World} {K : PySem.W.Frag} {mg : Str → Option Value} {base : Heap}
/-- the context of a def's body that may let an exception out -/
abbrev bxr (P : Program) (w : World) (K : PySem.W.Frag) (mg : Str → Option Value) (base : Heap) (N : List Str) (qual : Str) (st : Stmt) (f : Addr) (cdv : Value) (A : Around) (outer : List Env) (s : Shared) (H : Hp) (E : XK) : Cx :=
  cxOf (L2.CX P w) P w K mg base N qual (defScope st) f cdv A outer s H E
theorem fn_ref {x qual : Str} {st : Stmt} {f : Addr} {fd : FuncData} {N ps : List Str} {m k : Nat} {G : RFn} (Fd : Fun K x qual st f fd) (S : FnScope N ps (defScope st)) (hps : ps.length = m)
    (body : ∀ (cdv : Value) (A : Around) (outer : List Env) (s : Shared) (H : Hp) (E : XK) (B : Base) Rs C p, Room k (A.deeper (envOfC qual (defScope st) s.heap.objs.size f cdv)) → G Rs C p → Wish (bxr P w K mg base N qual st f cdv A outer s H E) B C p →
      RB (bxr P w K mg base N qual st f cdv A outer s H E) B (defBody st) ⟨start0 N Rs, 0⟩) : FnOk P w K mg base (L2.CX P w) (k + 1) f fd ps (spR m G) := by
  refine Fd.okX S (fun vs H Q E h => ?_) fun cdv A outer s H vs Q E hr h => ?_
  · obtain ⟨Hs, Rs, C, p, _, h1, h2, _⟩ := h
    rw [← h2.length, h1, hps]
  · obtain ⟨Hs, Rs, C, p, w0, h1, h2, h3, h4⟩ := h
    refine ⟨_, ps_wb (X := bxr P w K mg base N qual st f cdv A outer s H E), ?_⟩
    exact body cdv A outer s H E ⟨Hs, H, 0⟩ Rs C p hr h3 ⟨_, takes_of rfl rfl rfl rfl, fun d σ Hs' H' x r => h4 d Hs' H' x r⟩ Hs _ H (start_ok w0 h2) _
theorem kn_ref {x : Str} {st : Stmt} {f : Addr} {fd : FuncData} {N ps : List Str} {m k : Nat} {G : RFn} (Fd : Fun K x x st f fd) (hm : mg x = some (.ref f)) (hb : Binds K fd ps []) (S : FnScope N ps (defScope st)) (hps : ps.length = m)
    (body : ∀ (cdv : Value) (A : Around) (outer : List Env) (s : Shared) (H : Hp) (E : XK) (B : Base) Rs C p, Room k (A.deeper (envOfC x (defScope st) s.heap.objs.size f cdv)) → G Rs C p → Wish (bxr P w K mg base N x st f cdv A outer s H E) B C p →
      RB (bxr P w K mg base N x st f cdv A outer s H E) B (defBody st) ⟨start0 N Rs, 0⟩) : Kn P w K mg base (k + 1) x (spR m G) :=
  ⟨f, fd, ps, fn_ref Fd S hps body, hm, Fd.kp, hb⟩
end
end DL
set_option Elab.async false
set_option linter.all false
set_option maxRecDepth 100000
set_option maxHeartbeats 4000000
/-! The program's refusals: need_yard, need_state, is_knowledge, need_luck, classes, stay on what is wrong. -/
namespace DL
open PySem PySem.Spec L2
open PyProof.Rows hiding St
open PySem.W (Datum Tup)
/-- no yard -/
def NotY (K : PySem.W.Frag) (C : Addr) (R : Th) : Prop := ∃ T, TyTh K R T ∧ PySem.W.kitOne K T (.ref C) = some false
/-- no state of luck -/
def BadSt (K : PySem.W.Frag) (y : YardD) (R : Th) : Prop := NoInt K R ∨ ∃ i : Int, R = vl (.int i) ∧ (i < 0 ∨ (y.rows.length : Int) ≤ i ∨ ∃ s : Nat, i = s ∧ s < y.rows.length ∧ kindS (rowAt y s) ≠ "luck")
/-- no state -/
def NoSt (K : PySem.W.Frag) (y : YardD) (R : Th) : Prop := NoInt K R ∨ ∃ i : Int, R = vl (.int i) ∧ (i < 0 ∨ (y.rows.length : Int) ≤ i)
def wnV (m : Int) : V → Bool
  | .int i => decide (0 ≤ i) && decide (i ≤ m)
  | _ => false
def ibV : V → Bool
  | .int _ => true
  | .bl _ => true
  | _ => false
/-- no knowledge -/
def BadKn (K : PySem.W.Frag) (y : YardD) (R : Th) : Prop := NoSeq K R ∨ ∃ ds : List V, SeqT K R (ds.map vl) ∧ ds.length ≤ 1000 ∧ (∀ d ∈ ds, ibV d = true) ∧ (ds = [] ∨ (ds.all (wnV ((y.ws.length : Int) - 1)) = false) ∨ ∃ ns : List Int, ds = ns.map V.int ∧ ascB ns = false)
section
variable {P : Program} {w : World} {K : PySem.W.Frag} {mg : Str → Option Value} {base : Heap} {f C CY CS CN CM : Addr} {fd : FuncData}
def gNeedYard (K : PySem.W.Frag) (C CY : Addr) : RFn := fun Rs E p => ∃ R, Rs = [R] ∧ NotY K C R ∧ E = CY ∧ p = "yard"
theorem kn_need_yardR (F : Fun K "need_yard" "need_yard" st_need_yard f fd) (hm : mg "need_yard" = some (.ref f)) (hb : Binds K fd ["value"] []) (h1 : Blt mg "isinstance") (hC : mg "Yard" = some (.ref C)) (x1 : XCls P w K mg base "BadYard" CY) : Kn P w K mg base 3 "need_yard" (spR 1 (gNeedYard K C CY)) := by
  refine kn_ref F hm hb sc_need_yard rfl fun cdv A outer s H E B Rs D p hr h wi => ?_
  obtain ⟨R, rfl, ⟨T, ty, kf⟩, rfl, rfl⟩ := h
  exact rb_r <| r1_if <| lt_not <| lt_val <| le_isiC h1 hC <| le_var (i := 0) rfl ⟨_, false, ty, kf, false, rfl, rb_r <| r1_raise x1 hr (by decide) wi (le_str rfl)⟩
def gNeedState (K : PySem.W.Frag) (C CS : Addr) : RFn := fun Rs E p => ∃ (y : YardD) (R : Th), Rs = [yT K C y, R] ∧ NoSt K y R ∧ E = CS ∧ p = "state"
theorem kn_need_stateR (F : Fun K "need_state" "need_state" st_need_state f fd) (hm : mg "need_state" = some (.ref f)) (hb : Binds K fd ["yard", "value"] []) (yc : YC K C) (h1 : Blt mg "len") (k1 : Kn P w K mg base 1 "is_integer" (spP 1 (fIsInteger K))) (x1 : XCls P w K mg base "BadState" CS) : Kn P w K mg base 3 "need_state" (spR 2 (gNeedState K C CS)) := by
  refine kn_ref F hm hb sc_need_state rfl fun cdv A outer s H E B Rs D p hr h wi => ?_
  obtain ⟨y, R, rfl, hn, rfl, rfl⟩ := h
  rcases hn with ni | ⟨i, rfl, hi⟩
  · refine rb_r <| r1_if <| lt_ww <| lw_or <| lt_not <| lt_val <| le_call k1 hr (by decide) <| la_cons <| le_var (i := 1) rfl <| la_nil ⟨_, .inr ⟨R, rfl, ni, rfl⟩, rfl, false, rfl, ?_⟩
    exact rb_r <| r1_raise x1 hr (by decide) wi (le_str rfl)
  · refine rb_r <| r1_if <| lt_ww <| lw_or <| lt_not <| lt_val <| le_call k1 hr (by decide) <| la_cons <| le_var (i := 1) rfl <| la_nil ⟨_, .inl ⟨i, rfl, rfl⟩, rfl, true, rfl, ?_⟩
    refine lw_or1 <| lt_not <| lt_chain op_le op_lt <| le_int <| le_var (i := 1) rfl <| lr_I0 ⟨_, rfl, ?_⟩
    by_cases h0 : (0 : Int) ≤ i
    · rw [decide_eq_true h0]
      refine le_cb call_len_seq h1 (by decide +kernel) <| la_cons <| le_fld <| le_var (i := 0) rfl ⟨_, _, _, rfl, yc.c, yc.n2, rfl, la_nil <| rc_len (.inl rfl) <| lr_I0 ⟨_, rfl, ?_⟩⟩
      rw [List.length_map, decide_eq_false (show ¬ i < (y.rows.length : Int) by omega)]
      exact rb_r <| r1_raise x1 hr (by decide) wi (le_str rfl)
    · rw [decide_eq_false h0]
      exact rb_r <| r1_raise x1 hr (by decide) wi (le_str rfl)
def fIsKnowledgeN (K : PySem.W.Frag) (C : Addr) : PFn := fun Rs R => ∃ (y : YardD) (R1 : Th), Rs = [yT K C y, R1] ∧ BadKn K y R1 ∧ R = bT false
theorem kn_is_knowledgeN (F : Fun K "is_knowledge" "is_knowledge" st_is_knowledge f fd) (hm : mg "is_knowledge" = some (.ref f)) (hb : Binds K fd ["yard", "value"] []) (yc : YC K C) (h1 : Blt mg "len") (h2 : Blt mg "all") (k1 : Kn P w K mg base 1 "is_listed" (spP 1 (fIsListed K))) (k2 : Kn P w K mg base 2 "is_within" (spP 3 (fIsWithin K))) (k3 : Kn P w K mg base 1 "ascends" (spP 1 (fAscends K))) :
    Kn P w K mg base 3 "is_knowledge" (spP 2 (fIsKnowledgeN K C)) := by
  refine kn_pure F hm hb sc_is_knowledge rfl fun cdv A outer s H E Rs R hr h => ?_
  obtain ⟨y, R1, rfl, bad, rfl⟩ := h
  rcases bad with ns | ⟨ds, sq, hz, ib, bad⟩
  · exact lb_cons <| l1_if <| lt_ww <| lw_or <| lt_not <| lt_val <| le_call k1 hr (by decide) <| la_cons <| le_var (i := 1) rfl <| la_nil ⟨_, .inr ⟨_, rfl, ns, rfl⟩, rfl, false, rfl, lb_cons <| l1_ret <| le_bl rfl⟩
  · refine lb_cons <| l1_if <| lt_ww <| lw_or <| lt_not <| lt_val <| le_call k1 hr (by decide) <| la_cons <| le_var (i := 1) rfl <| la_nil ⟨_, .inl ⟨_, rfl, ⟨_, sq⟩, rfl⟩, rfl, true, rfl, ?_⟩
    refine lw_or1 <| lt_cmp op_eq <| le_cb call_len_seq h1 (by decide +kernel) <| la_cons <| le_var (i := 1) rfl <| la_nil <| rc_len sq <| le_int <| lr_eq rfl ⟨_, rfl, ?_⟩
    by_cases e : ds = []
    · subst e
      rw [show decide (V.int (([].map vl : List Th).length : Nat) = V.int 0) = true from by decide]
      exact lb_cons <| l1_ret <| le_bl rfl
    · have e0 : decide (V.int ((ds.map vl).length : Nat) = V.int 0) = false := decide_eq_false fun z => by
        injection z with z
        rw [List.length_map] at z
        exact e (List.length_eq_zero_iff.mp (by omega))
      rw [e0]
      show LB _ _ _ _ _
      refine lb_nil <| lb_cons <| l1_ret <| le_and <| le_cb (cr_all rfl) h2 (by decide +kernel) <| la_cons <| le_lc (own := [("one", 2)]) (li_varS (i := 1) rfl sq ?_) (bk (by decide +kernel)) sc_is_knowledge.nd
      refine lc_map ds vl (fun d => bT (wnV ((y.ws.length : Int) - 1) d)) (by omega) (fun d hd => ?_) ?_
      · intro s H C cl fp
        refine lg_name (i := 2) ?_ sc_is_knowledge.nd
        intro s H C cl fp
        refine le_call k2 hr (by decide) <| la_cons <| le_var (i := 2) rfl <| la_cons <| le_int <| la_cons <| le_bin op_sub <| le_cb call_len_seq h1 (by decide +kernel) <| la_cons <| le_fld <| le_var (i := 0) rfl ⟨_, _, _, rfl, yc.c, yc.n1, rfl, la_nil <| rc_len (.inl rfl) <| le_int <| lr_I0 <| la_nil ⟨bT (wnV ((y.ws.length : Int) - 1) d), ?_, rfl, rfl, rfl⟩⟩
        have ibd := ib d hd
        cases d with
        | int i => exact .inl ⟨i, 0, (y.ws.length : Int) - 1, by rw [List.length_map], rfl⟩
        | bl b => exact .inr ⟨_, _, _, rfl, noInt_bl, rfl⟩
        | _ => cases ibd
      · refine la_nil ?_
        have e3 : (ds.map fun d => bT (wnV ((y.ws.length : Int) - 1) d)) = (ds.map fun d => wnV ((y.ws.length : Int) - 1) d).map fun b => vl (.bl b) := by rw [List.map_map]; rfl
        rw [e3]
        refine rc_all ⟨_, rfl, ?_⟩
        have e4 : (ds.map fun d => wnV ((y.ws.length : Int) - 1) d).all id = ds.all (wnV ((y.ws.length : Int) - 1)) := by rw [List.all_map]; rfl
        rw [e4]
        by_cases hw : ds.all (wnV ((y.ws.length : Int) - 1)) = false
        · rw [hw]; rfl
        · rw [Bool.not_eq_false] at hw
          rw [hw]
          rcases bad with bad | bad | ⟨ns, rfl, asc⟩
          · exact absurd bad e
          · rw [hw] at bad; cases bad
          · refine le_one <| le_call k3 hr (by decide) <| la_cons <| le_var (i := 1) rfl <| la_nil ⟨_, ⟨R1, ns, rfl, ?_, by rw [List.length_map] at hz; exact hz, rfl⟩, rfl, ?_⟩
            · rw [List.map_map] at sq; exact sq
            · rw [asc]
def gNeedLuck (K : PySem.W.Frag) (C CY CS CN : Addr) : RFn := fun Rs E p => (∃ R1 R2 R3, Rs = [R1, R2, R3] ∧ NotY K C R1 ∧ E = CY ∧ p = "yard") ∨ (∃ (y : YardD) (R2 R3 : Th), Rs = [yT K C y, R2, R3] ∧ BadSt K y R2 ∧ E = CS ∧ p = "state") ∨
  ∃ (y : YardD) (s : Nat) (R3 : Th), Rs = [yT K C y, nT s, R3] ∧ s < y.rows.length ∧ kindS (rowAt y s) = "luck" ∧ BadKn K y R3 ∧ E = CN ∧ p = "knowledge"
theorem kn_need_luckR (F : Fun K "need_luck" "need_luck" st_need_luck f fd) (hm : mg "need_luck" = some (.ref f)) (hb : Binds K fd ["yard", "state", "knowledge"] []) (c2 : Cst mg "LUCK" (.str "luck")) (k1 : Kn P w K mg base 1 "need_yard" (spP 1 (fNeedYard K C))) (k2 : Kn P w K mg base 2 "need_state" (spP 2 (fNeedState K C)))
    (k3 : KnM P w K mg base 1 C "kind" (spP 2 (fKind K C))) (k4 : Kn P w K mg base 3 "is_knowledge" (spP 2 (fIsKnowledgeN K C))) (r1 : Kn P w K mg base 3 "need_yard" (spR 1 (gNeedYard K C CY))) (r2 : Kn P w K mg base 3 "need_state" (spR 2 (gNeedState K C CS)))
    (x2 : XCls P w K mg base "BadState" CS) (x3 : XCls P w K mg base "BadKnowledge" CN) : Kn P w K mg base 4 "need_luck" (spR 3 (gNeedLuck K C CY CS CN)) := by
  refine kn_ref F hm hb sc_need_luck rfl fun cdv A outer s H E B Rs D p hr h wi => ?_
  rcases h with ⟨R1, R2, R3, rfl, ny, rfl, rfl⟩ | ⟨y, R2, R3, rfl, bs, rfl, rfl⟩ | ⟨y, n, R3, rfl, hn, hk, bk, rfl, rfl⟩
  · exact rb_r <| r1_drop <| re_call r1 hr (by decide) <| la_cons <| le_var (i := 0) rfl <| la_nil ⟨_, _, ⟨R1, rfl, ny, rfl, rfl⟩, rfl, wi⟩
  · refine rb_l <| l1_drop <| le_call k1 hr (by decide) <| la_cons <| le_var (i := 0) rfl <| la_nil ⟨_, ⟨y, rfl, rfl⟩, rfl, ?_⟩
    have no : NoSt K y R2 → RB (bxr P w K mg base ["yard", "state", "knowledge"] "need_luck" st_need_luck f cdv A outer s H E) B ((defBody st_need_luck).tail) ⟨start0 ["yard", "state", "knowledge"] [yT K C y, R2, R3], 0⟩ := fun ns =>
      rb_r <| r1_drop <| re_call r2 hr (by decide) <| la_cons <| le_var (i := 0) rfl <| la_cons <| le_var (i := 1) rfl <| la_nil ⟨_, _, ⟨y, R2, rfl, ns, rfl, rfl⟩, rfl, wi⟩
    rcases bs with ni | ⟨i, rfl, h0 | h0 | ⟨n, rfl, hn, hk⟩⟩
    · exact no (.inl ni)
    · exact no (.inr ⟨i, rfl, .inl h0⟩)
    · exact no (.inr ⟨i, rfl, .inr h0⟩)
    · refine rb_l <| l1_drop <| le_call k2 hr (by decide) <| la_cons <| le_var (i := 0) rfl <| la_cons <| le_var (i := 1) rfl <| la_nil ⟨_, ⟨y, n, rfl, hn, rfl⟩, rfl, ?_⟩
      refine rb_r <| r1_if <| lt_cmp op_ne <| le_meth k3 hr (by decide) <| le_var (i := 0) rfl ⟨_, rfl, rfl, la_cons <| le_var (i := 1) rfl <| la_nil ⟨_, ⟨y, n, rowAt y n, rfl, rowAt_get hn, rfl⟩, rfl, le_cst c2 <| lr_ne rfl ⟨_, rfl, ?_⟩⟩⟩
      rw [decide_eq_false (show ¬ V.str (kindS (rowAt y n)) = V.str "luck" from fun z => hk (by injection z))]
      exact rb_r <| r1_raise x2 hr (by decide) wi (le_str rfl)
  · refine rb_l <| l1_drop <| le_call k1 hr (by decide) <| la_cons <| le_var (i := 0) rfl <| la_nil ⟨_, ⟨y, rfl, rfl⟩, rfl, ?_⟩
    refine rb_l <| l1_drop <| le_call k2 hr (by decide) <| la_cons <| le_var (i := 0) rfl <| la_cons <| le_var (i := 1) rfl <| la_nil ⟨_, ⟨y, n, rfl, hn, rfl⟩, rfl, ?_⟩
    refine rb_l <| l1_if <| lt_cmp op_ne <| le_meth k3 hr (by decide) <| le_var (i := 0) rfl ⟨_, rfl, rfl, la_cons <| le_var (i := 1) rfl <| la_nil ⟨_, ⟨y, n, rowAt y n, rfl, rowAt_get hn, rfl⟩, rfl, le_cst c2 <| lr_ne rfl ⟨_, rfl, ?_⟩⟩⟩
    rw [hk, show (!decide (V.str "luck" = V.str "luck")) = false from by decide]
    show LB _ _ _ _ _
    refine lb_nil <| rb_r <| r1_if <| lt_not <| lt_val <| le_call k4 hr (by decide) <| la_cons <| le_var (i := 0) rfl <| la_cons <| le_var (i := 2) rfl <| la_nil ⟨_, ⟨y, R3, rfl, bk, rfl⟩, rfl, false, rfl, ?_⟩
    exact rb_r <| r1_raise x3 hr (by decide) wi (le_str rfl)
theorem kn_classesR (F : Fun K "classes" "classes" st_classes f fd) (hm : mg "classes" = some (.ref f)) (hb : Binds K fd ["yard", "state", "knowledge"] []) (k2 : Kn P w K mg base 3 "classes_in" (spP 3 (fClassesIn K C))) (r1 : Kn P w K mg base 4 "need_luck" (spR 3 (gNeedLuck K C CY CS CN))) : Kn P w K mg base 5 "classes" (spR 3 (gNeedLuck K C CY CS CN)) := by
  refine kn_ref F hm hb sc_classes rfl fun cdv A outer s H E B Rs D p hr h wi => ?_
  have h3 : ∃ R1 R2 R3, Rs = [R1, R2, R3] := by
    rcases h with ⟨R1, R2, R3, h, _⟩ | ⟨y, R2, R3, h, _⟩ | ⟨y, n, R3, h, _⟩ <;> exact ⟨_, _, _, h⟩
  obtain ⟨R1, R2, R3, rfl⟩ := h3
  exact rb_r <| r1_ret <| re_callA k2 hr (by decide) <| ra_l <| le_var (i := 0) rfl <| ra_l <| le_var (i := 1) rfl <| ra_r <| re_call r1 hr (by decide) <| la_cons <| le_var (i := 0) rfl <| la_cons <| le_var (i := 1) rfl <| la_cons <| le_var (i := 2) rfl <| la_nil ⟨_, _, h, rfl, wi⟩
def gStay (K : PySem.W.Frag) (C CY CS CN CM : Addr) : RFn := fun Rs E p => gNeedLuck K C CY CS CN Rs E p ∨ ∃ (y : YardD) (s : Nat) (ns : List Nat) (R1 : Th), Rs = [yT K C y, nT s, R1] ∧ SeqT K R1 (ns.map nT) ∧ Ask y s ns ∧ (∃ r ∈ y.rows, kindS r = "foe") ∧ E = CM ∧ p = "foe"
theorem kn_stayR (F : Fun K "stay" "stay" st_stay f fd) (hm : mg "stay" = some (.ref f)) (hb : Binds K fd ["yard", "state", "knowledge"] []) (c4 : Cst mg "FOE" (.str "foe")) (k1 : Kn P w K mg base 4 "need_luck" (spP 3 (fNeedLuck K C))) (k2 : Kn P w K mg base 1 "has_kind" (spP 2 (fHasKind K C)))
    (r1 : Kn P w K mg base 4 "need_luck" (spR 3 (gNeedLuck K C CY CS CN))) (x4 : XCls P w K mg base "Misfit" CM) : Kn P w K mg base 5 "stay" (spR 3 (gStay K C CY CS CN CM)) := by
  refine kn_ref F hm hb sc_stay rfl fun cdv A outer s H E B Rs D p hr h wi => ?_
  rcases h with h | ⟨y, n, ns, R1, rfl, sq, ask, ⟨r, hr1, hr2⟩, rfl, rfl⟩
  · have h3 : ∃ R1 R2 R3, Rs = [R1, R2, R3] := by
      rcases h with ⟨R1, R2, R3, h, _⟩ | ⟨y, R2, R3, h, _⟩ | ⟨y, n, R3, h, _⟩ <;> exact ⟨_, _, _, h⟩
    obtain ⟨R1, R2, R3, rfl⟩ := h3
    exact rb_r <| r1_set (i := 3) (re_call r1 hr (by decide) <| la_cons <| le_var (i := 0) rfl <| la_cons <| le_var (i := 1) rfl <| la_cons <| le_var (i := 2) rfl <| la_nil ⟨_, _, h, rfl, wi⟩) sc_stay.nd
  · refine rb_l <| l1_set (i := 3) (le_call k1 hr (by decide) <| la_cons <| le_var (i := 0) rfl <| la_cons <| le_var (i := 1) rfl <| la_cons <| le_var (i := 2) rfl <| la_nil ⟨_, ⟨y, n, ns, R1, rfl, sq, ask, rfl⟩, rfl, ?_⟩) sc_stay.nd
    refine rb_r <| r1_if <| lt_val <| le_call k2 hr (by decide) <| la_cons <| le_var (i := 0) rfl <| la_cons <| le_cst c4 <| la_nil ⟨_, ⟨y, "foe", rfl, ask.sm.ok.r2, rfl⟩, rfl, _, rfl, ?_⟩
    rw [show (y.rows.any fun r => decide (kindS r = "foe")) = true from List.any_eq_true.mpr ⟨r, hr1, decide_eq_true hr2⟩]
    exact rb_r <| r1_raise x4 hr (by decide) wi (le_str rfl)
end
end DL
set_option Elab.async false
set_option linter.all false
set_option maxRecDepth 100000
set_option maxHeartbeats 4000000
/-! try .. except C as e: y = e: what is caught stays known behind the suite -/
namespace DL
open PySem PySem.Spec L2
open PyProof.Rows hiding St
/-- an exception of the class cls with the dict d -/
def exh (a : Addr) (cls : Value) (d : Option Addr) : HO := .ext fun h => ∃ oe vs, h.get? a = some oe ∧ Zc cls d oe ∧ oe.data = .fields vs
theorem exh_ok {P : Program} {w : World} {H : Hp} {h : Heap} {a : Addr} {cls : Value} {d : Option Addr} {oe : Obj} {vs : Array Value} (h1 : h.get? a = some oe) (h2 : Zc cls d oe) (h3 : oe.data = .fields vs) : ObjOk P w H h a (exh a cls d) :=
  ⟨⟨oe, vs, h1, h2, h3⟩, ⟨oe, h1⟩, fun g1 g2 ⟨oe, vs, e1, e2, e3⟩ st => ⟨oe, vs, st _ e1, e2, e3⟩⟩
theorem exh_at {P : Program} {w : World} {H : Hp} {h : Heap} {a : Addr} {cls : Value} {d : Option Addr} (hok : HOk P w H h) (e : H a = some (exh a cls d)) : ∃ oe vs, h.get? a = some oe ∧ Zc cls d oe ∧ oe.data = .fields vs := (hok a _ e).1
section
variable {X : Cx} {pins : List (Addr × Obj)} {σ : St} {H : Hp} {s : Shared} {a : Addr}
theorem inv_track {o : HO} (I : Inv X pins σ H s) (na : H a = none) (nL : a ≠ X.env.locals) (nC : ∀ x c, X.env.cells.lookup x = some c → c ≠ a) (nP : ∀ p ∈ X.pn ++ pins, p.1 ≠ a) (n0 : ∀ u, X.s_0.heap.get? a = some u → X.H_0 a = none → a ∉ X.ex → False)
    (ok : ObjOk X.prog X.w (upd H a o) s.heap a o) : Inv X pins σ (upd H a o) s where
  ok := I.ok
  os := I.os
  bare := I.bare
  base := {
    keep := fun b u e n hf hx => I.base.keep b u e n hf hx
    slot := fun b u e n hf hx => I.base.slot b u e n hf hx
    free := fun b u e n hx => by
      by_cases hb : b = a
      · subst hb; exact (n0 u e n hx).elim
      · rw [upd_ne hb]; exact I.base.free b u e n hx
    there := I.base.there
    tups := fun b xs e => by
      have q := I.base.tups b xs e
      rw [upd_ne (ne_of_none q na)]; exact q
    frzs := fun b u xs e => by
      have q := I.base.frzs b u xs e
      rw [upd_ne (ne_of_none q na)]; exact q
    tbls := fun b ps e => by
      obtain ⟨m, q⟩ := I.base.tbls b ps e
      exact ⟨m, by rw [upd_ne (ne_of_none q na)]; exact q⟩ }
  loc := I.loc
  cell := I.cell
  free := by rw [upd_ne (Ne.symm nL)]; exact I.free
  freeC := fun x c e => by rw [upd_ne (nC x c e)]; exact I.freeC x c e
  pin := fun p hp => by
    obtain ⟨e1, e2, e3⟩ := I.pin p hp
    exact ⟨e1, by rw [upd_ne (nP p hp)]; exact e2, e3⟩
  hok := fun b u e => by
    by_cases hb : b = a
    · subst hb
      rw [upd_same] at e
      cases e
      exact ok
    · rw [upd_ne hb] at e
      exact (I.hok b u e).stay (fun _ _ _ q => q) (fun c q => by rw [upd_ne (ne_of_none q na)]; exact q) fun c xs q => by rw [upd_ne (ne_of_none q na)]; exact q
  len := I.len
/-- where the try catches -/
abbrev atCatch (X : Cx) (hs : List ExceptHandler) (pins : List (Addr × Obj)) (E : Ends) : Value → Shared → Prop := fun e s₁ =>
  wpAny (model X.prog X.w) X.A (noteFrame e X.env) (fun _ s₂ => wpAny (model X.prog X.w) X.A (setFlight e none) (fun _ s₃ => wpAny (model X.prog X.w) X.A (handleBy e X.env hs) (SP X pins E) X.xe s₃) X.xe s₂) X.xe s₁
/-- what is wanted of the body's exception -/
def wKeep (K : PySem.W.Frag) (c : Value) (i j : Nat) (E : Ends) : WX := fun cls d σ H => PySem.W.exmOne K cls c = some true ∧ ∀ a, H a = none → E.nx (((σ.set i (some (.ref a))).set j (some (.ref a))).set i none) (upd H a (exh a cls d))
theorem ws_keep {x n y : Str} {c : Value} {i j : Nat} {body : List Stmt} {np pos pos' p1 p2 p3 : Pos} {E : Ends} (st : X.stack = X.env :: X.outer) (hf : X.env.frame = some X.env.locals) (ex : X.ex = []) (hN : X.N.Nodup) (hi : X.N[i]? = some n) (hj : X.N[j]? = some y) (ln : X.env.kindOf n = some .local) (ly : X.env.kindOf y = some .local) (hij : i ≠ j) (hc : Names X x c)
    (d1 : (n == ("__debug__" : Str)) = false) (d2 : (n == ("__classdict__" : Str)) = false) (sw : ∀ env : Env, swapsWith (.Name n p2) (some (.Name y p1)) p3.line env = pure false)
    (hb : ∀ (pn : List (Addr × Obj)) (xe : Value → Shared → Prop), Takes (X.tr pn xe) (wKeep X.K c i j E) → PassesOwn (model X.prog X.w) X.A X.env xe → WB (X.tr pn xe) body E σ H) :
    WS X (.Try body [.ExceptHandler (some (.Name x np)) (some n) [.Assign [.Name y p1] (.Name n p2) p3] pos'] [] [] pos) E σ H := by
  intro pins s I
  have ok := I.ok
  have fr : X.A.frames = some (X.env :: X.outer) := by rw [ok.frames, st]
  refine wpAny_Try_except ?_
  have tk : Takes (X.tr (X.pn ++ pins) (atCatch X [.ExceptHandler (some (.Name x np)) (some n) [.Assign [.Name y p1] (.Name n p2) p3] pos'] pins E)) (wKeep X.K c i j E) := by
    rintro u s1 ⟨a, G, sI, pins1, σ1, H1, cls, d, rfl, J0, ground, up, sky, na, eos, bare, m, go⟩
    have J : Inv X pins σ1 H1 sI := J0.ofTry ok
    rw [show (X.tr (X.pn ++ pins) (atCatch X [.ExceptHandler (some (.Name x np)) (some n) [.Assign [.Name y p1] (.Name n p2) p3] pos'] pins E)).stack = X.env :: X.outer from st] at sky
    refine Sky.land Zc.steady fr hf sky fun g1 fl1 up1 => ?_
    have I1 : Inv X pins σ1 H1 { s1 with heap := g1 } := J.landed ground fl1.1 (up.trans up1) eos bare
    obtain ⟨o1, v1, e1, z1, dt1⟩ := fl1.there
    have offStack : a ∉ frs (X.env :: X.outer) := fun hm => by
      obtain ⟨_, o', e', nf⟩ := fl1.2.2.1.mem hm
      rw [e1] at e'
      cases e'
      exact nf _ dt1
    have aL : a ≠ X.env.locals := fun z => offStack (List.mem_filterMap.mpr ⟨X.env, List.mem_cons_self, by rw [hf, z]⟩)
    have aF : a ∉ X.fs := fun hm => by
      obtain ⟨e, he, q⟩ := List.mem_filterMap.mp hm
      exact offStack (List.mem_filterMap.mpr ⟨e, List.mem_cons_of_mem _ he, q⟩)
    have S1 := I1.suite e1 dt1 na aL aF
    refine wpAny_handleBy_cons (codeAny_handlers_test ?_) (by intro q; cases q)
    have ty : PySem.W.Looks (model X.prog X.w) g1 (typeOf (.ref a)) cls := fun A Q E s k q => wpAny_typeOf_ref (k _ _ e1) (by rw [z1.1]; exact q)
    have mt := PySem.W.exm_one (M := model X.prog X.w) I1.kIn ty m
    have names : ∀ {Q : Value → Shared → Prop} {R : Value → Shared → Prop}, Q c { s1 with heap := g1 } → wpAny (model X.prog X.w) (X.A.mark (some (.ref a))) (eval (.Name x np) X.env) Q R { s1 with heap := g1 } := fun {Q R} q => by
      obtain ⟨hg, hd, hm | ⟨hm, hv, hn⟩⟩ := hc
      · exact ld_glob (X := X.suite a ((a, o1) :: (X.pn ++ pins))) S1 hg hm q hd
      · exact ld_blt (X := X.suite a ((a, o1) :: (X.pn ++ pins))) S1 hg hm hv q hn hd
    refine names (mt.here ?_)
    refine codeAny_handlers_suite_as ?_
    refine HandSPX.lands_againZ fl1 fun g2 fl2 up2 => ?_
    have I2 : Inv X pins σ1 H1 { s1 with heap := g2 } := J.landed ground fl2.1 ((up.trans up1).trans up2) eos bare
    obtain ⟨o2, v2, e2, z2, dt2⟩ := fl2.there
    have aG : G.get? a = none := fl2.2.1
    have notI : ∀ u, sI.heap.get? a = some u → False := fun u q => by
      have z := ground a u q (by rw [st]; exact offStack)
      rw [aG] at z; cases z
    have I3 : Inv X pins σ1 (upd H1 a (exh a cls d)) { s1 with heap := g2 } := inv_track I2 na aL (fun y' c' hc' z => by
        subst z
        obtain ⟨w', oc, ho, hd⟩ := I2.cell y' c' hc'
        have ho : g2.get? c' = some oc := ho
        rw [e2] at ho
        cases ho
        rw [dt2] at hd; cases hd) (fun p hp z => by
        obtain ⟨q1, _⟩ := J.pin p hp
        rw [z] at q1
        exact notI _ q1) (fun u q1 q2 q3 => notI _ (J.base.keep a u q1 q2 aF q3)) (exh_ok e2 z2 dt2)
    have S3 : Inv (X.suite a (X.pn ++ pins)) [] σ1 (upd H1 a (exh a cls d)) { s1 with heap := g2 } := ⟨I3.ok.suite _ _, I3.os, I3.bare, I3.base, I3.loc, I3.cell, I3.free, I3.freeC, fun p hp => I3.pin p (by
      have hp : p ∈ (X.pn ++ pins) ++ [] := hp
      rw [List.append_nil] at hp; exact hp), I3.hok, I3.len⟩
    refine store_ok (X := X.suite a (X.pn ++ pins)) (v := .ref a) S3 hN hi (.inl ln) rfl (fun s5 S5 => ?_) (.inr ln)
    have len1 : i < σ1.length := by rw [I3.len]; exact (List.getElem?_eq_some_iff.mp hi).1
    refine wpAny_mono ((pss_one (ps_set (X := X.suite a (X.pn ++ pins)) (i := j) (pos := p3) hN hj (.inl ly) (pe_var (pos := p2) hi (.inl ln) d1 d2) (sw _) (.inr ly))).run [] s5 _ _ { nx := fun σ' H' => E.nx (σ'.set i none) H', rt := fun _ _ => False } S5 ⟨.ref a, by rw [List.getElem?_set_self len1], go a na⟩) (fun f s6 h6 => ?_) (fun _ _ z => False.elim z)
    cases f with
    | next =>
      obtain ⟨σ6, H6, S6, q6⟩ := h6
      have J6 : Inv X pins σ6 H6 s6 := ⟨ok, S6.os, S6.bare, S6.base, S6.loc, S6.cell, S6.free, S6.freeC, fun p hp => S6.pin p (List.mem_append_left _ hp), S6.hok, S6.len⟩
      exact gone_ok J6 hN hi ln fun s7 J7 => ⟨_, _, J7, q6⟩
    | brk => obtain ⟨_, _, _, z⟩ := h6; exact z.elim
    | cont => obtain ⟨_, _, _, z⟩ := h6; exact z.elim
    | ret u => obtain ⟨_, _, _, _, _, z⟩ := h6; exact z.elim
  refine wpAny_mono (hb (X.pn ++ pins) _ tk PassesOwn.looking [] s (I.toTry _)) (fun f s1 h => ?_) fun e s1 h => h
  cases f with
  | next => obtain ⟨σ1, H1, J, q⟩ := h; exact wpAny_execs_nil ⟨σ1, H1, J.ofTry ok, q⟩
  | brk => obtain ⟨σ1, H1, J, q⟩ := h; exact ⟨σ1, H1, J.ofTry ok, q⟩
  | cont => obtain ⟨σ1, H1, J, q⟩ := h; exact ⟨σ1, H1, J.ofTry ok, q⟩
  | ret u => obtain ⟨v, σ1, H1, J, r, q⟩ := h; exact ⟨v, σ1, H1, J.ofTry ok, r, q⟩
end
end DL
set_option Elab.async false
set_option linter.all false
set_option maxRecDepth 100000
set_option maxHeartbeats 4000000
/-! A lambda, with one written default or none, made where the table of code objects may grow -/
namespace DL
open PySem PySem.Spec L2 LamX
open PyProof.Rows hiding St
/-- a lambda's function, its defaults' tuple dV -/
abbrev lamF (q : Str) (params : Arguments) (body : Expr) (scope : Scope) (cl : List (Str × Addr)) (pm cdv ct dV : Value) : FuncData := { PySem.W.kla_fn "<lambda>" q params body scope cl pm cdv ct with defaults := dV }
abbrev lamO (q : Str) (params : Arguments) (body : Expr) (scope : Scope) (cl : List (Str × Addr)) (pm cdv ct dV : Value) : Obj := { cls := .type "function", data := .func (lamF q params body scope cl pm cdv ct dV) }
/-- what the making leaves: a new heap H1, the function at f with its code object at c -/
structure Made (X : Cx) (pins : List (Addr × Obj)) (σ : St) (H H1 : Hp) (P f c : Addr) (q : Str) (params : Arguments) (body : Expr) (scope : Scope) (dV : Value) (s' : Shared) : Prop where
  inv : Inv X pins σ H1 s'
  keep : ∀ b o, b ≠ P → H b = some o → H1 b = some o
  old : ∀ b, H1 b = none → H b = none
  tab : TabS H1 P q
  grown : ∃ ps ps' : Array Value, H P = some (.tbl ps) ∧ H1 P = some (.tbl ps') ∧ TriplesOk ps'.toList ∧ ∀ pos cv, codeAmong pos ps'.toList = some cv → codeAmong pos ps.toList = some cv ∨ ∃ c1, cv = .ref c1 ∧ H1 c1 = some (CodeO c1 q) ∧ H c1 = none
  obj : ∃ pm ct, s'.heap.get? f = some (lamO q params body scope (cloFrom X.env.cells scope.names []) pm (.ref c) ct dV)
  fn : H1 f = none
  nf : f ∉ frs X.stack
  code : H1 c = some (CodeO c q)
section
variable {X : Cx} {pins : List (Addr × Obj)} {σ : St} {H : Hp} {s : Shared}
theorem off_stack (I : Inv X pins σ H s) {f : Addr} (hf : s.heap.objs.size ≤ f) : f ∉ frs X.stack := fun z => by
  rcases List.mem_cons.mp (I.stkSub _ z) with e | e
  · have l := I.lt
    rw [← e] at l
    exact absurd l (Nat.not_lt_of_le hf)
  · exact I.nofs hf e
/-- the cells' tuple of a closure -/
theorem clo_tuple {M : Model} {A : Around} {E : Value → Shared → Prop} {vs : List Value} {k : Value → Sem Value} {Q : Value → Shared → Prop} (b : Bool) (h : ∀ v g, (∀ c o, s.heap.get? c = some o → g.get? c = some o) → s.heap.objs.size ≤ g.objs.size → wpAny M A (k v) Q E { s with heap := g }) :
    wpAny M A (if b = true then (pure .none >>= k) else (newTextTuple vs >>= k)) Q E s := by
  cases b with
  | true => exact wpAny_bind (wpAny_pure (h .none s.heap (fun _ _ z => z) (Nat.le_refl _)))
  | false => exact wpAny_bind (wpAny_newTextTuple (h _ _ (fun _ _ z => Heap.get?_push_of_some _ z) (by rw [Heap.size_push]; exact Nat.le_succ _)))
theorem lam_tail {c P : Addr} {q : Str} {params : Arguments} {body : Expr} {scope : Scope} {pos : Pos} {ln : Nat} {dV : Value} {E : Value → Shared → Prop} {Q : Value → Shared → Prop} (I : Inv X pins σ H s) (TB : TabB X.base X.mg c P) (code : X.env.code = .ref c) (T : TabS H P q)
    (free : ∀ y ∈ scope.names, y.2 = .free → ∃ c, X.env.cells.lookup y.1 = some c) (h : ∀ f c' H1 s', Made X pins σ H H1 P f c' q params body scope dV s' → Q (.ref f) s') :
    wpAny (model X.prog X.w) X.A (makeTail "<lambda>" q params (.expr body) scope X.env dV .none none pos ln) Q E s := by
  obtain ⟨ps, hP, tr, am⟩ := T
  obtain ⟨bm, ob, bm1, bm2, bm3, bm4, bm5, bm6, bm7, bm8⟩ := TB.bm.keeps I.bk
  have hPs : s.heap.get? P = some { cls := .none, data := .fields ps } := I.hok P _ hP
  unfold makeTail
  rw [closure_ok free, I.ok.glob]
  refine wpAny_bind (wpAny_pure ?_)
  dsimp only
  refine clo_tuple _ fun ctv g kg zg => ?_
  have I1 : Inv X pins σ H { s with heap := g } := I.kept (t' := s.toks) kg
  have hPg := kg _ _ hPs
  have CH : PySem.W.CodeHd g c P := TB.code.keeps I1.bk
  cases found : codeAmong pos ps.toList with
  | some cv =>
    obtain ⟨c', rfl, hc'⟩ := am pos cv found
    refine wpAny_bind (wpAny_functionCode_hit code (CH.code hPg tr) found ?_)
    refine wpAny_bind (wpAny_builtinsFor (I1.mod.glob.keeps I1.bk) bm1 bm2 (kg _ _ bm5) bm6 bm7 bm8 ?_)
    refine wpAny_bind (wpAny_nsGet (I1.mod.glob.keeps I1.bk) ?_)
    refine wpAny_bind (wpAny_pure (wpAny_newObj_type (h g.objs.size c' H _ ?_) (by size_fits)))
    exact ⟨I1.kept (t' := s.toks) fun _ _ z => Heap.get?_push_of_some _ z, fun _ _ _ z => z, fun _ z => z, ⟨ps, hP, tr, am⟩, ⟨ps, ps, hP, hP, tr, fun _ _ z => .inl z⟩, ⟨_, ctv, Heap.get?_push_size _ rfl⟩, I1.hok.fresh (Nat.le_refl _), off_stack I1 (Nat.le_refl _), hc'⟩
  | none =>
    refine wpAny_bind (wpAny_functionCodeX code (CH.code hPg tr) (CH.tab hPg) found fun c' g2 tk ext lo hi _ rec tab _ => ?_)
    obtain ⟨c2, oc, fs, t, e2, goc, gd, gv⟩ := rec
    cases e2
    have gl : g2.Ns mainGlobals X.mg := (I1.mod.glob.keeps I1.bk).extBut ext TB.gP
    have bb : g2.get? bm = some ob := ext _ _ bm4 (kg _ _ bm5)
    refine wpAny_bind (wpAny_builtinsFor gl bm1 bm2 bb bm6 bm7 bm8 ?_)
    refine wpAny_bind (wpAny_nsGet gl ?_)
    refine wpAny_bind (wpAny_pure (wpAny_newObj_type (h g2.objs.size c' (upd (upd H P (.tbl (ps ++ #[rawInt pos.line, rawInt pos.col, .ref c']))) c' (CodeO c' q)) _ ?_) (by size_fits)))
    have nC : H c' = none := I1.hok.fresh lo
    have new : ∀ f, g2.objs.size ≤ f → H f = none := fun f hf => I1.hok.fresh (Nat.le_trans (Nat.le_trans lo (Nat.le_of_lt hi)) hf)
    have sz : g.objs.size ≤ g2.objs.size := Nat.le_trans lo (Nat.le_of_lt hi)
    have PneC : P ≠ c' := ne_of_none hP nC
    have tabs : TabS (upd (upd H P (.tbl (ps ++ #[rawInt pos.line, rawInt pos.col, .ref c']))) c' (CodeO c' q)) P q := by
      have el : (ps ++ #[rawInt pos.line, rawInt pos.col, .ref c']).toList = ps.toList ++ [rawInt pos.line, rawInt pos.col, .ref c'] := by simp
      refine ⟨_, by rw [upd_ne PneC, upd_same], by rw [el]; exact PySem.TriplesOk_snoc _ _ _ _ tr, fun p' cv hcv => ?_⟩
      rw [el] at hcv
      rcases among_app _ tr hcv with z | z
      · obtain ⟨c0, z1, z2⟩ := am p' cv z
        refine ⟨c0, z1, ?_⟩
        rw [upd_ne (ne_of_none z2 nC), upd_ne (fun w => by rw [w, hP] at z2; exact absurd (Option.some.inj z2).symm (codeO_ne ps))]
        exact z2
      · exact ⟨c', z, upd_same⟩
    have el : (ps ++ #[rawInt pos.line, rawInt pos.col, .ref c']).toList = ps.toList ++ [rawInt pos.line, rawInt pos.col, .ref c'] := by simp
    have J := inv_table (t' := tk) (more := #[rawInt pos.line, rawInt pos.col, .ref c']) (h' := g2.push (lamO q params body scope (cloFrom X.env.cells scope.names []) ((X.mg "__name__").getD .none) (.ref c') ctv dV)) I1 hP
      (fun b o hb e => Heap.get?_push_of_some _ (ext b o hb e)) (Heap.get?_push_of_some _ tab.2) lo ⟨oc, fs, t, Heap.get?_push_of_some _ goc, gd, gv⟩
    refine ⟨J, fun b o hb z => ?_, fun b z => ?_, tabs, ⟨ps, _, hP, by rw [upd_ne PneC, upd_same], by rw [el]; exact PySem.TriplesOk_snoc _ _ _ _ tr, fun p' cv hcv => ?_⟩, ⟨_, ctv, Heap.get?_push_size _ rfl⟩, ?_, off_stack I1 sz, upd_same⟩
    · rw [upd_ne (ne_of_none z nC), upd_ne hb]; exact z
    · by_cases b1 : b = c'
      · subst b1; exact nC
      · rw [upd_ne b1] at z
        by_cases b2 : b = P
        · subst b2; rw [upd_same] at z; cases z
        · rw [upd_ne b2] at z; exact z
    · rw [el] at hcv
      exact (among_app _ tr hcv).imp id fun z => ⟨c', z, upd_same, nC⟩
    · rw [upd_ne (Nat.ne_of_gt hi), upd_ne (fun z => by have := new P (by rw [← z]; exact Nat.le_refl _); rw [hP] at this; cases this)]
      exact new _ (Nat.le_refl _)
end
end DL
set_option Elab.async false
set_option linter.all false
set_option maxRecDepth 100000
set_option maxHeartbeats 4000000
/-! A lambda's expression evaluated; a lambda called in the def that got it, where it refuses -/
namespace DL
open PySem PySem.Spec L2 LamX
open PyProof.Rows hiding St
/-- a lambda's names: captured ones, globals, parameters that the def around does not name -/
structure LamD (N : List Str) (sc scope : Scope) : Prop where
  kind : scope.kind = .function
  co : scope.isCoroutine = false
  gen : scope.isGenerator = false
  own : ∀ y ∈ scope.names, y.2 ≠ .cell ∧ (y.2 = .local → y.1 ∉ N)
  free : ∀ y ∈ scope.names, y.2 = .free → sc.names.lookup y.1 = some .cell ∨ sc.names.lookup y.1 = some .free
def lamDB (N : List Str) (sc scope : Scope) : Bool :=
  decide (scope.kind = .function) && (!scope.isCoroutine && (!scope.isGenerator && scope.names.all fun y => !decide (y.2 = .cell) && (!decide (y.2 = .local) || !decide (y.1 ∈ N)) && (!decide (y.2 = .free) || (decide (sc.names.lookup y.1 = some .cell) || decide (sc.names.lookup y.1 = some .free)))))
theorem lamD_by {N : List Str} {sc scope : Scope} (h : lamDB N sc scope = true) : LamD N sc scope := by
  unfold lamDB at h
  rw [Bool.and_eq_true, Bool.and_eq_true, Bool.and_eq_true] at h
  obtain ⟨h1, h2, h3, h4⟩ := h
  rw [List.all_eq_true] at h4
  refine ⟨of_decide_eq_true h1, by simpa using h2, by simpa using h3, fun y hy => ?_, fun y hy e => ?_⟩
  · have z := h4 y hy
    simp only [Bool.and_eq_true, Bool.or_eq_true, Bool.not_eq_true', decide_eq_false_iff_not] at z
    exact ⟨z.1.1, fun e => z.1.2.resolve_left fun n => n e⟩
  · have z := h4 y hy
    simp only [Bool.and_eq_true, Bool.or_eq_true, Bool.not_eq_true', decide_eq_false_iff_not, decide_eq_true_eq] at z
    exact z.2.resolve_left fun n => n e
/-- the defaults' tuple: none, or one int -/
def dvOk (H : Hp) (dV : Value) : Prop := dV = .none ∨ ∃ (t : Addr) (i : Int), dV = .ref t ∧ H t = some (.tup [.int i])
/-- what binding gives -/
structure BindL (q : Str) (params : Arguments) (body : Expr) (scope : Scope) (one : Option Str) : Prop where
  zero : one = none → ∀ cl pm cv ct, bindArgs (lamF q params body scope cl pm cv ct .none) ⟨[], []⟩ = pure []
  one : ∀ x, one = some x → scope.names.lookup x = some .local ∧ ∀ cl pm cv ct t, ∃ k, bindArgs (lamF q params body scope cl pm cv ct (.ref t)) ⟨[], []⟩ = seqItems? (.ref t) >>= k ∧ ∀ v, k (some #[v]) = pure [(x, v)]
def dvFor (H : Hp) (one : Option Str) (dV : Value) : Prop := match one with
  | none => dV = .none
  | some _ => ∃ (t : Addr) (i : Int), dV = .ref t ∧ H t = some (.tup [.int i])
section
variable {X : Cx} {pins : List (Addr × Obj)} {σ : St} {H : Hp} {s : Shared}
theorem lam_eval0 {c P : Addr} {params : Arguments} {body : Expr} {scope : Scope} {pos : Pos} {E : Value → Shared → Prop} {Q : Value → Shared → Prop} (I : Inv X pins σ H s) (TB : TabB X.base X.mg c P) (code : X.env.code = .ref c) (T : TabS H P (X.env.qual ++ "<lambda>"))
    (free : ∀ y ∈ scope.names, y.2 = .free → ∃ c, X.env.cells.lookup y.1 = some c) (df : defaultsOf params X.env = ([], [])) (h : ∀ f c' H1 s', Made X pins σ H H1 P f c' (X.env.qual ++ "<lambda>") params body scope .none s' → Q (.ref f) s') :
    wpAny (model X.prog X.w) X.A (eval (.Lambda params body scope pos) X.env) Q E s := by
  refine PySem.W.kla_eval df ?_
  rw [makeFunction_eq]
  simp only [List.zip_nil_right, List.filterMap_nil, List.isEmpty_nil, if_true, pure_bind]
  exact lam_tail I TB code T free h
theorem lam_eval1 {c P : Addr} {params : Arguments} {body : Expr} {scope : Scope} {pos p0 : Pos} {i : Int} {j : Nat} {E : Value → Shared → Prop} {Q : Value → Shared → Prop} (I : Inv X pins σ H s) (TB : TabB X.base X.mg c P) (code : X.env.code = .ref c) (T : TabS H P (X.env.qual ++ "<lambda>"))
    (free : ∀ y ∈ scope.names, y.2 = .free → ∃ c, X.env.cells.lookup y.1 = some c) (df : defaultsOf params X.env = ([eval (.Constant (.int i) j p0) X.env], []))
    (h : ∀ t f c' H1 s', H t = none → Made X pins σ (upd H t (.tup [.int i])) H1 P f c' (X.env.qual ++ "<lambda>") params body scope (.ref t) s' → Q (.ref f) s') :
    wpAny (model X.prog X.w) X.A (eval (.Lambda params body scope pos) X.env) Q E s := by
  rw [arm_eval_Lambda, df]
  show wpAny _ _ (do let dv ← evalAll [eval (.Constant (.int i) j p0) X.env]; let kdv ← holding dv (evalAllOpt []); makeFunction "<lambda>" (X.env.qual ++ "<lambda>") params (.expr body) scope X.env dv kdv [] pos pos.line) _ _ _
  show wpAny _ _ ((do let v ← eval (.Constant (.int i) j p0) X.env; return v :: (← holding [v] (evalAll []))) >>= _) _ _ _
  refine wpAny_bind (wpAny_bind (wpAny_Constant_int ?_))
  refine wpAny_bind (wpAny_holding (wpAny_pure (wpAny_pure ?_)))
  refine wpAny_bind (wpAny_holding (wpAny_pure ?_))
  rw [makeFunction_eq]
  simp only [List.zip_nil_right, List.filterMap_nil, List.isEmpty_nil, List.isEmpty_cons, Bool.false_eq_true, if_false, if_true, pure_bind]
  have I0 := I.tok (s.toks + 1)
  have n0 : H s.heap.objs.size = none := I.hok.fresh (Nat.le_refl _)
  refine wpAny_bind (wpAny_newTextTuple ?_)
  have I1 : Inv X pins σ (upd H s.heap.objs.size (.tup [.int i])) { s with heap := s.heap.push { cls := .type "tuple", data := .seq #[.int i s.toks] }, toks := s.toks + 1 } :=
    I.laid (t' := s.toks + 1) (fun b u e => Heap.get?_push_of_some _ e) (Nat.le_refl _) ⟨by rw [sizeLine_eq]; show 1 ≤ 16777216; omega, [.int i s.toks], .cons ⟨_, rfl⟩ .nil, _, Heap.get?_push_size _ rfl, rfl, _, rfl⟩
  have T1 : TabS (upd H s.heap.objs.size (.tup [.int i])) P (X.env.qual ++ "<lambda>") := T.ext fun b o e => by rw [upd_ne (ne_of_none e n0)]; exact e
  exact lam_tail I1 TB code T1 free fun f c' H1 s' m => h _ f c' H1 s' n0 m

/-- the lambda's frame is entered -/
theorem lam_begin {HZ : Hp} {s1 : Shared} {A : Around} {outer : List Env} {E : XK} {scope : Scope} {f c' : Addr} {g : Heap} {tk : Nat} {bs : List (Str × Value)} (I : Inv X pins σ H s) (L : LamD X.N X.env.scope scope) (e0 : Env0 X.prog X.w X.K X.mg X.base A outer s1 HZ) (calm : A.handled = none)
    (un : Un (frs X.stack) [] H HZ s.heap s1.heap) (hns : g.Ns s1.heap.objs.size fun y => bs.reverse.lookup y) (kp : ∀ b o, s1.heap.get? b = some o → g.get? b = some o) : Inv (lamCx X A outer s1 HZ E scope f c') [] σ HZ { s1 with heap := g, toks := tk } := by
  have up : ∀ {y c}, (cloFrom X.env.cells scope.names []).lookup y = some c → X.env.cells.lookup y = some c := fun e => NdefX.clo_cm (fun y hy k => (L.free y hy k).elim (fun z => I.ok.has _ (.inl z)) fun z => I.ok.has _ (.inr z)) e
  have there : ∀ {y}, scope.names.lookup y = some .free → ∃ c, (cloFrom X.env.cells scope.names []).lookup y = some c := fun {y} e => mem_lookup (cloFrom_has (cells := X.env.cells) (acc := []) (PySem.mem_of_lookup e))
  have cell : ∀ {c : Addr} {v : Option Value}, H c = none → s.heap.IsCell c v → g.IsCell c v := fun {c v} n ⟨o, ho, hd⟩ => by
    obtain ⟨sl, z⟩ := un.any ho n (by simp)
    exact ⟨_, kp _ _ z, hd⟩
  have none_ex : ∀ b : Addr, b ∈ (lamCx X A outer s1 HZ E scope f c').ex → False := fun b z => by
    have z : b ∈ ([] : List Addr) := z
    cases z
  have okL : (lamCx X A outer s1 HZ E scope f c').Ok := {
    mod := e0.mod
    kind := L.kind
    glob := rfl
    blt := rfl
    above := Nat.le_refl _
    inj := fun y z c e1 e2 => I.ok.inj y z c (up e1) (up e2)
    has := fun y hy => by
      rcases (show scope.names.lookup y = some .cell ∨ scope.names.lookup y = some .free from hy) with k | k
      · exact absurd rfl (L.own _ (PySem.mem_of_lookup k)).1
      · exact there k
    cab := fun y c z _ => absurd (show false = true from z) Bool.false_ne_true
    hd := fun _ => calm
    frames := Around.frames_deeper e0.frames
    stk := .inr ⟨rfl, rfl⟩
    exf := fun b z => (none_ex b z).elim
    bs := e0.bs
    bsz := e0.bsz
    noex := fun b _ _ z => none_ex b z
    exfs := fun b z => (none_ex b z).elim
    funs := e0.funs
    frf := e0.frf }
  refine ⟨okL, rfl, e0.bare, Un.kept kp, ⟨_, hns, fun i y v e1 e2 e3 => ?_⟩, fun y c e => ?_, e0.hok.fresh (Nat.le_refl _), fun y c e => ?_, fun q hq => absurd (show q ∈ ([] : List (Addr × Obj)) ++ [] from hq) (by simp), e0.hok.kept kp, I.len⟩
  · rcases (show Vis scope y from e3) with k | k | k
    · exact absurd (List.mem_of_getElem? e1) ((L.own _ (PySem.mem_of_lookup k)).2 rfl)
    · exact absurd rfl (L.own _ (PySem.mem_of_lookup k)).1
    · have fr := L.free _ (PySem.mem_of_lookup k) rfl
      obtain ⟨m, _, look⟩ := I.loc
      obtain ⟨u, r, l⟩ := look i y v e1 e2 (fr.elim (fun z => .inr (.inl z)) fun z => .inr (.inr z))
      obtain ⟨c, hc⟩ := there k
      refine ⟨u, r, .inr ⟨.inr k, c, hc, ?_⟩⟩
      rcases l with ⟨kl, _⟩ | ⟨_, c2, hc2, z⟩
      · have kl : X.env.scope.names.lookup y = some .local := kl; rcases fr with z | z <;> rw [show X.env.scope.names.lookup y = _ from z] at kl <;> cases kl
      · rw [up hc] at hc2
        cases hc2
        exact cell (I.freeC y _ (up hc)) z
  · obtain ⟨v, z⟩ := I.cell y c (up e)
    exact ⟨v, cell (I.freeC y c (up e)) z⟩
  · obtain ⟨v, o, ho, _⟩ := I.cell y c (up e)
    exact un.free c o ho (I.freeC y c (up e)) (by simp)
/-- x() in the def that got the lambda, where the lambda refuses -/
theorem ask_refuses {H0 : Hp} {P f c : Addr} {q : Str} {params : Arguments} {body : Expr} {scope : Scope} {dV : Value} {one : Option Str} {CXg : CXT} {Eg : XK} {Ng : List Str} {qg a : Str} {sg : Scope} {g : Addr} {cdg : Value} {pn : List (Addr × Obj)} {xe : Value → Shared → Prop} {W : WX} {p1 p2 : Pos} {i k : Nat}
    {B : Base} {Hs HsZ HZ : Hp} {S : LSt} {σZ : St} {C : Addr} {p : Str} (M : Made X pins σ H0 H P f c q params body scope dV s) (L : LamD X.N X.env.scope scope) (bl : BindL q params body scope one) (hq : q = X.env.qual ++ "<lambda>")
    (hN : Ng[i]? = some a) (hv : Vis sg a) (slot : σZ[i]? = some (some (.ref f))) (hc : HZ c = some (CodeO c q)) (dv : dvFor HZ one dV)
    (o : StOK X.K none B Hs S σ H) (sh : Shs S) (w1 : Same Hs HsZ) (w2 : Same HsZ HZ)
    (tk : Takes ((cxOf CXg X.prog X.w X.K X.mg X.base Ng qg sg g cdg X.A X.stack s H Eg).tr pn xe) W) (hW : ∀ d Hs' H', Ext none HsZ HZ Hs' H' → Hs' d = some (parD p) → W (.ref C) (some d) σZ H') (hr : Room (k + 1) (X.A.deeper (envOfC qg sg s.heap.objs.size g cdg)))
    (hbody : ∀ (A : Around) (outer : List Env) (s1 : Shared) (E : XK) (f c : Addr) (B1 : Base), Room k (A.deeper (lamEnv X scope s1.heap.objs.size f c)) → Wish (lamCx X A outer s1 HZ E scope f c) B1 C p → RE (lamCx X A outer s1 HZ E scope f c) B1 body S)
    (hd : (a == ("__debug__" : Str)) = false := by decide) (hcd : (a == ("__classdict__" : Str)) = false := by decide) (Q : VK) :
    WE ((cxOf CXg X.prog X.w X.K X.mg X.base Ng qg sg g cdg X.A X.stack s H Eg).tr pn xe) (.Call (.Name a p1) [] [] p2) σZ HZ Q := by
  subst hq
  intro pinsZ sZ IZ
  refine wpAny_Call_Name_kw (thn ((pe_var (pos := p1) (i := i) hN hv hd hcd).run pinsZ sZ σZ HZ (fun v H1 => v = .ref f ∧ H1 = HZ) IZ ⟨.ref f, slot, rfl, rfl⟩) fun u s1 hu => ?_)
  obtain ⟨v, H1, I1, r1, rfl, rfl⟩ := hu
  cases (show u = Value.ref f from r1)
  obtain ⟨pm, ct, obj⟩ := M.obj
  have un : Un (frs X.stack) [] H H1 s.heap s1.heap := I1.base
  have obj1 : s1.heap.get? f = some (lamO (X.env.qual ++ "<lambda>") params body scope (cloFrom X.env.cells scope.names []) pm (.ref c) ct dV) := un.keep f _ obj M.fn M.nf (by simp)
  refine PySem.W.callWith_F0 ⟨_, _, _, _, obj1⟩ ?_
  obtain ⟨⟨oc, vs, t, c1, c2, c3⟩, _, _⟩ := I1.hok c _ hc
  obtain ⟨bs, hbs, hloc⟩ : ∃ bs : List (Str × Value), (∀ M', PySem.W.Looks M' s1.heap (bindArgs (lamF (X.env.qual ++ "<lambda>") params body scope (cloFrom X.env.cells scope.names []) pm (.ref c) ct dV) ⟨[], []⟩) bs) ∧ ∀ y ∈ bs, scope.names.lookup y.1 = some .local := by
    cases one with
    | none =>
      cases (show dV = .none from dv)
      exact ⟨[], fun M' => PySem.W.Looks.of_pure (bl.zero rfl _ _ _ _), fun y hy => by cases hy⟩
    | some x =>
      obtain ⟨t, j, rfl, ht⟩ := (show ∃ (t : Addr) (j : Int), dV = .ref t ∧ H1 t = some (.tup [.int j]) from dv)
      obtain ⟨_, its, rv, ot, ho, _, n, od⟩ := I1.hok t _ ht
      cases rv with
      | cons r rest =>
        rename_i u0 us
        cases rest
        obtain ⟨lx, k⟩ := bl.one x rfl
        obtain ⟨k, e1, e2⟩ := k (cloFrom X.env.cells scope.names []) pm (.ref c) ct t
        refine ⟨[(x, u0)], fun M' => ?_, fun y hy => ?_⟩
        · rw [e1]
          exact fun A Q E s kp q => wpAny_bind (wpAny_seqItems (kp _ _ ho) od (PySem.W.Looks.of_pure (e2 u0) A Q E s kp q))
        · cases hy with
          | head => exact lx
          | tail _ h => cases h
  have run : codeAny (model X.prog X.w) (X.A.deeper (envOfC qg sg s.heap.objs.size g cdg)) (.call (.ref f) ⟨[], []⟩) (CR (L2.CX X.prog X.w) (envOfC qg sg s.heap.objs.size g cdg :: X.stack) X.prog X.w H1 s1 Q fun cls d H' => W cls d σZ H') s1 := by
    refine PySem.W.kla_callFunE hr.depth obj1 rfl L.co L.gen rfl ⟨c, oc, vs, t, rfl, c1, c2, c3⟩ ((hbs _).here ?_)
    refine wpAny_newFunctionEnv (fun y hy => (L.own y hy).1) hloc (fun h₁ hns hsb => ⟨I1.nolimit.fresh _ hsb, ?_⟩) L.kind
    show codeAny _ _ (.expr body (lamEnv X scope s1.heap.objs.size f c)) _ _
    have J := lam_begin (f := f) (c' := c) (E := fun cls d H' => W cls d σZ H') (tk := s1.toks + bs.length) M.inv L I1.env0 hr.hd un hns fun b o e => hsb.extBut b o (Nat.ne_of_lt (Heap.lt_size e)) (Heap.get?_push_of_some _ e)
    have oZ : StOK X.K none ⟨HsZ, H1, 0⟩ HsZ S σ H1 := ⟨Ext.refl w2, o.len, fun j R z => let ⟨v, e1, e2⟩ := o.sh j R z; ⟨v, e1, R.mono w1 e2⟩, fun j O z => absurd z (sh j O), fun j l O O' b z => absurd z (sh j O), fun b z => by cases z⟩
    have wish : Wish (lamCx X (X.A.deeper (envOfC qg sg s.heap.objs.size g cdg)) (envOfC qg sg s.heap.objs.size g cdg :: X.stack) s1 H1 (fun cls d H' => W cls d σZ H') scope f c) ⟨HsZ, H1, 0⟩ C p := ⟨_, takes_of rfl rfl rfl rfl, fun d _ Hs' H' x y => hW d Hs' H' x y⟩
    refine PySem.W.kla_codeExpr (wpAny_mono (hbody _ _ s1 _ f c ⟨HsZ, H1, 0⟩ (hr.deeper _) wish HsZ σ H1 oZ Q [] _ J) (fun v s' z => ?_) fun e s' z => z)
    obtain ⟨w', H', J', rv, z⟩ := z
    exact ⟨w', H', J'.os, J'.bare, J'.base, J'.hok, rv, z⟩
  refine wpAny_call (codeAny_mono run fun r s' z => ?_)
  match r, z with
  | .error e, z => exact tk e s' (XE.of_call I1 (fun _ _ _ y => y) z)
  | .ok (.ret u), z => exact I1.after z
  | .ok .next, z => exact (show False from z).elim
  | .ok .brk, z => exact (show False from z).elim
  | .ok .cont, z => exact (show False from z).elim
end
end DL
set_option Elab.async false
set_option linter.all false
set_option maxRecDepth 100000
set_option maxHeartbeats 4000000
/-! What was caught: isinstance, its field -/
namespace DL
open PySem PySem.Spec L2
open PyProof.Rows hiding St
theorem exh_ne {a x : Addr} {cls : Value} {d : Option Addr} {kvs : List (Key × V)} : exh a cls d ≠ .dK kvs := fun z => by
  unfold exh at z
  cases z
theorem exh_nf {a : Addr} {cls : Value} {d : Option Addr} {o : Obj} {u : HO} : exh a cls d ≠ .frz o u := fun z => by
  unfold exh at z
  cases z
/-- a caught refusal of the class at C that tells p -/
def excT (C : Addr) (p : Str) : Th where
  p := fun H v => ∃ a d, v = .ref a ∧ H a = some (exh a (.ref C) (some d)) ∧ H d = some (parD p)
  mono := fun e ⟨a, d, h1, h2, h3⟩ => ⟨a, d, h1, e _ _ h2, e _ _ h3⟩
  lk := fun h ⟨a, d, h1, h2, h3⟩ => ⟨a, d, h1, by rw [upd_ne (ne_of h2 h (exh_ne (x := a)))]; exact h2, by rw [upd_ne (ne_of h3 h (by intro z; cases z))]; exact h3⟩
  ul := fun h ⟨a, d, h1, h2, h3⟩ => ⟨a, d, h1, by rw [upd_ne (ne_of h2 h exh_nf)]; exact h2, by rw [upd_ne (ne_of h3 h (by intro z; cases z))]; exact h3⟩
/-- what the classes must say -/
structure ExcK (K : PySem.W.Frag) (C : Addr) : Prop where
  is : ExcC K C
  hc : (PySem.W.clsIn K C).isSome = true
  np : PySem.W.findIn K (.ref C) "part" = some none
def rIsX (K : PySem.W.Frag) : List V → Hp → VK → Prop := fun xs H Q => ∃ (a C d : Addr) (c : V) (u : Value) (p : Str) (b : Bool), xs = [.ref a, c] ∧ ClsV c u ∧ H a = some (exh a (.ref C) (some d)) ∧ H d = some (parD p) ∧ ExcK K C ∧ PySem.W.kitOne K (.ref C) u = some b ∧ Q (.bl b) H
section
variable {X : Cx} {pn : Option Addr} {S : LSt} {P : Th → LSt → Prop} {e : Expr} {pos : Pos}
theorem exc_inst {pins : List (Addr × Obj)} {σ : St} {H : Hp} {s : Shared} {a C d : Addr} {p : Str} (I : Inv X pins σ H s) (h1 : H a = some (exh a (.ref C) (some d))) (h2 : H d = some (parD p)) :
    ∃ (oe od : Obj) (mA : Str → Option Value), PySem.W.InstAt s.heap a oe C (some od) ∧ s.heap.get? d = some od ∧ (∀ y, PySem.W.lookIn y od = some (mA y)) ∧ ∀ y : Str, RelO (List.lookup y [(("part" : Str), V.str p)]) (mA y) := by
  obtain ⟨oe, vs, e1, z, e2⟩ := exh_at I.hok h1
  obtain ⟨mA, hns, hr⟩ := (show ObjOk X.prog X.w H s.heap d (.xd [("part", .str p)]) from I.hok d _ h2)
  obtain ⟨od, ho, hl⟩ := lookIn_ns hns
  exact ⟨oe, od, mA, ⟨e1, z.1, by unfold PySem.W.notCls; rw [e2] <;> rfl, by rw [z.2]; exact ho⟩, ho, hl, hr⟩
theorem call_isX : CallR X (.builtin "isinstance") (rIsX X.K) := by
  intro pins s σ H xs us Q I r h
  obtain ⟨a, C, d, c, u, p, b, rfl, k, h1, h2, T, e, q⟩ := h
  obtain ⟨u1, u2, rfl, r1, r2⟩ := vals2 r
  cases (show u1 = Value.ref a from r1)
  have e2 := k.eq r2
  subst e2
  obtain ⟨oe, od, mA, J, _⟩ := exc_inst I h1 h2
  exact PySem.W.kia_one (PySem.W.kitx_exc T.hc T.is.hg T.is.hk T.is.hs T.is.ha T.is.hn T.is.ht T.is.hm) I.kIn J e (fun z => nomatch z) fun tk => ⟨.bl b, H, I.tok tk, rfl, q⟩
/-- isinstance(e, Y), e caught -/
theorem le_isX {x y : Str} {p p' : Pos} {C C2 : Addr} {b : Bool} {q : Str} (hm : X.mg "isinstance" = none) (hT : X.mg y = some (.ref C2)) (T : ExcK X.K C) (kk : PySem.W.kitOne X.K (.ref C) (.ref C2) = some b) (h : LE X pn e S fun R S1 => R = excT C q ∧ P (vl (.bl b)) S1)
    (hx : x = "isinstance" := by rfl) (hg : Gl X "isinstance" := by rfl) (hgy : Gl X y := by rfl) (hd : (y == ("__debug__" : Str)) = false := by decide)
    (he : starEach [e, .Name y p'] X.env = (false, eval e X.env) :: starEach [.Name y p'] X.env := by rfl) (he2 : starEach [.Name y p'] X.env = (false, eval (.Name y p') X.env) :: starEach [] X.env := by rfl) (hpl : (backTo pos (starEach [.Name y p'] X.env)).any (·.1) = false := by rfl) :
    LE X pn (.Call (.Name x p) [e, .Name y p'] [] pos) S P := by
  subst hx
  refine le_cb call_isX hm (by decide +kernel) (la_cons (h.mono fun R S1 ⟨h1, h2⟩ => la_cons (le_glob (v := .ref C2) hT rfl ?_ hgy hd) he2) he) hg (by decide) (by decide) he hpl
  subst h1
  refine la_nil fun B Hs σ H vs o r1 Q q' => ?_
  cases r1 with
  | cons r1 r2 =>
    cases r2 with
    | cons r2 r3 =>
      cases r3
      cases (show _ = V.ref C2 from r2)
      obtain ⟨a, d, rfl, g1, g2⟩ := r1
      exact ⟨a, C, d, .ref C2, .ref C2, q, b, rfl, .own C2, o.w _ _ g1, o.w _ _ g2, T, kk, q' _ _ _ Hs H h2 o (.refl _) rfl⟩
/-- e.part, e caught -/
theorem le_part {C : Addr} {q : Str} (T : ExcK X.K C) (h : LE X pn e S fun R S1 => R = excT C q ∧ P (vl (.str q)) S1) (hb : attributeBase e "part" X.env (eval e X.env) = eval e X.env := by rfl) : LE X pn (.Attribute e "part" pos) S P := by
  intro B Hs σ H o Q k pins s I
  refine attr_of hb (thn (h B Hs σ H o (fun v H1 => ∃ Hs1 S1, StOK X.K pn B Hs1 S1 σ H1 ∧ Same Hs Hs1 ∧ (excT C q).p Hs1 v ∧ P (vl (.str q)) S1) (fun R S1 v Hs1 H1 ⟨h1, h2⟩ o1 e1 r1 => ⟨Hs1, S1, o1, e1, by rw [← h1]; exact r1, h2⟩) pins s I) fun u s1 ⟨v, H1, I1, rv, Hs1, S1, o1, e1, r1, h2⟩ => ?_)
  obtain ⟨a, d, rfl, g1, g2⟩ := r1
  cases (show u = Value.ref a from rv)
  obtain ⟨oe, od, mA, J, ho, hl, hr⟩ := exc_inst I1 (o1.w _ _ g1) (o1.w _ _ g2)
  obtain ⟨w, hu, rw'⟩ := RelO.some_of (v := V.str q) (o := mA "part") (by
    have z := hr "part"
    rw [show List.lookup ("part" : Str) [(("part" : Str), V.str q)] = some (V.str q) by simp [List.lookup]] at z
    exact z)
  exact HandSPX.exc_get I1.kIn J T.is.hg T.is.hk T.is.hs (PySem.W.findObj_own T.is.hd T.np rfl (by rw [hl, hu])) (handed_of rw') ⟨.str q, H1, I1.tok _, rw', k _ S1 _ Hs1 H1 h2 o1 e1 rfl⟩
end
end DL
set_option Elab.async false
set_option linter.all false
set_option maxRecDepth 100000
set_option maxHeartbeats 4000000
/-! _law_heard of a lambda that refuses; the table of code objects in a slot of its own -/
namespace DL
open PySem PySem.Spec L2 LamX
open PyProof.Rows hiding St
/-- the table of code objects: each bears the name q, each is known -/
def ownTab (q : Str) : Own where
  p := fun Hs _ o => ∃ ps, o = .tbl ps ∧ TriplesOk ps.toList ∧ ∀ pos cv, codeAmong pos ps.toList = some cv → ∃ c, cv = .ref c ∧ Hs c = some (CodeO c q)
  mono := fun e ⟨ps, h1, h2, h3⟩ => ⟨ps, h1, h2, fun pos cv h => let ⟨c, g1, g2⟩ := h3 pos cv h; ⟨c, g1, e _ _ g2⟩⟩
  mt := fun ⟨ps, h, _⟩ => by subst h; exact True.intro
  lk := fun hd ⟨ps, h1, h2, h3⟩ => ⟨ps, h1, h2, fun pos cv h => let ⟨c, g1, g2⟩ := h3 pos cv h; ⟨c, g1, by rw [upd_ne (ne_of g2 hd (fun z => by unfold CodeO at z; cases z))]; exact g2⟩⟩
  ul := fun hd ⟨ps, h1, h2, h3⟩ => ⟨ps, h1, h2, fun pos cv h => let ⟨c, g1, g2⟩ := h3 pos cv h; ⟨c, g1, by rw [upd_ne (ne_of g2 hd (fun z => by unfold CodeO at z; cases z))]; exact g2⟩⟩
/-- all slots but one are shared -/
def ShsBut (k : Nat) (S : LSt) : Prop := ∀ (i : Nat) O, i ≠ k → S.ρ[i]? ≠ some (some (.ow O))
abbrev LSt.hide (S : LSt) (k : Nat) : LSt := ⟨S.ρ.set k none, S.n⟩
theorem ShsBut.hide {k : Nat} {S : LSt} (h : ShsBut k S) : Shs (S.hide k) := fun i O z => by
  have z : (S.ρ.set k none)[i]? = some (some (.ow O)) := z
  by_cases e : k = i
  · subst e
    by_cases hl : k < S.ρ.length
    · rw [List.getElem?_set_self hl] at z; cases z
    · rw [List.getElem?_eq_none (by rw [List.length_set]; omega)] at z; cases z
  · rw [List.getElem?_set_ne e] at z
    exact h i O (Ne.symm e) z
section
variable {K : PySem.W.Frag} {pn : Option Addr} {B : Base} {Hs : Hp} {S : LSt} {σ : St} {H : Hp} {k : Nat}
theorem StOK.hide (o : StOK K pn B Hs S σ H) : StOK K pn B Hs (S.hide k) σ H := by
  have sub : ∀ i (E : Ent), (S.ρ.set k none)[i]? = some (some E) → S.ρ[i]? = some (some E) := fun i E z => by
    by_cases e : k = i
    · subst e
      by_cases hl : k < S.ρ.length
      · rw [List.getElem?_set_self hl] at z; cases z
      · rw [List.getElem?_eq_none (by rw [List.length_set]; omega)] at z; cases z
    · rw [List.getElem?_set_ne e] at z; exact z
  exact ⟨o.e, by show (S.ρ.set k none).length = _; rw [List.length_set]; exact o.len, fun i R z => o.sh i R (sub i _ z), fun i O z => o.ow i O (sub i _ z), fun i j O O' a z1 z2 => o.ne i j O O' a (sub i _ z1) (sub j _ z2), o.pen⟩
/-- a slot of which nothing is known may hold anything -/
theorem StOK.any (o : StOK K pn B Hs S σ H) (h : ∀ E, S.ρ[k]? ≠ some (some E)) (x : Option V) : StOK K pn B Hs S (σ.set k x) H := by
  have ne : ∀ i (E : Ent), S.ρ[i]? = some (some E) → k ≠ i := fun i E z e => by subst e; exact h E z
  refine ⟨o.e, by rw [List.length_set]; exact o.len, fun i R z => ?_, fun i O z => ?_, fun i j O O' a z1 z2 => ?_, o.pen⟩
  · rw [List.getElem?_set_ne (ne i _ z)]; exact o.sh i R z
  · rw [List.getElem?_set_ne (ne i _ z)]; exact o.ow i O z
  · rw [List.getElem?_set_ne (ne i _ z1), List.getElem?_set_ne (ne j _ z2)]; exact o.ne i j O O' a z1 z2
end
/-- the new shared heap: what was shared, and what is new -/
def heapN (Hs H H1 : Hp) : Hp := fun b => match H b with | none => H1 b | some _ => Hs b
theorem heapN_new {Hs H H1 : Hp} {b : Addr} (h : H b = none) : heapN Hs H H1 b = H1 b := by unfold heapN; rw [h]
theorem heapN_old {Hs H H1 : Hp} {b : Addr} {u : HO} (h : H b = some u) : heapN Hs H H1 b = Hs b := by unfold heapN; rw [h]
section
variable {X : Cx} {pins : List (Addr × Obj)} {σ : St} {H H0 H1 : Hp} {s s' : Shared} {P f c : Addr} {q : Str} {params : Arguments} {body : Expr} {scope : Scope} {dV : Value} {B : Base} {Hs : Hp} {S : LSt} {k : Nat}
/-- the state behind the making of a lambda -/
theorem StOK.lam (o : StOK X.K none B Hs S σ H) (sb : ShsBut k S) (gh : S.ρ[k]? = some (some (.ow ((ownTab q).atA P)))) (M : Made X pins σ H0 H1 P f c q params body scope dV s') (u0 : ∀ b o, H b = some o → H0 b = some o) (n0 : ∀ b, H0 b = none → H b = none) :
    StOK X.K none B (heapN Hs H H1) S σ H1 ∧ Same Hs (heapN Hs H H1) := by
  obtain ⟨a, u, hσ, hB, hHs, hH, rfl, ps, rfl, tr, am⟩ := o.ow k _ gh
  have old : ∀ b u, b ≠ a → H b = some u → H1 b = some u := fun b u n e => M.keep b u n (u0 b u e)
  have sm : Same Hs (heapN Hs H H1) := fun b u e => by rw [heapN_old (o.w _ _ e)]; exact e
  have neP : ∀ b u, Hs b = some u → b ≠ a := fun b u e z => by rw [z, hHs] at e; cases e
  refine ⟨⟨⟨o.e.s.trans sm, fun b u e => ?_, fun b u e _ => ?_, fun b e z => ?_, fun b e1 e2 => ?_⟩, o.len, fun i R z => let ⟨v, h1, h2⟩ := o.sh i R z; ⟨v, h1, R.mono sm h2⟩, fun i O z => ?_, fun i j O O' a z1 z2 => ?_, fun a z => by cases z⟩, sm⟩
  · cases q : H b with
    | none => rw [heapN_new q] at e; exact e
    | some w =>
      rw [heapN_old q] at e
      exact old b u (neP b u e) (o.w _ _ e)
  · exact old b u (fun z => by rw [z, hB] at e; cases e) (o.e.k b u e (by simp))
  · exact o.e.t b e (n0 b (M.old b z))
  · cases q : H b with
    | none => exact absurd q (o.e.t b e2)
    | some w => rw [heapN_old q]; exact o.e.f b e1 e2
  · by_cases e : i = k
    · subst e
      rw [gh] at z
      cases z
      obtain ⟨ps0, ps', g1, g2, g3, g4⟩ := M.grown
      rw [u0 _ _ hH] at g1
      cases g1
      refine ⟨a, .tbl ps', hσ, hB, by rw [heapN_old hH]; exact hHs, g2, rfl, ps', rfl, g3, fun pos cv h => ?_⟩
      rcases g4 pos cv h with h | ⟨c1, h1, h2, h3⟩
      · obtain ⟨c0, e1, e2⟩ := am pos cv h
        exact ⟨c0, e1, sm _ _ e2⟩
      · exact ⟨c1, h1, by rw [heapN_new (n0 _ h3)]; exact h2⟩
    · exact absurd z (sb i O e)
  · by_cases e1 : i = k
    · by_cases e2 : j = k
      · intro _ _; rw [e1, e2]
      · exact absurd z2 (sb j O' e2)
    · exact absurd z1 (sb i O e1)
/-- the lambda, with a default or without -/
theorem lam_evalD {c0 P : Addr} {pos : Pos} {one : Option Str} {E : Value → Shared → Prop} {Q : Value → Shared → Prop} (I : Inv X pins σ H s) (TB : TabB X.base X.mg c0 P) (code : X.env.code = .ref c0) (T : TabS H P (X.env.qual ++ "<lambda>"))
    (free : ∀ y ∈ scope.names, y.2 = .free → ∃ c, X.env.cells.lookup y.1 = some c) (df : (one = none ∧ defaultsOf params X.env = ([], [])) ∨ ∃ x i j p0, one = some x ∧ defaultsOf params X.env = ([eval (.Constant (.int i) j p0) X.env], []))
    (h : ∀ H0 dV f c' H1 s', Made X pins σ H0 H1 P f c' (X.env.qual ++ "<lambda>") params body scope dV s' → (∀ b o, H b = some o → H0 b = some o) → (∀ b, H0 b = none → H b = none) → dvFor H1 one dV → Q (.ref f) s') :
    wpAny (model X.prog X.w) X.A (eval (.Lambda params body scope pos) X.env) Q E s := by
  rcases df with ⟨rfl, df⟩ | ⟨x, i, j, p0, rfl, df⟩
  · exact lam_eval0 I TB code T free df fun f c' H1 s' M => h H .none f c' H1 s' M (fun _ _ e => e) (fun _ e => e) rfl
  · refine lam_eval1 I TB code T free df fun t f c' H1 s' n M => h _ (.ref t) f c' H1 s' M (fun b o e => by rw [upd_ne (ne_of_none e n)]; exact e) (fun b e => NdefX.upd_none e) ⟨t, i, rfl, M.keep t _ (fun z => ?_) upd_same⟩
    obtain ⟨ps, hP, _⟩ := T
    rw [z, hP] at n
    cases n
end
end DL
set_option Elab.async false
set_option linter.all false
set_option maxRecDepth 100000
set_option maxHeartbeats 4000000
namespace DL
open PySem PySem.Spec L2 LamX
open PyProof.Rows hiding St
abbrev NH : List Str := ["ask", "found", "caught", "error", "word", "is_one"]
abbrev st_heard : Stmt := top 84
theorem sc_heard : Scp NH ["ask"] st_heard := ⟨rfl, rfl, rfl, by decide +kernel, rfl, by decide +kernel, by decide +kernel⟩
/-- the four classes -/
structure HeardC (K : PySem.W.Frag) (mg : Str → Option Value) (CY CS CN CM : Addr) : Prop where
  w : ∃ CW, mg "WorldError" = some (.ref CW) ∧ ∀ C ∈ [CY, CS, CN, CM], PySem.W.exmOne K (.ref C) (.ref CW) = some true
  y : mg "BadYard" = some (.ref CY)
  s : mg "BadState" = some (.ref CS)
  n : mg "BadKnowledge" = some (.ref CN)
  m : mg "Misfit" = some (.ref CM)
  ek : ∀ C ∈ [CY, CS, CN, CM], ExcK K C
  is : ∀ C ∈ [CY, CS, CN, CM], ∀ D ∈ [CY, CS, CN, CM], PySem.W.kitOne K (.ref C) (.ref D) = some (decide (C = D))
  nd : [CY, CS, CN, CM].Nodup
  b1 : Blt mg "isinstance"
/-- the loop's target and body -/
def forTg (st : Stmt) : Expr := match (defBody st).getD 3 (.Pass ⟨0, 0, 0, 0⟩) with
  | .For t _ _ _ _ => t
  | _ => .Constant .none 0 ⟨0, 0, 0, 0⟩
def forBd (st : Stmt) : List Stmt := match (defBody st).getD 3 (.Pass ⟨0, 0, 0, 0⟩) with
  | .For _ _ b _ _ => b
  | _ => []
/-- the word for a class -/
def heardW (CY CS CN C : Addr) : Str := if C = CY then "yard" else if C = CS then "state" else if C = CN then "knowledge" else "misfit"
section
variable {P : Program} {w : World} {K : PySem.W.Frag} {mg : Str → Option Value} {base : Heap}
theorem heard_rest {CY CS CN CM C f0 : Addr} {cdv : Value} {A : Around} {outer : List Env} {s : Shared} {H : Hp} {E : XK} {p : Str} {R0 : Th} (hc : HeardC K mg CY CS CN CM) (hC : C ∈ [CY, CS, CN, CM]) :
    LB (bx P w K mg base NH "_law_heard" st_heard f0 cdv A outer s H E) none ((defBody st_heard).drop 2) ⟨[some (.sh R0), some (.sh (vl .non)), some (.sh (excT C p)), none, none, none], 0⟩ { nx := fun _ => False, rt := fun R _ => R = tupT K [sT (heardW CY CS CN C), sT p] } := by
  have ek := hc.ek C hC
  have is := hc.is C hC
  have isNone : ∀ (H : Hp) v, (excT C p).p H v → decide (v = V.non) = false := fun H v ⟨a, d, e, _⟩ => by subst e; exact decide_eq_false fun z => by cases z
  refine lb_cons <| l1_if <| lt_isN <| le_var (i := 2) rfl ⟨false, isNone, ?_⟩
  show LB _ _ _ _ _
  refine lb_nil <| lb_cons <| l1_for [4, 5] (li_tup <| le_tup <| la_cons <| le_tup <| la_cons <| le_str <| la_cons <| le_isX hc.b1 hc.y ek (is CY (by simp)) <| le_var (i := 2) rfl ⟨rfl, la_nil ⟨zl (n := 2), la_cons <| le_tup <| la_cons <| le_str <| la_cons <| le_isX hc.b1 hc.s ek (is CS (by simp)) <| le_var (i := 2) rfl ⟨rfl, la_nil ⟨zl (n := 2), la_cons <| le_tup <| la_cons <| le_str <| la_cons <|
    le_isX hc.b1 hc.n ek (is CN (by simp)) <| le_var (i := 2) rfl ⟨rfl, la_nil ⟨zl (n := 2), la_cons <| le_tup <| la_cons <| le_str <| la_cons <| le_isX hc.b1 hc.m ek (is CM (by simp)) <| le_var (i := 2) rfl ⟨rfl, la_nil ⟨zl (n := 2), la_nil ⟨zl (n := 4), _, rfl, ?_⟩⟩⟩⟩⟩⟩⟩⟩⟩) .never
  refine ⟨fun i S => (i = 0 ∨ C ≠ CY) ∧ (i ≤ 1 ∨ C ≠ CS) ∧ (i ≤ 2 ∨ C ≠ CN) ∧ (i ≤ 3 ∨ C ≠ CM) ∧ ∃ q4 q5, S = ⟨[some (.sh R0), some (.sh (vl .non)), some (.sh (excT C p)), none, q4, q5], 0⟩, ⟨.inl rfl, .inl (by omega), .inl (by omega), .inl (by omega), none, none, rfl⟩, ?_, ?_⟩
  · have body : ∀ (wd : Str) (b : Bool) (q4 q5 : Option Ent) (D : LD), (b = true → ∀ S, D.rt (tupT K [sT wd, sT p]) S) → (b = false → ∀ q4 q5, D.nx ⟨[some (.sh R0), some (.sh (vl .non)), some (.sh (excT C p)), none, q4, q5], 0⟩) →
        LG (bx P w K mg base NH "_law_heard" st_heard f0 cdv A outer s H E) none [4, 5] (forTg st_heard) ⟨[some (.sh R0), some (.sh (vl .non)), some (.sh (excT C p)), none, q4, q5], 0⟩ (tupT K [sT wd, bT b]) fun S3 =>
          LB (bx P w K mg base NH "_law_heard" st_heard f0 cdv A outer s H E) none (forBd st_heard) S3 D := by
      intro wd b q4 q5 D h1 h2
      refine lg_tup ⟨_, rfl, rfl, lgs_cons <| lg_name (i := 4) (lgs_cons <| lg_name (i := 5) (lgs_nil ?_) sc_heard.nd) sc_heard.nd⟩
      refine lb_cons <| l1_if <| lt_val <| le_var (i := 5) rfl ⟨b, rfl, ?_⟩
      cases b with
      | true => exact lb_cons <| l1_ret <| le_tup <| la_cons <| le_var (i := 4) rfl <| la_cons <| le_part ek <| le_var (i := 2) rfl ⟨rfl, la_nil ⟨zl (n := 2), h1 rfl _⟩⟩
      | false => exact lb_nil <| lb_nil <| h2 rfl _ _
    rintro i R' S2 hR ⟨g1, g2, g3, g4, q4, q5, rfl⟩
    match i, hR with
    | 0, hR =>
      cases hR
      exact body "yard" _ q4 q5 _ (fun z S => congrArg (fun x => tupT K [sT x, sT p]) (if_pos (of_decide_eq_true z)).symm) fun z q4 q5 => ⟨.inr (of_decide_eq_false z), .inl (by omega), .inl (by omega), .inl (by omega), q4, q5, rfl⟩
    | 1, hR =>
      cases hR
      have n1 := g1.resolve_left (by omega)
      exact body "state" _ q4 q5 _ (fun z S => congrArg (fun x => tupT K [sT x, sT p]) ((if_neg n1).trans (if_pos (of_decide_eq_true z))).symm) fun z q4 q5 => ⟨.inr n1, .inr (of_decide_eq_false z), .inl (by omega), .inl (by omega), q4, q5, rfl⟩
    | 2, hR =>
      cases hR
      have n1 := g1.resolve_left (by omega)
      have n2 := g2.resolve_left (by omega)
      exact body "knowledge" _ q4 q5 _ (fun z S => congrArg (fun x => tupT K [sT x, sT p]) ((if_neg n1).trans ((if_neg n2).trans (if_pos (of_decide_eq_true z)))).symm) fun z q4 q5 => ⟨.inr n1, .inr n2, .inr (of_decide_eq_false z), .inl (by omega), q4, q5, rfl⟩
    | 3, hR =>
      cases hR
      have n1 := g1.resolve_left (by omega)
      have n2 := g2.resolve_left (by omega)
      have n3 := g3.resolve_left (by omega)
      exact body "misfit" _ q4 q5 _ (fun z S => congrArg (fun x => tupT K [sT x, sT p]) ((if_neg n1).trans ((if_neg n2).trans (if_neg n3))).symm) fun z q4 q5 => ⟨.inr n1, .inr n2, .inr n3, .inr (of_decide_eq_false z), q4, q5, rfl⟩
    | i + 4, hR => cases hR
  · rintro S2 ⟨g1, g2, g3, g4, _⟩
    exfalso
    simp only [List.mem_cons, List.not_mem_nil, or_false] at hC
    rcases hC with rfl | rfl | rfl | rfl
    · exact g1.elim (fun z => by simp at z) fun z => z rfl
    · exact g2.elim (fun z => by simp at z) fun z => z rfl
    · exact g3.elim (fun z => by simp at z) fun z => z rfl
    · exact g4.elim (fun z => by simp at z) fun z => z rfl
end
end DL
set_option Elab.async false
set_option linter.all false
set_option maxRecDepth 100000
set_option maxHeartbeats 4000000
/-! _law_heard(lambda ..: ..), the lambda refuses -/
namespace DL
open PySem PySem.Spec L2 LamX
open PyProof.Rows hiding St
/-- the def _law_heard as it stands -/
structure HeardF (K : PySem.W.Frag) (mg : Str → Option Value) (f : Addr) (fd : FuncData) : Prop where
  F : Fun K "_law_heard" "_law_heard" st_heard f fd
  hm : mg "_law_heard" = some (.ref f)
  hb : Binds K fd ["ask"] []
section
variable {X : Cx} {S : LSt} {PP : Th → LSt → Prop} {pos p lpos : Pos} {params : Arguments} {body : Expr} {scope : Scope} {one : Option Str} {k : Nat}
theorem le_heard {c0 P f0 CY CS CN CM C : Addr} {fd : FuncData} {j : Nat} {pt wd : Str} (HF : HeardF X.K X.mg f0 fd) (hc : HeardC X.K X.mg CY CS CN CM) (hC : C ∈ [CY, CS, CN, CM]) (hw : heardW CY CS CN C = wd) (hr : Room j X.A) (hj : 8 ≤ j)
    (gh : S.ρ[k]? = some (some (.ow ((ownTab (X.env.qual ++ "<lambda>")).atA P)))) (sb : ShsBut k S) (TB : TabB X.base X.mg c0 P) (code : X.env.code = .ref c0) (L : LamD X.N X.env.scope scope) (bl : BindL (X.env.qual ++ "<lambda>") params body scope one)
    (df : (one = none ∧ defaultsOf params X.env = ([], [])) ∨ ∃ x i j p0, one = some x ∧ defaultsOf params X.env = ([eval (.Constant (.int i) j p0) X.env], []))
    (hbody : ∀ (HZ : Hp) (A : Around) (outer : List Env) (s1 : Shared) (E : XK) (f c : Addr) (B1 : Base), Room 6 (A.deeper (lamEnv X scope s1.heap.objs.size f c)) → Wish (lamCx X A outer s1 HZ E scope f c) B1 C pt → RE (lamCx X A outer s1 HZ E scope f c) B1 body (S.hide k))
    (q : PP (tupT X.K [sT wd, sT pt]) S) (hg : Gl X "_law_heard" := by rfl) : LE X none (.Call (.Name "_law_heard" p) [.Lambda params body scope lpos] [] pos) S PP := by
  subst hw
  intro B Hs σ H o Q kq pins s I
  obtain ⟨a, u, hσ, hBa, hHsa, hHa, rfl, ps, rfl, tr, am⟩ := o.ow k _ gh
  have T : TabS H a (X.env.qual ++ "<lambda>") := ⟨ps, hHa, tr, fun pos cv h => let ⟨c, e1, e2⟩ := am pos cv h; ⟨c, e1, o.w _ _ e2⟩⟩
  refine wpAny_Call_Name_kw (ld_glob I hg HF.hm ?_ (by decide))
  refine PySem.W.callWith_K (h₀ := X.base) I.ok.mod.kin HF.F.kp ?_ (by rfl) (by rfl)
  show wpAny _ _ (spliced ((false, eval (.Lambda params body scope lpos) X.env) :: backTo pos (starEach [] X.env))) _ _ s
  refine Calls.spliced_cons (lam_evalD I TB code T (fun y hy e => (L.free y hy e).elim (fun z => I.ok.has _ (.inl z)) fun z => I.ok.has _ (.inr z)) df fun H0 dV f c' H1 s' M u0 n0 dv => ?_)
  refine Calls.spliced_nil ⟨M.inv.kIn, ?_⟩
  obtain ⟨o1, sm⟩ := o.lam sb gh M u0 n0
  obtain ⟨oc, od, kV, doc, pm, an, cdv, ct, osl, rfl, lk, hcd⟩ := HF.F.ex
  have oA := start_ok (K := X.K) (N := NH) (n := 0) (Rs := [vl (.ref f)]) (vs := [.ref f]) o1.w (.cons rfl .nil)
  have rc : codeAny (model X.prog X.w) X.A (.call (.ref f0) ⟨[.ref f], []⟩) (CR (L2.CX X.prog X.w) X.stack X.prog X.w H1 s' Q C8.E0) s' := by
    refine run_ofS (N := NH) (ps := ["ask"]) (us := [.ref f]) (vs := [.ref f]) (k := 7) lk hcd sc_heard (hr.mono hj) M.inv.env0 (HF.hb s' [.ref f] M.inv.kIn rfl) (.cons rfl .nil) rfl fun hr' => ?_
    refine ⟨_, PSs.nox (ps_wb (X := bx X.prog X.w X.K X.mg X.base NH "_law_heard" st_heard f0 cdv X.A X.stack s' H1 C8.E0)), ?_⟩
    obtain ⟨CW, mw, ex⟩ := hc.w
    have first : L1 (bx X.prog X.w X.K X.mg X.base NH "_law_heard" st_heard f0 cdv X.A X.stack s' H1 C8.E0) none ((defBody st_heard).getD 0 (.Pass ⟨0, 0, 0, 0⟩)) ⟨start0 NH [vl (.ref f)], 0⟩ { nx := fun S1 => S1 = ⟨[some (.sh (vl (.ref f))), some (.sh (vl .non)), some (.sh (vl .non)), none, none, none], 0⟩, rt := fun _ _ => False } :=
      l1_parN (is := [1, 2]) (lo_sh <| le_non <| lo_sh <| le_non <| lo_nil ⟨rfl, rfl⟩) (.cons sc_heard.nd rfl (.inl rfl) (.inr rfl) rfl (.cons sc_heard.nd rfl (.inl rfl) (.inr rfl) rfl .nil))
    refine wb_of (pss_cons ps_ws ps_wb) (first ⟨heapN Hs H H1, H1, 0⟩ _ _ H1 oA _ ⟨fun S1 HsZ σZ HZ e o2 => ?_, fun _ _ _ _ _ _ z => z.elim, fun _ _ _ _ z => z.elim, fun _ _ _ _ z => z.elim⟩)
    subst e
    refine wb_of (pss_cons ps_ws ps_wb) (ws_keep (c := .ref CW) (i := 3) (j := 2) rfl rfl rfl sc_heard.nd rfl rfl rfl rfl (by decide) ⟨rfl, by decide, .inl mw⟩ (by decide) (by decide) (fun _ => rfl) fun pn xe tk _ => ?_)
    refine wb_of (pss_one (ps_set (i := 1) sc_heard.nd rfl (.inl rfl) pe_we rfl (.inl rfl))) ?_
    obtain ⟨v0, hv0, e0⟩ := o2.sh 0 _ rfl
    cases (show v0 = V.ref f from e0)
    refine ask_refuses (CXg := L2.CX X.prog X.w) (Eg := C8.E0) (Ng := NH) (k := 6) (C := C) (p := pt) (i := 0) M L bl rfl rfl (.inl rfl) hv0 (o2.e.k _ _ M.code (by simp)) ?_ (o1.hide (k := k)) sb.hide o2.e.s o2.w tk (fun d Hs' H' x hd => ⟨ex C hC, fun a' na => ?_⟩) hr' (fun A outer s1 E f c B1 => hbody _ A outer s1 E f c B1) (by decide) (by decide) _
    · cases one with
      | none => exact dv
      | some x =>
        obtain ⟨t, i, e1, e2⟩ := dv
        exact ⟨t, i, e1, o2.e.k _ _ e2 (by simp)⟩
    · have o3 := (o2.ext x).new (o := exh a' (.ref C) (some d)) na
      have nd : d ≠ a' := fun z => by rw [z] at hd; rw [(o2.ext x).w.free na] at hd; cases hd
      have o4 := (o3.any (k := 3) (fun E z => by cases z) (some (.ref a'))).put (i := 2) (R := excT C pt) (v := .ref a') ⟨a', d, rfl, upd_same, by rw [upd_ne nd]; exact hd⟩
      have o5 := o4.any (k := 3) (fun E z => by cases z) none
      exact heard_rest (H := H1) (s := s') (outer := X.stack) (A := X.A) (cdv := cdv) (E := C8.E0) (P := X.prog) (w := X.w) (base := X.base) (f0 := f0) (R0 := vl (.ref f)) hc hC _ _ _ _ o5 _ ⟨fun _ _ _ _ z => z.elim, fun R S2 Hs2 σ2 v H2 z o6 r => kq _ S v Hs2 H2 q (o1.ext o6.e) (sm.trans o6.e.s) (by rw [← z]; exact r), fun _ _ _ _ z => z.elim, fun _ _ _ _ z => z.elim⟩
  refine wpAny_call (codeAny_mono rc fun r s2 hq => ?_)
  match r, hq with
  | .error e, hq =>
    obtain ⟨_, _, _, _, _, _, _, _, _, _, _, _, z⟩ := hq
    exact z.elim
  | .ok (.ret u), hq => exact M.inv.after hq
  | .ok .next, hq => exact (show False from hq).elim
  | .ok .brk, hq => exact (show False from hq).elim
  | .ok .cont, hq => exact (show False from hq).elim
end
end DL
set_option Elab.async false
set_option linter.all false
set_option maxRecDepth 100000
set_option maxHeartbeats 4000000
/-! _law_pen; a slot of its own for what the program does not name -/
namespace DL
open PySem PySem.Spec L2 LamX
open PyProof.Rows hiding St
/-- a list of whole numbers that was given -/
def scrT (K : PySem.W.Frag) (ns : List Int) : Th where
  p := fun H v => ∃ a, v = .ref a ∧ SqL K H a (ns.map V.int)
  mono := fun e ⟨a, h1, h2⟩ => ⟨a, h1, sqL_mono e h2⟩
  lk := fun h ⟨a, h1, h2⟩ => ⟨a, h1, sqL_lk h h2⟩
  ul := fun h ⟨a, h1, h2⟩ => ⟨a, h1, sqL_ul h h2⟩
theorem cut_map {α β : Type} (f : α → β) (xs : List α) (l u : Option Int) : cutL (xs.map f) l u = (cutL xs l u).map f := by
  unfold cutL
  rw [List.length_map, ← List.map_drop, ← List.map_take]
theorem cut63 {α : Type} (xs : List α) : (cutL xs none (some 63)).length ≤ 63 := by
  unfold cutL
  rw [List.length_take]
  show min (HT.sIx xs.length xs.length (some 63) - 0) _ ≤ 63
  have : HT.sIx xs.length xs.length (some 63) ≤ 63 := by
    unfold HT.sIx
    simp
    omega
  omega
section
variable {X : Cx} {pn : Option Addr} {S : LSt} {P : Th → LSt → Prop} {e : Expr} {pos : Pos}
theorem le_slS {lo hi : Option Expr} {p2 : Pos} (h : LE X pn e S fun R S1 => ∃ ns, R = scrT X.K ns ∧ LP X pn lo S1 fun l S2 => LP X pn hi S2 fun u S3 => P (lstT ((cutL ns l u).map iT)) S3) : LE X pn (.Subscript e (.Slice lo hi none p2) pos) S P := by
  intro B Hs σ H o Q q
  refine we_of (pe_slice sl_list pe_we po_wo po_wo) (h B Hs σ H o _ fun R S1 x Hs1 H1 h1 o1 e1 r1 => ?_)
  obtain ⟨ns, rfl, h1⟩ := h1
  refine lp_run h1 o1 fun l S2 Hs2 H2 h2 o2 e2 => lp_run h2 o2 fun u S3 Hs3 H3 h3 o3 e3 => ?_
  obtain ⟨a, rfl, g2⟩ := r1
  refine ⟨a, ns.map V.int, rfl, sqL_mono (e2.trans (e3.trans o3.w)) g2, fun l' hl => ?_⟩
  have w := Same.upd (o := .lst (cutV (ns.map V.int) l u)) (o3.w.free hl)
  refine q _ S3 _ _ _ h3 (o3.new hl) (e1.trans (e2.trans (e3.trans w))) ⟨l', _, rfl, upd_same, ?_⟩
  rw [show cutV (ns.map V.int) l u = (cutL ns l u).map V.int from cut_map V.int ns l u]
  exact alls_of_ints
end
section
variable {P : Program} {w : World} {K : PySem.W.Frag} {mg : Str → Option Value} {base : Heap} {f : Addr} {fd : FuncData}
abbrev st_lpen : Stmt := top 71
theorem sc_lpen : Scp ["script", "cell"] ["script"] st_lpen := ⟨rfl, rfl, rfl, by decide +kernel, rfl, by decide +kernel, by decide +kernel⟩
/-- pens that were just made -/
def PenNew (ms : List Int) : Prop := ms.length ≤ 63
def penT (ms : List Int) : Th := lstT [lstT (ms.map iT), iT 0, iT 0]
def fLPen (K : PySem.W.Frag) : PFn := fun Rs R => ∃ ns : List Int, Rs = [scrT K ns] ∧ R = penT (cutL ns none (some 63))
theorem kn_lpen (F : Fun K "_law_pen" "_law_pen" st_lpen f fd) (hm : mg "_law_pen" = some (.ref f)) (hb : Binds K fd ["script"] []) (h1 : Blt mg "int") : Kn P w K mg base 1 "_law_pen" (spP 1 (fLPen K)) := by
  refine kn_pure F hm hb sc_lpen rfl fun cdv A outer s H E Rs R hr h => ?_
  obtain ⟨ns, rfl, rfl⟩ := h
  refine lb_cons <| l1_ret <| le_lst <| la_cons <| le_lc (own := [("cell", 1)]) (li_lst <| le_slS <| le_var (i := 0) rfl ⟨ns, rfl, le_int ⟨_, rfl, _, rfl, ?_⟩⟩) (bk (by decide +kernel)) sc_lpen.nd
  have l63 := cut63 ns
  refine lc_map (cutL ns none (some 63)) iT iT (by omega) (fun i hi => ?_) ?_
  · intro s H C cl fp
    refine lg_name (i := 1) ?_ sc_lpen.nd
    intro s H C cl fp
    exact le_ct call_int1 h1 (by decide +kernel) <| la_cons <| le_var (i := 1) rfl <| la_nil <| cr_int ⟨rfl, rfl⟩
  · exact la_cons <| le_int <| la_cons <| le_int <| la_nil ⟨zl (n := 3), rfl⟩
end
/-- a slot whose name the code does not know may hold anything -/
theorem wb_ghost {X : Cx} {sts : List Stmt} {E : Ends} {σ : St} {H : Hp} {i : Nat} {x : Str} {v : Option V} (hi : X.N[i]? = some x) (hN : X.N.Nodup) (nv : ¬ Vis X.env.scope x) (h : WB X sts E (σ.set i v) H) : WB X sts E σ H := by
  intro pins s I
  refine h pins s ⟨I.ok, I.os, I.bare, I.base, ?_, I.cell, I.free, I.freeC, I.pin, I.hok, by rw [List.length_set]; exact I.len⟩
  obtain ⟨m, hn, look⟩ := I.loc
  refine ⟨m, hn, fun j y u e1 e2 e3 => ?_⟩
  by_cases hj : i = j
  · subst hj
    rw [hi] at e1
    cases e1
    exact absurd e3 nv
  · rw [List.getElem?_set_ne hj] at e2
    exact look j y u e1 e2 e3
end DL
set_option Elab.async false
set_option linter.all false
set_option maxRecDepth 100000
set_option maxHeartbeats 4000000
/-! The law's two yards -/
namespace DL
open PySem PySem.Spec L2
open PyProof.Rows hiding St
abbrev halfR : List (Int × Int) := [(1, 2), (1, 3)]
def yA : YardD := ⟨["calm", "wild"], [.mine [("go", 1)], .luck [(0, halfR), (2, [(1, 2), (2, 3)])], .fin], 0, []⟩
def yB : YardD := ⟨["calm", "wild"], [.foe [("go", 1)], .luck [(0, halfR), (1, [(1, 2), (2, 3)])]], 0, []⟩
theorem actsA (m : Nat) (h : 1 < m) : ActsOk [("go", 1)] m := ⟨by decide, by decide, fun a ha => by cases List.mem_singleton.mp ha; exact ⟨by decide +kernel, h⟩, by decide⟩
theorem outsA : OutsOk [(0, halfR), (2, [(1, 2), (2, 3)])] 3 2 := by unfold OutsOk OddsOk; decide +kernel
theorem outsB : OutsOk [(0, halfR), (1, [(1, 2), (2, 3)])] 2 2 := by unfold OutsOk OddsOk; decide +kernel
theorem yA_ok : YardOk yA := ⟨by decide, by decide +kernel, by decide, by decide, by decide, by decide, fun r hr => by
  simp only [yA, List.mem_cons, List.not_mem_nil, or_false] at hr
  rcases hr with rfl | rfl | rfl
  · exact actsA 3 (by omega)
  · exact outsA
  · trivial, by decide, by decide, fun g hg => by cases hg⟩
theorem yB_ok : YardOk yB := ⟨by decide, by decide +kernel, by decide, by decide, by decide, by decide, fun r hr => by
  simp only [yB, List.mem_cons, List.not_mem_nil, or_false] at hr
  rcases hr with rfl | rfl
  · exact actsA 2 (by omega)
  · exact outsB, by decide, by decide, fun g hg => by cases hg⟩
theorem kn01 {y : YardD} (h : y.ws.length = 2) : KnOk y [0, 1] := ⟨by simp, by decide, fun n hn => by rw [h]; simp only [List.mem_cons, List.not_mem_nil, or_false] at hn; omega, by decide⟩
theorem askA : Ask yA 1 [0, 1] := ⟨⟨yA_ok, by decide, (kn01 rfl).2.2.1, by decide⟩, by decide, ⟨_, rfl⟩, kn01 rfl⟩
theorem askB : Ask yB 1 [0, 1] := ⟨⟨yB_ok, by decide, (kn01 rfl).2.2.1, by decide⟩, by decide, ⟨_, rfl⟩, kn01 rfl⟩
theorem clsB : (clsOf (rowAt yB 1) [0, 1]).map Prod.snd = [[0], [1]] := by decide +kernel
/-- no stay at the luck of the first yard: one of its tosses ends -/
theorem noStayA : ∀ T, Good yA [0, 1] 1 T → T 1 = false := by
  intro T g
  cases h : T 1 with
  | false => rfl
  | true =>
    have h1 := g.st 1 h
    have k1 : keptF (rowAt yA 1) [0, 1] = [(0, 0), (1, 2)] := by decide +kernel
    have h2 : T 2 = true := by
      have z : (keptF (rowAt yA 1) [0, 1]).all (fun p => T p.2) = true := h1
      rw [k1] at z
      simp at z
      exact z.2
    have h3 := g.st 2 h2
    have z : stayF (rowAt yA 2) [0, 1] T = true := h3
    exact absurd (show false = true from z) (by decide)
/-- what is no yard, no state of luck of the first yard, no knowledge of two worlds -/
theorem noty {K : PySem.W.Frag} {C : Addr} (kn : ∀ t ∈ ["NoneType", "int", "str", "tuple"], PySem.W.kitOne K (.type t) (.ref C) = some false) {Rs : List Th} : ∀ T ∈ [vl .non, iT 5, sT "yard", tupT K Rs], NotY K C T := by
  intro T hT
  simp only [List.mem_cons, List.not_mem_nil, or_false] at hT
  rcases hT with rfl | rfl | rfl | rfl
  · exact ⟨_, ty_non, kn "NoneType" (by simp)⟩
  · exact ⟨_, ty_int, kn "int" (by simp)⟩
  · exact ⟨_, ty_str, kn "str" (by simp)⟩
  · exact ⟨_, ty_tup, kn "tuple" (by simp)⟩
theorem badst {K : PySem.W.Frag} : ∀ T ∈ [iT 0, iT 2, iT 3, iT (-1), vl .non, bT true, sT "1", tupT K [iT 1]], BadSt K yA T := by
  intro T hT
  simp only [List.mem_cons, List.not_mem_nil, or_false] at hT
  rcases hT with rfl | rfl | rfl | rfl | rfl | rfl | rfl | rfl
  · exact .inr ⟨0, rfl, .inr (.inr ⟨0, rfl, by decide, by decide⟩)⟩
  · exact .inr ⟨2, rfl, .inr (.inr ⟨2, rfl, by decide, by decide⟩)⟩
  · exact .inr ⟨3, rfl, .inr (.inl (by decide))⟩
  · exact .inr ⟨-1, rfl, .inl (by decide)⟩
  · exact .inl noInt_non
  · exact .inl noInt_bl
  · exact .inl noInt_str
  · exact .inl noInt_tup
theorem ib2 {i j : Int} : ∀ d ∈ [V.int i, V.int j], ibV d = true := by
  intro d hd
  simp only [List.mem_cons, List.not_mem_nil, or_false] at hd
  rcases hd with rfl | rfl <;> rfl
theorem badkn {K : PySem.W.Frag} {y : YardD} (h : y.ws.length = 2) : ∀ T ∈ [tupT K [], tupT K [iT 2], tupT K [iT 1, iT 0], vl .non, sT "0", tupT K [iT 0, iT 0], tupT K [bT true], lstT [iT 0, iT 2], iT 1], BadKn K y T := by
  intro T hT
  have e : ((y.ws.length : Int) - 1) = 1 := by rw [h]; rfl
  simp only [List.mem_cons, List.not_mem_nil, or_false] at hT
  rcases hT with rfl | rfl | rfl | rfl | rfl | rfl | rfl | rfl | rfl
  · exact .inr ⟨[], .inl rfl, by decide, (fun d hd => by cases hd), .inl rfl⟩
  · exact .inr ⟨[.int 2], .inl rfl, by decide, (fun d hd => by cases List.mem_singleton.mp hd; rfl), .inr (.inl (by rw [e]; decide))⟩
  · exact .inr ⟨[.int 1, .int 0], .inl rfl, by decide, ib2, .inr (.inr ⟨[1, 0], rfl, by decide⟩)⟩
  · exact .inl noSeq_non
  · exact .inl noSeq_str
  · exact .inr ⟨[.int 0, .int 0], .inl rfl, by decide, ib2, .inr (.inr ⟨[0, 0], rfl, by decide⟩)⟩
  · exact .inr ⟨[.bl true], .inl rfl, by decide, (fun d hd => by cases List.mem_singleton.mp hd; rfl), .inr (.inl (by rw [e]; decide))⟩
  · exact .inr ⟨[.int 0, .int 2], .inr rfl, by decide, ib2, .inr (.inl (by rw [e]; decide))⟩
  · exact .inl noSeq_int
end DL
set_option Elab.async false
set_option linter.all false
set_option maxRecDepth 100000
set_option maxHeartbeats 4000000
/-! The law's def: its frame, what may be kept between its parts -/
namespace DL
open PySem PySem.Spec L2 LamX
open PyProof.Rows hiding St
/-- a def of the text, its code object told -/
structure FunT (K : PySem.W.Frag) (x qual : Str) (st : Stmt) (f : Addr) (fd : FuncData) (c0 : Addr) : Prop where
  ex : ∃ (oc : Value) (od : Option Addr) (kV doc pm : Value) (an : Option Addr) (ct : Value) (osl : Array (Option Value)),
    fd = PySem.W.fnOf x qual (defArgs st) (defBody st) (defScope st) .none kV doc pm an (.ref c0) ct ∧ K.lookup f = some ⟨oc, od, .func fd, osl⟩ ∧ PySem.W.codeIn K (.ref c0) qual = true
section
variable {P : Program} {w : World} {K : PySem.W.Frag} {mg : Str → Option Value} {base : Heap}
theorem fn_gT {x qual : Str} {st : Stmt} {f c0 : Addr} {fd : FuncData} {N ps : List Str} {k : Nat} {sp : Sp} (Fd : FunT K x qual st f fd c0) (S : FnScope N ps (defScope st)) (hlen : ∀ vs H Q E, sp vs H Q E → vs.length = ps.length)
    (body : ∀ A outer s H vs Q E, Gd (A.deeper (envOfC qual (defScope st) s.heap.objs.size f (.ref c0))) → Room k (A.deeper (envOfC qual (defScope st) s.heap.objs.size f (.ref c0))) → sp vs H Q E →
      WB (bx P w K mg base N qual st f (.ref c0) A outer s H E) (defBody st) { nx := fun _ H' => Q .non H', rt := Q } (L2.start N vs) H) : FnG P w K mg base (k + 1) f fd ps sp := by
  obtain ⟨oc, od, kV, doc, pm, an, ct, osl, rfl, look, code⟩ := Fd.ex
  constructor
  · exact hlen
  intro A gd room outer s H args us vs Q E en bnd rel want
  have vl := hlen vs H Q E want
  have held : ∀ b o, base.get? b = some o → s.heap.get? b = some o := fun b o z => (en.bs b o z).1
  have kin := en.mod.kin.keeps held
  refine codeAny_call_function room.depth (kin _ _ look) rfl S.co S.gen rfl (PySem.W.codeRec_of kin code) (bnd _ _ _ _ ?_)
  refine wpAny_newFunctionEnv_cells S.kind (fun y hy => ?_) fun env henv s1 ic => ?_
  · obtain ⟨n, v⟩ := y
    rcases S.par n (List.of_mem_zip hy).1 with z | z
    · exact Or.inl z
    · exact Or.inr ⟨z, PySem.W.cellsFrom_some _ _ _ (Or.inl z)⟩
  cases henv
  refine ⟨(en.mod.nolimit.keeps held).keeps ic.toInCall.keep, codeAny_func ?_⟩
  have pt := PSs.nox (ps_wb (X := bx P w K mg base N qual st f (.ref c0) A outer s H E) (sts := defBody st))
  have tq := body A outer s H vs Q E (gd_deeper gd) (room.deeper _) want
  have inv0 := inv_start (CX := L2.CX P w) (E := E) S room.hd en vl rel ic
  refine wpAny_mono (pt.run [] s1 (L2.start N vs) H _ inv0 tq) (fun fl s2 h => ?_) fun e s2 h => h
  match fl, h with
  | .ret u, ⟨v, σ2, H2, J, rv, q⟩ => exact ⟨v, H2, J.os, J.bare, J.base, J.hok, rv, q⟩
  | .next, ⟨σ2, H2, J, q⟩ => exact ⟨V.non, H2, J.os, J.bare, J.base, J.hok, rfl, q⟩
  | .brk, ⟨_, _, _, q⟩ => exact q.elim
  | .cont, ⟨_, _, _, q⟩ => exact q.elim
end
/-- the end of the law: True -/
abbrev Elaw : Ends := { nx := fun _ _ => False, rt := fun v _ => v = .bl true }
def LF (X : Cx) (pn : Option Addr) (sts : List Stmt) (S : LSt) : Prop := ∀ B Hs σ H, StOK X.K pn B Hs S σ H → WB X sts Elaw σ H
section
variable {X : Cx} {pn : Option Addr} {st : Stmt} {sts : List Stmt} {S : LSt} {q : Str} {P0 a : Addr}
theorem lf_cons (h : L1 X pn st S { nx := fun S1 => LF X pn sts S1, rt := fun R _ => R = bT true }) : LF X pn (st :: sts) S := fun B Hs σ H o =>
  wb_of (pss_cons ps_ws ps_wb) (h B Hs σ H o _ ⟨fun S1 Hs1 σ1 H1 p o1 => p B Hs1 σ1 H1 o1, fun R S1 Hs1 σ1 v H1 p o1 r => by subst p; exact r, fun _ _ _ _ z => z.elim, fun _ _ _ _ z => z.elim⟩)
theorem del_some {H : Hp} {a b : Addr} {o : HO} (h : del H a b = some o) : H b = some o ∧ b ≠ a := by
  unfold del at h
  split at h
  · cases h
  · exact ⟨h, by assumption⟩
theorem del_of {H : Hp} {a b : Addr} {o : HO} (h : H b = some o) (n : b ≠ a) : del H a b = some o := by rw [del_ne n]; exact h
/-- the pen goes: it is no pen any more -/
theorem lf_unpen {k : Nat} (gh : S.ρ[k]? = some (some (.ow ((ownTab q).atA P0)))) (sb : ShsBut k S) (h : LF X none sts S) : LF X (some a) sts S := by
  intro B Hs σ H o
  obtain ⟨p, u, hσ, hB, hHs, hH, rfl, tb⟩ := o.ow k _ gh
  refine h ⟨Hs, del H p, 0⟩ Hs σ H ⟨⟨.refl _, o.w, fun b u z _ => (del_some z).1, fun b z w => ?_, fun b z _ => z⟩, o.len, o.sh, fun i O z => ?_, o.ne, fun b z => by cases z⟩
  · by_cases e : b = p
    · subst e; exact z (del_same)
    · have z : del H p b ≠ none := z
      rw [del_ne e] at z; exact z w
  · by_cases e : i = k
    · subst e
      rw [gh] at z
      cases z
      exact ⟨p, u, hσ, del_same, hHs, hH, rfl, tb⟩
    · exact absurd z (sb i O e)
/-- the pen that was just made, in the slot j, becomes the pen -/
theorem lf_pen {j k : Nat} {ms : List Int} (h1 : S.ρ[j]? = some (some (.sh (penT ms)))) (hm : ms.length ≤ 63) (gh : S.ρ[k]? = some (some (.ow ((ownTab q).atA P0))))
    (h : ∀ a ρ, ρ.length = S.ρ.length → ρ[j]? = some (some (.sh (vl (.ref a)))) → ρ[k]? = some (some (.ow ((ownTab q).atA P0))) → (∀ i, i < ρ.length → i ≠ j → i ≠ k → ρ[i]? = some none) → LF X (some a) sts ⟨ρ, 0⟩) : LF X none sts S := by
  intro B Hs σ H o
  obtain ⟨v, hv, pa, vs, rfl, g2, g3⟩ := o.sh j _ h1
  obtain ⟨p, u, hσ, hB, hHs, hH, rfl, ps, rfl, tr, am⟩ := o.ow k _ gh
  cases g3 with
  | cons r1 r2 =>
    cases r2 with
    | cons r2 r3 =>
      cases r3 with
      | cons r3 r4 =>
        cases r4
        cases (show _ = V.int 0 from r2)
        cases (show _ = V.int 0 from r3)
        obtain ⟨c, ws, rfl, e1, e2⟩ := r1
        cases alls_ints (bs := ms) e2
        have cne : c ≠ pa := fun z => by
          rw [z, g2] at e1
          cases ms with
          | nil => cases e1
          | cons i ms => cases e1
        have pne : pa ≠ p := fun z => by rw [z, hHs] at g2; cases g2
        have jk : j ≠ k := fun z => by rw [z, gh] at h1; cases h1
        have jl : j < S.ρ.length := (List.getElem?_eq_some_iff.mp h1).1
        have kl : k < S.ρ.length := (List.getElem?_eq_some_iff.mp gh).1
        obtain ⟨ρ, hρ⟩ : ∃ ρ : List (Option Ent), ρ = ((List.replicate S.ρ.length none).set j (some (.sh (vl (.ref pa))))).set k (some (.ow ((ownTab q).atA p))) := ⟨_, rfl⟩
        have lρ : ρ.length = S.ρ.length := by rw [hρ, List.length_set, List.length_set, List.length_replicate]
        have ρj : ρ[j]? = some (some (.sh (vl (.ref pa)))) := by rw [hρ, List.getElem?_set_ne (Ne.symm jk), List.getElem?_set_self (by rw [List.length_replicate]; exact jl)]
        have ρk : ρ[k]? = some (some (.ow ((ownTab q).atA p))) := by rw [hρ, List.getElem?_set_self (by rw [List.length_set, List.length_replicate]; exact kl)]
        have ρi : ∀ i, i < ρ.length → i ≠ j → i ≠ k → ρ[i]? = some none := fun i hi n1 n2 => by
          rw [hρ, List.getElem?_set_ne (Ne.symm n2), List.getElem?_set_ne (Ne.symm n1), List.getElem?_replicate, if_pos (by rw [← lρ]; exact hi)]
        refine h pa ρ lρ ρj ρk ρi ⟨del Hs pa, del H p, c⟩ (del Hs pa) σ H ⟨⟨.refl _, fun b u z => o.w _ _ (del_some z).1, fun b u z _ => (del_some z).1, fun b z w => ?_, fun b z _ => z⟩, by rw [lρ]; exact o.len, fun i R z => ?_, fun i O z => ?_, fun i i' O O' a z1 z2 => ?_, fun b z => ?_⟩
        · by_cases e : b = p
          · subst e; exact z (del_same)
          · have z : del H p b ≠ none := z
            rw [del_ne e] at z; exact z w
        · have hi : i < ρ.length := (List.getElem?_eq_some_iff.mp z).1
          by_cases n1 : i = j
          · subst n1
            rw [ρj] at z
            cases z
            exact ⟨_, hv, rfl⟩
          · by_cases n2 : i = k
            · subst n2; rw [ρk] at z; cases z
            · rw [ρi i hi n1 n2] at z; cases z
        · have hi : i < ρ.length := (List.getElem?_eq_some_iff.mp z).1
          by_cases n2 : i = k
          · subst n2
            rw [ρk] at z
            cases z
            refine ⟨p, .tbl ps, hσ, del_same, by rw [del_ne (Ne.symm pne)]; exact hHs, hH, rfl, ps, rfl, tr, fun pos cv hcv => ?_⟩
            obtain ⟨c0, f1, f2⟩ := am pos cv hcv
            exact ⟨c0, f1, del_of f2 fun w => by rw [w, g2] at f2; unfold CodeO at f2; cases f2⟩
          · by_cases n1 : i = j
            · subst n1; rw [ρj] at z; cases z
            · rw [ρi i hi n1 n2] at z; cases z
        · have hk : ∀ i O, ρ[i]? = some (some (.ow O)) → i = k := fun i O z => by
            have hi : i < ρ.length := (List.getElem?_eq_some_iff.mp z).1
            by_cases n2 : i = k
            · exact n2
            · by_cases n1 : i = j
              · subst n1; rw [ρj] at z; cases z
              · rw [ρi i hi n1 n2] at z; cases z
          intro _ _
          rw [hk i O z1, hk i' O' z2]
        · cases z
          refine ⟨⟨del_same, ms, 0, 0, o.w _ _ g2, del_of e1 cne, hm, by omega, by show (0 : Int) ≤ ((0 : Nat) : Int); omega, by omega⟩, ?_⟩
          show del H p pa ≠ none
          rw [del_ne pne, o.w _ _ g2]
          simp
end
end DL
set_option Elab.async false
set_option linter.all false
set_option pp.maxSteps 600
set_option maxRecDepth 100000
set_option maxHeartbeats 400000
/-! law -/
namespace DL
open PySem PySem.Spec L2 LamX
open PyProof.Rows hiding St
abbrev NL : List Str := ["script", "pen", "lap", "half", "yard", "foe", "odd", "none", "bad", "heard", "due", "#"]
abbrev st_law : Stmt := top 88
theorem sc_law : Scp NL ["script"] st_law := ⟨rfl, rfl, rfl, by decide +kernel, rfl, by decide +kernel, by decide +kernel⟩
theorem no_ghost : ¬ Vis (defScope st_law) "#" := fun h => by
  rcases h with h | h | h <;> exact absurd h (by decide +kernel)
abbrev qL : Str := (envOfC "law" (defScope st_law) 0 0 .none).qual ++ "<lambda>"
/-- what the law rests on -/
structure LawK (P : Program) (w : World) (K : PySem.W.Frag) (mg : Str → Option Value) (base : Heap) (C CY CS CN CM fH : Addr) (fdH : FuncData) : Prop where
  pen : Kn P w K mg base 1 "_law_pen" (spP 1 (fLPen K))
  right : KnWG P w K mg base 11 "_law_right" 0 fRight
  yard : KnI P w K mg base 8 "Yard" C [tupT K [], vl .non] 5 (fYard K)
  pick : KnW P w K mg base 2 "_law_pick" 1 (fPick K)
  cl : Kn P w K mg base 5 "classes" (spP 3 (fClasses K C))
  st : Kn P w K mg base 8 "stay" (spP 3 (fStay K C))
  clR : Kn P w K mg base 5 "classes" (spR 3 (gNeedLuck K C CY CS CN))
  stR : Kn P w K mg base 5 "stay" (spR 3 (gStay K C CY CS CN CM))
  hf : HeardF K mg fH fdH
  hc : HeardC K mg CY CS CN CM
  yc : YC K C
  kn : ∀ t ∈ ["NoneType", "int", "str", "tuple"], PySem.W.kitOne K (.type t) (.ref C) = some false
  b1 : Blt mg "range"
def spLaw (K : PySem.W.Frag) (P0 : Addr) : Sp := fun vs H Q _ => ∃ (a : Addr) (ns : List Int), vs = [.ref a] ∧ SqL K H a (ns.map V.int) ∧ H P0 = some (.tbl #[]) ∧ ∀ H', Q (.bl true) H'
/-- - e, e an int -/
theorem le_neg {X : Cx} {pn : Option Addr} {S : LSt} {PP : Th → LSt → Prop} {e : Expr} {pos : Pos} (h : LE X pn e S fun R S1 => ∃ i : Int, R = iT i ∧ PP (iT (-i)) S1) : LE X pn (.UnaryOp .USub e pos) S PP := by
  intro B Hs σ H o Q k
  refine we_of (pe_un un_neg pe_we) (h B Hs σ H o _ fun R S1 x Hs1 H1 ⟨i, h1, h2⟩ o1 e1 r1 => ?_)
  subst h1
  exact ⟨i, r1, k _ S1 _ Hs1 H1 h2 o1 e1 rfl⟩
section
variable {P : Program} {w : World} {K : PySem.W.Frag} {mg : Str → Option Value} {base : Heap} {C CY CS CN CM fH P0 c0 f : Addr} {fdH fd : FuncData}
abbrev lx (P : Program) (w : World) (K : PySem.W.Frag) (mg : Str → Option Value) (base : Heap) (f c0 : Addr) (A : Around) (outer : List Env) (s : Shared) (H : Hp) (E : XK) : Cx := bx P w K mg base NL "law" st_law f (.ref c0) A outer s H E
def dueD : PyData := .list [.tuple [.str "yard", .str "yard"], .tuple [.str "state", .str "state"], .tuple [.str "knowledge", .str "knowledge"], .tuple [.str "yard", .str "yard"], .tuple [.str "state", .str "state"], .tuple [.str "knowledge", .str "knowledge"], .tuple [.str "knowledge", .str "knowledge"], .tuple [.str "misfit", .str "foe"]]
theorem due_eq : PyData.eqv dueD dueD = true := by decide +kernel
theorem due_sh : SeqAt.shaped dueD = true := by decide +kernel
def twoD : PyData := .tuple [.tuple [.int 0], .tuple [.int 1]]
theorem two_eq : PyData.eqv twoD twoD = true := by decide +kernel
theorem two_sh : SeqAt.shaped twoD = true := by decide +kernel
theorem noFoeA : NoFoe yA := fun r hr => by
  simp only [yA, List.mem_cons, List.not_mem_nil, or_false] at hr
  rcases hr with rfl | rfl | rfl <;> decide
theorem law_end (k : LawK P w K mg base C CY CS CN CM fH fdH) (TB : TabB base mg c0 P0) {A : Around} {outer : List Env} {s : Shared} {H : Hp} {E : XK} (hr : Room 11 (A.deeper (envOfC "law" (defScope st_law) s.heap.objs.size f (.ref c0)))) {x1 q2 : Option Ent} {T1 T2 T3 : Th} {n : Nat}
    (n1 : ∀ O, x1 ≠ some (.ow O)) (n2 : ∀ O, q2 ≠ some (.ow O)) (h1 : NotY K C T1) (h2 : BadSt K yA T2) (h3 : BadKn K yA T3) (h4 : BadKn K yB T3) :
    LF (lx P w K mg base f c0 A outer s H E) none ((defBody st_law).drop 7) ⟨[none, x1, q2, some (.sh (oddT K halfR)), some (.sh (yT K C yA)), some (.sh (yT K C yB)), some (.sh T1), some (.sh T2), some (.sh T3), none, none, some (.ow ((ownTab qL).atA P0))], n⟩ := by
  have nd := k.hc.nd
  simp only [List.nodup_cons, List.mem_cons, List.not_mem_nil, or_false, not_or, not_false_eq_true, and_true, List.nodup_nil] at nd
  obtain ⟨⟨e1, e2, e3⟩, ⟨e4, e5⟩, e6⟩ := nd
  have w1 : heardW CY CS CN CY = "yard" := if_pos rfl
  have w2 : heardW CY CS CN CS = "state" := (if_neg (Ne.symm e1)).trans (if_pos rfl)
  have w3 : heardW CY CS CN CN = "knowledge" := (if_neg (Ne.symm e2)).trans ((if_neg (Ne.symm e4)).trans (if_pos rfl))
  have w4 : heardW CY CS CN CM = "misfit" := (if_neg (Ne.symm e3)).trans ((if_neg (Ne.symm e5)).trans (if_neg (Ne.symm e6)))
  have sb : ∀ (x9 x10 : Option Ent) (_ : ∀ O, x9 ≠ some (.ow O)) (_ : ∀ O, x10 ≠ some (.ow O)), ShsBut 11 ⟨[none, x1, q2, some (.sh (oddT K halfR)), some (.sh (yT K C yA)), some (.sh (yT K C yB)), some (.sh T1), some (.sh T2), some (.sh T3), x9, x10, some (.ow ((ownTab qL).atA P0))], n⟩ := by
    intro x9 x10 g9 g10 i O hi z
    match i with
    | 0 | 3 | 4 | 5 | 6 | 7 | 8 => cases z
    | 1 => exact n1 O (Option.some.inj z)
    | 2 => exact n2 O (Option.some.inj z)
    | 9 => exact g9 O (Option.some.inj z)
    | 10 => exact g10 O (Option.some.inj z)
    | 11 => exact hi rfl
    | i + 12 => cases z
  refine lf_cons ?_
  refine l1_set (i := 9) (x := "heard") (hi := ?b1_101) (hx := ?b2_101) (hs := ?b3_101) (hf := ?b4_101) ?_ ?b5_101
  case b1_101 => rfl
  case b2_101 => exact .inl rfl
  case b3_101 => rfl
  case b4_101 => exact .inl rfl
  case b5_101 => exact sc_law.nd
  refine le_lst ?_
  refine la_cons ?_
  refine le_heard (C := CY) (pt := "yard") (k := 11) (P := P0) (c0 := c0) (one := none) k.hf k.hc ?hC_102 w1 hr (by decide) rfl ?sb_102 TB rfl ?L_102 ?bl_102 ?df_102 ?bd_102 ?_
  case hC_102 => simp
  case sb_102 => exact sb _ _ (fun O z => by cases z) (fun O z => by cases z)
  case L_102 => exact lamD_by (N := NL) (sc := defScope st_law) (by decide +kernel)
  case bl_102 => exact ⟨fun _ _ _ _ _ => rfl, fun x e => by cases e⟩
  case df_102 => exact .inl ⟨rfl, rfl⟩
  case bd_102 =>
    intro HZ A1 outer1 s1 E1 f1 c1 B1 hr1 wi
    refine re_call k.clR hr1 (by decide) ?_
    refine la_cons ?_
    refine le_var (i := 6) rfl ?_
    refine la_cons ?_
    refine le_var (i := 7) rfl ?_
    refine la_cons ?_
    refine le_var (i := 8) rfl ?_
    exact la_nil ⟨_, _, .inl ⟨_, _, _, rfl, h1, rfl, rfl⟩, rfl, wi⟩
  refine la_cons ?_
  refine le_heard (C := CS) (pt := "state") (k := 11) (P := P0) (c0 := c0) (one := some "a1") k.hf k.hc ?hC_103 w2 hr (by decide) rfl ?sb_103 TB rfl ?L_103 ?bl_103 ?df_103 ?bd_103 ?_
  case hC_103 => simp
  case sb_103 => exact sb _ _ (fun O z => by cases z) (fun O z => by cases z)
  case L_103 => exact lamD_by (N := NL) (sc := defScope st_law) (by decide +kernel)
  case bl_103 => exact ⟨fun e => (by cases e), fun x e => by cases e; exact ⟨rfl, fun _ _ _ _ _ => ⟨_, rfl, fun _ => rfl⟩⟩⟩
  case df_103 => exact .inr ⟨_, _, _, _, rfl, rfl⟩
  case bd_103 =>
    intro HZ A1 outer1 s1 E1 f1 c1 B1 hr1 wi
    refine re_call k.clR hr1 (by decide) ?_
    refine la_cons ?_
    refine le_var (i := 4) rfl ?_
    refine la_cons ?_
    refine le_var (i := 7) rfl ?_
    refine la_cons ?_
    refine le_var (i := 8) rfl ?_
    exact la_nil ⟨_, _, .inr (.inl ⟨yA, _, _, rfl, h2, rfl, rfl⟩), rfl, wi⟩
  refine la_cons ?_
  refine le_heard (C := CN) (pt := "knowledge") (k := 11) (P := P0) (c0 := c0) (one := some "a2") k.hf k.hc ?hC_104 w3 hr (by decide) rfl ?sb_104 TB rfl ?L_104 ?bl_104 ?df_104 ?bd_104 ?_
  case hC_104 => simp
  case sb_104 => exact sb _ _ (fun O z => by cases z) (fun O z => by cases z)
  case L_104 => exact lamD_by (N := NL) (sc := defScope st_law) (by decide +kernel)
  case bl_104 => exact ⟨fun e => (by cases e), fun x e => by cases e; exact ⟨rfl, fun _ _ _ _ _ => ⟨_, rfl, fun _ => rfl⟩⟩⟩
  case df_104 => exact .inr ⟨_, _, _, _, rfl, rfl⟩
  case bd_104 =>
    intro HZ A1 outer1 s1 E1 f1 c1 B1 hr1 wi
    refine re_call k.clR hr1 (by decide) ?_
    refine la_cons ?_
    refine le_var (i := 4) rfl ?_
    refine la_cons ?_
    refine le_int ?_
    refine la_cons ?_
    refine le_var (i := 8) rfl ?_
    exact la_nil ⟨_, _, .inr (.inr ⟨yA, 1, _, rfl, by decide, by decide, h3, rfl, rfl⟩), rfl, wi⟩
  refine la_nil ⟨zl (n := 3), ?_⟩
  refine lf_cons ?_
  refine l1_set (i := 9) (x := "heard") (hi := ?b1_105) (hx := ?b2_105) (hs := ?b3_105) (hf := ?b4_105) ?_ ?b5_105
  case b1_105 => rfl
  case b2_105 => exact .inl rfl
  case b3_105 => rfl
  case b4_105 => exact .inl rfl
  case b5_105 => exact sc_law.nd
  refine le_cat ?_
  refine le_var (i := 9) rfl ?_
  refine le_lst ?_
  refine la_cons ?_
  refine le_heard (C := CY) (pt := "yard") (k := 11) (P := P0) (c0 := c0) (one := none) k.hf k.hc ?hC_106 w1 hr (by decide) rfl ?sb_106 TB rfl ?L_106 ?bl_106 ?df_106 ?bd_106 ?_
  case hC_106 => simp
  case sb_106 => exact sb _ _ (fun O z => by cases z) (fun O z => by cases z)
  case L_106 => exact lamD_by (N := NL) (sc := defScope st_law) (by decide +kernel)
  case bl_106 => exact ⟨fun _ _ _ _ _ => rfl, fun x e => by cases e⟩
  case df_106 => exact .inl ⟨rfl, rfl⟩
  case bd_106 =>
    intro HZ A1 outer1 s1 E1 f1 c1 B1 hr1 wi
    refine re_call k.stR hr1 (by decide) ?_
    refine la_cons ?_
    refine le_var (i := 6) rfl ?_
    refine la_cons ?_
    refine le_var (i := 7) rfl ?_
    refine la_cons ?_
    refine le_var (i := 8) rfl ?_
    exact la_nil ⟨_, _, .inl (.inl ⟨_, _, _, rfl, h1, rfl, rfl⟩), rfl, wi⟩
  refine la_cons ?_
  refine le_heard (C := CS) (pt := "state") (k := 11) (P := P0) (c0 := c0) (one := some "a1") k.hf k.hc ?hC_107 w2 hr (by decide) rfl ?sb_107 TB rfl ?L_107 ?bl_107 ?df_107 ?bd_107 ?_
  case hC_107 => simp
  case sb_107 => exact sb _ _ (fun O z => by cases z) (fun O z => by cases z)
  case L_107 => exact lamD_by (N := NL) (sc := defScope st_law) (by decide +kernel)
  case bl_107 => exact ⟨fun e => (by cases e), fun x e => by cases e; exact ⟨rfl, fun _ _ _ _ _ => ⟨_, rfl, fun _ => rfl⟩⟩⟩
  case df_107 => exact .inr ⟨_, _, _, _, rfl, rfl⟩
  case bd_107 =>
    intro HZ A1 outer1 s1 E1 f1 c1 B1 hr1 wi
    refine re_call k.stR hr1 (by decide) ?_
    refine la_cons ?_
    refine le_var (i := 4) rfl ?_
    refine la_cons ?_
    refine le_var (i := 7) rfl ?_
    refine la_cons ?_
    refine le_var (i := 8) rfl ?_
    exact la_nil ⟨_, _, .inl (.inr (.inl ⟨yA, _, _, rfl, h2, rfl, rfl⟩)), rfl, wi⟩
  refine la_cons ?_
  refine le_heard (C := CN) (pt := "knowledge") (k := 11) (P := P0) (c0 := c0) (one := some "a2") k.hf k.hc ?hC_108 w3 hr (by decide) rfl ?sb_108 TB rfl ?L_108 ?bl_108 ?df_108 ?bd_108 ?_
  case hC_108 => simp
  case sb_108 => exact sb _ _ (fun O z => by cases z) (fun O z => by cases z)
  case L_108 => exact lamD_by (N := NL) (sc := defScope st_law) (by decide +kernel)
  case bl_108 => exact ⟨fun e => (by cases e), fun x e => by cases e; exact ⟨rfl, fun _ _ _ _ _ => ⟨_, rfl, fun _ => rfl⟩⟩⟩
  case df_108 => exact .inr ⟨_, _, _, _, rfl, rfl⟩
  case bd_108 =>
    intro HZ A1 outer1 s1 E1 f1 c1 B1 hr1 wi
    refine re_call k.stR hr1 (by decide) ?_
    refine la_cons ?_
    refine le_var (i := 4) rfl ?_
    refine la_cons ?_
    refine le_int ?_
    refine la_cons ?_
    refine le_var (i := 8) rfl ?_
    exact la_nil ⟨_, _, .inl (.inr (.inr ⟨yA, 1, _, rfl, by decide, by decide, h3, rfl, rfl⟩)), rfl, wi⟩
  refine la_nil ⟨zl (n := 3), ?_⟩
  refine ⟨_, _, rfl, rfl, zl (n := 6), ?_⟩
  refine lf_cons ?_
  refine l1_set (i := 9) (x := "heard") (hi := ?b1_109) (hx := ?b2_109) (hs := ?b3_109) (hf := ?b4_109) ?_ ?b5_109
  case b1_109 => rfl
  case b2_109 => exact .inl rfl
  case b3_109 => rfl
  case b4_109 => exact .inl rfl
  case b5_109 => exact sc_law.nd
  refine le_cat ?_
  refine le_var (i := 9) rfl ?_
  refine le_lst ?_
  refine la_cons ?_
  refine le_heard (C := CN) (pt := "knowledge") (k := 11) (P := P0) (c0 := c0) (one := none) k.hf k.hc ?hC_110 w3 hr (by decide) rfl ?sb_110 TB rfl ?L_110 ?bl_110 ?df_110 ?bd_110 ?_
  case hC_110 => simp
  case sb_110 => exact sb _ _ (fun O z => by cases z) (fun O z => by cases z)
  case L_110 => exact lamD_by (N := NL) (sc := defScope st_law) (by decide +kernel)
  case bl_110 => exact ⟨fun _ _ _ _ _ => rfl, fun x e => by cases e⟩
  case df_110 => exact .inl ⟨rfl, rfl⟩
  case bd_110 =>
    intro HZ A1 outer1 s1 E1 f1 c1 B1 hr1 wi
    refine re_call k.stR hr1 (by decide) ?_
    refine la_cons ?_
    refine le_var (i := 5) rfl ?_
    refine la_cons ?_
    refine le_int ?_
    refine la_cons ?_
    refine le_var (i := 8) rfl ?_
    exact la_nil ⟨_, _, .inl (.inr (.inr ⟨yB, 1, _, rfl, by decide, by decide, h4, rfl, rfl⟩)), rfl, wi⟩
  refine la_cons ?_
  refine le_heard (C := CM) (pt := "foe") (k := 11) (P := P0) (c0 := c0) (one := some "a1") k.hf k.hc ?hC_111 w4 hr (by decide) rfl ?sb_111 TB rfl ?L_111 ?bl_111 ?df_111 ?bd_111 ?_
  case hC_111 => simp
  case sb_111 => exact sb _ _ (fun O z => by cases z) (fun O z => by cases z)
  case L_111 => exact lamD_by (N := NL) (sc := defScope st_law) (by decide +kernel)
  case bl_111 => exact ⟨fun e => (by cases e), fun x e => by cases e; exact ⟨rfl, fun _ _ _ _ _ => ⟨_, rfl, fun _ => rfl⟩⟩⟩
  case df_111 => exact .inr ⟨_, _, _, _, rfl, rfl⟩
  case bd_111 =>
    intro HZ A1 outer1 s1 E1 f1 c1 B1 hr1 wi
    refine re_call k.stR hr1 (by decide) ?_
    refine la_cons ?_
    refine le_var (i := 5) rfl ?_
    refine la_cons ?_
    refine le_int ?_
    refine la_cons ?_
    refine le_tup ?_
    refine la_cons ?_
    refine le_int ?_
    refine la_cons ?_
    refine le_int ?_
    refine la_nil ⟨zl (n := 2), ?_⟩
    exact la_nil ⟨_, _, .inr ⟨yB, 1, [0, 1], _, rfl, .inl rfl, askB, ⟨.foe [("go", 1)], by simp [yB], rfl⟩, rfl, rfl⟩, rfl, wi⟩
  refine la_nil ⟨zl (n := 2), ?_⟩
  refine ⟨_, _, rfl, rfl, zl (n := 8), ?_⟩
  refine lf_cons ?_
  refine l1_set (i := 10) (x := "due") (hi := ?b1_112) (hx := ?b2_112) (hs := ?b3_112) (hf := ?b4_112) ?_ ?b5_112
  case b1_112 => rfl
  case b2_112 => exact .inl rfl
  case b3_112 => rfl
  case b4_112 => exact .inl rfl
  case b5_112 => exact sc_law.nd
  refine le_litL (n := 8) (ds := [.tuple [.str "yard", .str "yard"], .tuple [.str "state", .str "state"], .tuple [.str "knowledge", .str "knowledge"]]) ?lit_a ?_
  case lit_a => kernel_rfl
  show LF _ _ _ _
  refine lf_cons ?_
  refine l1_ret ?_
  refine le_and ?_
  refine le_cmp (op_eqD (ru hr)) ?_
  refine le_var (i := 9) rfl ?_
  refine le_cat ?_
  refine le_cat ?_
  refine le_cat ?_
  refine le_var (i := 10) rfl ?_
  refine le_var (i := 10) rfl ?_
  refine ⟨_, _, rfl, rfl, zl (n := 6), ?_⟩
  refine le_slL ?_
  refine le_var (i := 10) rfl ⟨_, rfl, ?_⟩
  refine le_int ⟨_, rfl, ?_⟩
  refine ⟨_, _, rfl, rfl, zl (n := 7), ?_⟩
  refine le_litL (n := 8) (ds := [.tuple [.str "misfit", .str "foe"]]) ?lit_b ?_
  case lit_b => kernel_rfl
  refine ⟨_, _, rfl, rfl, zl (n := 8), ?_⟩
  refine lr_eqD (d := dueD) (d' := dueD) due_sh due_sh ⟨true, by rw [due_eq], ?_⟩
  show LE _ _ _ _ _
  refine le_and ?_
  refine le_cmp (op_eqD (ru hr)) ?_
  refine le_call k.cl hr (by decide) ?_
  refine la_cons ?_
  refine le_var (i := 5) rfl ?_
  refine la_cons ?_
  refine le_int ?_
  refine la_cons ?_
  refine le_tup ?_
  refine la_cons ?_
  refine le_int ?_
  refine la_cons ?_
  refine le_int ?_
  refine la_nil ⟨zl (n := 2), ?_⟩
  refine la_nil ⟨_, ⟨yB, 1, [0, 1], _, rfl, .inl rfl, askB, rfl⟩, rfl, ?_⟩
  rw [clsB]
  refine le_lit (n := 8) (d := twoD) ?lit_c ?_
  case lit_c => kernel_rfl
  refine lr_eqD (d := twoD) (d' := twoD) two_sh two_sh ⟨true, by rw [two_eq], ?_⟩
  show LE _ _ _ _ _
  refine le_one ?_
  refine le_isN ?_
  refine le_open (p := StayP yA [0, 1] 1) (f := stayT K) ?_
  refine le_call k.st hr (by decide) ?_
  refine la_cons ?_
  refine le_var (i := 4) rfl ?_
  refine la_cons ?_
  refine le_int ?_
  refine la_cons ?_
  refine le_tup ?_
  refine la_cons ?_
  refine le_int ?_
  refine la_cons ?_
  refine le_int ?_
  refine la_nil ⟨zl (n := 2), ?_⟩
  refine la_nil ⟨_, ⟨yA, 1, [0, 1], _, rfl, .inl rfl, askA, noFoeA, rfl⟩, rfl, rfl, fun ro hro => ?_⟩
  cases ro with
  | none => exact ⟨true, fun H v e => by cases (show v = V.non from e); rfl, rfl⟩
  | some rows =>
    obtain ⟨_, _, T, g, e⟩ := hro
    rw [noStayA T g] at e
    cases e
end
end DL
set_option Elab.async false
set_option linter.all false
set_option pp.maxSteps 600
set_option maxRecDepth 100000
set_option maxHeartbeats 400000
/-! law, from its beginning -/
namespace DL
open PySem PySem.Spec L2 LamX
open PyProof.Rows hiding St
section
variable {P : Program} {w : World} {K : PySem.W.Frag} {mg : Str → Option Value} {base : Heap} {C CY CS CN CM fH P0 c0 f : Addr} {fdH fd : FuncData}
theorem law_all (k : LawK P w K mg base C CY CS CN CM fH fdH) (TB : TabB base mg c0 P0) {A : Around} {outer : List Env} {s : Shared} {H : Hp} {E : XK} (gd : Gd (A.deeper (envOfC "law" (defScope st_law) s.heap.objs.size f (.ref c0)))) (hr : Room 11 (A.deeper (envOfC "law" (defScope st_law) s.heap.objs.size f (.ref c0)))) (ns : List Int) :
    LF (lx P w K mg base f c0 A outer s H E) none (defBody st_law) ⟨[some (.sh (scrT K ns)), none, none, none, none, none, none, none, none, none, none, some (.ow ((ownTab qL).atA P0))], 0⟩ := by
  refine lf_cons <| l1_set (i := 1) (le_call k.pen hr (by decide) <| la_cons <| le_var (i := 0) rfl <| la_nil ⟨_, ⟨ns, rfl, rfl⟩, rfl, ?_⟩) sc_law.nd
  refine lf_pen (j := 1) (k := 11) rfl (cut63 ns) rfl fun a ρ hl r1 r11 ri => ?_
  have eρ : ρ = [none, some (.sh (vl (.ref a))), none, none, none, none, none, none, none, none, none, some (.ow ((ownTab qL).atA P0))] := by
    have hl : ρ.length = 12 := hl
    refine List.ext_getElem? fun i => ?_
    match i with
    | 1 => exact r1
    | 11 => exact r11
    | 0 | 2 | 3 | 4 | 5 | 6 | 7 | 8 | 9 | 10 => rw [ri _ (by rw [hl]; omega) (by omega) (by omega)]; rfl
    | i + 12 => rw [List.getElem?_eq_none (by omega)]; rfl
  subst eρ
  refine lf_cons <| l1_for [2] (li_range1 k.b1 <| la_cons <| le_int <| la_nil ⟨6, rfl, by omega, by omega, ?_⟩) .never
  refine ⟨fun i S => ∃ nn q2, nn ≤ 140 * i ∧ (∀ O, q2 ≠ some (.ow O)) ∧ S = ⟨[none, some (.sh (vl (.ref a))), q2, none, none, none, none, none, none, none, none, some (.ow ((ownTab qL).atA P0))], nn⟩, ⟨0, none, by omega, (fun O z => by cases z), rfl⟩, ?_, ?_⟩
  · rintro i R' S2 hR ⟨nn, q2, hn, _, rfl⟩
    have hi : i < 6 := by have := (List.getElem?_eq_some_iff.mp hR).1; simpa using this
    refine lg_name (i := 2) ?_ sc_law.nd
    refine lb_cons <| l1_if <| lt_not <| lt_val <| le_drawG k.right gd hr (by decide) <| la_cons <| le_var (i := 1) rfl <| la_nil ⟨_, [], 140, rfl, ⟨rfl, rfl, rfl⟩, rfl, by show nn + 140 ≤ 2000; omega, true, rfl, ?_⟩
    exact lb_nil <| lb_nil ⟨nn + 140, _, by omega, (fun O z => by cases z), rfl⟩
  · rintro S2 ⟨nn, q2, hn, hq2, rfl⟩
    have hn : nn ≤ 840 := hn
    refine lf_cons ?_
    refine l1_set (i := 3) (x := "half") (hi := ?b1_1) (hx := ?b2_1) (hs := ?b3_1) (hf := ?b4_1) ?_ ?b5_1
    case b1_1 => rfl
    case b2_1 => first | exact .inl rfl | exact .inr rfl
    case b3_1 => rfl
    case b4_1 => first | exact .inl rfl | exact .inr rfl
    case b5_1 => exact sc_law.nd
    refine le_litL (n := 8) (ds := [.tuple [.int 1, .int 2], .tuple [.int 1, .int 3]]) ?lit_2 ?_
    case lit_2 => kernel_rfl
    show LF _ _ _ _
    refine lf_cons ?_
    refine l1_set (i := 4) (x := "yard") (hi := ?b1_3) (hx := ?b2_3) (hs := ?b3_3) (hf := ?b4_3) ?_ ?b5_3
    case b1_3 => rfl
    case b2_3 => first | exact .inl rfl | exact .inr rfl
    case b3_3 => rfl
    case b4_3 => first | exact .inl rfl | exact .inr rfl
    case b5_3 => exact sc_law.nd
    refine le_make k.yard hr (by decide) ?_
    refine la_cons ?_
    refine le_litL (n := 8) (ds := [.str "calm", .str "wild"]) ?lit_4 ?_
    case lit_4 => kernel_rfl
    show LA _ _ _ _ _
    refine la_cons ?_
    refine le_lst ?_
    refine la_cons ?_
    refine le_lit (n := 8) (d := .tuple [.str "mine", .list [.tuple [.str "go", .int 1]]]) ?lit_5 ?_
    case lit_5 => kernel_rfl
    show LA _ _ _ _ _
    refine la_cons ?_
    refine le_tup ?_
    refine la_cons ?_
    refine le_str ?_
    refine la_cons ?_
    refine le_lst ?_
    refine la_cons ?_
    refine le_tup ?_
    refine la_cons ?_
    refine le_int ?_
    refine la_cons ?_
    refine le_var (i := 3) rfl ?_
    refine la_nil ⟨zl (n := 2), ?_⟩
    refine la_cons ?_
    refine le_tup ?_
    refine la_cons ?_
    refine le_int ?_
    refine la_cons ?_
    refine le_litL (n := 8) (ds := [.tuple [.int 1, .int 2], .tuple [.int 2, .int 3]]) ?lit_6 ?_
    case lit_6 => kernel_rfl
    show LA _ _ _ _ _
    refine la_nil ⟨zl (n := 2), ?_⟩
    refine la_nil ⟨zl (n := 2), ?_⟩
    refine la_nil ⟨zl (n := 2), ?_⟩
    refine la_cons ?_
    refine le_lit (n := 8) (d := .tuple [.str "end"]) ?lit_7 ?_
    case lit_7 => kernel_rfl
    show LA _ _ _ _ _
    refine la_nil ⟨zl (n := 3), ?_⟩
    refine la_cons ?_
    refine le_int ?_
    refine la_nil ⟨_, ⟨yA, tupT K [], rfl, .inl rfl, yA_ok, rfl⟩, rfl, ?_⟩
    refine lf_cons ?_
    refine l1_set (i := 5) (x := "foe") (hi := ?b1_8) (hx := ?b2_8) (hs := ?b3_8) (hf := ?b4_8) ?_ ?b5_8
    case b1_8 => rfl
    case b2_8 => first | exact .inl rfl | exact .inr rfl
    case b3_8 => rfl
    case b4_8 => first | exact .inl rfl | exact .inr rfl
    case b5_8 => exact sc_law.nd
    refine le_make k.yard hr (by decide) ?_
    refine la_cons ?_
    refine le_litL (n := 8) (ds := [.str "calm", .str "wild"]) ?lit_9 ?_
    case lit_9 => kernel_rfl
    show LA _ _ _ _ _
    refine la_cons ?_
    refine le_lst ?_
    refine la_cons ?_
    refine le_lit (n := 8) (d := .tuple [.str "foe", .list [.tuple [.str "go", .int 1]]]) ?lit_10 ?_
    case lit_10 => kernel_rfl
    show LA _ _ _ _ _
    refine la_cons ?_
    refine le_tup ?_
    refine la_cons ?_
    refine le_str ?_
    refine la_cons ?_
    refine le_lst ?_
    refine la_cons ?_
    refine le_tup ?_
    refine la_cons ?_
    refine le_int ?_
    refine la_cons ?_
    refine le_var (i := 3) rfl ?_
    refine la_nil ⟨zl (n := 2), ?_⟩
    refine la_cons ?_
    refine le_tup ?_
    refine la_cons ?_
    refine le_int ?_
    refine la_cons ?_
    refine le_litL (n := 8) (ds := [.tuple [.int 1, .int 2], .tuple [.int 2, .int 3]]) ?lit_11 ?_
    case lit_11 => kernel_rfl
    show LA _ _ _ _ _
    refine la_nil ⟨zl (n := 2), ?_⟩
    refine la_nil ⟨zl (n := 2), ?_⟩
    refine la_nil ⟨zl (n := 2), ?_⟩
    refine la_nil ⟨zl (n := 2), ?_⟩
    refine la_cons ?_
    refine le_int ?_
    refine la_nil ⟨_, ⟨yB, tupT K [], rfl, .inl rfl, yB_ok, rfl⟩, rfl, ?_⟩
    refine lf_cons ?_
    refine l1_parN (is := [6, 7]) ?_ (.cons sc_law.nd rfl (.inr rfl) (.inl rfl) rfl (.cons sc_law.nd rfl (.inr rfl) (.inl rfl) rfl .nil))
    refine lo_sh ?_
    refine le_open (p := fun T : Th => T ∈ [vl .non, iT 5, sT "yard", tupT K (yA.rows.map (rowF K))]) (f := id) ?_
    refine le_draw k.pick hr (by decide) ?_
    refine la_cons ?_
    refine le_var (i := 1) rfl ?_
    refine la_cons ?_
    refine le_lst ?_
    refine la_cons ?_
    refine le_non ?_
    refine la_cons ?_
    refine le_int ?_
    refine la_cons ?_
    refine le_str ?_
    refine la_cons ?_
    refine le_fld ?_
    refine le_var (i := 4) rfl ⟨_, _, _, rfl, k.yc.c, k.yc.n2, rfl, ?_⟩
    refine la_nil ⟨zl (n := 4), ?_⟩
    refine la_nil ⟨_, _, _, rfl, ⟨_, _, rfl, .inr rfl, (by show 1 ≤ 4; omega), (by show 4 ≤ 1000; omega), rfl, rfl⟩, rfl, by show nn + 1 ≤ 2000; omega, rfl, fun T1 h1 => ?_⟩
    refine lo_sh ?_
    refine le_open (p := fun T : Th => T ∈ [iT 0, iT 2, iT 3, iT (-1), vl .non, bT true, sT "1", tupT K [iT 1]]) (f := id) ?_
    refine le_draw k.pick hr (by decide) ?_
    refine la_cons ?_
    refine le_var (i := 1) rfl ?_
    refine la_cons ?_
    refine le_lst ?_
    refine la_cons ?_
    refine le_int ?_
    refine la_cons ?_
    refine le_int ?_
    refine la_cons ?_
    refine le_int ?_
    refine la_cons ?_
    refine le_neg ?_
    refine le_int ⟨1, rfl, ?_⟩
    refine la_cons ?_
    refine le_non ?_
    refine la_cons ?_
    refine le_bl ?_
    refine la_cons ?_
    refine le_str ?_
    refine la_cons ?_
    refine le_tup ?_
    refine la_cons ?_
    refine le_int ?_
    refine la_nil ⟨zl (n := 1), ?_⟩
    refine la_nil ⟨zl (n := 8), ?_⟩
    refine la_nil ⟨_, _, _, rfl, ⟨_, _, rfl, .inr rfl, (by show 1 ≤ 8; omega), (by show 8 ≤ 1000; omega), rfl, rfl⟩, rfl, by show nn + 1 + 1 ≤ 2000; omega, rfl, fun T2 h2 => ?_⟩
    refine lo_nil ⟨rfl, ?_⟩
    refine lf_cons ?_
    refine l1_set (i := 8) (x := "bad") (hi := ?b1_12) (hx := ?b2_12) (hs := ?b3_12) (hf := ?b4_12) ?_ ?b5_12
    case b1_12 => rfl
    case b2_12 => first | exact .inl rfl | exact .inr rfl
    case b3_12 => rfl
    case b4_12 => first | exact .inl rfl | exact .inr rfl
    case b5_12 => exact sc_law.nd
    refine le_open (p := fun T : Th => T ∈ [tupT K [], tupT K [iT 2], tupT K [iT 1, iT 0], vl .non, sT "0", tupT K [iT 0, iT 0], tupT K [bT true], lstT [iT 0, iT 2], iT 1]) (f := id) ?_
    refine le_draw k.pick hr (by decide) ?_
    refine la_cons ?_
    refine le_var (i := 1) rfl ?_
    refine la_cons ?_
    refine le_lst ?_
    refine la_cons ?_
    refine le_tup ?_
    refine la_nil ⟨zl (n := 0), ?_⟩
    refine la_cons ?_
    refine le_tup ?_
    refine la_cons ?_
    refine le_int ?_
    refine la_nil ⟨zl (n := 1), ?_⟩
    refine la_cons ?_
    refine le_tup ?_
    refine la_cons ?_
    refine le_int ?_
    refine la_cons ?_
    refine le_int ?_
    refine la_nil ⟨zl (n := 2), ?_⟩
    refine la_cons ?_
    refine le_non ?_
    refine la_cons ?_
    refine le_str ?_
    refine la_cons ?_
    refine le_tup ?_
    refine la_cons ?_
    refine le_int ?_
    refine la_cons ?_
    refine le_int ?_
    refine la_nil ⟨zl (n := 2), ?_⟩
    refine la_cons ?_
    refine le_tup ?_
    refine la_cons ?_
    refine le_bl ?_
    refine la_nil ⟨zl (n := 1), ?_⟩
    refine la_cons ?_
    refine le_lst ?_
    refine la_cons ?_
    refine le_int ?_
    refine la_cons ?_
    refine le_int ?_
    refine la_nil ⟨zl (n := 2), ?_⟩
    refine la_cons ?_
    refine le_int ?_
    refine la_nil ⟨zl (n := 9), ?_⟩
    refine la_nil ⟨_, _, _, rfl, ⟨_, _, rfl, .inr rfl, (by show 1 ≤ 9; omega), (by show 9 ≤ 1000; omega), rfl, rfl⟩, rfl, by show nn + 1 + 1 + 1 ≤ 2000; omega, rfl, fun T3 h3 => ?_⟩
    have sb : ShsBut 11 ⟨[none, some (.sh (vl (.ref a))), q2, some (.sh (oddT K halfR)), some (.sh (yT K C yA)), some (.sh (yT K C yB)), some (.sh T1), some (.sh T2), some (.sh T3), none, none, some (.ow ((ownTab qL).atA P0))], nn + 1 + 1 + 1⟩ := by
      intro i O hi z
      match i with
      | 0 | 1 | 3 | 4 | 5 | 6 | 7 | 8 | 9 | 10 => cases z
      | 2 => exact hq2 O (Option.some.inj z)
      | 11 => exact hi rfl
      | i + 12 => cases z
    show LF _ _ _ ⟨[none, some (.sh (vl (.ref a))), q2, some (.sh (oddT K halfR)), some (.sh (yT K C yA)), some (.sh (yT K C yB)), some (.sh T1), some (.sh T2), some (.sh T3), none, none, some (.ow ((ownTab qL).atA P0))], nn + 1 + 1 + 1⟩
    exact lf_unpen (k := 11) rfl sb (law_end k TB hr (fun O z => by cases z) hq2 (noty k.kn T1 h1) (badst T2 h2) (badkn rfl T3 h3) (badkn rfl T3 h3))
theorem fn_law (F : FunT K "law" "law" st_law f fd c0) (k : LawK P w K mg base C CY CS CN CM fH fdH) (TB : TabB base mg c0 P0) : FnG P w K mg base 12 f fd ["script"] (spLaw K P0) := by
  refine fn_gT F sc_law (fun vs H Q E ⟨a, ns, e, _⟩ => by rw [e]; rfl) fun A outer s H vs Q E gd hr h => ?_
  obtain ⟨a, ns, rfl, sq, tb, hq⟩ := h
  refine wb_ghost (i := 11) (x := "#") (v := some (.ref P0)) rfl sc_law.nd no_ghost ?_
  have aP : ∀ u, Rd H a u → (∀ ps, u ≠ .tbl ps) → a ≠ P0 := fun u r n z => by
    subst z
    rcases r with r | ⟨o, r⟩
    · rw [tb] at r; exact n #[] (Option.some.inj r).symm
    · rw [tb] at r; cases r
  have sq0 : SqL K (del H P0) a (ns.map V.int) := by
    rcases sq with r | r
    · have ne := aP _ r (fun ps z => by cases z)
      rcases r with r | ⟨o, r⟩
      · exact .inl (.inl (del_of r ne))
      · exact .inl (.inr ⟨o, del_of r ne⟩)
    · exact .inr r
  have o : StOK K none ⟨del H P0, del H P0, 0⟩ (del H P0) ⟨[some (.sh (scrT K ns)), none, none, none, none, none, none, none, none, none, none, some (.ow ((ownTab qL).atA P0))], 0⟩ ((L2.start NL [.ref a]).set 11 (some (.ref P0))) H := by
    refine ⟨⟨.refl _, fun b u z => (del_some z).1, fun b u z _ => (del_some z).1, fun b z w => ?_, fun b z _ => z⟩, rfl, fun i R z => ?_, fun i O z => ?_, fun i j O O' x z1 z2 => ?_, fun x z => by cases z⟩
    · by_cases e : b = P0
      · subst e; exact z del_same
      · have z : del H P0 b ≠ none := z
        rw [del_ne e] at z; exact z w
    · match i with
      | 0 => cases z; exact ⟨_, rfl, a, rfl, sq0⟩
      | 1 | 2 | 3 | 4 | 5 | 6 | 7 | 8 | 9 | 10 | 11 => cases z
      | i + 12 => cases z
    · match i with
      | 11 => cases z; exact ⟨P0, .tbl #[], rfl, del_same, del_same, tb, rfl, #[], rfl, trivial, fun pos cv h => by simp [codeAmong] at h⟩
      | 0 | 1 | 2 | 3 | 4 | 5 | 6 | 7 | 8 | 9 | 10 => cases z
      | i + 12 => cases z
    · have e11 : ∀ i O, ([some (.sh (scrT K ns)), none, none, none, none, none, none, none, none, none, none, some (.ow ((ownTab qL).atA P0))] : List (Option Ent))[i]? = some (some (.ow O)) → i = 11 := fun i O z => by
        match i with
        | 11 => rfl
        | 0 | 1 | 2 | 3 | 4 | 5 | 6 | 7 | 8 | 9 | 10 => cases z
        | i + 12 => cases z
      intro _ _
      rw [e11 i O z1, e11 j O' z2]
  have W := law_all k TB (outer := outer) (H := H) (E := E) gd hr ns _ _ _ _ o
  exact fun pins s' I => thn (W pins s' I) fun fl s2 hs => by
    cases fl with
    | ret u =>
      obtain ⟨v, σ', H', J, r, z⟩ := hs
      cases (show v = V.bl true from z)
      exact ⟨_, σ', H', J, r, hq H'⟩
    | next => obtain ⟨_, _, _, z⟩ := hs; exact z.elim
    | brk => obtain ⟨_, _, _, z⟩ := hs; exact z.elim
    | cont => obtain ⟨_, _, _, z⟩ := hs; exact z.elim
end
end DL
set_option Elab.async false
set_option linter.all false
set_option pp.maxSteps 400
set_option maxRecDepth 100000
set_option maxHeartbeats 4000000
/-! the end: a law's def that makes lambdas, where nothing is being written out -/
namespace DL
open PySem PySem.Spec L2 LamX
open PyProof.Rows hiding St
/-- as law_g, with the law's own table of code objects at P0 -/
theorem law_gT {P : Program} {w : World} {K : PySem.W.Frag} {mg mb : Str → Option Value} {k : Nat} {fa a c0 P0 : Addr} {fd : FuncData} {x : Str} {sp : Sp} {s₁ : Shared} {vs : List Value} {ns : List Int}
    (kx : K.In s₁.heap) (hg : s₁.heap.Ns mainGlobals mg) (hb : s₁.heap.Ns builtinsNs mb) (hbb : ∀ x : Str, x ≠ "__name__" → mb x = bootBuiltins x) (hnl : s₁.heap.NoLimit) (hgen : s₁.gens = #[])
    (tab : s₁.heap.get? P0 = some { cls := .none, data := .fields #[] }) (nt : K.lookup P0 = none) (ch : PySem.W.codeHdIn K c0 P0 = true)
    (main : ∃ (bm : Addr) (ob : Obj), mg "__builtins__" = some (.ref bm) ∧ bm ≠ builtinsNs ∧ s₁.heap.get? bm = some ob ∧ ob.cls = .type "module" ∧ ob.dict = some builtinsNs ∧ ob.data = .plain)
    (ha : s₁.heap.get? a = some { cls := .type "list", data := .seq vs.toArray }) (hi : IntsAre vs ns) (hl : ns.length ≤ sizeLine) (room : Room k callerA)
    (F : ∀ base : Heap, K.In base → base.Ns mainGlobals mg → TabB base mg c0 P0 → FnG P w K mg base k fa fd [x] sp) (bnd : ∀ (s : Shared) (u : Value), BindsTo s fd ⟨[u], []⟩ [(x, u)])
    (want : ∀ H : Hp, H P0 = some (.tbl #[]) → SqL K H a (ns.map V.int) → sp [.ref a] H (fun v _ => v = .bl true) fun _ _ _ => False) :
    codeAny (model P w) callerA (.call (.ref fa) ⟨[.ref a], []⟩) (fun r s' => r = .ok (.ret (.bool true)) ∧ OldK s₁.heap s'.heap ∧ s'.os = s₁.os ∧ AllBare s'.gens) s₁ := by
  have hv := vals_ints hi
  have hlv := hi.length
  have aP : a ≠ P0 := fun z => by
    rw [z, tab] at ha
    cases ha
  suffices go : ∀ H : Hp, H P0 = some (.tbl #[]) → (∀ c u, H c = some u → c ≠ P0 → c = a ∧ K.lookup a = none ∧ u = .frz { cls := .type "list", data := .seq vs.toArray } (.lst (ns.map V.int))) → SqL K H a (ns.map V.int) →
      codeAny (model P w) callerA (.call (.ref fa) ⟨[.ref a], []⟩) (fun r s' => r = .ok (.ret (.bool true)) ∧ OldK s₁.heap s'.heap ∧ s'.os = s₁.os ∧ AllBare s'.gens) s₁ by
    cases look : K.lookup a with
    | none =>
      refine go (upd (upd (fun _ => none) a (.frz { cls := .type "list", data := .seq vs.toArray } (.lst (ns.map V.int)))) P0 (.tbl #[])) upd_same (fun c u z n => ?_) (Or.inl (Or.inr ⟨_, by rw [upd_ne aP, upd_same]⟩))
      rw [upd_ne n] at z
      by_cases e : c = a
      · subst e; rw [upd_same] at z; exact ⟨rfl, look, (Option.some.inj z).symm⟩
      · rw [upd_ne e] at z; cases z
    | some o =>
      have e := kx a o look
      rw [ha] at e
      cases e
      refine go (upd (fun _ => none) P0 (.tbl #[])) upd_same (fun c u z n => ?_) (Or.inr ⟨_, vs.toArray, _, look, rfl, rfl, rfl, by rw [List.size_toArray, hlv]; exact hl, by simpa using hv⟩)
      rw [upd_ne n] at z; cases z
  intro H tbl only isl
  have hok : HOk P w H s₁.heap := fun c u z => by
    by_cases e : c = P0
    · subst e; rw [tbl] at z; cases z; exact tab
    · obtain ⟨rfl, _, rfl⟩ := only c u z e
      exact ⟨ha, by rw [List.length_map]; exact hl, vs, _, hv, ha⟩
  have free : ∀ c o, s₁.heap.get? c = some o → (∀ v n, o.data ≠ .seq v n) → o.data ≠ .fields #[] → H c = none := fun c o e n1 n2 => by
    cases z : H c with
    | none => rfl
    | some u =>
      by_cases e2 : c = P0
      · subst e2; rw [tab] at e; cases e; exact absurd rfl n2
      · obtain ⟨rfl, _⟩ := only c u z e2
        rw [ha] at e; cases e; exact absurd rfl (n1 _ _)
  have m := hid_mod (H := H) kx hg hb hbb hnl (fun c o es ep e1 e2 => free c o e1 (fun v n z => by rw [e2] at z; cases z) (fun z => by rw [e2] at z; cases z)) fun c o e => by
    cases z : H c with
    | none => rfl
    | some u =>
      by_cases e2 : c = P0
      · subst e2; rw [nt] at e; cases e
      · obtain ⟨rfl, y, _⟩ := only c u z e2
        rw [y] at e; cases e
  have gP : mainGlobals ≠ P0 := fun z => by
    obtain ⟨o, es, ep, e1, e2, _⟩ := hg
    rw [z, tab] at e1; cases e1; cases e2
  have tb : TabB (hidT s₁.heap H) mg c0 P0 := by
    refine ⟨PySem.W.codeHd_of_K m.kin ch, ?_, gP⟩
    obtain ⟨bm, ob, b1, b2, b3, b4, b5, b6⟩ := main
    refine ⟨bm, ob, b1, b2, fun z => ?_, fun z => ?_, hidT_get b3 (free bm ob b3 (fun v n z => by rw [b6] at z; cases z) fun z => by rw [b6] at z; cases z), b4, b5, b6⟩
    · obtain ⟨o, es, ep, e1, e2, _⟩ := hg
      rw [z, e1] at b3; cases b3; rw [e2] at b6; cases b6
    · rw [z, tab] at b3; cases b3; cases b6
  have en : Env0 P w K mg (hidT s₁.heap H) callerA [] s₁ H := ⟨rfl, m, fun c o e => of_hidT e, Nat.le_of_eq (hidT_size _ _), trivial, fun c z => absurd (show c ∈ ([] : List Addr) from z) (by simp), hok, .of_eq hgen⟩
  refine codeAny_mono ((F _ m.kin m.glob tb).go callerA rfl room [] s₁ H ⟨[.ref a], []⟩ [.ref a] [.ref a] _ _ en (bnd s₁ (.ref a)) (.cons rfl .nil) (want H tbl isl)) fun res s' h => ?_
  match res, h with
  | .error e, h =>
    obtain ⟨_, _, _, _, _, _, _, _, _, _, _, _, z⟩ := h
    exact z.elim
  | .ok .next, h => exact (show False from h).elim
  | .ok .brk, h => exact (show False from h).elim
  | .ok .cont, h => exact (show False from h).elim
  | .ok (.ret u), ⟨v, H', os, bare, un, hok', rv, q⟩ =>
    cases (show v = V.bl true from q)
    cases (show u = Value.bool true from rv)
    obtain ⟨more, hm⟩ := un.tbls P0 #[] tbl
    have grown : s'.heap.get? P0 = some { cls := .none, data := .fields (#[] ++ more) } := hok' P0 _ hm
    have same : ∀ c o, c ≠ P0 → s₁.heap.get? c = some o → s'.heap.get? c = some o := fun c o n e => by
      cases z : H c with
      | none => exact un.keep c o e z (fun y => absurd (show c ∈ ([] : List Addr) from y) (by simp)) (by simp)
      | some u =>
        obtain ⟨rfl, _, rfl⟩ := only c u z n
        rw [ha] at e
        cases e
        exact (hok' c _ (un.frzs c _ _ z)).1
    refine ⟨rfl, ⟨fun c o e => ?_, fun c o e => ?_⟩, os, bare⟩
    · by_cases n : c = P0
      · subst n
        rw [tab] at e
        cases e
        exact Or.inr (Or.inl ⟨((PySem.W.codeHd_of_K kx ch).tab tab).isCodeTable, rfl, #[], more, rfl, grown⟩)
      · exact Or.inl (same c o n e)
    · by_cases n : c = P0
      · subst n; exact ⟨_, grown⟩
      · exact ⟨o, same c o n e⟩
/-- what is told of the law's def where it stands -/
structure LawGT (P : Program) (w : World) (K : PySem.W.Frag) (mg : Str → Option Value) (fa : Addr) (k n : Nat) (x : Str) : Prop where
  ex : ∃ (fd : FuncData) (c0 P0 : Addr) (o : Obj) (e : Value) (dd : Option Addr) (us : Array Value) (sl : Array (Option Value)) (sp : Sp), K.lookup fa = some o ∧ o.data = .func fd ∧ fd.code = .ref c0 ∧ K.lookup c0 = some ⟨e, dd, .fields us, sl⟩ ∧ us[11]? = some (.ref P0) ∧
    K.lookup P0 = none ∧ PySem.W.codeHdIn K c0 P0 = true ∧ (∀ (s : Shared) (u : Value), BindsTo s fd ⟨[u], []⟩ [(x, u)]) ∧ (∀ base : Heap, K.In base → base.Ns mainGlobals mg → TabB base mg c0 P0 → FnG P w K mg base k fa fd [x] sp) ∧
    ∀ (H : Hp) (a : Addr) (ns : List Int), ns.length ≤ n → H P0 = some (.tbl #[]) → SqL K H a (ns.map V.int) → sp [.ref a] H (fun v _ => v = .bl true) fun _ _ _ => False
/-- the end: as walk_g, for a law's def that makes lambdas -/
theorem walk_gT {l : PySem.W.OpenLaw} {n k : Nat} {q : Program} {loose : List Str} {XP : (Str → Option Value) → Heap → Prop} {YP : World → Heap → Prop} {d : DefRec} {K : Params → PySem.W.Frag} {x : Str}
    (hn : l.most = some n) (hn2 : n ≤ sizeLine) (hdf : d.params.defaults = []) (hr : Room k callerA) (hrec : ((recsOf q).any fun e => e.name == d.name) = true) (hY : ∀ (w : World) (h : Heap), YP w h → (K w.params).In h)
    (F : ∀ (w : World) (mg : Str → Option Value) (fa : Addr) (h : Heap), (K w.params).In h → h.Ns mainGlobals mg → mg d.name = some (.ref fa) → LawGT l.prog w (K w.params) mg fa k n x) :
    PySem.W.WalkO q loose XP YP l.row.toRowW d [] (fun f vs => PySem.call f vs) := by
  refine Att.attach_call hn hdf fun w s₀ s₁ mg mb fa o pm cd doc a vs ns G Y _ _ _ named obj iis len gens => ?_
  have kx := hY w _ Y
  obtain ⟨fd, c0, P0, o0, e, dd, us, sl, sp, l1, l2, l3, l4, l5, l6, l7, bnd, hF, want⟩ := (F w mg fa _ kx G.T.g named).ex
  have tab : s₁.heap.get? P0 = some { cls := .none, data := .fields #[] } := by
    obtain ⟨dL, mem, nm⟩ := List.any_eq_true.mp hrec
    have nm : dL.name = d.name := by simpa using nm
    obtain ⟨a1, o1, fd1, c1, P1, t1, t2, t3, t4, t5, t6, t7⟩ := G.T.tab dL mem
    rw [nm, named] at t1
    cases t1
    rw [kx _ _ l1] at t2
    cases t2
    rw [l2] at t3
    cases t3
    rw [l3] at t4
    cases t4
    obtain ⟨oc, vc, f1, _, f3, f4⟩ := t6
    rw [kx _ _ l4] at f1
    cases f1
    cases f3
    rw [l5] at f4
    cases f4
    exact t7
  exact law_gT kx G.T.g G.T.b G.T.builtins G.T.nolimit gens tab l6 l7 G.T.bmain obj iis (Nat.le_trans len hn2) hr hF bnd fun H tb isl => want H a ns len tb isl
end DL
set_option Elab.async false
set_option linter.all false
set_option maxRecDepth 100000
set_option maxHeartbeats 4000000
/-! calls by three keywords; the class PartError -/
namespace DL
open PySem PySem.Spec L2 LamX
open PyProof.Rows hiding St
open PySem.W (Datum Tup)
abbrev st_perr : Stmt := meth 4 0
theorem binds_perr {K : PySem.W.Frag} {kV doc pm cdv ct : Value} {an : Option Addr} {cc : Addr} : Binds K (PySem.W.ksFn "__init__" "PartError.__init__" (defArgs st_perr) (defBody st_perr) (defScope st_perr) .none kV doc pm an cdv ct cc) ["self", "part"] [] :=
  .all fun us hl => match us, hl with | [_, _], _ => rfl
theorem vals_rev : ∀ {zs : List V} {ws : List Value}, Vals zs ws → Vals zs.reverse ws.reverse
  | _, _, .nil => .nil
  | _, _, .cons r t => by
    rw [List.reverse_cons, List.reverse_cons]
    exact (vals_rev t).append (.cons r .nil)
section
variable {P : Program} {w : World} {K : PySem.W.Frag} {mg : Str → Option Value} {base : Heap} {f C : Addr} {fd : FuncData}
theorem fn_classes (F : Fun K "classes" "classes" st_classes f fd) (k1 : Kn P w K mg base 4 "need_luck" (spP 3 (fNeedLuck K C))) (k2 : Kn P w K mg base 3 "classes_in" (spP 3 (fClassesIn K C))) :
    FnOk P w K mg base (L2.CX P w) 5 f fd ["yard", "state", "knowledge"] (spP 3 (fClasses K C)) := by
  refine fn_pure F sc_classes rfl fun cdv A outer s H E Rs R hr h => ?_
  obtain ⟨y, n, ns, R1, rfl, sq, ask, rfl⟩ := h
  exact lb_cons <| l1_ret <| le_call k2 hr (by decide) <| la_cons <| le_var (i := 0) rfl <| la_cons <| le_var (i := 1) rfl <| la_cons <| le_call k1 hr (by decide) <| la_cons <| le_var (i := 0) rfl <| la_cons <| le_var (i := 1) rfl <| la_cons <| le_var (i := 2) rfl <|
    la_nil ⟨_, ⟨y, n, ns, R1, rfl, sq, ask, rfl⟩, rfl, la_nil ⟨_, ⟨y, n, rowAt y n, ns, rfl, ask.sm.at ask.lt, rfl⟩, rfl, rfl⟩⟩
theorem fn_stay (F : Fun K "stay" "stay" st_stay f fd) (yc : YC K C) (h1 : Blt mg "len") (h2 : Blt mg "list") (h3 : Blt mg "range") (c4 : Cst mg "FOE" (.str "foe")) (k1 : Kn P w K mg base 4 "need_luck" (spP 3 (fNeedLuck K C)))
    (k2 : Kn P w K mg base 1 "has_kind" (spP 2 (fHasKind K C))) (k3 : Kn P w K mg base 7 "stay_in" (spP 4 (fStayIn K C))) : FnOk P w K mg base (L2.CX P w) 8 f fd ["yard", "state", "knowledge"] (spP 3 (fStay K C)) := by
  refine fn_pure F sc_stay rfl fun cdv A outer s H E Rs R hr h => ?_
  obtain ⟨y, n, ns, R1, rfl, sq, ask, nf, rfl⟩ := h
  refine lb_cons <| l1_set (i := 3) (le_call k1 hr (by decide) <| la_cons <| le_var (i := 0) rfl <| la_cons <| le_var (i := 1) rfl <| la_cons <| le_var (i := 2) rfl <| la_nil ⟨_, ⟨y, n, ns, R1, rfl, sq, ask, rfl⟩, rfl, ?_⟩) sc_stay.nd
  refine lb_cons <| l1_if <| lt_val <| le_call k2 hr (by decide) <| la_cons <| le_var (i := 0) rfl <| la_cons <| le_cst c4 <| la_nil ⟨_, ⟨y, "foe", rfl, ask.sm.ok.r2, rfl⟩, rfl, _, rfl, ?_⟩
  have e1 : (y.rows.any fun r => decide (kindS r = "foe")) = false := by
    rw [List.any_eq_false]
    intro r hr
    rw [decide_eq_false (nf r hr)]; decide
  rw [e1]
  show LB _ _ _ _ _
  refine lb_nil <| lb_cons <| l1_ret <| le_call k3 hr (by decide) <| la_cons <| le_var (i := 0) rfl <| la_cons <| le_var (i := 1) rfl <| la_cons <| le_var (i := 3) rfl <| la_cons <| le_listRg h2 h3 <| le_cb call_len_seq h1 (by decide +kernel) <| la_cons <| le_fld <| le_var (i := 0) rfl ⟨_, _, _, rfl, yc.c, yc.n2, rfl, la_nil <| rc_len (.inl rfl) ⟨y.rows.length, by rw [List.length_map], by have := ask.sm.sm; omega, la_nil ⟨_, ⟨y, n, ns, rfl, ask.sm, ask.lk, rfl⟩, rfl, rfl⟩⟩⟩
theorem kbn_classes {kV doc pm cdv ct : Value} {an : Option Addr} : KBn K (PySem.W.fnOf "classes" "classes" (defArgs st_classes) (defBody st_classes) (defScope st_classes) .none kV doc pm an cdv ct) ["yard", "state", "knowledge"] 0 ["knowledge", "state", "yard"] (fun _ ws => ws.reverse) (fun _ zs => zs.reverse) where
  to := fun s us ws _ hu hw => match us, ws, hu, hw with | [], [a, b, c], _, _ => .of_eq rfl
  rel := fun _ h => vals_rev h
theorem kbn_stay {kV doc pm cdv ct : Value} {an : Option Addr} : KBn K (PySem.W.fnOf "stay" "stay" (defArgs st_stay) (defBody st_stay) (defScope st_stay) .none kV doc pm an cdv ct) ["yard", "state", "knowledge"] 0 ["knowledge", "state", "yard"] (fun _ ws => ws.reverse) (fun _ zs => zs.reverse) where
  to := fun s us ws _ hu hw => match us, ws, hu, hw with | [], [a, b, c], _, _ => .of_eq rfl
  rel := fun _ h => vals_rev h
end
end DL
set_option Elab.async false
set_option linter.all false
set_option maxRecDepth 100000
set_option maxHeartbeats 1000000
/-! From what the top has left to the law's promise (printed by asm.py) -/
namespace DL
open PySem PySem.Spec L2 LamX
open PyProof.Rows hiding St
theorem all_mk {prog : Program} {w : World} {K : PySem.W.Frag} {h : Heap} {mg : Str → Option Value} {fa : Addr} (X : K.In h) (G : h.Ns mainGlobals mg) (hfa : mg "law" = some (.ref fa))
    {C : Addr} {zZERO : Addr} {zoZERO : Option Addr} {ztZERO1 ztZERO2 znZERO : Nat} {zsZERO : Array (Option Value)} {zONE : Addr} {zoONE : Option Addr} {ztONE1 ztONE2 znONE : Nat} {zsONE : Array (Option Value)} {CY CS CN CM CP CW fE : Addr} {e_oc e_kV e_doc e_pm e_ct e_ccl e_cl : Value} {e_od e_an e_cdd e_cld : Option Addr} {e_cda e_cc : Addr} {e_osl e_ccs e_csl : Array (Option Value)} {e_vs : Array Value} {e_file : Str} {e_tf : Nat} {CYnm CYq : Str} {CYN : Addr} {CYbs CYbm CYsub : List Value} {CYsn : List Str} {CYab : Bool} {CYcol : Option Bool} {CYdd : Option Addr} {CYk0 CYk1 CYk2 CYk3 CYk5 : Option Value} {CSnm CSq : Str} {CSN : Addr} {CSbs CSbm CSsub : List Value} {CSsn : List Str} {CSab : Bool} {CScol : Option Bool} {CSdd : Option Addr} {CSk0 CSk1 CSk2 CSk3 CSk5 : Option Value} {CNnm CNq : Str} {CNN : Addr} {CNbs CNbm CNsub : List Value} {CNsn : List Str} {CNab : Bool} {CNcol : Option Bool} {CNdd : Option Addr} {CNk0 CNk1 CNk2 CNk3 CNk5 : Option Value} {CMnm CMq : Str} {CMN : Addr} {CMbs CMbm CMsub : List Value} {CMsn : List Str} {CMab : Bool} {CMcol : Option Bool} {CMdd : Option Addr} {CMk0 CMk1 CMk2 CMk3 CMk5 : Option Value} {f_is_integer : Addr} {od_is_integer an_is_integer : Option Addr} {sl_is_integer : Array (Option Value)} {oc_is_integer kV_is_integer dc_is_integer pm_is_integer cd_is_integer ct_is_integer : Value} {f_is_within : Addr} {od_is_within an_is_within : Option Addr} {sl_is_within : Array (Option Value)} {oc_is_within kV_is_within dc_is_within pm_is_within cd_is_within ct_is_within : Value} {f_is_listed : Addr} {od_is_listed an_is_listed : Option Addr} {sl_is_listed : Array (Option Value)} {oc_is_listed kV_is_listed dc_is_listed pm_is_listed cd_is_listed ct_is_listed : Value} {f_is_name : Addr} {od_is_name an_is_name : Option Addr} {sl_is_name : Array (Option Value)} {oc_is_name kV_is_name dc_is_name pm_is_name cd_is_name ct_is_name : Value} {tk_MOST_LETTERS : Nat} {tk_LETTERS : Nat} {f_are_unlike : Addr} {od_are_unlike an_are_unlike : Option Addr} {sl_are_unlike : Array (Option Value)} {oc_are_unlike kV_are_unlike dc_are_unlike pm_are_unlike cd_are_unlike ct_are_unlike : Value} {f_are_names : Addr} {od_are_names an_are_names : Option Addr} {sl_are_names : Array (Option Value)} {oc_are_names kV_are_names dc_are_names pm_are_names cd_are_names ct_are_names : Value} {f_ascends : Addr} {od_ascends an_ascends : Option Addr} {sl_ascends : Array (Option Value)} {oc_ascends kV_ascends dc_ascends pm_ascends cd_ascends ct_ascends : Value} {f_is_ratio : Addr} {od_is_ratio an_is_ratio : Option Addr} {sl_is_ratio : Array (Option Value)} {oc_is_ratio kV_is_ratio dc_is_ratio pm_is_ratio cd_is_ratio ct_is_ratio : Value} {f_less : Addr} {od_less an_less : Option Addr} {sl_less : Array (Option Value)} {oc_less kV_less dc_less pm_less cd_less ct_less : Value} {f_total : Addr} {od_total an_total : Option Addr} {sl_total : Array (Option Value)} {oc_total kV_total dc_total pm_total cd_total ct_total : Value} {f_fixed : Addr} {od_fixed an_fixed : Option Addr} {sl_fixed : Array (Option Value)} {oc_fixed kV_fixed dc_fixed pm_fixed cd_fixed ct_fixed : Value} {f_is_pair : Addr} {od_is_pair an_is_pair : Option Addr} {sl_is_pair : Array (Option Value)} {oc_is_pair kV_is_pair dc_is_pair pm_is_pair cd_is_pair ct_is_pair : Value} {f_is_act : Addr} {od_is_act an_is_act : Option Addr} {sl_is_act : Array (Option Value)} {oc_is_act kV_is_act dc_is_act pm_is_act cd_is_act ct_is_act : Value} {f_are_acts : Addr} {od_are_acts an_are_acts : Option Addr} {sl_are_acts : Array (Option Value)} {oc_are_acts kV_are_acts dc_are_acts pm_are_acts cd_are_acts ct_are_acts : Value} {tk_MOST_ACTS : Nat} {f_are_odds : Addr} {od_are_odds an_are_odds : Option Addr} {sl_are_odds : Array (Option Value)} {oc_are_odds kV_are_odds dc_are_odds pm_are_odds cd_are_odds ct_are_odds : Value} {f_is_outcome : Addr} {od_is_outcome an_is_outcome : Option Addr} {sl_is_outcome : Array (Option Value)} {oc_is_outcome kV_is_outcome dc_is_outcome pm_is_outcome cd_is_outcome ct_is_outcome : Value} {f_are_outcomes : Addr} {od_are_outcomes an_are_outcomes : Option Addr} {sl_are_outcomes : Array (Option Value)} {oc_are_outcomes kV_are_outcomes dc_are_outcomes pm_are_outcomes cd_are_outcomes ct_are_outcomes : Value} {tk_MOST_OUTCOMES : Nat} {f_is_row : Addr} {od_is_row an_is_row : Option Addr} {sl_is_row : Array (Option Value)} {oc_is_row kV_is_row dc_is_row pm_is_row cd_is_row ct_is_row : Value} {tk_END : Nat} {tk_LUCK : Nat} {tk_MINE : Nat} {tk_FOE : Nat} {f_are_states : Addr} {od_are_states an_are_states : Option Addr} {sl_are_states : Array (Option Value)} {oc_are_states kV_are_states dc_are_states pm_are_states cd_are_states ct_are_states : Value} {f_are_marks : Addr} {od_are_marks an_are_marks : Option Addr} {sl_are_marks : Array (Option Value)} {oc_are_marks kV_are_marks dc_are_marks pm_are_marks cd_are_marks ct_are_marks : Value} {tk_MOST_MARKS : Nat} {f_yi yiT yiE : Addr} {od_yi an_yi yiTo yiEo : Option Addr} {sl_yi yiTs yiEs : Array (Option Value)} {oc_yi kV_yi dc_yi pm_yi cd_yi ct_yi : Value} {yiTn yiEn : Nat} {tk_MOST_WORLDS : Nat} {tk_MOST_STATES : Nat} {f_kind : Addr} {od_kind an_kind : Option Addr} {sl_kind : Array (Option Value)} {oc_kind kV_kind dc_kind pm_kind cd_kind ct_kind : Value} {f_acts : Addr} {od_acts an_acts : Option Addr} {sl_acts : Array (Option Value)} {oc_acts kV_acts dc_acts pm_acts cd_acts ct_acts : Value} {f_outcomes : Addr} {od_outcomes an_outcomes : Option Addr} {sl_outcomes : Array (Option Value)} {oc_outcomes kV_outcomes dc_outcomes pm_outcomes cd_outcomes ct_outcomes : Value} {f_need_yard : Addr} {od_need_yard an_need_yard : Option Addr} {sl_need_yard : Array (Option Value)} {oc_need_yard kV_need_yard dc_need_yard pm_need_yard cd_need_yard ct_need_yard : Value} {f_need_state : Addr} {od_need_state an_need_state : Option Addr} {sl_need_state : Array (Option Value)} {oc_need_state kV_need_state dc_need_state pm_need_state cd_need_state ct_need_state : Value} {f_has_kind : Addr} {od_has_kind an_has_kind : Option Addr} {sl_has_kind : Array (Option Value)} {oc_has_kind kV_has_kind dc_has_kind pm_has_kind cd_has_kind ct_has_kind : Value} {f_is_knowledge : Addr} {od_is_knowledge an_is_knowledge : Option Addr} {sl_is_knowledge : Array (Option Value)} {oc_is_knowledge kV_is_knowledge dc_is_knowledge pm_is_knowledge cd_is_knowledge ct_is_knowledge : Value} {f_known : Addr} {od_known an_known : Option Addr} {sl_known : Array (Option Value)} {oc_known kV_known dc_known pm_known cd_known ct_known : Value} {f_behind : Addr} {od_behind an_behind : Option Addr} {sl_behind : Array (Option Value)} {oc_behind kV_behind dc_behind pm_behind cd_behind ct_behind : Value} {f_odds_of : Addr} {od_odds_of an_odds_of : Option Addr} {sl_odds_of : Array (Option Value)} {oc_odds_of kV_odds_of dc_odds_of pm_odds_of cd_odds_of ct_odds_of : Value} {f_kept_behind : Addr} {od_kept_behind an_kept_behind : Option Addr} {sl_kept_behind : Array (Option Value)} {oc_kept_behind kV_kept_behind dc_kept_behind pm_kept_behind cd_kept_behind ct_kept_behind : Value} {f_does_stay : Addr} {od_does_stay an_does_stay : Option Addr} {sl_does_stay : Array (Option Value)} {oc_does_stay kV_does_stay dc_does_stay pm_does_stay cd_does_stay ct_does_stay : Value} {f_closed_lot : Addr} {od_closed_lot an_closed_lot : Option Addr} {sl_closed_lot : Array (Option Value)} {oc_closed_lot kV_closed_lot dc_closed_lot pm_closed_lot cd_closed_lot ct_closed_lot : Value} {f_ranks_to : Addr} {od_ranks_to an_ranks_to : Option Addr} {sl_ranks_to : Array (Option Value)} {oc_ranks_to kV_ranks_to dc_ranks_to pm_ranks_to cd_ranks_to ct_ranks_to : Value} {f_come_to : Addr} {od_come_to an_come_to : Option Addr} {sl_come_to : Array (Option Value)} {oc_come_to kV_come_to dc_come_to pm_come_to cd_come_to ct_come_to : Value} {f_stay_in : Addr} {od_stay_in an_stay_in : Option Addr} {sl_stay_in : Array (Option Value)} {oc_stay_in kV_stay_in dc_stay_in pm_stay_in cd_stay_in ct_stay_in : Value} {f_need_luck : Addr} {od_need_luck an_need_luck : Option Addr} {sl_need_luck : Array (Option Value)} {oc_need_luck kV_need_luck dc_need_luck pm_need_luck cd_need_luck ct_need_luck : Value} {f_stay : Addr} {od_stay an_stay : Option Addr} {sl_stay : Array (Option Value)} {oc_stay kV_stay dc_stay pm_stay cd_stay ct_stay : Value} {f_classes_in : Addr} {od_classes_in an_classes_in : Option Addr} {sl_classes_in : Array (Option Value)} {oc_classes_in kV_classes_in dc_classes_in pm_classes_in cd_classes_in ct_classes_in : Value} {f_classes : Addr} {od_classes an_classes : Option Addr} {sl_classes : Array (Option Value)} {oc_classes kV_classes dc_classes pm_classes cd_classes ct_classes : Value} {f__law_draw : Addr} {od__law_draw an__law_draw : Option Addr} {sl__law_draw : Array (Option Value)} {oc__law_draw kV__law_draw dc__law_draw pm__law_draw cd__law_draw ct__law_draw : Value} {f__law_pick : Addr} {od__law_pick an__law_pick : Option Addr} {sl__law_pick : Array (Option Value)} {oc__law_pick kV__law_pick dc__law_pick pm__law_pick cd__law_pick ct__law_pick : Value} {f__law_mixed : Addr} {od__law_mixed an__law_mixed : Option Addr} {sl__law_mixed : Array (Option Value)} {oc__law_mixed kV__law_mixed dc__law_mixed pm__law_mixed cd__law_mixed ct__law_mixed : Value} {f__law_spread : Addr} {od__law_spread an__law_spread : Option Addr} {sl__law_spread : Array (Option Value)} {oc__law_spread kV__law_spread dc__law_spread pm__law_spread cd__law_spread ct__law_spread : Value} {f__law_known : Addr} {od__law_known an__law_known : Option Addr} {sl__law_known : Array (Option Value)} {oc__law_known kV__law_known dc__law_known pm__law_known cd__law_known ct__law_known : Value} {f__law_behind : Addr} {od__law_behind an__law_behind : Option Addr} {sl__law_behind : Array (Option Value)} {oc__law_behind kV__law_behind dc__law_behind pm__law_behind cd__law_behind ct__law_behind : Value} {f__law_yard : Addr} {od__law_yard an__law_yard : Option Addr} {sl__law_yard : Array (Option Value)} {oc__law_yard kV__law_yard dc__law_yard pm__law_yard cd__law_yard ct__law_yard : Value} {f__law_is_count : Addr} {od__law_is_count an__law_is_count : Option Addr} {sl__law_is_count : Array (Option Value)} {oc__law_is_count kV__law_is_count dc__law_is_count pm__law_is_count cd__law_is_count ct__law_is_count : Value} {f__law_target : Addr} {od__law_target an__law_target : Option Addr} {sl__law_target : Array (Option Value)} {oc__law_target kV__law_target dc__law_target pm__law_target cd__law_target ct__law_target : Value} {f__law_are_rows : Addr} {od__law_are_rows an__law_are_rows : Option Addr} {sl__law_are_rows : Array (Option Value)} {oc__law_are_rows kV__law_are_rows dc__law_are_rows pm__law_are_rows cd__law_are_rows ct__law_are_rows : Value} {f__law_classes : Addr} {od__law_classes an__law_classes : Option Addr} {sl__law_classes : Array (Option Value)} {oc__law_classes kV__law_classes dc__law_classes pm__law_classes cd__law_classes ct__law_classes : Value} {f__law_stays : Addr} {od__law_stays an__law_stays : Option Addr} {sl__law_stays : Array (Option Value)} {oc__law_stays kV__law_stays dc__law_stays pm__law_stays cd__law_stays ct__law_stays : Value} {f__law_stay_right : Addr} {od__law_stay_right an__law_stay_right : Option Addr} {sl__law_stay_right : Array (Option Value)} {oc__law_stay_right kV__law_stay_right dc__law_stay_right pm__law_stay_right cd__law_stay_right ct__law_stay_right : Value} {f__law_right : Addr} {od__law_right an__law_right : Option Addr} {sl__law_right : Array (Option Value)} {oc__law_right kV__law_right dc__law_right pm__law_right cd__law_right ct__law_right : Value} {f__law_pen : Addr} {od__law_pen an__law_pen : Option Addr} {sl__law_pen : Array (Option Value)} {oc__law_pen kV__law_pen dc__law_pen pm__law_pen cd__law_pen ct__law_pen : Value} {f_law_heard : Addr} {od_law_heard an_law_heard : Option Addr} {sl_law_heard : Array (Option Value)} {oc_law_heard kV_law_heard dc_law_heard pm_law_heard cd_law_heard ct_law_heard : Value} {f_law c0 P0 : Addr} {od_law an_law lc_dd : Option Addr} {sl_law lc_sl : Array (Option Value)} {oc_law kV_law dc_law pm_law ct_law lc_e : Value} {lc_us : Array Value}
    (a_Yard : PySem.W.nsIn K mainGlobals "Yard" = some (some (.ref C)))
    (y_pg : PySem.W.plainGet K C Str.empty = true)
    (y_hd : PySem.W.hasDictIn K C = true)
    (y_po : PySem.W.plainOver K C = true)
    (y_sa : PySem.W.findIn K (.ref C) "__setattr__" = some (some (.builtin "object.__setattr__")))
    (y_mk : PySem.W.makesIn K C = true)
    (y_kc : PySem.W.keepIn K (.ref C) = true)
    (n_worlds : PySem.W.findIn K (.ref C) "worlds" = some none)
    (n_states : PySem.W.findIn K (.ref C) "states" = some none)
    (n_start : PySem.W.findIn K (.ref C) "start" = some none)
    (n_marks : PySem.W.findIn K (.ref C) "marks" = some none)
    (n_pays : PySem.W.findIn K (.ref C) "pays" = some none)
    (y_ky : PySem.W.kitOne K (.ref C) (.ref C) = some true)
    (y_ha : PySem.W.findIn K (.ref C) "__class__" = some (some (.builtin "object.__class__")))
    (s_hn : PySem.W.specialIn K (.builtin "object.__class__") "__get__" = some (some (.builtin "getset_descriptor.__get__")))
    (s_ht : PySem.W.takesIn K (.builtin "object.__class__") = some true)
    (y_hm : PySem.W.mroIn K C (.type "object") = some true)
    (y_kNoneType : PySem.W.kitOne K (.type "NoneType") (.ref C) = some false)
    (y_kint : PySem.W.kitOne K (.type "int") (.ref C) = some false)
    (y_kstr : PySem.W.kitOne K (.type "str") (.ref C) = some false)
    (y_ktuple : PySem.W.kitOne K (.type "tuple") (.ref C) = some false)
    (a_gcd : PySem.W.nsIn K mainGlobals "gcd" = some (some (.builtin "math.gcd")))
    (g_ZERO : PySem.W.nsIn K mainGlobals "ZERO" = some (some (.ref zZERO)))
    (l_ZERO : K.lookup zZERO = some ⟨.type "tuple", zoZERO, .seq #[.int 0 ztZERO1, .int 1 ztZERO2] znZERO, zsZERO⟩)
    (g_ONE : PySem.W.nsIn K mainGlobals "ONE" = some (some (.ref zONE)))
    (l_ONE : K.lookup zONE = some ⟨.type "tuple", zoONE, .seq #[.int 1 ztONE1, .int 1 ztONE2] znONE, zsONE⟩)
    (a_World : PySem.W.nsIn K mainGlobals "WorldError" = some (some (.ref CW)))
    (a_CY : PySem.W.nsIn K mainGlobals "BadYard" = some (some (.ref CY)))
    (l_CY : K.lookup CY = some (excClassObj CYnm CYq CY CYN CYbs CYbm true CYsn CYsub CYab CYcol CYdd CYk0 CYk1 CYk2 CYk3 CYk5 "ValueError.__new__"))
    (v_CY : PySem.HandSPX.refsVE CYbm = true)
    (sa_CY : PySem.W.findIn K (.ref CY) "__setattr__" = some (some (.builtin "object.__setattr__")))
    (ex_CY : PySem.W.subIn K (.ref CY) (.type "BaseException") = some true)
    (ty_CY : PySem.W.typeIn K (.ref CY) = some (.type "type"))
    (kc_CY : PySem.W.keepIn K (.ref CY) = true)
    (in_CY : PySem.W.findIn K (.ref CY) "__init__" = some (some (.ref fE)))
    (l_fE : K.lookup fE = some ⟨e_oc, e_od, .func (PySem.W.ksFn "__init__" "PartError.__init__" (defArgs st_perr) (defBody st_perr) (defScope st_perr) .none e_kV e_doc e_pm e_an (.ref e_cda) e_ct e_cc), e_osl⟩)
    (c_fE : PySem.W.codeIn K (.ref e_cda) "PartError.__init__" = true)
    (cl_fE : K.lookup e_cda = some ⟨e_ccl, e_cdd, .fields e_vs, e_ccs⟩)
    (vs_fE : e_vs[2]? = some (.str e_file e_tf))
    (fi_fE : ((prog.main.file : Str) == e_file) = true)
    (cc_fE : K.lookup e_cc = some ⟨e_cl, e_cld, .cell (some (.ref CP)), e_csl⟩)
    (cD : (PySem.W.clsIn K CP).isSome = true)
    (st_fE : PySem.W.nsIn K cStatics "thirdparty.any" = some none)
    (tp_fE : (prog.main.scope.names.lookup ("super" : Str)).isSome = false)
    (z_super : PySem.W.nsIn K mainGlobals "super" = some none)
    (ty_fE : PySem.W.typeIn K (.ref fE) = some (.type "function"))
    (su_CY : PySem.W.mroIn K CY (.ref CP) = some true)
    (nx_CY : PySem.W.ks_superIn K CY CP "__init__" = some (some (.builtin "ValueError.__init__")))
    (ve_CY : PySem.W.subIn K (.ref CY) (.type "ValueError") = some true)
    (np_CY : PySem.W.findIn K (.ref CY) "part" = some none)
    (hg_CY : PySem.W.findIn K (.ref CY) "__getattribute__" = some (some (.builtin "BaseException.__getattribute__")))
    (hk_CY : PySem.W.findIn K (.ref CY) "__getattr__" = some none)
    (hd_CY : PySem.W.hasDictIn K CY = true)
    (ha_CY : PySem.W.findIn K (.ref CY) "__class__" = some (some (.builtin "object.__class__")))
    (hm_CY : PySem.W.mroIn K CY (.type "object") = some true)
    (hc_CY : (PySem.W.clsIn K CY).isSome = true)
    (xm_CY : PySem.W.exmOne K (.ref CY) (.ref CW) = some true)
    (kk_CY_CY : PySem.W.kitOne K (.ref CY) (.ref CY) = some true)
    (kk_CY_CS : PySem.W.kitOne K (.ref CY) (.ref CS) = some false)
    (kk_CY_CN : PySem.W.kitOne K (.ref CY) (.ref CN) = some false)
    (kk_CY_CM : PySem.W.kitOne K (.ref CY) (.ref CM) = some false)
    (a_CS : PySem.W.nsIn K mainGlobals "BadState" = some (some (.ref CS)))
    (l_CS : K.lookup CS = some (excClassObj CSnm CSq CS CSN CSbs CSbm true CSsn CSsub CSab CScol CSdd CSk0 CSk1 CSk2 CSk3 CSk5 "ValueError.__new__"))
    (v_CS : PySem.HandSPX.refsVE CSbm = true)
    (sa_CS : PySem.W.findIn K (.ref CS) "__setattr__" = some (some (.builtin "object.__setattr__")))
    (ex_CS : PySem.W.subIn K (.ref CS) (.type "BaseException") = some true)
    (ty_CS : PySem.W.typeIn K (.ref CS) = some (.type "type"))
    (kc_CS : PySem.W.keepIn K (.ref CS) = true)
    (in_CS : PySem.W.findIn K (.ref CS) "__init__" = some (some (.ref fE)))
    (su_CS : PySem.W.mroIn K CS (.ref CP) = some true)
    (nx_CS : PySem.W.ks_superIn K CS CP "__init__" = some (some (.builtin "ValueError.__init__")))
    (ve_CS : PySem.W.subIn K (.ref CS) (.type "ValueError") = some true)
    (np_CS : PySem.W.findIn K (.ref CS) "part" = some none)
    (hg_CS : PySem.W.findIn K (.ref CS) "__getattribute__" = some (some (.builtin "BaseException.__getattribute__")))
    (hk_CS : PySem.W.findIn K (.ref CS) "__getattr__" = some none)
    (hd_CS : PySem.W.hasDictIn K CS = true)
    (ha_CS : PySem.W.findIn K (.ref CS) "__class__" = some (some (.builtin "object.__class__")))
    (hm_CS : PySem.W.mroIn K CS (.type "object") = some true)
    (hc_CS : (PySem.W.clsIn K CS).isSome = true)
    (xm_CS : PySem.W.exmOne K (.ref CS) (.ref CW) = some true)
    (kk_CS_CY : PySem.W.kitOne K (.ref CS) (.ref CY) = some false)
    (kk_CS_CS : PySem.W.kitOne K (.ref CS) (.ref CS) = some true)
    (kk_CS_CN : PySem.W.kitOne K (.ref CS) (.ref CN) = some false)
    (kk_CS_CM : PySem.W.kitOne K (.ref CS) (.ref CM) = some false)
    (a_CN : PySem.W.nsIn K mainGlobals "BadKnowledge" = some (some (.ref CN)))
    (l_CN : K.lookup CN = some (excClassObj CNnm CNq CN CNN CNbs CNbm true CNsn CNsub CNab CNcol CNdd CNk0 CNk1 CNk2 CNk3 CNk5 "ValueError.__new__"))
    (v_CN : PySem.HandSPX.refsVE CNbm = true)
    (sa_CN : PySem.W.findIn K (.ref CN) "__setattr__" = some (some (.builtin "object.__setattr__")))
    (ex_CN : PySem.W.subIn K (.ref CN) (.type "BaseException") = some true)
    (ty_CN : PySem.W.typeIn K (.ref CN) = some (.type "type"))
    (kc_CN : PySem.W.keepIn K (.ref CN) = true)
    (in_CN : PySem.W.findIn K (.ref CN) "__init__" = some (some (.ref fE)))
    (su_CN : PySem.W.mroIn K CN (.ref CP) = some true)
    (nx_CN : PySem.W.ks_superIn K CN CP "__init__" = some (some (.builtin "ValueError.__init__")))
    (ve_CN : PySem.W.subIn K (.ref CN) (.type "ValueError") = some true)
    (np_CN : PySem.W.findIn K (.ref CN) "part" = some none)
    (hg_CN : PySem.W.findIn K (.ref CN) "__getattribute__" = some (some (.builtin "BaseException.__getattribute__")))
    (hk_CN : PySem.W.findIn K (.ref CN) "__getattr__" = some none)
    (hd_CN : PySem.W.hasDictIn K CN = true)
    (ha_CN : PySem.W.findIn K (.ref CN) "__class__" = some (some (.builtin "object.__class__")))
    (hm_CN : PySem.W.mroIn K CN (.type "object") = some true)
    (hc_CN : (PySem.W.clsIn K CN).isSome = true)
    (xm_CN : PySem.W.exmOne K (.ref CN) (.ref CW) = some true)
    (kk_CN_CY : PySem.W.kitOne K (.ref CN) (.ref CY) = some false)
    (kk_CN_CS : PySem.W.kitOne K (.ref CN) (.ref CS) = some false)
    (kk_CN_CN : PySem.W.kitOne K (.ref CN) (.ref CN) = some true)
    (kk_CN_CM : PySem.W.kitOne K (.ref CN) (.ref CM) = some false)
    (a_CM : PySem.W.nsIn K mainGlobals "Misfit" = some (some (.ref CM)))
    (l_CM : K.lookup CM = some (excClassObj CMnm CMq CM CMN CMbs CMbm true CMsn CMsub CMab CMcol CMdd CMk0 CMk1 CMk2 CMk3 CMk5 "ValueError.__new__"))
    (v_CM : PySem.HandSPX.refsVE CMbm = true)
    (sa_CM : PySem.W.findIn K (.ref CM) "__setattr__" = some (some (.builtin "object.__setattr__")))
    (ex_CM : PySem.W.subIn K (.ref CM) (.type "BaseException") = some true)
    (ty_CM : PySem.W.typeIn K (.ref CM) = some (.type "type"))
    (kc_CM : PySem.W.keepIn K (.ref CM) = true)
    (in_CM : PySem.W.findIn K (.ref CM) "__init__" = some (some (.ref fE)))
    (su_CM : PySem.W.mroIn K CM (.ref CP) = some true)
    (nx_CM : PySem.W.ks_superIn K CM CP "__init__" = some (some (.builtin "ValueError.__init__")))
    (ve_CM : PySem.W.subIn K (.ref CM) (.type "ValueError") = some true)
    (np_CM : PySem.W.findIn K (.ref CM) "part" = some none)
    (hg_CM : PySem.W.findIn K (.ref CM) "__getattribute__" = some (some (.builtin "BaseException.__getattribute__")))
    (hk_CM : PySem.W.findIn K (.ref CM) "__getattr__" = some none)
    (hd_CM : PySem.W.hasDictIn K CM = true)
    (ha_CM : PySem.W.findIn K (.ref CM) "__class__" = some (some (.builtin "object.__class__")))
    (hm_CM : PySem.W.mroIn K CM (.type "object") = some true)
    (hc_CM : (PySem.W.clsIn K CM).isSome = true)
    (xm_CM : PySem.W.exmOne K (.ref CM) (.ref CW) = some true)
    (kk_CM_CY : PySem.W.kitOne K (.ref CM) (.ref CY) = some false)
    (kk_CM_CS : PySem.W.kitOne K (.ref CM) (.ref CS) = some false)
    (kk_CM_CN : PySem.W.kitOne K (.ref CM) (.ref CN) = some false)
    (kk_CM_CM : PySem.W.kitOne K (.ref CM) (.ref CM) = some true)
    (nd_E : decide ([CY, CS, CN, CM].Nodup) = true)
    (a_is_integer : PySem.W.nsIn K mainGlobals "is_integer" = some (some (.ref f_is_integer)))
    (l_is_integer : K.lookup f_is_integer = some ⟨oc_is_integer, od_is_integer, .func (PySem.W.fnOf "is_integer" "is_integer" (defArgs st_is_integer) (defBody st_is_integer) (defScope st_is_integer) .none kV_is_integer dc_is_integer pm_is_integer an_is_integer cd_is_integer ct_is_integer), sl_is_integer⟩)
    (c_is_integer : PySem.W.codeIn K cd_is_integer "is_integer" = true)
    (k_is_integer : PySem.W.keepIn K (.ref f_is_integer) = true)
    (z_isinstance : PySem.W.nsIn K mainGlobals "isinstance" = some none)
    (z_int : PySem.W.nsIn K mainGlobals "int" = some none)
    (z_bool : PySem.W.nsIn K mainGlobals "bool" = some none)
    (a_is_within : PySem.W.nsIn K mainGlobals "is_within" = some (some (.ref f_is_within)))
    (l_is_within : K.lookup f_is_within = some ⟨oc_is_within, od_is_within, .func (PySem.W.fnOf "is_within" "is_within" (defArgs st_is_within) (defBody st_is_within) (defScope st_is_within) .none kV_is_within dc_is_within pm_is_within an_is_within cd_is_within ct_is_within), sl_is_within⟩)
    (c_is_within : PySem.W.codeIn K cd_is_within "is_within" = true)
    (k_is_within : PySem.W.keepIn K (.ref f_is_within) = true)
    (a_is_listed : PySem.W.nsIn K mainGlobals "is_listed" = some (some (.ref f_is_listed)))
    (l_is_listed : K.lookup f_is_listed = some ⟨oc_is_listed, od_is_listed, .func (PySem.W.fnOf "is_listed" "is_listed" (defArgs st_is_listed) (defBody st_is_listed) (defScope st_is_listed) .none kV_is_listed dc_is_listed pm_is_listed an_is_listed cd_is_listed ct_is_listed), sl_is_listed⟩)
    (c_is_listed : PySem.W.codeIn K cd_is_listed "is_listed" = true)
    (k_is_listed : PySem.W.keepIn K (.ref f_is_listed) = true)
    (z_list : PySem.W.nsIn K mainGlobals "list" = some none)
    (z_tuple : PySem.W.nsIn K mainGlobals "tuple" = some none)
    (a_is_name : PySem.W.nsIn K mainGlobals "is_name" = some (some (.ref f_is_name)))
    (l_is_name : K.lookup f_is_name = some ⟨oc_is_name, od_is_name, .func (PySem.W.fnOf "is_name" "is_name" (defArgs st_is_name) (defBody st_is_name) (defScope st_is_name) .none kV_is_name dc_is_name pm_is_name an_is_name cd_is_name ct_is_name), sl_is_name⟩)
    (c_is_name : PySem.W.codeIn K cd_is_name "is_name" = true)
    (k_is_name : PySem.W.keepIn K (.ref f_is_name) = true)
    (z_str : PySem.W.nsIn K mainGlobals "str" = some none)
    (z_len : PySem.W.nsIn K mainGlobals "len" = some none)
    (g_MOST_LETTERS : PySem.W.nsIn K mainGlobals "MOST_LETTERS" = some (some (.int 8 tk_MOST_LETTERS)))
    (g_LETTERS : PySem.W.nsIn K mainGlobals "LETTERS" = some (some (.str LETTERS tk_LETTERS)))
    (z_all : PySem.W.nsIn K mainGlobals "all" = some none)
    (a_are_unlike : PySem.W.nsIn K mainGlobals "are_unlike" = some (some (.ref f_are_unlike)))
    (l_are_unlike : K.lookup f_are_unlike = some ⟨oc_are_unlike, od_are_unlike, .func (PySem.W.fnOf "are_unlike" "are_unlike" (defArgs st_are_unlike) (defBody st_are_unlike) (defScope st_are_unlike) .none kV_are_unlike dc_are_unlike pm_are_unlike an_are_unlike cd_are_unlike ct_are_unlike), sl_are_unlike⟩)
    (c_are_unlike : PySem.W.codeIn K cd_are_unlike "are_unlike" = true)
    (k_are_unlike : PySem.W.keepIn K (.ref f_are_unlike) = true)
    (a_are_names : PySem.W.nsIn K mainGlobals "are_names" = some (some (.ref f_are_names)))
    (l_are_names : K.lookup f_are_names = some ⟨oc_are_names, od_are_names, .func (PySem.W.fnOf "are_names" "are_names" (defArgs st_are_names) (defBody st_are_names) (defScope st_are_names) .none kV_are_names dc_are_names pm_are_names an_are_names cd_are_names ct_are_names), sl_are_names⟩)
    (c_are_names : PySem.W.codeIn K cd_are_names "are_names" = true)
    (k_are_names : PySem.W.keepIn K (.ref f_are_names) = true)
    (a_ascends : PySem.W.nsIn K mainGlobals "ascends" = some (some (.ref f_ascends)))
    (l_ascends : K.lookup f_ascends = some ⟨oc_ascends, od_ascends, .func (PySem.W.fnOf "ascends" "ascends" (defArgs st_ascends) (defBody st_ascends) (defScope st_ascends) .none kV_ascends dc_ascends pm_ascends an_ascends cd_ascends ct_ascends), sl_ascends⟩)
    (c_ascends : PySem.W.codeIn K cd_ascends "ascends" = true)
    (k_ascends : PySem.W.keepIn K (.ref f_ascends) = true)
    (z_range : PySem.W.nsIn K mainGlobals "range" = some none)
    (a_is_ratio : PySem.W.nsIn K mainGlobals "is_ratio" = some (some (.ref f_is_ratio)))
    (l_is_ratio : K.lookup f_is_ratio = some ⟨oc_is_ratio, od_is_ratio, .func (PySem.W.fnOf "is_ratio" "is_ratio" (defArgs st_is_ratio) (defBody st_is_ratio) (defScope st_is_ratio) .none kV_is_ratio dc_is_ratio pm_is_ratio an_is_ratio cd_is_ratio ct_is_ratio), sl_is_ratio⟩)
    (c_is_ratio : PySem.W.codeIn K cd_is_ratio "is_ratio" = true)
    (k_is_ratio : PySem.W.keepIn K (.ref f_is_ratio) = true)
    (a_less : PySem.W.nsIn K mainGlobals "less" = some (some (.ref f_less)))
    (l_less : K.lookup f_less = some ⟨oc_less, od_less, .func (PySem.W.fnOf "less" "less" (defArgs st_less) (defBody st_less) (defScope st_less) .none kV_less dc_less pm_less an_less cd_less ct_less), sl_less⟩)
    (c_less : PySem.W.codeIn K cd_less "less" = true)
    (k_less : PySem.W.keepIn K (.ref f_less) = true)
    (a_total : PySem.W.nsIn K mainGlobals "total" = some (some (.ref f_total)))
    (l_total : K.lookup f_total = some ⟨oc_total, od_total, .func (PySem.W.fnOf "total" "total" (defArgs st_total) (defBody st_total) (defScope st_total) .none kV_total dc_total pm_total an_total cd_total ct_total), sl_total⟩)
    (c_total : PySem.W.codeIn K cd_total "total" = true)
    (k_total : PySem.W.keepIn K (.ref f_total) = true)
    (a_fixed : PySem.W.nsIn K mainGlobals "fixed" = some (some (.ref f_fixed)))
    (l_fixed : K.lookup f_fixed = some ⟨oc_fixed, od_fixed, .func (PySem.W.fnOf "fixed" "fixed" (defArgs st_fixed) (defBody st_fixed) (defScope st_fixed) .none kV_fixed dc_fixed pm_fixed an_fixed cd_fixed ct_fixed), sl_fixed⟩)
    (c_fixed : PySem.W.codeIn K cd_fixed "fixed" = true)
    (k_fixed : PySem.W.keepIn K (.ref f_fixed) = true)
    (a_is_pair : PySem.W.nsIn K mainGlobals "is_pair" = some (some (.ref f_is_pair)))
    (l_is_pair : K.lookup f_is_pair = some ⟨oc_is_pair, od_is_pair, .func (PySem.W.fnOf "is_pair" "is_pair" (defArgs st_is_pair) (defBody st_is_pair) (defScope st_is_pair) .none kV_is_pair dc_is_pair pm_is_pair an_is_pair cd_is_pair ct_is_pair), sl_is_pair⟩)
    (c_is_pair : PySem.W.codeIn K cd_is_pair "is_pair" = true)
    (k_is_pair : PySem.W.keepIn K (.ref f_is_pair) = true)
    (a_is_act : PySem.W.nsIn K mainGlobals "is_act" = some (some (.ref f_is_act)))
    (l_is_act : K.lookup f_is_act = some ⟨oc_is_act, od_is_act, .func (PySem.W.fnOf "is_act" "is_act" (defArgs st_is_act) (defBody st_is_act) (defScope st_is_act) .none kV_is_act dc_is_act pm_is_act an_is_act cd_is_act ct_is_act), sl_is_act⟩)
    (c_is_act : PySem.W.codeIn K cd_is_act "is_act" = true)
    (k_is_act : PySem.W.keepIn K (.ref f_is_act) = true)
    (a_are_acts : PySem.W.nsIn K mainGlobals "are_acts" = some (some (.ref f_are_acts)))
    (l_are_acts : K.lookup f_are_acts = some ⟨oc_are_acts, od_are_acts, .func (PySem.W.fnOf "are_acts" "are_acts" (defArgs st_are_acts) (defBody st_are_acts) (defScope st_are_acts) .none kV_are_acts dc_are_acts pm_are_acts an_are_acts cd_are_acts ct_are_acts), sl_are_acts⟩)
    (c_are_acts : PySem.W.codeIn K cd_are_acts "are_acts" = true)
    (k_are_acts : PySem.W.keepIn K (.ref f_are_acts) = true)
    (g_MOST_ACTS : PySem.W.nsIn K mainGlobals "MOST_ACTS" = some (some (.int 4 tk_MOST_ACTS)))
    (a_are_odds : PySem.W.nsIn K mainGlobals "are_odds" = some (some (.ref f_are_odds)))
    (l_are_odds : K.lookup f_are_odds = some ⟨oc_are_odds, od_are_odds, .func (PySem.W.fnOf "are_odds" "are_odds" (defArgs st_are_odds) (defBody st_are_odds) (defScope st_are_odds) .none kV_are_odds dc_are_odds pm_are_odds an_are_odds cd_are_odds ct_are_odds), sl_are_odds⟩)
    (c_are_odds : PySem.W.codeIn K cd_are_odds "are_odds" = true)
    (k_are_odds : PySem.W.keepIn K (.ref f_are_odds) = true)
    (z_any : PySem.W.nsIn K mainGlobals "any" = some none)
    (a_is_outcome : PySem.W.nsIn K mainGlobals "is_outcome" = some (some (.ref f_is_outcome)))
    (l_is_outcome : K.lookup f_is_outcome = some ⟨oc_is_outcome, od_is_outcome, .func (PySem.W.fnOf "is_outcome" "is_outcome" (defArgs st_is_outcome) (defBody st_is_outcome) (defScope st_is_outcome) .none kV_is_outcome dc_is_outcome pm_is_outcome an_is_outcome cd_is_outcome ct_is_outcome), sl_is_outcome⟩)
    (c_is_outcome : PySem.W.codeIn K cd_is_outcome "is_outcome" = true)
    (k_is_outcome : PySem.W.keepIn K (.ref f_is_outcome) = true)
    (a_are_outcomes : PySem.W.nsIn K mainGlobals "are_outcomes" = some (some (.ref f_are_outcomes)))
    (l_are_outcomes : K.lookup f_are_outcomes = some ⟨oc_are_outcomes, od_are_outcomes, .func (PySem.W.fnOf "are_outcomes" "are_outcomes" (defArgs st_are_outcomes) (defBody st_are_outcomes) (defScope st_are_outcomes) .none kV_are_outcomes dc_are_outcomes pm_are_outcomes an_are_outcomes cd_are_outcomes ct_are_outcomes), sl_are_outcomes⟩)
    (c_are_outcomes : PySem.W.codeIn K cd_are_outcomes "are_outcomes" = true)
    (k_are_outcomes : PySem.W.keepIn K (.ref f_are_outcomes) = true)
    (g_MOST_OUTCOMES : PySem.W.nsIn K mainGlobals "MOST_OUTCOMES" = some (some (.int 6 tk_MOST_OUTCOMES)))
    (a_is_row : PySem.W.nsIn K mainGlobals "is_row" = some (some (.ref f_is_row)))
    (l_is_row : K.lookup f_is_row = some ⟨oc_is_row, od_is_row, .func (PySem.W.fnOf "is_row" "is_row" (defArgs st_is_row) (defBody st_is_row) (defScope st_is_row) .none kV_is_row dc_is_row pm_is_row an_is_row cd_is_row ct_is_row), sl_is_row⟩)
    (c_is_row : PySem.W.codeIn K cd_is_row "is_row" = true)
    (k_is_row : PySem.W.keepIn K (.ref f_is_row) = true)
    (g_END : PySem.W.nsIn K mainGlobals "END" = some (some (.str "end" tk_END)))
    (g_LUCK : PySem.W.nsIn K mainGlobals "LUCK" = some (some (.str "luck" tk_LUCK)))
    (g_MINE : PySem.W.nsIn K mainGlobals "MINE" = some (some (.str "mine" tk_MINE)))
    (g_FOE : PySem.W.nsIn K mainGlobals "FOE" = some (some (.str "foe" tk_FOE)))
    (a_are_states : PySem.W.nsIn K mainGlobals "are_states" = some (some (.ref f_are_states)))
    (l_are_states : K.lookup f_are_states = some ⟨oc_are_states, od_are_states, .func (PySem.W.fnOf "are_states" "are_states" (defArgs st_are_states) (defBody st_are_states) (defScope st_are_states) .none kV_are_states dc_are_states pm_are_states an_are_states cd_are_states ct_are_states), sl_are_states⟩)
    (c_are_states : PySem.W.codeIn K cd_are_states "are_states" = true)
    (k_are_states : PySem.W.keepIn K (.ref f_are_states) = true)
    (a_are_marks : PySem.W.nsIn K mainGlobals "are_marks" = some (some (.ref f_are_marks)))
    (l_are_marks : K.lookup f_are_marks = some ⟨oc_are_marks, od_are_marks, .func (PySem.W.fnOf "are_marks" "are_marks" (defArgs st_are_marks) (defBody st_are_marks) (defScope st_are_marks) .none kV_are_marks dc_are_marks pm_are_marks an_are_marks cd_are_marks ct_are_marks), sl_are_marks⟩)
    (c_are_marks : PySem.W.codeIn K cd_are_marks "are_marks" = true)
    (k_are_marks : PySem.W.keepIn K (.ref f_are_marks) = true)
    (g_MOST_MARKS : PySem.W.nsIn K mainGlobals "MOST_MARKS" = some (some (.int 6 tk_MOST_MARKS)))
    (a_yi : PySem.W.findIn K (.ref C) "__init__" = some (some (.ref f_yi)))
    (i_yi : PySem.W.isFn K (.ref f_yi) = true)
    (l_yi : K.lookup f_yi = some ⟨oc_yi, od_yi, .func (PySem.W.fnOf "__init__" "Yard.__init__" (defArgs st_init) (defBody st_init) (defScope st_init) (.ref yiT) kV_yi dc_yi pm_yi an_yi cd_yi ct_yi), sl_yi⟩)
    (c_yi : PySem.W.codeIn K cd_yi "Yard.__init__" = true)
    (k_yi : PySem.W.keepIn K (.ref f_yi) = true)
    (t_yi : K.lookup yiT = some ⟨.type "tuple", yiTo, .seq #[.ref yiE, .none] yiTn, yiTs⟩)
    (e_yi : K.lookup yiE = some ⟨.type "tuple", yiEo, .seq #[] yiEn, yiEs⟩)
    (z_sorted : PySem.W.nsIn K mainGlobals "sorted" = some none)
    (g_MOST_WORLDS : PySem.W.nsIn K mainGlobals "MOST_WORLDS" = some (some (.int 4 tk_MOST_WORLDS)))
    (g_MOST_STATES : PySem.W.nsIn K mainGlobals "MOST_STATES" = some (some (.int 400 tk_MOST_STATES)))
    (a_kind : PySem.W.findIn K (.ref C) "kind" = some (some (.ref f_kind)))
    (i_kind : PySem.W.isFn K (.ref f_kind) = true)
    (l_kind : K.lookup f_kind = some ⟨oc_kind, od_kind, .func (PySem.W.fnOf "kind" "Yard.kind" (defArgs st_kind) (defBody st_kind) (defScope st_kind) .none kV_kind dc_kind pm_kind an_kind cd_kind ct_kind), sl_kind⟩)
    (c_kind : PySem.W.codeIn K cd_kind "Yard.kind" = true)
    (k_kind : PySem.W.keepIn K (.ref f_kind) = true)
    (a_acts : PySem.W.findIn K (.ref C) "acts" = some (some (.ref f_acts)))
    (i_acts : PySem.W.isFn K (.ref f_acts) = true)
    (l_acts : K.lookup f_acts = some ⟨oc_acts, od_acts, .func (PySem.W.fnOf "acts" "Yard.acts" (defArgs st_acts) (defBody st_acts) (defScope st_acts) .none kV_acts dc_acts pm_acts an_acts cd_acts ct_acts), sl_acts⟩)
    (c_acts : PySem.W.codeIn K cd_acts "Yard.acts" = true)
    (k_acts : PySem.W.keepIn K (.ref f_acts) = true)
    (a_outcomes : PySem.W.findIn K (.ref C) "outcomes" = some (some (.ref f_outcomes)))
    (i_outcomes : PySem.W.isFn K (.ref f_outcomes) = true)
    (l_outcomes : K.lookup f_outcomes = some ⟨oc_outcomes, od_outcomes, .func (PySem.W.fnOf "outcomes" "Yard.outcomes" (defArgs st_outcomes) (defBody st_outcomes) (defScope st_outcomes) .none kV_outcomes dc_outcomes pm_outcomes an_outcomes cd_outcomes ct_outcomes), sl_outcomes⟩)
    (c_outcomes : PySem.W.codeIn K cd_outcomes "Yard.outcomes" = true)
    (k_outcomes : PySem.W.keepIn K (.ref f_outcomes) = true)
    (a_need_yard : PySem.W.nsIn K mainGlobals "need_yard" = some (some (.ref f_need_yard)))
    (l_need_yard : K.lookup f_need_yard = some ⟨oc_need_yard, od_need_yard, .func (PySem.W.fnOf "need_yard" "need_yard" (defArgs st_need_yard) (defBody st_need_yard) (defScope st_need_yard) .none kV_need_yard dc_need_yard pm_need_yard an_need_yard cd_need_yard ct_need_yard), sl_need_yard⟩)
    (c_need_yard : PySem.W.codeIn K cd_need_yard "need_yard" = true)
    (k_need_yard : PySem.W.keepIn K (.ref f_need_yard) = true)
    (a_need_state : PySem.W.nsIn K mainGlobals "need_state" = some (some (.ref f_need_state)))
    (l_need_state : K.lookup f_need_state = some ⟨oc_need_state, od_need_state, .func (PySem.W.fnOf "need_state" "need_state" (defArgs st_need_state) (defBody st_need_state) (defScope st_need_state) .none kV_need_state dc_need_state pm_need_state an_need_state cd_need_state ct_need_state), sl_need_state⟩)
    (c_need_state : PySem.W.codeIn K cd_need_state "need_state" = true)
    (k_need_state : PySem.W.keepIn K (.ref f_need_state) = true)
    (a_has_kind : PySem.W.nsIn K mainGlobals "has_kind" = some (some (.ref f_has_kind)))
    (l_has_kind : K.lookup f_has_kind = some ⟨oc_has_kind, od_has_kind, .func (PySem.W.fnOf "has_kind" "has_kind" (defArgs st_has_kind) (defBody st_has_kind) (defScope st_has_kind) .none kV_has_kind dc_has_kind pm_has_kind an_has_kind cd_has_kind ct_has_kind), sl_has_kind⟩)
    (c_has_kind : PySem.W.codeIn K cd_has_kind "has_kind" = true)
    (k_has_kind : PySem.W.keepIn K (.ref f_has_kind) = true)
    (a_is_knowledge : PySem.W.nsIn K mainGlobals "is_knowledge" = some (some (.ref f_is_knowledge)))
    (l_is_knowledge : K.lookup f_is_knowledge = some ⟨oc_is_knowledge, od_is_knowledge, .func (PySem.W.fnOf "is_knowledge" "is_knowledge" (defArgs st_is_knowledge) (defBody st_is_knowledge) (defScope st_is_knowledge) .none kV_is_knowledge dc_is_knowledge pm_is_knowledge an_is_knowledge cd_is_knowledge ct_is_knowledge), sl_is_knowledge⟩)
    (c_is_knowledge : PySem.W.codeIn K cd_is_knowledge "is_knowledge" = true)
    (k_is_knowledge : PySem.W.keepIn K (.ref f_is_knowledge) = true)
    (a_known : PySem.W.nsIn K mainGlobals "known" = some (some (.ref f_known)))
    (l_known : K.lookup f_known = some ⟨oc_known, od_known, .func (PySem.W.fnOf "known" "known" (defArgs st_known) (defBody st_known) (defScope st_known) .none kV_known dc_known pm_known an_known cd_known ct_known), sl_known⟩)
    (c_known : PySem.W.codeIn K cd_known "known" = true)
    (k_known : PySem.W.keepIn K (.ref f_known) = true)
    (a_behind : PySem.W.nsIn K mainGlobals "behind" = some (some (.ref f_behind)))
    (l_behind : K.lookup f_behind = some ⟨oc_behind, od_behind, .func (PySem.W.fnOf "behind" "behind" (defArgs st_behind) (defBody st_behind) (defScope st_behind) .none kV_behind dc_behind pm_behind an_behind cd_behind ct_behind), sl_behind⟩)
    (c_behind : PySem.W.codeIn K cd_behind "behind" = true)
    (k_behind : PySem.W.keepIn K (.ref f_behind) = true)
    (z_enumerate : PySem.W.nsIn K mainGlobals "enumerate" = some none)
    (a_odds_of : PySem.W.nsIn K mainGlobals "odds_of" = some (some (.ref f_odds_of)))
    (l_odds_of : K.lookup f_odds_of = some ⟨oc_odds_of, od_odds_of, .func (PySem.W.fnOf "odds_of" "odds_of" (defArgs st_odds_of) (defBody st_odds_of) (defScope st_odds_of) .none kV_odds_of dc_odds_of pm_odds_of an_odds_of cd_odds_of ct_odds_of), sl_odds_of⟩)
    (c_odds_of : PySem.W.codeIn K cd_odds_of "odds_of" = true)
    (k_odds_of : PySem.W.keepIn K (.ref f_odds_of) = true)
    (a_kept_behind : PySem.W.nsIn K mainGlobals "kept_behind" = some (some (.ref f_kept_behind)))
    (l_kept_behind : K.lookup f_kept_behind = some ⟨oc_kept_behind, od_kept_behind, .func (PySem.W.fnOf "kept_behind" "kept_behind" (defArgs st_kept_behind) (defBody st_kept_behind) (defScope st_kept_behind) .none kV_kept_behind dc_kept_behind pm_kept_behind an_kept_behind cd_kept_behind ct_kept_behind), sl_kept_behind⟩)
    (c_kept_behind : PySem.W.codeIn K cd_kept_behind "kept_behind" = true)
    (k_kept_behind : PySem.W.keepIn K (.ref f_kept_behind) = true)
    (a_does_stay : PySem.W.nsIn K mainGlobals "does_stay" = some (some (.ref f_does_stay)))
    (l_does_stay : K.lookup f_does_stay = some ⟨oc_does_stay, od_does_stay, .func (PySem.W.fnOf "does_stay" "does_stay" (defArgs st_does_stay) (defBody st_does_stay) (defScope st_does_stay) .none kV_does_stay dc_does_stay pm_does_stay an_does_stay cd_does_stay ct_does_stay), sl_does_stay⟩)
    (c_does_stay : PySem.W.codeIn K cd_does_stay "does_stay" = true)
    (k_does_stay : PySem.W.keepIn K (.ref f_does_stay) = true)
    (a_closed_lot : PySem.W.nsIn K mainGlobals "closed_lot" = some (some (.ref f_closed_lot)))
    (l_closed_lot : K.lookup f_closed_lot = some ⟨oc_closed_lot, od_closed_lot, .func (PySem.W.fnOf "closed_lot" "closed_lot" (defArgs st_closed_lot) (defBody st_closed_lot) (defScope st_closed_lot) .none kV_closed_lot dc_closed_lot pm_closed_lot an_closed_lot cd_closed_lot ct_closed_lot), sl_closed_lot⟩)
    (c_closed_lot : PySem.W.codeIn K cd_closed_lot "closed_lot" = true)
    (k_closed_lot : PySem.W.keepIn K (.ref f_closed_lot) = true)
    (a_ranks_to : PySem.W.nsIn K mainGlobals "ranks_to" = some (some (.ref f_ranks_to)))
    (l_ranks_to : K.lookup f_ranks_to = some ⟨oc_ranks_to, od_ranks_to, .func (PySem.W.fnOf "ranks_to" "ranks_to" (defArgs st_ranks_to) (defBody st_ranks_to) (defScope st_ranks_to) .none kV_ranks_to dc_ranks_to pm_ranks_to an_ranks_to cd_ranks_to ct_ranks_to), sl_ranks_to⟩)
    (c_ranks_to : PySem.W.codeIn K cd_ranks_to "ranks_to" = true)
    (k_ranks_to : PySem.W.keepIn K (.ref f_ranks_to) = true)
    (a_come_to : PySem.W.nsIn K mainGlobals "come_to" = some (some (.ref f_come_to)))
    (l_come_to : K.lookup f_come_to = some ⟨oc_come_to, od_come_to, .func (PySem.W.fnOf "come_to" "come_to" (defArgs st_come_to) (defBody st_come_to) (defScope st_come_to) .none kV_come_to dc_come_to pm_come_to an_come_to cd_come_to ct_come_to), sl_come_to⟩)
    (c_come_to : PySem.W.codeIn K cd_come_to "come_to" = true)
    (k_come_to : PySem.W.keepIn K (.ref f_come_to) = true)
    (a_stay_in : PySem.W.nsIn K mainGlobals "stay_in" = some (some (.ref f_stay_in)))
    (l_stay_in : K.lookup f_stay_in = some ⟨oc_stay_in, od_stay_in, .func (PySem.W.fnOf "stay_in" "stay_in" (defArgs st_stay_in) (defBody st_stay_in) (defScope st_stay_in) .none kV_stay_in dc_stay_in pm_stay_in an_stay_in cd_stay_in ct_stay_in), sl_stay_in⟩)
    (c_stay_in : PySem.W.codeIn K cd_stay_in "stay_in" = true)
    (k_stay_in : PySem.W.keepIn K (.ref f_stay_in) = true)
    (a_need_luck : PySem.W.nsIn K mainGlobals "need_luck" = some (some (.ref f_need_luck)))
    (l_need_luck : K.lookup f_need_luck = some ⟨oc_need_luck, od_need_luck, .func (PySem.W.fnOf "need_luck" "need_luck" (defArgs st_need_luck) (defBody st_need_luck) (defScope st_need_luck) .none kV_need_luck dc_need_luck pm_need_luck an_need_luck cd_need_luck ct_need_luck), sl_need_luck⟩)
    (c_need_luck : PySem.W.codeIn K cd_need_luck "need_luck" = true)
    (k_need_luck : PySem.W.keepIn K (.ref f_need_luck) = true)
    (a_stay : PySem.W.nsIn K mainGlobals "stay" = some (some (.ref f_stay)))
    (l_stay : K.lookup f_stay = some ⟨oc_stay, od_stay, .func (PySem.W.fnOf "stay" "stay" (defArgs st_stay) (defBody st_stay) (defScope st_stay) .none kV_stay dc_stay pm_stay an_stay cd_stay ct_stay), sl_stay⟩)
    (c_stay : PySem.W.codeIn K cd_stay "stay" = true)
    (k_stay : PySem.W.keepIn K (.ref f_stay) = true)
    (a_classes_in : PySem.W.nsIn K mainGlobals "classes_in" = some (some (.ref f_classes_in)))
    (l_classes_in : K.lookup f_classes_in = some ⟨oc_classes_in, od_classes_in, .func (PySem.W.fnOf "classes_in" "classes_in" (defArgs st_classes_in) (defBody st_classes_in) (defScope st_classes_in) .none kV_classes_in dc_classes_in pm_classes_in an_classes_in cd_classes_in ct_classes_in), sl_classes_in⟩)
    (c_classes_in : PySem.W.codeIn K cd_classes_in "classes_in" = true)
    (k_classes_in : PySem.W.keepIn K (.ref f_classes_in) = true)
    (a_classes : PySem.W.nsIn K mainGlobals "classes" = some (some (.ref f_classes)))
    (l_classes : K.lookup f_classes = some ⟨oc_classes, od_classes, .func (PySem.W.fnOf "classes" "classes" (defArgs st_classes) (defBody st_classes) (defScope st_classes) .none kV_classes dc_classes pm_classes an_classes cd_classes ct_classes), sl_classes⟩)
    (c_classes : PySem.W.codeIn K cd_classes "classes" = true)
    (k_classes : PySem.W.keepIn K (.ref f_classes) = true)
    (a__law_draw : PySem.W.nsIn K mainGlobals "_law_draw" = some (some (.ref f__law_draw)))
    (l__law_draw : K.lookup f__law_draw = some ⟨oc__law_draw, od__law_draw, .func (PySem.W.fnOf "_law_draw" "_law_draw" (defArgs st_draw) (defBody st_draw) (defScope st_draw) .none kV__law_draw dc__law_draw pm__law_draw an__law_draw cd__law_draw ct__law_draw), sl__law_draw⟩)
    (c__law_draw : PySem.W.codeIn K cd__law_draw "_law_draw" = true)
    (k__law_draw : PySem.W.keepIn K (.ref f__law_draw) = true)
    (z_abs : PySem.W.nsIn K mainGlobals "abs" = some none)
    (a__law_pick : PySem.W.nsIn K mainGlobals "_law_pick" = some (some (.ref f__law_pick)))
    (l__law_pick : K.lookup f__law_pick = some ⟨oc__law_pick, od__law_pick, .func (PySem.W.fnOf "_law_pick" "_law_pick" (defArgs st_pick) (defBody st_pick) (defScope st_pick) .none kV__law_pick dc__law_pick pm__law_pick an__law_pick cd__law_pick ct__law_pick), sl__law_pick⟩)
    (c__law_pick : PySem.W.codeIn K cd__law_pick "_law_pick" = true)
    (k__law_pick : PySem.W.keepIn K (.ref f__law_pick) = true)
    (a__law_mixed : PySem.W.nsIn K mainGlobals "_law_mixed" = some (some (.ref f__law_mixed)))
    (l__law_mixed : K.lookup f__law_mixed = some ⟨oc__law_mixed, od__law_mixed, .func (PySem.W.fnOf "_law_mixed" "_law_mixed" (defArgs st_mixed) (defBody st_mixed) (defScope st_mixed) .none kV__law_mixed dc__law_mixed pm__law_mixed an__law_mixed cd__law_mixed ct__law_mixed), sl__law_mixed⟩)
    (c__law_mixed : PySem.W.codeIn K cd__law_mixed "_law_mixed" = true)
    (k__law_mixed : PySem.W.keepIn K (.ref f__law_mixed) = true)
    (a__law_spread : PySem.W.nsIn K mainGlobals "_law_spread" = some (some (.ref f__law_spread)))
    (l__law_spread : K.lookup f__law_spread = some ⟨oc__law_spread, od__law_spread, .func (PySem.W.fnOf "_law_spread" "_law_spread" (defArgs st_spread) (defBody st_spread) (defScope st_spread) .none kV__law_spread dc__law_spread pm__law_spread an__law_spread cd__law_spread ct__law_spread), sl__law_spread⟩)
    (c__law_spread : PySem.W.codeIn K cd__law_spread "_law_spread" = true)
    (k__law_spread : PySem.W.keepIn K (.ref f__law_spread) = true)
    (a__law_known : PySem.W.nsIn K mainGlobals "_law_known" = some (some (.ref f__law_known)))
    (l__law_known : K.lookup f__law_known = some ⟨oc__law_known, od__law_known, .func (PySem.W.fnOf "_law_known" "_law_known" (defArgs st_lknown) (defBody st_lknown) (defScope st_lknown) .none kV__law_known dc__law_known pm__law_known an__law_known cd__law_known ct__law_known), sl__law_known⟩)
    (c__law_known : PySem.W.codeIn K cd__law_known "_law_known" = true)
    (k__law_known : PySem.W.keepIn K (.ref f__law_known) = true)
    (a__law_behind : PySem.W.nsIn K mainGlobals "_law_behind" = some (some (.ref f__law_behind)))
    (l__law_behind : K.lookup f__law_behind = some ⟨oc__law_behind, od__law_behind, .func (PySem.W.fnOf "_law_behind" "_law_behind" (defArgs st_lbehind) (defBody st_lbehind) (defScope st_lbehind) .none kV__law_behind dc__law_behind pm__law_behind an__law_behind cd__law_behind ct__law_behind), sl__law_behind⟩)
    (c__law_behind : PySem.W.codeIn K cd__law_behind "_law_behind" = true)
    (k__law_behind : PySem.W.keepIn K (.ref f__law_behind) = true)
    (a__law_yard : PySem.W.nsIn K mainGlobals "_law_yard" = some (some (.ref f__law_yard)))
    (l__law_yard : K.lookup f__law_yard = some ⟨oc__law_yard, od__law_yard, .func (PySem.W.fnOf "_law_yard" "_law_yard" (defArgs st_lyard) (defBody st_lyard) (defScope st_lyard) .none kV__law_yard dc__law_yard pm__law_yard an__law_yard cd__law_yard ct__law_yard), sl__law_yard⟩)
    (c__law_yard : PySem.W.codeIn K cd__law_yard "_law_yard" = true)
    (k__law_yard : PySem.W.keepIn K (.ref f__law_yard) = true)
    (a__law_is_count : PySem.W.nsIn K mainGlobals "_law_is_count" = some (some (.ref f__law_is_count)))
    (l__law_is_count : K.lookup f__law_is_count = some ⟨oc__law_is_count, od__law_is_count, .func (PySem.W.fnOf "_law_is_count" "_law_is_count" (defArgs st_count) (defBody st_count) (defScope st_count) .none kV__law_is_count dc__law_is_count pm__law_is_count an__law_is_count cd__law_is_count ct__law_is_count), sl__law_is_count⟩)
    (c__law_is_count : PySem.W.codeIn K cd__law_is_count "_law_is_count" = true)
    (k__law_is_count : PySem.W.keepIn K (.ref f__law_is_count) = true)
    (a__law_target : PySem.W.nsIn K mainGlobals "_law_target" = some (some (.ref f__law_target)))
    (l__law_target : K.lookup f__law_target = some ⟨oc__law_target, od__law_target, .func (PySem.W.fnOf "_law_target" "_law_target" (defArgs st_target) (defBody st_target) (defScope st_target) .none kV__law_target dc__law_target pm__law_target an__law_target cd__law_target ct__law_target), sl__law_target⟩)
    (c__law_target : PySem.W.codeIn K cd__law_target "_law_target" = true)
    (k__law_target : PySem.W.keepIn K (.ref f__law_target) = true)
    (a__law_are_rows : PySem.W.nsIn K mainGlobals "_law_are_rows" = some (some (.ref f__law_are_rows)))
    (l__law_are_rows : K.lookup f__law_are_rows = some ⟨oc__law_are_rows, od__law_are_rows, .func (PySem.W.fnOf "_law_are_rows" "_law_are_rows" (defArgs st_rows3) (defBody st_rows3) (defScope st_rows3) .none kV__law_are_rows dc__law_are_rows pm__law_are_rows an__law_are_rows cd__law_are_rows ct__law_are_rows), sl__law_are_rows⟩)
    (c__law_are_rows : PySem.W.codeIn K cd__law_are_rows "_law_are_rows" = true)
    (k__law_are_rows : PySem.W.keepIn K (.ref f__law_are_rows) = true)
    (a__law_classes : PySem.W.nsIn K mainGlobals "_law_classes" = some (some (.ref f__law_classes)))
    (l__law_classes : K.lookup f__law_classes = some ⟨oc__law_classes, od__law_classes, .func (PySem.W.fnOf "_law_classes" "_law_classes" (defArgs st_lclasses) (defBody st_lclasses) (defScope st_lclasses) .none kV__law_classes dc__law_classes pm__law_classes an__law_classes cd__law_classes ct__law_classes), sl__law_classes⟩)
    (c__law_classes : PySem.W.codeIn K cd__law_classes "_law_classes" = true)
    (k__law_classes : PySem.W.keepIn K (.ref f__law_classes) = true)
    (a__law_stays : PySem.W.nsIn K mainGlobals "_law_stays" = some (some (.ref f__law_stays)))
    (l__law_stays : K.lookup f__law_stays = some ⟨oc__law_stays, od__law_stays, .func (PySem.W.fnOf "_law_stays" "_law_stays" (defArgs st_lstays) (defBody st_lstays) (defScope st_lstays) .none kV__law_stays dc__law_stays pm__law_stays an__law_stays cd__law_stays ct__law_stays), sl__law_stays⟩)
    (c__law_stays : PySem.W.codeIn K cd__law_stays "_law_stays" = true)
    (k__law_stays : PySem.W.keepIn K (.ref f__law_stays) = true)
    (z_dict : PySem.W.nsIn K mainGlobals "dict" = some none)
    (a__law_stay_right : PySem.W.nsIn K mainGlobals "_law_stay_right" = some (some (.ref f__law_stay_right)))
    (l__law_stay_right : K.lookup f__law_stay_right = some ⟨oc__law_stay_right, od__law_stay_right, .func (PySem.W.fnOf "_law_stay_right" "_law_stay_right" (defArgs st_lright) (defBody st_lright) (defScope st_lright) .none kV__law_stay_right dc__law_stay_right pm__law_stay_right an__law_stay_right cd__law_stay_right ct__law_stay_right), sl__law_stay_right⟩)
    (c__law_stay_right : PySem.W.codeIn K cd__law_stay_right "_law_stay_right" = true)
    (k__law_stay_right : PySem.W.keepIn K (.ref f__law_stay_right) = true)
    (a__law_right : PySem.W.nsIn K mainGlobals "_law_right" = some (some (.ref f__law_right)))
    (l__law_right : K.lookup f__law_right = some ⟨oc__law_right, od__law_right, .func (PySem.W.fnOf "_law_right" "_law_right" (defArgs st_right) (defBody st_right) (defScope st_right) .none kV__law_right dc__law_right pm__law_right an__law_right cd__law_right ct__law_right), sl__law_right⟩)
    (c__law_right : PySem.W.codeIn K cd__law_right "_law_right" = true)
    (k__law_right : PySem.W.keepIn K (.ref f__law_right) = true)
    (z_repr : PySem.W.nsIn K mainGlobals "repr" = some none)
    (z_set : PySem.W.nsIn K mainGlobals "set" = some none)
    (a__law_pen : PySem.W.nsIn K mainGlobals "_law_pen" = some (some (.ref f__law_pen)))
    (l__law_pen : K.lookup f__law_pen = some ⟨oc__law_pen, od__law_pen, .func (PySem.W.fnOf "_law_pen" "_law_pen" (defArgs st_lpen) (defBody st_lpen) (defScope st_lpen) .none kV__law_pen dc__law_pen pm__law_pen an__law_pen cd__law_pen ct__law_pen), sl__law_pen⟩)
    (c__law_pen : PySem.W.codeIn K cd__law_pen "_law_pen" = true)
    (k__law_pen : PySem.W.keepIn K (.ref f__law_pen) = true)
    (a_law_heard : PySem.W.nsIn K mainGlobals "_law_heard" = some (some (.ref f_law_heard)))
    (l_law_heard : K.lookup f_law_heard = some ⟨oc_law_heard, od_law_heard, .func (PySem.W.fnOf "_law_heard" "_law_heard" (defArgs st_heard) (defBody st_heard) (defScope st_heard) .none kV_law_heard dc_law_heard pm_law_heard an_law_heard cd_law_heard ct_law_heard), sl_law_heard⟩)
    (c_law_heard : PySem.W.codeIn K cd_law_heard "_law_heard" = true)
    (k_law_heard : PySem.W.keepIn K (.ref f_law_heard) = true)
    (a_law : PySem.W.nsIn K mainGlobals "law" = some (some (.ref f_law)))
    (l_law : K.lookup f_law = some ⟨oc_law, od_law, .func (PySem.W.fnOf "law" "law" (defArgs st_law) (defBody st_law) (defScope st_law) .none kV_law dc_law pm_law an_law (.ref c0) ct_law), sl_law⟩)
    (c_law : PySem.W.codeIn K (.ref c0) "law" = true)
    (lc_law : K.lookup c0 = some ⟨lc_e, lc_dd, .fields lc_us, lc_sl⟩)
    (p_law : lc_us[11]? = some (.ref P0))
    (n_law : K.lookup P0 = none)
    (h_law : PySem.W.codeHdIn K c0 P0 = true)
    : LawGT prog w K mg fa 12 63 "script" := by
  have e := hfa.symm.trans (PySem.W.mg_of X G a_law)
  cases e
  refine ⟨_, c0, P0, _, _, _, _, _, spLaw K P0, l_law, rfl, rfl, lc_law, p_law, n_law, h_law, fun s v => .of_eq rfl, fun base bk bg tb => ?_, fun H a ns hl ht hs => ⟨a, ns, rfl, hs, ht, fun _ => rfl⟩⟩
  have yc : YC K C := ⟨⟨y_pg, y_hd, y_po, y_sa⟩, n_worlds, n_states, n_start, n_marks, n_pays⟩
  have gtZERO : GT K mg "ZERO" (rT K (0, 1)) := ⟨_, PySem.W.mg_of X G g_ZERO, fun H => ⟨_, [.int 0, .int 1], rfl, .inr ⟨_, _, _, l_ZERO, rfl, rfl, by rw [sizeLine_eq]; show 2 ≤ 16777216; omega, .cons ⟨_, rfl⟩ (.cons ⟨_, rfl⟩ .nil)⟩, .cons rfl (.cons rfl .nil)⟩⟩
  have gtONE : GT K mg "ONE" (rT K (1, 1)) := ⟨_, PySem.W.mg_of X G g_ONE, fun H => ⟨_, [.int 1, .int 1], rfl, .inr ⟨_, _, _, l_ONE, rfl, rfl, by rw [sizeLine_eq]; show 2 ≤ 16777216; omega, .cons ⟨_, rfl⟩ (.cons ⟨_, rfl⟩ .nil)⟩, .cons rfl (.cons rfl .nil)⟩⟩
  have pE : PErr prog K mg fE CP _ "PartError.__init__" "part" "self" "part" (defBody st_perr) := ⟨⟨_, _, _, _, _, _, _, _, _, _, _, _, _, _, _, _, _, _, _, _, _, _, _, _, rfl, l_fE, c_fE, by decide +kernel, rfl, rfl, cl_fE, vs_fE, fi_fE, cc_fE, by decide +kernel⟩, cD, st_fE, tp_fE, PySem.W.mg_none_of X G z_super⟩
  have fnE := fn_perr (w := w) (mg := mg) (base := base) (hpl := by decide) pE
  have oc_CY : OexC K CY := ⟨⟨_, _, _, _, _, _, _, _, _, _, _, _, _, _, _, l_CY, v_CY⟩, sa_CY, ex_CY, ty_CY, kc_CY⟩
  have x_CY : XCls prog w K mg base "BadYard" CY := ⟨⟨CP, fE, _, ⟨oc_CY, su_CY, nx_CY, ve_CY, np_CY⟩, in_CY, ty_fE, fnE, binds_perr⟩, PySem.W.mg_of X G a_CY⟩
  have ek_CY : ExcK K CY := ⟨⟨hg_CY, hk_CY, ex_CY, hd_CY, ha_CY, s_hn, s_ht, hm_CY⟩, hc_CY, np_CY⟩
  have oc_CS : OexC K CS := ⟨⟨_, _, _, _, _, _, _, _, _, _, _, _, _, _, _, l_CS, v_CS⟩, sa_CS, ex_CS, ty_CS, kc_CS⟩
  have x_CS : XCls prog w K mg base "BadState" CS := ⟨⟨CP, fE, _, ⟨oc_CS, su_CS, nx_CS, ve_CS, np_CS⟩, in_CS, ty_fE, fnE, binds_perr⟩, PySem.W.mg_of X G a_CS⟩
  have ek_CS : ExcK K CS := ⟨⟨hg_CS, hk_CS, ex_CS, hd_CS, ha_CS, s_hn, s_ht, hm_CS⟩, hc_CS, np_CS⟩
  have oc_CN : OexC K CN := ⟨⟨_, _, _, _, _, _, _, _, _, _, _, _, _, _, _, l_CN, v_CN⟩, sa_CN, ex_CN, ty_CN, kc_CN⟩
  have x_CN : XCls prog w K mg base "BadKnowledge" CN := ⟨⟨CP, fE, _, ⟨oc_CN, su_CN, nx_CN, ve_CN, np_CN⟩, in_CN, ty_fE, fnE, binds_perr⟩, PySem.W.mg_of X G a_CN⟩
  have ek_CN : ExcK K CN := ⟨⟨hg_CN, hk_CN, ex_CN, hd_CN, ha_CN, s_hn, s_ht, hm_CN⟩, hc_CN, np_CN⟩
  have oc_CM : OexC K CM := ⟨⟨_, _, _, _, _, _, _, _, _, _, _, _, _, _, _, l_CM, v_CM⟩, sa_CM, ex_CM, ty_CM, kc_CM⟩
  have x_CM : XCls prog w K mg base "Misfit" CM := ⟨⟨CP, fE, _, ⟨oc_CM, su_CM, nx_CM, ve_CM, np_CM⟩, in_CM, ty_fE, fnE, binds_perr⟩, PySem.W.mg_of X G a_CM⟩
  have ek_CM : ExcK K CM := ⟨⟨hg_CM, hk_CM, ex_CM, hd_CM, ha_CM, s_hn, s_ht, hm_CM⟩, hc_CM, np_CM⟩
  have F_is_integer := fun_mk (st := st_is_integer) l_is_integer c_is_integer k_is_integer
  have b_is_integer := F_is_integer.binds (ps := ["value"]) fun _ _ _ _ _ _ us hl => match us, hl with | [_], _ => rfl
  have K_is_integer := kn_is_integer (P := prog) (w := w) (mg := mg) (base := base) F_is_integer (PySem.W.mg_of X G a_is_integer) b_is_integer (PySem.W.mg_none_of X G z_isinstance) (PySem.W.mg_none_of X G z_int) (PySem.W.mg_none_of X G z_bool)
  have F_is_within := fun_mk (st := st_is_within) l_is_within c_is_within k_is_within
  have b_is_within := F_is_within.binds (ps := ["value", "low", "high"]) fun _ _ _ _ _ _ us hl => match us, hl with | [_, _, _], _ => rfl
  have K_is_within := kn_is_within (P := prog) (w := w) (mg := mg) (base := base) F_is_within (PySem.W.mg_of X G a_is_within) b_is_within K_is_integer
  have F_is_listed := fun_mk (st := st_is_listed) l_is_listed c_is_listed k_is_listed
  have b_is_listed := F_is_listed.binds (ps := ["value"]) fun _ _ _ _ _ _ us hl => match us, hl with | [_], _ => rfl
  have K_is_listed := kn_is_listed (P := prog) (w := w) (mg := mg) (base := base) F_is_listed (PySem.W.mg_of X G a_is_listed) b_is_listed (PySem.W.mg_none_of X G z_isinstance) (PySem.W.mg_none_of X G z_list) (PySem.W.mg_none_of X G z_tuple)
  have F_is_name := fun_mk (st := st_is_name) l_is_name c_is_name k_is_name
  have b_is_name := F_is_name.binds (ps := ["value"]) fun _ _ _ _ _ _ us hl => match us, hl with | [_], _ => rfl
  have K_is_name := kn_is_name (P := prog) (w := w) (mg := mg) (base := base) F_is_name (PySem.W.mg_of X G a_is_name) b_is_name (PySem.W.mg_none_of X G z_isinstance) (PySem.W.mg_none_of X G z_str) (PySem.W.mg_none_of X G z_len) ⟨_, PySem.W.mg_of X G g_MOST_LETTERS, _, rfl⟩ ⟨_, PySem.W.mg_of X G g_LETTERS, _, rfl⟩ (PySem.W.mg_none_of X G z_all)
  have F_are_unlike := fun_mk (st := st_are_unlike) l_are_unlike c_are_unlike k_are_unlike
  have b_are_unlike := F_are_unlike.binds (ps := ["values"]) fun _ _ _ _ _ _ us hl => match us, hl with | [_], _ => rfl
  have K_are_unlike := kn_are_unlike (P := prog) (w := w) (mg := mg) (base := base) F_are_unlike (PySem.W.mg_of X G a_are_unlike) b_are_unlike (PySem.W.mg_none_of X G z_len)
  have F_are_names := fun_mk (st := st_are_names) l_are_names c_are_names k_are_names
  have b_are_names := F_are_names.binds (ps := ["value", "most"]) fun _ _ _ _ _ _ us hl => match us, hl with | [_, _], _ => rfl
  have K_are_names := kn_are_names (P := prog) (w := w) (mg := mg) (base := base) F_are_names (PySem.W.mg_of X G a_are_names) b_are_names (PySem.W.mg_none_of X G z_len) (PySem.W.mg_none_of X G z_all) K_is_listed K_is_name K_are_unlike
  have F_ascends := fun_mk (st := st_ascends) l_ascends c_ascends k_ascends
  have b_ascends := F_ascends.binds (ps := ["values"]) fun _ _ _ _ _ _ us hl => match us, hl with | [_], _ => rfl
  have K_ascends := kn_ascends (P := prog) (w := w) (mg := mg) (base := base) F_ascends (PySem.W.mg_of X G a_ascends) b_ascends (PySem.W.mg_none_of X G z_len) (PySem.W.mg_none_of X G z_all) (PySem.W.mg_none_of X G z_range)
  have F_is_ratio := fun_mk (st := st_is_ratio) l_is_ratio c_is_ratio k_is_ratio
  have b_is_ratio := F_is_ratio.binds (ps := ["value"]) fun _ _ _ _ _ _ us hl => match us, hl with | [_], _ => rfl
  have K_is_ratio := kn_is_ratio (P := prog) (w := w) (mg := mg) (base := base) F_is_ratio (PySem.W.mg_of X G a_is_ratio) b_is_ratio (PySem.W.mg_none_of X G z_isinstance) (PySem.W.mg_none_of X G z_tuple) (PySem.W.mg_none_of X G z_len) (PySem.W.mg_of X G a_gcd) K_is_integer
  have F_less := fun_mk (st := st_less) l_less c_less k_less
  have b_less := F_less.binds (ps := ["one", "other"]) fun _ _ _ _ _ _ us hl => match us, hl with | [_, _], _ => rfl
  have K_less := kn_less (P := prog) (w := w) (mg := mg) (base := base) F_less (PySem.W.mg_of X G a_less) b_less
  have F_total := fun_mk (st := st_total) l_total c_total k_total
  have b_total := F_total.binds (ps := ["some"]) fun _ _ _ _ _ _ us hl => match us, hl with | [_], _ => rfl
  have K_total := kn_total (P := prog) (w := w) (mg := mg) (base := base) F_total (PySem.W.mg_of X G a_total) b_total (PySem.W.mg_of X G a_gcd)
  have F_fixed := fun_mk (st := st_fixed) l_fixed c_fixed k_fixed
  have b_fixed := F_fixed.binds (ps := ["value"]) fun _ _ _ _ _ _ us hl => match us, hl with | [_], _ => rfl
  have K_fixed := kn_fixed (P := prog) (w := w) (mg := mg) (base := base) F_fixed (PySem.W.mg_of X G a_fixed) b_fixed (PySem.W.mg_none_of X G z_isinstance) (PySem.W.mg_none_of X G z_list) (PySem.W.mg_none_of X G z_tuple)
  have F_is_pair := fun_mk (st := st_is_pair) l_is_pair c_is_pair k_is_pair
  have b_is_pair := F_is_pair.binds (ps := ["value"]) fun _ _ _ _ _ _ us hl => match us, hl with | [_], _ => rfl
  have K_is_pair := kn_is_pair (P := prog) (w := w) (mg := mg) (base := base) F_is_pair (PySem.W.mg_of X G a_is_pair) b_is_pair (PySem.W.mg_none_of X G z_len) K_is_listed
  have F_is_act := fun_mk (st := st_is_act) l_is_act c_is_act k_is_act
  have b_is_act := F_is_act.binds (ps := ["value", "many"]) fun _ _ _ _ _ _ us hl => match us, hl with | [_, _], _ => rfl
  have K_is_act := kn_is_act (P := prog) (w := w) (mg := mg) (base := base) F_is_act (PySem.W.mg_of X G a_is_act) b_is_act K_is_pair K_is_name K_is_within
  have F_are_acts := fun_mk (st := st_are_acts) l_are_acts c_are_acts k_are_acts
  have b_are_acts := F_are_acts.binds (ps := ["value", "many"]) fun _ _ _ _ _ _ us hl => match us, hl with | [_, _], _ => rfl
  have K_are_acts := kn_are_acts (P := prog) (w := w) (mg := mg) (base := base) F_are_acts (PySem.W.mg_of X G a_are_acts) b_are_acts (PySem.W.mg_none_of X G z_len) (PySem.W.mg_none_of X G z_all) ⟨_, PySem.W.mg_of X G g_MOST_ACTS, _, rfl⟩ K_is_listed K_is_act K_are_unlike
  have F_are_odds := fun_mk (st := st_are_odds) l_are_odds c_are_odds k_are_odds
  have b_are_odds := F_are_odds.binds (ps := ["value", "worlds"]) fun _ _ _ _ _ _ us hl => match us, hl with | [_, _], _ => rfl
  have K_are_odds := kn_are_odds (P := prog) (w := w) (mg := mg) (base := base) F_are_odds (PySem.W.mg_of X G a_are_odds) b_are_odds (PySem.W.mg_none_of X G z_len) (PySem.W.mg_none_of X G z_all) (PySem.W.mg_none_of X G z_any) gtZERO K_is_listed K_is_ratio K_less (K_fixed 1)
  have F_is_outcome := fun_mk (st := st_is_outcome) l_is_outcome c_is_outcome k_is_outcome
  have b_is_outcome := F_is_outcome.binds (ps := ["value", "many", "worlds"]) fun _ _ _ _ _ _ us hl => match us, hl with | [_, _, _], _ => rfl
  have K_is_outcome := kn_is_outcome (P := prog) (w := w) (mg := mg) (base := base) F_is_outcome (PySem.W.mg_of X G a_is_outcome) b_is_outcome K_is_pair K_is_within K_are_odds
  have F_are_outcomes := fun_mk (st := st_are_outcomes) l_are_outcomes c_are_outcomes k_are_outcomes
  have b_are_outcomes := F_are_outcomes.binds (ps := ["value", "many", "worlds"]) fun _ _ _ _ _ _ us hl => match us, hl with | [_, _, _], _ => rfl
  have K_are_outcomes := kn_are_outcomes (P := prog) (w := w) (mg := mg) (base := base) F_are_outcomes (PySem.W.mg_of X G a_are_outcomes) b_are_outcomes (PySem.W.mg_none_of X G z_len) (PySem.W.mg_none_of X G z_all) (PySem.W.mg_none_of X G z_range) ⟨_, PySem.W.mg_of X G g_MOST_OUTCOMES, _, rfl⟩ gtONE K_is_listed K_is_outcome K_total (K_fixed 1)
  have F_is_row := fun_mk (st := st_is_row) l_is_row c_is_row k_is_row
  have b_is_row := F_is_row.binds (ps := ["value", "many", "worlds"]) fun _ _ _ _ _ _ us hl => match us, hl with | [_, _, _], _ => rfl
  have K_is_row := kn_is_row (P := prog) (w := w) (mg := mg) (base := base) F_is_row (PySem.W.mg_of X G a_is_row) b_is_row (PySem.W.mg_none_of X G z_len) (PySem.W.mg_none_of X G z_isinstance) (PySem.W.mg_none_of X G z_str) ⟨_, PySem.W.mg_of X G g_END, _, rfl⟩ ⟨_, PySem.W.mg_of X G g_LUCK, _, rfl⟩ ⟨_, PySem.W.mg_of X G g_MINE, _, rfl⟩ ⟨_, PySem.W.mg_of X G g_FOE, _, rfl⟩ K_is_listed K_are_outcomes K_are_acts
  have F_are_states := fun_mk (st := st_are_states) l_are_states c_are_states k_are_states
  have b_are_states := F_are_states.binds (ps := ["value", "many"]) fun _ _ _ _ _ _ us hl => match us, hl with | [_, _], _ => rfl
  have K_are_states := kn_are_states (P := prog) (w := w) (mg := mg) (base := base) F_are_states (PySem.W.mg_of X G a_are_states) b_are_states (PySem.W.mg_none_of X G z_all) K_is_listed K_is_within K_ascends
  have F_are_marks := fun_mk (st := st_are_marks) l_are_marks c_are_marks k_are_marks
  have b_are_marks := F_are_marks.binds (ps := ["value", "many"]) fun _ _ _ _ _ _ us hl => match us, hl with | [_, _], _ => rfl
  have K_are_marks := kn_are_marks (P := prog) (w := w) (mg := mg) (base := base) F_are_marks (PySem.W.mg_of X G a_are_marks) b_are_marks (PySem.W.mg_none_of X G z_len) (PySem.W.mg_none_of X G z_all) ⟨_, PySem.W.mg_of X G g_MOST_MARKS, _, rfl⟩ K_is_listed K_is_pair K_is_name K_are_unlike K_are_states
  have F_yi : FunD K "__init__" "Yard.__init__" (defArgs st_init) (defBody st_init) (defScope st_init) [.ref yiE, .non] [] f_yi _ := ⟨⟨_, _, _, _, _, _, _, _, _, _, rfl, l_yi, c_yi, .inr ⟨by simp, _, _, [.ref yiE, .none], _, rfl, t_yi, rfl, .cons rfl (.cons rfl .nil)⟩, .inl rfl⟩, k_yi⟩
  have K_yi := kn_yard (P := prog) (w := w) (mg := mg) (base := base) F_yi yc (PySem.W.mg_none_of X G z_len) (PySem.W.mg_none_of X G z_all) (PySem.W.mg_none_of X G z_tuple) (PySem.W.mg_none_of X G z_sorted) ⟨_, PySem.W.mg_of X G g_MOST_WORLDS, _, rfl⟩ ⟨_, PySem.W.mg_of X G g_MOST_STATES, _, rfl⟩ K_are_names K_is_listed K_is_row K_is_within K_are_marks (K_fixed 6)
  have KI4 : KnI prog w K mg base 8 "Yard" C [vl .non] 5 (fYard K) := by
    obtain ⟨ds, hd, hb⟩ := F_yi.binds1 (ps := ["self", "worlds", "states", "start", "marks", "pays"]) 5 1 (by simp) rfl fun T kV doc pm an cdv ct us its hl hi => match us, its, hl, hi with | [_, _, _, _, _], [_, _], _, _ => ⟨_, rfl, rfl⟩
    exact ⟨f_yi, _, _, ds, _, K_yi, ⟨y_mk, a_yi, i_yi, y_kc⟩, PySem.W.mg_of X G a_Yard, hd, hb, fun H => .cons rfl .nil⟩
  have KI3 : KnI prog w K mg base 8 "Yard" C [tupT K [], vl .non] 5 (fYard K) := by
    obtain ⟨ds, hd, hb⟩ := F_yi.binds1 (ps := ["self", "worlds", "states", "start", "marks", "pays"]) 4 0 (by simp) rfl fun T kV doc pm an cdv ct us its hl hi => match us, its, hl, hi with | [_, _, _, _], [_, _], _, _ => ⟨_, rfl, rfl⟩
    exact ⟨f_yi, _, _, ds, _, K_yi, ⟨y_mk, a_yi, i_yi, y_kc⟩, PySem.W.mg_of X G a_Yard, hd, hb, fun H => .cons ⟨_, [], rfl, .inr ⟨_, _, _, e_yi, rfl, rfl, by rw [sizeLine_eq]; show 0 ≤ 16777216; omega, .nil⟩, .nil⟩ (.cons rfl .nil)⟩
  have F_kind := fun_mk (st := st_kind) l_kind c_kind k_kind
  have b_kind := F_kind.binds (ps := ["self", "state"]) fun _ _ _ _ _ _ us hl => match us, hl with | [_, _], _ => rfl
  have K_kind := kn_kind (P := prog) (w := w) (mg := mg) (base := base) F_kind yc ⟨a_kind, i_kind, k_kind⟩ b_kind
  have F_acts := fun_mk (st := st_acts) l_acts c_acts k_acts
  have b_acts := F_acts.binds (ps := ["self", "state"]) fun _ _ _ _ _ _ us hl => match us, hl with | [_, _], _ => rfl
  have K_acts := kn_acts (P := prog) (w := w) (mg := mg) (base := base) F_acts yc ⟨a_acts, i_acts, k_acts⟩ b_acts ⟨_, PySem.W.mg_of X G g_MINE, _, rfl⟩ ⟨_, PySem.W.mg_of X G g_FOE, _, rfl⟩
  have F_outcomes := fun_mk (st := st_outcomes) l_outcomes c_outcomes k_outcomes
  have b_outcomes := F_outcomes.binds (ps := ["self", "state"]) fun _ _ _ _ _ _ us hl => match us, hl with | [_, _], _ => rfl
  have K_outcomes := kn_outcomes (P := prog) (w := w) (mg := mg) (base := base) F_outcomes yc ⟨a_outcomes, i_outcomes, k_outcomes⟩ b_outcomes ⟨_, PySem.W.mg_of X G g_LUCK, _, rfl⟩
  have F_need_yard := fun_mk (st := st_need_yard) l_need_yard c_need_yard k_need_yard
  have b_need_yard := F_need_yard.binds (ps := ["value"]) fun _ _ _ _ _ _ us hl => match us, hl with | [_], _ => rfl
  have K_need_yard := kn_need_yard (P := prog) (w := w) (mg := mg) (base := base) F_need_yard (PySem.W.mg_of X G a_need_yard) b_need_yard (PySem.W.mg_none_of X G z_isinstance) (PySem.W.mg_of X G a_Yard) y_ky ⟨yc.c, y_ha, s_hn, s_ht, y_hm⟩
  have F_need_state := fun_mk (st := st_need_state) l_need_state c_need_state k_need_state
  have b_need_state := F_need_state.binds (ps := ["yard", "value"]) fun _ _ _ _ _ _ us hl => match us, hl with | [_, _], _ => rfl
  have K_need_state := kn_need_state (P := prog) (w := w) (mg := mg) (base := base) F_need_state (PySem.W.mg_of X G a_need_state) b_need_state yc (PySem.W.mg_none_of X G z_len) K_is_integer
  have F_has_kind := fun_mk (st := st_has_kind) l_has_kind c_has_kind k_has_kind
  have b_has_kind := F_has_kind.binds (ps := ["yard", "kind"]) fun _ _ _ _ _ _ us hl => match us, hl with | [_, _], _ => rfl
  have K_has_kind := kn_has_kind (P := prog) (w := w) (mg := mg) (base := base) F_has_kind (PySem.W.mg_of X G a_has_kind) b_has_kind yc (PySem.W.mg_none_of X G z_any)
  have F_is_knowledge := fun_mk (st := st_is_knowledge) l_is_knowledge c_is_knowledge k_is_knowledge
  have b_is_knowledge := F_is_knowledge.binds (ps := ["yard", "value"]) fun _ _ _ _ _ _ us hl => match us, hl with | [_, _], _ => rfl
  have K_is_knowledge := kn_is_knowledge (P := prog) (w := w) (mg := mg) (base := base) F_is_knowledge (PySem.W.mg_of X G a_is_knowledge) b_is_knowledge yc (PySem.W.mg_none_of X G z_len) (PySem.W.mg_none_of X G z_all) K_is_listed K_is_within K_ascends
  have F_known := fun_mk (st := st_known) l_known c_known k_known
  have b_known := F_known.binds (ps := ["yard", "state", "outcome", "knowledge"]) fun _ _ _ _ _ _ us hl => match us, hl with | [_, _, _, _], _ => rfl
  have K_known := kn_known (P := prog) (w := w) (mg := mg) (base := base) F_known (PySem.W.mg_of X G a_known) b_known yc (PySem.W.mg_none_of X G z_tuple) gtZERO K_outcomes
  have F_behind := fun_mk (st := st_behind) l_behind c_behind k_behind
  have b_behind := F_behind.binds (ps := ["yard", "state", "knowledge"]) fun _ _ _ _ _ _ us hl => match us, hl with | [_, _, _], _ => rfl
  have K_behind := kn_behind (P := prog) (w := w) (mg := mg) (base := base) F_behind (PySem.W.mg_of X G a_behind) b_behind yc (PySem.W.mg_none_of X G z_tuple) (PySem.W.mg_none_of X G z_enumerate) ⟨_, PySem.W.mg_of X G g_LUCK, _, rfl⟩ K_kind K_acts K_outcomes K_known
  have F_odds_of := fun_mk (st := st_odds_of) l_odds_of c_odds_of k_odds_of
  have b_odds_of := F_odds_of.binds (ps := ["yard", "state", "world"]) fun _ _ _ _ _ _ us hl => match us, hl with | [_, _, _], _ => rfl
  have K_odds_of := kn_odds_of (P := prog) (w := w) (mg := mg) (base := base) F_odds_of (PySem.W.mg_of X G a_odds_of) b_odds_of (PySem.W.mg_none_of X G z_tuple) K_outcomes
  have F_kept_behind := fun_mk (st := st_kept_behind) l_kept_behind c_kept_behind k_kept_behind
  have b_kept_behind := F_kept_behind.binds (ps := ["yard", "state", "knowledge"]) fun _ _ _ _ _ _ us hl => match us, hl with | [_, _, _], _ => rfl
  have K_kept_behind := kn_kept_behind (P := prog) (w := w) (mg := mg) (base := base) F_kept_behind (PySem.W.mg_of X G a_kept_behind) b_kept_behind K_behind
  have F_does_stay := fun_mk (st := st_does_stay) l_does_stay c_does_stay k_does_stay
  have b_does_stay := F_does_stay.binds (ps := ["yard", "state", "knowledge", "lot"]) fun _ _ _ _ _ _ us hl => match us, hl with | [_, _, _, _], _ => rfl
  have K_does_stay := kn_does_stay (P := prog) (w := w) (mg := mg) (base := base) F_does_stay (PySem.W.mg_of X G a_does_stay) b_does_stay (PySem.W.mg_none_of X G z_any) (PySem.W.mg_none_of X G z_all) ⟨_, PySem.W.mg_of X G g_LUCK, _, rfl⟩ ⟨_, PySem.W.mg_of X G g_MINE, _, rfl⟩ K_kept_behind K_kind
  have F_closed_lot := fun_mk (st := st_closed_lot) l_closed_lot c_closed_lot k_closed_lot
  have b_closed_lot := F_closed_lot.binds (ps := ["yard", "knowledge", "states"]) fun _ _ _ _ _ _ us hl => match us, hl with | [_, _, _], _ => rfl
  have K_closed_lot := kn_closed_lot (P := prog) (w := w) (mg := mg) (base := base) F_closed_lot (PySem.W.mg_of X G a_closed_lot) b_closed_lot K_does_stay
  have F_ranks_to := fun_mk (st := st_ranks_to) l_ranks_to c_ranks_to k_ranks_to
  have b_ranks_to := F_ranks_to.binds (ps := ["yard", "goal", "knowledge", "lot"]) fun _ _ _ _ _ _ us hl => match us, hl with | [_, _, _, _], _ => rfl
  have K_ranks_to := kn_ranks_to (P := prog) (w := w) (mg := mg) (base := base) F_ranks_to (PySem.W.mg_of X G a_ranks_to) b_ranks_to (PySem.W.mg_none_of X G z_sorted) K_kept_behind
  have F_come_to := fun_mk (st := st_come_to) l_come_to c_come_to k_come_to
  have b_come_to := F_come_to.binds (ps := ["yard", "first", "knowledge", "picked"]) fun _ _ _ _ _ _ us hl => match us, hl with | [_, _, _, _], _ => rfl
  have K_come_to := kn_come_to (P := prog) (w := w) (mg := mg) (base := base) F_come_to (PySem.W.mg_of X G a_come_to) b_come_to ⟨_, PySem.W.mg_of X G g_LUCK, _, rfl⟩ K_kept_behind K_kind
  have F_stay_in := fun_mk (st := st_stay_in) l_stay_in c_stay_in k_stay_in
  have b_stay_in := F_stay_in.binds (ps := ["yard", "state", "knowledge", "allowed"]) fun _ _ _ _ _ _ us hl => match us, hl with | [_, _, _, _], _ => rfl
  have K_stay_in := kn_stay_in (P := prog) (w := w) (mg := mg) (base := base) F_stay_in (PySem.W.mg_of X G a_stay_in) b_stay_in (PySem.W.mg_none_of X G z_len) (PySem.W.mg_none_of X G z_sorted) (PySem.W.mg_none_of X G z_tuple) ⟨_, PySem.W.mg_of X G g_MINE, _, rfl⟩ K_closed_lot K_ranks_to K_come_to K_kind K_acts
  have F_need_luck := fun_mk (st := st_need_luck) l_need_luck c_need_luck k_need_luck
  have b_need_luck := F_need_luck.binds (ps := ["yard", "state", "knowledge"]) fun _ _ _ _ _ _ us hl => match us, hl with | [_, _, _], _ => rfl
  have K_need_luck := kn_need_luck (P := prog) (w := w) (mg := mg) (base := base) F_need_luck (PySem.W.mg_of X G a_need_luck) b_need_luck ⟨_, PySem.W.mg_of X G g_LUCK, _, rfl⟩ K_need_yard K_need_state K_kind K_is_knowledge (K_fixed 1)
  have F_stay := fun_mk (st := st_stay) l_stay c_stay k_stay
  have b_stay := F_stay.binds (ps := ["yard", "state", "knowledge"]) fun _ _ _ _ _ _ us hl => match us, hl with | [_, _, _], _ => rfl
  have K_stay := kn_stay (P := prog) (w := w) (mg := mg) (base := base) F_stay (PySem.W.mg_of X G a_stay) b_stay yc (PySem.W.mg_none_of X G z_len) (PySem.W.mg_none_of X G z_list) (PySem.W.mg_none_of X G z_range) ⟨_, PySem.W.mg_of X G g_FOE, _, rfl⟩ K_need_luck K_has_kind K_stay_in
  have kk_stay : KnK prog w K mg base 8 "stay" ["knowledge", "state", "yard"] (spP 3 (fStay K C)) := ⟨_, _, _, fn_stay F_stay yc (PySem.W.mg_none_of X G z_len) (PySem.W.mg_none_of X G z_list) (PySem.W.mg_none_of X G z_range) ⟨_, PySem.W.mg_of X G g_FOE, _, rfl⟩ K_need_luck K_has_kind K_stay_in, PySem.W.mg_of X G a_stay, k_stay, kbn_stay⟩
  have F_classes_in := fun_mk (st := st_classes_in) l_classes_in c_classes_in k_classes_in
  have b_classes_in := F_classes_in.binds (ps := ["yard", "state", "knowledge"]) fun _ _ _ _ _ _ us hl => match us, hl with | [_, _, _], _ => rfl
  have K_classes_in := kn_classes_in (P := prog) (w := w) (mg := mg) (base := base) F_classes_in (PySem.W.mg_of X G a_classes_in) b_classes_in (PySem.W.mg_none_of X G z_tuple) K_odds_of
  have F_classes := fun_mk (st := st_classes) l_classes c_classes k_classes
  have b_classes := F_classes.binds (ps := ["yard", "state", "knowledge"]) fun _ _ _ _ _ _ us hl => match us, hl with | [_, _, _], _ => rfl
  have K_classes := kn_classes (P := prog) (w := w) (mg := mg) (base := base) F_classes (PySem.W.mg_of X G a_classes) b_classes K_need_luck K_classes_in
  have kk_classes : KnK prog w K mg base 5 "classes" ["knowledge", "state", "yard"] (spP 3 (fClasses K C)) := ⟨_, _, _, fn_classes F_classes K_need_luck K_classes_in, PySem.W.mg_of X G a_classes, k_classes, kbn_classes⟩
  have F__law_draw := fun_mk (st := st_draw) l__law_draw c__law_draw k__law_draw
  have b__law_draw := F__law_draw.binds (ps := ["pen", "many"]) fun _ _ _ _ _ _ us hl => match us, hl with | [_, _], _ => rfl
  have K_draw := kn_draw (P := prog) (w := w) (mg := mg) (base := base) F__law_draw (PySem.W.mg_of X G a__law_draw) b__law_draw (PySem.W.mg_none_of X G z_int) (PySem.W.mg_none_of X G z_len) (PySem.W.mg_none_of X G z_abs)
  have F__law_pick := fun_mk (st := st_pick) l__law_pick c__law_pick k__law_pick
  have b__law_pick := F__law_pick.binds (ps := ["pen", "some"]) fun _ _ _ _ _ _ us hl => match us, hl with | [_, _], _ => rfl
  have K_pick := kn_pick (P := prog) (w := w) (mg := mg) (base := base) F__law_pick (PySem.W.mg_of X G a__law_pick) b__law_pick (PySem.W.mg_none_of X G z_len) K_draw
  have F__law_mixed := fun_mk (st := st_mixed) l__law_mixed c__law_mixed k__law_mixed
  have b__law_mixed := F__law_mixed.binds (ps := ["pen", "some"]) fun _ _ _ _ _ _ us hl => match us, hl with | [_, _], _ => rfl
  have K_mixed := kn_mixed (P := prog) (w := w) (mg := mg) (base := base) F__law_mixed (PySem.W.mg_of X G a__law_mixed) b__law_mixed (PySem.W.mg_none_of X G z_len) (PySem.W.mg_none_of X G z_list) (PySem.W.mg_none_of X G z_range) K_draw
  have F__law_spread := fun_mk (st := st_spread) l__law_spread c__law_spread k__law_spread
  have b__law_spread := F__law_spread.binds (ps := ["pen", "size"]) fun _ _ _ _ _ _ us hl => match us, hl with | [_, _], _ => rfl
  have K_spread := kn_spread (P := prog) (w := w) (mg := mg) (base := base) F__law_spread (PySem.W.mg_of X G a__law_spread) b__law_spread K_pick
  have F__law_known := fun_mk (st := st_lknown) l__law_known c__law_known k__law_known
  have b__law_known := F__law_known.binds (ps := ["yard", "state", "at", "told"]) fun _ _ _ _ _ _ us hl => match us, hl with | [_, _, _, _], _ => rfl
  have K_lknown := kn_lknown (P := prog) (w := w) (mg := mg) (base := base) F__law_known (PySem.W.mg_of X G a__law_known) b__law_known yc (PySem.W.mg_none_of X G z_tuple)
  have F__law_behind := fun_mk (st := st_lbehind) l__law_behind c__law_behind k__law_behind
  have b__law_behind := F__law_behind.binds (ps := ["yard", "state", "told"]) fun _ _ _ _ _ _ us hl => match us, hl with | [_, _, _], _ => rfl
  have K_lbehind := kn_lbehind (P := prog) (w := w) (mg := mg) (base := base) F__law_behind (PySem.W.mg_of X G a__law_behind) b__law_behind yc (PySem.W.mg_none_of X G z_enumerate) K_lknown
  have F__law_yard := fun_mk (st := st_lyard) l__law_yard c__law_yard k__law_yard
  have b__law_yard := F__law_yard.binds (ps := ["pen"]) fun _ _ _ _ _ _ us hl => match us, hl with | [_], _ => rfl
  have K_lyard := kn_lyard (P := prog) (w := w) (mg := mg) (base := base) F__law_yard (PySem.W.mg_of X G a__law_yard) b__law_yard (PySem.W.mg_none_of X G z_range) K_draw K_pick K_mixed K_spread KI4
  have F__law_is_count := fun_mk (st := st_count) l__law_is_count c__law_is_count k__law_is_count
  have b__law_is_count := F__law_is_count.binds (ps := ["value", "most"]) fun _ _ _ _ _ _ us hl => match us, hl with | [_, _], _ => rfl
  have K_count := kn_count (P := prog) (w := w) (mg := mg) (base := base) F__law_is_count (PySem.W.mg_of X G a__law_is_count) b__law_is_count (PySem.W.mg_none_of X G z_isinstance) (PySem.W.mg_none_of X G z_int) (PySem.W.mg_none_of X G z_bool)
  have F__law_target := fun_mk (st := st_target) l__law_target c__law_target k__law_target
  have b__law_target := F__law_target.binds (ps := ["yard", "state", "name"]) fun _ _ _ _ _ _ us hl => match us, hl with | [_, _, _], _ => rfl
  have K_target := kn_target (P := prog) (w := w) (mg := mg) (base := base) F__law_target (PySem.W.mg_of X G a__law_target) b__law_target yc (PySem.W.mg_none_of X G z_isinstance) (PySem.W.mg_none_of X G z_str)
  have F__law_are_rows := fun_mk (st := st_rows3) l__law_are_rows c__law_are_rows k__law_are_rows
  have b__law_are_rows := F__law_are_rows.binds (ps := ["value", "size"]) fun _ _ _ _ _ _ us hl => match us, hl with | [_, _], _ => rfl
  have K_are_rows := kn_are_rows (P := prog) (w := w) (mg := mg) (base := base) F__law_are_rows (PySem.W.mg_of X G a__law_are_rows) b__law_are_rows (PySem.W.mg_none_of X G z_isinstance) (PySem.W.mg_none_of X G z_tuple) (PySem.W.mg_none_of X G z_len)
  have F__law_classes := fun_mk (st := st_lclasses) l__law_classes c__law_classes k__law_classes
  have b__law_classes := F__law_classes.binds (ps := ["yard", "state", "told"]) fun _ _ _ _ _ _ us hl => match us, hl with | [_, _, _], _ => rfl
  have K_lclasses := kn_lclasses (P := prog) (w := w) (mg := mg) (base := base) F__law_classes (PySem.W.mg_of X G a__law_classes) b__law_classes yc (PySem.W.mg_none_of X G z_tuple)
  have F__law_stays := fun_mk (st := st_lstays) l__law_stays c__law_stays k__law_stays
  have b__law_stays := F__law_stays.binds (ps := ["table", "told", "state", "some"]) fun _ _ _ _ _ _ us hl => match us, hl with | [_, _, _, _], _ => rfl
  have K_lstays := kn_lstays (P := prog) (w := w) (mg := mg) (base := base) F__law_stays (PySem.W.mg_of X G a__law_stays) b__law_stays (PySem.W.mg_none_of X G z_list) (PySem.W.mg_none_of X G z_range) (PySem.W.mg_none_of X G z_len) (PySem.W.mg_none_of X G z_dict) (PySem.W.mg_none_of X G z_sorted)
  have F__law_stay_right := fun_mk (st := st_lright) l__law_stay_right c__law_stay_right k__law_stay_right
  have b__law_stay_right := F__law_stay_right.binds (ps := ["yard", "rows", "state", "told"]) fun _ _ _ _ _ _ us hl => match us, hl with | [_, _, _, _], _ => rfl
  have K_lright := kn_lright (P := prog) (w := w) (mg := mg) (base := base) F__law_stay_right (PySem.W.mg_of X G a__law_stay_right) b__law_stay_right yc K_count K_lbehind K_target
  have F__law_right := fun_mk (st := st_right) l__law_right c__law_right k__law_right
  have b__law_right := F__law_right.binds (ps := ["pen"]) fun _ _ _ _ _ _ us hl => match us, hl with | [_], _ => rfl
  have K_right := kn_right (P := prog) (w := w) (mg := mg) (base := base) F__law_right (PySem.W.mg_of X G a__law_right) b__law_right yc (PySem.W.mg_none_of X G z_range) (PySem.W.mg_none_of X G z_len) (PySem.W.mg_none_of X G z_tuple) (PySem.W.mg_none_of X G z_list) (PySem.W.mg_none_of X G z_repr) (PySem.W.mg_none_of X G z_set) (PySem.W.mg_none_of X G z_dict) K_draw K_lyard K_classes kk_classes K_stay kk_stay K_lclasses K_lbehind K_lstays K_are_rows K_lright
  have K_need_yardR := kn_need_yardR (P := prog) (w := w) (mg := mg) (base := base) F_need_yard (PySem.W.mg_of X G a_need_yard) b_need_yard (PySem.W.mg_none_of X G z_isinstance) (PySem.W.mg_of X G a_Yard) x_CY
  have K_need_stateR := kn_need_stateR (P := prog) (w := w) (mg := mg) (base := base) F_need_state (PySem.W.mg_of X G a_need_state) b_need_state yc (PySem.W.mg_none_of X G z_len) K_is_integer x_CS
  have K_is_knowledgeN := kn_is_knowledgeN (P := prog) (w := w) (mg := mg) (base := base) F_is_knowledge (PySem.W.mg_of X G a_is_knowledge) b_is_knowledge yc (PySem.W.mg_none_of X G z_len) (PySem.W.mg_none_of X G z_all) K_is_listed K_is_within K_ascends
  have K_need_luckR := kn_need_luckR (P := prog) (w := w) (mg := mg) (base := base) F_need_luck (PySem.W.mg_of X G a_need_luck) b_need_luck ⟨_, PySem.W.mg_of X G g_LUCK, _, rfl⟩ K_need_yard K_need_state K_kind K_is_knowledgeN K_need_yardR K_need_stateR x_CS x_CN
  have K_classesR := kn_classesR (P := prog) (w := w) (mg := mg) (base := base) F_classes (PySem.W.mg_of X G a_classes) b_classes K_classes_in K_need_luckR
  have K_stayR := kn_stayR (P := prog) (w := w) (mg := mg) (base := base) F_stay (PySem.W.mg_of X G a_stay) b_stay ⟨_, PySem.W.mg_of X G g_FOE, _, rfl⟩ K_need_luck K_has_kind K_need_luckR x_CM
  have F__law_pen := fun_mk (st := st_lpen) l__law_pen c__law_pen k__law_pen
  have b__law_pen := F__law_pen.binds (ps := ["script"]) fun _ _ _ _ _ _ us hl => match us, hl with | [_], _ => rfl
  have K_lpen := kn_lpen (P := prog) (w := w) (mg := mg) (base := base) F__law_pen (PySem.W.mg_of X G a__law_pen) b__law_pen (PySem.W.mg_none_of X G z_int)
  have F_law_heard := fun_mk (st := st_heard) l_law_heard c_law_heard k_law_heard
  have b_law_heard := F_law_heard.binds (ps := ["ask"]) fun _ _ _ _ _ _ us hl => match us, hl with | [_], _ => rfl
  have nd := of_decide_eq_true nd_E
  have hC : HeardC K mg CY CS CN CM := by
    refine ⟨⟨CW, PySem.W.mg_of X G a_World, fun C hC => ?_⟩, PySem.W.mg_of X G a_CY, PySem.W.mg_of X G a_CS, PySem.W.mg_of X G a_CN, PySem.W.mg_of X G a_CM, fun C hC => ?_, fun C hC D hD => ?_, nd, (PySem.W.mg_none_of X G z_isinstance)⟩
    · simp only [List.mem_cons, List.not_mem_nil, or_false] at hC
      rcases hC with rfl | rfl | rfl | rfl <;> assumption
    · simp only [List.mem_cons, List.not_mem_nil, or_false] at hC
      rcases hC with rfl | rfl | rfl | rfl <;> assumption
    · simp only [List.nodup_cons, List.mem_cons, List.not_mem_nil, or_false, not_or, not_false_eq_true, and_true, List.nodup_nil] at nd
      obtain ⟨⟨e1, e2, e3⟩, ⟨e4, e5⟩, e6⟩ := nd
      have q : ∀ {A D : Addr} {b : Bool}, PySem.W.kitOne K (.ref A) (.ref D) = some b → (b = true → A = D) → (b = false → A ≠ D) → PySem.W.kitOne K (.ref A) (.ref D) = some (decide (A = D)) := fun {A D b} h h1 h2 => by
        cases b with
        | true => rw [decide_eq_true (h1 rfl)]; exact h
        | false => rw [decide_eq_false (h2 rfl)]; exact h
      simp only [List.mem_cons, List.not_mem_nil, or_false] at hC hD
      rcases hC with rfl | rfl | rfl | rfl <;> rcases hD with rfl | rfl | rfl | rfl
      · exact q kk_CY_CY (fun _ => rfl) (fun z => by cases z)
      · exact q kk_CY_CS (fun z => by cases z) (fun _ => e1)
      · exact q kk_CY_CN (fun z => by cases z) (fun _ => e2)
      · exact q kk_CY_CM (fun z => by cases z) (fun _ => e3)
      · exact q kk_CS_CY (fun z => by cases z) (fun _ => (Ne.symm e1))
      · exact q kk_CS_CS (fun _ => rfl) (fun z => by cases z)
      · exact q kk_CS_CN (fun z => by cases z) (fun _ => e4)
      · exact q kk_CS_CM (fun z => by cases z) (fun _ => e5)
      · exact q kk_CN_CY (fun z => by cases z) (fun _ => (Ne.symm e2))
      · exact q kk_CN_CS (fun z => by cases z) (fun _ => (Ne.symm e4))
      · exact q kk_CN_CN (fun _ => rfl) (fun z => by cases z)
      · exact q kk_CN_CM (fun z => by cases z) (fun _ => e6)
      · exact q kk_CM_CY (fun z => by cases z) (fun _ => (Ne.symm e3))
      · exact q kk_CM_CS (fun z => by cases z) (fun _ => (Ne.symm e5))
      · exact q kk_CM_CN (fun z => by cases z) (fun _ => (Ne.symm e6))
      · exact q kk_CM_CM (fun _ => rfl) (fun z => by cases z)
  have knY : ∀ t ∈ (["NoneType", "int", "str", "tuple"] : List String), PySem.W.kitOne K (.type t) (.ref C) = some false := fun t ht => by
    simp only [List.mem_cons, List.not_mem_nil, or_false] at ht
    rcases ht with rfl | rfl | rfl | rfl <;> assumption
  have kL : LawK prog w K mg base C CY CS CN CM f_law_heard _ := ⟨K_lpen, K_right, KI3, K_pick, K_classes, K_stay, K_classesR, K_stayR, ⟨F_law_heard, PySem.W.mg_of X G a_law_heard, b_law_heard⟩, hC, yc, knY, (PySem.W.mg_none_of X G z_range)⟩
  exact fn_law ⟨_, _, _, _, _, _, _, _, rfl, l_law, c_law⟩ kL tb
end DL
set_option pp.maxSteps 300
set_option maxRecDepth 100000
open PySem PySem.W PyProof.Rows in
set_option maxHeartbeats 0 in
theorem PySem.Challenge.cw_whicheverworld_k75_classes_and_stays_of_holds : PySem.Challenge.rw_whicheverworld_k75_classes_and_stays_of.Holds := by
  w_on; o_law; k_head; (case hw => w_witness2)
  k_fill
  refine DL.walk_gT (l := PySem.Challenge.rw_whicheverworld_k75_classes_and_stays_of) (n := 63) (k := 12) (x := "script") rfl (by decide) rfl ⟨rfl, by decide, by decide⟩ (by decide +kernel) (fun w h Y => PySem.W.km_in_of Y) ?F
  case F =>
    intro w mg fa h KX G hmg
    refine' DL.all_mk KX G hmg ?a_Yard ?y_pg ?y_hd ?y_po ?y_sa ?y_mk ?y_kc ?n_worlds ?n_states ?n_start ?n_marks ?n_pays ?y_ky ?y_ha ?s_hn ?s_ht ?y_hm ?y_kNoneType ?y_kint ?y_kstr ?y_ktuple ?a_gcd ?g_ZERO ?l_ZERO ?g_ONE ?l_ONE ?a_World ?a_CY ?l_CY ?v_CY ?sa_CY ?ex_CY ?ty_CY ?kc_CY ?in_CY ?l_fE ?c_fE ?cl_fE ?vs_fE ?fi_fE ?cc_fE ?cD ?st_fE ?tp_fE ?z_super ?ty_fE ?su_CY ?nx_CY ?ve_CY ?np_CY ?hg_CY ?hk_CY ?hd_CY ?ha_CY ?hm_CY ?hc_CY ?xm_CY ?kk_CY_CY ?kk_CY_CS ?kk_CY_CN ?kk_CY_CM ?a_CS ?l_CS ?v_CS ?sa_CS ?ex_CS ?ty_CS ?kc_CS ?in_CS ?su_CS ?nx_CS ?ve_CS ?np_CS ?hg_CS ?hk_CS ?hd_CS ?ha_CS ?hm_CS ?hc_CS ?xm_CS ?kk_CS_CY ?kk_CS_CS ?kk_CS_CN ?kk_CS_CM ?a_CN ?l_CN ?v_CN ?sa_CN ?ex_CN ?ty_CN ?kc_CN ?in_CN ?su_CN ?nx_CN ?ve_CN ?np_CN ?hg_CN ?hk_CN ?hd_CN ?ha_CN ?hm_CN ?hc_CN ?xm_CN ?kk_CN_CY ?kk_CN_CS ?kk_CN_CN ?kk_CN_CM ?a_CM ?l_CM ?v_CM ?sa_CM ?ex_CM ?ty_CM ?kc_CM ?in_CM ?su_CM ?nx_CM ?ve_CM ?np_CM ?hg_CM ?hk_CM ?hd_CM ?ha_CM ?hm_CM ?hc_CM ?xm_CM ?kk_CM_CY ?kk_CM_CS ?kk_CM_CN ?kk_CM_CM ?nd_E ?a_is_integer ?l_is_integer ?c_is_integer ?k_is_integer ?z_isinstance ?z_int ?z_bool ?a_is_within ?l_is_within ?c_is_within ?k_is_within ?a_is_listed ?l_is_listed ?c_is_listed ?k_is_listed ?z_list ?z_tuple ?a_is_name ?l_is_name ?c_is_name ?k_is_name ?z_str ?z_len ?g_MOST_LETTERS ?g_LETTERS ?z_all ?a_are_unlike ?l_are_unlike ?c_are_unlike ?k_are_unlike ?a_are_names ?l_are_names ?c_are_names ?k_are_names ?a_ascends ?l_ascends ?c_ascends ?k_ascends ?z_range ?a_is_ratio ?l_is_ratio ?c_is_ratio ?k_is_ratio ?a_less ?l_less ?c_less ?k_less ?a_total ?l_total ?c_total ?k_total ?a_fixed ?l_fixed ?c_fixed ?k_fixed ?a_is_pair ?l_is_pair ?c_is_pair ?k_is_pair ?a_is_act ?l_is_act ?c_is_act ?k_is_act ?a_are_acts ?l_are_acts ?c_are_acts ?k_are_acts ?g_MOST_ACTS ?a_are_odds ?l_are_odds ?c_are_odds ?k_are_odds ?z_any ?a_is_outcome ?l_is_outcome ?c_is_outcome ?k_is_outcome ?a_are_outcomes ?l_are_outcomes ?c_are_outcomes ?k_are_outcomes ?g_MOST_OUTCOMES ?a_is_row ?l_is_row ?c_is_row ?k_is_row ?g_END ?g_LUCK ?g_MINE ?g_FOE ?a_are_states ?l_are_states ?c_are_states ?k_are_states ?a_are_marks ?l_are_marks ?c_are_marks ?k_are_marks ?g_MOST_MARKS ?a_yi ?i_yi ?l_yi ?c_yi ?k_yi ?t_yi ?e_yi ?z_sorted ?g_MOST_WORLDS ?g_MOST_STATES ?a_kind ?i_kind ?l_kind ?c_kind ?k_kind ?a_acts ?i_acts ?l_acts ?c_acts ?k_acts ?a_outcomes ?i_outcomes ?l_outcomes ?c_outcomes ?k_outcomes ?a_need_yard ?l_need_yard ?c_need_yard ?k_need_yard ?a_need_state ?l_need_state ?c_need_state ?k_need_state ?a_has_kind ?l_has_kind ?c_has_kind ?k_has_kind ?a_is_knowledge ?l_is_knowledge ?c_is_knowledge ?k_is_knowledge ?a_known ?l_known ?c_known ?k_known ?a_behind ?l_behind ?c_behind ?k_behind ?z_enumerate ?a_odds_of ?l_odds_of ?c_odds_of ?k_odds_of ?a_kept_behind ?l_kept_behind ?c_kept_behind ?k_kept_behind ?a_does_stay ?l_does_stay ?c_does_stay ?k_does_stay ?a_closed_lot ?l_closed_lot ?c_closed_lot ?k_closed_lot ?a_ranks_to ?l_ranks_to ?c_ranks_to ?k_ranks_to ?a_come_to ?l_come_to ?c_come_to ?k_come_to ?a_stay_in ?l_stay_in ?c_stay_in ?k_stay_in ?a_need_luck ?l_need_luck ?c_need_luck ?k_need_luck ?a_stay ?l_stay ?c_stay ?k_stay ?a_classes_in ?l_classes_in ?c_classes_in ?k_classes_in ?a_classes ?l_classes ?c_classes ?k_classes ?a__law_draw ?l__law_draw ?c__law_draw ?k__law_draw ?z_abs ?a__law_pick ?l__law_pick ?c__law_pick ?k__law_pick ?a__law_mixed ?l__law_mixed ?c__law_mixed ?k__law_mixed ?a__law_spread ?l__law_spread ?c__law_spread ?k__law_spread ?a__law_known ?l__law_known ?c__law_known ?k__law_known ?a__law_behind ?l__law_behind ?c__law_behind ?k__law_behind ?a__law_yard ?l__law_yard ?c__law_yard ?k__law_yard ?a__law_is_count ?l__law_is_count ?c__law_is_count ?k__law_is_count ?a__law_target ?l__law_target ?c__law_target ?k__law_target ?a__law_are_rows ?l__law_are_rows ?c__law_are_rows ?k__law_are_rows ?a__law_classes ?l__law_classes ?c__law_classes ?k__law_classes ?a__law_stays ?l__law_stays ?c__law_stays ?k__law_stays ?z_dict ?a__law_stay_right ?l__law_stay_right ?c__law_stay_right ?k__law_stay_right ?a__law_right ?l__law_right ?c__law_right ?k__law_right ?z_repr ?z_set ?a__law_pen ?l__law_pen ?c__law_pen ?k__law_pen ?a_law_heard ?l_law_heard ?c_law_heard ?k_law_heard ?a_law ?l_law ?c_law ?lc_law ?p_law ?n_law ?h_law
    case a_Yard => first | k_is | kit_is | kernel_rfl
    case y_pg => first | k_is | kit_is | kernel_rfl
    case y_hd => first | k_is | kit_is | kernel_rfl
    case y_po => first | k_is | kit_is | kernel_rfl
    case y_sa => first | k_is | kit_is | kernel_rfl
    case y_mk => first | k_is | kit_is | kernel_rfl
    case y_kc => first | k_is | kit_is | kernel_rfl
    case n_worlds => first | k_is | kit_is | kernel_rfl
    case n_states => first | k_is | kit_is | kernel_rfl
    case n_start => first | k_is | kit_is | kernel_rfl
    case n_marks => first | k_is | kit_is | kernel_rfl
    case n_pays => first | k_is | kit_is | kernel_rfl
    case y_ky => first | k_is | kit_is | kernel_rfl
    case y_ha => first | k_is | kit_is | kernel_rfl
    case s_hn => first | k_is | kit_is | kernel_rfl
    case s_ht => first | k_is | kit_is | kernel_rfl
    case y_hm => first | k_is | kit_is | kernel_rfl
    case y_kNoneType => first | k_is | kit_is | kernel_rfl
    case y_kint => first | k_is | kit_is | kernel_rfl
    case y_kstr => first | k_is | kit_is | kernel_rfl
    case y_ktuple => first | k_is | kit_is | kernel_rfl
    case a_gcd => first | k_is | kit_is | kernel_rfl
    case g_ZERO => first | k_is | kit_is | kernel_rfl
    case l_ZERO => first | k_is | kit_is | kernel_rfl
    case g_ONE => first | k_is | kit_is | kernel_rfl
    case l_ONE => first | k_is | kit_is | kernel_rfl
    case a_World => first | k_is | kit_is | kernel_rfl
    case a_CY => first | k_is | kit_is | kernel_rfl
    case l_CY => first | k_is | kit_is | kernel_rfl
    case v_CY => first | k_is | kit_is | kernel_rfl
    case sa_CY => first | k_is | kit_is | kernel_rfl
    case ex_CY => first | k_is | kit_is | kernel_rfl
    case ty_CY => first | k_is | kit_is | kernel_rfl
    case kc_CY => first | k_is | kit_is | kernel_rfl
    case in_CY => first | k_is | kit_is | kernel_rfl
    case l_fE => first | k_is | kit_is | kernel_rfl
    case c_fE => first | k_is | kit_is | kernel_rfl
    case cl_fE => first | k_is | kit_is | kernel_rfl
    case vs_fE => exact rfl
    case fi_fE => first | k_is | kit_is | kernel_rfl
    case cc_fE => first | k_is | kit_is | kernel_rfl
    case cD => first | k_is | kit_is | kernel_rfl
    case st_fE => first | k_is | kit_is | kernel_rfl
    case tp_fE => first | k_is | kit_is | kernel_rfl
    case z_super => first | k_is | kit_is | kernel_rfl
    case ty_fE => first | k_is | kit_is | kernel_rfl
    case su_CY => first | k_is | kit_is | kernel_rfl
    case nx_CY => first | k_is | kit_is | kernel_rfl
    case ve_CY => first | k_is | kit_is | kernel_rfl
    case np_CY => first | k_is | kit_is | kernel_rfl
    case hg_CY => first | k_is | kit_is | kernel_rfl
    case hk_CY => first | k_is | kit_is | kernel_rfl
    case hd_CY => first | k_is | kit_is | kernel_rfl
    case ha_CY => first | k_is | kit_is | kernel_rfl
    case hm_CY => first | k_is | kit_is | kernel_rfl
    case hc_CY => first | k_is | kit_is | kernel_rfl
    case xm_CY => first | k_is | kit_is | kernel_rfl
    case kk_CY_CY => first | k_is | kit_is | kernel_rfl
    case kk_CY_CS => first | k_is | kit_is | kernel_rfl
    case kk_CY_CN => first | k_is | kit_is | kernel_rfl
    case kk_CY_CM => first | k_is | kit_is | kernel_rfl
    case a_CS => first | k_is | kit_is | kernel_rfl
    case l_CS => first | k_is | kit_is | kernel_rfl
    case v_CS => first | k_is | kit_is | kernel_rfl
    case sa_CS => first | k_is | kit_is | kernel_rfl
    case ex_CS => first | k_is | kit_is | kernel_rfl
    case ty_CS => first | k_is | kit_is | kernel_rfl
    case kc_CS => first | k_is | kit_is | kernel_rfl
    case in_CS => first | k_is | kit_is | kernel_rfl
    case su_CS => first | k_is | kit_is | kernel_rfl
    case nx_CS => first | k_is | kit_is | kernel_rfl
    case ve_CS => first | k_is | kit_is | kernel_rfl
    case np_CS => first | k_is | kit_is | kernel_rfl
    case hg_CS => first | k_is | kit_is | kernel_rfl
    case hk_CS => first | k_is | kit_is | kernel_rfl
    case hd_CS => first | k_is | kit_is | kernel_rfl
    case ha_CS => first | k_is | kit_is | kernel_rfl
    case hm_CS => first | k_is | kit_is | kernel_rfl
    case hc_CS => first | k_is | kit_is | kernel_rfl
    case xm_CS => first | k_is | kit_is | kernel_rfl
    case kk_CS_CY => first | k_is | kit_is | kernel_rfl
    case kk_CS_CS => first | k_is | kit_is | kernel_rfl
    case kk_CS_CN => first | k_is | kit_is | kernel_rfl
    case kk_CS_CM => first | k_is | kit_is | kernel_rfl
    case a_CN => first | k_is | kit_is | kernel_rfl
    case l_CN => first | k_is | kit_is | kernel_rfl
    case v_CN => first | k_is | kit_is | kernel_rfl
    case sa_CN => first | k_is | kit_is | kernel_rfl
    case ex_CN => first | k_is | kit_is | kernel_rfl
    case ty_CN => first | k_is | kit_is | kernel_rfl
    case kc_CN => first | k_is | kit_is | kernel_rfl
    case in_CN => first | k_is | kit_is | kernel_rfl
    case su_CN => first | k_is | kit_is | kernel_rfl
    case nx_CN => first | k_is | kit_is | kernel_rfl
    case ve_CN => first | k_is | kit_is | kernel_rfl
    case np_CN => first | k_is | kit_is | kernel_rfl
    case hg_CN => first | k_is | kit_is | kernel_rfl
    case hk_CN => first | k_is | kit_is | kernel_rfl
    case hd_CN => first | k_is | kit_is | kernel_rfl
    case ha_CN => first | k_is | kit_is | kernel_rfl
    case hm_CN => first | k_is | kit_is | kernel_rfl
    case hc_CN => first | k_is | kit_is | kernel_rfl
    case xm_CN => first | k_is | kit_is | kernel_rfl
    case kk_CN_CY => first | k_is | kit_is | kernel_rfl
    case kk_CN_CS => first | k_is | kit_is | kernel_rfl
    case kk_CN_CN => first | k_is | kit_is | kernel_rfl
    case kk_CN_CM => first | k_is | kit_is | kernel_rfl
    case a_CM => first | k_is | kit_is | kernel_rfl
    case l_CM => first | k_is | kit_is | kernel_rfl
    case v_CM => first | k_is | kit_is | kernel_rfl
    case sa_CM => first | k_is | kit_is | kernel_rfl
    case ex_CM => first | k_is | kit_is | kernel_rfl
    case ty_CM => first | k_is | kit_is | kernel_rfl
    case kc_CM => first | k_is | kit_is | kernel_rfl
    case in_CM => first | k_is | kit_is | kernel_rfl
    case su_CM => first | k_is | kit_is | kernel_rfl
    case nx_CM => first | k_is | kit_is | kernel_rfl
    case ve_CM => first | k_is | kit_is | kernel_rfl
    case np_CM => first | k_is | kit_is | kernel_rfl
    case hg_CM => first | k_is | kit_is | kernel_rfl
    case hk_CM => first | k_is | kit_is | kernel_rfl
    case hd_CM => first | k_is | kit_is | kernel_rfl
    case ha_CM => first | k_is | kit_is | kernel_rfl
    case hm_CM => first | k_is | kit_is | kernel_rfl
    case hc_CM => first | k_is | kit_is | kernel_rfl
    case xm_CM => first | k_is | kit_is | kernel_rfl
    case kk_CM_CY => first | k_is | kit_is | kernel_rfl
    case kk_CM_CS => first | k_is | kit_is | kernel_rfl
    case kk_CM_CN => first | k_is | kit_is | kernel_rfl
    case kk_CM_CM => first | k_is | kit_is | kernel_rfl
    case nd_E => first | k_is | kit_is | kernel_rfl
    case a_is_integer => first | k_is | kit_is | kernel_rfl
    case l_is_integer => first | k_is | kit_is | kernel_rfl
    case c_is_integer => first | k_is | kit_is | kernel_rfl
    case k_is_integer => first | k_is | kit_is | kernel_rfl
    case z_isinstance => first | k_is | kit_is | kernel_rfl
    case z_int => first | k_is | kit_is | kernel_rfl
    case z_bool => first | k_is | kit_is | kernel_rfl
    case a_is_within => first | k_is | kit_is | kernel_rfl
    case l_is_within => first | k_is | kit_is | kernel_rfl
    case c_is_within => first | k_is | kit_is | kernel_rfl
    case k_is_within => first | k_is | kit_is | kernel_rfl
    case a_is_listed => first | k_is | kit_is | kernel_rfl
    case l_is_listed => first | k_is | kit_is | kernel_rfl
    case c_is_listed => first | k_is | kit_is | kernel_rfl
    case k_is_listed => first | k_is | kit_is | kernel_rfl
    case z_list => first | k_is | kit_is | kernel_rfl
    case z_tuple => first | k_is | kit_is | kernel_rfl
    case a_is_name => first | k_is | kit_is | kernel_rfl
    case l_is_name => first | k_is | kit_is | kernel_rfl
    case c_is_name => first | k_is | kit_is | kernel_rfl
    case k_is_name => first | k_is | kit_is | kernel_rfl
    case z_str => first | k_is | kit_is | kernel_rfl
    case z_len => first | k_is | kit_is | kernel_rfl
    case g_MOST_LETTERS => first | k_is | kit_is | kernel_rfl
    case g_LETTERS => first | k_is | kit_is | kernel_rfl
    case z_all => first | k_is | kit_is | kernel_rfl
    case a_are_unlike => first | k_is | kit_is | kernel_rfl
    case l_are_unlike => first | k_is | kit_is | kernel_rfl
    case c_are_unlike => first | k_is | kit_is | kernel_rfl
    case k_are_unlike => first | k_is | kit_is | kernel_rfl
    case a_are_names => first | k_is | kit_is | kernel_rfl
    case l_are_names => first | k_is | kit_is | kernel_rfl
    case c_are_names => first | k_is | kit_is | kernel_rfl
    case k_are_names => first | k_is | kit_is | kernel_rfl
    case a_ascends => first | k_is | kit_is | kernel_rfl
    case l_ascends => first | k_is | kit_is | kernel_rfl
    case c_ascends => first | k_is | kit_is | kernel_rfl
    case k_ascends => first | k_is | kit_is | kernel_rfl
    case z_range => first | k_is | kit_is | kernel_rfl
    case a_is_ratio => first | k_is | kit_is | kernel_rfl
    case l_is_ratio => first | k_is | kit_is | kernel_rfl
    case c_is_ratio => first | k_is | kit_is | kernel_rfl
    case k_is_ratio => first | k_is | kit_is | kernel_rfl
    case a_less => first | k_is | kit_is | kernel_rfl
    case l_less => first | k_is | kit_is | kernel_rfl
    case c_less => first | k_is | kit_is | kernel_rfl
    case k_less => first | k_is | kit_is | kernel_rfl
    case a_total => first | k_is | kit_is | kernel_rfl
    case l_total => first | k_is | kit_is | kernel_rfl
    case c_total => first | k_is | kit_is | kernel_rfl
    case k_total => first | k_is | kit_is | kernel_rfl
    case a_fixed => first | k_is | kit_is | kernel_rfl
    case l_fixed => first | k_is | kit_is | kernel_rfl
    case c_fixed => first | k_is | kit_is | kernel_rfl
    case k_fixed => first | k_is | kit_is | kernel_rfl
    case a_is_pair => first | k_is | kit_is | kernel_rfl
    case l_is_pair => first | k_is | kit_is | kernel_rfl
    case c_is_pair => first | k_is | kit_is | kernel_rfl
    case k_is_pair => first | k_is | kit_is | kernel_rfl
    case a_is_act => first | k_is | kit_is | kernel_rfl
    case l_is_act => first | k_is | kit_is | kernel_rfl
    case c_is_act => first | k_is | kit_is | kernel_rfl
    case k_is_act => first | k_is | kit_is | kernel_rfl
    case a_are_acts => first | k_is | kit_is | kernel_rfl
    case l_are_acts => first | k_is | kit_is | kernel_rfl
    case c_are_acts => first | k_is | kit_is | kernel_rfl
    case k_are_acts => first | k_is | kit_is | kernel_rfl
    case g_MOST_ACTS => first | k_is | kit_is | kernel_rfl
    case a_are_odds => first | k_is | kit_is | kernel_rfl
    case l_are_odds => first | k_is | kit_is | kernel_rfl
    case c_are_odds => first | k_is | kit_is | kernel_rfl
    case k_are_odds => first | k_is | kit_is | kernel_rfl
    case z_any => first | k_is | kit_is | kernel_rfl
    case a_is_outcome => first | k_is | kit_is | kernel_rfl
    case l_is_outcome => first | k_is | kit_is | kernel_rfl
    case c_is_outcome => first | k_is | kit_is | kernel_rfl
    case k_is_outcome => first | k_is | kit_is | kernel_rfl
    case a_are_outcomes => first | k_is | kit_is | kernel_rfl
    case l_are_outcomes => first | k_is | kit_is | kernel_rfl
    case c_are_outcomes => first | k_is | kit_is | kernel_rfl
    case k_are_outcomes => first | k_is | kit_is | kernel_rfl
    case g_MOST_OUTCOMES => first | k_is | kit_is | kernel_rfl
    case a_is_row => first | k_is | kit_is | kernel_rfl
    case l_is_row => first | k_is | kit_is | kernel_rfl
    case c_is_row => first | k_is | kit_is | kernel_rfl
    case k_is_row => first | k_is | kit_is | kernel_rfl
    case g_END => first | k_is | kit_is | kernel_rfl
    case g_LUCK => first | k_is | kit_is | kernel_rfl
    case g_MINE => first | k_is | kit_is | kernel_rfl
    case g_FOE => first | k_is | kit_is | kernel_rfl
    case a_are_states => first | k_is | kit_is | kernel_rfl
    case l_are_states => first | k_is | kit_is | kernel_rfl
    case c_are_states => first | k_is | kit_is | kernel_rfl
    case k_are_states => first | k_is | kit_is | kernel_rfl
    case a_are_marks => first | k_is | kit_is | kernel_rfl
    case l_are_marks => first | k_is | kit_is | kernel_rfl
    case c_are_marks => first | k_is | kit_is | kernel_rfl
    case k_are_marks => first | k_is | kit_is | kernel_rfl
    case g_MOST_MARKS => first | k_is | kit_is | kernel_rfl
    case a_yi => first | k_is | kit_is | kernel_rfl
    case i_yi => first | k_is | kit_is | kernel_rfl
    case l_yi => first | k_is | kit_is | kernel_rfl
    case c_yi => first | k_is | kit_is | kernel_rfl
    case k_yi => first | k_is | kit_is | kernel_rfl
    case t_yi => first | k_is | kit_is | kernel_rfl
    case e_yi => first | k_is | kit_is | kernel_rfl
    case z_sorted => first | k_is | kit_is | kernel_rfl
    case g_MOST_WORLDS => first | k_is | kit_is | kernel_rfl
    case g_MOST_STATES => first | k_is | kit_is | kernel_rfl
    case a_kind => first | k_is | kit_is | kernel_rfl
    case i_kind => first | k_is | kit_is | kernel_rfl
    case l_kind => first | k_is | kit_is | kernel_rfl
    case c_kind => first | k_is | kit_is | kernel_rfl
    case k_kind => first | k_is | kit_is | kernel_rfl
    case a_acts => first | k_is | kit_is | kernel_rfl
    case i_acts => first | k_is | kit_is | kernel_rfl
    case l_acts => first | k_is | kit_is | kernel_rfl
    case c_acts => first | k_is | kit_is | kernel_rfl
    case k_acts => first | k_is | kit_is | kernel_rfl
    case a_outcomes => first | k_is | kit_is | kernel_rfl
    case i_outcomes => first | k_is | kit_is | kernel_rfl
    case l_outcomes => first | k_is | kit_is | kernel_rfl
    case c_outcomes => first | k_is | kit_is | kernel_rfl
    case k_outcomes => first | k_is | kit_is | kernel_rfl
    case a_need_yard => first | k_is | kit_is | kernel_rfl
    case l_need_yard => first | k_is | kit_is | kernel_rfl
    case c_need_yard => first | k_is | kit_is | kernel_rfl
    case k_need_yard => first | k_is | kit_is | kernel_rfl
    case a_need_state => first | k_is | kit_is | kernel_rfl
    case l_need_state => first | k_is | kit_is | kernel_rfl
    case c_need_state => first | k_is | kit_is | kernel_rfl
    case k_need_state => first | k_is | kit_is | kernel_rfl
    case a_has_kind => first | k_is | kit_is | kernel_rfl
    case l_has_kind => first | k_is | kit_is | kernel_rfl
    case c_has_kind => first | k_is | kit_is | kernel_rfl
    case k_has_kind => first | k_is | kit_is | kernel_rfl
    case a_is_knowledge => first | k_is | kit_is | kernel_rfl
    case l_is_knowledge => first | k_is | kit_is | kernel_rfl
    case c_is_knowledge => first | k_is | kit_is | kernel_rfl
    case k_is_knowledge => first | k_is | kit_is | kernel_rfl
    case a_known => first | k_is | kit_is | kernel_rfl
    case l_known => first | k_is | kit_is | kernel_rfl
    case c_known => first | k_is | kit_is | kernel_rfl
    case k_known => first | k_is | kit_is | kernel_rfl
    case a_behind => first | k_is | kit_is | kernel_rfl
    case l_behind => first | k_is | kit_is | kernel_rfl
    case c_behind => first | k_is | kit_is | kernel_rfl
    case k_behind => first | k_is | kit_is | kernel_rfl
    case z_enumerate => first | k_is | kit_is | kernel_rfl
    case a_odds_of => first | k_is | kit_is | kernel_rfl
    case l_odds_of => first | k_is | kit_is | kernel_rfl
    case c_odds_of => first | k_is | kit_is | kernel_rfl
    case k_odds_of => first | k_is | kit_is | kernel_rfl
    case a_kept_behind => first | k_is | kit_is | kernel_rfl
    case l_kept_behind => first | k_is | kit_is | kernel_rfl
    case c_kept_behind => first | k_is | kit_is | kernel_rfl
    case k_kept_behind => first | k_is | kit_is | kernel_rfl
    case a_does_stay => first | k_is | kit_is | kernel_rfl
    case l_does_stay => first | k_is | kit_is | kernel_rfl
    case c_does_stay => first | k_is | kit_is | kernel_rfl
    case k_does_stay => first | k_is | kit_is | kernel_rfl
    case a_closed_lot => first | k_is | kit_is | kernel_rfl
    case l_closed_lot => first | k_is | kit_is | kernel_rfl
    case c_closed_lot => first | k_is | kit_is | kernel_rfl
    case k_closed_lot => first | k_is | kit_is | kernel_rfl
    case a_ranks_to => first | k_is | kit_is | kernel_rfl
    case l_ranks_to => first | k_is | kit_is | kernel_rfl
    case c_ranks_to => first | k_is | kit_is | kernel_rfl
    case k_ranks_to => first | k_is | kit_is | kernel_rfl
    case a_come_to => first | k_is | kit_is | kernel_rfl
    case l_come_to => first | k_is | kit_is | kernel_rfl
    case c_come_to => first | k_is | kit_is | kernel_rfl
    case k_come_to => first | k_is | kit_is | kernel_rfl
    case a_stay_in => first | k_is | kit_is | kernel_rfl
    case l_stay_in => first | k_is | kit_is | kernel_rfl
    case c_stay_in => first | k_is | kit_is | kernel_rfl
    case k_stay_in => first | k_is | kit_is | kernel_rfl
    case a_need_luck => first | k_is | kit_is | kernel_rfl
    case l_need_luck => first | k_is | kit_is | kernel_rfl
    case c_need_luck => first | k_is | kit_is | kernel_rfl
    case k_need_luck => first | k_is | kit_is | kernel_rfl
    case a_stay => first | k_is | kit_is | kernel_rfl
    case l_stay => first | k_is | kit_is | kernel_rfl
    case c_stay => first | k_is | kit_is | kernel_rfl
    case k_stay => first | k_is | kit_is | kernel_rfl
    case a_classes_in => first | k_is | kit_is | kernel_rfl
    case l_classes_in => first | k_is | kit_is | kernel_rfl
    case c_classes_in => first | k_is | kit_is | kernel_rfl
    case k_classes_in => first | k_is | kit_is | kernel_rfl
    case a_classes => first | k_is | kit_is | kernel_rfl
    case l_classes => first | k_is | kit_is | kernel_rfl
    case c_classes => first | k_is | kit_is | kernel_rfl
    case k_classes => first | k_is | kit_is | kernel_rfl
    case a__law_draw => first | k_is | kit_is | kernel_rfl
    case l__law_draw => first | k_is | kit_is | kernel_rfl
    case c__law_draw => first | k_is | kit_is | kernel_rfl
    case k__law_draw => first | k_is | kit_is | kernel_rfl
    case z_abs => first | k_is | kit_is | kernel_rfl
    case a__law_pick => first | k_is | kit_is | kernel_rfl
    case l__law_pick => first | k_is | kit_is | kernel_rfl
    case c__law_pick => first | k_is | kit_is | kernel_rfl
    case k__law_pick => first | k_is | kit_is | kernel_rfl
    case a__law_mixed => first | k_is | kit_is | kernel_rfl
    case l__law_mixed => first | k_is | kit_is | kernel_rfl
    case c__law_mixed => first | k_is | kit_is | kernel_rfl
    case k__law_mixed => first | k_is | kit_is | kernel_rfl
    case a__law_spread => first | k_is | kit_is | kernel_rfl
    case l__law_spread => first | k_is | kit_is | kernel_rfl
    case c__law_spread => first | k_is | kit_is | kernel_rfl
    case k__law_spread => first | k_is | kit_is | kernel_rfl
    case a__law_known => first | k_is | kit_is | kernel_rfl
    case l__law_known => first | k_is | kit_is | kernel_rfl
    case c__law_known => first | k_is | kit_is | kernel_rfl
    case k__law_known => first | k_is | kit_is | kernel_rfl
    case a__law_behind => first | k_is | kit_is | kernel_rfl
    case l__law_behind => first | k_is | kit_is | kernel_rfl
    case c__law_behind => first | k_is | kit_is | kernel_rfl
    case k__law_behind => first | k_is | kit_is | kernel_rfl
    case a__law_yard => first | k_is | kit_is | kernel_rfl
    case l__law_yard => first | k_is | kit_is | kernel_rfl
    case c__law_yard => first | k_is | kit_is | kernel_rfl
    case k__law_yard => first | k_is | kit_is | kernel_rfl
    case a__law_is_count => first | k_is | kit_is | kernel_rfl
    case l__law_is_count => first | k_is | kit_is | kernel_rfl
    case c__law_is_count => first | k_is | kit_is | kernel_rfl
    case k__law_is_count => first | k_is | kit_is | kernel_rfl
    case a__law_target => first | k_is | kit_is | kernel_rfl
    case l__law_target => first | k_is | kit_is | kernel_rfl
    case c__law_target => first | k_is | kit_is | kernel_rfl
    case k__law_target => first | k_is | kit_is | kernel_rfl
    case a__law_are_rows => first | k_is | kit_is | kernel_rfl
    case l__law_are_rows => first | k_is | kit_is | kernel_rfl
    case c__law_are_rows => first | k_is | kit_is | kernel_rfl
    case k__law_are_rows => first | k_is | kit_is | kernel_rfl
    case a__law_classes => first | k_is | kit_is | kernel_rfl
    case l__law_classes => first | k_is | kit_is | kernel_rfl
    case c__law_classes => first | k_is | kit_is | kernel_rfl
    case k__law_classes => first | k_is | kit_is | kernel_rfl
    case a__law_stays => first | k_is | kit_is | kernel_rfl
    case l__law_stays => first | k_is | kit_is | kernel_rfl
    case c__law_stays => first | k_is | kit_is | kernel_rfl
    case k__law_stays => first | k_is | kit_is | kernel_rfl
    case z_dict => first | k_is | kit_is | kernel_rfl
    case a__law_stay_right => first | k_is | kit_is | kernel_rfl
    case l__law_stay_right => first | k_is | kit_is | kernel_rfl
    case c__law_stay_right => first | k_is | kit_is | kernel_rfl
    case k__law_stay_right => first | k_is | kit_is | kernel_rfl
    case a__law_right => first | k_is | kit_is | kernel_rfl
    case l__law_right => first | k_is | kit_is | kernel_rfl
    case c__law_right => first | k_is | kit_is | kernel_rfl
    case k__law_right => first | k_is | kit_is | kernel_rfl
    case z_repr => first | k_is | kit_is | kernel_rfl
    case z_set => first | k_is | kit_is | kernel_rfl
    case a__law_pen => first | k_is | kit_is | kernel_rfl
    case l__law_pen => first | k_is | kit_is | kernel_rfl
    case c__law_pen => first | k_is | kit_is | kernel_rfl
    case k__law_pen => first | k_is | kit_is | kernel_rfl
    case a_law_heard => first | k_is | kit_is | kernel_rfl
    case l_law_heard => first | k_is | kit_is | kernel_rfl
    case c_law_heard => first | k_is | kit_is | kernel_rfl
    case k_law_heard => first | k_is | kit_is | kernel_rfl
    case a_law => first | k_is | kit_is | kernel_rfl
    case l_law => first | k_is | kit_is | kernel_rfl
    case c_law => first | k_is | kit_is | kernel_rfl
    case lc_law => first | k_is | kit_is | kernel_rfl
    case p_law => exact rfl
    case n_law => first | k_is | kit_is | kernel_rfl
    case h_law => first | k_is | kit_is | kernel_rfl
