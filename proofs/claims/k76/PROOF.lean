import PyProof.Rows.All
import Wide.All
import OpenK.AllK
import Wide.FinOn
import PySem.Challenge.RW_whocan_k76_whole_texts_of_no_arena
import HandS.ForMost
import HandS.More
import HandS.Defaults
import HandS.IsInst
import HandS.Deep
import HandS.TupAny
import HandS.TupLe
import HandS.Zip
import HandS.Conv
import HandS.Flow
import HandS.Wide
import HandS.Strs
import HandS.SortInts
import HandS.DictComp
import HandS.SetKeys
import HandS.TupSets
import HandS.ExcInit
import HandS.ExcIs
import HandS.ExcField
import HandS.ExcOwn
import HandS.ExcCtx
import HandS.Hot
import HandS.HeadHook1
import HandS.Lambda
import KE.KeyNested
import KE.GoesNew
import HandS.Style
import HandS.NamedTupSort
import PyProof.Rows.SortShellAny
import HandS.Text
import HandS.SetBool
import KE.KDictZip
import KE.KDictPairs
import PyProof.SliceList
import PyProof.ListNew
import PyProof.Rows.SeqMore
import PyProof.DictRoadsH
import HandS.Codes
import KE.KExcInit
import PyProof.ExcBaseAll.LookupError
import PyProof.ExcBaseAll.ArithmeticError
import KE.KExcIs
import HandS.HeadHook2
import HandS.HeadEnd
import HandS.Replace
import PyProof.StrOps2
import HandS.Spec
import HandS.TupMul
import HandS.EndTab
import KE.KNestM
import KE.KUnpackStar
import KE.KDictKeyed
import KE.KDictCopyH
import KE.KDictSum
import PyProof.ListMulAny
import HandS.SetFor
import HandS.RaiseMore
import KE.KStateDown
import HandS.WordsExc
import HandS.Head0
import HandS.Head1
import HandS.Head2
import KE.IntTextLaws
section
set_option Elab.async false
set_option linter.all false
set_option maxRecDepth 100000
set_option maxHeartbeats 4000000
set_option autoImplicit false
namespace PD
open PySem PySem.Spec L2
open PyProof.Rows hiding St

/-! ### data, the store, the slots -/
/-- hd n: the n-th thing of the store -/
inductive D where
  | non | bl (b : Bool) | int (i : Int) | str (x : Str) | tup (l : List D) | lst (l : List D)
  | dk (ks : List Key) (l : List D) | dt (ks : List (List Key)) (l : List D) | hd (n : Nat) | tx (xs : List Str)
instance : Inhabited D := ⟨.non⟩
/-- a thing of the store: it may change, others may name it -/
inductive MO where
  | ml (l : List D) | mk (ks : List Key) (l : List D) | mx (nm f : Str) (v : D) | mt (x : Str) | mn (ks : List NestedKey)
abbrev G := List MO
/-- a slot: data, or a list | dict of one's own that nothing else names -/
inductive LV where
  | d (x : D) | ol (l : List D) | ok (ks : List Key) (l : List D) | ot (ks : List (List Key)) (l : List D) | fn
abbrev Rho := List (Option LV)
def M (α : Type) := G → Option (α × G)

section
variable {α β : Type}
def mr (a : α) : M α := fun g => some (a, g)
def mz : M α := fun _ => none
def mb (m : M α) (k : α → M β) : M β := fun g => match m g with
  | some (a, g') => k a g'
  | none => none
def ml (o : Option α) : M α := match o with
  | some a => mr a
  | none => mz
@[simp] theorem mb_mr (a : α) (k : α → M β) : mb (mr a) k = k a := rfl
@[simp] theorem mb_mz (k : α → M β) : mb mz k = mz := rfl
theorem mb_some {m : M α} {k : α → M β} {g g' : G} {a : α} (h : m g = some (a, g')) : mb m k g = k a g' := by unfold mb; rw [h]
theorem mb_inv {m : M α} {k : α → M β} {g g2 : G} {b : β} (h : mb m k g = some (b, g2)) : ∃ a g1, m g = some (a, g1) ∧ k a g1 = some (b, g2) := by
  unfold mb at h
  cases e : m g with
  | none => rw [e] at h; cases h
  | some p => rw [e] at h; exact ⟨p.1, p.2, rfl, h⟩
theorem ml_inv {o : Option α} {g g' : G} {a : α} (h : ml o g = some (a, g')) : o = some a ∧ g' = g := by
  cases o with
  | none => cases h
  | some b => cases h; exact ⟨rfl, rfl⟩
theorem mr_inv {a b : α} {g g' : G} (h : mr a g = some (b, g')) : b = a ∧ g' = g := by cases h; exact ⟨rfl, rfl⟩
@[simp] theorem mr_ap (a : α) (g : G) : mr a g = some (a, g) := rfl
@[simp] theorem mz_ap (g : G) : (mz : M α) g = none := rfl
@[simp] theorem ml_some (a : α) : ml (some a) = mr a := rfl
@[simp] theorem ml_none : ml (none : Option α) = mz := rfl
end

/-! ### what a value stands for -/
/-- the texts that are told: their signs are signs, they are not too long -/
def sOk (x : Str) : Bool := PyData.strOk x && decide (x.length ≤ sizeLine)
/-- what stands fast: the frozen things, and where the store's things are -/
structure Fz where
  h : Hp
  mu : List Addr
instance : CoeFun Fz (fun _ => Addr → Option HO) := ⟨Fz.h⟩
structure Ext (F F' : Fz) : Prop where
  h : Same F.h F'.h
  m : F.mu <+: F'.mu
theorem Ext.refl (F : Fz) : Ext F F := ⟨Same.refl _, List.prefix_refl _⟩
theorem Ext.trans {F F' F'' : Fz} (a : Ext F F') (b : Ext F' F'') : Ext F F'' := ⟨a.h.trans b.h, a.m.trans b.m⟩
def Fz.upd (F : Fz) (p : Addr) (o : HO) : Fz := ⟨L2.upd F.h p o, F.mu⟩
theorem Ext.upd {F : Fz} {p : Addr} {o : HO} (hF : F p = none) : Ext F (F.upd p o) := ⟨fun a u h => by show L2.upd F.h p o a = some u; rw [upd_ne (ne_of_none h hF)]; exact h, List.prefix_refl _⟩
theorem Ext.mu {F F' : Fz} (s : Ext F F') {n : Nat} {a : Addr} (h : F.mu[n]? = some a) : F'.mu[n]? = some a := by
  obtain ⟨t, e⟩ := s.m
  rw [← e, List.getElem?_append_left (List.getElem?_eq_some_iff.mp h).1]
  exact h
mutual
def nkI : NestedKey → Bool
  | .num _ => true
  | .tup l => nkIA l
  | .none => false
  | .text _ => false
def nkIA : List NestedKey → Bool
  | [] => true
  | k :: l => nkI k && nkIA l
end
mutual
/-- data that may be a key of any depth, ints alone -/
def nkD : D → Option NestedKey
  | .int i => some (.num i)
  | .tup l => (nkDA l).map .tup
  | _ => none
def nkDA : List D → Option (List NestedKey)
  | [] => some []
  | d :: l => (nkD d).bind fun k => (nkDA l).map (k :: ·)
end
/-- at a stands a dict whose keys, of any depth, stand where kas tells; its values are True -/
def DNX (a : Addr) (kas : List (NestedKey × Addr)) (h : Heap) : Prop := kas.length ≤ sizeLine ∧ (a == sysModules) = false ∧ (∀ x ∈ kas, nkI x.1 = true ∧ x.1.depth ≤ 8) ∧ (kas.map (·.1)).Nodup ∧
  ∃ o es ep, h.get? a = some o ∧ o.ExactDict ∧ o.data = .dict es ep ∧ ∀ P w, es.toList = kas.map fun x => entryOfKey (nestedKind P w) (x.1, x.2, Value.bool true)
/-- at a stands a dict whose keys are tuples that stand where kas tells -/
def DTX (a : Addr) (kas : List (List Key × Addr × V)) (h : Heap) : Prop := kas.length ≤ sizeLine ∧ (a == sysModules) = false ∧ ∃ xs : List (List Key × Addr × Value),
  Paired (fun (p : List Key × Addr × V) (q : List Key × Addr × Value) => p.1 = q.1 ∧ p.2.1 = q.2.1 ∧ RelV p.2.2 q.2.2) kas xs ∧
  ∃ o es ep, h.get? a = some o ∧ o.ExactDict ∧ o.data = .dict es ep ∧ (∀ P w, es.toList = xs.map (entryOfKey (tupleKind (mixKind P w)))) ∧ (xs.map (·.1)).Nodup
mutual
inductive Rp (K : PySem.W.Frag) (F : Fz) : V → D → Prop
  | non : Rp K F .non .non
  | bl (b : Bool) : Rp K F (.bl b) (.bl b)
  | int (i : Int) : Rp K F (.int i) (.int i)
  | str (x : Str) (h : sOk x = true) : Rp K F (.str x) (.str x)
  | tup {a : Addr} {xs : List V} {ds : List D} : SqT K F.h a xs → xs.length ≤ sizeLine → RpA K F xs ds → Rp K F (.ref a) (.tup ds)
  | lst {a : Addr} {xs : List V} {ds : List D} : SqL K F.h a xs → xs.length ≤ sizeLine → RpA K F xs ds → Rp K F (.ref a) (.lst ds)
  | dk {a : Addr} {kvs : List (Key × V)} {ds : List D} : Rd F.h a (.dK kvs) → RpA K F (kvs.map (·.2)) ds → Rp K F (.ref a) (.dk (kvs.map (·.1)) ds)
  | dm {a : Addr} {kas : List (List Key × Addr × V)} {ds : List D} : Rd F.h a (.ext (DTX a kas)) → (∀ x ∈ kas, SqT K F.h x.2.1 (x.1.map kV)) → RpA K F (kas.map (·.2.2)) ds → Rp K F (.ref a) (.dt (kas.map (·.1)) ds)
  | hd {a : Addr} {n : Nat} (h : F.mu[n]? = some a) : Rp K F (.ref a) (.hd n)
  | tx {a : Addr} {o : Obj} {xs : List Str} (h : F.h a = some (.frz o (.tup (xs.map V.str)))) (hc : o.cls = .type "tuple") (hd : o.dict = none) (hz : xs.length ≤ sizeLine) (hs : ∀ x ∈ xs, sOk x = true) : Rp K F (.ref a) (.tx xs)
inductive RpA (K : PySem.W.Frag) (F : Fz) : List V → List D → Prop
  | nil : RpA K F [] []
  | cons {v : V} {vs : List V} {d : D} {ds : List D} : Rp K F v d → RpA K F vs ds → RpA K F (v :: vs) (d :: ds)
end
section
variable {K : PySem.W.Frag} {F F' : Fz}
theorem Rd.mono {H H' : Hp} {a : Addr} {u : HO} (s : Same H H') (h : Rd H a u) : Rd H' a u := by
  rcases h with h | ⟨o, h⟩
  · exact .inl (s _ _ h)
  · exact .inr ⟨o, s _ _ h⟩
theorem sqL_mono {H H' : Hp} {a : Addr} {xs : List V} (s : Same H H') (h : SqL K H a xs) : SqL K H' a xs := h.imp (Rd.mono s) id
theorem sqT_mono {H H' : Hp} {a : Addr} {xs : List V} (s : Same H H') (h : SqT K H a xs) : SqT K H' a xs := h.imp (Rd.mono s) id
theorem Rp.mono (s : Ext F F') {v : V} {d : D} (h : Rp K F v d) : Rp K F' v d :=
  Rp.rec (motive_1 := fun v d _ => Rp K F' v d) (motive_2 := fun v d _ => RpA K F' v d)
    .non .bl .int .str (fun h1 h2 _ ih => .tup (sqT_mono s.h h1) h2 ih) (fun h1 h2 _ ih => .lst (sqL_mono s.h h1) h2 ih)
    (fun h1 _ ih => .dk (Rd.mono s.h h1) ih) (fun h1 h2 _ ih => .dm (Rd.mono s.h h1) (fun x hx => sqT_mono s.h (h2 x hx)) ih) (fun h => .hd (s.mu h)) (fun h hc hd hz hs => .tx (s.h _ _ h) hc hd hz hs) .nil (fun _ _ i1 i2 => .cons i1 i2) h
theorem RpA.mono (s : Ext F F') {v : List V} {d : List D} (h : RpA K F v d) : RpA K F' v d :=
  RpA.rec (motive_1 := fun v d _ => Rp K F' v d) (motive_2 := fun v d _ => RpA K F' v d)
    .non .bl .int .str (fun h1 h2 _ ih => .tup (sqT_mono s.h h1) h2 ih) (fun h1 h2 _ ih => .lst (sqL_mono s.h h1) h2 ih)
    (fun h1 _ ih => .dk (Rd.mono s.h h1) ih) (fun h1 h2 _ ih => .dm (Rd.mono s.h h1) (fun x hx => sqT_mono s.h (h2 x hx)) ih) (fun h => .hd (s.mu h)) (fun h hc hd hz hs => .tx (s.h _ _ h) hc hd hz hs) .nil (fun _ _ i1 i2 => .cons i1 i2) h
theorem RpA.length : ∀ {vs : List V} {ds : List D}, RpA K F vs ds → vs.length = ds.length
  | _, _, .nil => rfl
  | _, _, .cons _ t => congrArg (· + 1) (RpA.length t)
theorem RpA.get : ∀ {vs : List V} {ds : List D} {i : Nat} {d : D}, RpA K F vs ds → ds[i]? = some d → ∃ v, vs[i]? = some v ∧ Rp K F v d
  | _, _, _, _, .nil, e => by simp at e
  | _, _, 0, _, .cons r _, e => by simp at e; subst e; exact ⟨_, rfl, r⟩
  | _, _, i + 1, x, .cons _ t, e => by
    obtain ⟨u, h1, h2⟩ := RpA.get (i := i) t (by simpa using e)
    exact ⟨u, by simpa using h1, h2⟩
theorem RpA.append : ∀ {vs ws : List V} {ds es : List D}, RpA K F vs ds → RpA K F ws es → RpA K F (vs ++ ws) (ds ++ es)
  | _, _, _, _, .nil, s => s
  | _, _, _, _, .cons r t, s => .cons r (RpA.append t s)
theorem RpA.take : ∀ {vs : List V} {ds : List D} (n : Nat), RpA K F vs ds → RpA K F (vs.take n) (ds.take n)
  | _, _, 0, _ => .nil
  | _, _, _ + 1, .nil => .nil
  | _, _, n + 1, .cons r t => .cons r (RpA.take n t)
theorem RpA.drop : ∀ {vs : List V} {ds : List D} (n : Nat), RpA K F vs ds → RpA K F (vs.drop n) (ds.drop n)
  | _, _, 0, r => r
  | _, _, _ + 1, .nil => .nil
  | _, _, n + 1, .cons _ t => RpA.drop n t
theorem RpA.set {v : V} {d : D} (r : Rp K F v d) : ∀ {vs : List V} {ds : List D} (i : Nat), RpA K F vs ds → RpA K F (vs.set i v) (ds.set i d)
  | _, _, _, .nil => .nil
  | _, _, 0, .cons _ t => .cons r t
  | _, _, i + 1, .cons q t => .cons q (RpA.set r i t)
theorem RpA.reverse : ∀ {vs : List V} {ds : List D}, RpA K F vs ds → RpA K F vs.reverse ds.reverse
  | _, _, .nil => .nil
  | _, _, .cons r t => by
    rw [List.reverse_cons, List.reverse_cons]
    exact (RpA.reverse t).append (.cons r .nil)
theorem RpA.ints : ∀ {vs : List V} {ns : List Int}, RpA K F vs (ns.map D.int) → vs = ns.map V.int
  | _, [], h => by cases h; rfl
  | _, n :: ns, h => by
    cases h with
    | cons r t => cases r; rw [RpA.ints t]; rfl
theorem RpA.ofInts : ∀ (ns : List Int), RpA K F (ns.map V.int) (ns.map D.int)
  | [] => .nil
  | n :: ns => .cons (.int n) (RpA.ofInts ns)
theorem RpA.bls : ∀ {vs : List V} {ns : List Bool}, RpA K F vs (ns.map D.bl) → vs = ns.map V.bl
  | _, [], h => by cases h; rfl
  | _, n :: ns, h => by
    cases h with
    | cons r t => cases r; rw [RpA.bls t]; rfl
theorem RpA.strs : ∀ {vs : List V} {ns : List Str}, RpA K F vs (ns.map D.str) → vs = ns.map V.str
  | _, [], h => by cases h; rfl
  | _, n :: ns, h => by
    cases h with
    | cons r t => cases r; rw [RpA.strs t]; rfl
theorem RpA.ofStrs : ∀ (ns : List Str), (∀ x ∈ ns, sOk x = true) → RpA K F (ns.map V.str) (ns.map D.str)
  | [], _ => .nil
  | n :: ns, h => .cons (.str n (h n List.mem_cons_self)) (RpA.ofStrs ns fun x hx => h x (List.mem_cons_of_mem _ hx))
end

/-! ### heaps -/
/-- all that stands there but the store's things -/
def off (F : Fz) (H : Hp) : Fz := ⟨fun a => if a ∈ F.mu then none else H a, F.mu⟩
theorem off_some {F : Fz} {H : Hp} {a : Addr} {o : HO} : off F H a = some o ↔ a ∉ F.mu ∧ H a = some o := by
  show (if a ∈ F.mu then none else H a) = some o ↔ _
  by_cases h : a ∈ F.mu
  · simp [h]
  · simp [h]
theorem off_sub (F : Fz) (H : Hp) : Same (off F H).h H := fun _ _ h => (off_some.mp h).2
/-- at a: an exception of the class at C, its dict at dd -/
def exK (a C dd : Addr) : HO := .ext fun h => ∃ (oe : Obj) (vs : Array Value), h.get? a = some oe ∧ oe.cls = .ref C ∧ oe.dict = some dd ∧ oe.data = .fields vs ∧ vs[2]? = some .none
/-- how the lambdas of a def are called -/
def lamQ (x : Str) : Str := x ++ ".<locals>." ++ "<lambda>"
def MOk (K : PySem.W.Frag) (F : Fz) (H : Hp) (a : Addr) : MO → Prop
  | .ml ds => ∃ vs, H a = some (.lst vs) ∧ vs.length ≤ sizeLine ∧ RpA K F vs ds
  | .mk ks ds => ∃ kvs : List (Key × V), H a = some (.dK kvs) ∧ kvs.map (·.1) = ks ∧ RpA K F (kvs.map (·.2)) ds
  | .mx nm f d => ∃ (dd : Addr) (v : V), H a = some (exK a (He.ga K nm) dd) ∧ F.h dd = some (.xd [(f, v)]) ∧ Rp K F v d
  | .mn ks => ∃ kas : List (NestedKey × Addr), kas.map (·.1) = ks ∧ ((H a = some (.dK []) ∧ kas = []) ∨ H a = some (.ext (DNX a kas))) ∧ ∀ x ∈ kas, ∃ d, Rp K F (.ref x.2) d ∧ nkD d = some x.1
  | .mt x => (∃ c, PySem.W.tabIn K x = some (c, a)) ∧ ∃ ps : Array Value, H a = some (.tbl ps) ∧ TriplesOk ps.toList ∧ ∀ (pos : Pos) (cv : Value), codeAmong pos ps.toList = some cv → ∃ c, cv = .ref c ∧ F.h c = some (LamX.CodeO c (lamQ x))
theorem MOk.mono {K : PySem.W.Frag} {F F' : Fz} {H H' : Hp} {a : Addr} {m : MO} (h : MOk K F H a m) (s : Ext F F') (e : H' a = H a) : MOk K F' H' a m := by
  cases m with
  | ml ds => obtain ⟨vs, h3, h4, h5⟩ := h; exact ⟨vs, by rw [e]; exact h3, h4, h5.mono s⟩
  | mk ks ds => obtain ⟨kvs, h3, h4, h5⟩ := h; exact ⟨kvs, by rw [e]; exact h3, h4, h5.mono s⟩
  | mx nm f d => obtain ⟨dd, v, h3, h4, h5⟩ := h; exact ⟨dd, v, by rw [e]; exact h3, s.h _ _ h4, h5.mono s⟩
  | mt x => obtain ⟨h2, ps, h3, h4, h5⟩ := h; exact ⟨h2, ps, by rw [e]; exact h3, h4, fun pos cv hc => let ⟨c, e1, e2⟩ := h5 pos cv hc; ⟨c, e1, s.h _ _ e2⟩⟩
  | mn ks => obtain ⟨kas, h3, h4, h5⟩ := h; exact ⟨kas, h3, by rw [e]; exact h4, fun x hx => let ⟨d, e1, e2⟩ := h5 x hx; ⟨d, e1.mono s, e2⟩⟩
theorem MOk.some {K : PySem.W.Frag} {F : Fz} {H : Hp} {a : Addr} {m : MO} (h : MOk K F H a m) : ∃ o, H a = Option.some o := by
  cases m with
  | ml ds => obtain ⟨vs, h3, _⟩ := h; exact ⟨_, h3⟩
  | mk ks ds => obtain ⟨vs, h3, _⟩ := h; exact ⟨_, h3⟩
  | mx nm f d => obtain ⟨dd, v, h3, _⟩ := h; exact ⟨_, h3⟩
  | mt x => obtain ⟨_, ps, h3, _⟩ := h; exact ⟨_, h3⟩
  | mn ks => obtain ⟨kas, h3, h4, h5⟩ := h; exact h4.elim (fun q => ⟨_, q.1⟩) fun q => ⟨_, q⟩
structure GRep (K : PySem.W.Frag) (g : G) (F : Fz) (H : Hp) : Prop where
  len : g.length = F.mu.length
  nd : F.mu.Nodup
  at_ : ∀ (n : Nat) (m : MO) (a : Addr), g[n]? = some m → F.mu[n]? = some a → F a = none ∧ MOk K F H a m
theorem GRep.mem {K : PySem.W.Frag} {g : G} {F : Fz} {H : Hp} (r : GRep K g F H) {a : Addr} (h : a ∈ F.mu) : F a = none ∧ ∃ o, H a = some o := by
  obtain ⟨n, hn⟩ := List.getElem?_of_mem h
  have hl := (List.getElem?_eq_some_iff.mp hn).1
  have hl2 : n < g.length := by rw [r.len]; exact hl
  obtain ⟨h1, h2⟩ := r.at_ n g[n] a (List.getElem?_eq_getElem hl2) hn
  exact ⟨h1, h2.some⟩
theorem GRep.get {K : PySem.W.Frag} {g : G} {F : Fz} {H : Hp} (r : GRep K g F H) {n : Nat} {m : MO} (h : g[n]? = some m) : ∃ a, F.mu[n]? = some a ∧ F a = none ∧ MOk K F H a m := by
  have hl := (List.getElem?_eq_some_iff.mp h).1
  have hl2 : n < F.mu.length := by rw [← r.len]; exact hl
  have hn : F.mu[n]? = some F.mu[n] := List.getElem?_eq_getElem hl2
  exact ⟨_, hn, r.at_ n m _ h hn⟩
theorem GRep.out {K : PySem.W.Frag} {g : G} {F : Fz} {H : Hp} (r : GRep K g F H) {p : Addr} (h : H p = none) : p ∉ F.mu := fun z => by
  obtain ⟨_, o, ho⟩ := r.mem z
  rw [h] at ho; cases ho
theorem GRep.outF {K : PySem.W.Frag} {g : G} {F : Fz} {H : Hp} (r : GRep K g F H) {p : Addr} {o : HO} (h : F p = some o) : p ∉ F.mu := fun z => by
  rw [(r.mem z).1] at h; cases h
/-- other frozen things, another heap: the store's things stay -/
theorem GRep.mono {K : PySem.W.Frag} {g : G} {F : Fz} {h' : Hp} {H H' : Hp} (r : GRep K g F H) (s : Same F.h h') (hF : ∀ a ∈ F.mu, h' a = none) (hH : ∀ a ∈ F.mu, H' a = H a) : GRep K g ⟨h', F.mu⟩ H' :=
  ⟨r.len, r.nd, fun n m a e1 e2 => ⟨hF a (List.mem_of_getElem? e2), (r.at_ n m a e1 e2).2.mono ⟨s, List.prefix_refl _⟩ (hH a (List.mem_of_getElem? e2))⟩⟩
structure Stp (K : PySem.W.Frag) (g g' : G) (F F' : Fz) (H H' : Hp) : Prop where
  same : ∀ a o, a ∉ F.mu → H a = some o → H' a = some o
  mono : ∀ a, H' a = none → H a = none
  ext : Ext F F'
  new : ∀ a o, F' a = some o → (∃ u, F a = some u) ∨ H a = none
  newM : ∀ a, a ∈ F'.mu → a ∈ F.mu ∨ H a = none
  sub : Same F'.h H'
  rep : GRep K g' F' H'
theorem Stp.refl {K : PySem.W.Frag} {g : G} {F : Fz} {H : Hp} (s : Same F.h H) (r : GRep K g F H) : Stp K g g F F H H :=
  ⟨fun _ _ _ h => h, fun _ h => h, Ext.refl _, fun _ o h => .inl ⟨o, h⟩, fun _ h => .inl h, s, r⟩
theorem Stp.keepM {K : PySem.W.Frag} {g g' : G} {F F' : Fz} {H H' : Hp} {p : Addr} {o : HO} (s : Stp K g g' F F' H H') (hm : p ∉ F.mu) (hH : H p = some o) : p ∉ F'.mu := fun z => by
  rcases s.newM p z with h | h
  · exact hm h
  · rw [hH] at h; cases h
theorem Stp.trans {K : PySem.W.Frag} {g g1 g2 : G} {F F1 F2 : Fz} {H H1 H2 : Hp} (a : Stp K g g1 F F1 H H1) (b : Stp K g1 g2 F1 F2 H1 H2) : Stp K g g2 F F2 H H2 where
  same := fun x o hg h => b.same x o (a.keepM hg h) (a.same x o hg h)
  mono := fun x h => a.mono x (b.mono x h)
  ext := a.ext.trans b.ext
  new := fun x o h => by
    rcases b.new x o h with ⟨u, h1⟩ | h1
    · exact a.new x u h1
    · exact .inr (a.mono x h1)
  newM := fun x h => by
    rcases b.newM x h with h1 | h1
    · exact a.newM x h1
    · exact .inr (a.mono x h1)
  sub := b.sub
  rep := b.rep
theorem Stp.off {K : PySem.W.Frag} {g g' : G} {F F' : Fz} {H H' : Hp} (a : Stp K g g' F F' H H') : Ext (off F H) (off F' H') := ⟨fun x o h => by
  obtain ⟨h1, h2⟩ := off_some.mp h
  exact off_some.mpr ⟨a.keepM h1 h2, a.same x o h1 h2⟩, a.ext.m⟩
theorem Stp.offF {K : PySem.W.Frag} {g g' : G} {F F' : Fz} {H H' : Hp} (a : Stp K g g' F F' H H') : Ext F' (PD.off F' H') := ⟨fun x o h => off_some.mpr ⟨a.rep.outF h, a.sub x o h⟩, List.prefix_refl _⟩
/-- a new object, frozen at once -/
theorem Stp.alloc {K : PySem.W.Frag} {g : G} {F : Fz} {H : Hp} {p : Addr} {o : HO} (s : Same F.h H) (r : GRep K g F H) (hp : H p = none) : Stp K g g F (F.upd p o) H (upd H p o) := by
  have hF : F p = none := s.free hp
  have hm : p ∉ F.mu := r.out hp
  have ne : ∀ a ∈ F.mu, a ≠ p := fun a ha z => hm (by rw [← z]; exact ha)
  refine ⟨fun a u _ h => ?_, fun a h => ?_, .upd hF, fun a u h => ?_, fun a h => .inl h, fun a u h => ?_, ?_⟩
  · rw [upd_ne (ne_of_none h hp)]; exact h
  · by_cases e : a = p
    · subst e; exact hp
    · rw [upd_ne e] at h; exact h
  · by_cases e : a = p
    · subst e; exact .inr hp
    · have h : L2.upd F.h p o a = some u := h
      rw [upd_ne e] at h; exact .inl ⟨u, h⟩
  · have h : L2.upd F.h p o a = some u := h
    by_cases e : a = p
    · subst e; rw [upd_same] at h ⊢; exact h
    · rw [upd_ne e] at h ⊢; exact s a u h
  · exact r.mono (Ext.upd hF).h (fun a ha => by rw [upd_ne (ne a ha)]; exact (r.mem ha).1) fun a ha => upd_ne (ne a ha)
/-- a new object, not frozen -/
theorem Stp.allocO {K : PySem.W.Frag} {g : G} {F : Fz} {H : Hp} {p : Addr} {o : HO} (s : Same F.h H) (r : GRep K g F H) (hp : H p = none) : Stp K g g F F H (upd H p o) := by
  have hm : p ∉ F.mu := r.out hp
  have ne : ∀ a ∈ F.mu, a ≠ p := fun a ha z => hm (by rw [← z]; exact ha)
  refine ⟨fun a u _ h => ?_, fun a h => ?_, Ext.refl _, fun a u h => .inl ⟨u, h⟩, fun a h => .inl h, fun a u h => ?_, ?_⟩
  · rw [upd_ne (ne_of_none h hp)]; exact h
  · by_cases e : a = p
    · subst e; exact hp
    · rw [upd_ne e] at h; exact h
  · rw [upd_ne (ne_of_none (s a u h) hp)]; exact s a u h
  · exact r.mono (Same.refl _) (fun a ha => (r.mem ha).1) fun a ha => upd_ne (ne a ha)
/-- a new object of the store -/
theorem Stp.allocM {K : PySem.W.Frag} {g : G} {F : Fz} {H : Hp} {p : Addr} {o : HO} {m : MO} (s : Same F.h H) (r : GRep K g F H) (hp : H p = none) (ok : MOk K F (L2.upd H p o) p m) : Stp K g (g ++ [m]) F ⟨F.h, F.mu ++ [p]⟩ H (L2.upd H p o) := by
  have hm : p ∉ F.mu := r.out hp
  have hF : F p = none := s.free hp
  have ne : ∀ a ∈ F.mu, a ≠ p := fun a ha z => hm (by rw [← z]; exact ha)
  have ex : Ext F ⟨F.h, F.mu ++ [p]⟩ := ⟨Same.refl _, List.prefix_append _ _⟩
  refine ⟨fun a u _ h => ?_, fun a h => ?_, ex, fun a u h => .inl ⟨u, h⟩, fun a h => ?_, fun a u h => ?_, ⟨by simp [r.len], ?_, fun n x a h1 h2 => ?_⟩⟩
  · rw [upd_ne (ne_of_none h hp)]; exact h
  · by_cases e : a = p
    · subst e; exact hp
    · rw [upd_ne e] at h; exact h
  · rcases List.mem_append.mp h with h | h
    · exact .inl h
    · rw [List.mem_singleton.mp h]; exact .inr hp
  · rw [upd_ne (ne_of_none (s a u h) hp)]; exact s a u h
  · refine List.nodup_append.mpr ⟨r.nd, by simp, fun a ha b hb => ?_⟩
    rw [List.mem_singleton.mp hb]
    exact ne a ha
  · have h2 : (F.mu ++ [p])[n]? = some a := h2
    by_cases hn : n < g.length
    · rw [List.getElem?_append_left hn] at h1
      rw [List.getElem?_append_left (by rw [← r.len]; exact hn)] at h2
      obtain ⟨q1, q2⟩ := r.at_ n x a h1 h2
      exact ⟨q1, q2.mono ex (upd_ne (ne a (List.mem_of_getElem? h2)))⟩
    · have hn2 : n = g.length := by
        have := (List.getElem?_eq_some_iff.mp h1).1
        simp at this
        omega
      subst hn2
      rw [List.getElem?_append_right (Nat.le_refl _)] at h1
      rw [List.getElem?_append_right (by rw [r.len]; exact Nat.le_refl _), r.len] at h2
      simp at h1 h2
      subst h1 h2
      exact ⟨hF, ok.mono ex rfl⟩

/-! ### the slots -/
/-- the function that is handed over just now: its value, and what is known of all that stands fast meanwhile -/
class Live where
  v : V
  J : Fz → Prop
  step : ∀ {F F' : Fz}, Ext F F' → J F → J F'
/-- none -/
instance liveNone : Live := ⟨.non, fun _ => False, fun _ h => h⟩
section
variable [Live]
def SlotOk (K : PySem.W.Frag) (F : Fz) (H : Hp) (g : G) (v : V) : LV → Prop
  | .d x => Rp K F v x
  | .ol ds => ∃ p vs, v = .ref p ∧ F p = none ∧ p ∉ F.mu ∧ H p = some (.lst vs) ∧ vs.length ≤ sizeLine ∧ RpA K F vs ds
  | .ok ks ds => ∃ p, ∃ kvs : List (Key × V), v = .ref p ∧ F p = none ∧ p ∉ F.mu ∧ H p = some (.dK kvs) ∧ kvs.map (·.1) = ks ∧ RpA K F (kvs.map (·.2)) ds
  | .ot ks ds => ∃ p, ∃ kas : List (List Key × Addr × V), v = .ref p ∧ F p = none ∧ p ∉ F.mu ∧ H p = some (.ext (DTX p kas)) ∧ (kas.map (·.1) = ks ∧ ∀ x ∈ kas, SqT K F.h x.2.1 (x.1.map kV)) ∧ RpA K F (kas.map (·.2.2)) ds
  | .fn => v = Live.v ∧ Live.J F
def LV.own : LV → Bool
  | .d _ => false
  | .fn => false
  | _ => true
def Owned (ρ : Rho) (σ : St) (i : Nat) (p : Addr) : Prop := ∃ lv, ρ[i]? = some (some lv) ∧ lv.own = true ∧ σ[i]? = some (some (.ref p))
structure Sl (K : PySem.W.Frag) (F : Fz) (H : Hp) (g : G) (ρ : Rho) (σ : St) : Prop where
  len : ρ.length = σ.length
  at_ : ∀ (i : Nat) (lv : LV), ρ[i]? = some (some lv) → ∃ v, σ[i]? = some (some v) ∧ SlotOk K F H g v lv
  sep : ∀ (i j : Nat) (p : Addr), Owned ρ σ i p → Owned ρ σ j p → i = j
structure PreE (K : PySem.W.Frag) (F : Fz) (H : Hp) (g : G) (ρ : Rho) (σ : St) : Prop where
  sub : Same F.h H
  rep : GRep K g F H
  sl : Sl K F H g ρ σ
theorem SlotOk.step {K : PySem.W.Frag} {g g' : G} {F F' : Fz} {H H' : Hp} {v : V} {lv : LV} (h : SlotOk K F H g v lv) (s : Stp K g g' F F' H H') : SlotOk K F' H' g' v lv := by
  have key : ∀ p o, F p = none → H p = some o → F' p = none := fun p o h1 h2 => by
    cases e : F' p with
    | none => rfl
    | some u =>
      rcases s.new p u e with ⟨w, h3⟩ | h3
      · rw [h1] at h3; cases h3
      · rw [h2] at h3; cases h3
  cases lv with
  | d x => exact Rp.mono s.ext h
  | ol ds => obtain ⟨p, vs, h1, h2, h3, h4, h5, h6⟩ := h; exact ⟨p, vs, h1, key p _ h2 h4, s.keepM h3 h4, s.same _ _ h3 h4, h5, h6.mono s.ext⟩
  | ok ks ds => obtain ⟨p, vs, h1, h2, h3, h4, h5, h6⟩ := h; exact ⟨p, vs, h1, key p _ h2 h4, s.keepM h3 h4, s.same _ _ h3 h4, h5, h6.mono s.ext⟩
  | ot ks ds => obtain ⟨p, vs, h1, h2, h3, h4, h5, h6⟩ := h; exact ⟨p, vs, h1, key p _ h2 h4, s.keepM h3 h4, s.same _ _ h3 h4, ⟨h5.1, fun x hx => sqT_mono s.ext.h (h5.2 x hx)⟩, h6.mono s.ext⟩
  | fn => exact ⟨h.1, Live.step s.ext h.2⟩
theorem PreE.step {K : PySem.W.Frag} {g g' : G} {F F' : Fz} {H H' : Hp} {ρ : Rho} {σ : St} (h : PreE K F H g ρ σ) (s : Stp K g g' F F' H H') : PreE K F' H' g' ρ σ :=
  ⟨s.sub, s.rep, h.sl.len, fun i lv e => let ⟨v, h1, h2⟩ := h.sl.at_ i lv e; ⟨v, h1, h2.step s⟩, h.sl.sep⟩
theorem PreE.refl {K : PySem.W.Frag} {g : G} {F : Fz} {H : Hp} {ρ : Rho} {σ : St} (h : PreE K F H g ρ σ) : Stp K g g F F H H := Stp.refl h.sub h.rep

/-! ### the judgements -/
abbrev E := Rho → M D
abbrev EA := Rho → M (List D)
abbrev T := Rho → M Bool
section
variable (X : Cx)
def PD (e : Expr) (f : E) : Prop := ∃ t, PE X e t ∧ ∀ σ H F ρ g, PreE X.K F H g ρ σ → ∀ d g', f ρ g = some (d, g') → ∀ Q : VK,
  (∀ v H' F', Stp X.K g g' F F' H H' → Rp X.K F' v d → Q v H') → t σ H Q
/-- the value may name what is one's own: to be used up at once -/
def PB (e : Expr) (f : E) : Prop := ∃ t, PE X e t ∧ ∀ σ H F ρ g, PreE X.K F H g ρ σ → ∀ d g', f ρ g = some (d, g') → ∀ Q : VK,
  (∀ v H' F', Stp X.K g g' F F' H H' → Rp X.K (off F' H') v d → Q v H') → t σ H Q
def PDT (e : Expr) (f : T) : Prop := ∃ t, PT X e t ∧ ∀ σ H F ρ g, PreE X.K F H g ρ σ → ∀ b g', f ρ g = some (b, g') → ∀ Q : Bool → Hp → Prop,
  (∀ H' F', Stp X.K g g' F F' H H' → Q b H') → t σ H Q
def PDW (e : Expr) (f : T) : Prop := ∃ t, PW X e t ∧ ∀ σ H F ρ g, PreE X.K F H g ρ σ → ∀ b g', f ρ g = some (b, g') → ∀ Q : Bool → Hp → Prop,
  (∀ H' F', Stp X.K g g' F F' H H' → Q b H') → t σ H Q
def PDA (es : List Expr) (f : EA) : Prop := ∃ t, PA X es t ∧ ∀ σ H F ρ g, PreE X.K F H g ρ σ → ∀ ds g', f ρ g = some (ds, g') → ∀ Q : List V → Hp → Prop,
  (∀ vs H' F', Stp X.K g g' F F' H H' → RpA X.K F' vs ds → Q vs H') → t σ H Q
def PBA (es : List Expr) (f : EA) : Prop := ∃ t, PA X es t ∧ ∀ σ H F ρ g, PreE X.K F H g ρ σ → ∀ ds g', f ρ g = some (ds, g') → ∀ Q : List V → Hp → Prop,
  (∀ vs H' F', Stp X.K g g' F F' H H' → RpA X.K (off F' H') vs ds → Q vs H') → t σ H Q
end
end
end PD
end
section
set_option Elab.async false
set_option linter.all false
set_option maxRecDepth 100000
set_option maxHeartbeats 4000000
set_option autoImplicit false
namespace PD
open PySem PySem.Spec L2
open PyProof.Rows hiding St
variable [Live]

/-! ### a def's promise, where no repr is under way -/
structure FnG (P : Program) (w : World) (K : PySem.W.Frag) (mg : Str → Option Value) (base : Heap) (CX : CXT) (k : Nat) (f : Addr) (fd : FuncData) (ps : List Str) (sp : Sp) : Prop where
  len : ∀ vs H Q E, sp vs H Q E → vs.length = ps.length
  run : ∀ (A : Around) (outer : List Env) (s : Shared) (H : Hp) (args : Args) (us : List Value) (vs : List V) (Q : VK) (E : XK), Room k A → A.guards = some [] →
    Env0 P w K mg base A outer s H → BindsTo s fd args (ps.zip us) → Vals vs us → sp vs H Q E → codeAny (model P w) A (.call (.ref f) args) (CR CX outer P w H s Q E) s
theorem FnG.mono {P : Program} {w : World} {K : PySem.W.Frag} {mg : Str → Option Value} {base : Heap} {CX : CXT} {j k : Nat} {f : Addr} {fd : FuncData} {ps : List Str} {sp : Sp}
    (F : FnG P w K mg base CX j f fd ps sp) (h : j ≤ k) : FnG P w K mg base CX k f fd ps sp :=
  ⟨F.len, fun A outer s H args us vs Q E r => F.run A outer s H args us vs Q E (r.mono h)⟩
theorem FnG.imp {P : Program} {w : World} {K : PySem.W.Frag} {mg : Str → Option Value} {base : Heap} {CX : CXT} {k : Nat} {f : Addr} {fd : FuncData} {ps : List Str} {sp sp' : Sp}
    (F : FnG P w K mg base CX k f fd ps sp) (h : ∀ vs H Q E, sp' vs H Q E → sp vs H Q E) : FnG P w K mg base CX k f fd ps sp' :=
  ⟨fun vs H Q E q => F.len vs H Q E (h _ _ _ _ q), fun A o s H args us vs Q E r gd e b v q => F.run A o s H args us vs Q E r gd e b v (h _ _ _ _ q)⟩
section
variable {X : Cx} {CX : CXT} {k : Nat} {f : Addr} {fd : FuncData} {ps : List Str} {sp : Sp} {dvs : List V} {ds : List Value} {E : XK} {x : Str} {p pos : Pos} {e : Expr} {es : List Expr} {t : TA}
theorem run_g {pins : List (Addr × Obj)} {σ : St} {H : Hp} {s : Shared} {Q : VK} {us : List Value} {vs : List V} (F : FnG X.prog X.w X.K X.mg X.base CX k f fd ps sp) (hr : Room k X.A)
    (gd : X.A.guards = some []) (hb : Binds X.K fd ps ds) (hd : Vals dvs ds) (hx : Passes CX X E) (I : Inv X pins σ H s) (r : Vals vs us) (h : sp (vs ++ dvs) H Q E) :
    wpAny (model X.prog X.w) X.A (call (.ref f) us) (EP X pins σ Q) X.xe s := by
  have all := r.append hd
  have hn : (us ++ ds).length = ps.length := all.length.symm.trans (F.len _ _ _ _ h)
  refine wpAny_call (codeAny_mono (F.run X.A X.stack s H ⟨us, []⟩ (us ++ ds) (vs ++ dvs) Q E hr gd I.env0 (hb s us I.kIn hn) all h) fun res s' hq => ?_)
  match res, hq with
  | .error er, hq => exact hx pins σ H s er s' I hq
  | .ok (.ret u), hq => exact I.after hq
  | .ok .next, hq => exact False.elim hq
  | .ok .brk, hq => exact False.elim hq
  | .ok .cont, hq => exact False.elim hq
theorem pe_callG (F : FnG X.prog X.w X.K X.mg X.base CX k f fd ps sp) (hr : Room k X.A) (gd : X.A.guards = some []) (hg : Gl X x) (hm : X.mg x = some (.ref f)) (hk : PySem.W.keepIn X.K (.ref f) = true)
    (hb : Binds X.K fd ps ds) (hd : Vals dvs ds) (hx : Passes CX X E) (ha : PA X (e :: es) t) (hdb : (x == ("__debug__" : Str)) = false := by decide)
    (he : starEach (e :: es) X.env = (false, eval e X.env) :: starEach es X.env := by rfl) (hpl : (backTo pos (starEach es X.env)).any (·.1) = false := by rfl) : PE X (.Call (.Name x p) (e :: es) [] pos) (tCall sp dvs E t) :=
  ⟨fun pins s σ H Q I h => wpAny_Call_Name_kw (ld_glob I hg hm
    (PySem.W.callWith_K (h₀ := X.base) I.ok.mod.kin hk (thn (ha.run pos pins s σ H _ I h) fun us s1 ⟨vs, H1, I1, r, q⟩ => ⟨I1.kIn, run_g F hr gd hb hd hx I1 r q⟩) he hpl) hdb)⟩
end
/-- the rule for a def -/
theorem fn_g {CX : CXT} {P : Program} {w : World} {K : PySem.W.Frag} {mg : Str → Option Value} {base : Heap} {k : Nat} {f : Addr} {x qual : Str} {params : Arguments} {body : List Stmt} {scope : Scope} {dvs : List V} {kws : List (Str × V)} {fd : FuncData}
    {N ps : List Str} {sp : Sp} (F : FunD K x qual params body scope dvs kws f fd) (S : FnScope N ps scope) (len : ∀ vs H Q E, sp vs H Q E → vs.length = ps.length)
    (hbody : ∀ (cdv : Value) (A : Around) (outer : List Env) (s : Shared) (H : Hp) (vs : List V) (Q : VK) (E : XK), Room k (A.deeper (envOfC qual scope s.heap.objs.size f cdv)) →
      (A.deeper (envOfC qual scope s.heap.objs.size f cdv)).guards = some [] → sp vs H Q E →
      ∃ t, PSs (cxOf CX P w K mg base N qual scope f cdv A outer s H E) body t ∧ t { nx := fun _ H' => Q .non H', rt := Q } (start N vs) H) : FnG P w K mg base CX (k + 1) f fd ps sp := by
  obtain ⟨oc, od, dV, kV, doc, pm, an, cdv, ct, osl, rfl, lk, hcd, _, _⟩ := F.ex
  refine ⟨len, fun A outer s H args us vs Q E hr gd e0 hb r hsp => ?_⟩
  have hl := len _ _ _ _ hsp
  have old : ∀ b o, base.get? b = some o → s.heap.get? b = some o := fun b o e => (e0.bs b o e).1
  have KX : K.In s.heap := e0.mod.kin.keeps old
  refine codeAny_call_function hr.depth (KX _ _ lk) rfl S.co S.gen rfl (PySem.W.codeRec_of KX hcd) (hb _ _ _ _ ?_)
  refine wpAny_newFunctionEnv_cells S.kind (fun y hy => ?_) fun env he s1 z => ?_
  · obtain ⟨n, v⟩ := y
    have q := S.par n (List.of_mem_zip hy).1
    exact q.imp id fun q => ⟨q, PySem.W.cellsFrom_some _ _ _ (.inl q)⟩
  subst he
  refine ⟨(e0.mod.nolimit.keeps old).keeps z.toInCall.keep, codeAny_func ?_⟩
  obtain ⟨t, ht, hq⟩ := hbody cdv A outer s H vs Q E (hr.deeper _) gd hsp
  have I := inv_start (CX := CX) (w := w) (K := K) (mg := mg) (base := base) (E := E) S hr.hd e0 hl r z
  refine wpAny_mono (ht.run [] s1 (start N vs) H _ I hq) (fun fl s' hs => ?_) fun _ _ hs => hs
  match fl, hs with
  | .ret u, ⟨v, _, H', J, rv, q⟩ => exact ⟨v, H', J.os, J.bare, J.base, J.hok, rv, q⟩
  | .next, ⟨_, H', J, q⟩ => exact ⟨V.non, H', J.os, J.bare, J.base, J.hok, rfl, q⟩
  | .brk, ⟨_, _, _, q⟩ => exact False.elim q
  | .cont, ⟨_, _, _, q⟩ => exact False.elim q
end PD
end
section
set_option Elab.async false
set_option linter.all false
set_option maxRecDepth 100000
set_option maxHeartbeats 4000000
set_option autoImplicit false
namespace PD
open PySem PySem.Spec L2
open PyProof.Rows hiding St
variable [Live]

/-! ### names, constants -/
def LV.get : LV → D
  | .d x => x
  | .ol l => .lst l
  | .ok ks l => .dk ks l
  | .ot ks l => .dt ks l
  | .fn => .non
def eVar (i : Nat) : E := fun ρ => ml (match ρ[i]? with
  | some (some (.d x)) => some x
  | _ => none)
def eOwn (i : Nat) : E := fun ρ => ml (match ρ[i]? with
  | some (some .fn) => none
  | some (some lv) => some lv.get
  | _ => none)
def eC (d : D) : E := fun _ => mr d
section
variable {X : Cx} {a b c e : Expr} {f fa fb fc : E} {pos : Pos}
theorem PD.weak (h : PD X e f) : PB X e f := by
  obtain ⟨t, ht, k⟩ := h
  exact ⟨t, ht, fun σ H F ρ g pre d g' e Q q => k σ H F ρ g pre d g' e Q fun v H' F' s r => q v H' F' s (r.mono s.offF)⟩
theorem pd_var (i : Nat) {x : Str} (hN : X.N[i]? = some x := by rfl) (hv : Vis X.env.scope x := by first | exact Or.inl rfl | exact Or.inr (Or.inl rfl) | exact Or.inr (Or.inr rfl))
    (hd : (x == ("__debug__" : Str)) = false := by decide) (hcd : (x == ("__classdict__" : Str)) = false := by decide) : PD X (.Name x pos) (eVar i) := by
  refine ⟨_, pe_var hN hv hd hcd, fun σ H F ρ g pre d g' e Q q => ?_⟩
  obtain ⟨e1, rfl⟩ := ml_inv e
  cases h : ρ[i]? with
  | none => rw [h] at e1; cases e1
  | some o =>
    rw [h] at e1
    match o, e1, h with
    | some (.d x), rfl, h =>
      obtain ⟨v, h1, h2⟩ := pre.sl.at_ i _ h
      exact ⟨v, h1, q v H F pre.refl h2⟩
theorem slot_off {K : PySem.W.Frag} {F : Fz} {H : Hp} {g : G} {ρ : Rho} {σ : St} {v : V} {lv : LV} (pre : PreE K F H g ρ σ) (h : SlotOk K F H g v lv) (hn : lv ≠ .fn) : Rp K (off F H) v lv.get := by
  have sF : Ext F (off F H) := pre.refl.offF
  match lv, h with
  | .d x, h => exact Rp.mono sF h
  | .ol l, ⟨p, vs, e, _, h3, h4, h5, h6⟩ => subst e; exact .lst (.of (off_some.mpr ⟨h3, h4⟩)) h5 (h6.mono sF)
  | .ok ks l, ⟨p, vs, e, _, h3, h4, h5, h6⟩ => subst e; subst h5; exact .dk (.inl (off_some.mpr ⟨h3, h4⟩)) (h6.mono sF)
  | .ot ks l, ⟨p, vs, e, _, h3, h4, h5, h6⟩ => subst e; obtain ⟨rfl, h5⟩ := h5; exact .dm (.inl (off_some.mpr ⟨h3, h4⟩)) (fun x hx => sqT_mono sF.h (h5 x hx)) (h6.mono sF)
  | .fn, h => exact absurd rfl hn
theorem pb_own (i : Nat) {x : Str} (hN : X.N[i]? = some x := by rfl) (hv : Vis X.env.scope x := by first | exact Or.inl rfl | exact Or.inr (Or.inl rfl) | exact Or.inr (Or.inr rfl))
    (hd : (x == ("__debug__" : Str)) = false := by decide) (hcd : (x == ("__classdict__" : Str)) = false := by decide) : PB X (.Name x pos) (eOwn i) := by
  refine ⟨_, pe_var hN hv hd hcd, fun σ H F ρ g pre d g' e Q q => ?_⟩
  obtain ⟨e1, rfl⟩ := ml_inv e
  cases h : ρ[i]? with
  | none => rw [h] at e1; cases e1
  | some o =>
    rw [h] at e1
    cases o with
    | none => cases e1
    | some lv =>
      have hn : lv ≠ .fn := fun z => by subst z; cases e1
      have e2 : some lv.get = some d := by
        cases lv with
        | fn => exact absurd rfl hn
        | _ => exact e1
      cases e2
      obtain ⟨v, h1, h2⟩ := pre.sl.at_ i _ h
      exact ⟨v, h1, q v H F pre.refl (slot_off pre h2 hn)⟩
theorem pd_c {t : V} {d : D} (h : PE X e (tC t)) (r : ∀ F, Rp X.K F t d) : PD X e (eC d) := by
  refine ⟨_, h, fun σ H F ρ g pre d' g' e Q q => ?_⟩
  obtain ⟨rfl, rfl⟩ := mr_inv e
  exact q _ H F pre.refl (r F)
theorem pd_int {i : Int} {j : Nat} : PD X (.Constant (.int i) j pos) (eC (.int i)) := pd_c pe_int fun _ => .int i
theorem pd_str {x : Str} {j : Nat} (h : sOk x = true := by decide +kernel) : PD X (.Constant (.str x) j pos) (eC (.str x)) := pd_c pe_str fun _ => .str x h
theorem pd_bl {b : Bool} {j : Nat} : PD X (.Constant (.bool b) j pos) (eC (.bl b)) := pd_c pe_bl fun _ => .bl b
theorem pd_non {j : Nat} : PD X (.Constant .none j pos) (eC .non) := pd_c pe_non fun _ => .non
/-- a module's number, text -/
theorem pd_gint {x : Str} {i : Int} (hm : ∃ t, X.mg x = some (.int i t)) (hg : Gl X x := by rfl) (hd : (x == ("__debug__" : Str)) = false := by decide) : PD X (.Name x pos) (eC (.int i)) := by
  obtain ⟨t, hm⟩ := hm
  exact pd_c (pe_glob (v := .int i) hg hm ⟨t, rfl⟩ hd) fun _ => .int i
theorem pd_gstr {x z : Str} (hm : ∃ t, X.mg x = some (.str z t)) (hz : sOk z = true := by decide +kernel) (hg : Gl X x := by rfl) (hd : (x == ("__debug__" : Str)) = false := by decide) : PD X (.Name x pos) (eC (.str z)) := by
  obtain ⟨t, hm⟩ := hm
  exact pd_c (pe_glob (v := .str z) hg hm ⟨t, rfl⟩ hd) fun _ => .str z hz

/-! ### two operands -/
def eOp (h : D → D → Option D) (a b : E) : E := fun ρ => mb (a ρ) fun x => mb (b ρ) fun y => ml (h x y)
/-- a reading of values, by data; the new parts are frozen -/
def OpD (K : PySem.W.Frag) (r : R2) (h : D → D → Option D) : Prop := ∀ (F : Fz) (H : Hp) g x y dx dy d, Same F.h H → GRep K g F H → Rp K F x dx → Rp K F y dy → h dx dy = some d →
  ∀ Q : VK, (∀ v H' F', Stp K g g F F' H H' → Rp K F' v d → Q v H') → r x y H Q
/-- a reading of values by data that gives a truth -/
def OpB (K : PySem.W.Frag) (r : R2) (h : D → D → Option Bool) : Prop := ∀ (W : Fz) (H : Hp) x y dx dy b, Same W.h H → Rp K W x dx → Rp K W y dy → h dx dy = some b → ∀ Q : VK, Q (.bl b) H → r x y H Q
theorem pd_op {op : Operator} {r : R2} {h : D → D → Option D} (ho : OpR X (binaryOp op) r) (hh : OpD X.K r h) (ha : PD X a fa) (hb : PD X b fb) : PD X (.BinOp a op b pos) (eOp h fa fb) := by
  obtain ⟨ta, pa, ka⟩ := ha
  obtain ⟨tb, pb, kb⟩ := hb
  refine ⟨_, pe_op ho pa pb, fun σ H F ρ g pre d g' e Q q => ?_⟩
  obtain ⟨dx, g1, e1, e⟩ := mb_inv e
  obtain ⟨dy, g2, e2, e⟩ := mb_inv e
  obtain ⟨e3, rfl⟩ := ml_inv e
  refine ka σ H F ρ g pre dx g1 e1 _ fun x H1 F1 s1 r1 => ?_
  refine kb σ H1 F1 ρ g1 (pre.step s1) dy g' e2 _ fun y H2 F2 s2 r2 => ?_
  exact hh F2 H2 g' x y dx dy d s2.sub s2.rep (r1.mono s2.ext) r2 e3 Q fun v H3 F3 s3 r3 => q v H3 F3 ((s1.trans s2).trans s3) r3
def eCmp (h : D → D → Option Bool) (a b : E) : E := fun ρ => mb (a ρ) fun x => mb (b ρ) fun y => ml ((h x y).map D.bl)
theorem pd_cmp {op : CmpOp} {r : R2} {h : D → D → Option Bool} (ho : OpR X (compareOp op) r) (hh : OpB X.K r h) (ha : PB X a fa) (hb : PB X b fb) (hm : behindInMarks op b = false := by first | exact nomark _ | rfl) :
    PD X (.Compare a [op] [b] pos) (eCmp h fa fb) := by
  obtain ⟨ta, pa, ka⟩ := ha
  obtain ⟨tb, pb, kb⟩ := hb
  refine ⟨_, pe_cmpR ho pa pb hm, fun σ H F ρ g pre d g' e Q q => ?_⟩
  obtain ⟨dx, g1, e1, e⟩ := mb_inv e
  obtain ⟨dy, g2, e2, e⟩ := mb_inv e
  obtain ⟨e3, rfl⟩ := ml_inv e
  obtain ⟨b, e4, rfl⟩ := Option.map_eq_some_iff.mp e3
  refine ka σ H F ρ g pre dx g1 e1 _ fun x H1 F1 s1 r1 => ?_
  refine kb σ H1 F1 ρ g1 (pre.step s1) dy g' e2 _ fun y H2 F2 s2 r2 => ?_
  exact hh (off F2 H2) H2 x y dx dy b (off_sub _ _) (r1.mono s2.off) r2 e4 Q (q _ H2 F2 (s1.trans s2) (.bl b))
def tCmp (h : D → D → Option Bool) (a b : E) : T := fun ρ => mb (a ρ) fun x => mb (b ρ) fun y => ml (h x y)
theorem pdt_cmp {op : CmpOp} {r : R2} {h : D → D → Option Bool} (ho : OpR X (compareOp op) r) (hh : OpB X.K r h) (ha : PB X a fa) (hb : PB X b fb) (hm : behindInMarks op b = false := by first | exact nomark _ | rfl) :
    PDT X (.Compare a [op] [b] pos) (tCmp h fa fb) := by
  obtain ⟨ta, pa, ka⟩ := ha
  obtain ⟨tb, pb, kb⟩ := hb
  refine ⟨_, pt_cmpR ho pa pb hm, fun σ H F ρ g pre d g' e Q q => ?_⟩
  obtain ⟨dx, g1, e1, e⟩ := mb_inv e
  obtain ⟨dy, g2, e2, e⟩ := mb_inv e
  obtain ⟨e4, rfl⟩ := ml_inv e
  refine ka σ H F ρ g pre dx g1 e1 _ fun x H1 F1 s1 r1 => ?_
  refine kb σ H1 F1 ρ g1 (pre.step s1) dy g' e2 _ fun y H2 F2 s2 r2 => ?_
  exact hh (off F2 H2) H2 x y dx dy d (off_sub _ _) (r1.mono s2.off) r2 e4 _ ⟨_, rfl, q H2 F2 (s1.trans s2)⟩
/-- a <= b <= c -/
def eChain (h h' : D → D → Option Bool) (a b c : E) : E := fun ρ => mb (a ρ) fun x => mb (b ρ) fun y => mb (ml (h x y)) fun k => if k = true then mb (c ρ) fun z => ml ((h' y z).map D.bl) else mr (.bl false)
theorem pd_chain {op op' : CmpOp} {r r' : R2} {h h' : D → D → Option Bool} (ho : OpR X (compareOp op) r) (ho' : OpR X (compareOp op') r') (hh : OpB X.K r h) (hh' : OpB X.K r' h') (ha : PB X a fa) (hb : PB X b fb) (hc : PB X c fc)
    (hm : lastMarks [op, op'] [b, c] = false := by with_unfolding_all rfl) : PD X (.Compare a [op, op'] [b, c] pos) (eChain h h' fa fb fc) := by
  obtain ⟨ta, pa, ka⟩ := ha
  obtain ⟨tb, pb, kb⟩ := hb
  obtain ⟨tc, pc, kc⟩ := hc
  refine ⟨_, pe_chain ho ho' pa pb pc hm, fun σ H F ρ g pre d g' e Q q => ?_⟩
  obtain ⟨dx, g1, e1, e⟩ := mb_inv e
  obtain ⟨dy, g2, e2, e⟩ := mb_inv e
  obtain ⟨k, g3, e3, e⟩ := mb_inv e
  obtain ⟨e4, rfl⟩ := ml_inv e3
  refine ka σ H F ρ g pre dx g1 e1 _ fun x H1 F1 s1 r1 => ?_
  refine kb σ H1 F1 ρ g1 (pre.step s1) dy g3 e2 _ fun y H2 F2 s2 r2 => ?_
  refine hh (off F2 H2) H2 x y dx dy k (off_sub _ _) (r1.mono s2.off) r2 e4 _ ⟨k, rfl, ?_⟩
  cases k with
  | false =>
    rw [if_neg Bool.false_ne_true] at e ⊢
    obtain ⟨rfl, rfl⟩ := mr_inv e
    exact q _ H2 F2 (s1.trans s2) (.bl false)
  | true =>
    rw [if_pos rfl] at e ⊢
    obtain ⟨dz, g4, e5, e⟩ := mb_inv e
    obtain ⟨e6, rfl⟩ := ml_inv e
    obtain ⟨b, e7, rfl⟩ := Option.map_eq_some_iff.mp e6
    refine kc σ H2 F2 ρ g3 (pre.step (s1.trans s2)) dz g' e5 _ fun z H3 F3 s3 r3 => ?_
    exact hh' (off F3 H3) H3 y z dy dz b (off_sub _ _) (r2.mono s3.off) r3 e7 Q (q _ H3 F3 ((s1.trans s2).trans s3) (.bl b))

/-! ### tests -/
def tE (e : E) : T := fun ρ => mb (e ρ) fun x => match x with
  | .bl b => mr b
  | _ => mz
theorem pdt_val (h : PD X e f) (he : ∀ whole, isTrue e X.env whole = (do let v ← whole; standAt e.pos; holding [v] (truthy v)) := by intro _; rfl) : PDT X e (tE f) := by
  obtain ⟨t, ht, k⟩ := h
  refine ⟨_, pt_val ht he, fun σ H F ρ g pre b g' e Q q => ?_⟩
  obtain ⟨dx, g1, e1, e⟩ := mb_inv e
  match dx, e with
  | .bl b', e =>
    obtain ⟨rfl, rfl⟩ := mr_inv e
    refine k σ H F ρ g pre _ _ e1 _ fun v H1 F1 s1 r1 => ?_
    cases r1
    exact ⟨b, rfl, q H1 F1 s1⟩
/-- a chain as a test -/
theorem pdt_chain {op op' : CmpOp} {r r' : R2} {h h' : D → D → Option Bool} (ho : OpR X (compareOp op) r) (ho' : OpR X (compareOp op') r') (hh : OpB X.K r h) (hh' : OpB X.K r' h') (ha : PB X a fa) (hb : PB X b fb) (hc : PB X c fc)
    (hm : lastMarks [op, op'] [b, c] = false := by with_unfolding_all rfl) : PDT X (.Compare a [op, op'] [b, c] pos) (tE (eChain h h' fa fb fc)) := by
  obtain ⟨ta, pa, ka⟩ := ha
  obtain ⟨tb, pb, kb⟩ := hb
  obtain ⟨tc, pc, kc⟩ := hc
  refine ⟨_, pt_chain ho ho' pa pb pc hm, fun σ H F ρ g pre d g' e Q q => ?_⟩
  obtain ⟨dv, gv, ev, e⟩ := mb_inv e
  obtain ⟨dx, g1, e1, ev⟩ := mb_inv ev
  obtain ⟨dy, g2, e2, ev⟩ := mb_inv ev
  obtain ⟨k, g3, e3, ev⟩ := mb_inv ev
  obtain ⟨e4, rfl⟩ := ml_inv e3
  refine ka σ H F ρ g pre dx g1 e1 _ fun x H1 F1 s1 r1 => ?_
  refine kb σ H1 F1 ρ g1 (pre.step s1) dy g3 e2 _ fun y H2 F2 s2 r2 => ?_
  refine hh (off F2 H2) H2 x y dx dy k (off_sub _ _) (r1.mono s2.off) r2 e4 _ ⟨k, rfl, ?_⟩
  cases k with
  | false =>
    rw [if_neg Bool.false_ne_true] at ev ⊢
    obtain ⟨rfl, rfl⟩ := mr_inv ev
    obtain ⟨rfl, rfl⟩ := mr_inv e
    exact ⟨_, rfl, q H2 F2 (s1.trans s2)⟩
  | true =>
    rw [if_pos rfl] at ev ⊢
    obtain ⟨dz, g4, e5, ev⟩ := mb_inv ev
    obtain ⟨e6, rfl⟩ := ml_inv ev
    obtain ⟨b, e7, rfl⟩ := Option.map_eq_some_iff.mp e6
    obtain ⟨rfl, rfl⟩ := mr_inv e
    refine kc σ H2 F2 ρ g3 (pre.step (s1.trans s2)) dz _ e5 _ fun z H3 F3 s3 r3 => ?_
    exact hh' (off F3 H3) H3 y z dy dz _ (off_sub _ _) (r2.mono s3.off) r3 e7 _ ⟨_, rfl, q H3 F3 ((s1.trans s2).trans s3)⟩
variable {ta tb : T} {rest : List Expr}
theorem PDW.pt (h : PDW X e ta) : PDT X e ta := let ⟨t, ht, k⟩ := h; ⟨t, ht.pt, k⟩
def tAnd (a b : T) : T := fun ρ => mb (a ρ) fun c => if c = true then b ρ else mr false
def tOr (a b : T) : T := fun ρ => mb (a ρ) fun c => if c = true then mr true else b ρ
def tNot (a : T) : T := fun ρ => mb (a ρ) fun c => mr (!c)
theorem pdw_and1 (h : PDT X a ta) : PDW X (.BoolOp .And [a] pos) ta := let ⟨t, ht, k⟩ := h; ⟨t, pw_and1 ht, k⟩
theorem pdw_or1 (h : PDT X a ta) : PDW X (.BoolOp .Or [a] pos) ta := let ⟨t, ht, k⟩ := h; ⟨t, pw_or1 ht, k⟩
theorem pdw_and (h : PDT X a ta) (h2 : PDW X (.BoolOp .And (b :: rest) pos) tb) : PDW X (.BoolOp .And (a :: b :: rest) pos) (tAnd ta tb) := by
  obtain ⟨t, ht, k⟩ := h
  obtain ⟨t2, ht2, k2⟩ := h2
  refine ⟨_, pw_and ht ht2, fun σ H F ρ g pre d g' e Q q => ?_⟩
  obtain ⟨c, g1, e1, e⟩ := mb_inv e
  refine k σ H F ρ g pre c g1 e1 _ fun H1 F1 s1 => ?_
  cases c with
  | true => exact k2 σ H1 F1 ρ g1 (pre.step s1) d g' e Q fun H2 F2 s2 => q H2 F2 (s1.trans s2)
  | false =>
    obtain ⟨rfl, rfl⟩ := mr_inv e
    exact q H1 F1 s1
theorem pdw_or (h : PDT X a ta) (h2 : PDW X (.BoolOp .Or (b :: rest) pos) tb) : PDW X (.BoolOp .Or (a :: b :: rest) pos) (tOr ta tb) := by
  obtain ⟨t, ht, k⟩ := h
  obtain ⟨t2, ht2, k2⟩ := h2
  refine ⟨_, pw_or ht ht2, fun σ H F ρ g pre d g' e Q q => ?_⟩
  obtain ⟨c, g1, e1, e⟩ := mb_inv e
  refine k σ H F ρ g pre c g1 e1 _ fun H1 F1 s1 => ?_
  cases c with
  | false => exact k2 σ H1 F1 ρ g1 (pre.step s1) d g' e Q fun H2 F2 s2 => q H2 F2 (s1.trans s2)
  | true =>
    obtain ⟨rfl, rfl⟩ := mr_inv e
    exact q H1 F1 s1
theorem pdt_not (h : PDT X a ta) : PDT X (.UnaryOp .Not a pos) (tNot ta) := by
  obtain ⟨t, ht, k⟩ := h
  refine ⟨_, pt_not ht, fun σ H F ρ g pre d g' e Q q => ?_⟩
  obtain ⟨c, g1, e1, e⟩ := mb_inv e
  obtain ⟨rfl, rfl⟩ := mr_inv e
  exact k σ H F ρ g pre c _ e1 _ fun H1 F1 s1 => q H1 F1 s1
/-! ### truths as values -/
def eAnd (a b : E) : E := fun ρ => mb (tE a ρ) fun c => if c = true then b ρ else mr (.bl false)
def eOr (a b : E) : E := fun ρ => mb (tE a ρ) fun c => if c = true then mr (.bl true) else b ρ
def eNot (a : E) : E := fun ρ => mb (tE a ρ) fun c => mr (.bl (!c))
theorem tE_inv {f : E} {ρ : Rho} {g g' : G} {b : Bool} (h : tE f ρ g = some (b, g')) : f ρ g = some (.bl b, g') := by
  obtain ⟨x, g1, e1, e⟩ := mb_inv h
  match x, e with
  | .bl b', e => obtain ⟨rfl, rfl⟩ := mr_inv e; exact e1
theorem pd_one {op : BoolOp} (h : PD X a fa) : PD X (.BoolOp op [a] pos) fa := let ⟨t, ht, k⟩ := h; ⟨t, pe_one ht, k⟩
theorem pd_and (h : PD X a fa) (h2 : PD X (.BoolOp .And (b :: rest) pos) fb) : PD X (.BoolOp .And (a :: b :: rest) pos) (eAnd fa fb) := by
  obtain ⟨t, ht, k⟩ := h
  obtain ⟨t2, ht2, k2⟩ := h2
  refine ⟨_, pe_and ht ht2, fun σ H F ρ g pre d g' e Q q => ?_⟩
  obtain ⟨c, g1, e1, e⟩ := mb_inv e
  refine k σ H F ρ g pre _ g1 (tE_inv e1) _ fun v H1 F1 s1 r1 => ?_
  cases r1
  refine ⟨c, rfl, ?_⟩
  cases c with
  | true => exact k2 σ H1 F1 ρ g1 (pre.step s1) d g' e Q fun v H2 F2 s2 r2 => q v H2 F2 (s1.trans s2) r2
  | false =>
    obtain ⟨rfl, rfl⟩ := mr_inv e
    exact q _ H1 F1 s1 (.bl false)
theorem pd_not (h : PD X a fa) : PD X (.UnaryOp .Not a pos) (eNot fa) := by
  obtain ⟨t, ht, k⟩ := h
  refine ⟨_, pe_not ht, fun σ H F ρ g pre d g' e Q q => ?_⟩
  obtain ⟨c, g1, e1, e⟩ := mb_inv e
  obtain ⟨rfl, rfl⟩ := mr_inv e
  refine k σ H F ρ g pre _ _ (tE_inv e1) _ fun v H1 F1 s1 r1 => ?_
  cases r1
  exact ⟨c, rfl, q _ H1 F1 s1 (.bl _)⟩
def eIf (c : T) (a b : E) : E := fun ρ => mb (c ρ) fun k => if k = true then a ρ else b ρ
theorem pd_if (hc : PDT X c ta) (ha : PD X a fa) (hb : PD X b fb) : PD X (.IfExp c a b pos) (eIf ta fa fb) := by
  obtain ⟨t, ht, k⟩ := hc
  obtain ⟨t1, ht1, k1⟩ := ha
  obtain ⟨t2, ht2, k2⟩ := hb
  refine ⟨_, pe_ifExp ht ht1 ht2, fun σ H F ρ g pre d g' e Q q => ?_⟩
  obtain ⟨c, g1, e1, e⟩ := mb_inv e
  refine k σ H F ρ g pre c g1 e1 _ fun H1 F1 s1 => ?_
  cases c with
  | true => exact k1 σ H1 F1 ρ g1 (pre.step s1) d g' e Q fun v H2 F2 s2 r2 => q v H2 F2 (s1.trans s2) r2
  | false => exact k2 σ H1 F1 ρ g1 (pre.step s1) d g' e Q fun v H2 F2 s2 r2 => q v H2 F2 (s1.trans s2) r2
/-! ### arguments, displays -/
variable {es : List Expr} {fs : EA}
def aNil : EA := fun _ => mr []
def aCons (a : E) (r : EA) : EA := fun ρ => mb (a ρ) fun x => mb (r ρ) fun xs => mr (x :: xs)
theorem pda_nil : PDA X [] aNil := ⟨_, pa_nil, fun σ H F ρ g pre d g' e Q q => by
  obtain ⟨rfl, rfl⟩ := mr_inv e
  exact q _ H F pre.refl .nil⟩
theorem pda_cons (h : PD X e f) (hr : PDA X es fs) (hs : starEach (e :: es) X.env = (false, eval e X.env) :: starEach es X.env := by rfl) : PDA X (e :: es) (aCons f fs) := by
  obtain ⟨t, ht, k⟩ := h
  obtain ⟨t2, ht2, k2⟩ := hr
  refine ⟨_, pa_cons ht ht2 hs, fun σ H F ρ g pre d g' e Q q => ?_⟩
  obtain ⟨x, g1, e1, e⟩ := mb_inv e
  obtain ⟨xs, g2, e2, e⟩ := mb_inv e
  obtain ⟨rfl, rfl⟩ := mr_inv e
  refine k σ H F ρ g pre x g1 e1 _ fun v H1 F1 s1 r1 => ?_
  exact k2 σ H1 F1 ρ g1 (pre.step s1) xs _ e2 _ fun vs H2 F2 s2 r2 => q _ H2 F2 (s1.trans s2) (.cons (r1.mono s2.ext) r2)
theorem pba_nil : PBA X [] aNil := ⟨_, pa_nil, fun σ H F ρ g pre d g' e Q q => by
  obtain ⟨rfl, rfl⟩ := mr_inv e
  exact q _ H F pre.refl .nil⟩
theorem pba_cons (h : PB X e f) (hr : PBA X es fs) (hs : starEach (e :: es) X.env = (false, eval e X.env) :: starEach es X.env := by rfl) : PBA X (e :: es) (aCons f fs) := by
  obtain ⟨t, ht, k⟩ := h
  obtain ⟨t2, ht2, k2⟩ := hr
  refine ⟨_, pa_cons ht ht2 hs, fun σ H F ρ g pre d g' e Q q => ?_⟩
  obtain ⟨x, g1, e1, e⟩ := mb_inv e
  obtain ⟨xs, g2, e2, e⟩ := mb_inv e
  obtain ⟨rfl, rfl⟩ := mr_inv e
  refine k σ H F ρ g pre x g1 e1 _ fun v H1 F1 s1 r1 => ?_
  exact k2 σ H1 F1 ρ g1 (pre.step s1) xs _ e2 _ fun vs H2 F2 s2 r2 => q _ H2 F2 (s1.trans s2) (.cons (r1.mono s2.off) r2)
def szD (n : Nat) (d : D) : Option D := if n ≤ sizeLine then some d else none
theorem szD_inv {n : Nat} {d d' : D} (h : szD n d = some d') : n ≤ sizeLine ∧ d' = d := by
  unfold szD at h
  split at h
  · cases h; exact ⟨by assumption, rfl⟩
  · cases h
def eTup (fs : EA) : E := fun ρ => mb (fs ρ) fun xs => ml (szD xs.length (.tup xs))
def eLst (fs : EA) : E := fun ρ => mb (fs ρ) fun xs => ml (szD xs.length (.lst xs))
theorem rp_new_tup {K : PySem.W.Frag} {F : Fz} {p : Addr} {vs : List V} {ds : List D} (hp : F p = none) (hz : ds.length ≤ sizeLine) (r : RpA K F vs ds) : Rp K (F.upd p (.tup vs)) (.ref p) (.tup ds) :=
  .tup (.of upd_same) (by rw [r.length]; exact hz) (r.mono (.upd hp))
theorem rp_new_lst {K : PySem.W.Frag} {F : Fz} {p : Addr} {vs : List V} {ds : List D} (hp : F p = none) (hz : ds.length ≤ sizeLine) (r : RpA K F vs ds) : Rp K (F.upd p (.lst vs)) (.ref p) (.lst ds) :=
  .lst (.of upd_same) (by rw [r.length]; exact hz) (r.mono (.upd hp))
theorem pd_tup {k : Nat} (h : PDA X es fs) : PD X (.Tuple es k pos) (eTup fs) := by
  obtain ⟨t, ht, k⟩ := h
  refine ⟨_, pe_tup ht, fun σ H F ρ g pre d g' e Q q => ?_⟩
  obtain ⟨xs, g1, e1, e⟩ := mb_inv e
  obtain ⟨e2, rfl⟩ := ml_inv e
  obtain ⟨hz, rfl⟩ := szD_inv e2
  refine k σ H F ρ g pre xs _ e1 _ fun vs H1 F1 s1 r1 => ⟨by rw [r1.length]; exact hz, fun p hp => ?_⟩
  exact q _ _ _ (s1.trans (.alloc s1.sub s1.rep hp)) (rp_new_tup (s1.sub.free hp) hz r1)
theorem pd_lst (h : PDA X es fs) : PD X (.List es pos) (eLst fs) := by
  obtain ⟨t, ht, k⟩ := h
  refine ⟨_, pe_lst ht, fun σ H F ρ g pre d g' e Q q => ?_⟩
  obtain ⟨xs, g1, e1, e⟩ := mb_inv e
  obtain ⟨e2, rfl⟩ := ml_inv e
  obtain ⟨hz, rfl⟩ := szD_inv e2
  refine k σ H F ρ g pre xs _ e1 _ fun vs H1 F1 s1 r1 => ⟨by rw [r1.length]; exact hz, fun p hp => ?_⟩
  exact q _ _ _ (s1.trans (.alloc s1.sub s1.rep hp)) (rp_new_lst (s1.sub.free hp) hz r1)

/-! ### calls of defs -/
/-- a def's promise by data -/
def spD (K : PySem.W.Frag) (n : Nat) (f : List D → M D) : Sp := fun vs H Q _ => ∃ (F : Fz) (g : G) (ds : List D) (d : D) (g' : G), ds.length = n ∧ Same F.h H ∧ GRep K g F H ∧ RpA K F vs ds ∧ f ds g = some (d, g') ∧
  ∀ v H' F', Stp K g g' F F' H H' → Rp K F' v d → Q v H'
/-- the def x keeps it -/
structure FnD (P : Program) (w : World) (K : PySem.W.Frag) (mg : Str → Option Value) (base : Heap) (k : Nat) (x : Str) (n : Nat) (f : List D → M D) : Prop where
  ex : ∃ (a : Addr) (fd : FuncData) (ps : List Str), mg x = some (.ref a) ∧ PySem.W.keepIn K (.ref a) = true ∧ Binds K fd ps [] ∧ FnG P w K mg base CX0 k a fd ps (spD K n f)
def eCall (f : List D → M D) (as : EA) : E := fun ρ => mb (as ρ) f
theorem pd_call {k n : Nat} {x : Str} {p : Pos} {F : List D → M D} (hf : FnD X.prog X.w X.K X.mg X.base k x n F) (hr : Room k X.A) (gd : X.A.guards = some []) (ha : PDA X (e :: es) fs) (hn : ∀ ρ g ds g', fs ρ g = some (ds, g') → ds.length = n)
    (hg : Gl X x := by rfl) (hdb : (x == ("__debug__" : Str)) = false := by decide) (he : starEach (e :: es) X.env = (false, eval e X.env) :: starEach es X.env := by rfl) (hpl : (backTo pos (starEach es X.env)).any (·.1) = false := by rfl) :
    PD X (.Call (.Name x p) (e :: es) [] pos) (eCall F fs) := by
  obtain ⟨a, fd, ps, hm, hk, hb, G⟩ := hf.ex
  obtain ⟨t, ht, k⟩ := ha
  refine ⟨_, pe_callG G hr gd hg hm hk hb .nil pass0 ht hdb he hpl, fun σ H F ρ g pre d g' e Q q => ?_⟩
  obtain ⟨ds, g1, e1, e⟩ := mb_inv e
  refine k σ H F ρ g pre ds g1 e1 _ fun vs H1 F1 s1 r1 => ?_
  rw [List.append_nil]
  exact ⟨F1, g1, ds, d, g', hn _ _ _ _ e1, s1.sub, s1.rep, r1, e, fun v H2 F2 s2 r2 => q v H2 F2 (s1.trans s2) r2⟩
theorem aCons_len {a : E} {r : EA} {n : Nat} (h : ∀ ρ g ds g', r ρ g = some (ds, g') → ds.length = n) : ∀ ρ g ds g', aCons a r ρ g = some (ds, g') → ds.length = n + 1 := fun ρ g ds g' e => by
  obtain ⟨x, g1, e1, e⟩ := mb_inv e
  obtain ⟨xs, g2, e2, e⟩ := mb_inv e
  obtain ⟨rfl, rfl⟩ := mr_inv e
  rw [List.length_cons, h _ _ _ _ e2]
theorem aNil_len : ∀ (ρ : Rho) (g : G) (ds : List D) (g' : G), aNil ρ g = some (ds, g') → ds.length = 0 := fun ρ g ds g' e => by
  obtain ⟨rfl, rfl⟩ := mr_inv e
  rfl
end
end PD
end
section
set_option Elab.async false
set_option linter.all false
set_option maxRecDepth 100000
set_option maxHeartbeats 4000000
set_option autoImplicit false
namespace PD
open PySem PySem.Spec L2
open PyProof.Rows hiding St
variable [Live]

/-! ### data as the library's data -/
mutual
def pur : D → Bool
  | .non => true
  | .bl _ => true
  | .int _ => true
  | .str _ => true
  | .tup l => purA l
  | .lst l => purA l
  | .dk _ _ => false
  | .dt _ _ => false
  | .hd _ => false
  | .tx _ => false
def purA : List D → Bool
  | [] => true
  | d :: l => pur d && purA l
end
mutual
def dep : D → Nat
  | .tup l => depA l + 1
  | .lst l => depA l + 1
  | .non => 0
  | .bl _ => 0
  | .int _ => 0
  | .str _ => 0
  | .dk _ _ => 0
  | .dt _ _ => 0
  | .hd _ => 0
  | .tx _ => 0
def depA : List D → Nat
  | [] => 0
  | d :: l => max (dep d) (depA l)
end
mutual
def toPy : D → PyData
  | .non => .none
  | .bl b => .bool b
  | .int i => .int i
  | .str x => .str x
  | .tup l => .tuple (toPyA l)
  | .lst l => .list (toPyA l)
  | .dk _ _ => .none
  | .dt _ _ => .none
  | .hd _ => .none
  | .tx _ => .none
def toPyA : List D → List PyData
  | [] => []
  | d :: l => toPy d :: toPyA l
end
mutual
def eqq : D → D → Bool
  | .non, .non => true
  | .bl a, .bl b => a == b
  | .bl a, .int j => (if a then 1 else 0) == j
  | .int i, .bl b => i == (if b then 1 else 0)
  | .int i, .int j => i == j
  | .str x, .str y => x == y
  | .lst xs, .lst ys => eqqA xs ys
  | .tup xs, .tup ys => eqqA xs ys
  | _, _ => false
def eqqA : List D → List D → Bool
  | [], [] => true
  | x :: xs, y :: ys => eqq x y && eqqA xs ys
  | _, _ => false
end
mutual
theorem eqq_ok : ∀ x y : D, pur x = true → pur y = true → PyData.eqv (toPy x) (toPy y) = eqq x y
  | .non, y, _, hy => by cases y <;> simp_all [toPy, PyData.eqv, eqq, pur]
  | .bl _, y, _, hy => by cases y <;> simp_all [toPy, PyData.eqv, eqq, pur]
  | .int _, y, _, hy => by cases y <;> simp_all [toPy, PyData.eqv, eqq, pur]
  | .str _, y, _, hy => by cases y <;> simp_all [toPy, PyData.eqv, eqq, pur]
  | .tup l, y, hx, hy => by
    cases y with
    | tup l' => simpa [toPy, PyData.eqv, eqq] using eqqA_ok l l' (by simpa [pur] using hx) (by simpa [pur] using hy)
    | _ => simp_all [toPy, PyData.eqv, eqq, pur]
  | .lst l, y, hx, hy => by
    cases y with
    | lst l' => simpa [toPy, PyData.eqv, eqq] using eqqA_ok l l' (by simpa [pur] using hx) (by simpa [pur] using hy)
    | _ => simp_all [toPy, PyData.eqv, eqq, pur]
  | .dk _ _, _, h, _ => by simp [pur] at h
  | .dt _ _, _, h, _ => by simp [pur] at h
  | .hd _, _, h, _ => by simp [pur] at h
  | .tx _, _, h, _ => by simp [pur] at h
theorem eqqA_ok : ∀ x y : List D, purA x = true → purA y = true → PyData.eqvAll (toPyA x) (toPyA y) = eqqA x y
  | [], [], _, _ => by simp [toPyA, PyData.eqvAll, eqqA]
  | [], _ :: _, _, _ => by simp [toPyA, PyData.eqvAll, eqqA]
  | _ :: _, [], _, _ => by simp [toPyA, PyData.eqvAll, eqqA]
  | a :: x, b :: y, hx, hy => by
    have hx : pur a = true ∧ purA x = true := by simpa [purA] using hx
    have hy : pur b = true ∧ purA y = true := by simpa [purA] using hy
    simp [toPyA, PyData.eqvAll, eqqA, eqq_ok a b hx.1 hy.1, eqqA_ok x y hx.2 hy.2]
end
mutual
theorem dep_ok : ∀ x : D, (toPy x).depth = dep x
  | .tup l => by simp [toPy, PyData.depth, dep, depA_ok l]
  | .lst l => by simp [toPy, PyData.depth, dep, depA_ok l]
  | .non => rfl
  | .bl _ => rfl
  | .int _ => rfl
  | .str _ => rfl
  | .dk _ _ => rfl
  | .dt _ _ => rfl
  | .hd _ => rfl
  | .tx _ => rfl
theorem depA_ok : ∀ x : List D, PyData.depthAll (toPyA x) = depA x
  | [] => rfl
  | a :: x => by simp [toPyA, PyData.depthAll, depA, dep_ok a, depA_ok x]
end
section
variable {K : PySem.W.Frag} {W : Fz} {H : Hp}
theorem rp_dp (s : Same W.h H) {v : V} {d : D} (h : Rp K W v d) : pur d = true → Dp K H v (toPy d) ∧ (toPy d).canLay0 = true :=
  Rp.rec (motive_1 := fun v d _ => pur d = true → Dp K H v (toPy d) ∧ (toPy d).canLay0 = true) (motive_2 := fun v d _ => purA d = true → DpAll K H v (toPyA d) ∧ PyData.canLayAll0 (toPyA d) = true)
    (fun _ => ⟨.non, rfl⟩) (fun b _ => ⟨.bl b, rfl⟩) (fun i _ => ⟨.int i, rfl⟩) (fun x h _ => ⟨.str x, by
      have h := (Bool.and_eq_true_iff.mp h).1
      simpa [toPy, PyData.canLay0] using h⟩)
    (fun h1 _ _ ih p => by
      have q := ih (by simpa [pur] using p)
      exact ⟨.tup (sqT_mono s h1) q.1, by simpa [toPy, PyData.canLay0] using q.2⟩)
    (fun h1 _ _ ih p => by
      have q := ih (by simpa [pur] using p)
      exact ⟨.lst (sqL_mono s h1) q.1, by simpa [toPy, PyData.canLay0] using q.2⟩)
    (fun _ _ _ p => by simp [pur] at p) (fun _ _ _ _ p => by simp [pur] at p) (fun _ p => by simp [pur] at p) (fun _ _ _ _ _ p => by simp [pur] at p)
    (fun _ => ⟨.nil, rfl⟩) (fun _ _ i1 i2 p => by
      simp only [purA, Bool.and_eq_true] at p
      have q1 := i1 p.1
      have q2 := i2 p.2
      exact ⟨.cons q1.1 q2.1, by simp [toPyA, PyData.canLayAll0, q1.2, q2.2]⟩) h
/-- what can be compared -/
def cmpOk (d : D) : Bool := pur d && decide (dep d ≤ 64)
theorem rp_shaped (s : Same W.h H) {v : V} {d : D} (h : Rp K W v d) (c : cmpOk d = true) : Dp K H v (toPy d) ∧ SeqAt.shaped (toPy d) = true := by
  obtain ⟨c1, c2⟩ := Bool.and_eq_true_iff.mp c
  obtain ⟨q1, q2⟩ := rp_dp s h c1
  refine ⟨q1, ?_⟩
  unfold SeqAt.shaped
  rw [q2, dep_ok]
  simpa using c2
end
def eqD (x y : D) : Option Bool := if (cmpOk x && cmpOk y) = true then some (eqq x y) else none
def neD (x y : D) : Option Bool := if (cmpOk x && cmpOk y) = true then some (!eqq x y) else none
theorem eqD_ok {K : PySem.W.Frag} : OpB K (rEqD K) eqD := fun W H x y dx dy b s rx ry e Q q => by
  unfold eqD at e
  split at e
  · rename_i c
    obtain ⟨c1, c2⟩ := Bool.and_eq_true_iff.mp c
    obtain ⟨p1, p2⟩ := rp_shaped s rx c1
    obtain ⟨q1, q2⟩ := rp_shaped s ry c2
    cases e
    refine ⟨_, _, p1, q1, p2, q2, ?_⟩
    rw [eqq_ok _ _ (Bool.and_eq_true_iff.mp c1).1 (Bool.and_eq_true_iff.mp c2).1]
    exact q
  · cases e
theorem neD_ok {K : PySem.W.Frag} : OpB K (rNeD K) neD := fun W H x y dx dy b s rx ry e Q q => by
  unfold neD at e
  split at e
  · rename_i c
    obtain ⟨c1, c2⟩ := Bool.and_eq_true_iff.mp c
    obtain ⟨p1, p2⟩ := rp_shaped s rx c1
    obtain ⟨q1, q2⟩ := rp_shaped s ry c2
    cases e
    refine ⟨_, _, p1, q1, p2, q2, ?_⟩
    rw [eqq_ok _ _ (Bool.and_eq_true_iff.mp c1).1 (Bool.and_eq_true_iff.mp c2).1]
    exact q
  · cases e
/-! ### order -/
def tupInts : List D → Option (List Int)
  | [] => some []
  | .int i :: l => (tupInts l).map (i :: ·)
  | _ :: _ => none
theorem tupInts_ok : ∀ {l : List D} {ns : List Int}, tupInts l = some ns → l = ns.map D.int
  | [], ns, h => by cases h; rfl
  | .int i :: l, ns, h => by
    obtain ⟨ms, h1, rfl⟩ := Option.map_eq_some_iff.mp h
    rw [tupInts_ok h1]; rfl
  | .non :: l, ns, h => by cases h
  | .bl _ :: l, ns, h => by cases h
  | .str _ :: l, ns, h => by cases h
  | .tup _ :: l, ns, h => by cases h
  | .lst _ :: l, ns, h => by cases h
  | .dk _ _ :: l, ns, h => by cases h
  | .dt _ _ :: l, ns, h => by cases h
  | .hd _ :: l, ns, h => by cases h
  | .tx _ :: l, ns, h => by cases h
theorem tupInts_map : ∀ ns : List Int, tupInts (ns.map D.int) = some ns
  | [] => rfl
  | n :: ns => by simp [tupInts, tupInts_map ns]
def ltD : D → D → Option Bool
  | .int i, .int j => some (decide (i < j))
  | .str x, .str y => some (decide (x.cps.toList < y.cps.toList))
  | .tup xs, .tup ys => match tupInts xs, tupInts ys with
    | some ns, some ms => some (HT.lexLt ns ms)
    | _, _ => none
  | _, _ => none
def gtD : D → D → Option Bool
  | .int i, .int j => some (decide (j < i))
  | .str x, .str y => some (decide (y.cps.toList < x.cps.toList))
  | _, _ => none
def leD : D → D → Option Bool
  | .int i, .int j => some (decide (i ≤ j))
  | .str x, .str y => some (!decide (y.cps.toList < x.cps.toList))
  | _, _ => none
def geD : D → D → Option Bool
  | .int i, .int j => some (decide (j ≤ i))
  | .str x, .str y => some (!decide (x.cps.toList < y.cps.toList))
  | _, _ => none
abbrev rOr (r r' : R2) : R2 := fun x y H Q => r x y H Q ∨ r' x y H Q
theorem rp_int {K : PySem.W.Frag} {W : Fz} {v : V} {i : Int} (h : Rp K W v (.int i)) : v = .int i := by cases h; rfl
theorem rp_str {K : PySem.W.Frag} {W : Fz} {v : V} {i : Str} (h : Rp K W v (.str i)) : v = .str i ∧ sOk i = true := by cases h with | str _ h => exact ⟨rfl, h⟩
theorem rp_bl {K : PySem.W.Frag} {W : Fz} {v : V} {i : Bool} (h : Rp K W v (.bl i)) : v = .bl i := by cases h; rfl
theorem rp_tup {K : PySem.W.Frag} {W : Fz} {v : V} {ds : List D} (h : Rp K W v (.tup ds)) : ∃ a xs, v = .ref a ∧ SqT K W a xs ∧ xs.length ≤ sizeLine ∧ RpA K W xs ds := by
  cases h with | tup h1 h2 h3 => exact ⟨_, _, rfl, h1, h2, h3⟩
theorem rp_lst {K : PySem.W.Frag} {W : Fz} {v : V} {ds : List D} (h : Rp K W v (.lst ds)) : ∃ a xs, v = .ref a ∧ SqL K W a xs ∧ xs.length ≤ sizeLine ∧ RpA K W xs ds := by
  cases h with | lst h1 h2 h3 => exact ⟨_, _, rfl, h1, h2, h3⟩
theorem rp_dk {K : PySem.W.Frag} {W : Fz} {v : V} {ks : List Key} {ds : List D} (h : Rp K W v (.dk ks ds)) : ∃ a, ∃ kvs : List (Key × V), v = .ref a ∧ Rd W a (.dK kvs) ∧ kvs.map (·.1) = ks ∧ RpA K W (kvs.map (·.2)) ds := by
  cases h with | dk h1 h3 => exact ⟨_, _, rfl, h1, rfl, h3⟩
abbrev rLt (K : PySem.W.Frag) : R2 := rOr (rI0 fun i j => .bl (decide (i < j))) (rOr (fun x y H Q => ∃ i j, x = .str i ∧ y = .str j ∧ Q (.bl (decide (i.cps.toList < j.cps.toList))) H) (rLtT K))
theorem op_ltA {X : Cx} (hu : X.A.units < cLine) : OpR X (compareOp .Lt) (rLt X.K) := op_lt.or (op_lt_str.or (op_ltT hu))
theorem ltD_ok {K : PySem.W.Frag} : OpB K (rLt K) ltD := fun W H x y dx dy b s rx ry e Q q => by
  unfold ltD at e
  split at e
  · cases e
    rw [rp_int rx, rp_int ry]
    exact .inl ⟨_, _, rfl, rfl, q⟩
  · cases e
    obtain ⟨rfl, _⟩ := rp_str rx
    obtain ⟨rfl, _⟩ := rp_str ry
    exact .inr (.inl ⟨_, _, rfl, rfl, q⟩)
  · rename_i xs ys
    split at e
    · rename_i ns ms h1 h2
      cases e
      obtain ⟨a, vs, rfl, t1, _, u1⟩ := rp_tup rx
      obtain ⟨c, ws, rfl, t2, _, u2⟩ := rp_tup ry
      rw [tupInts_ok h1] at u1
      rw [tupInts_ok h2] at u2
      rw [u1.ints] at t1
      rw [u2.ints] at t2
      exact .inr (.inr ⟨a, c, ns, ms, rfl, rfl, sqT_mono s t1, sqT_mono s t2, q⟩)
    · cases e
  · cases e
abbrev rGt : R2 := rOr (rI0 fun i j => .bl (decide (j < i))) (fun x y H Q => ∃ i j, x = .str i ∧ y = .str j ∧ Q (.bl (decide (j.cps.toList < i.cps.toList))) H)
theorem op_gtA {X : Cx} : OpR X (compareOp .Gt) rGt := op_gt.or op_gt_str
theorem gtD_ok {K : PySem.W.Frag} : OpB K rGt gtD := fun W H x y dx dy b s rx ry e Q q => by
  unfold gtD at e
  split at e
  · cases e; rw [rp_int rx, rp_int ry]; exact .inl ⟨_, _, rfl, rfl, q⟩
  · cases e
    obtain ⟨rfl, _⟩ := rp_str rx
    obtain ⟨rfl, _⟩ := rp_str ry
    exact .inr ⟨_, _, rfl, rfl, q⟩
  · cases e
abbrev rLe : R2 := rOr (rI0 fun i j => .bl (decide (i ≤ j))) (fun x y H Q => ∃ i j, x = .str i ∧ y = .str j ∧ Q (.bl (!decide (j.cps.toList < i.cps.toList))) H)
theorem op_leA {X : Cx} : OpR X (compareOp .LtE) rLe := op_le.or op_le_str
theorem leD_ok {K : PySem.W.Frag} : OpB K rLe leD := fun W H x y dx dy b s rx ry e Q q => by
  unfold leD at e
  split at e
  · cases e; rw [rp_int rx, rp_int ry]; exact .inl ⟨_, _, rfl, rfl, q⟩
  · cases e
    obtain ⟨rfl, _⟩ := rp_str rx
    obtain ⟨rfl, _⟩ := rp_str ry
    exact .inr ⟨_, _, rfl, rfl, q⟩
  · cases e
abbrev rGe : R2 := rOr (rI0 fun i j => .bl (decide (j ≤ i))) (fun x y H Q => ∃ i j, x = .str i ∧ y = .str j ∧ Q (.bl (!decide (i.cps.toList < j.cps.toList))) H)
theorem op_geA {X : Cx} : OpR X (compareOp .GtE) rGe := op_ge.or op_ge_str
theorem geD_ok {K : PySem.W.Frag} : OpB K rGe geD := fun W H x y dx dy b s rx ry e Q q => by
  unfold geD at e
  split at e
  · cases e; rw [rp_int rx, rp_int ry]; exact .inl ⟨_, _, rfl, rfl, q⟩
  · cases e
    obtain ⟨rfl, _⟩ := rp_str rx
    obtain ⟨rfl, _⟩ := rp_str ry
    exact .inr ⟨_, _, rfl, rfl, q⟩
  · cases e
/-! ### is None -/
def isNon : D → Bool
  | .non => true
  | _ => false
def isND (x y : D) : Option Bool := if isNon y = true then some (isNon x) else none
def notND (x y : D) : Option Bool := if isNon y = true then some (!isNon x) else none
theorem rp_isN {K : PySem.W.Frag} {W : Fz} {v : V} {d : D} (h : Rp K W v d) : decide (v = .non) = isNon d := by cases h <;> rfl
theorem rp_isN2 {K : PySem.W.Frag} {W : Fz} {v : V} {d : D} (h : Rp K W v d) (e : isNon d = true) : v = .non := of_decide_eq_true ((rp_isN h).trans e)
abbrev rIsN' : R2 := fun x y H Q => y = .non ∧ Q (.bl (decide (x = .non))) H
abbrev rNotN' : R2 := fun x y H Q => y = .non ∧ Q (.bl (!decide (x = .non))) H
theorem isND_ok {K : PySem.W.Frag} : OpB K rIsN' isND := fun W H x y dx dy b s rx ry e Q q => by
  unfold isND at e
  split at e
  · cases e
    exact ⟨rp_isN2 ry (by assumption), by rw [rp_isN rx]; exact q⟩
  · cases e
theorem notND_ok {K : PySem.W.Frag} : OpB K rNotN' notND := fun W H x y dx dy b s rx ry e Q q => by
  unfold notND at e
  split at e
  · cases e
    exact ⟨rp_isN2 ry (by assumption), by rw [rp_isN rx]; exact q⟩
  · cases e
/-! ### in -/
def flatD : D → Bool
  | .non => true
  | .bl _ => true
  | .int _ => true
  | .str _ => true
  | _ => false
def keyD : D → Option Key
  | .int i => some (.inl i)
  | .str x => some (.inr x)
  | _ => none
def keysD : List D → Option (List Key)
  | [] => some []
  | d :: l => match keyD d, keysD l with
    | some k, some ks => some (k :: ks)
    | _, _ => none
/-- one sign, any text -/
def inStr (x z : Str) : Bool := if x.cps.size = 1 then decide (x.cps.getD 0 0 ∈ z.cps.toList) else !(Builtin.Str.occurrences z x 0 z.length 1).isEmpty
def inD (x y : D) : Option Bool := match y with
  | .lst ys => if (cmpOk x && cmpOk (.lst ys)) = true then some (ys.any fun z => eqq z x) else none
  | .tup ys => if (flatD x && ys.all flatD) = true then some (ys.any fun z => eqq z x) else none
  | .str z => match x with
    | .str w => some (inStr w z)
    | _ => none
  | .dk ks _ => (keyD x).map fun k => ks.any fun k' => decide (k' = k)
  | _ => none
theorem any_toPy (x : D) (hx : pur x = true) : ∀ ys : List D, purA ys = true → ((toPyA ys).any fun z => PyData.eqv z (toPy x)) = ys.any fun z => eqq z x
  | [], _ => rfl
  | y :: ys, h => by
    have h : pur y = true ∧ purA ys = true := by simpa [purA] using h
    simp only [toPyA, List.any_cons, any_toPy x hx ys h.2, eqq_ok y x h.1 hx]
theorem rp_flat {K : PySem.W.Frag} {W : Fz} {v : V} {d : D} (h : Rp K W v d) (f : flatD d = true) : flatV v = true := by cases h <;> first | rfl | exact absurd f (by simp [flatD])
theorem rp_eqV {K : PySem.W.Frag} {W : Fz} {v u : V} {d c : D} (h : Rp K W v d) (h' : Rp K W u c) (f : flatD d = true) (f' : flatD c = true) : eqV v u = eqq d c := by
  cases h <;> first | (simp [flatD] at f; done) | (cases h' <;> first | (simp [flatD] at f'; done) | simp [eqV, eqq])
theorem rpA_flat {K : PySem.W.Frag} {W : Fz} : ∀ {vs : List V} {ds : List D}, RpA K W vs ds → ds.all flatD = true → vs.all flatV = true
  | _, _, .nil, _ => rfl
  | _, _, .cons r t, f => by
    rw [List.all_cons, Bool.and_eq_true] at f
    rw [List.all_cons, rp_flat r f.1, rpA_flat t f.2]; rfl
theorem rpA_any {K : PySem.W.Frag} {W : Fz} {u : V} {c : D} (h' : Rp K W u c) (f' : flatD c = true) : ∀ {vs : List V} {ds : List D}, RpA K W vs ds → ds.all flatD = true → (vs.any fun y => eqV y u) = ds.any fun z => eqq z c
  | _, _, .nil, _ => rfl
  | _, _, .cons r t, f => by
    rw [List.all_cons, Bool.and_eq_true] at f
    rw [List.any_cons, List.any_cons, rp_eqV r h' f.1 f', rpA_any h' f' t f.2]
abbrev rDIn (neg : Bool) : R2 := fun y x H Q => ∃ a o, x = .ref a ∧ DGet H a y o ∧ Q (.bl (if neg = true then !o.isSome else o.isSome)) H
theorem op_dIn {X : Cx} (hu : X.A.units + 1 < cLine) : OpR X (compareOp .In) (rDIn false) := by
  intro pins s σ H y x v u Q I ry rx h
  obtain ⟨a, o, rfl, g, q⟩ := h
  obtain rfl : u = Value.ref a := rx
  exact d_in hu I g ry fun s3 I3 => ⟨.bl o.isSome, H, I3, rfl, q⟩
theorem op_dNotIn {X : Cx} (hu : X.A.units + 1 < cLine) : OpR X (compareOp .NotIn) (rDIn true) := by
  intro pins s σ H y x v u Q I ry rx h
  obtain ⟨a, o, rfl, g, q⟩ := h
  obtain rfl : u = Value.ref a := rx
  exact d_notIn hu I g ry fun s3 I3 => ⟨.bl (!o.isSome), H, I3, rfl, q⟩
abbrev rInS (neg : Bool) : R2 := fun x y H Q => ∃ i j, x = .str i ∧ y = .str j ∧ Q (.bl (if neg = true then !inStr i j else inStr i j)) H
theorem op_inS' {X : Cx} : OpR X (compareOp .In) (rInS false) := by
  intro pins s σ H x y v u Q I rx ry h
  obtain ⟨i, j, rfl, rfl, q⟩ := h
  by_cases h1 : i.cps.size = 1
  · obtain ⟨c, hc⟩ : ∃ c, i = ⟨#[c]⟩ := by
      obtain ⟨arr⟩ := i
      obtain ⟨l⟩ := arr
      match l, h1 with
      | [c], _ => exact ⟨c, rfl⟩
    subst hc
    refine op_in_sign pins s σ H _ _ v u Q I rx ry ⟨c, j, rfl, rfl, ?_⟩
    simpa [inStr] using q
  · refine op_in_str pins s σ H _ _ v u Q I rx ry ⟨i, j, rfl, rfl, ?_⟩
    simpa [inStr, h1] using q
theorem op_notInS' {X : Cx} : OpR X (compareOp .NotIn) (rInS true) := by
  intro pins s σ H x y v u Q I rx ry h
  obtain ⟨i, j, rfl, rfl, q⟩ := h
  by_cases h1 : i.cps.size = 1
  · obtain ⟨c, hc⟩ : ∃ c, i = ⟨#[c]⟩ := by
      obtain ⟨arr⟩ := i
      obtain ⟨l⟩ := arr
      match l, h1 with
      | [c], _ => exact ⟨c, rfl⟩
    subst hc
    refine op_notIn_sign pins s σ H _ _ v u Q I rx ry ⟨c, j, rfl, rfl, ?_⟩
    simpa [inStr] using q
  · refine op_notin_str pins s σ H _ _ v u Q I rx ry ⟨i, j, rfl, rfl, ?_⟩
    simpa [inStr, h1] using q
abbrev rInA (K : PySem.W.Frag) : R2 := rOr (rInD K) (rOr (rIn K false) (rOr (rInS false) (rDIn false)))
abbrev rNotInA (K : PySem.W.Frag) : R2 := rOr (rNotInD K) (rOr (rIn K true) (rOr (rInS true) (rDIn true)))
theorem op_inA {X : Cx} (hu : X.A.units + 65 < cLine) : OpR X (compareOp .In) (rInA X.K) := (op_inD hu).or (op_in_seq.or (op_inS'.or (op_dIn (by omega))))
theorem op_notInA {X : Cx} (hu : X.A.units + 65 < cLine) : OpR X (compareOp .NotIn) (rNotInA X.K) := (op_notInD hu).or (op_notIn_seq.or (op_notInS'.or (op_dNotIn (by omega))))
theorem keyD_ok {K : PySem.W.Frag} {W : Fz} {v : V} {d : D} {k : Key} (h : Rp K W v d) (e : keyD d = some k) : v = kV k := by
  cases h <;> cases e <;> rfl
theorem keysD_ok {K : PySem.W.Frag} {W : Fz} : ∀ {vs : List V} {ds : List D} {ks : List Key}, RpA K W vs ds → keysD ds = some ks → vs = ks.map kV
  | _, _, _, .nil, e => by cases e; rfl
  | _, _, ks, .cons (d := d) (ds := ds) r t, e => by
    unfold keysD at e
    cases h1 : keyD d with
    | none => rw [h1] at e; cases e
    | some k =>
      cases h2 : keysD ds with
      | none => rw [h1, h2] at e; cases e
      | some ks' =>
        rw [h1, h2] at e; cases e
        rw [keyD_ok r h1, keysD_ok t h2]; rfl
theorem valV_isSome {κ : Type} [DecidableEq κ] (kvs : List (κ × V)) (k : κ) : (valV kvs k).isSome = (kvs.map (·.1)).any fun k' => decide (k' = k) := by
  rw [← valV_any]
  simp [List.any_map, Function.comp_def]
theorem inD_any {K : PySem.W.Frag} {neg : Bool} {r : R2} (h1 : ∀ x y H Q, (if neg = true then rNotInD K x y H Q else rInD K x y H Q) → r x y H Q) (h2 : ∀ x y H Q, rIn K neg x y H Q → r x y H Q)
    (h3 : ∀ x y H Q, rInS neg x y H Q → r x y H Q) (h4 : ∀ x y H Q, rDIn neg x y H Q → r x y H Q)
    {W : Fz} {H : Hp} {x y : V} {dx dy : D} {b : Bool} (s : Same W.h H) (rx : Rp K W x dx) (ry : Rp K W y dy) (e : inD dx dy = some b) {Q : VK} (q : Q (.bl (if neg = true then !b else b)) H) : r x y H Q := by
  cases dy with
  | lst ys =>
    unfold inD at e
    simp only at e
    split at e
    · rename_i c
      obtain ⟨c1, c2⟩ := Bool.and_eq_true_iff.mp c
      obtain ⟨p1, p2⟩ := rp_shaped s rx c1
      obtain ⟨q1, q2⟩ := rp_shaped s ry c2
      cases e
      have c3 : purA ys = true := by simpa [pur] using (Bool.and_eq_true_iff.mp c2).1
      have ea := any_toPy dx (Bool.and_eq_true_iff.mp c1).1 ys c3
      refine h1 _ _ _ _ ?_
      cases neg with
      | true => rw [if_pos rfl] at q ⊢; exact ⟨_, _, p1, by simpa [toPy] using q1, p2, by simpa [toPy] using q2, by rw [ea]; exact q⟩
      | false => rw [if_neg Bool.false_ne_true] at q ⊢; exact ⟨_, _, p1, by simpa [toPy] using q1, p2, by simpa [toPy] using q2, by rw [ea]; exact q⟩
    · cases e
  | tup ys =>
    unfold inD at e
    simp only at e
    split at e
    · rename_i c
      obtain ⟨c1, c2⟩ := Bool.and_eq_true_iff.mp c
      cases e
      obtain ⟨a, xs, rfl, t1, _, u1⟩ := rp_tup ry
      refine h2 _ _ _ _ ⟨a, xs, rfl, .inr (sqT_mono s t1), rp_flat rx c1, rpA_flat u1 c2, ?_⟩
      unfold inV
      rw [rpA_any rx c1 u1 c2]
      cases neg <;> exact q
    · cases e
  | str z =>
    unfold inD at e
    cases dx <;> simp only at e <;> try (cases e; done)
    obtain ⟨rfl, _⟩ := rp_str rx
    obtain ⟨rfl, _⟩ := rp_str ry
    have e := Option.some.inj e
    subst e
    exact h3 _ _ _ _ ⟨_, _, rfl, rfl, q⟩
  | dk ks l =>
    obtain ⟨k, ek, rfl⟩ := Option.map_eq_some_iff.mp e
    obtain ⟨a, kvs, rfl, hd, rfl, _⟩ := rp_dk ry
    refine h4 _ _ _ _ ⟨a, valV kvs k, rfl, .inl ⟨kvs, k, Rd.mono s hd, keyD_ok rx ek, rfl⟩, ?_⟩
    rw [valV_isSome]
    exact q
  | dt ks l => cases e
  | non => cases e
  | bl _ => cases e
  | int _ => cases e
  | hd _ => cases e
  | tx _ => cases e
def notInD (x y : D) : Option Bool := (inD x y).map not
theorem inD_ok {K : PySem.W.Frag} : OpB K (rInA K) inD := fun W H x y dx dy b s rx ry e Q q =>
  inD_any (K := K) (neg := false) (r := rInA K) (fun _ _ _ _ h => .inl h) (fun _ _ _ _ h => .inr (.inl h)) (fun _ _ _ _ h => .inr (.inr (.inl h))) (fun _ _ _ _ h => .inr (.inr (.inr h))) s rx ry e q
theorem notInD_ok {K : PySem.W.Frag} : OpB K (rNotInA K) notInD := fun W H x y dx dy b s rx ry e Q q => by
  obtain ⟨b', e', rfl⟩ := Option.map_eq_some_iff.mp e
  exact inD_any (K := K) (neg := true) (r := rNotInA K) (fun _ _ _ _ h => .inl h) (fun _ _ _ _ h => .inr (.inl h)) (fun _ _ _ _ h => .inr (.inr (.inl h))) (fun _ _ _ _ h => .inr (.inr (.inr h))) s rx ry e' q
end PD
end
section
set_option Elab.async false
set_option linter.all false
set_option maxRecDepth 100000
set_option maxHeartbeats 4000000
set_option autoImplicit false
namespace PD
open PySem PySem.Spec L2
open PyProof.Rows hiding St
variable [Live]

/-! ### arithmetic, joining -/
theorem sOk_len {x : Str} (h : sOk x = true) : x.length ≤ sizeLine := of_decide_eq_true (Bool.and_eq_true_iff.mp h).2
theorem sOk_ok {x : Str} (h : sOk x = true) : PyData.strOk x = true := (Bool.and_eq_true_iff.mp h).1
theorem sOk_mk {x : Str} (h : PyData.strOk x = true) (h' : x.length ≤ sizeLine) : sOk x = true := Bool.and_eq_true_iff.mpr ⟨h, decide_eq_true h'⟩
theorem strOk_iff {x : Str} : PyData.strOk x = true ↔ ∀ c ∈ x.cps.toList, c < 0x110000 := by
  unfold PyData.strOk
  rw [← Array.all_toList, List.all_eq_true]
  simp
theorem cps_append (x y : Str) : (x ++ y).cps.toList = x.cps.toList ++ y.cps.toList := by
  show (x.cps ++ y.cps).toList = _
  simp
theorem len_append (x y : Str) : (x ++ y).length = x.length + y.length := by
  show (x.cps ++ y.cps).size = _
  simp [Str.length]
abbrev rCatL (K : PySem.W.Frag) : R2 := fun x y H Q => ∃ l b xs zs, x = .ref l ∧ y = .ref b ∧ SqL K H l xs ∧ SqL K H b zs ∧ xs.length + zs.length ≤ sizeLine ∧ ∀ p, H p = none → Q (.ref p) (upd H p (.lst (xs ++ zs)))
theorem op_catL {X : Cx} : OpR X (binaryOp .Add) (rCatL X.K) := by
  intro pins s σ H x y v u Q I rx ry h
  obtain ⟨l, b, xs, zs, rfl, rfl, hx, hy, hz, q⟩ := h
  cases rx
  cases ry
  obtain ⟨its, r1, ⟨o1, n1, g1, c1, k1, d1⟩, _⟩ := I.list hx
  obtain ⟨jts, r2, ⟨o2, n2, g2, c2, k2, d2⟩, _⟩ := I.list hy
  obtain ⟨cl1, dd1, dt1, sl1⟩ := o1
  obtain ⟨cl2, dd2, dt2, sl2⟩ := o2
  simp only at c1 d1 c2 d2
  subst c1 d1 c2 d2
  have e1 := r1.length
  have e2 := r2.length
  refine concat_meets ⟨_, g1, rfl⟩ ⟨_, g2, rfl⟩ noFill_list_add seq_list_add PySem.F.slot_list_add PySem.F.entry_list_add (PySem.F.args_list_add_2 _ _)
    (list_addW l b its.toArray jts.toArray n1 n2 dd1 dd2 sl1 sl2 (by simp only [List.size_toArray]; omega)) ⟨g1, g2, ?_⟩
  have e3 : its.toArray ++ jts.toArray = (its ++ jts).toArray := by simp
  rw [e3]
  exact ⟨.ref _, _, I.lnew (t' := s.toks) (r1.append r2) (by rw [List.length_append]; omega), rfl, q _ I.fresh⟩
def addD : D → D → Option D
  | .int i, .int j => some (.int (i + j))
  | .str x, .str y => szD (x.length + y.length) (.str (x ++ y))
  | .tup xs, .tup ys => szD (xs.length + ys.length) (.tup (xs ++ ys))
  | .lst xs, .lst ys => szD (xs.length + ys.length) (.lst (xs ++ ys))
  | _, _ => none
abbrev rAdd' (K : PySem.W.Frag) : R2 := rOr (rI0 fun i j => .int (i + j)) (rOr (fun x y H Q => ∃ i j, x = .str i ∧ y = .str j ∧ i.length + j.length ≤ sizeLine ∧ Q (.str (i ++ j)) H) (rOr (rCatA K) (rCatL K)))
theorem op_addA {X : Cx} : OpR X (binaryOp .Add) (rAdd' X.K) := op_add.or (op_add_str.or (op_catA.or op_catL))
theorem addD_ok {K : PySem.W.Frag} : OpD K (rAdd' K) addD := fun F H g x y dx dy d s gr rx ry e Q q => by
  unfold addD at e
  split at e
  · cases e
    rw [rp_int rx, rp_int ry]
    exact .inl ⟨_, _, rfl, rfl, q _ H F (Stp.refl s gr) (.int _)⟩
  · obtain ⟨hz, rfl⟩ := szD_inv e
    obtain ⟨rfl, h1⟩ := rp_str rx
    obtain ⟨rfl, h2⟩ := rp_str ry
    refine .inr (.inl ⟨_, _, rfl, rfl, hz, q _ H F (Stp.refl s gr) (.str _ (sOk_mk ?_ (by rw [len_append]; exact hz)))⟩)
    rw [strOk_iff] at *
    intro c hc
    rw [cps_append, List.mem_append] at hc
    rcases hc with hc | hc
    · exact strOk_iff.mp (sOk_ok h1) c hc
    · exact strOk_iff.mp (sOk_ok h2) c hc
  · obtain ⟨hz, rfl⟩ := szD_inv e
    obtain ⟨a, vs, rfl, t1, l1, u1⟩ := rp_tup rx
    obtain ⟨b, ws, rfl, t2, l2, u2⟩ := rp_tup ry
    have e1 := u1.length
    have e2 := u2.length
    refine .inr (.inr (.inl ⟨a, b, vs, ws, rfl, rfl, sqT_mono s t1, sqT_mono s t2, by omega, fun h => ?_, fun _ h => ?_, fun _ _ p hp => ?_⟩))
    · subst h
      cases u1
      exact q _ H F (Stp.refl s gr) ry
    · subst h
      cases u2
      rw [List.append_nil] at q
      exact q _ H F (Stp.refl s gr) rx
    · exact q _ _ _ (.alloc s gr hp) (rp_new_tup (s.free hp) (by rw [List.length_append]; exact hz) (u1.append u2))
  · obtain ⟨hz, rfl⟩ := szD_inv e
    obtain ⟨a, vs, rfl, t1, l1, u1⟩ := rp_lst rx
    obtain ⟨b, ws, rfl, t2, l2, u2⟩ := rp_lst ry
    have e1 := u1.length
    have e2 := u2.length
    refine .inr (.inr (.inr ⟨a, b, vs, ws, rfl, rfl, sqL_mono s t1, sqL_mono s t2, by omega, fun p hp => ?_⟩))
    exact q _ _ _ (.alloc s gr hp) (rp_new_lst (s.free hp) (by rw [List.length_append]; exact hz) (u1.append u2))
  · cases e
/-- operators of two numbers under a condition -/
def intD (c : Int → Int → Bool) (h : Int → Int → Int) : D → D → Option D
  | .int i, .int j => if c i j = true then some (.int (h i j)) else none
  | _, _ => none
theorem intD_ok {K : PySem.W.Frag} {C : Int → Int → Prop} {c : Int → Int → Bool} {h : Int → Int → Int} (hc : ∀ i j, c i j = true → C i j) : OpD K (rI C fun i j => .int (h i j)) (intD c h) := fun F H g x y dx dy d s gr rx ry e Q q => by
  unfold intD at e
  split at e
  · split at e
    · cases e
      rw [rp_int rx, rp_int ry]
      exact ⟨_, _, rfl, rfl, hc _ _ (by assumption), q _ H F (Stp.refl s gr) (.int _)⟩
    · cases e
  · cases e
def subD : D → D → Option D
  | .int i, .int j => some (.int (i - j))
  | _, _ => none
theorem subD_ok {K : PySem.W.Frag} : OpD K (rI0 fun i j => .int (i - j)) subD := fun F H g x y dx dy d s gr rx ry e Q q => by
  unfold subD at e
  split at e
  · cases e
    rw [rp_int rx, rp_int ry]
    exact ⟨_, _, rfl, rfl, q _ H F (Stp.refl s gr) (.int _)⟩
  · cases e
def mulC (i j : Int) : Bool := (decide (-(2 ^ 64) < i) && decide (i < 2 ^ 64)) || (decide (-(2 ^ 64) < j) && decide (j < 2 ^ 64))
theorem mulC_ok (i j : Int) (h : mulC i j = true) : CMul i j := by simpa [mulC, CMul] using h
def fdivC (_ j : Int) : Bool := decide (0 < j) && decide (j < 2 ^ 8000)
theorem fdivC_ok (i j : Int) (h : fdivC i j = true) : CDivW i j := by
  have h : 0 < j ∧ j < 2 ^ 8000 := by
    obtain ⟨h1, h2⟩ := Bool.and_eq_true_iff.mp h
    exact ⟨of_decide_eq_true h1, of_decide_eq_true h2⟩
  refine wide_div (b := 8000) h.1 ?_ (by decide) (by decide)
  have := h.2
  have e : (2 : Int) ^ 8000 = ((2 ^ 8000 : Nat) : Int) := by simp
  rw [e] at this
  omega
def modC (_ j : Int) : Bool := decide (0 < j)
def powC (i j : Int) : Bool := decide (0 ≤ j) && (decide (j ≤ 1000000) && decide (i.natAbs < 2 ^ 64))
theorem powC_ok (i j : Int) (h : powC i j = true) : CPow i j := by simpa [powC, CPow] using h
abbrev dMul := intD mulC fun i j => i * j
abbrev dFdiv := intD fdivC fun i j => i / j
abbrev dMod := intD modC fun i j => i % j
abbrev dPow := intD powC fun i j => i ^ j.toNat
section
variable {X : Cx} {a b : Expr} {fa fb : E} {pos : Pos}
theorem pd_add (ha : PD X a fa) (hb : PD X b fb) : PD X (.BinOp a .Add b pos) (eOp addD fa fb) := pd_op op_addA addD_ok ha hb
theorem pd_sub (ha : PD X a fa) (hb : PD X b fb) : PD X (.BinOp a .Sub b pos) (eOp subD fa fb) := pd_op op_sub subD_ok ha hb
theorem pd_mul (ha : PD X a fa) (hb : PD X b fb) : PD X (.BinOp a .Mult b pos) (eOp dMul fa fb) := pd_op op_mul (intD_ok mulC_ok) ha hb
theorem pd_fdiv (ha : PD X a fa) (hb : PD X b fb) : PD X (.BinOp a .FloorDiv b pos) (eOp dFdiv fa fb) := pd_op op_fdivW (intD_ok fdivC_ok) ha hb
theorem pd_mod (ha : PD X a fa) (hb : PD X b fb) : PD X (.BinOp a .Mod b pos) (eOp dMod fa fb) := pd_op op_mod (intD_ok fun i j h => of_decide_eq_true h) ha hb
theorem pd_pow (ha : PD X a fa) (hb : PD X b fb) : PD X (.BinOp a .Pow b pos) (eOp dPow fa fb) := pd_op op_pow (intD_ok powC_ok) ha hb
/-- -x -/
def eNeg (a : E) : E := fun ρ => mb (a ρ) fun x => match x with
  | .int i => mr (.int (-i))
  | _ => mz
theorem pd_neg (h : PD X a fa) : PD X (.UnaryOp .USub a pos) (eNeg fa) := by
  obtain ⟨t, ht, k⟩ := h
  refine ⟨_, pe_un un_neg ht, fun σ H F ρ g pre d g' e Q q => ?_⟩
  obtain ⟨x, g1, e1, e⟩ := mb_inv e
  cases x <;> try (cases e; done)
  obtain ⟨rfl, rfl⟩ := mr_inv e
  refine k σ H F ρ g pre _ _ e1 _ fun v H1 F1 s1 r1 => ?_
  rw [rp_int r1]
  exact ⟨_, rfl, q _ H1 F1 s1 (.int _)⟩
end
/-! ### calls of built-ins: a reading of values by data -/
/-- the answer has no parts -/
def CallB (K : PySem.W.Frag) (r : List V → Hp → VK → Prop) (h : List D → Option D) : Prop := ∀ (W : Fz) (H : Hp) vs ds d, Same W.h H → RpA K W vs ds → h ds = some d → ∀ Q : VK, (∀ v, (∀ F, Rp K F v d) → Q v H) → r vs H Q
/-- the answer's parts are the arguments', or new -/
def CallD (K : PySem.W.Frag) (r : List V → Hp → VK → Prop) (h : List D → Option D) : Prop := ∀ (F : Fz) (H : Hp) g vs ds d, Same F.h H → GRep K g F H → RpA K F vs ds → h ds = some d →
  ∀ Q : VK, (∀ v H' F', Stp K g g F F' H H' → Rp K F' v d → Q v H') → r vs H Q
def eBi (h : List D → Option D) (as : EA) : E := fun ρ => mb (as ρ) fun ds => ml (h ds)
section
variable {X : Cx} {e : Expr} {es : List Expr} {fs : EA} {x : Str} {p pos : Pos} {id T : String} {r : List V → Hp → VK → Prop} {h : List D → Option D}
theorem pd_biB (hc : CallR X (.builtin id) r) (hh : CallB X.K r h) (hm : X.mg x = none) (ha : PBA X (e :: es) fs) (hv : bootBuiltins x = some (.builtin id) := by decide +kernel) (hg : Gl X x := by rfl) (hn : x ≠ "__name__" := by decide)
    (hdb : (x == ("__debug__" : Str)) = false := by decide) (he : starEach (e :: es) X.env = (false, eval e X.env) :: starEach es X.env := by rfl) (hpl : (backTo pos (starEach es X.env)).any (·.1) = false := by rfl) :
    PD X (.Call (.Name x p) (e :: es) [] pos) (eBi h fs) := by
  obtain ⟨t, ht, k⟩ := ha
  refine ⟨_, pe_callB hc hg hm hv ht hn hdb he hpl, fun σ H F ρ g pre d g' e Q q => ?_⟩
  obtain ⟨ds, g1, e1, e⟩ := mb_inv e
  obtain ⟨e2, rfl⟩ := ml_inv e
  refine k σ H F ρ g pre ds _ e1 _ fun vs H1 F1 s1 r1 => ?_
  exact hh _ H1 vs ds d (off_sub _ _) r1 e2 Q fun v rv => q v H1 F1 s1 (rv F1)
theorem pd_biD (hc : CallR X (.builtin id) r) (hh : CallD X.K r h) (hm : X.mg x = none) (ha : PDA X (e :: es) fs) (hv : bootBuiltins x = some (.builtin id) := by decide +kernel) (hg : Gl X x := by rfl) (hn : x ≠ "__name__" := by decide)
    (hdb : (x == ("__debug__" : Str)) = false := by decide) (he : starEach (e :: es) X.env = (false, eval e X.env) :: starEach es X.env := by rfl) (hpl : (backTo pos (starEach es X.env)).any (·.1) = false := by rfl) :
    PD X (.Call (.Name x p) (e :: es) [] pos) (eBi h fs) := by
  obtain ⟨t, ht, k⟩ := ha
  refine ⟨_, pe_callB hc hg hm hv ht hn hdb he hpl, fun σ H F ρ g pre d g' e Q q => ?_⟩
  obtain ⟨ds, g1, e1, e⟩ := mb_inv e
  obtain ⟨e2, rfl⟩ := ml_inv e
  refine k σ H F ρ g pre ds _ e1 _ fun vs H1 F1 s1 r1 => ?_
  exact hh F1 H1 _ vs ds d s1.sub s1.rep r1 e2 Q fun v H2 F2 s2 r2 => q v H2 F2 (s1.trans s2) r2
theorem pd_biTD (hc : CallR X (.type T) r) (hh : CallD X.K r h) (hm : X.mg x = none) (ha : PDA X (e :: es) fs) (hv : bootBuiltins x = some (.type T) := by decide +kernel) (hg : Gl X x := by rfl) (hn : x ≠ "__name__" := by decide)
    (hdb : (x == ("__debug__" : Str)) = false := by decide) (he : starEach (e :: es) X.env = (false, eval e X.env) :: starEach es X.env := by rfl) (hpl : (backTo pos (starEach es X.env)).any (·.1) = false := by rfl) :
    PD X (.Call (.Name x p) (e :: es) [] pos) (eBi h fs) := by
  obtain ⟨t, ht, k⟩ := ha
  refine ⟨_, pe_callTy hc hg hm hv ht hn hdb he hpl, fun σ H F ρ g pre d g' e Q q => ?_⟩
  obtain ⟨ds, g1, e1, e⟩ := mb_inv e
  obtain ⟨e2, rfl⟩ := ml_inv e
  refine k σ H F ρ g pre ds _ e1 _ fun vs H1 F1 s1 r1 => ?_
  exact hh F1 H1 _ vs ds d s1.sub s1.rep r1 e2 Q fun v H2 F2 s2 r2 => q v H2 F2 (s1.trans s2) r2
end
end PD
end
section
set_option Elab.async false
set_option linter.all false
set_option maxRecDepth 100000
set_option maxHeartbeats 4000000
set_option autoImplicit false
namespace PD
open PySem PySem.Spec L2
open PyProof.Rows hiding St
variable [Live]

/-! ### the signs of what is shown -/
def Sg (x : Str) : Prop := ∀ c ∈ x.cps.toList, c < 0x110000
theorem Sg.append {x y : Str} (h : Sg x) (h' : Sg y) : Sg (x ++ y) := fun c hc => by
  rw [cps_append, List.mem_append] at hc
  exact hc.elim (h c) (h' c)
theorem sg_char (c : Char) : c.toNat < 0x110000 := by
  have := c.valid
  rcases this with h | ⟨_, h⟩
  · show c.val.toNat < _; omega
  · exact h
theorem sg_string (s : String) : Sg (Str.ofString s) := fun c hc => by
  rw [Str.ofString_eq_toList] at hc
  simp only at hc
  obtain ⟨d, _, rfl⟩ := List.mem_map.mp hc
  exact sg_char d
theorem sg_hex (c w : Nat) : ∀ d ∈ List.replicate w 48 ++ (Nat.toDigits 16 c).map Char.toNat, d < 0x110000 := fun d hd => by
  rcases List.mem_append.mp hd with h | h
  · rw [(List.mem_replicate.mp h).2]; decide
  · obtain ⟨x, _, rfl⟩ := List.mem_map.mp h
    exact sg_char x
theorem sg_reprChar (q c : Nat) (hc : c < 0x110000) : ∀ d ∈ Builtin.Str.reprChar q c, d < 0x110000 := by
  intro d hd
  unfold Builtin.Str.reprChar at hd
  dsimp only at hd
  repeat' split at hd
  all_goals first
    | (rcases List.mem_append.mp hd with hd | hd
       · simp only [List.mem_cons, List.not_mem_nil, or_false] at hd; omega
       · exact sg_hex _ _ d hd)
    | (simp only [List.mem_cons, List.not_mem_nil, or_false] at hd; omega)
theorem sg_reprFold (q : Nat) (P : Nat → Prop) (hP : ∀ n, P n ↔ n < 0x110000) : ∀ (l : List Nat) (acc : Array Nat), (∀ c ∈ l, c < 0x110000) → (∀ c ∈ acc.toList, c < 0x110000) →
    ∀ c ∈ (l.foldl (fun out c => out ++ (Builtin.Str.reprChar q c).toArray) acc).toList, c < 0x110000
  | [], acc, _, h => h
  | x :: l, acc, h1, h2 => by
    refine sg_reprFold q P hP l _ (fun c hc => h1 c (List.mem_cons_of_mem _ hc)) fun c hc => ?_
    rw [Array.toList_append, List.mem_append] at hc
    rcases hc with hc | hc
    · exact h2 c hc
    · exact sg_reprChar q x (h1 x List.mem_cons_self) c (by simpa using hc)
theorem sg_repr {x : Str} (h : Sg x) : Sg (reprText x) := by
  have hq : reprQuote x < 0x110000 := by unfold reprQuote; split <;> decide
  intro c hc
  unfold reprText at hc
  simp only [Array.toList_push, List.mem_append, List.mem_singleton] at hc
  rcases hc with hc | rfl
  · rw [← Array.foldl_toList] at hc
    refine sg_reprFold (reprQuote x) (· < 0x110000) (fun _ => Iff.rfl) x.cps.toList #[reprQuote x] h (fun d hd => ?_) c hc
    simp only [List.mem_singleton] at hd
    rw [hd]; exact hq
  · exact hq
theorem sg_textFrom : ∀ (ts : List Str) (k : Nat) (acc : Str), Sg acc → (∀ t ∈ ts, Sg t) → Sg (textFrom k acc ts)
  | [], _, _, h, _ => h
  | t :: ts, k, acc, h, h' => sg_textFrom ts (k + 1) _ ((h.append (sg_string _)).append (h' t List.mem_cons_self)) fun u hu => h' u (List.mem_cons_of_mem _ hu)
theorem sg_join : ∀ (sep : Str) (ts : List Str), Sg sep → (∀ t ∈ ts, Sg t) → Sg (Str.join sep ts)
  | _, [], _, _ => fun c hc => by simp [Str.join, Str.empty] at hc
  | _, [x], _, h => h x List.mem_cons_self
  | sep, x :: y :: r, hs, h => ((h x List.mem_cons_self).append hs).append (sg_join sep (y :: r) hs fun t ht => h t (List.mem_cons_of_mem _ ht))
mutual
theorem sg_shown : ∀ d : PyData, d.canLay0 = true → Sg d.shown
  | .none, _ => by rw [PyData.shown]; exact sg_string _
  | .bool b, _ => by rw [PyData.shown]; cases b <;> exact sg_string _
  | .int i, _ => by rw [PyData.shown]; exact sg_string _
  | .str x, h => by rw [PyData.shown]; exact sg_repr (strOk_iff.mp (by simpa [PyData.canLay0] using h))
  | .list xs, h => by
    rw [PyData.shown]
    exact (sg_textFrom _ _ _ (sg_string _) (sg_shownAll xs (by simpa [PyData.canLay0] using h))).append (sg_string _)
  | .tuple xs, h => by
    rw [PyData.shown]
    exact ((sg_string _).append (sg_join _ _ (sg_string _) (sg_shownAll xs (by simpa [PyData.canLay0] using h)))).append (sg_string _)
  | .dict _, h => by simp [PyData.canLay0] at h
theorem sg_shownAll : ∀ ds : List PyData, PyData.canLayAll0 ds = true → ∀ t ∈ PyData.shownAll ds, Sg t
  | [], _, t, ht => by simp [PyData.shownAll] at ht
  | d :: ds, h, t, ht => by
    have h : d.canLay0 = true ∧ PyData.canLayAll0 ds = true := by simpa [PyData.canLayAll0] using h
    rw [PyData.shownAll] at ht
    rcases List.mem_cons.mp ht with rfl | ht
    · exact sg_shown d h.1
    · exact sg_shownAll ds h.2 t ht
end
/-! ### repr -/
def shows (d : D) : Str := (toPy d).shown
def showOk (d : D) : Bool := cmpOk d && ((toPy d).showable && decide ((shows d).length ≤ sizeLine))
def reprD : List D → Option D
  | [d] => if showOk d = true then some (.str (shows d)) else none
  | _ => none
mutual
theorem noDict : ∀ d : D, pur d = true → (toPy d).hasDict = false
  | .non, _ => rfl
  | .bl _, _ => rfl
  | .int _, _ => rfl
  | .str _, _ => rfl
  | .tup l, h => by simpa [toPy, PyData.hasDict] using noDictA l (by simpa [pur] using h)
  | .lst l, h => by simpa [toPy, PyData.hasDict] using noDictA l (by simpa [pur] using h)
  | .dk _ _, h => by simp [pur] at h
  | .dt _ _, h => by simp [pur] at h
  | .hd _, h => by simp [pur] at h
  | .tx _, h => by simp [pur] at h
theorem noDictA : ∀ d : List D, purA d = true → PyData.hasDictAll (toPyA d) = false
  | [], _ => rfl
  | d :: l, h => by
    simp only [purA, Bool.and_eq_true] at h
    simp [toPyA, PyData.hasDictAll, noDict d h.1, noDictA l h.2]
end
abbrev rRepr (K : PySem.W.Frag) : List V → Hp → VK → Prop := fun xs H Q => ∃ x d, xs = [x] ∧ Dp K H x d ∧ d.hasDict = false ∧ d.showable = true ∧ d.shown.length ≤ sizeLine ∧ d.depth ≤ 64 ∧ Q (.str d.shown) H
theorem call_reprA {X : Cx} (gd : X.A.guards = some []) (hu : X.A.units + 66 < cLine) : CallR X (.builtin "repr") (rRepr X.K) := by
  intro pins s σ H xs us Q I r h
  obtain ⟨x, d, rfl, hd, hn, hs, hz, hp, q⟩ := h
  obtain ⟨u, rfl, ru⟩ := vals1 r
  obtain ⟨as, rd⟩ := Dp.reads I d x u hd ru
  have fin : EP X pins σ Q (.str d.shown s.toks) { s with toks := s.toks + 1 } := ⟨.str _, H, I.tok _, ⟨_, rfl⟩, q⟩
  cases hd with
  | non => cases ru; exact PySem.P.repr_of_none fin
  | bl b => cases ru; exact PySem.P.repr_of_bool fin
  | int i => obtain ⟨t, rfl⟩ := ru; exact PySem.P.repr_of_int (by simpa [PyData.showable] using hs) fin
  | str x => obtain ⟨t, rfl⟩ := ru; exact PySem.P.repr_of_str fin (by simpa [PyData.shown] using hz)
  | lst h1 h2 =>
    cases ru
    exact repr_of_reads' rd hs (PyData.noDict_hsm hn) gd (by omega) (fun _ _ e => e) (fun h' u tk hk => ⟨.str _, H, I.kept (t' := tk) hk, ⟨_, rfl⟩, q⟩) hz
  | tup h1 h2 =>
    cases ru
    exact repr_of_reads' rd hs (PyData.noDict_hsm hn) gd (by omega) (fun _ _ e => e) (fun h' u tk hk => ⟨.str _, H, I.kept (t' := tk) hk, ⟨_, rfl⟩, q⟩) hz
theorem reprD_ok {K : PySem.W.Frag} : CallB K (rRepr K) reprD := fun W H vs ds d s rv e Q q => by
  match ds, e with
  | [x], e =>
    have e : (if showOk x = true then some (D.str (shows x)) else none) = some d := e
    by_cases c : showOk x = true
    · rw [if_pos c] at e
      cases e
      cases rv with
      | cons r t =>
        cases t
        obtain ⟨c1, c2⟩ := Bool.and_eq_true_iff.mp c
        obtain ⟨c3, c4⟩ := Bool.and_eq_true_iff.mp c2
        obtain ⟨c5, c6⟩ := Bool.and_eq_true_iff.mp c1
        obtain ⟨p1, p2⟩ := rp_dp s r c5
        refine ⟨_, _, rfl, p1, noDict x c5, c3, of_decide_eq_true c4, by rw [dep_ok]; exact of_decide_eq_true c6, q _ fun F => .str _ (sOk_mk (strOk_iff.mpr (sg_shown _ p2)) (of_decide_eq_true c4))⟩
    · rw [if_neg c] at e
      cases e
/-! ### len -/
def lenD : List D → Option D
  | [.str x] => some (.int x.length)
  | [.lst l] => some (.int l.length)
  | [.tup l] => some (.int l.length)
  | [.dk ks _] => some (.int ks.length)
  | _ => none
abbrev rLen' (K : PySem.W.Frag) : List V → Hp → VK → Prop := fun xs H Q => (∃ x n, xs = [x] ∧ LenV K x H n ∧ Q (.int n) H) ∨ (∃ a, ∃ kvs : List (Key × V), xs = [V.ref a] ∧ Rd H a (.dK kvs) ∧ Q (.int kvs.length) H)
theorem call_lenR {X : Cx} : CallR X (.builtin "len") (fun xs H Q => ∃ a, ∃ kvs : List (Key × V), xs = [V.ref a] ∧ Rd H a (.dK kvs) ∧ Q (.int kvs.length) H) := by
  intro pins s σ H xs us Q I r h
  obtain ⟨a, kvs, rfl, ha, q⟩ := h
  obtain ⟨u, rfl, ru⟩ := vals1 r
  cases ru
  exact d_len I ha fun t s' I' => ⟨.int kvs.length, H, I', ⟨t, rfl⟩, q⟩
theorem call_lenA {X : Cx} : CallR X (.builtin "len") (rLen' X.K) := call_len.or call_lenR
theorem lenD_ok {K : PySem.W.Frag} : CallB K (rLen' K) lenD := fun W H vs ds d s rv e Q q => by
  unfold lenD at e
  split at e
  · cases e
    cases rv with
    | cons r t =>
      cases t
      obtain ⟨rfl, h⟩ := rp_str r
      exact .inl ⟨_, _, rfl, ⟨sOk_len h, rfl⟩, q _ fun F => .int _⟩
  · cases e
    cases rv with
    | cons r t =>
      cases t
      obtain ⟨a, xs, rfl, h1, h2, h3⟩ := rp_lst r
      rw [← h3.length] at q
      exact .inl ⟨_, _, rfl, .inl ⟨xs, sqL_mono s h1, rfl⟩, q _ fun F => .int _⟩
  · cases e
    cases rv with
    | cons r t =>
      cases t
      obtain ⟨a, xs, rfl, h1, h2, h3⟩ := rp_tup r
      rw [← h3.length] at q
      exact .inl ⟨_, _, rfl, .inr ⟨xs, sqT_mono s h1, rfl⟩, q _ fun F => .int _⟩
  · cases e
    cases rv with
    | cons r t =>
      cases t
      obtain ⟨a, kvs, rfl, h1, rfl, h3⟩ := rp_dk r
      rw [List.length_map] at q
      exact .inr ⟨a, kvs, rfl, Rd.mono s h1, q _ fun F => .int _⟩
  · cases e
/-! ### isinstance -/
inductive Ty where
  | int | str | tup | lst | bool | dict
def Ty.nm : Ty → String
  | .int => "int"
  | .str => "str"
  | .tup => "tuple"
  | .lst => "list"
  | .bool => "bool"
  | .dict => "dict"
def isiD : Ty → D → Option Bool
  | _, .hd _ => none
  | _, .tx _ => none
  | _, .dt _ _ => none
  | .int, .int _ => some true
  | .int, .bl _ => some true
  | .str, .str _ => some true
  | .tup, .tup _ => some true
  | .lst, .lst _ => some true
  | .bool, .bl _ => some true
  | .dict, .dk _ _ => some true
  | _, _ => some false
def tyNm : D → String
  | .non => "NoneType"
  | .bl _ => "bool"
  | .int _ => "int"
  | .str _ => "str"
  | .tup _ => "tuple"
  | .tx _ => "tuple"
  | .lst _ => "list"
  | _ => "dict"
theorem isiD_kit {T : Ty} {d : D} {b : Bool} (h : isiD T d = some b) : kitB (tyNm d) T.nm = some b := by
  cases T <;> cases d <;> simp only [isiD, Option.some.injEq, reduceCtorEq] at h <;> subst h <;> simp only [tyNm, Ty.nm] <;> decide +kernel
theorem rp_ty {K : PySem.W.Frag} {W : Fz} {H : Hp} {v : V} {d : D} (s : Same W.h H) (h : Rp K W v d) (hh : ∀ a, d ≠ .hd a) (ht : ∀ a b, d ≠ .dt a b) : TyX K H v (.type (tyNm d)) := by
  cases h with
  | non => exact .base .non
  | bl b => exact .base (.bl b)
  | int i => exact .base (.int i)
  | str x => exact .base (.str x)
  | tup h1 =>
    rcases sqT_mono s h1 with (h1 | ⟨o, h1⟩) | ⟨o, its, n, h1, h2, _⟩
    · exact .base (.tup h1)
    · exact .fTuple h1
    · exact .kTuple h1 h2
  | lst h1 =>
    rcases sqL_mono s h1 with (h1 | ⟨o, h1⟩) | ⟨o, its, n, h1, h2, _⟩
    · exact .base (.lst h1)
    · exact .base (.frz h1)
    · exact .kList h1 h2
  | dk h1 =>
    rcases Rd.mono s h1 with h1 | ⟨o, h1⟩
    · exact .base (.dK h1)
    · exact .fDict h1
  | dm h1 => exact absurd rfl (ht _ _)
  | hd a => exact absurd rfl (hh _)
  | tx h1 => exact .fTuple (s _ _ h1)
def eIsi (T : Ty) (f : E) : E := fun ρ => mb (f ρ) fun d => ml ((isiD T d).map D.bl)
section
variable {X : Cx} {e : Expr} {f : E} {pos p q : Pos}
theorem pd_isi (T : Ty) {x : Str} (hx : x = Str.ofString T.nm := by rfl) (hm : X.mg "isinstance" = none) (hm2 : X.mg x = none) (h : PB X e f) (hv : bootBuiltins x = some (.type T.nm) := by decide +kernel) (hg : Gl X "isinstance" := by rfl) (hg2 : Gl X x := by rfl) (hn : x ≠ "__name__" := by decide)
    (hdb : (x == ("__debug__" : Str)) = false := by decide) (he : starEach [e, .Name x q] X.env = (false, eval e X.env) :: starEach [.Name x q] X.env := by rfl) (he2 : starEach [.Name x q] X.env = (false, eval (.Name x q) X.env) :: starEach [] X.env := by rfl)
    (hpl : (backTo pos (starEach [.Name x q] X.env)).any (·.1) = false := by rfl) : PD X (.Call (.Name "isinstance" p) [e, .Name x q] [] pos) (eIsi T f) := by
  obtain ⟨t, ht, k⟩ := h
  refine ⟨_, pe_callB call_isi hg hm (by decide +kernel) (pa_cons ht (pa_cons (pe_bltn (v := .ty T.nm) hg2 hm2 hv rfl hn hdb) pa_nil he2) he) (by decide) (by decide) he hpl, fun σ H F ρ g pre d g' e Q q => ?_⟩
  obtain ⟨dx, g1, e1, e⟩ := mb_inv e
  obtain ⟨e2, rfl⟩ := ml_inv e
  obtain ⟨b, e3, rfl⟩ := Option.map_eq_some_iff.mp e2
  refine k σ H F ρ g pre dx _ e1 _ fun v H1 F1 s1 r1 => ?_
  exact ⟨v, .ty T.nm, _, _, b, rfl, .ty _, rp_ty (off_sub _ _) r1 (fun a z => by subst z; cases T <;> cases e3) (fun a b z => by subst z; cases T <;> cases e3), kit_ty (isiD_kit e3), q _ H1 F1 s1 (.bl b)⟩
end
/-! ### all, any -/
def bools : List D → Option (List Bool)
  | [] => some []
  | .bl b :: l => (bools l).map (b :: ·)
  | _ :: _ => none
theorem bools_ok : ∀ {l : List D} {bs : List Bool}, bools l = some bs → l = bs.map D.bl
  | [], _, h => by cases h; rfl
  | d :: l, bs, h => by
    cases d <;> try (cases h; done)
    obtain ⟨ms, h1, rfl⟩ := Option.map_eq_some_iff.mp h
    rw [bools_ok h1]; rfl
theorem bools_map : ∀ bs : List Bool, bools (bs.map D.bl) = some bs
  | [] => rfl
  | b :: bs => by simp [bools, bools_map bs]
def allD : List D → Option D
  | [.lst l] => (bools l).map fun bs => .bl (bs.all id)
  | _ => none
theorem lst1 {K : PySem.W.Frag} {W : Fz} {H : Hp} {vs : List V} {l : List D} (s : Same W.h H) (rv : RpA K W vs [.lst l]) : ∃ a xs, vs = [.ref a] ∧ SqL K H a xs ∧ SqL K W a xs ∧ xs.length ≤ sizeLine ∧ RpA K W xs l := by
  cases rv with
  | cons r t =>
    cases t
    obtain ⟨a, xs, rfl, h1, h2, h3⟩ := rp_lst r
    exact ⟨a, xs, rfl, sqL_mono s h1, h1, h2, h3⟩
theorem allD_ok {K : PySem.W.Frag} : CallB K (rAll K) allD := fun W H vs ds d s rv e Q q => by
  unfold allD at e
  split at e
  · obtain ⟨bs, e1, rfl⟩ := Option.map_eq_some_iff.mp e
    obtain ⟨a, xs, rfl, h1, _, _, h3⟩ := lst1 s rv
    rw [bools_ok e1] at h3
    rw [h3.bls] at h1
    exact ⟨a, bs, rfl, h1, q _ fun F => .bl _⟩
  · cases e
/-! ### tuple(..), list(..) -/
def tupleD : List D → Option D
  | [.lst l] => some (.tup l)
  | [.tup l] => some (.tup l)
  | _ => none
def listD : List D → Option D
  | [.lst l] => some (.lst l)
  | [.tup l] => some (.lst l)
  | _ => none
abbrev rTuple (K : PySem.W.Frag) : List V → Hp → VK → Prop := fun xs H Q => ∃ p ys, xs = [.ref p] ∧ ((SqL K H p ys ∧ ∀ l, H l = none → Q (.ref l) (upd H l (.tup ys))) ∨ (SqT K H p ys ∧ Q (.ref p) H))
abbrev rList (K : PySem.W.Frag) : List V → Hp → VK → Prop := fun xs H Q => ∃ p ys, xs = [.ref p] ∧ (SqL K H p ys ∨ SqT K H p ys) ∧ ∀ l, H l = none → Q (.ref l) (upd H l (.lst ys))
theorem tupleD_ok {K : PySem.W.Frag} : CallD K (rTuple K) tupleD := fun F H g vs ds d s gr rv e Q q => by
  unfold tupleD at e
  split at e
  · cases e
    obtain ⟨a, xs, rfl, h1, _, h2, h3⟩ := lst1 s rv
    exact ⟨a, xs, rfl, .inl ⟨h1, fun p hp => q _ _ _ (.alloc s gr hp) (rp_new_tup (s.free hp) (by rw [← h3.length]; exact h2) h3)⟩⟩
  · cases e
    cases rv with
    | cons r t =>
      cases t
      obtain ⟨a, xs, rfl, h1, h2, h3⟩ := rp_tup r
      exact ⟨a, xs, rfl, .inr ⟨sqT_mono s h1, q _ _ _ (.refl s gr) r⟩⟩
  · cases e
theorem listD_ok {K : PySem.W.Frag} : CallD K (rList K) listD := fun F H g vs ds d s gr rv e Q q => by
  unfold listD at e
  split at e
  · cases e
    obtain ⟨a, xs, rfl, h1, _, h2, h3⟩ := lst1 s rv
    exact ⟨a, xs, rfl, .inl h1, fun p hp => q _ _ _ (.alloc s gr hp) (rp_new_lst (s.free hp) (by rw [← h3.length]; exact h2) h3)⟩
  · cases e
    cases rv with
    | cons r t =>
      cases t
      obtain ⟨a, xs, rfl, h1, h2, h3⟩ := rp_tup r
      exact ⟨a, xs, rfl, .inr (sqT_mono s h1), fun p hp => q _ _ _ (.alloc s gr hp) (rp_new_lst (s.free hp) (by rw [← h3.length]; exact h2) h3)⟩
  · cases e
/-! ### min, max of two -/
section
variable {X : Cx} {e : Expr} {es : List Expr} {f : E} {fs : EA} {pos p : Pos} {k : Nat}
theorem hu66 (hr : Room k X.A) : X.A.units + 66 < cLine := by have := hr.un; omega
theorem pd_len (hm : X.mg "len" = none) (ha : PBA X [e] fs) (hg : Gl X "len" := by rfl) (he : starEach [e] X.env = (false, eval e X.env) :: starEach [] X.env := by rfl) : PD X (.Call (.Name "len" p) [e] [] pos) (eBi lenD fs) :=
  pd_biB call_lenA lenD_ok hm ha (by decide +kernel) hg (by decide) (by decide) he (by rfl)
theorem pd_repr (hr : Room k X.A) (gd : X.A.guards = some []) (hm : X.mg "repr" = none) (ha : PBA X [e] fs) (hg : Gl X "repr" := by rfl) (he : starEach [e] X.env = (false, eval e X.env) :: starEach [] X.env := by rfl) : PD X (.Call (.Name "repr" p) [e] [] pos) (eBi reprD fs) :=
  pd_biB (call_reprA gd (hu66 hr)) reprD_ok hm ha (by decide +kernel) hg (by decide) (by decide) he (by rfl)
theorem pd_all (hc : X.calm = true) (hm : X.mg "all" = none) (ha : PBA X [e] fs) (hg : Gl X "all" := by rfl) (he : starEach [e] X.env = (false, eval e X.env) :: starEach [] X.env := by rfl) : PD X (.Call (.Name "all" p) [e] [] pos) (eBi allD fs) :=
  pd_biB (cr_all hc) allD_ok hm ha (by decide +kernel) hg (by decide) (by decide) he (by rfl)
theorem pd_tuple (hm : X.mg "tuple" = none) (ha : PDA X [e] fs) (hg : Gl X "tuple" := by rfl) (he : starEach [e] X.env = (false, eval e X.env) :: starEach [] X.env := by rfl) : PD X (.Call (.Name "tuple" p) [e] [] pos) (eBi tupleD fs) :=
  pd_biTD call_tuple_of tupleD_ok hm ha (by decide +kernel) hg (by decide) (by decide) he (by rfl)
theorem pd_list (hm : X.mg "list" = none) (ha : PDA X [e] fs) (hg : Gl X "list" := by rfl) (he : starEach [e] X.env = (false, eval e X.env) :: starEach [] X.env := by rfl) : PD X (.Call (.Name "list" p) [e] [] pos) (eBi listD fs) :=
  pd_biTD call_list_of listD_ok hm ha (by decide +kernel) hg (by decide) (by decide) he (by rfl)
variable {e2 : Expr}
end
end PD
end
section
set_option Elab.async false
set_option linter.all false
set_option maxRecDepth 100000
set_option maxHeartbeats 4000000
set_option autoImplicit false
namespace PD
open PySem PySem.Spec L2
open PyProof.Rows hiding St
variable [Live]

/-! ### canonical readings -/
def tD (K : PySem.W.Frag) (f : E) : TE := fun σ H Q => ∃ F ρ g d g', PreE K F H g ρ σ ∧ f ρ g = some (d, g') ∧ ∀ v H' F', Stp K g g' F F' H H' → Rp K F' v d → Q v H'
def tTT (K : PySem.W.Frag) (f : T) : TT := fun σ H Q => ∃ F ρ g b g', PreE K F H g ρ σ ∧ f ρ g = some (b, g') ∧ ∀ H' F', Stp K g g' F F' H H' → Q b H'
section
variable {X : Cx} {e : Expr}
theorem PD.can {f : E} (h : PD X e f) : PE X e (tD X.K f) := by
  obtain ⟨t, ht, k⟩ := h
  exact ⟨fun pins s σ H Q I ⟨F, ρ, g, d, g', pre, e, q⟩ => ht.run pins s σ H Q I (k σ H F ρ g pre d g' e Q q)⟩
theorem PDT.can {f : T} (h : PDT X e f) : PT X e (tTT X.K f) := by
  obtain ⟨t, ht, k⟩ := h
  exact ⟨fun pins s σ H Q I ⟨F, ρ, g, d, g', pre, e, q⟩ => ht.run pins s σ H Q I (k σ H F ρ g pre d g' e Q q)⟩
end
/-! ### slots that are set -/
def setR (ρ : Rho) (i : Nat) (d : D) : Rho := ρ.set i (some (.d d))
section
variable {K : PySem.W.Frag} {F : Fz} {H : Hp} {g : G} {ρ : Rho} {σ : St}
theorem Owned.set {i j : Nat} {d : D} {v : V} {p : Addr} (h : Owned (setR ρ i d) (σ.set i (some v)) j p) : Owned ρ σ j p := by
  obtain ⟨lv, h1, h2, h3⟩ := h
  by_cases e : i = j
  · subst e
    unfold setR at h1
    by_cases hl : i < ρ.length
    · rw [List.getElem?_set_self hl] at h1
      cases h1
      cases h2
    · rw [List.getElem?_eq_none (by simpa using hl)] at h1
      cases h1
  · unfold setR at h1
    rw [List.getElem?_set_ne e] at h1
    rw [List.getElem?_set_ne e] at h3
    exact ⟨lv, h1, h2, h3⟩
theorem Owned.setF {i j : Nat} {v : V} {p : Addr} (h : Owned (ρ.set i (some .fn)) (σ.set i (some v)) j p) : Owned ρ σ j p := by
  obtain ⟨lv, h1, h2, h3⟩ := h
  by_cases e : i = j
  · subst e
    by_cases hl : i < ρ.length
    · rw [List.getElem?_set_self hl] at h1
      cases h1
      cases h2
    · rw [List.getElem?_eq_none (by simpa using hl)] at h1
      cases h1
  · rw [List.getElem?_set_ne e] at h1
    rw [List.getElem?_set_ne e] at h3
    exact ⟨lv, h1, h2, h3⟩
theorem PreE.setF {i : Nat} {v : V} (pre : PreE K F H g ρ σ) (r : SlotOk K F H g v .fn) : PreE K F H g (ρ.set i (some .fn)) (σ.set i (some v)) := by
  refine ⟨pre.sub, pre.rep, by simp [pre.sl.len], fun j lv h => ?_, fun j k p h1 h2 => pre.sl.sep j k p h1.setF h2.setF⟩
  by_cases e : i = j
  · subst e
    by_cases hl : i < ρ.length
    · rw [List.getElem?_set_self hl] at h
      cases h
      exact ⟨v, List.getElem?_set_self (by rw [← pre.sl.len]; exact hl), r⟩
    · rw [List.getElem?_eq_none (by simpa using hl)] at h
      cases h
  · rw [List.getElem?_set_ne e] at h
    rw [List.getElem?_set_ne e]
    exact pre.sl.at_ j lv h
theorem PreE.set {i : Nat} {d : D} {v : V} (pre : PreE K F H g ρ σ) (r : Rp K F v d) : PreE K F H g (setR ρ i d) (σ.set i (some v)) := by
  refine ⟨pre.sub, pre.rep, by simp [setR, pre.sl.len], fun j lv h => ?_, fun j k p h1 h2 => pre.sl.sep j k p h1.set h2.set⟩
  unfold setR at h
  by_cases e : i = j
  · subst e
    by_cases hl : i < ρ.length
    · rw [List.getElem?_set_self hl] at h
      cases h
      exact ⟨v, List.getElem?_set_self (by rw [← pre.sl.len]; exact hl), r⟩
    · rw [List.getElem?_eq_none (by simpa using hl)] at h
      cases h
  · rw [List.getElem?_set_ne e] at h
    rw [List.getElem?_set_ne e]
    exact pre.sl.at_ j lv h
end
def wipeR (ρ : Rho) : List Nat → Rho
  | [] => ρ
  | v :: vs => (wipeR ρ vs).set v none
theorem wipeR_length (ρ : Rho) : ∀ vs : List Nat, (wipeR ρ vs).length = ρ.length
  | [] => rfl
  | v :: vs => by unfold wipeR; rw [List.length_set, wipeR_length ρ vs]
theorem wipeR_some {ρ : Rho} {i : Nat} {x : LV} : ∀ {vs : List Nat}, (wipeR ρ vs)[i]? = some (some x) → ρ[i]? = some (some x) ∧ i ∉ vs
  | [], h => ⟨h, by simp⟩
  | v :: vs, h => by
    unfold wipeR at h
    by_cases hi : v = i
    · subst hi
      by_cases hv : v < (wipeR ρ vs).length
      · rw [List.getElem?_set_self hv] at h; cases h
      · rw [List.getElem?_eq_none (by simpa using hv)] at h; cases h
    · rw [List.getElem?_set_ne hi] at h
      obtain ⟨h1, h2⟩ := wipeR_some h
      exact ⟨h1, by simp only [List.mem_cons, not_or]; exact ⟨fun e => hi e.symm, h2⟩⟩
theorem wipe_other {σ : St} {i : Nat} : ∀ {vs : List Nat}, i ∉ vs → (wipe σ vs)[i]? = σ[i]?
  | [], _ => rfl
  | v :: vs, h => by
    unfold wipe
    rw [List.getElem?_set_ne (fun e => h (by simp [e])), wipe_other fun q => h (List.mem_cons_of_mem _ q)]
theorem wipe_mem {σ : St} {j : Nat} : ∀ {vs : List Nat}, j ∈ vs → (wipe σ vs)[j]? = if j < σ.length then some none else none
  | a :: r, hm => by
    unfold wipe
    by_cases ha : a = j
    · subst ha
      rw [List.getElem?_set]
      simp [wipe_length]
    · rw [List.getElem?_set_ne ha]
      exact wipe_mem ((List.mem_cons.mp hm).resolve_left fun z => ha z.symm)
theorem wipe_twice (σ : St) (vs : List Nat) : wipe (wipe σ vs) vs = wipe σ vs := by
  apply List.ext_getElem?
  intro j
  by_cases hj : j ∈ vs
  · rw [wipe_mem hj, wipe_mem hj, wipe_length]
  · rw [wipe_other hj]
theorem wipe_set {σ : St} {i : Nat} {v : Option V} : ∀ {vs : List Nat}, i ∈ vs → wipe (σ.set i v) vs = wipe σ vs
  | w :: vs, h => by
    unfold wipe
    by_cases e : i ∈ vs
    · rw [wipe_set e]
    · have e2 : i = w := (List.mem_cons.mp h).resolve_right e
      subst e2
      apply List.ext_getElem?
      intro j
      by_cases hj : i = j
      · subst hj
        rw [List.getElem?_set, List.getElem?_set]
        simp [wipe_length]
      · rw [List.getElem?_set_ne hj, List.getElem?_set_ne hj]
        by_cases hm : j ∈ vs
        · have q : ∀ (τ : St), τ.length = σ.length → (wipe τ vs)[j]? = if j < σ.length then some none else none := fun τ hτ => by
            clear h e
            induction vs with
            | nil => cases hm
            | cons a r ih =>
              unfold wipe
              by_cases ha : a = j
              · subst ha
                rw [List.getElem?_set]
                simp [wipe_length, hτ]
              · rw [List.getElem?_set_ne ha]
                exact ih ((List.mem_cons.mp hm).resolve_left fun z => ha z.symm)
          rw [q _ (by simp), q _ rfl]
        · rw [wipe_other hm, wipe_other hm, List.getElem?_set_ne hj]
theorem PreE.wipe {K : PySem.W.Frag} {F : Fz} {H : Hp} {g : G} {ρ : Rho} {σ : St} (pre : PreE K F H g ρ σ) (vs : List Nat) : PreE K F H g (wipeR ρ vs) (wipe σ vs) := by
  refine ⟨pre.sub, pre.rep, by rw [wipeR_length, wipe_length, pre.sl.len], fun j lv h => ?_, fun j k p h1 h2 => ?_⟩
  · obtain ⟨h1, h2⟩ := wipeR_some h
    rw [wipe_other h2]
    exact pre.sl.at_ j lv h1
  · have key : ∀ j, Owned (wipeR ρ vs) (L2.wipe σ vs) j p → Owned ρ σ j p := fun j ⟨lv, q1, q2, q3⟩ => ⟨lv, (wipeR_some q1).1, q2, (wipe_some q3).1⟩
    exact pre.sl.sep j k p (key j h1) (key k h2)
/-! ### targets -/
abbrev B := D → Rho → Option Rho
/-- sl: the slots that are set -/
def PDG (X : Cx) (tg : Expr) (sl : List Nat) (bd : B) : Prop := ∃ t, PG X tg t ∧ ∀ σ H F ρ g v d ρ', PreE X.K F H g ρ σ → Rp X.K F v d → bd d ρ = some ρ' → ∀ Q : St → Hp → Prop,
  (∀ σ', PreE X.K F H g ρ' σ' → (∀ i p, Owned ρ' σ' i p → Owned ρ σ i p) → (∀ vs, (∀ i ∈ sl, i ∈ vs) → wipe σ' vs = wipe σ vs) → Q σ' H) → t v σ H Q
def bName (i : Nat) : B := fun d ρ => some (setR ρ i d)
abbrev Bs := List D → Rho → Option Rho
def bsNil : Bs := fun ds ρ => match ds with
  | [] => some ρ
  | _ => none
def bsCons (b : B) (r : Bs) : Bs := fun ds ρ => match ds with
  | d :: ds => (b d ρ).bind fun ρ' => r ds ρ'
  | [] => none
def bTup (b : Bs) : B := fun d ρ => match d with
  | .tup ds => b ds ρ
  | _ => none
def PDGs (X : Cx) (ts : List Expr) (sl : List Nat) (bd : Bs) : Prop := ∃ t, PGs X ts t ∧ (∀ ds ρ ρ', bd ds ρ = some ρ' → ds.length = ts.length) ∧ ∀ σ H F ρ g vs ds ρ', PreE X.K F H g ρ σ → RpA X.K F vs ds → bd ds ρ = some ρ' → ∀ Q : St → Hp → Prop,
  (∀ σ', PreE X.K F H g ρ' σ' → (∀ i p, Owned ρ' σ' i p → Owned ρ σ i p) → (∀ vs, (∀ i ∈ sl, i ∈ vs) → wipe σ' vs = wipe σ vs) → Q σ' H) → t vs σ H Q
section
variable {X : Cx} {pos : Pos}
theorem pdg_name (i : Nat) {x : Str} (hN : X.N.Nodup) (hi : X.N[i]? = some x := by rfl) (hx : Loc X.env.scope x := by first | exact Or.inl rfl | exact Or.inr rfl)
    (hf : X.fn x = true ∨ X.env.scope.names.lookup x = some .local := by first | exact .inl rfl | exact .inr rfl | assumption) : PDG X (.Name x pos) [i] (bName i) := by
  refine ⟨_, pg_name hN hi hx hf, fun σ H F ρ g v d ρ' pre r e Q q => ?_⟩
  cases e
  exact q _ (pre.set r) (fun j p h => h.set) fun vs h => wipe_set (h i (by simp))
theorem pdgs_nil : PDGs X [] [] bsNil := by
  refine ⟨_, pgs_nil, fun ds ρ ρ' e => ?_, fun σ H F ρ g vs ds ρ' pre r e Q q => ?_⟩
  · cases ds with
    | nil => rfl
    | cons d ds => cases e
  · cases ds with
    | nil =>
      cases e
      cases r
      exact ⟨rfl, q σ pre (fun _ _ h => h) fun _ _ => rfl⟩
    | cons d ds => cases e
theorem pdgs_cons {e : Expr} {es : List Expr} {s1 s2 : List Nat} {b : B} {r : Bs} (h1 : PDG X e s1 b) (h2 : PDGs X es s2 r) (hs : (assignEach (e :: es) X.env).map (·.2) = assign e X.env :: (assignEach es X.env).map (·.2) := by rfl) :
    PDGs X (e :: es) (s1 ++ s2) (bsCons b r) := by
  obtain ⟨t1, p1, k1⟩ := h1
  obtain ⟨t2, p2, l2, k2⟩ := h2
  refine ⟨_, pgs_cons p1 p2 hs, fun ds ρ ρ' e => ?_, fun σ H F ρ g vs ds ρ' pre rv e Q q => ?_⟩
  · cases ds with
    | nil => cases e
    | cons d ds =>
      obtain ⟨ρ1, e1, e2⟩ := Option.bind_eq_some_iff.mp e
      rw [List.length_cons, List.length_cons, l2 ds ρ1 ρ' e2]
  · cases ds with
    | nil => cases e
    | cons d ds =>
      obtain ⟨ρ1, e1, e2⟩ := Option.bind_eq_some_iff.mp e
      cases rv with
      | cons r0 rr =>
        refine ⟨_, _, rfl, ?_⟩
        refine k1 σ H F ρ g _ d ρ1 pre r0 e1 _ fun σ1 pre1 o1 w1 => ?_
        refine k2 σ1 H F ρ1 g _ ds ρ' pre1 rr e2 Q fun σ2 pre2 o2 w2 => ?_
        exact q σ2 pre2 (fun i p h => o1 i p (o2 i p h)) fun vs h => (w2 vs fun i hi => h i (List.mem_append_right _ hi)).trans (w1 vs fun i hi => h i (List.mem_append_left _ hi))
theorem pdg_tup {es : List Expr} {k : Nat} {sl : List Nat} {bd : Bs} (hc : X.calm = true) (h : PDGs X es sl bd) (hn : (assignEach es X.env).length = es.length := by rfl) (hst : (assignEach es X.env).findIdx? (·.1) = none := by rfl) :
    PDG X (.Tuple es k pos) sl (bTup bd) := by
  obtain ⟨t, p, l, k⟩ := h
  refine ⟨_, pg_tup (n := es.length) hc p hn hst, fun σ H F ρ g v d ρ' pre r e Q q => ?_⟩
  cases d with
  | tup ds =>
    obtain ⟨a, xs, rfl, h1, h2, h3⟩ := rp_tup r
    exact ⟨a, xs, rfl, sqT_mono pre.sub h1, by rw [h3.length, l ds ρ ρ' e], k σ H F ρ g xs ds ρ' pre h3 e Q q⟩
  | _ => cases e
end
/-! ### what is walked -/
/-- a turn's item: it stands there, or is a new tuple -/
def Yl2 (K : PySem.W.Frag) (F : Fz) (H : Hp) (x : V) (H' : Hp) (d : D) : Prop := ∃ p q x0 zs d0 es, H p = none ∧ H q = none ∧ q ≠ p ∧ x = V.ref p ∧ H' = upd (upd H q (.tup zs)) p (.tup [x0, V.ref q]) ∧ d = D.tup [d0, .tup es] ∧ zs.length ≤ sizeLine ∧ RpA K F zs es ∧ Rp K F x0 d0
def Yl (K : PySem.W.Frag) (F : Fz) (H : Hp) (x : V) (H' : Hp) (d : D) : Prop := (H' = H ∧ Rp K F x d) ∨ (∃ p xs ds, H p = none ∧ x = .ref p ∧ H' = upd H p (.tup xs) ∧ d = .tup ds ∧ xs.length ≤ sizeLine ∧ RpA K F xs ds) ∨ Yl2 K F H x H' d
/-- W: what must stand for the walk; F: where the items stand -/
def ItS (K : PySem.W.Frag) (J : It) (W : Hp) (F : Fz) (ds : List D) : Prop := ∀ H, Same W H → (∀ (i : Nat) (d : D), ds[i]? = some d → J.go i H ∧ ∀ x H', J.yld i H x H' → Yl K F H x H' d) ∧ ∀ i, ds.length ≤ i → J.stop i H
def PDI (X : Cx) (tg e : Expr) (f : EA) : Prop := ∃ wi, PI X tg e wi ∧ ∀ σ H F ρ g, PreE X.K F H g ρ σ → ∀ ds g', f ρ g = some (ds, g') → ∀ R : It → Hp → Prop,
  (∀ J H' F', Stp X.K g g' F F' H H' → ItS X.K J F'.h F' ds → R J H') → wi σ H R
def PBI (X : Cx) (tg e : Expr) (f : EA) : Prop := ∃ wi, PI X tg e wi ∧ ∀ σ H F ρ g, PreE X.K F H g ρ σ → ∀ ds g', f ρ g = some (ds, g') → ∀ R : It → Hp → Prop,
  (∀ J H' F', Stp X.K g g' F F' H H' → ItS X.K J (off F' H').h F' ds → R J H') → wi σ H R
theorem ItS.weak {K : PySem.W.Frag} {J : It} {W W' : Hp} {F : Fz} {ds : List D} (h : ItS K J W F ds) (s : Same W W') : ItS K J W' F ds := fun H q => h H (s.trans q)
theorem ItS.mono {K : PySem.W.Frag} {J : It} {W : Hp} {F F' : Fz} {ds : List D} (h : ItS K J W F ds) (s : Ext F F') : ItS K J W F' ds := fun H q => by
  refine ⟨fun i d e => ⟨((h H q).1 i d e).1, fun x H' y => ?_⟩, (h H q).2⟩
  rcases ((h H q).1 i d e).2 x H' y with ⟨h1, h2⟩ | ⟨p, xs, es, h1, h2, h3, h4, h5, h6⟩ | ⟨p, q, x0, zs, d0, es, h1, h2, h3, h4, h5, h6, h7, h8, h9⟩
  · exact .inl ⟨h1, h2.mono s⟩
  · exact .inr (.inl ⟨p, xs, es, h1, h2, h3, h4, h5, h6.mono s⟩)
  · exact .inr (.inr ⟨p, q, x0, zs, d0, es, h1, h2, h3, h4, h5, h6, h7, h8.mono s, h9.mono s⟩)
theorem PDI.weak {X : Cx} {tg e : Expr} {f : EA} (h : PDI X tg e f) : PBI X tg e f := by
  obtain ⟨wi, hw, k⟩ := h
  exact ⟨wi, hw, fun σ H F ρ g pre ds g' e R q => k σ H F ρ g pre ds g' e R fun J H' F' s i => q J H' F' s (i.weak s.offF.h)⟩
/-- the item comes: the heap and what is frozen in it -/
theorem Yl.step {K : PySem.W.Frag} {F : Fz} {H : Hp} {g : G} {x : V} {H' : Hp} {d : D} (y : Yl K F H x H' d) (s : Same F.h H) (r : GRep K g F H) : ∃ F', Stp K g g F F' H H' ∧ Rp K F' x d := by
  rcases y with ⟨rfl, h⟩ | ⟨p, xs, ds, hp, rfl, rfl, rfl, hz, h⟩ | ⟨p, q, x0, zs, d0, es, hp, hq, hqp, rfl, rfl, rfl, hz, h, h0⟩
  · exact ⟨F, Stp.refl s r, h⟩
  · exact ⟨_, .alloc s r hp, rp_new_tup (s.free hp) (by rw [← h.length]; exact hz) h⟩
  · have s1 := Stp.alloc (o := .tup zs) s r hq
    have r1 := rp_new_tup (s.free hq) (by rw [← h.length]; exact hz) h
    have hp1 : (upd H q (.tup zs)) p = none := by rw [upd_ne hqp.symm]; exact hp
    exact ⟨_, s1.trans (.alloc s1.sub s1.rep hp1), rp_new_tup (s1.sub.free hp1) (by show 2 ≤ sizeLine; decide) (.cons (h0.mono s1.ext) (.cons r1 .nil))⟩
/-! ### a comprehension -/
def lcL (bd : B) (t : T) (e : E) (ρ : Rho) : List D → M (List D)
  | [] => mr []
  | d :: ds => match bd d ρ with
    | none => mz
    | some ρ' => mb (t ρ') fun b => if b = true then mb (e ρ') fun x => mb (lcL bd t e ρ ds) fun xs => mr (x :: xs) else lcL bd t e ρ ds
def tYesD : T := fun _ => mr true
/-- vs: the comprehension's own slots -/
def eLcA (vs : List Nat) (it : EA) (bd : B) (t : T) (e : E) : EA := fun ρ => mb (it ρ) fun ds => mb (lcL bd t e (wipeR ρ vs) ds) fun xs => if xs.length ≤ sizeLine then mr xs else mz
def gB (K : PySem.W.Frag) (sl : List Nat) (bd : B) : TG := fun v σ H Q => ∃ F ρ g d ρ', PreE K F H g ρ σ ∧ Rp K F v d ∧ bd d ρ = some ρ' ∧ ∀ σ', PreE K F H g ρ' σ' → (∀ i p, Owned ρ' σ' i p → Owned ρ σ i p) → (∀ vs, (∀ i ∈ sl, i ∈ vs) → wipe σ' vs = wipe σ vs) → Q σ' H
theorem PDG.can {X : Cx} {tg : Expr} {sl : List Nat} {bd : B} (h : PDG X tg sl bd) : PG X tg (gB X.K sl bd) := by
  obtain ⟨t, ht, k⟩ := h
  exact ⟨fun pins s σ H v u Q I r ⟨F, ρ, g, d, ρ', pre, rv, e, q⟩ => ht.run pins s σ H v u Q I r (k σ H F ρ g v d ρ' pre rv e Q q)⟩
/-- a clause's tests by data -/
def PDTs (X : Cx) (ifs : List Expr) (f : T) : Prop := PTs X ifs (tTT X.K f)
section
variable {X : Cx}
theorem pdts_nil : PDTs X [] tYesD := ⟨fun pins s σ H Q I ⟨F, ρ, g, b, g', pre, e, q⟩ => by
  obtain ⟨rfl, rfl⟩ := mr_inv e
  exact pts_nil.run pins s σ H Q I (q H F pre.refl)⟩
theorem pdts_one {c : Expr} {f : T} (h : PDT X c f) : PDTs X [c] f := pts_one h.can
end
/-- what is asked of the value of a new list -/
def NewL (K : PySem.W.Frag) (F : Fz) (H : Hp) (g g' : G) (ds : List D) (Q : VK) : Prop := ∀ p H' F' vs, Stp K g g' F F' H H' → H p = none → F' p = none → p ∉ F'.mu → H' p = some (.lst vs) → vs.length ≤ sizeLine → RpA K F' vs ds → Q (.ref p) H'
/-- a fresh thing of one's own is changed -/
theorem Stp.mut {K : PySem.W.Frag} {g g' : G} {F F' : Fz} {H H' : Hp} {p : Addr} {o : HO} (s : Stp K g g' F F' H H') (hp : H p = none) (hF : F' p = none) (hm : p ∉ F'.mu) : Stp K g g' F F' H (upd H' p o) := by
  have ne : ∀ a ∈ F'.mu, a ≠ p := fun a ha z => hm (by rw [← z]; exact ha)
  refine ⟨fun a u h1 h2 => ?_, fun a h => ?_, s.ext, s.new, s.newM, fun a u h => ?_, ?_⟩
  · rw [upd_ne (ne_of_none h2 hp)]; exact s.same a u h1 h2
  · by_cases e : a = p
    · subst e; exact hp
    · rw [upd_ne e] at h; exact s.mono a h
  · rw [upd_ne (ne_of_none h hF)]; exact s.sub a u h
  · exact s.rep.mono (Same.refl _) (fun a ha => (s.rep.mem ha).1) fun a ha => upd_ne (ne a ha)
theorem PreE.mut {K : PySem.W.Frag} {F : Fz} {H : Hp} {g : G} {ρ : Rho} {σ : St} {p : Addr} {o : HO} (pre : PreE K F H g ρ σ) (hF : F p = none) (hm : p ∉ F.mu) (ho : ∀ i, ¬ Owned ρ σ i p) : PreE K F (upd H p o) g ρ σ := by
  have ne : ∀ a ∈ F.mu, a ≠ p := fun a ha z => hm (by rw [← z]; exact ha)
  refine ⟨fun a u h => ?_, pre.rep.mono (Same.refl _) (fun a ha => (pre.rep.mem ha).1) (fun a ha => upd_ne (ne a ha)), pre.sl.len, fun i lv h => ?_, pre.sl.sep⟩
  · rw [upd_ne (ne_of_none h hF)]; exact pre.sub a u h
  · obtain ⟨v, h1, h2⟩ := pre.sl.at_ i lv h
    refine ⟨v, h1, ?_⟩
    have ne : lv.own = true → ∀ q, v = .ref q → q ≠ p := fun w q e z => ho i ⟨lv, h, w, by rw [h1, e, z]⟩
    cases lv with
    | d x => exact h2
    | ol ds => obtain ⟨q, vs, e, h3, h4, h5, h6⟩ := h2; exact ⟨q, vs, e, h3, h4, by rw [upd_ne (ne rfl q e)]; exact h5, h6⟩
    | ok ks ds => obtain ⟨q, vs, e, h3, h4, h5, h6⟩ := h2; exact ⟨q, vs, e, h3, h4, by rw [upd_ne (ne rfl q e)]; exact h5, h6⟩
    | ot ks ds => obtain ⟨q, vs, e, h3, h4, h5, h6⟩ := h2; exact ⟨q, vs, e, h3, h4, by rw [upd_ne (ne rfl q e)]; exact h5, h6⟩
    | fn => exact h2
theorem PreE.own_some {K : PySem.W.Frag} {F : Fz} {H : Hp} {g : G} {ρ : Rho} {σ : St} {p : Addr} {i : Nat} (pre : PreE K F H g ρ σ) (h : Owned ρ σ i p) : ∃ o, H p = some o := by
  obtain ⟨lv, h1, h2, h3⟩ := h
  obtain ⟨v, h4, h5⟩ := pre.sl.at_ i lv h1
  rw [h3] at h4
  have e : V.ref p = v := Option.some.inj (Option.some.inj h4)
  subst e
  cases lv with
  | d x => cases h2
  | ol ds => obtain ⟨q, vs, e, _, _, h5, _⟩ := h5; cases e; exact ⟨_, h5⟩
  | ok ks ds => obtain ⟨q, vs, e, _, _, h5, _⟩ := h5; cases e; exact ⟨_, h5⟩
  | ot ks ds => obtain ⟨q, vs, e, _, _, h5, _⟩ := h5; cases e; exact ⟨_, h5⟩
  | fn => cases h2
theorem Stp.keepN {K : PySem.W.Frag} {g g' : G} {F F' : Fz} {H H' : Hp} {p : Addr} {o : HO} (s : Stp K g g' F F' H H') (hF : F p = none) (hH : H p = some o) : F' p = none := by
  cases e : F' p with
  | none => rfl
  | some u =>
    rcases s.new p u e with ⟨w, h⟩ | h
    · rw [hF] at h; cases h
    · rw [hH] at h; cases h
/-! ### a list that grows in a comprehension -/
/-- what stands fast: the entry, the walk's own things, the new object L -/
structure LBase where
  g0 : G
  F0 : Fz
  H0 : Hp
  W : Hp
  F1 : Fz
  L : Addr
structure LBase.Ok (b : LBase) : Prop where
  h0 : b.H0 b.L = none
  w : b.W b.L = none
structure LI (K : PySem.W.Frag) (b : LBase) (P : List (Rho × St)) (o : HO) (H : Hp) (F : Fz) (g : G) : Prop where
  st : Stp K b.g0 g b.F0 F b.H0 H
  pre : ∀ q ∈ P, PreE K F H g q.1 q.2
  no : ∀ q ∈ P, ∀ i, ¬ Owned q.1 q.2 i b.L
  sw : Same b.W H
  wm : ∀ a o, b.W a = some o → a ∉ F.mu
  sf : Ext b.F1 F
  fl : F b.L = none
  ml : b.L ∉ F.mu
  hl : H b.L = some o
section
variable {K : PySem.W.Frag} {b : LBase} {P : List (Rho × St)} {o o' : HO} {H H' : Hp} {F F' : Fz} {g g' : G}
theorem LI.step (h : LI K b P o H F g) (s : Stp K g g' F F' H H') : LI K b P o H' F' g' where
  st := h.st.trans s
  pre := fun q hq => (h.pre q hq).step s
  no := h.no
  sw := fun a u z => s.same a u (h.wm a u z) (h.sw a u z)
  wm := fun a u z => s.keepM (h.wm a u z) (h.sw a u z)
  sf := h.sf.trans s.ext
  fl := s.keepN h.fl h.hl
  ml := s.keepM h.ml h.hl
  hl := s.same _ _ h.ml h.hl
theorem LI.mut (h : LI K b P o H F g) (ok : b.Ok) : LI K b P o' (upd H b.L o') F g where
  st := h.st.mut ok.h0 h.fl h.ml
  pre := fun q hq => (h.pre q hq).mut h.fl h.ml (h.no q hq)
  no := h.no
  sw := fun a u z => by rw [upd_ne (ne_of_none z ok.w)]; exact h.sw a u z
  wm := h.wm
  sf := h.sf
  fl := h.fl
  ml := h.ml
  hl := upd_same
theorem LI.tail {q : Rho × St} (h : LI K b (q :: P) o H F g) : LI K b P o H F g :=
  { h with pre := fun r hr => h.pre r (List.mem_cons_of_mem _ hr), no := fun r hr => h.no r (List.mem_cons_of_mem _ hr) }
end
/-- the new object, at the start -/
theorem LI.begin {K : PySem.W.Frag} {g g1 : G} {F F1 : Fz} {H H1 : Hp} {ρ : Rho} {σ : St} {L : Addr} {o : HO} (pre : PreE K F H g ρ σ) (s1 : Stp K g g1 F F1 H H1) (hL : H1 L = none) :
    LBase.Ok ⟨g, F, H, (off F1 H1).h, F1, L⟩ ∧ LI K ⟨g, F, H, (off F1 H1).h, F1, L⟩ [(ρ, σ)] o (upd H1 L o) F1 g1 := by
  have pre1 := pre.step s1
  have hm : L ∉ F1.mu := s1.rep.out hL
  have hF1 : F1 L = none := s1.sub.free hL
  have nown : ∀ i, ¬ Owned ρ σ i L := fun i h => by
    obtain ⟨o, ho⟩ := pre1.own_some h
    rw [hL] at ho; cases ho
  have hw : (off F1 H1) L = none := by
    cases z : (off F1 H1) L with
    | none => rfl
    | some u => have := (off_some.mp z).2; rw [hL] at this; cases this
  refine ⟨⟨s1.mono L hL, hw⟩, ⟨s1.trans (.allocO s1.sub s1.rep hL), fun q hq => ?_, fun q hq => ?_, fun a u h => ?_, fun a u h => (off_some.mp h).1, Ext.refl _, hF1, hm, upd_same⟩⟩
  · rw [List.mem_singleton.mp hq]; exact pre1.mut hF1 hm nown
  · rw [List.mem_singleton.mp hq]; exact nown
  · obtain ⟨h1, h2⟩ := off_some.mp h
    show upd H1 L o a = some u
    rw [upd_ne (ne_of_none h2 hL)]; exact h2
/-- the turns of one clause: the list at L grows by what lcL tells -/
theorem lc_turns {K : PySem.W.Frag} {b : LBase} {P : List (Rho × St)} {J : It} {sl vs : List Nat} {bd : B} {t : T} {e : E} {σ : St} {ρ : Rho} {src : List D} {Qd : Hp → Prop} (ok : b.Ok) (it : ItS K J b.W b.F1 src) (hsl : ∀ i ∈ sl, i ∈ vs)
    {F : Fz} {H : Hp} {g g2 : G} {ws : List V} {done left : List D} (h : LI K b ((ρ, σ) :: P) (.lst ws) H F g) (hr : RpA K F ws done) (ev : lcL bd t e (wipeR ρ vs) src g = some (left, g2)) (hz : (done ++ left).length ≤ sizeLine)
    (fin : ∀ H F ws, LI K b ((ρ, σ) :: P) (.lst ws) H F g2 → RpA K F ws (done ++ left) → Qd H) :
    ∃ W : Nat → Nat → Hp → Prop, (∃ m, W 0 m H) ∧ ∀ i m H, W i m H → (J.stop i H ∧ Qd H) ∨ (J.go i H ∧ ∃ Nx : Hp → Prop, (∀ H', Nx H' → ∃ m', m' < m ∧ W (i + 1) m' H') ∧
      ∀ x H', J.yld i H x H' → gB K sl bd x (wipe σ vs) H' fun σ2 H2 => wipe σ2 vs = wipe σ vs ∧ tTT K t σ2 H2 fun c H3 =>
        if c = true then tD K e σ2 H3 fun y H4 => ∃ acc, H4 b.L = some (.lst acc) ∧ acc.length < sizeLine ∧ Nx (upd H4 b.L (.lst (acc ++ [y]))) else Nx H3) := by
  refine ⟨fun i m H => m = src.length - i ∧ i ≤ src.length ∧ ∃ F g ws dn lf, LI K b ((ρ, σ) :: P) (.lst ws) H F g ∧ RpA K F ws dn ∧ lcL bd t e (wipeR ρ vs) (src.drop i) g = some (lf, g2) ∧ dn ++ lf = done ++ left,
    ⟨src.length, by simp, Nat.zero_le _, F, g, ws, done, left, h, hr, ev, rfl⟩, ?_⟩
  rintro i m H3 ⟨rfl, hi, F3, g3, ws3, dn, lf, h3, r3, ev3, e3⟩
  obtain ⟨goes, stops⟩ := (it.mono h3.sf) H3 h3.sw
  by_cases hlt : i < src.length
  · have hd : src[i]? = some src[i] := List.getElem?_eq_getElem hlt
    rw [List.drop_eq_getElem_cons hlt] at ev3
    unfold lcL at ev3
    obtain ⟨go, yl⟩ := goes i _ hd
    refine .inr ⟨go, fun H5 => ∃ F g ws dn lf, LI K b ((ρ, σ) :: P) (.lst ws) H5 F g ∧ RpA K F ws dn ∧ lcL bd t e (wipeR ρ vs) (src.drop (i + 1)) g = some (lf, g2) ∧ dn ++ lf = done ++ left, fun H5 h5 => ⟨_, by omega, rfl, by omega, h5⟩, fun x H4 y => ?_⟩
    have pr := h3.pre _ (List.mem_cons_self)
    obtain ⟨F4, s4, r4⟩ := (yl x H4 y).step pr.sub pr.rep
    have h4 := h3.step s4
    cases hb : bd src[i] (wipeR ρ vs) with
    | none => rw [hb] at ev3; cases ev3
    | some ρ' =>
      rw [hb] at ev3
      obtain ⟨c, g5, e5, ev3⟩ := mb_inv ev3
      refine ⟨F4, wipeR ρ vs, g3, src[i], ρ', (h4.pre _ List.mem_cons_self).wipe vs, r4, hb, fun σ' pre' _ hw => ⟨by rw [hw vs hsl]; exact wipe_twice σ vs, ?_⟩⟩
      refine ⟨F4, ρ', g3, c, g5, pre', e5, fun H5 F5 s5 => ?_⟩
      have h5 := h4.step s5
      have r5 := r3.mono (s4.ext.trans s5.ext)
      cases c with
      | false =>
        rw [if_neg Bool.false_ne_true] at ev3
        exact iteF ⟨F5, g5, ws3, dn, lf, h5, r5, ev3, e3⟩
      | true =>
        rw [if_pos rfl] at ev3
        refine iteT ?_
        obtain ⟨z, g6, e6, ev3⟩ := mb_inv ev3
        obtain ⟨zs, g7, e7, ev3⟩ := mb_inv ev3
        obtain ⟨rfl, rfl⟩ := mr_inv ev3
        refine ⟨F5, ρ', g5, z, g6, pre'.step s5, e6, fun w H6 F6 s6 r6 => ?_⟩
        have h6 := h5.step s6
        refine ⟨ws3, h6.hl, ?_, F6, g6, ws3 ++ [w], dn ++ [z], zs, h6.mut ok, (r5.mono s6.ext).append (.cons r6 .nil), e7, by rw [← e3]; simp⟩
        have h7 : ws3.length = dn.length := r3.length
        have h8 : (dn ++ z :: zs).length ≤ sizeLine := by rw [e3]; exact hz
        simp only [List.length_append, List.length_cons] at h8
        omega
  · have e4 : i = src.length := by omega
    subst e4
    rw [List.drop_length] at ev3
    obtain ⟨rfl, rfl⟩ := mr_inv ev3
    rw [List.append_nil] at e3
    exact .inl ⟨stops _ (Nat.le_refl _), fin H3 F3 ws3 h3 (by rw [← e3]; exact r3)⟩
/-- the reading of a comprehension's term -/
theorem lc_sem {K : PySem.W.Frag} {wi : TI} {sl vs : List Nat} {bd : B} {t : T} {e : E} {it : EA} {σ : St} {H : Hp} {F : Fz} {ρ : Rho} {g : G}
    (kI : ∀ σ H F ρ g, PreE K F H g ρ σ → ∀ ds g', it ρ g = some (ds, g') → ∀ R : It → Hp → Prop, (∀ J H' F', Stp K g g' F F' H H' → ItS K J (off F' H').h F' ds → R J H') → wi σ H R)
    (hsl : ∀ i ∈ sl, i ∈ vs) (pre : PreE K F H g ρ σ) {ds : List D} {g' : G} (ev : eLcA vs it bd t e ρ g = some (ds, g')) {Q : VK} (q : NewL K F H g g' ds Q) : tLc wi (gB K sl bd) (tTT K t) (tD K e) vs σ H Q := by
  obtain ⟨src, g1, e1, ev⟩ := mb_inv ev
  obtain ⟨out, g2, e2, ev⟩ := mb_inv ev
  have hz : out.length ≤ sizeLine ∧ out = ds ∧ g2 = g' := by
    split at ev
    · obtain ⟨h1, h2⟩ := mr_inv ev
      exact ⟨by assumption, h1.symm, h2.symm⟩
    · cases ev
  obtain ⟨hz, rfl, rfl⟩ := hz
  refine kI σ H F ρ g pre src g1 e1 _ fun J H1 F1 s1 it1 L hL => ?_
  obtain ⟨ok, beg⟩ := LI.begin (o := .lst []) pre s1 hL
  exact lc_turns (P := []) ok it1 hsl beg .nil e2 (by simpa using hz) fun H3 F3 ws h3 r3 => q L H3 F3 ws h3.st ok.h0 h3.fl h3.ml h3.hl (by rw [r3.length]; simpa using hz) r3
end PD
end
section
set_option Elab.async false
set_option linter.all false
set_option maxRecDepth 100000
set_option maxHeartbeats 4000000
set_option autoImplicit false
namespace PD
open PySem PySem.Spec L2
open PyProof.Rows hiding St
variable [Live]

/-! ### new lists -/
def PO (X : Cx) (e : Expr) (f : EA) : Prop := ∃ t, PE X e t ∧ ∀ σ H F ρ g, PreE X.K F H g ρ σ → ∀ ds g', f ρ g = some (ds, g') → ∀ Q : VK, NewL X.K F H g g' ds Q → t σ H Q
def eO (f : EA) : E := fun ρ => mb (f ρ) fun xs => mr (.lst xs)
/-- a thing of one's own is frozen -/
theorem Stp.frz {K : PySem.W.Frag} {g g' : G} {F F' : Fz} {H H' : Hp} {p : Addr} {o : HO} (s : Stp K g g' F F' H H') (hp : H p = none) (hF : F' p = none) (hm : p ∉ F'.mu) (hH : H' p = some o) : Stp K g g' F (F'.upd p o) H H' := by
  have ne : ∀ a ∈ F'.mu, a ≠ p := fun a ha z => hm (by rw [← z]; exact ha)
  refine ⟨s.same, s.mono, s.ext.trans (.upd hF), fun a u h => ?_, s.newM, fun a u h => ?_, ?_⟩
  · have h : L2.upd F'.h p o a = some u := h
    by_cases e : a = p
    · subst e; exact .inr hp
    · rw [upd_ne e] at h; exact s.new a u h
  · have h : L2.upd F'.h p o a = some u := h
    by_cases e : a = p
    · subst e; rw [upd_same] at h; cases h; exact hH
    · rw [upd_ne e] at h; exact s.sub a u h
  · exact s.rep.mono (Ext.upd hF).h (fun a ha => by rw [upd_ne (ne a ha)]; exact (s.rep.mem ha).1) fun _ _ => rfl
/-- it is frozen at once -/
theorem NewL.frz {K : PySem.W.Frag} {F : Fz} {H : Hp} {g g' : G} {ds : List D} {Q : VK} (q : ∀ v H' F', Stp K g g' F F' H H' → Rp K F' v (.lst ds) → Q v H') : NewL K F H g g' ds Q := fun p H' F' vs s hp hF hg hH hz r =>
  q (.ref p) H' (F'.upd p (.lst vs)) (s.frz hp hF hg hH) (rp_new_lst hF (by rw [← r.length]; exact hz) r)
section
variable {X : Cx} {e : Expr} {es : List Expr} {fs : EA} {pos : Pos}
theorem pd_new (h : PO X e fs) : PD X e (eO fs) := by
  obtain ⟨t, ht, k⟩ := h
  refine ⟨t, ht, fun σ H F ρ g pre d g' e Q q => ?_⟩
  obtain ⟨xs, g1, e1, e⟩ := mb_inv e
  obtain ⟨rfl, rfl⟩ := mr_inv e
  exact k σ H F ρ g pre xs _ e1 Q (.frz q)
def aSz (fs : EA) : EA := fun ρ => mb (fs ρ) fun xs => if xs.length ≤ sizeLine then mr xs else mz
theorem po_lst (h : PDA X es fs) : PO X (.List es pos) (aSz fs) := by
  obtain ⟨t, ht, k⟩ := h
  refine ⟨_, pe_lst ht, fun σ H F ρ g pre d g' e Q q => ?_⟩
  obtain ⟨xs, g1, e1, e⟩ := mb_inv e
  have hz : xs.length ≤ sizeLine ∧ xs = d ∧ g1 = g' := by
    split at e
    · obtain ⟨h1, h2⟩ := mr_inv e
      exact ⟨by assumption, h1.symm, h2.symm⟩
    · cases e
  obtain ⟨hz, rfl, rfl⟩ := hz
  refine k σ H F ρ g pre xs _ e1 _ fun vs H1 F1 s1 r1 => ⟨by rw [r1.length]; exact hz, fun p hp => ?_⟩
  exact q p _ F1 vs (s1.trans (.allocO s1.sub s1.rep hp)) (s1.mono p hp) (s1.sub.free hp) (s1.rep.out hp) upd_same (by rw [r1.length]; exact hz) r1
variable {elt tg iter : Expr} {ifs : List Expr} {scope : Scope} {it : EA} {bd : B} {t : T} {f : E} {sl : List Nat}
theorem po_lc (own : List (Str × Nat)) (hc : X.calm = true) (hN : X.N.Nodup) (hi : PBI X tg iter it) (ok : BlkOk X.N X.env.scope scope own)
    (hg : ∀ (s : Shared) (H : Hp) (C : Addr) (cl : List (Str × Addr)) (fp : List Addr), PDG (X.blk s H scope (compEnvC scope cl C X.env) fp) tg sl bd)
    (ht : ∀ (s : Shared) (H : Hp) (C : Addr) (cl : List (Str × Addr)) (fp : List Addr), PDTs (X.blk s H scope (compEnvC scope cl C X.env) fp) ifs t)
    (he : ∀ (s : Shared) (H : Hp) (C : Addr) (cl : List (Str × Addr)) (fp : List Addr), PD (X.blk s H scope (compEnvC scope cl C X.env) fp) elt f)
    (hsl : ∀ i ∈ sl, i ∈ own.map (·.2) := by decide) (hs : ∀ x, foldedSetIterable iter X.env x = pure x := by intro _; rfl) : PO X (.ListComp elt [⟨tg, iter, ifs, 0⟩] scope pos) (eLcA (own.map (·.2)) it bd t f) := by
  obtain ⟨wi, hw, kI⟩ := hi
  refine ⟨_, pe_lc (g := gB X.K sl bd) (tt := tTT X.K t) (te := tD X.K f) hc hN hw ok (fun s H C cl fp => (hg s H C cl fp).can) ht (fun s H C cl fp => (he s H C cl fp).can) hs, fun σ H F ρ g pre ds g' e Q q => ?_⟩
  exact lc_sem kI hsl pre e q
end
/-! ### statements -/
structure Ent where
  g : G
  F : Fz
  H : Hp
structure PreS (K : PySem.W.Frag) (en : Ent) (F : Fz) (H : Hp) (g : G) (ρ : Rho) (σ : St) : Prop where
  e : PreE K F H g ρ σ
  st : Stp K en.g g en.F F en.H H
  fr : ∀ i p, Owned ρ σ i p → en.H p = none
theorem PreS.step {K : PySem.W.Frag} {en : Ent} {F F' : Fz} {H H' : Hp} {g g' : G} {ρ : Rho} {σ : St} (p : PreS K en F H g ρ σ) (s : Stp K g g' F F' H H') : PreS K en F' H' g' ρ σ := ⟨p.e.step s, p.st.trans s, p.fr⟩
theorem PreS.set {K : PySem.W.Frag} {en : Ent} {F : Fz} {H : Hp} {g : G} {ρ : Rho} {σ : St} {i : Nat} {d : D} {v : V} (p : PreS K en F H g ρ σ) (r : Rp K F v d) : PreS K en F H g (setR ρ i d) (σ.set i (some v)) :=
  ⟨p.e.set r, p.st, fun j q h => p.fr j q h.set⟩
theorem PreS.setF {K : PySem.W.Frag} {en : Ent} {F : Fz} {H : Hp} {g : G} {ρ : Rho} {σ : St} {i : Nat} {v : V} (p : PreS K en F H g ρ σ) (r : SlotOk K F H g v .fn) : PreS K en F H g (ρ.set i (some .fn)) (σ.set i (some v)) :=
  ⟨p.e.setF r, p.st, fun j q h => p.fr j q h.setF⟩
inductive Fl where
  | nx (ρ : Rho) | rt (d : D) | bk (ρ : Rho) | ct (ρ : Rho) | xc (nm f : Str) (d : D) (ρ : Rho)
abbrev S := Rho → M Fl
/-- what the context takes of an exception that goes up -/
def Wx (X : Cx) (cls : Value) (d : Option Addr) (σ : St) (H : Hp) : Prop := ∀ u s', L2N.XE X (fun c d' σ' H' => c = cls ∧ d' = d ∧ σ' = σ ∧ H' = H) u s' → X.xe u s'
theorem takes_wx {X : Cx} : L2N.Takes X (Wx X) := fun u s' ⟨a, B, sI, pins, σ, H, cls, d, e, I, nb, up, sky, na, os, ag, w⟩ => w u s' ⟨a, B, sI, pins, σ, H, cls, d, e, I, nb, up, sky, na, os, ag, rfl, rfl, rfl, rfl⟩
def Post (X : Cx) (en : Ent) (g : G) (De : Ends) : Fl → Prop
  | .nx ρ => ∀ σ H F, PreS X.K en F H g ρ σ → De.nx σ H
  | .bk ρ => ∀ σ H F, PreS X.K en F H g ρ σ → De.bk σ H
  | .ct ρ => ∀ σ H F, PreS X.K en F H g ρ σ → De.ct σ H
  | .rt d => ∀ v H F, Stp X.K en.g g en.F F en.H H → Rp X.K F v d → De.rt v H
  | .xc nm f d ρ => ∀ σ H F (dd : Addr) (v : V), PreS X.K en F H g ρ σ → F.h dd = some (.xd [(f, v)]) → Rp X.K F v d → Wx X (.ref (He.ga X.K nm)) (some dd) σ H
def PDS (X : Cx) (st : Stmt) (f : S) : Prop := ∃ t, PS X st t ∧ ∀ en σ H F ρ g, PreS X.K en F H g ρ σ → ∀ fl g', f ρ g = some (fl, g') → ∀ De : Ends, Post X en g' De fl → t De σ H
def PDSS (X : Cx) (st : List Stmt) (f : S) : Prop := ∃ t, PSs X st t ∧ ∀ en σ H F ρ g, PreS X.K en F H g ρ σ → ∀ fl g', f ρ g = some (fl, g') → ∀ De : Ends, Post X en g' De fl → t De σ H
def sNil : S := fun ρ => mr (.nx ρ)
def sSeq (a b : S) : S := fun ρ => mb (a ρ) fun fl => match fl with
  | .nx ρ' => b ρ'
  | fl => mr fl
section
variable {X : Cx} {st : Stmt} {rest : List Stmt} {a b : S} {e : Expr} {f : E} {pos : Pos}
theorem pdss_nil : PDSS X [] sNil := ⟨_, pss_nil, fun en σ H F ρ g pre fl g' e De post => by
  obtain ⟨rfl, rfl⟩ := mr_inv e
  exact post σ H F pre⟩
theorem pdss_cons (h1 : PDS X st a) (h2 : PDSS X rest b) : PDSS X (st :: rest) (sSeq a b) := by
  obtain ⟨t1, p1, k1⟩ := h1
  obtain ⟨t2, p2, k2⟩ := h2
  refine ⟨_, pss_cons p1 p2, fun en σ H F ρ g pre fl g' e De post => ?_⟩
  obtain ⟨fl1, g1, e1, e⟩ := mb_inv e
  refine k1 en σ H F ρ g pre fl1 g1 e1 _ ?_
  cases fl1 with
  | nx ρ' => exact fun σ' H' F' pre' => k2 en σ' H' F' ρ' g1 pre' fl g' e De post
  | bk ρ' => obtain ⟨rfl, rfl⟩ := mr_inv e; exact post
  | ct ρ' => obtain ⟨rfl, rfl⟩ := mr_inv e; exact post
  | rt d => obtain ⟨rfl, rfl⟩ := mr_inv e; exact post
  | xc nm f d ρ' => obtain ⟨rfl, rfl⟩ := mr_inv e; exact post
theorem pdss_one (h1 : PDS X st a) : PDSS X [st] a := by
  obtain ⟨t1, p1, k1⟩ := h1
  exact ⟨_, pss_one p1, k1⟩
/-- a thing of one's own is given away: it is changed no more -/
def frzR (ρ : Rho) (i : Nat) : Rho := match ρ[i]? with
  | some (some .fn) => ρ
  | some (some lv) => ρ.set i (some (.d lv.get))
  | _ => ρ
def sFrz (i : Nat) (a : S) : S := fun ρ => a (frzR ρ i)
theorem PreS.frz {K : PySem.W.Frag} {en : Ent} {F : Fz} {H : Hp} {g : G} {ρ : Rho} {σ : St} (p : PreS K en F H g ρ σ) (i : Nat) : ∃ F', PreS K en F' H g (frzR ρ i) σ := by
  cases h : ρ[i]? with
  | none =>
    have e : frzR ρ i = ρ := by unfold frzR; rw [h]
    rw [e]
    exact ⟨F, p⟩
  | some o =>
    cases o with
    | none =>
      have e : frzR ρ i = ρ := by unfold frzR; rw [h]
      rw [e]
      exact ⟨F, p⟩
    | some lv =>
      by_cases hfn : lv = .fn
      · subst hfn
        have e : frzR ρ i = ρ := by unfold frzR; rw [h]
        rw [e]
        exact ⟨F, p⟩
      have e : frzR ρ i = ρ.set i (some (.d lv.get)) := by
        unfold frzR
        rw [h]
        cases lv with
        | fn => exact absurd rfl hfn
        | _ => rfl
      rw [e]
      have hi : i < ρ.length := (List.getElem?_eq_some_iff.mp h).1
      obtain ⟨v, h1, h2⟩ := p.e.sl.at_ i lv h
      have self : ∀ {d : D}, SlotOk K F H g v (.d d) → lv.get = d → PreS K en F H g (ρ.set i (some (.d lv.get))) σ := fun {d} r e => by
        have q := p.set (i := i) (d := lv.get) (v := v) (by rw [e]; exact r)
        have e2 : σ.set i (some v) = σ := List.ext_getElem? fun j => by
          by_cases hj : i = j
          · subst hj
            rw [List.getElem?_set]
            split
            · split
              · exact h1.symm
              · rename_i hn; rw [List.getElem?_eq_none (by omega)]
            · rename_i hn; exact absurd rfl hn
          · rw [List.getElem?_set_ne hj]
        rw [e2] at q
        exact q
      -- a thing of one's own at q: it is frozen
      have go : ∀ (q : Addr) (o : HO), lv.own = true → v = .ref q → F q = none → q ∉ F.mu → H q = some o → (∀ F', Ext F F' → F' q = some o → Rp K F' v lv.get) → ∃ F', PreS K en F' H g (ρ.set i (some (.d lv.get))) σ := by
        intro q o own ev hF hm hH hr
        subst ev
        have hq : en.H q = none := p.fr i q ⟨lv, h, own, h1⟩
        have st' := p.st.frz hq hF hm hH
        have ex : Ext F (F.upd q o) := .upd hF
        have old : ∀ j w, Owned (ρ.set i (some (.d lv.get))) σ j w → Owned ρ σ j w ∧ j ≠ i := fun j w ⟨l, q1, q2, q3⟩ => by
          by_cases e : i = j
          · subst e
            rw [List.getElem?_set_self hi] at q1
            cases q1
            cases q2
          · rw [List.getElem?_set_ne e] at q1
            exact ⟨⟨l, q1, q2, q3⟩, fun z => e z.symm⟩
        refine ⟨F.upd q o, ⟨st'.sub, st'.rep, by rw [List.length_set]; exact p.e.sl.len, fun j l z => ?_, fun j k w z1 z2 => p.e.sl.sep j k w (old j w z1).1 (old k w z2).1⟩, st', fun j w z => p.fr j w (old j w z).1⟩
        by_cases e : i = j
        · subst e
          rw [List.getElem?_set_self hi] at z
          cases z
          exact ⟨_, h1, hr _ ex upd_same⟩
        · rw [List.getElem?_set_ne e] at z
          obtain ⟨u, z1, z2⟩ := p.e.sl.at_ j l z
          refine ⟨u, z1, ?_⟩
          have nq : l.own = true → ∀ w, u = .ref w → w ≠ q := fun w1 w w2 z3 => by
            subst w2 z3
            exact e (p.e.sl.sep i j w ⟨lv, h, own, h1⟩ ⟨l, z, w1, z1⟩)
          have nF : ∀ w, w ≠ q → F w = none → (F.upd q o) w = none := fun w hw hn => by show L2.upd F.h q o w = none; rw [upd_ne hw]; exact hn
          cases l with
          | d x => exact Rp.mono ex z2
          | ol ds => obtain ⟨w, vs, e1, e2, e3, e4, e5, e6⟩ := z2; exact ⟨w, vs, e1, nF w (nq rfl w e1) e2, e3, e4, e5, e6.mono ex⟩
          | ok ks ds => obtain ⟨w, vs, e1, e2, e3, e4, e5, e6⟩ := z2; exact ⟨w, vs, e1, nF w (nq rfl w e1) e2, e3, e4, e5, e6.mono ex⟩
          | ot ks ds => obtain ⟨w, vs, e1, e2, e3, e4, e5, e6⟩ := z2; exact ⟨w, vs, e1, nF w (nq rfl w e1) e2, e3, e4, ⟨e5.1, fun x hx => sqT_mono ex.h (e5.2 x hx)⟩, e6.mono ex⟩
          | fn => exact ⟨z2.1, Live.step ex z2.2⟩
      cases lv with
      | d x => exact ⟨F, self h2 rfl⟩
      | ol ds =>
        obtain ⟨q, vs, e1, e2, e3, e4, e5, e6⟩ := h2
        exact go q _ rfl e1 e2 e3 e4 fun F' s z => by subst e1; exact .lst (.of z) e5 (e6.mono s)
      | ok ks ds =>
        obtain ⟨q, vs, e1, e2, e3, e4, e5, e6⟩ := h2
        exact go q _ rfl e1 e2 e3 e4 fun F' s z => by subst e1; subst e5; exact .dk (.inl z) (e6.mono s)
      | ot ks ds =>
        obtain ⟨q, vs, e1, e2, e3, e4, e5, e6⟩ := h2
        exact go q _ rfl e1 e2 e3 e4 fun F' s z => by subst e1; obtain ⟨rfl, e5⟩ := e5; exact .dm (.inl z) (fun x hx => sqT_mono s.h (e5 x hx)) (e6.mono s)
      | fn => exact absurd rfl hfn
theorem pdss_frz {sts : List Stmt} (i : Nat) (h : PDSS X sts a) : PDSS X sts (sFrz i a) := by
  obtain ⟨t, p, k⟩ := h
  refine ⟨t, p, fun en σ H F ρ g pre fl g' e De post => ?_⟩
  obtain ⟨F', pre'⟩ := pre.frz i
  exact k en σ H F' (frzR ρ i) g pre' fl g' e De post
/-! ### plain statements -/
def sRet (f : E) : S := fun ρ => mb (f ρ) fun d => mr (.rt d)
theorem pds_ret (h : PD X e f) : PDS X (.Return (some e) pos) (sRet f) := by
  obtain ⟨t, p, k⟩ := h
  refine ⟨_, ps_ret p, fun en σ H F ρ g pre fl g' e De post => ?_⟩
  obtain ⟨d, g1, e1, e⟩ := mb_inv e
  obtain ⟨rfl, rfl⟩ := mr_inv e
  exact k σ H F ρ g pre.e d _ e1 _ fun v H1 F1 s1 r1 => post v H1 F1 (pre.st.trans s1) r1
def sSet (i : Nat) (f : E) : S := fun ρ => mb (f ρ) fun d => mr (.nx (setR ρ i d))
theorem pds_set (i : Nat) {x : Str} {pos' : Pos} (hN : X.N.Nodup) (h : PD X e f) (hi : X.N[i]? = some x := by rfl) (hx : Loc X.env.scope x := by first | exact Or.inl rfl | exact Or.inr rfl)
    (hs : swapsWith e (some (.Name x pos')) pos.line X.env = pure false := by rfl) (hf : X.fn x = true ∨ X.env.scope.names.lookup x = some .local := by first | exact .inl rfl | exact .inr rfl | assumption) :
    PDS X (.Assign [.Name x pos'] e pos) (sSet i f) := by
  obtain ⟨t, p, k⟩ := h
  refine ⟨_, ps_set hN hi hx p hs hf, fun en σ H F ρ g pre fl g' e De post => ?_⟩
  obtain ⟨d, g1, e1, e⟩ := mb_inv e
  obtain ⟨rfl, rfl⟩ := mr_inv e
  exact k σ H F ρ g pre.e d _ e1 _ fun v H1 F1 s1 r1 => post _ H1 F1 ((pre.step s1).set r1)
/-- targets that are unpacked -/
def sAsg (bd : B) (f : E) : S := fun ρ => mb (f ρ) fun d => ml ((bd d ρ).map Fl.nx)
theorem pds_asg {tg : Expr} {sl : List Nat} {bd : B} (h : PD X e f) (hg : PDG X tg sl bd) (hs : swapsWithSole [tg] e pos.line X.env = pure false := by rfl) (hw : swappedStores [tg] e X.env = pure none := by rfl)
    (h1 : (assignEach [tg] X.env).map (·.2) = [assign tg X.env] := by rfl) : PDS X (.Assign [tg] e pos) (sAsg bd f) := by
  obtain ⟨t, p, k⟩ := h
  obtain ⟨tg', pg, kg⟩ := hg
  refine ⟨_, ps_asg p pg hs hw h1, fun en σ H F ρ g pre fl g' e De post => ?_⟩
  obtain ⟨d, g1, e1, e⟩ := mb_inv e
  obtain ⟨e2, rfl⟩ := ml_inv e
  obtain ⟨ρ', e3, rfl⟩ := Option.map_eq_some_iff.mp e2
  refine k σ H F ρ g pre.e d _ e1 _ fun v H1 F1 s1 r1 => ?_
  exact kg σ H1 F1 ρ _ v d ρ' (pre.e.step s1) r1 e3 _ fun σ' pre' o _ => post σ' H1 F1 ⟨pre', pre.st.trans s1, fun i q z => pre.fr i q (o i q z)⟩
def sIf (c : T) (a b : S) : S := fun ρ => mb (c ρ) fun k => if k = true then a ρ else b ρ
theorem pds_if {c : Expr} {sa sb : List Stmt} {tc : T} (hc : PDT X c tc) (ha : PDSS X sa a) (hb : PDSS X sb b) : PDS X (.If c sa sb pos) (sIf tc a b) := by
  obtain ⟨t, p, k⟩ := hc
  obtain ⟨t1, p1, k1⟩ := ha
  obtain ⟨t2, p2, k2⟩ := hb
  refine ⟨_, ps_if p p1 p2, fun en σ H F ρ g pre fl g' e De post => ?_⟩
  obtain ⟨c, g1, e1, e⟩ := mb_inv e
  refine k σ H F ρ g pre.e c g1 e1 _ fun H1 F1 s1 => ?_
  cases c with
  | true => exact k1 en σ H1 F1 ρ g1 (pre.step s1) fl g' e De post
  | false => exact k2 en σ H1 F1 ρ g1 (pre.step s1) fl g' e De post
def sExpr (f : E) : S := fun ρ => mb (f ρ) fun _ => mr (.nx ρ)
def sNever : S := fun _ => mz
def sPass : S := fun ρ => mr (.nx ρ)
def sCont : S := fun ρ => mr (.ct ρ)
def sBreak : S := fun ρ => mr (.bk ρ)
/-- a new list of one's own -/
def sOwn (i : Nat) (f : EA) : S := fun ρ => mb (f ρ) fun xs => mr (.nx (ρ.set i (some (.ol xs))))
theorem PreS.own {K : PySem.W.Frag} {en : Ent} {F : Fz} {H : Hp} {g : G} {ρ : Rho} {σ : St} {i : Nat} {p : Addr} {lv : LV} (pre : PreS K en F H g ρ σ) (ow : lv.own = true) (ok : SlotOk K F H g (.ref p) lv) (new : ∀ j, ¬ Owned ρ σ j p) (hp : en.H p = none) :
    PreS K en F H g (ρ.set i (some lv)) (σ.set i (some (.ref p))) := by
  have old : ∀ j w, Owned (ρ.set i (some lv)) (σ.set i (some (.ref p))) j w → (j = i ∧ w = p) ∨ (j ≠ i ∧ Owned ρ σ j w) := fun j w ⟨l, q1, q2, q3⟩ => by
    by_cases e : i = j
    · subst e
      by_cases hl : i < σ.length
      · rw [List.getElem?_set_self hl] at q3
        have := Option.some.inj (Option.some.inj q3)
        cases this
        exact .inl ⟨rfl, rfl⟩
      · rw [List.getElem?_eq_none (by simpa using hl)] at q3; cases q3
    · rw [List.getElem?_set_ne e] at q1 q3
      exact .inr ⟨fun z => e z.symm, l, q1, q2, q3⟩
  refine ⟨⟨pre.e.sub, pre.e.rep, by simp [pre.e.sl.len], fun j l z => ?_, fun j k w z1 z2 => ?_⟩, pre.st, fun j w z => ?_⟩
  · by_cases e : i = j
    · subst e
      by_cases hl : i < ρ.length
      · rw [List.getElem?_set_self hl] at z
        cases z
        exact ⟨_, List.getElem?_set_self (by rw [← pre.e.sl.len]; exact hl), ok⟩
      · rw [List.getElem?_eq_none (by simpa using hl)] at z; cases z
    · rw [List.getElem?_set_ne e] at z
      rw [List.getElem?_set_ne e]
      exact pre.e.sl.at_ j l z
  · rcases old j w z1 with ⟨rfl, rfl⟩ | ⟨h1, h2⟩ <;> rcases old k _ z2 with ⟨h3, h4⟩ | ⟨h3, h4⟩
    · exact h3.symm
    · exact absurd h4 (new k)
    · subst h4; exact absurd h2 (new j)
    · exact pre.e.sl.sep j k w h2 h4
  · rcases old j w z with ⟨_, rfl⟩ | ⟨_, h2⟩
    · exact hp
    · exact pre.fr j w h2
variable {elt tg iter : Expr} {ifs : List Expr} {scope : Scope} {it : EA} {bd : B} {t : T} {sl : List Nat}
/-- y = [.. for ..] -/
theorem pds_setLc (i : Nat) {y : Str} {py lpos : Pos} (own : List (Str × Nat)) (hc : X.calm = true) (hN : X.N.Nodup) (hi : PBI X tg iter it) (ok : BlkOk X.N X.env.scope scope own)
    (hg : ∀ (s : Shared) (H : Hp) (C : Addr) (cl : List (Str × Addr)) (fp : List Addr), PDG (X.blk s H scope (compEnvC scope cl C X.env) fp) tg sl bd)
    (ht : ∀ (s : Shared) (H : Hp) (C : Addr) (cl : List (Str × Addr)) (fp : List Addr), PDTs (X.blk s H scope (compEnvC scope cl C X.env) fp) ifs t)
    (he : ∀ (s : Shared) (H : Hp) (C : Addr) (cl : List (Str × Addr)) (fp : List Addr), PD (X.blk s H scope (compEnvC scope cl C X.env) fp) elt f)
    (hsw : swapsWith (.ListComp elt [⟨tg, iter, ifs, 0⟩] scope lpos) (some (.Name y py)) pos.line X.env = pure true)
    (hsl : ∀ i ∈ sl, i ∈ own.map (·.2) := by decide) (hs : ∀ x, foldedSetIterable iter X.env x = pure x := by intro _; rfl) (hy : X.N[i]? = some y := by rfl) (hyl : X.env.scope.names.lookup y = some .local := by rfl) :
    PDS X (.Assign [.Name y py] (.ListComp elt [⟨tg, iter, ifs, 0⟩] scope lpos) pos) (sSet i (eO (eLcA (own.map (·.2)) it bd t f))) := by
  obtain ⟨wi, hw, kI⟩ := hi
  refine ⟨_, ps_setLc (g := gB X.K sl bd) (tt := tTT X.K t) (te := tD X.K f) hc hN hy hyl hsw hw ok (fun s H C cl fp => (hg s H C cl fp).can) ht (fun s H C cl fp => (he s H C cl fp).can) hs, fun en σ H F ρ g pre fl g' e De post => ?_⟩
  obtain ⟨d, g1, e1, e⟩ := mb_inv e
  obtain ⟨xs, g2, e2, e3⟩ := mb_inv e1
  obtain ⟨rfl, rfl⟩ := mr_inv e3
  obtain ⟨rfl, rfl⟩ := mr_inv e
  exact lc_sem kI hsl pre.e e2 (.frz fun v H1 F1 s1 r1 => post _ H1 F1 ((pre.step s1).set r1))
end
end PD
end
section
set_option Elab.async false
set_option linter.all false
set_option maxRecDepth 100000
set_option maxHeartbeats 4000000
set_option autoImplicit false
namespace PD
open PySem PySem.Spec L2
open PyProof.Rows hiding St
variable [Live]

/-! ### a list or a tuple as a source -/
def SqK (k : Bool) (K : PySem.W.Frag) (H : Hp) (a : Addr) (xs : List V) : Prop := match k with
  | true => SqL K H a xs
  | false => SqT K H a xs
def IsK (k : Bool) (h : Heap) (a : Addr) (its : Array Value) : Prop := match k with
  | true => h.IsList a its
  | false => h.IsTuple a its
def ItrK (k : Bool) (h : Heap) (it a : Addr) (i : Nat) : Prop := match k with
  | true => h.IsListIter it a i
  | false => h.IsTupleIter it a i
def begO (k : Bool) (a : Addr) : Obj := match k with
  | true => { cls := .type "list_iterator", data := .fields #[.ref a, .int 0 0] }
  | false => { cls := .type "tuple_iterator", data := .fields #[.ref a, .int 0 0] }
theorem begK (k : Bool) (a : Addr) (its : Array Value) : Begins (.ref a) (begO k a) fun h => IsK k h a its := by
  cases k with
  | true => exact begins_list a its
  | false => exact begins_tuple a its
theorem itr0 {k : Bool} {h : Heap} {it a : Addr} (e : h.get? it = some (begO k a)) : ItrK k h it a 0 := by
  cases k with
  | true => exact ⟨_, e, rfl, rfl⟩
  | false => exact ⟨_, e, rfl, rfl⟩
theorem drawsK {prog : Program} {w : World} {A : Around} (hh : A.handled = none) (k : Bool) (it a : Addr) (hne : a ≠ it) (its : Array Value) :
    Draws prog w A it [it, a] its.size (fun i v => its[i]? = some v) (fun i h => ItrK k h it a i ∧ IsK k h a its) := by
  cases k with
  | true => exact Draws.list hh it a hne its
  | false => exact Draws.tuple hh it a hne its
theorem ItrK.obj {k : Bool} {h : Heap} {it a : Addr} {i : Nat} (e : ItrK k h it a i) : ∃ o, h.get? it = some o ∧ ∀ v, o.data ≠ .cell v := by
  cases k with
  | true => obtain ⟨o, e, _, d⟩ := e; exact ⟨o, e, fun v z => by rw [d] at z; cases z⟩
  | false => obtain ⟨o, e, _, d⟩ := e; exact ⟨o, e, fun v z => by rw [d] at z; cases z⟩
theorem ItrK.keep {k : Bool} {h h' : Heap} {it a : Addr} {i : Nat} (e : ItrK k h it a i) (q : ∀ o, h.get? it = some o → h'.get? it = some o) : ItrK k h' it a i := by
  cases k with
  | true => exact Heap.IsListIter.at e q
  | false => exact Heap.IsTupleIter.at e q
theorem isK_of {X : Cx} {pins : List (Addr × Obj)} {σ : St} {H : Hp} {s : Shared} {k : Bool} {a : Addr} {xs : List V} (I : Inv X pins σ H s) (h : SqK k X.K H a xs) :
    ∃ its : List Value, Vals xs its ∧ IsK k s.heap a its.toArray ∧ a < s.heap.objs.size := by
  cases k with
  | true => obtain ⟨its, r, p, _⟩ := I.list h; exact ⟨its, r, p.isList, p.lt⟩
  | false =>
    obtain ⟨its, r, p, _⟩ := I.tuple h
    obtain ⟨o, ho, _⟩ := id p
    exact ⟨its, r, p, Heap.lt_size ho⟩
theorem sqK_mono {k : Bool} {K : PySem.W.Frag} {H H' : Hp} {a : Addr} {xs : List V} (s : Same H H') (h : SqK k K H a xs) : SqK k K H' a xs := by
  cases k with
  | true => exact sqL_mono s h
  | false => exact sqT_mono s h
/-- what is written by the walk's own next: the rest stays -/
theorem new_inv {X : Cx} {pins : List (Addr × Obj)} {σ : St} {H : Hp} {s : Shared} {h' : Heap} {tk : Nat} {ch : List Addr} {p : Addr} {xs : List V} {us : List Value} (I : Inv X pins σ H s) (hf : ∀ b ∈ ch, FpOk X pins H b) (kp : ∀ b o, b ∉ ch → s.heap.get? b = some o → h'.get? b = some o)
    (hp : s.heap.objs.size ≤ p) (r : Vals xs us) (hz : xs.length ≤ sizeLine) (hT : h'.IsTuple p us.toArray) : Inv X pins σ (upd H p (.tup xs)) { s with heap := h', toks := tk } :=
  I.turnedNew (ch := ch) kp hf hp ⟨hz, us, r, hT⟩
/-! ### zip of two -/
def It2 (K : PySem.W.Frag) (k1 k2 : Bool) (a b : Addr) (xs ys : List V) : It :=
  ⟨fun i H => SqK k1 K H a xs ∧ SqK k2 K H b ys ∧ i < min xs.length ys.length, fun i H v H' => ∃ p x y, v = .ref p ∧ H p = none ∧ H' = upd H p (.tup [x, y]) ∧ xs[i]? = some x ∧ ys[i]? = some y,
    fun i H => SqK k1 K H a xs ∧ SqK k2 K H b ys ∧ min xs.length ys.length ≤ i⟩
theorem turn2 {P : Program} {w : World} {K : PySem.W.Frag} {elts : List Expr} {kk : Nat} {tpos : Pos} {k1 k2 : Bool} {a b : Addr} {xs ys : List V} {N : Nat} (ha : a < N) (hb : b < N) :
    Turn P w K (.Tuple elts kk tpos) (It2 K k1 k2 a b xs ys) [N + 4, N + 2, N + 3, N, N + 1] (N + 4)
      (fun i h => i ≤ min xs.length ys.length ∧ IsZip h (N + 4) (N + 2) (N + 3) .none ∧ IsTupOf2 h (N + 2) (.ref N) (.ref (N + 1)) ∧ (∃ u v, IsTupOf2 h (N + 3) u v) ∧ ItrK k1 h N a i ∧ ItrK k2 h (N + 1) b i) := by
  have sep : ZipSep2 (N + 4) (N + 2) (N + 3) N (N + 1) [N, a] [N + 1, b] := zip_sep2 (fp1 := [a]) (fp2 := [b]) (by simpa using ha) (by simpa using hb)
  have ne : a ≠ N ∧ b ≠ N + 1 := ⟨Nat.ne_of_lt ha, Nat.ne_of_lt (Nat.lt_succ_of_lt hb)⟩
  refine ⟨by simp, fun i h st c hc => ?_, fun i h h' st k => ?_, ?_, ?_, fun A i s Q E st h => wpAny_pyIter_zip st.2.1 h⟩
  · obtain ⟨_, h1, h2, ⟨u, v, h3⟩, h4, h5⟩ := st
    have e : c = N + 4 ∨ c = N + 2 ∨ c = N + 3 ∨ c = N ∨ c = N + 1 := by simpa using hc
    rcases e with rfl | rfl | rfl | rfl | rfl
    · exact ⟨_, h1, fun v q => nomatch q⟩
    · exact ⟨_, h2, fun v q => nomatch q⟩
    · exact ⟨_, h3, fun v q => nomatch q⟩
    · exact h4.obj
    · exact h5.obj
  · obtain ⟨h0, h1, h2, ⟨u, v, h3⟩, h4, h5⟩ := st
    exact ⟨h0, k _ (by simp) _ h1, k _ (by simp) _ h2, ⟨u, v, k _ (by simp) _ h3⟩, h4.keep fun o => k _ (by simp) o, h5.keep fun o => k _ (by simp) o⟩
  · intro X hP hw hK hc i pins s σ H E I hf st hg
    subst hP hw hK
    obtain ⟨s1, s2, hi⟩ := hg
    obtain ⟨_, h1, h2, h3, h4, h5⟩ := st
    obtain ⟨its, r1, q1, _⟩ := isK_of I s1
    obtain ⟨jts, r2, q2, _⟩ := isK_of I s2
    have l1 := r1.length
    have l2 := r2.length
    have G := GoesN.zip2 (prog := X.prog) (w := X.w) (A := X.A) (elts := elts) (x1 := kk) (pos := tpos) sep (drawsK (A := X.A.in1) (I.ok.hd hc) k1 N a ne.1 its.toArray) (drawsK (A := X.A.in1) (I.ok.hd hc) k2 (N + 1) b ne.2 jts.toArray)
    refine wpAny_mono (G.goes i s (fun v s2 => ∃ x H', Inv X pins σ H' s2 ∧ RelV x v ∧ (It2 X.K k1 k2 a b xs ys).yld i H x H' ∧ (i + 1 ≤ min xs.length ys.length ∧ IsZip s2.heap (N + 4) (N + 2) (N + 3) .none ∧ IsTupOf2 s2.heap (N + 2) (.ref N) (.ref (N + 1)) ∧ (∃ u v, IsTupOf2 s2.heap (N + 3) u v) ∧ ItrK k1 s2.heap N a (i + 1) ∧ ItrK k2 s2.heap (N + 1) b (i + 1)) ∧
      ∀ b ∈ [N + 4, N + 2, N + 3, N, N + 1], H' b = none) E (by simp only [List.size_toArray]; omega) ⟨h1, h2, h3, ⟨h4, q1⟩, ⟨h5, q2⟩⟩ fun v h' tk Y st' kp _ => ?_) (fun r s1 ⟨v, e, q⟩ => ⟨v, e, q⟩) fun _ _ z => z
    obtain ⟨T, u1, u2, rfl, hT, y1, y2, hTT⟩ := Y
    obtain ⟨z1, z2, z3, ⟨z4, _⟩, ⟨z5, _⟩⟩ := st'
    have hx : i < xs.length := by omega
    have hy : i < ys.length := by omega
    obtain ⟨w1, e1, f1⟩ := r1.get (List.getElem?_eq_getElem hx)
    obtain ⟨w2, e2, f2⟩ := r2.get (List.getElem?_eq_getElem hy)
    have e3 : u1 = w1 := Option.some.inj (y1.symm.trans (by simpa using e1))
    have e4 : u2 = w2 := Option.some.inj (y2.symm.trans (by simpa using e2))
    subst e3 e4
    refine ⟨.ref T, _, new_inv (us := [u1, u2]) I hf (fun c o hc e => kp c o (fun z => hc ?_) e) hT (.cons f1 (.cons f2 .nil)) (by show 2 ≤ sizeLine; decide) hTT, rfl, ⟨T, _, _, rfl, I.hok.fresh hT, rfl, List.getElem?_eq_getElem hx, List.getElem?_eq_getElem hy⟩, ⟨by omega, z1, z2, z3, z4, z5⟩, fun c hcm => ?_⟩
    · have e : c = N + 4 ∨ c = N + 3 ∨ c = N ∨ c = N + 1 := by simpa using z
      rcases e with rfl | rfl | rfl | rfl <;> simp
    · have q := (hf c hcm).1
      rw [upd_ne fun z => ?_]
      · exact q
      · subst z
        obtain ⟨u, v, h3⟩ := h3
        have e : c = N + 4 ∨ c = N + 2 ∨ c = N + 3 ∨ c = N ∨ c = N + 1 := by simpa using hcm
        have lt : c < s.heap.objs.size := by
          rcases e with rfl | rfl | rfl | rfl | rfl
          · exact Heap.lt_size h1
          · exact Heap.lt_size h2
          · exact Heap.lt_size h3
          · obtain ⟨o, ho, _⟩ := h4.obj; exact Heap.lt_size ho
          · obtain ⟨o, ho, _⟩ := h5.obj; exact Heap.lt_size ho
        exact absurd (Nat.lt_of_lt_of_le lt hT) (Nat.lt_irrefl _)
  · intro X hP hw hK hc i pins s σ H E I hf st hg
    subst hP hw hK
    obtain ⟨s1, s2, hi⟩ := hg
    obtain ⟨h0, h1, h2, h3, h4, h5⟩ := st
    have e0 : i = min xs.length ys.length := by omega
    obtain ⟨its, r1, q1, _⟩ := isK_of I s1
    obtain ⟨jts, r2, q2, _⟩ := isK_of I s2
    have l1 := r1.length
    have l2 := r2.length
    have G := GoesN.zip2 (prog := X.prog) (w := X.w) (A := X.A) (elts := elts) (x1 := kk) (pos := tpos) sep (drawsK (A := X.A.in1) (I.ok.hd hc) k1 N a ne.1 its.toArray) (drawsK (A := X.A.in1) (I.ok.hd hc) k2 (N + 1) b ne.2 jts.toArray)
    have e1 : min its.toArray.size jts.toArray.size = i := by simp only [List.size_toArray]; omega
    rw [e1] at G
    refine G.stops s (fun s' => Inv X pins σ H s') E ⟨h1, h2, h3, ⟨h4, q1⟩, ⟨h5, q2⟩⟩ fun h' tk kp _ => I.turnedL (t' := tk) (ch := [N + 4, N + 2, N + 3, N, N + 1]) (fun c o hc e => kp c o (fun z => hc ?_) e) hf
    have e : c = N + 4 ∨ c = N + 3 ∨ c = N ∨ c = N + 1 := by simpa using z
    rcases e with rfl | rfl | rfl | rfl <;> simp
def iZip2 (K : PySem.W.Frag) (ta : TA) : TI := fun σ H R => ta σ H fun vs H1 => ∃ k1 k2 a b xs ys, vs = [.ref a, .ref b] ∧ SqK k1 K H1 a xs ∧ SqK k2 K H1 b ys ∧ R (It2 K k1 k2 a b xs ys) H1
theorem fp_new {X : Cx} {pins : List (Addr × Obj)} {σ : St} {H : Hp} {s : Shared} (I : Inv X pins σ H s) {l : List Addr} (h : ∀ b ∈ l, s.heap.objs.size ≤ b) : ∀ b ∈ l, FpOk X pins H b := fun b hb => I.fpOk (h b hb) (I.hok.fresh (h b hb))
theorem pi_zip2 {X : Cx} {e e2 : Expr} {ta : TA} {p pos tpos : Pos} {elts : List Expr} {kk : Nat} (hg : Gl X "zip") (hm : X.mg "zip" = none) (ha : PA X [e, e2] ta)
    (hs : starEach [e, e2] X.env = (false, eval e X.env) :: starEach [e2] X.env) (hpl : (backTo pos (starEach [e2] X.env)).any (·.1) = false) : PI X (.Tuple elts kk tpos) (.Call (.Name "zip" p) [e, e2] [] pos) (iZip2 X.K ta) := by
  refine ⟨fun pins s σ H R I h => ?_⟩
  refine Call_ (ld_blt I hg hm PyProof.Rows.boot_zip (PyProof.Rows.callWith_type1 (thn (ha.run pos pins s σ H _ I h) fun us s1 ⟨vs, H1, I1, r1, k1, k2, a, b, xs, ys, ev, hx, hy, q⟩ => ?_) hs hpl))
  subst ev
  cases r1 with
  | cons r r' =>
    cases r' with
    | cons r' r'' =>
      cases r''
      cases r
      cases r'
      obtain ⟨its, rv, q1, l1⟩ := isK_of I1 hx
      obtain ⟨jts, rw', q2, l2⟩ := isK_of I1 hy
      refine zip_begins2 (begK k1 a its.toArray) (begK k2 b jts.toArray) q1 q2 fun h' z1 z2 z3 z4 z5 _ kp => wpAny_pyIter_zip z1 ?_
      refine ⟨_, _, _, _, H1, rfl, I1.kept (t' := s1.toks) kp, turn2 l1 l2, ⟨Nat.zero_le _, z1, z2, ⟨_, _, z3⟩, itr0 z4, itr0 z5⟩, fp_new I1 fun c hc => ?_, q⟩
      have e : c = s1.heap.objs.size + 4 ∨ c = s1.heap.objs.size + 2 ∨ c = s1.heap.objs.size + 3 ∨ c = s1.heap.objs.size ∨ c = s1.heap.objs.size + 1 := by simpa using hc
      show s1.heap.objs.size ≤ c
      rcases e with z | z | z | z | z <;> rw [z] <;> first | exact Nat.le_add_right _ _ | exact Nat.le_refl _
def seqD : D → Option (List D)
  | .lst l => some l
  | .tup l => some l
  | _ => none
theorem rp_seq {K : PySem.W.Frag} {W : Fz} {v : V} {d : D} {l : List D} (h : Rp K W v d) (e : seqD d = some l) : ∃ k a xs, v = .ref a ∧ SqK k K W a xs ∧ xs.length ≤ sizeLine ∧ RpA K W xs l := by
  cases d <;> cases e
  · obtain ⟨a, xs, rfl, h1, h2, h3⟩ := rp_tup h; exact ⟨false, a, xs, rfl, h1, h2, h3⟩
  · obtain ⟨a, xs, rfl, h1, h2, h3⟩ := rp_lst h; exact ⟨true, a, xs, rfl, h1, h2, h3⟩
def zip2L : List D → List D → List D
  | a :: l, b :: m => .tup [a, b] :: zip2L l m
  | _, _ => []
theorem zip2L_length : ∀ l m : List D, (zip2L l m).length = min l.length m.length
  | [], m => by simp [zip2L]
  | _ :: _, [] => by simp [zip2L]
  | a :: l, b :: m => by simp [zip2L, zip2L_length l m]
theorem zip2L_get : ∀ {l m : List D} {i : Nat} {d : D}, (zip2L l m)[i]? = some d → ∃ x y, l[i]? = some x ∧ m[i]? = some y ∧ d = .tup [x, y]
  | [], m, i, d, h => by simp [zip2L] at h
  | _ :: _, [], i, d, h => by simp [zip2L] at h
  | a :: l, b :: m, 0, d, h => by simp [zip2L] at h; exact ⟨a, b, rfl, rfl, h.symm⟩
  | a :: l, b :: m, i + 1, d, h => by
    obtain ⟨x, y, h1, h2, h3⟩ := zip2L_get (l := l) (m := m) (i := i) (by simpa [zip2L] using h)
    exact ⟨x, y, by simpa using h1, by simpa using h2, h3⟩
def zipM (ds : List D) : Option (List D) := match ds with
  | [x, y] => match seqD x, seqD y with
    | some l, some m => some (zip2L l m)
    | _, _ => none
  | _ => none
def aIt (h : List D → Option (List D)) (fs : EA) : EA := fun ρ => mb (fs ρ) fun ds => ml (h ds)
section
variable {X : Cx} {e e2 : Expr} {fs : EA} {p pos tpos : Pos} {elts : List Expr} {kk : Nat}
theorem pdi_zip (hm : X.mg "zip" = none) (ha : PDA X [e, e2] fs) (hg : Gl X "zip" := by rfl) (hs : starEach [e, e2] X.env = (false, eval e X.env) :: starEach [e2] X.env := by rfl) (hpl : (backTo pos (starEach [e2] X.env)).any (·.1) = false := by rfl) :
    PDI X (.Tuple elts kk tpos) (.Call (.Name "zip" p) [e, e2] [] pos) (aIt zipM fs) := by
  obtain ⟨t, ht, k⟩ := ha
  refine ⟨_, pi_zip2 hg hm ht hs hpl, fun σ H F ρ g pre ds g' ev R q => ?_⟩
  obtain ⟨as, g1, e1, ev⟩ := mb_inv ev
  obtain ⟨e2, rfl⟩ := ml_inv ev
  unfold zipM at e2
  split at e2
  · rename_i x y
    split at e2
    · rename_i l m h1 h2
      cases e2
      refine k σ H F ρ g pre _ _ e1 _ fun vs H1 F1 s1 r1 => ?_
      cases r1 with
      | cons r r' =>
        cases r' with
        | cons r' r'' =>
          cases r''
          obtain ⟨k1, a, xs, rfl, t1, l1, u1⟩ := rp_seq r h1
          obtain ⟨k2, b, ys, rfl, t2, l2, u2⟩ := rp_seq r' h2
          refine ⟨k1, k2, a, b, xs, ys, rfl, sqK_mono s1.sub t1, sqK_mono s1.sub t2, q _ H1 F1 s1 fun H2 s2 => ⟨fun i d hd => ?_, fun i hi => ⟨sqK_mono s2 t1, sqK_mono s2 t2, ?_⟩⟩⟩
          · obtain ⟨x, y, h3, h4, rfl⟩ := zip2L_get hd
            obtain ⟨vx, h5, h6⟩ := u1.get h3
            obtain ⟨vy, h7, h8⟩ := u2.get h4
            refine ⟨⟨sqK_mono s2 t1, sqK_mono s2 t2, ?_⟩, fun v H' ⟨p, x', y', z1, z2, z3, z4, z5⟩ => ?_⟩
            · have := (List.getElem?_eq_some_iff.mp h5).1
              have := (List.getElem?_eq_some_iff.mp h7).1
              omega
            · rw [h5] at z4
              rw [h7] at z5
              cases z4
              cases z5
              exact .inr (.inl ⟨p, [vx, vy], [x, y], z2, z1, z3, rfl, by show 2 ≤ sizeLine; decide, .cons h6 (.cons h8 .nil)⟩)
          · rw [zip2L_length] at hi
            rw [u1.length, u2.length]; exact hi
    · cases e2
  · cases e2
end
/-! ### enumerate -/
set_option maxHeartbeats 1000000 in
theorem meets_enum1 {v : Value} {o : Obj} {H : Heap → Prop} (B : Begins v o H) : Meets (Builtin.«enumerate.__new__» ⟨[.type "enumerate", v], []⟩) (fun _ R s => H s.heap ∧
    R (.ok (.ret (.ref (s.heap.push o).objs.size))) { s with heap := (s.heap.push o).push { cls := .type "enumerate", data := .fields #[.none, .bool false, .ref s.heap.objs.size, rawInt 0, .none, .none] } }) :=
  .of_wp fun prog w A R s ⟨h1, h⟩ => by
    obtain ⟨hp, g, d, tk, os⟩ := s
    have hsub := sub_enumerate
    have q1 : ∀ {A' : Around} {E : Value → Shared → Prop} {Q : Value → Shared → Prop}, Q (.ref hp.objs.size) ⟨hp.push o, g, d, tk, os⟩ → wpAny (model prog w) A' (pyIter v) Q E ⟨hp, g, d, tk, os⟩ := fun q => B.iter prog w _ _ ⟨hp, g, d, tk, os⟩ _ h1 q
    wp_walk using q1
    refine wpAny_stack_any fun st => wpAny_pure ?_
    split
    · rename_i c _ _ _ _ _
      cases (c == Value.type "enumerate") <;> (wp_walk using q1; exact ⟨_, rfl, h⟩)
    · wp_walk using q1
      exact ⟨_, rfl, h⟩
theorem enum_beg {prog : Program} {w : World} {A : Around} {E : Value → Shared → Prop} {s : Shared} {v : Value} {o : Obj} {H : Heap → Prop} {Q : Value → Shared → Prop} (B : Begins v o H) (h1 : H s.heap)
    (h : ∀ h', IsEnum h' (s.heap.objs.size + 1) s.heap.objs.size 0 .none → h'.get? s.heap.objs.size = some o → (∀ b o, s.heap.get? b = some o → h'.get? b = some o) → Q (.ref (s.heap.objs.size + 1)) { s with heap := h' }) :
    wpAny (model prog w) A (call (.type "enumerate") [v]) Q E s := by
  refine callType_new F.called_enumerate (by decide) (F.typeCall_enumerate_1 _) (F.newCall_enumerate_1 _) (fun obj => F.args_object_init_2 obj _) F.entry_enumerate_new (meets_enum1 B) ⟨h1, ?_⟩
  have hz : (s.heap.push o).objs.size = s.heap.objs.size + 1 := Heap.size_push ..
  show _ ∧ _
  rw [hz]
  have he : IsEnum ((s.heap.push o).push { cls := .type "enumerate", data := .fields #[.none, .bool false, .ref s.heap.objs.size, rawInt 0, .none, .none] }) (s.heap.objs.size + 1) s.heap.objs.size 0 .none := by
    have q := Heap.get?_push_size (s.heap.push o) (o := { cls := .type "enumerate", data := .fields #[.none, .bool false, .ref s.heap.objs.size, rawInt 0, .none, .none] }) rfl
    rw [hz] at q
    exact q
  exact ⟨⟨_, he, rfl⟩, h _ he (Heap.get?_push_of_some _ (Heap.get?_push_size _ B.free)) fun b ob x => Heap.get?_push_of_some _ (Heap.get?_push_of_some _ x)⟩
def ItE (K : PySem.W.Frag) (k : Bool) (a : Addr) (xs : List V) : It :=
  ⟨fun i H => SqK k K H a xs ∧ i < xs.length, fun i H v H' => ∃ p x, v = .ref p ∧ H p = none ∧ H' = upd H p (.tup [.int (i : Nat), x]) ∧ xs[i]? = some x, fun i H => SqK k K H a xs ∧ xs.length ≤ i⟩
theorem turnE {P : Program} {w : World} {K : PySem.W.Frag} {elts : List Expr} {kk : Nat} {tpos : Pos} {k : Bool} {a : Addr} {xs : List V} {N : Nat} (ha : a < N) :
    Turn P w K (.Tuple elts kk tpos) (ItE K k a xs) [N + 1, N] (N + 1) (fun i h => i ≤ xs.length ∧ (∃ old, IsEnum h (N + 1) N ((i : Nat) : Int) old) ∧ ItrK k h N a i) := by
  have ne : a ≠ N := Nat.ne_of_lt ha
  have ne1 : N + 1 ≠ N := Nat.succ_ne_self N
  have ne2 : N + 1 ∉ [N, a] := fun h => by
    rcases List.mem_cons.mp h with e | h
    · exact Nat.succ_ne_self N e
    · have e : N + 1 = a := List.mem_singleton.mp h
      exact absurd (Nat.lt_trans ha (Nat.lt_succ_self N)) (by rw [← e]; exact Nat.lt_irrefl _)
  have e0 : ∀ i : Nat, (0 : Int) + (i : Int) = (i : Int) := fun i => Int.zero_add _
  refine ⟨by simp, fun i h st c hc => ?_, fun i h h' st k => ?_, ?_, ?_, fun A i s Q E st h => let ⟨_, ⟨_, he⟩, _⟩ := st; wpAny_pyIter_enum he h⟩
  · obtain ⟨_, ⟨old, h1⟩, h4⟩ := st
    have e : c = N + 1 ∨ c = N := by simpa using hc
    rcases e with rfl | rfl
    · exact ⟨_, h1, fun v q => nomatch q⟩
    · exact h4.obj
  · obtain ⟨h0, ⟨old, h1⟩, h4⟩ := st
    exact ⟨h0, ⟨old, k _ (by simp) _ h1⟩, h4.keep fun o => k _ (by simp) o⟩
  · intro X hP hw hK hc i pins s σ H E I hf st hg
    subst hP hw hK
    obtain ⟨s1, hi⟩ := hg
    obtain ⟨_, ⟨old, h1⟩, h4⟩ := st
    obtain ⟨its, r1, q1, _⟩ := isK_of I s1
    have l1 := r1.length
    have G := GoesN.enumFrom (prog := X.prog) (w := X.w) (A := X.A) (elts := elts) (x1 := kk) (pos := tpos) 0 (drawsK (A := X.A.in1) (I.ok.hd hc) k N a ne its.toArray) (N + 1) ne1 ne2 (by simp)
    refine wpAny_mono (G.goes i s (fun v s2 => ∃ x H', Inv X pins σ H' s2 ∧ RelV x v ∧ (ItE X.K k a xs).yld i H x H' ∧ (i + 1 ≤ xs.length ∧ (∃ old, IsEnum s2.heap (N + 1) N ((i + 1 : Nat) : Int) old) ∧ ItrK k s2.heap N a (i + 1)) ∧
      ∀ b ∈ [N + 1, N], H' b = none) E (by simp only [List.size_toArray]; omega) ⟨⟨old, by rw [e0]; exact h1⟩, h4, q1⟩ fun v h' tk Y st' kp _ => ?_) (fun r s1 ⟨v, e, q⟩ => ⟨v, e, q⟩) fun _ _ z => z
    obtain ⟨T, t, u1, rfl, hT, y1, hTT⟩ := Y
    obtain ⟨⟨old', z1⟩, z4, _⟩ := st'
    obtain ⟨w1, e1, f1⟩ := r1.get (List.getElem?_eq_getElem hi)
    have e3 : u1 = w1 := Option.some.inj (y1.symm.trans (by simpa using e1))
    subst e3
    rw [e0] at hTT
    refine ⟨.ref T, _, new_inv (us := [.int i t, u1]) (xs := [.int (i : Nat), xs[i]]) I hf (fun c o hc e => kp c o (fun z => hc (by simpa using z)) e) hT (.cons ⟨t, rfl⟩ (.cons f1 .nil)) (by show 2 ≤ sizeLine; decide) hTT, rfl, ⟨T, _, rfl, I.hok.fresh hT, rfl, List.getElem?_eq_getElem hi⟩,
      ⟨by omega, ⟨old', by rw [e0] at z1; exact z1⟩, z4⟩, fun c hcm => ?_⟩
    have q := (hf c hcm).1
    rw [upd_ne fun z => ?_]
    · exact q
    · subst z
      have e : c = N + 1 ∨ c = N := by simpa using hcm
      have lt : c < s.heap.objs.size := by
        rcases e with rfl | rfl
        · exact Heap.lt_size h1
        · obtain ⟨o, ho, _⟩ := h4.obj; exact Heap.lt_size ho
      exact absurd (Nat.lt_of_lt_of_le lt hT) (Nat.lt_irrefl _)
  · intro X hP hw hK hc i pins s σ H E I hf st hg
    subst hP hw hK
    obtain ⟨s1, hi⟩ := hg
    obtain ⟨h0, ⟨old, h1⟩, h4⟩ := st
    have ei : i = xs.length := by omega
    obtain ⟨its, r1, q1, _⟩ := isK_of I s1
    have l1 := r1.length
    have G := GoesN.enumFrom (prog := X.prog) (w := X.w) (A := X.A) (elts := elts) (x1 := kk) (pos := tpos) 0 (drawsK (A := X.A.in1) (I.ok.hd hc) k N a ne its.toArray) (N + 1) ne1 ne2 (by simp)
    have e1 : its.toArray.size = i := by simp only [List.size_toArray]; omega
    rw [e1] at G
    exact G.stops s (fun s' => Inv X pins σ H s') E ⟨⟨old, by rw [e0]; exact h1⟩, h4, q1⟩ fun h' tk kp _ => I.turnedL (t' := tk) (ch := [N + 1, N]) (fun c o hc e => kp c o (fun z => hc (by simpa using z)) e) hf
def iEnumK (K : PySem.W.Frag) (ta : TA) : TI := fun σ H R => ta σ H fun vs H1 => ∃ k a xs, vs = [.ref a] ∧ SqK k K H1 a xs ∧ R (ItE K k a xs) H1
theorem pi_enumK {X : Cx} {e : Expr} {ta : TA} {p pos tpos : Pos} {elts : List Expr} {kk : Nat} (hg : Gl X "enumerate") (hm : X.mg "enumerate" = none) (ha : PA X [e] ta) (hs : starEach [e] X.env = [(false, eval e X.env)]) :
    PI X (.Tuple elts kk tpos) (.Call (.Name "enumerate" p) [e] [] pos) (iEnumK X.K ta) := by
  refine ⟨fun pins s σ H R I h => ?_⟩
  refine Call_ (ld_blt I hg hm boot_enumerate (PyProof.Rows.callWith_type1 (thn (ha.run pos pins s σ H _ I h) fun us s1 ⟨vs, H1, I1, r1, k, a, xs, ev, hx, q⟩ => ?_) hs rfl))
  subst ev
  cases r1 with
  | cons r r' =>
    cases r'
    cases r
    obtain ⟨its, rv, q1, l1⟩ := isK_of I1 hx
    refine enum_beg (begK k a its.toArray) q1 fun h' z1 z2 kp => wpAny_pyIter_enum z1 ?_
    refine ⟨_, _, _, _, H1, rfl, I1.kept (t' := s1.toks) kp, turnE l1, ⟨Nat.zero_le _, ⟨_, z1⟩, itr0 z2⟩, fp_new I1 fun c hc => ?_, q⟩
    have e : c = s1.heap.objs.size + 1 ∨ c = s1.heap.objs.size := by simpa using hc
    show s1.heap.objs.size ≤ c
    rcases e with z | z <;> rw [z] <;> first | exact Nat.le_add_right _ _ | exact Nat.le_refl _
def enumL : Nat → List D → List D
  | _, [] => []
  | i, d :: l => .tup [.int (i : Int), d] :: enumL (i + 1) l
theorem enumL_length : ∀ (i : Nat) (l : List D), (enumL i l).length = l.length
  | _, [] => rfl
  | i, d :: l => by simp [enumL, enumL_length (i + 1) l]
theorem enumL_get : ∀ {l : List D} {j i : Nat} {d : D}, (enumL j l)[i]? = some d → ∃ x, l[i]? = some x ∧ d = .tup [.int ((j + i : Nat) : Int), x]
  | [], j, i, d, h => by simp [enumL] at h
  | a :: l, j, 0, d, h => by simp [enumL] at h; exact ⟨a, rfl, by simpa using h.symm⟩
  | a :: l, j, i + 1, d, h => by
    obtain ⟨x, h1, h3⟩ := enumL_get (l := l) (j := j + 1) (i := i) (by simpa [enumL] using h)
    exact ⟨x, by simpa using h1, by rw [h3]; congr 4; omega⟩
def enumM (ds : List D) : Option (List D) := match ds with
  | [x] => (seqD x).map (enumL 0)
  | _ => none
section
variable {X : Cx} {e e2 : Expr} {fs : EA} {p pos tpos : Pos} {elts : List Expr} {kk : Nat}
theorem pdi_enum (hm : X.mg "enumerate" = none) (ha : PDA X [e] fs) (hg : Gl X "enumerate" := by rfl) (hs : starEach [e] X.env = [(false, eval e X.env)] := by rfl) :
    PDI X (.Tuple elts kk tpos) (.Call (.Name "enumerate" p) [e] [] pos) (aIt enumM fs) := by
  obtain ⟨t, ht, k⟩ := ha
  refine ⟨_, pi_enumK hg hm ht hs, fun σ H F ρ g pre ds g' ev R q => ?_⟩
  obtain ⟨as, g1, e1, ev⟩ := mb_inv ev
  obtain ⟨e2, rfl⟩ := ml_inv ev
  unfold enumM at e2
  split at e2
  · rename_i x
    obtain ⟨l, h1, rfl⟩ := Option.map_eq_some_iff.mp e2
    refine k σ H F ρ g pre _ _ e1 _ fun vs H1 F1 s1 r1 => ?_
    cases r1 with
    | cons r r' =>
      cases r'
      obtain ⟨k1, a, xs, rfl, t1, l1, u1⟩ := rp_seq r h1
      refine ⟨k1, a, xs, rfl, sqK_mono s1.sub t1, q _ H1 F1 s1 fun H2 s2 => ⟨fun i d hd => ?_, fun i hi => ⟨sqK_mono s2 t1, ?_⟩⟩⟩
      · obtain ⟨x, h3, rfl⟩ := enumL_get hd
        obtain ⟨vx, h5, h6⟩ := u1.get h3
        refine ⟨⟨sqK_mono s2 t1, (List.getElem?_eq_some_iff.mp h5).1⟩, fun v H' ⟨p, x', z1, z2, z3, z4⟩ => ?_⟩
        rw [h5] at z4
        cases z4
        rw [Nat.zero_add]
        exact .inr (.inl ⟨p, [.int (i : Nat), vx], [.int (i : Nat), x], z2, z1, z3, rfl, by show 2 ≤ sizeLine; decide, .cons (.int _) (.cons h6 .nil)⟩)
      · rw [enumL_length] at hi
        rw [u1.length]; exact hi
  · cases e2
end
end PD
end
section
set_option Elab.async false
set_option linter.all false
set_option maxRecDepth 100000
set_option maxHeartbeats 4000000
set_option autoImplicit false
namespace PD
open PySem PySem.Spec L2
open PyProof.Rows hiding St
variable [Live]

/-! ### loops -/
theorem Stp.base {K : PySem.W.Frag} {g0 g : G} {F0 F : Fz} {H0 H : Hp} (s : Stp K g0 g F0 F H0 H) : Stp K g0 g F F H0 H :=
  ⟨fun a o hm h => s.same a o (fun z => hm (s.ext.m.subset z)) h, s.mono, Ext.refl _, fun _ o h => .inl ⟨o, h⟩, fun _ h => .inl h, s.sub, s.rep⟩
theorem Stp.back {K : PySem.W.Frag} {g0 g g' : G} {F0 F F' : Fz} {H0 H H' : Hp} (s : Stp K g0 g F0 F H0 H) (t : Stp K g0 g' F F' H0 H') : Stp K g0 g' F0 F' H0 H' :=
  ⟨fun a o hm h => t.same a o (s.keepM hm h) h, t.mono, s.ext.trans t.ext, fun a o h => by
    rcases t.new a o h with ⟨u, h1⟩ | h1
    · exact s.new a u h1
    · exact .inr h1, fun a h => by
    rcases t.newM a h with h1 | h1
    · exact s.newM a h1
    · exact .inr h1, t.sub, t.rep⟩
theorem PreS.base {K : PySem.W.Frag} {en : Ent} {F : Fz} {H : Hp} {g : G} {ρ : Rho} {σ : St} (p : PreS K en F H g ρ σ) : PreS K ⟨en.g, F, en.H⟩ F H g ρ σ := ⟨p.e, p.st.base, p.fr⟩
theorem PreS.back {K : PySem.W.Frag} {en : Ent} {F F' : Fz} {H H' : Hp} {g g' : G} {ρ' : Rho} {σ' : St} (s : Stp K en.g g en.F F en.H H) (t : PreS K ⟨en.g, F, en.H⟩ F' H' g' ρ' σ') : PreS K en F' H' g' ρ' σ' := ⟨t.e, s.back t.st, t.fr⟩
def forL (bd : B) (b : S) : List D → Rho → M Fl
  | [], ρ => mr (.nx ρ)
  | d :: ds, ρ => match bd d ρ with
    | none => mz
    | some ρ1 => mb (b ρ1) fun fl => match fl with
      | .nx ρ2 => forL bd b ds ρ2
      | .ct ρ2 => forL bd b ds ρ2
      | .bk ρ2 => mr (.nx ρ2)
      | .rt x => mr (.rt x)
      | .xc nm f d ρ2 => mr (.xc nm f d ρ2)
def sFor (it : EA) (bd : B) (b : S) : S := fun ρ => mb (it ρ) fun ds => forL bd b ds ρ
section
variable {X : Cx} {tg iter c : Expr} {body : List Stmt} {it : EA} {sl : List Nat} {bd : B} {b : S} {tc : T} {pos : Pos}
theorem pds_for (hc : X.calm = true) (hi : PDI X tg iter it) (hg : PDG X tg sl bd) (hb : PDSS X body b) (hp : PassesOwn (model X.prog X.w) X.A X.env X.xe := by exact PassesOwn.never)
    (hs : ∀ x, foldedSetIterable iter X.env x = pure x := by intro _; rfl) : PDS X (.For tg iter body [] pos) (sFor it bd b) := by
  obtain ⟨wi, pi, kI⟩ := hi
  obtain ⟨tg', pg, kg⟩ := hg
  obtain ⟨tb, pb, kb⟩ := hb
  refine ⟨_, ps_for hp hc pi pg pb hs, fun en σ H F ρ g pre fl g' ev De post => ?_⟩
  obtain ⟨src, g1, e1, ev⟩ := mb_inv ev
  refine kI σ H F ρ g pre.e src g1 e1 _ fun J H1 F1 s1 it1 => ?_
  refine ⟨fun i m σ3 H3 => m = src.length - i ∧ i ≤ src.length ∧ ∃ F3 ρ3 g3, PreS X.K en F3 H3 g3 ρ3 σ3 ∧ Ext F1 F3 ∧ forL bd b (src.drop i) ρ3 g3 = some (fl, g'), ⟨_, rfl, Nat.zero_le _, F1, ρ, g1, pre.step s1, Ext.refl _, ev⟩, ?_⟩
  rintro i m σ3 H3 ⟨rfl, hi, F3, ρ3, g3, p3, sF, ev3⟩
  obtain ⟨goes, stops⟩ := (it1.mono sF) H3 (sF.h.trans p3.e.sub)
  by_cases hlt : i < src.length
  · obtain ⟨go, yl⟩ := goes i _ (List.getElem?_eq_getElem hlt)
    rw [List.drop_eq_getElem_cons hlt] at ev3
    unfold forL at ev3
    refine .inr ⟨go, fun σ5 H5 => ∃ F5 ρ5 g5, PreS X.K en F5 H5 g5 ρ5 σ5 ∧ Ext F1 F5 ∧ forL bd b (src.drop (i + 1)) ρ5 g5 = some (fl, g'), fun σ5 H5 h => ⟨_, by omega, rfl, by omega, h⟩, fun x H4 y => ?_⟩
    obtain ⟨F4, s4, r4⟩ := (yl x H4 y).step p3.e.sub p3.e.rep
    have p4 := p3.step s4
    cases hb : bd src[i] ρ3 with
    | none => rw [hb] at ev3; cases ev3
    | some ρ4 =>
      rw [hb] at ev3
      obtain ⟨fl1, g5, e5, ev3⟩ := mb_inv ev3
      refine kg σ3 H4 F4 ρ3 g3 x _ ρ4 p4.e r4 hb _ fun σ4 pre4 o _ => ?_
      refine kb ⟨en.g, F4, en.H⟩ σ4 H4 F4 ρ4 g3 ⟨pre4, p4.st.base, fun i q z => p4.fr i q (o i q z)⟩ fl1 g5 e5 _ ?_
      cases fl1 with
      | nx ρ5 => exact fun σ5 H5 F5 p5 => ⟨F5, ρ5, g5, p5.back p4.st, (sF.trans s4.ext).trans p5.st.ext, ev3⟩
      | ct ρ5 => exact fun σ5 H5 F5 p5 => ⟨F5, ρ5, g5, p5.back p4.st, (sF.trans s4.ext).trans p5.st.ext, ev3⟩
      | bk ρ5 =>
        obtain ⟨rfl, rfl⟩ := mr_inv ev3
        exact fun σ5 H5 F5 p5 => post σ5 H5 F5 (p5.back p4.st)
      | rt x =>
        obtain ⟨rfl, rfl⟩ := mr_inv ev3
        exact fun v H5 F5 s5 r5 => post v H5 F5 (p4.st.back s5) r5
      | xc nm f d ρ5 =>
        obtain ⟨rfl, rfl⟩ := mr_inv ev3
        exact fun σ5 H5 F5 dd v p5 a b => post σ5 H5 F5 dd v (p5.back p4.st) a b
  · have e4 : i = src.length := by omega
    subst e4
    rw [List.drop_length] at ev3
    obtain ⟨rfl, rfl⟩ := mr_inv ev3
    exact .inl ⟨stops _ (Nat.le_refl _), post σ3 H3 F3 p3⟩
def whileL (c : T) (b : S) : Nat → Rho → M Fl
  | 0, _ => mz
  | n + 1, ρ => mb (c ρ) fun k => if k = true then mb (b ρ) fun fl => match fl with
      | .nx ρ2 => whileL c b n ρ2
      | .ct ρ2 => whileL c b n ρ2
      | .bk ρ2 => mr (.nx ρ2)
      | .rt x => mr (.rt x)
      | .xc nm f d ρ2 => mr (.xc nm f d ρ2)
    else mr (.nx ρ)
def sWhile (n : Nat) (c : T) (b : S) : S := fun ρ => whileL c b n ρ
theorem pds_while (n : Nat) (hc : PDT X c tc) (hb : PDSS X body b) (hp : PassesOwn (model X.prog X.w) X.A X.env X.xe := by exact PassesOwn.never) : PDS X (.While c body [] pos) (sWhile n tc b) := by
  obtain ⟨t1, p1, k1⟩ := hc
  obtain ⟨tb, pb, kb⟩ := hb
  refine ⟨_, ps_while hp p1 pb, fun en σ H F ρ g pre fl g' ev De post => ?_⟩
  refine ⟨fun m σ3 H3 => ∃ F3 ρ3 g3, PreS X.K en F3 H3 g3 ρ3 σ3 ∧ whileL tc b m ρ3 g3 = some (fl, g'), ⟨n, F, ρ, g, pre, ev⟩, ?_⟩
  rintro m σ3 H3 ⟨F3, ρ3, g3, p3, ev3⟩
  cases m with
  | zero => cases ev3
  | succ m =>
    unfold whileL at ev3
    obtain ⟨k, g4, e4, ev3⟩ := mb_inv ev3
    refine k1 σ3 H3 F3 ρ3 g3 p3.e k g4 e4 _ fun H4 F4 s4 => ?_
    have p4 := p3.step s4
    cases k with
    | false =>
      rw [if_neg Bool.false_ne_true] at ev3
      obtain ⟨rfl, rfl⟩ := mr_inv ev3
      exact iteF (post σ3 H4 F4 p4)
    | true =>
      rw [if_pos rfl] at ev3
      obtain ⟨fl1, g5, e5, ev3⟩ := mb_inv ev3
      refine iteT ⟨fun σ5 H5 => ∃ F5 ρ5 g5, PreS X.K en F5 H5 g5 ρ5 σ5 ∧ whileL tc b m ρ5 g5 = some (fl, g'), fun σ5 H5 h => ⟨m, Nat.lt_succ_self m, h⟩, ?_⟩
      refine kb en σ3 H4 F4 ρ3 g4 p4 fl1 g5 e5 _ ?_
      cases fl1 with
      | nx ρ5 => exact fun σ5 H5 F5 p5 => ⟨F5, ρ5, g5, p5, ev3⟩
      | ct ρ5 => exact fun σ5 H5 F5 p5 => ⟨F5, ρ5, g5, p5, ev3⟩
      | bk ρ5 =>
        obtain ⟨rfl, rfl⟩ := mr_inv ev3
        exact fun σ5 H5 F5 p5 => post σ5 H5 F5 p5
      | rt x =>
        obtain ⟨rfl, rfl⟩ := mr_inv ev3
        exact fun v H5 F5 s5 r5 => post v H5 F5 s5 r5
      | xc nm f d ρ5 =>
        obtain ⟨rfl, rfl⟩ := mr_inv ev3
        exact fun σ5 H5 F5 dd v p5 a b => post σ5 H5 F5 dd v p5 a b
end
/-! ### what is walked -/
def strItems (x : Str) : List D := x.cps.toList.map fun c => .str ⟨#[c]⟩
def itemsD : D → Option (List D)
  | .lst l => some l
  | .tup l => some l
  | .str x => some (strItems x)
  | _ => none
def aItem (f : E) : EA := fun ρ => mb (f ρ) fun d => ml (itemsD d)
section
variable {X : Cx} {tg e e2 : Expr} {f : E} {fs : EA} {p pos : Pos}
theorem pi_or {wi wi' : TI} (h : PI X tg e wi) (h' : PI X tg e wi') : PI X tg e (fun σ H R => wi σ H R ∨ wi' σ H R) := ⟨fun pins s σ H R I q => q.elim (h.run pins s σ H R I) (h'.run pins s σ H R I)⟩
theorem sg_one {x : Str} {c : Nat} (h : sOk x = true) (hc : c ∈ x.cps.toList) : sOk ⟨#[c]⟩ = true := sOk_mk (strOk_iff.mpr fun d hd => by
  have : d = c := by simpa using hd
  subst this
  exact strOk_iff.mp (sOk_ok h) d hc) (by show 1 ≤ sizeLine; decide)
theorem its_tup {K : PySem.W.Frag} {W F : Fz} {a : Addr} {xs : List V} {ds : List D} (h : SqT K W a xs) (r : RpA K F xs ds) : ItS K (Itt K a) W F ds := fun H s => by
  refine ⟨fun i d e => ?_, fun i hi => ⟨xs, sqT_mono s h, by rw [r.length]; exact hi⟩⟩
  obtain ⟨v, h1, h2⟩ := r.get e
  refine ⟨⟨xs, v, sqT_mono s h, h1⟩, fun x H' ⟨y1, y2⟩ => .inl ⟨y1, ?_⟩⟩
  have := y2 xs (sqT_mono s h)
  rw [h1] at this
  cases this
  exact h2
theorem its_str {K : PySem.W.Frag} {W F : Fz} {x : Str} (h : sOk x = true) : ItS K (Its x) W F (strItems x) := fun H s => by
  refine ⟨fun i d e => ?_, fun i hi => ?_⟩
  · unfold strItems at e
    rw [List.getElem?_map] at e
    obtain ⟨c, h1, rfl⟩ := Option.map_eq_some_iff.mp e
    have h2 : x.cps[i]? = some c := by simpa using h1
    refine ⟨(Array.getElem?_eq_some_iff.mp h2).1, fun v H' ⟨y1, c', y2, y3⟩ => .inl ⟨y1, ?_⟩⟩
    rw [h2] at y2
    cases y2
    subst y3
    exact .str _ (sg_one h (List.mem_of_getElem? h1))
  · unfold strItems at hi
    rw [List.length_map] at hi
    show x.cps.size ≤ i
    simpa using hi
theorem pdi_val (h : PD X e f) : PDI X tg e (aItem f) := by
  obtain ⟨t, ht, k⟩ := h
  refine ⟨_, pi_or (pi_list ht) (pi_or (pi_tup ht) (pi_str ht)), fun σ H F ρ g pre ds g' ev R q => ?_⟩
  obtain ⟨d, g1, e1, ev⟩ := mb_inv ev
  obtain ⟨e2, rfl⟩ := ml_inv ev
  cases d <;> try (cases e2; done)
  · have e2 := Option.some.inj e2
    subst e2
    refine .inr (.inr (k σ H F ρ g pre _ _ e1 _ fun v H1 F1 s1 r1 => ?_))
    obtain ⟨rfl, h⟩ := rp_str r1
    exact ⟨_, rfl, q _ H1 F1 s1 (its_str h)⟩
  · have e2 := Option.some.inj e2
    subst e2
    refine .inr (.inl (k σ H F ρ g pre _ _ e1 _ fun v H1 F1 s1 r1 => ?_))
    obtain ⟨a, xs, rfl, h1, h2, h3⟩ := rp_tup r1
    exact ⟨a, rfl, ⟨xs, sqT_mono s1.sub h1⟩, q _ H1 F1 s1 (its_tup h1 h3)⟩
  · have e2 := Option.some.inj e2
    subst e2
    refine .inl (k σ H F ρ g pre _ _ e1 _ fun v H1 F1 s1 r1 => ?_)
    obtain ⟨a, xs, rfl, h1, h2, h3⟩ := rp_lst r1
    refine ⟨a, rfl, ⟨xs, sqL_mono s1.sub h1⟩, q _ H1 F1 s1 fun H2 s2 => ?_⟩
    refine ⟨fun i d e => ?_, fun i hi => ⟨xs, sqL_mono s2 h1, by rw [h3.length]; exact hi⟩⟩
    obtain ⟨v, h4, h5⟩ := h3.get e
    refine ⟨⟨xs, v, sqL_mono s2 h1, h4⟩, fun x H' ⟨y1, y2⟩ => .inl ⟨y1, ?_⟩⟩
    have y3 := y2 xs (sqL_mono s2 h1)
    rw [h4] at y3
    cases y3
    exact h5
/-- a list of one's own, in a comprehension -/
def aOwn (i : Nat) : EA := fun ρ => ml (match ρ[i]? with
  | some (some (.ol l)) => some l
  | some (some (.d d)) => itemsD d
  | _ => none)
def rangeD (lo : Int) : Nat → List D
  | 0 => []
  | n + 1 => .int lo :: rangeD (lo + 1) n
theorem rangeD_length : ∀ (lo : Int) (n : Nat), (rangeD lo n).length = n
  | _, 0 => rfl
  | lo, n + 1 => by simp [rangeD, rangeD_length (lo + 1) n]
theorem rangeD_get : ∀ {n : Nat} {lo : Int} {i : Nat} {d : D}, (rangeD lo n)[i]? = some d → i < n ∧ d = .int (lo + i)
  | 0, lo, i, d, h => by simp [rangeD] at h
  | n + 1, lo, 0, d, h => by simp [rangeD] at h; exact ⟨Nat.succ_pos n, by rw [← h]; simp⟩
  | n + 1, lo, i + 1, d, h => by
    obtain ⟨h1, h2⟩ := rangeD_get (n := n) (lo := lo + 1) (i := i) (by simpa [rangeD] using h)
    exact ⟨Nat.succ_lt_succ h1, by rw [h2]; congr 1; omega⟩
theorem its_range {K : PySem.W.Frag} {W F : Fz} {lo : Int} {n : Nat} : ItS K (Itr lo n) W F (rangeD lo n) := fun H s => by
  refine ⟨fun i d e => ?_, fun i hi => by rw [rangeD_length] at hi; exact hi⟩
  obtain ⟨h1, rfl⟩ := rangeD_get e
  exact ⟨h1, fun v H' ⟨y1, y2⟩ => .inl ⟨y1, by rw [y2]; exact .int _⟩⟩
def range1M (ds : List D) : Option (List D) := match ds with
  | [.int j] => if -(2 ^ 62) ≤ j ∧ j < 2 ^ 62 then some (rangeD 0 j.toNat) else none
  | _ => none
theorem pdi_range1 (hm : X.mg "range" = none) (ha : PDA X [e] fs) (hg : Gl X "range" := by rfl) (hs : starEach [e] X.env = [(false, eval e X.env)] := by rfl) : PDI X tg (.Call (.Name "range" p) [e] [] pos) (aIt range1M fs) := by
  obtain ⟨t, ht, k⟩ := ha
  refine ⟨_, pi_range1 hg hm ht hs, fun σ H F ρ g pre ds g' ev R q => ?_⟩
  obtain ⟨as, g1, e1, ev⟩ := mb_inv ev
  obtain ⟨e2, rfl⟩ := ml_inv ev
  refine k σ H F ρ g pre as _ e1 _ fun vs H1 F1 s1 r1 => ?_
  unfold range1M at e2
  split at e2
  · rename_i j
    split at e2
    · rename_i hj
      cases e2
      have r1 : RpA X.K F1 vs ([j].map D.int) := r1
      rw [r1.ints]
      exact ⟨j, rfl, hj.1, hj.2, q _ H1 F1 s1 its_range⟩
    · cases e2
  · cases e2
end
end PD
end
section
set_option Elab.async false
set_option linter.all false
set_option maxRecDepth 100000
set_option maxHeartbeats 4000000
set_option autoImplicit false
namespace PD
open PySem PySem.Spec L2
open PyProof.Rows hiding St
variable [Live]

/-! ### subscripts -/
theorem pe_or' {X : Cx} {e : Expr} {t t' : TE} (h : PE X e t) (h' : PE X e t') : PE X e (fun σ H Q => t σ H Q ∨ t' σ H Q) := ⟨fun pins s σ H Q I q => q.elim (h.run pins s σ H Q I) (h'.run pins s σ H Q I)⟩
def lookD (ks : List Key) (l : List D) (k : Key) : Option D := match ks, l with
  | k' :: ks, d :: l => if k' = k then some d else lookD ks l k
  | _, _ => none
theorem lookD_ok {K : PySem.W.Frag} {F : Fz} {k : Key} : ∀ {kvs : List (Key × V)} {l : List D} {d : D}, RpA K F (kvs.map (·.2)) l → lookD (kvs.map (·.1)) l k = some d → ∃ v, valV kvs k = some v ∧ Rp K F v d
  | [], l, d, r, e => by cases l <;> cases e
  | (k', v) :: kvs, l, d, r, e => by
    cases r with
    | cons r rr =>
      simp only [List.map_cons, lookD] at e
      by_cases h : k' = k
      · rw [if_pos h] at e
        cases e
        exact ⟨v, valV_pos h, r⟩
      · rw [if_neg h] at e
        obtain ⟨u, h1, h2⟩ := lookD_ok rr e
        exact ⟨u, by rw [valV_neg h]; exact h1, h2⟩
theorem rp_hd {K : PySem.W.Frag} {F : Fz} {v : V} {n : Nat} {a : Addr} (h : Rp K F v (.hd n)) (e : F.mu[n]? = some a) : v = .ref a := by
  cases h with
  | hd h => rw [h] at e; cases e; rfl
def ixD (g : G) (x y : D) : Option D := match x, y with
  | .lst l, .int i => atI l i
  | .tup l, .int i => atI l i
  | .str z, .int i => (atI z.cps.toList i).map fun c => .str ⟨#[c]⟩
  | .dk ks l, y => (keyD y).bind fun k => lookD ks l k
  | .hd a, y => match g[a]? with
    | some (.mk ks l) => (keyD y).bind fun k => lookD ks l k
    | some (.ml l) => match y with
      | .int i => atI l i
      | _ => none
    | some (.mx _ _ _) => none
    | some (.mt _) => none
    | some (.mn _) => none
    | none => none
  | _, _ => none
def eIx (a b : E) : E := fun ρ => mb (a ρ) fun x => mb (b ρ) fun y => fun g => (ixD g x y).map fun d => (d, g)
theorem atI_rp {K : PySem.W.Frag} {F : Fz} {vs : List V} {l : List D} {i : Int} {d : D} (r : RpA K F vs l) (e : atI l i = some d) : ∃ v, atI vs i = some v ∧ Rp K F v d := by
  unfold atI at e ⊢
  rw [r.length]
  obtain ⟨j, h1, h2⟩ := Option.bind_eq_some_iff.mp e
  obtain ⟨v, h3, h4⟩ := r.get h2
  exact ⟨v, by rw [h1]; exact h3, h4⟩
section
variable {X : Cx} {a b : Expr} {fa fb : E} {pos : Pos} {k : Nat}
theorem pd_ix (hr : Room k X.A) (ha : PD X a fa) (hb : PD X b fb) (hs : PlainIx b := by exact fun _ _ => rfl) (hs2 : NoSl b := by exact fun _ _ => rfl) : PD X (.Subscript a b pos) (eIx fa fb) := by
  obtain ⟨ta, pa, ka⟩ := ha
  obtain ⟨tb, pb, kb⟩ := hb
  have hu : X.A.units + 1 < cLine := hu_of hr
  refine ⟨_, pe_or' (pe_ix ix_seq pa pb hs) (pe_dget hu pa pb hs2), fun σ H F ρ g pre d g' e Q q => ?_⟩
  obtain ⟨dx, g1, e1, e⟩ := mb_inv e
  obtain ⟨dy, g2, e2, e⟩ := mb_inv e
  obtain ⟨z, e3, e4⟩ := Option.map_eq_some_iff.mp e
  cases e4
  have run : ∀ {R : V → V → Hp → Prop}, (∀ x y H2 F2, Stp X.K g g' F F2 H H2 → Rp X.K F2 x dx → Rp X.K F2 y dy → R x y H2) → ta σ H fun x H1 => tb σ H1 fun y H2 => R x y H2 := fun {R} hR =>
    ka σ H F ρ g pre dx g1 e1 _ fun x H1 F1 s1 r1 => kb σ H1 F1 ρ g1 (pre.step s1) dy g' e2 _ fun y H2 F2 s2 r2 => hR x y H2 F2 (s1.trans s2) (r1.mono s2.ext) r2
  unfold ixD at e3
  split at e3
  · refine .inl (run fun x y H2 F2 s r1 r2 => ?_)
    obtain ⟨p, xs, rfl, h1, h2, h3⟩ := rp_lst r1
    obtain ⟨v, h4, h5⟩ := atI_rp h3 e3
    exact .inl ⟨p, xs, _, v, rfl, rp_int r2, sqL_mono s.sub h1, h4, q v H2 F2 s h5⟩
  · refine .inl (run fun x y H2 F2 s r1 r2 => ?_)
    obtain ⟨p, xs, rfl, h1, h2, h3⟩ := rp_tup r1
    obtain ⟨v, h4, h5⟩ := atI_rp h3 e3
    exact .inr (.inl ⟨p, xs, _, v, rfl, rp_int r2, sqT_mono s.sub h1, h4, q v H2 F2 s h5⟩)
  · refine .inl (run fun x y H2 F2 s r1 r2 => ?_)
    obtain ⟨c, h1, rfl⟩ := Option.map_eq_some_iff.mp e3
    obtain ⟨rfl, hz⟩ := rp_str r1
    refine .inr (.inr ⟨_, _, c, rfl, rp_int r2, sOk_len hz, h1, q _ H2 F2 s (.str _ (sg_one hz ?_))⟩)
    unfold atI at h1
    obtain ⟨j, _, h3⟩ := Option.bind_eq_some_iff.mp h1
    exact List.mem_of_getElem? h3
  · refine .inr (run fun x y H2 F2 s r1 r2 => ?_)
    obtain ⟨kk, h1, h2⟩ := Option.bind_eq_some_iff.mp e3
    obtain ⟨p, kvs, rfl, h3, rfl, h5⟩ := rp_dk r1
    obtain ⟨v, h6, h7⟩ := lookD_ok h5 h2
    exact ⟨p, v, rfl, .inl ⟨kvs, kk, Rd.mono s.sub h3, keyD_ok r2 h1, h6.symm⟩, q v H2 F2 s h7⟩
  · split at e3
    · rename_i hg
      refine .inr (run fun x y H2 F2 s r1 r2 => ?_)
      obtain ⟨kk, h1, h2⟩ := Option.bind_eq_some_iff.mp e3
      obtain ⟨a, hm, _, kvs, h3, rfl, h5⟩ := s.rep.get hg
      have := rp_hd r1 hm
      subst this
      obtain ⟨v, h6, h7⟩ := lookD_ok h5 h2
      exact ⟨_, v, rfl, .inl ⟨kvs, kk, .inl h3, keyD_ok r2 h1, h6.symm⟩, q v H2 F2 s h7⟩
    · rename_i hg
      split at e3
      · refine .inl (run fun x y H2 F2 s r1 r2 => ?_)
        obtain ⟨a, hm, _, vs, h3, h4, h5⟩ := s.rep.get hg
        have := rp_hd r1 hm
        subst this
        obtain ⟨v, h6, h7⟩ := atI_rp h5 e3
        exact .inl ⟨_, vs, _, v, rfl, rp_int r2, .of h3, h6, q v H2 F2 s h7⟩
      · cases e3
    · cases e3
    · cases e3
    · cases e3
    · cases e3
  · cases e3
/-- an item of a list | dict of one's own -/
def ixO (lv : LV) (y : D) : Option D := match lv, y with
  | .ol l, .int i => atI l i
  | .ok ks l, y => (keyD y).bind fun k => lookD ks l k
  | _, _ => none
def eIxO (i : Nat) (b : E) : E := fun ρ => mb (b ρ) fun y => ml (match ρ[i]? with
  | some (some lv) => ixO lv y
  | _ => none)
theorem pd_ixo (hr : Room k X.A) (i : Nat) {x : Str} {p : Pos} (hb : PD X b fb) (hN : X.N[i]? = some x := by rfl) (hv : Vis X.env.scope x := by first | exact Or.inl rfl | exact Or.inr (Or.inl rfl) | exact Or.inr (Or.inr rfl))
    (hd : (x == ("__debug__" : Str)) = false := by decide) (hcd : (x == ("__classdict__" : Str)) = false := by decide) (hs : PlainIx b := by exact fun _ _ => rfl) (hs2 : NoSl b := by exact fun _ _ => rfl) : PD X (.Subscript (.Name x p) b pos) (eIxO i fb) := by
  obtain ⟨tb, pb, kb⟩ := hb
  have hu : X.A.units + 1 < cLine := hu_of hr
  have pa : PE X (.Name x p) (tVar i) := pe_var hN hv hd hcd
  refine ⟨_, pe_or' (pe_ix ix_seq pa pb hs) (pe_dget hu pa pb hs2), fun σ H F ρ g pre d g' e Q q => ?_⟩
  obtain ⟨dy, g2, e2, e⟩ := mb_inv e
  obtain ⟨e3, rfl⟩ := ml_inv e
  cases h : ρ[i]? with
  | none => rw [h] at e3; cases e3
  | some o =>
    cases o with
    | none => rw [h] at e3; cases e3
    | some lv =>
      rw [h] at e3
      have e3 : ixO lv dy = some d := e3
      obtain ⟨v, h1, h2⟩ := pre.sl.at_ i lv h
      unfold ixO at e3
      split at e3
      · obtain ⟨p, vs, rfl, h3, h4, h5, h6, h7⟩ := h2
        refine .inl ⟨_, h1, kb σ H F ρ g pre _ _ e2 _ fun y H2 F2 s r2 => ?_⟩
        obtain ⟨w, h8, h9⟩ := atI_rp (h7.mono s.ext) e3
        exact .inl ⟨p, vs, _, w, rfl, rp_int r2, .of (s.same _ _ h4 h5), h8, q w H2 F2 s h9⟩
      · obtain ⟨kk, h8, h9⟩ := Option.bind_eq_some_iff.mp e3
        obtain ⟨p, kvs, rfl, h3, h4, h5, rfl, h7⟩ := h2
        refine .inr ⟨_, h1, kb σ H F ρ g pre _ _ e2 _ fun y H2 F2 s r2 => ?_⟩
        obtain ⟨w, h10, h11⟩ := lookD_ok (h7.mono s.ext) h9
        exact ⟨p, w, rfl, .inl ⟨kvs, kk, .inl (s.same _ _ h4 h5), keyD_ok r2 h8, h10.symm⟩, q w H2 F2 s h11⟩
      · cases e3
/-! ### slices -/
def cutL {α : Type} (xs : List α) (lo hi : Option Int) : List α := (xs.drop (HT.sIx xs.length 0 lo)).take (HT.sIx xs.length xs.length hi - HT.sIx xs.length 0 lo)
def slD (x : D) (lo hi : Option Int) : Option D := match x with
  | .lst l => some (.lst (cutL l lo hi))
  | .tup l => some (.tup (cutL l lo hi))
  | .str z => some (.str (cutS z lo hi))
  | _ => none
theorem rp_cut {K : PySem.W.Frag} {F : Fz} {vs : List V} {l : List D} (r : RpA K F vs l) (lo hi : Option Int) : RpA K F (cutV vs lo hi) (cutL l lo hi) := by
  unfold cutV cutL
  rw [r.length]
  exact (r.drop _).take _
theorem cutL_len {α : Type} (l : List α) (lo hi : Option Int) : (cutL l lo hi).length ≤ l.length := by
  unfold cutL
  rw [List.length_take, List.length_drop]
  omega
theorem cutS_ok {z : Str} (h : sOk z = true) (lo hi : Option Int) : sOk (cutS z lo hi) = true := by
  refine sOk_mk (strOk_iff.mpr fun c hc => strOk_iff.mp (sOk_ok h) c ?_) ?_
  · unfold cutS at hc
    simp only at hc
    exact List.mem_of_mem_drop (List.mem_of_mem_take hc)
  · have h2 := sOk_len h
    unfold cutS Str.length
    simp only [List.size_toArray, List.length_take, List.length_drop]
    have : z.cps.toList.length = z.length := by simp [Str.length]
    show min _ (z.cps.toList.length - _) ≤ sizeLine
    omega
abbrev rSlAll (K : PySem.W.Frag) : V → Option Int → Option Int → Hp → VK → Prop := fun x lo hi H Q => rSlL K x lo hi H Q ∨ (rSlA K x lo hi H Q ∨ rSlS x lo hi H Q)
theorem sl_all : SlR X (rSlAll X.K) := sl_list.or (sl_tupA.or sl_str)
/-- a slice's end -/
def PDP (X : Cx) (e : Option Expr) (f : Rho → M (Option Int)) : Prop := ∃ t, L2.PO X e t ∧ ∀ σ H F ρ g, PreE X.K F H g ρ σ → ∀ o g', f ρ g = some (o, g') → ∀ Q : Option Int → Hp → Prop, (∀ H' F', Stp X.K g g' F F' H H' → Q o H') → t σ H Q
def pNone : Rho → M (Option Int) := fun _ => mr none
def pSome (f : E) : Rho → M (Option Int) := fun ρ => mb (f ρ) fun d => match d with
  | .int i => mr (some i)
  | _ => mz
theorem pdp_none : PDP X none pNone := ⟨_, po_none, fun σ H F ρ g pre o g' e Q q => by
  obtain ⟨rfl, rfl⟩ := mr_inv e
  exact q H F pre.refl⟩
theorem pdp_some (h : PD X a fa) : PDP X (some a) (pSome fa) := by
  obtain ⟨t, ht, k⟩ := h
  refine ⟨_, po_some ht, fun σ H F ρ g pre o g' e Q q => ?_⟩
  obtain ⟨d, g1, e1, e⟩ := mb_inv e
  cases d <;> try (cases e; done)
  obtain ⟨rfl, rfl⟩ := mr_inv e
  refine k σ H F ρ g pre _ _ e1 _ fun v H1 F1 s1 r1 => ?_
  rw [rp_int r1]
  exact ⟨_, rfl, q H1 F1 s1⟩
def eSl (a : E) (lo hi : Rho → M (Option Int)) : E := fun ρ => mb (a ρ) fun x => mb (lo ρ) fun l => mb (hi ρ) fun h => ml (slD x l h)
theorem pd_slice {lo hi : Option Expr} {fl fh : Rho → M (Option Int)} {p2 : Pos} (ha : PD X a fa) (hl : PDP X lo fl) (hh : PDP X hi fh) : PD X (.Subscript a (.Slice lo hi none p2) pos) (eSl fa fl fh) := by
  obtain ⟨ta, pa, ka⟩ := ha
  obtain ⟨tl, pl, kl⟩ := hl
  obtain ⟨th, ph, kh⟩ := hh
  refine ⟨_, pe_slice sl_all pa pl ph, fun σ H F ρ g pre d g' e Q q => ?_⟩
  obtain ⟨dx, g1, e1, e⟩ := mb_inv e
  obtain ⟨l, g2, e2, e⟩ := mb_inv e
  obtain ⟨h, g3, e3, e⟩ := mb_inv e
  obtain ⟨e4, rfl⟩ := ml_inv e
  refine ka σ H F ρ g pre dx g1 e1 _ fun x H1 F1 s1 r1 => kl σ H1 F1 ρ g1 (pre.step s1) l g2 e2 _ fun H2 F2 s2 => kh σ H2 F2 ρ g2 (pre.step (s1.trans s2)) h _ e3 _ fun H3 F3 s3 => ?_
  have s := (s1.trans s2).trans s3
  have r := r1.mono (s2.ext.trans s3.ext)
  unfold slD at e4
  split at e4
  · cases e4
    obtain ⟨p, xs, rfl, h1, h2, h3⟩ := rp_lst r
    exact .inl ⟨p, xs, rfl, sqL_mono s.sub h1, fun c hc => q _ _ _ (s.trans (.alloc s.sub s.rep hc)) (rp_new_lst (s.sub.free hc) (Nat.le_trans (cutL_len _ _ _) (by rw [← h3.length]; exact h2)) (rp_cut h3 l h))⟩
  · cases e4
    obtain ⟨p, xs, rfl, h1, h2, h3⟩ := rp_tup r
    refine .inr (.inl ⟨p, xs, rfl, sqT_mono s.sub h1, fun hw => ?_, fun _ c hc => q _ _ _ (s.trans (.alloc s.sub s.rep hc)) (rp_new_tup (s.sub.free hc) (Nat.le_trans (cutL_len _ _ _) (by rw [← h3.length]; exact h2)) (rp_cut h3 l h))⟩)
    have e5 : ∀ ds : List D, xs.length = ds.length → cutL ds l h = ds := fun ds hl => by
      unfold cutL
      rw [← hl, hw.1, hw.2, List.drop_zero, Nat.sub_zero, hl, List.take_length]
    rw [e5 _ h3.length] at q
    exact q _ H3 F3 s r
  · cases e4
    obtain ⟨rfl, hz⟩ := rp_str r
    exact .inr (.inr ⟨_, rfl, sOk_len hz, q _ H3 F3 s (.str _ (cutS_ok hz l h))⟩)
  · cases e4
end
end PD
end
section
set_option Elab.async false
set_option linter.all false
set_option maxRecDepth 100000
set_option maxHeartbeats 4000000
set_option autoImplicit false
namespace PD
open PySem PySem.Spec L2
open PyProof.Rows hiding St
variable [Live]

/-! ### things of one's own are changed -/
theorem PreS.mut {K : PySem.W.Frag} {en : Ent} {F : Fz} {H : Hp} {g : G} {ρ : Rho} {σ : St} {i : Nat} {p : Addr} {lv lv' : LV} {o : HO} (pre : PreS K en F H g ρ σ) (h : ρ[i]? = some (some lv)) (ow : lv.own = true) (hσ : σ[i]? = some (some (.ref p))) (ow' : lv'.own = true)
    (hF : F p = none) (hg : p ∉ F.mu) (ok : SlotOk K F (upd H p o) g (.ref p) lv') : PreS K en F (upd H p o) g (ρ.set i (some lv')) σ := by
  have hp : Owned ρ σ i p := ⟨lv, h, ow, hσ⟩
  have hi : i < ρ.length := (List.getElem?_eq_some_iff.mp h).1
  have old : ∀ j w, Owned (ρ.set i (some lv')) σ j w → Owned ρ σ j w := fun j w ⟨l, q1, q2, q3⟩ => by
    by_cases e : i = j
    · subst e
      exact ⟨lv, h, ow, q3⟩
    · rw [List.getElem?_set_ne e] at q1
      exact ⟨l, q1, q2, q3⟩
  have st' := pre.st.mut (o := o) (pre.fr i p hp) hF hg
  refine ⟨⟨st'.sub, st'.rep, by rw [List.length_set]; exact pre.e.sl.len, fun j l z => ?_, fun j k w z1 z2 => pre.e.sl.sep j k w (old j w z1) (old k w z2)⟩, st', fun j w z => pre.fr j w (old j w z)⟩
  · by_cases e : i = j
    · subst e
      rw [List.getElem?_set_self hi] at z
      cases z
      exact ⟨_, hσ, ok⟩
    · rw [List.getElem?_set_ne e] at z
      obtain ⟨v, h1, h2⟩ := pre.e.sl.at_ j l z
      refine ⟨v, h1, ?_⟩
      have ne : l.own = true → ∀ w, v = .ref w → w ≠ p := fun w1 w w2 z3 => by
        subst w2 z3
        exact e (pre.e.sl.sep i j w hp ⟨l, z, w1, h1⟩)
      cases l with
      | d x => exact h2
      | ol ds => obtain ⟨w, vs, e1, e2, e3, e4, e5⟩ := h2; exact ⟨w, vs, e1, e2, e3, by rw [upd_ne (ne rfl w e1)]; exact e4, e5⟩
      | ok ks ds => obtain ⟨w, vs, e1, e2, e3, e4, e5⟩ := h2; exact ⟨w, vs, e1, e2, e3, by rw [upd_ne (ne rfl w e1)]; exact e4, e5⟩
      | ot ks ds => obtain ⟨w, vs, e1, e2, e3, e4, e5⟩ := h2; exact ⟨w, vs, e1, e2, e3, by rw [upd_ne (ne rfl w e1)]; exact e4, e5⟩
      | fn => exact h2
def olAt (ρ : Rho) (i : Nat) : Option (List D) := match ρ[i]? with
  | some (some (.ol l)) => some l
  | _ => none
theorem olAt_inv {ρ : Rho} {i : Nat} {l : List D} (h : olAt ρ i = some l) : ρ[i]? = some (some (.ol l)) := by
  unfold olAt at h
  split at h
  · cases h; assumption
  · cases h
def sAppend (i : Nat) (f : E) : S := fun ρ => mb (f ρ) fun d => ml ((olAt ρ i).bind fun l => if l.length < sizeLine then some (.nx (ρ.set i (some (.ol (l ++ [d]))))) else none)
def sExtend (i : Nat) (f : EA) : S := fun ρ => mb (f ρ) fun m => ml ((olAt ρ i).bind fun l => if l.length + m.length ≤ sizeLine then some (.nx (ρ.set i (some (.ol (l ++ m))))) else none)
theorem bind_if {α : Type} {o : Option (List D)} {P : List D → Prop} [∀ l, Decidable (P l)] {r : List D → α} {x : α} (h : (o.bind fun l => if P l then some (r l) else none) = some x) : ∃ l, o = some l ∧ P l ∧ r l = x := by
  obtain ⟨l, h1, h2⟩ := Option.bind_eq_some_iff.mp h
  by_cases hp : P l
  · rw [if_pos hp] at h2; exact ⟨l, h1, hp, Option.some.inj h2⟩
  · rw [if_neg hp] at h2; cases h2
theorem ol_inv {K : PySem.W.Frag} {F : Fz} {H : Hp} {g : G} {ρ : Rho} {σ : St} {i : Nat} {l : List D} (pre : PreE K F H g ρ σ) (h : ρ[i]? = some (some (.ol l))) :
    ∃ p vs, σ[i]? = some (some (.ref p)) ∧ F p = none ∧ p ∉ F.mu ∧ H p = some (.lst vs) ∧ vs.length ≤ sizeLine ∧ RpA K F vs l := by
  obtain ⟨v, h1, p, vs, rfl, h2⟩ := pre.sl.at_ i _ h
  exact ⟨p, vs, h1, h2⟩
section
variable {X : Cx} {e b : Expr} {f fb : E} {fs : EA} {x : Str} {p ap cp pos : Pos}
theorem pds_append (i : Nat) (h : PD X e f) (hN : X.N[i]? = some x := by rfl) (hv : Vis X.env.scope x := by first | exact Or.inl rfl | exact Or.inr (Or.inl rfl) | exact Or.inr (Or.inr rfl))
    (hd : (x == ("__debug__" : Str)) = false := by decide) (hcd : (x == ("__classdict__" : Str)) = false := by decide)
    (hbase : attributeBase (.Name x p) "append" X.env (eval (.Name x p) X.env) = eval (.Name x p) X.env := by rfl)
    (hfew : ((backTo cp (starEach [e] X.env)).all (fun x => !x.1) && (backToKw cp (keywordEach [] X.env)).all (fun x => x.1.isSome)
      && decide ([e].length + ([] : List Keyword).length + (if ([] : List Keyword).isEmpty then 0 else 1) < 30)) = true := by rfl)
    (hline : (ap.endLine == cp.line) = true := by rfl) (hs : starEach [e] X.env = (false, eval e X.env) :: starEach [] X.env := by rfl) (hsw : swapsWith (.Call (.Attribute (.Name x p) "append" ap) [e] [] cp) none pos.line X.env = pure false := by rfl) :
    PDS X (.Expr (.Call (.Attribute (.Name x p) "append" ap) [e] [] cp) pos) (sAppend i f) := by
  obtain ⟨t, ht, k⟩ := h
  refine ⟨_, ps_expr (pe_bm PySem.F.plainAttrs_list PySem.F.slot_list_append PySem.F.type_list_append mt_append (pe_var hN hv hd hcd) (pa_cons ht pa_nil hs) hbase hfew hline hs (by rfl)) hsw, fun en σ H F ρ g pre fl g' ev De post => ?_⟩
  obtain ⟨d, g1, e1, ev⟩ := mb_inv ev
  obtain ⟨ev2, rfl⟩ := ml_inv ev
  obtain ⟨l, hl0, hz, rfl⟩ := bind_if ev2
  have hl := olAt_inv hl0
  · · obtain ⟨q, vs, h1, h2, h3, h4, h5, h6⟩ := ol_inv pre.e hl
      refine ⟨_, h1, .inl ⟨rfl, vs, .of h4⟩, k σ H F ρ g pre.e d _ e1 _ fun v H1 F1 s1 r1 => ?_⟩
      have pre1 := pre.step s1
      have h4' : H1 q = some (.lst vs) := s1.same _ _ h3 h4
      have hl' : vs.length = l.length := h6.length
      refine ⟨q, vs, v, rfl, rfl, h4', by omega, post σ _ F1 (pre1.mut hl rfl h1 rfl (s1.keepN h2 h4) (s1.keepM h3 h4) ⟨q, vs ++ [v], rfl, s1.keepN h2 h4, s1.keepM h3 h4, upd_same, ?_, (h6.mono s1.ext).append (.cons r1 .nil)⟩)⟩
      rw [List.length_append]
      simp only [List.length_cons, List.length_nil]
      omega
/-! ### items of a list of one's own are set -/
def sSetO (i : Nat) (b f : E) : S := fun ρ => mb (f ρ) fun d => mb (b ρ) fun y => ml (match y with
  | .int k => (olAt ρ i).bind fun l => (ixN l.length k).map fun j => .nx (ρ.set i (some (.ol (l.set j d))))
  | _ => none)
theorem pds_setO (i : Nat) (hb : PD X b fb) (h : PD X e f) (hN : X.N[i]? = some x := by rfl) (hv : Vis X.env.scope x := by first | exact Or.inl rfl | exact Or.inr (Or.inl rfl) | exact Or.inr (Or.inr rfl))
    (hd : (x == ("__debug__" : Str)) = false := by decide) (hcd : (x == ("__classdict__" : Str)) = false := by decide)
    (ha : ∀ v, assign (.Subscript (.Name x p) b ap) X.env v = (do
      let ov ← holding [v] (eval (.Name x p) X.env)
      let iv ← holding [v, ov] (eval b X.env)
      standAt ap
      holding [v, ov, iv] (setItem ov iv v)
      release [v, ov, iv] []) := by intro _; rfl) (hs : swapsWithSole [.Subscript (.Name x p) b ap] e pos.line X.env = pure false := by rfl) (hw : swappedStores [.Subscript (.Name x p) b ap] e X.env = pure none := by rfl)
    (h1 : (assignEach [.Subscript (.Name x p) b ap] X.env).map (·.2) = [assign (.Subscript (.Name x p) b ap) X.env] := by rfl) :
    PDS X (.Assign [.Subscript (.Name x p) b ap] e pos) (sSetO i fb f) := by
  obtain ⟨t, ht, k⟩ := h
  obtain ⟨tb, pb, kb⟩ := hb
  refine ⟨_, ps_asg ht (pg_sub (pe_var hN hv hd hcd) pb set_list ha) hs hw h1, fun en σ H F ρ g pre fl g' ev De post => ?_⟩
  obtain ⟨d, g1, e1, ev⟩ := mb_inv ev
  obtain ⟨y, g2, e2, ev⟩ := mb_inv ev
  obtain ⟨ev2, rfl⟩ := ml_inv ev
  cases y <;> try (cases ev2; done)
  obtain ⟨l, hl0, h3⟩ := Option.bind_eq_some_iff.mp ev2
  obtain ⟨j, hj, rfl⟩ := Option.map_eq_some_iff.mp h3
  have hl := olAt_inv hl0
  obtain ⟨q, vs, h1, h2, h3, h4, h5, h6⟩ := ol_inv pre.e hl
  refine k σ H F ρ g pre.e d g1 e1 _ fun v H1 F1 s1 r1 => ⟨_, h1, kb σ H1 F1 ρ g1 (pre.e.step s1) _ _ e2 _ fun w H2 F2 s2 r2 => ?_⟩
  have s := s1.trans s2
  have h4' : H2 q = some (.lst vs) := s.same _ _ h3 h4
  have hl' : vs.length = l.length := h6.length
  rw [rp_int r2]
  refine ⟨q, vs, _, j, rfl, rfl, h4', by rw [hl']; exact hj, post σ _ F2 ((pre.step s).mut hl rfl h1 rfl (s.keepN h2 h4) (s.keepM h3 h4) ⟨q, vs.set j v, rfl, s.keepN h2 h4, s.keepM h3 h4, upd_same, by rw [List.length_set]; exact h5, (h6.mono s.ext).set (r1.mono s2.ext) j⟩)⟩
/-! ### the store -/
def updG (g : G) (n : Nat) (m : MO) : G := g.set n m
theorem Stp.store {K : PySem.W.Frag} {g : G} {F : Fz} {H : Hp} {n : Nat} {a : Addr} {m' : MO} {o : HO} (s : Same F.h H) (r : GRep K g F H) (ha : F.mu[n]? = some a) (ok : MOk K F (upd H a o) a m') : Stp K g (updG g n m') F F H (upd H a o) := by
  have hmem : a ∈ F.mu := List.mem_of_getElem? ha
  have hF : F a = none := (r.mem hmem).1
  refine ⟨fun b u h1 h2 => by rw [upd_ne fun z => h1 (by rw [z]; exact hmem)]; exact h2, fun b h => ?_, Ext.refl _, fun b u h => .inl ⟨u, h⟩, fun b h => .inl h, fun b u h => by rw [upd_ne (ne_of_none h hF)]; exact s b u h, ⟨by simp [updG, r.len], r.nd, fun k x b h1 h2 => ?_⟩⟩
  · by_cases e : b = a
    · subst e; rw [upd_same] at h; cases h
    · rw [upd_ne e] at h; exact h
  · unfold updG at h1
    by_cases e : n = k
    · subst e
      rw [ha] at h2
      cases h2
      have hl : n < g.length := by rw [r.len]; exact (List.getElem?_eq_some_iff.mp ha).1
      rw [List.getElem?_set_self hl] at h1
      cases h1
      exact ⟨hF, ok⟩
    · rw [List.getElem?_set_ne e] at h1
      obtain ⟨q1, q2⟩ := r.at_ k x b h1 h2
      have hne : b ≠ a := fun z => by
        subst z
        have l1 := (List.getElem?_eq_some_iff.mp ha).1
        exact e ((List.getElem?_inj l1 r.nd).mp (by rw [ha, h2]))
      exact ⟨q1, q2.mono (Ext.refl _) (upd_ne hne)⟩
/-- d[k] = v: in its place, or at the end -/
def putD : List Key → List D → Key → D → List Key × List D
  | k' :: ks, d' :: l, k, d => if k' = k then (k' :: ks, d :: l) else (k' :: (putD ks l k d).1, d' :: (putD ks l k d).2)
  | _, _, k, d => ([k], [d])
theorem putK_cons {k k' : Key} {v v' : V} {kvs : List (Key × V)} (h : (((k', v') :: kvs).map (·.1)).Nodup) : putK ((k', v') :: kvs) k v = if k' = k then (k', v) :: kvs else (k', v') :: putK kvs k v := by
  unfold putK
  by_cases e : k' = k
  · subst e
    rw [if_pos rfl]
    simp only [List.any_cons, decide_true, Bool.true_or, if_true, List.map_cons]
    congr 1
    have h2 : k' ∉ kvs.map (·.1) := (List.nodup_cons.mp h).1
    conv => rhs; rw [← List.map_id kvs]
    refine List.map_congr_left fun kv hkv => ?_
    rw [if_neg fun z => h2 (by rw [← z]; exact List.mem_map_of_mem hkv)]
    rfl
  · rw [if_neg e]
    simp only [List.any_cons, e, decide_false, Bool.false_or]
    by_cases h3 : (kvs.any fun kv => decide (kv.1 = k)) = true
    · rw [if_pos h3, if_pos h3]
      simp [e]
    · rw [if_neg h3, if_neg h3]
      rfl
theorem putD_ok {K : PySem.W.Frag} {F : Fz} {k : Key} {v : V} {d : D} (rv : Rp K F v d) : ∀ {kvs : List (Key × V)} {l : List D}, (kvs.map (·.1)).Nodup → RpA K F (kvs.map (·.2)) l →
    (putK kvs k v).map (·.1) = (putD (kvs.map (·.1)) l k d).1 ∧ RpA K F ((putK kvs k v).map (·.2)) (putD (kvs.map (·.1)) l k d).2
  | [], l, _, r => by
    cases r
    exact ⟨rfl, .cons rv .nil⟩
  | (k', v') :: kvs, l, h, r => by
    cases r with
    | cons r rr =>
      rw [putK_cons h]
      simp only [List.map_cons, putD]
      by_cases e : k' = k
      · rw [if_pos e, if_pos e]
        exact ⟨rfl, .cons rv rr⟩
      · rw [if_neg e, if_neg e]
        have ih := putD_ok (k := k) rv (List.nodup_cons.mp h).2 rr
        exact ⟨by simp [ih.1], .cons r ih.2⟩
/-- x[y] = v where x is a dict | list of the store -/
def storeD (g : G) (x y v : D) : Option G := match x with
  | .hd a => match g[a]? with
    | some (.mk ks l) => (keyD y).bind fun k => if ks.Nodup ∧ ks.length < sizeLine then some (updG g a (.mk (putD ks l k v).1 (putD ks l k v).2)) else none
    | some (.ml l) => match y with
      | .int i => (ixN l.length i).map fun j => updG g a (.ml (l.set j v))
      | _ => none
    | some (.mx _ _ _) => none
    | some (.mt _) => none
    | some (.mn _) => none
    | none => none
  | _ => none
def sStore (a b f : E) : S := fun ρ => mb (f ρ) fun v => mb (a ρ) fun x => mb (b ρ) fun y => fun g => (storeD g x y v).map fun g' => (.nx ρ, g')
theorem ps_or' {st : Stmt} {t t' : TS} (h : PS X st t) (h' : PS X st t') : PS X st (fun De σ H => t De σ H ∨ t' De σ H) := ⟨fun pins s σ H De I q => q.elim (h.run pins s σ H De I) (h'.run pins s σ H De I)⟩
theorem pds_store {a : Expr} {fa : E} {k : Nat} (hr : Room k X.A) (ha : PD X a fa) (hb : PD X b fb) (h : PD X e f)
    (hsw : swapsWith e (some (.Subscript a b ap)) pos.line X.env = pure false := by rfl)
    (hasg : ∀ v, assign (.Subscript a b ap) X.env v = (do
      let ov ← holding [v] (eval a X.env)
      let iv ← holding [v, ov] (eval b X.env)
      standAt ap
      holding [v, ov, iv] (setItem ov iv v)
      release [v, ov, iv] []) := by intro _; rfl) (hs : swapsWithSole [.Subscript a b ap] e pos.line X.env = pure false := by rfl) (hw : swappedStores [.Subscript a b ap] e X.env = pure none := by rfl)
    (h1 : (assignEach [.Subscript a b ap] X.env).map (·.2) = [assign (.Subscript a b ap) X.env] := by rfl) : PDS X (.Assign [.Subscript a b ap] e pos) (sStore fa fb f) := by
  obtain ⟨t, ht, kv⟩ := h
  obtain ⟨ta, pa, ka⟩ := ha
  obtain ⟨tb, pb, kb⟩ := hb
  refine ⟨_, ps_or' (ps_dput (hu_of hr) pa pb ht hsw) (ps_asg ht (pg_sub pa pb set_list hasg) hs hw h1), fun en σ H F ρ g pre fl g' ev De post => ?_⟩
  obtain ⟨d, g1, e1, ev⟩ := mb_inv ev
  obtain ⟨dx, g2, e2, ev⟩ := mb_inv ev
  obtain ⟨dy, g3, e3, ev⟩ := mb_inv ev
  obtain ⟨g4, e4, e5⟩ := Option.map_eq_some_iff.mp ev
  cases e5
  have run : ∀ {R : V → V → V → Hp → Prop}, (∀ v x y H2 F2, Stp X.K g g3 F F2 H H2 → Rp X.K F2 v d → Rp X.K F2 x dx → Rp X.K F2 y dy → R v x y H2) → t σ H fun v H1 => ta σ H1 fun x H2 => tb σ H2 fun y H3 => R v x y H3 := fun {R} hR =>
    kv σ H F ρ g pre.e d g1 e1 _ fun v H1 F1 s1 r1 => ka σ H1 F1 ρ g1 (pre.e.step s1) dx g2 e2 _ fun x H2 F2 s2 r2 => kb σ H2 F2 ρ g2 (pre.e.step (s1.trans s2)) dy g3 e3 _ fun y H3 F3 s3 r3 =>
      hR v x y H3 F3 ((s1.trans s2).trans s3) (r1.mono (s2.ext.trans s3.ext)) (r2.mono s3.ext) r3
  unfold storeD at e4
  split at e4
  · split at e4
    · rename_i ks l hg
      obtain ⟨kk, h2, h3⟩ := Option.bind_eq_some_iff.mp e4
      by_cases hn : ks.Nodup ∧ ks.length < sizeLine
      · rw [if_pos hn] at h3
        cases h3
        refine .inl (run fun v x y H3 F3 s rv rx ry => ?_)
        obtain ⟨b, hm, _, kvs, h4, h5, h6⟩ := s.rep.get hg
        have := rp_hd rx hm
        subst this
        subst h5
        obtain ⟨q1, q2⟩ := putD_ok (k := kk) rv hn.1 h6
        have hl : kvs.length < sizeLine := by simpa using hn.2
        rw [keyD_ok ry h2]
        exact ⟨_, _, rfl, DPut.k h4 hl, post σ _ F3 (pre.step (s.trans (Stp.store (m' := .mk _ _) s.sub s.rep hm ⟨_, upd_same, q1, q2⟩)))⟩
      · rw [if_neg hn] at h3
        cases h3
    · rename_i l hg
      split at e4
      · rename_i i
        obtain ⟨j, h2, rfl⟩ := Option.map_eq_some_iff.mp e4
        refine .inr (run fun v x y H3 F3 s rv rx ry => ?_)
        obtain ⟨b, hm, _, vs, h4, h5, h6⟩ := s.rep.get hg
        have := rp_hd rx hm
        subst this
        rw [rp_int ry]
        exact ⟨_, vs, i, j, rfl, rfl, h4, by rw [h6.length]; exact h2, post σ _ F3 (pre.step (s.trans (Stp.store (m' := .ml _) s.sub s.rep hm ⟨_, upd_same, by rw [List.length_set]; exact h5, h6.set rv j⟩)))⟩
      · cases e4
    · cases e4
    · cases e4
    · cases e4
    · cases e4
  · cases e4
end
/-! ### a def -/
def slots0 (n : Nat) (ds : List D) : Rho := ds.map (fun d => some (.d d)) ++ List.replicate (n - ds.length) none
def runF (n : Nat) (f : S) : List D → M D := fun ds g => match f (slots0 n ds) g with
  | some (.rt d, g') => some (d, g')
  | some (.nx _, g') => some (.non, g')
  | _ => none
theorem pre0 {K : PySem.W.Frag} {F : Fz} {H : Hp} {g : G} {N : List Str} {vs : List V} {ds : List D} (s : Same F.h H) (r : GRep K g F H) (rv : RpA K F vs ds) : PreS K ⟨g, F, H⟩ F H g (slots0 N.length ds) (start N vs) := by
  have hl := rv.length
  have no : ∀ i p, ¬ Owned (slots0 N.length ds) (start N vs) i p := fun i p ⟨lv, h1, h2, _⟩ => by
    unfold slots0 at h1
    by_cases hi : i < ds.length
    · rw [List.getElem?_append_left (by simpa using hi), List.getElem?_map, List.getElem?_eq_getElem hi] at h1
      cases h1
      cases h2
    · rw [List.getElem?_append_right (by simpa using Nat.le_of_not_lt hi)] at h1
      have := List.mem_of_getElem? h1
      rw [List.mem_replicate] at this
      cases this.2
  refine ⟨⟨s, r, ?_, fun i lv h => ?_, fun i j p h => (no i p h).elim⟩, Stp.refl s r, fun i p h => (no i p h).elim⟩
  · simp [slots0, L2.start, hl]
  · unfold slots0 at h
    by_cases hi : i < ds.length
    · rw [List.getElem?_append_left (by simpa using hi), List.getElem?_map, List.getElem?_eq_getElem hi] at h
      cases h
      obtain ⟨v, h1, h2⟩ := rv.get (List.getElem?_eq_getElem hi)
      refine ⟨v, ?_, h2⟩
      unfold L2.start
      rw [List.getElem?_append_left (by rw [List.length_map, hl]; exact hi), List.getElem?_map, h1]
      rfl
    · rw [List.getElem?_append_right (by simpa using Nat.le_of_not_lt hi)] at h
      have := List.mem_of_getElem? h
      rw [List.mem_replicate] at this
      cases this.2
theorem fn_dG {P : Program} {w : World} {K : PySem.W.Frag} {mg : Str → Option Value} {base : Heap} {k : Nat} {f : Addr} {x qual : Str} {params : Arguments} {body : List Stmt} {scope : Scope} {kws : List (Str × V)} {fd : FuncData} {N ps : List Str} {sem : S}
    (F : FunD K x qual params body scope [] kws f fd) (S : FnScope N ps scope)
    (hbody : ∀ (cdv : Value) (A : Around) (outer : List Env) (s : Shared) (H : Hp) (E : XK), Room k (A.deeper (envOfC qual scope s.heap.objs.size f cdv)) → (A.deeper (envOfC qual scope s.heap.objs.size f cdv)).guards = some [] →
      PDSS (cxOf CX0 P w K mg base N qual scope f cdv A outer s H E).nox body sem) : FnG P w K mg base CX0 (k + 1) f fd ps (spD K ps.length (runF N.length sem)) := by
  refine fn_g F S (fun vs H Q E h => ?_) fun cdv A outer s H vs Q E hr gd h => ?_
  · obtain ⟨F, g, ds, d, g', hn, _, _, rv, _⟩ := h
    rw [rv.length, hn]
  · obtain ⟨F, g, ds, d, g', hn, sb, rp, rv, ev, q⟩ := h
    obtain ⟨t, ht, kt⟩ := hbody cdv A outer s H E hr gd
    refine ⟨t, ht.nox, ?_⟩
    unfold runF at ev
    cases h : sem (slots0 N.length ds) g with
    | none => rw [h] at ev; cases ev
    | some r =>
      obtain ⟨fl, g1⟩ := r
      rw [h] at ev
      refine kt ⟨g, F, H⟩ (start N vs) H F (slots0 N.length ds) g (pre0 sb rp rv) fl g1 h _ ?_
      cases fl with
      | rt z => cases ev; exact fun v H' F' s' r' => q v H' F' s' r'
      | nx ρ => cases ev; exact fun σ' H' F' p' => q .non H' F' p'.st .non
      | bk ρ => cases ev
      | xc nm f d ρ => cases ev
      | ct ρ => cases ev
end PD
end
section
set_option Elab.async false
set_option linter.all false
set_option maxRecDepth 100000
set_option maxHeartbeats 4000000
set_option autoImplicit false
namespace PD
open PySem PySem.Spec L2
open PyProof.Rows hiding St
variable [Live]

/-! ### values that may be new things of one's own -/
def Fresh (H0 : Hp) (v : V) (lv : LV) : Prop := lv.own = true → ∀ p, v = .ref p → H0 p = none
theorem SlotOk.there {K : PySem.W.Frag} {F : Fz} {H : Hp} {g : G} {p : Addr} {lv : LV} (h : SlotOk K F H g (.ref p) lv) (o : lv.own = true) : H p ≠ none := by
  cases lv with
  | d x => cases o
  | ol l => obtain ⟨q, vs, e, _, _, h, _⟩ := h; cases e; rw [h]; simp
  | ok ks l => obtain ⟨q, vs, e, _, _, h, _⟩ := h; cases e; rw [h]; simp
  | ot ks l => obtain ⟨q, vs, e, _, _, h, _⟩ := h; cases e; rw [h]; simp
  | fn => cases o
theorem SlotOk.ref {K : PySem.W.Frag} {F : Fz} {H : Hp} {g : G} {v : V} {lv : LV} (h : SlotOk K F H g v lv) (o : lv.own = true) : ∃ p, v = .ref p := by
  cases lv with
  | d x => cases o
  | ol l => obtain ⟨q, vs, e, _⟩ := h; exact ⟨q, e⟩
  | ok ks l => obtain ⟨q, vs, e, _⟩ := h; exact ⟨q, e⟩
  | ot ks l => obtain ⟨q, vs, e, _⟩ := h; exact ⟨q, e⟩
  | fn => cases o
inductive LvA (K : PySem.W.Frag) (F : Fz) (H : Hp) (g : G) : Hp → List V → List LV → Prop
  | nil {H0 : Hp} : LvA K F H g H0 [] []
  | cons {H0 H1 : Hp} {v : V} {vs : List V} {lv : LV} {lvs : List LV} : SlotOk K F H g v lv → Fresh H0 v lv → (lv.own = true → ∀ p, v = .ref p → H1 p ≠ none) → (∀ a, H1 a = none → H0 a = none) → LvA K F H g H1 vs lvs → LvA K F H g H0 (v :: vs) (lv :: lvs)
theorem LvA.length {K : PySem.W.Frag} {F : Fz} {H : Hp} {g : G} : ∀ {H0 : Hp} {vs : List V} {lvs : List LV}, LvA K F H g H0 vs lvs → vs.length = lvs.length
  | _, _, _, .nil => rfl
  | _, _, _, .cons _ _ _ _ t => congrArg (· + 1) t.length
def setLs : Rho → List Nat → List LV → Rho
  | ρ, i :: is, lv :: lvs => setLs (ρ.set i (some lv)) is lvs
  | ρ, _, _ => ρ
def setVs : St → List Nat → List V → St
  | σ, i :: is, v :: vs => setVs (σ.set i (some v)) is vs
  | σ, _, _ => σ
theorem LvA.set {K : PySem.W.Frag} {en : Ent} {F : Fz} {H : Hp} {g : G} : ∀ {H0 : Hp} {vs : List V} {lvs : List LV} {is : List Nat} {ρ : Rho} {σ : St}, LvA K F H g H0 vs lvs → PreS K en F H g ρ σ → (∀ j p, Owned ρ σ j p → H0 p ≠ none) → (∀ a, H0 a = none → en.H a = none) →
    PreS K en F H g (setLs ρ is lvs) (setVs σ is vs)
  | _, _, _, [], _, _, .nil, p, _, _ => p
  | _, _, _, [], _, _, .cons _ _ _ _ _, p, _, _ => p
  | _, _, _, _ :: _, _, _, .nil, p, _, _ => p
  | H0, _, _, i :: is, ρ, σ, .cons (H1 := H1) (v := v) (lv := lv) ok fr th mo t, p, ow, he => by
    have he1 : ∀ a, H1 a = none → en.H a = none := fun a h => he a (mo a h)
    cases lv with
    | d x =>
      refine LvA.set (is := is) t (p.set (i := i) ok) (fun j q z => fun e => ow j q z.set (mo q e)) he1
    | fn =>
      refine LvA.set (is := is) t (p.setF (i := i) ok) (fun j q z => fun e => ow j q (Owned.setF z) (mo q e)) he1
    | ol l =>
      obtain ⟨q, rfl⟩ := ok.ref rfl
      have new : ∀ j, ¬ Owned ρ σ j q := fun j z => ow j q z (fr rfl q rfl)
      refine LvA.set (is := is) t (p.own (i := i) rfl ok new (he q (fr rfl q rfl))) (fun j w z e => ?_) he1
      obtain ⟨l', z1, z2, z3⟩ := z
      by_cases hj : i = j
      · subst hj
        by_cases hl : i < σ.length
        · rw [List.getElem?_set_self hl] at z3
          cases (Option.some.inj (Option.some.inj z3))
          exact th rfl _ rfl e
        · rw [List.getElem?_eq_none (by simpa using hl)] at z3; cases z3
      · rw [List.getElem?_set_ne hj] at z1 z3
        exact ow j w ⟨l', z1, z2, z3⟩ (mo w e)
    | ok ks l =>
      obtain ⟨q, rfl⟩ := ok.ref rfl
      have new : ∀ j, ¬ Owned ρ σ j q := fun j z => ow j q z (fr rfl q rfl)
      refine LvA.set (is := is) t (p.own (i := i) rfl ok new (he q (fr rfl q rfl))) (fun j w z e => ?_) he1
      obtain ⟨l', z1, z2, z3⟩ := z
      by_cases hj : i = j
      · subst hj
        by_cases hl : i < σ.length
        · rw [List.getElem?_set_self hl] at z3
          cases (Option.some.inj (Option.some.inj z3))
          exact th rfl _ rfl e
        · rw [List.getElem?_eq_none (by simpa using hl)] at z3; cases z3
      · rw [List.getElem?_set_ne hj] at z1 z3
        exact ow j w ⟨l', z1, z2, z3⟩ (mo w e)
    | ot ks l =>
      obtain ⟨q, rfl⟩ := ok.ref rfl
      have new : ∀ j, ¬ Owned ρ σ j q := fun j z => ow j q z (fr rfl q rfl)
      refine LvA.set (is := is) t (p.own (i := i) rfl ok new (he q (fr rfl q rfl))) (fun j w z e => ?_) he1
      obtain ⟨l', z1, z2, z3⟩ := z
      by_cases hj : i = j
      · subst hj
        by_cases hl : i < σ.length
        · rw [List.getElem?_set_self hl] at z3
          cases (Option.some.inj (Option.some.inj z3))
          exact th rfl _ rfl e
        · rw [List.getElem?_eq_none (by simpa using hl)] at z3; cases z3
      · rw [List.getElem?_set_ne hj] at z1 z3
        exact ow j w ⟨l', z1, z2, z3⟩ (mo w e)
abbrev EV := Rho → M LV
abbrev EVA := Rho → M (List LV)
def PV (X : Cx) (e : Expr) (f : EV) : Prop := ∃ t, PE X e t ∧ ∀ σ H F ρ g, PreE X.K F H g ρ σ → ∀ lv g', f ρ g = some (lv, g') → ∀ Q : VK,
  (∀ v H' F', Stp X.K g g' F F' H H' → SlotOk X.K F' H' g' v lv → Fresh H v lv → Q v H') → t σ H Q
def PVA (X : Cx) (es : List Expr) (f : EVA) : Prop := ∃ t, PA X es t ∧ ∀ σ H F ρ g, PreE X.K F H g ρ σ → ∀ lvs g', f ρ g = some (lvs, g') → ∀ Q : List V → Hp → Prop,
  (∀ vs H' F', Stp X.K g g' F F' H H' → LvA X.K F' H' g' H vs lvs → Q vs H') → t σ H Q
def vD (f : E) : EV := fun ρ => mb (f ρ) fun d => mr (.d d)
def vL (f : EA) : EV := fun ρ => mb (f ρ) fun d => mr (.ol d)
def vNil : EVA := fun _ => mr []
def vCons (a : EV) (r : EVA) : EVA := fun ρ => mb (a ρ) fun x => mb (r ρ) fun xs => mr (x :: xs)
section
variable {X : Cx} {e : Expr} {es : List Expr} {f : E} {fs : EA} {fv : EV} {fvs : EVA} {pos : Pos}
theorem pv_d (h : PD X e f) : PV X e (vD f) := by
  obtain ⟨t, ht, k⟩ := h
  refine ⟨t, ht, fun σ H F ρ g pre lv g' ev Q q => ?_⟩
  obtain ⟨d, g1, e1, ev⟩ := mb_inv ev
  obtain ⟨rfl, rfl⟩ := mr_inv ev
  exact k σ H F ρ g pre d _ e1 _ fun v H1 F1 s1 r1 => q v H1 F1 s1 r1 fun z => by cases z
theorem pv_ol (h : PO X e fs) : PV X e (vL fs) := by
  obtain ⟨t, ht, k⟩ := h
  refine ⟨t, ht, fun σ H F ρ g pre lv g' ev Q q => ?_⟩
  obtain ⟨d, g1, e1, ev⟩ := mb_inv ev
  obtain ⟨rfl, rfl⟩ := mr_inv ev
  exact k σ H F ρ g pre d _ e1 _ fun p H1 F1 vs s1 n1 n2 n3 n4 n5 n6 => q (.ref p) H1 F1 s1 ⟨p, vs, rfl, n2, n3, n4, n5, n6⟩ fun _ w ew => by cases ew; exact n1
theorem pva_nil : PVA X [] vNil := ⟨_, pa_nil, fun σ H F ρ g pre d g' e Q q => by
  obtain ⟨rfl, rfl⟩ := mr_inv e
  exact q _ H F pre.refl .nil⟩
theorem pva_cons (h : PV X e fv) (hr : PVA X es fvs) (hs : starEach (e :: es) X.env = (false, eval e X.env) :: starEach es X.env := by rfl) : PVA X (e :: es) (vCons fv fvs) := by
  obtain ⟨t, ht, k⟩ := h
  obtain ⟨t2, ht2, k2⟩ := hr
  refine ⟨_, pa_cons ht ht2 hs, fun σ H F ρ g pre d g' e Q q => ?_⟩
  obtain ⟨x, g1, e1, e⟩ := mb_inv e
  obtain ⟨xs, g2, e2, e⟩ := mb_inv e
  obtain ⟨rfl, rfl⟩ := mr_inv e
  refine k σ H F ρ g pre x g1 e1 _ fun v H1 F1 s1 r1 f1 => ?_
  refine k2 σ H1 F1 ρ g1 (pre.step s1) xs _ e2 _ fun vs H2 F2 s2 r2 => ?_
  exact q _ H2 F2 (s1.trans s2) (.cons (r1.step s2) f1 (fun o p ep => by subst ep; exact r1.there o) s1.mono r2)
/-! ### a, b, .. = x, y, .. -/
def sParV (is : List Nat) (f : EVA) : S := fun ρ => mb (f ρ) fun lvs => if lvs.length = is.length then mr (.nx (setLs ρ is lvs)) else mz
theorem par_sem {en : Ent} {σ : St} {F : Fz} {H : Hp} {ρ : Rho} {g : G} {K : PySem.W.Frag} {F1 : Fz} {H1 : Hp} {g1 : G} {vs : List V} {lvs : List LV} (pre : PreS K en F H g ρ σ) (s1 : Stp K g g1 F F1 H H1) (r1 : LvA K F1 H1 g1 H vs lvs) (is : List Nat) :
    PreS K en F1 H1 g1 (setLs ρ is lvs) (setVs σ is vs) :=
  r1.set (pre.step s1) (fun j p z e => by obtain ⟨o, ho⟩ := pre.e.own_some z; rw [ho] at e; cases e) fun a h => pre.st.mono a h
theorem pds_par2 (i j : Nat) {x y : Str} {a b : Expr} {px py pt : Pos} {kt k2 : Nat} {pt2 : Pos} (hc : X.calm = true) (hN : X.N.Nodup) (ha : PVA X [a, b] fvs) (hi : X.N[i]? = some x := by rfl) (hj : X.N[j]? = some y := by rfl) (hij : i ≠ j := by decide)
    (hx : X.env.scope.names.lookup x = some .local := by rfl) (hy : X.env.scope.names.lookup y = some .local := by rfl)
    (hw : swappedStores [.Tuple [.Name x px, .Name y py] kt pt] (.Tuple [a, b] k2 pt2) X.env = pure (some [x, y]) := by rfl)
    (hs : swapsWithSole [.Tuple [.Name x px, .Name y py] kt pt] (.Tuple [a, b] k2 pt2) pos.line X.env = pure false := by rfl) :
    PDS X (.Assign [.Tuple [.Name x px, .Name y py] kt pt] (.Tuple [a, b] k2 pt2) pos) (sParV [i, j] fvs) := by
  obtain ⟨t, p, k⟩ := ha
  refine ⟨_, ps_par hc hN hi hj hij hx hy p hw hs, fun en σ H F ρ g pre fl g' e De post => ?_⟩
  obtain ⟨lvs, g1, e1, e⟩ := mb_inv e
  split at e
  · rename_i hl
    obtain ⟨rfl, rfl⟩ := mr_inv e
    refine k σ H F ρ g pre.e _ _ e1 _ fun vs H1 F1 s1 r1 => ?_
    have hl2 := r1.length
    have fin := par_sem pre s1 r1 [i, j]
    match vs, hl2.trans hl with
    | [v, w], _ => exact ⟨v, w, rfl, post _ H1 F1 fin⟩
  · cases e
theorem pds_par3 (i j l : Nat) {x y z : Str} {a b c : Expr} {px py pz pt : Pos} {kt k2 : Nat} {pt2 : Pos} (hc : X.calm = true) (hN : X.N.Nodup) (ha : PVA X [a, b, c] fvs) (hi : X.N[i]? = some x := by rfl) (hj : X.N[j]? = some y := by rfl) (hl : X.N[l]? = some z := by rfl) (hij : i ≠ j := by decide) (hil : i ≠ l := by decide) (hjl : j ≠ l := by decide)
    (hx : X.env.scope.names.lookup x = some .local := by rfl) (hy : X.env.scope.names.lookup y = some .local := by rfl) (hz : X.env.scope.names.lookup z = some .local := by rfl)
    (hw : swappedStores [.Tuple [.Name x px, .Name y py, .Name z pz] kt pt] (.Tuple [a, b, c] k2 pt2) X.env = pure (some [x, y, z]) := by rfl)
    (hs : swapsWithSole [.Tuple [.Name x px, .Name y py, .Name z pz] kt pt] (.Tuple [a, b, c] k2 pt2) pos.line X.env = pure false := by rfl) :
    PDS X (.Assign [.Tuple [.Name x px, .Name y py, .Name z pz] kt pt] (.Tuple [a, b, c] k2 pt2) pos) (sParV [i, j, l] fvs) := by
  obtain ⟨t, p, k⟩ := ha
  refine ⟨_, ps_par3 hc hN hi hj hl hij hil hjl hx hy hz p hw hs, fun en σ H F ρ g pre fl g' e De post => ?_⟩
  obtain ⟨lvs, g1, e1, e⟩ := mb_inv e
  split at e
  · rename_i hl
    obtain ⟨rfl, rfl⟩ := mr_inv e
    refine k σ H F ρ g pre.e _ _ e1 _ fun vs H1 F1 s1 r1 => ?_
    have hl2 := r1.length
    have fin := par_sem pre s1 r1 [i, j, l]
    match vs, hl2.trans hl with
    | [u, v, w], _ => exact ⟨u, v, w, rfl, post _ H1 F1 fin⟩
  · cases e
/-- the targets are names -/
def PGN (X : Cx) (ts : List Expr) (is : List Nat) : Prop := ∃ t, PGs X ts t ∧ ∀ vs σ H Q, vs.length = is.length → Q (setVs σ is vs) H → t vs σ H Q
theorem pgn_nil : PGN X [] [] := ⟨_, pgs_nil, fun vs σ H Q h q => by
  cases vs with
  | nil => exact ⟨rfl, q⟩
  | cons v vs => cases h⟩
theorem pgn_cons (i : Nat) {x : Str} {ts : List Expr} {is : List Nat} (hN : X.N.Nodup) (h2 : PGN X ts is) (hi : X.N[i]? = some x := by rfl) (hx : Loc X.env.scope x := by first | exact Or.inl rfl | exact Or.inr rfl)
    (hf : X.fn x = true ∨ X.env.scope.names.lookup x = some .local := by first | exact .inl rfl | exact .inr rfl | assumption)
    (hs : (assignEach (.Name x pos :: ts) X.env).map (·.2) = assign (.Name x pos) X.env :: (assignEach ts X.env).map (·.2) := by rfl) : PGN X (.Name x pos :: ts) (i :: is) := by
  obtain ⟨t, p, k⟩ := h2
  refine ⟨_, pgs_cons (pg_name hN hi hx hf) p hs, fun vs σ H Q h q => ?_⟩
  cases vs with
  | nil => cases h
  | cons v vs => exact ⟨v, vs, rfl, k vs _ H Q (by simpa using h) q⟩
theorem pds_parN {ts es : List Expr} {is : List Nat} {kt k2 : Nat} {pt pt2 : Pos} (hc : X.calm = true) (ht : PGN X ts is) (ha : PVA X es fvs) (hw : swappedStores [.Tuple ts kt pt] (.Tuple es k2 pt2) X.env = pure none := by rfl)
    (hs : swapsWithSole [.Tuple ts kt pt] (.Tuple es k2 pt2) pos.line X.env = pure false := by rfl) (h1 : (assignEach [.Tuple ts kt pt] X.env).map (·.2) = [assign (.Tuple ts kt pt) X.env] := by rfl)
    (hn : (assignEach ts X.env).length = is.length := by rfl) (hst : (assignEach ts X.env).findIdx? (·.1) = none := by rfl) (hz : is.length ≤ sizeLine := by decide) :
    PDS X (.Assign [.Tuple ts kt pt] (.Tuple es k2 pt2) pos) (sParV is fvs) := by
  obtain ⟨t, p, k⟩ := ha
  obtain ⟨tg, pg, kg⟩ := ht
  refine ⟨_, ps_asg (pe_tup p) (pg_tup (n := is.length) hc pg hn hst) hs hw h1, fun en σ H F ρ g pre fl g' e De post => ?_⟩
  obtain ⟨lvs, g1, e1, e⟩ := mb_inv e
  split at e
  · rename_i hl
    obtain ⟨rfl, rfl⟩ := mr_inv e
    refine k σ H F ρ g pre.e _ _ e1 _ fun vs H1 F1 s1 r1 => ⟨by rw [r1.length, hl]; exact hz, fun p hp => ?_⟩
    have hl2 := r1.length
    have fin := par_sem pre s1 r1 is
    refine ⟨p, vs, rfl, .of upd_same, hl2.trans hl, kg vs σ _ _ (hl2.trans hl) (post _ _ F1 ?_)⟩
    exact fin.step (.allocO s1.sub s1.rep hp)
  · cases e
end
end PD
end
section
set_option Elab.async false
set_option linter.all false
set_option maxRecDepth 100000
set_option maxHeartbeats 4000000
set_option autoImplicit false
namespace PD
open PySem PySem.Spec L2
open PyProof.Rows hiding St
variable [Live]

/-! ### tuples of ints of any lengths, sorted -/
def IsTI (h : Heap) (v : Value) (ns : List Int) : Prop := ∃ a o us n, v = .ref a ∧ h.get? a = some o ∧ o.cls = .type "tuple" ∧ o.data = .seq (List.toArray us) n ∧ IntsAre us ns
theorem IsTI.keeps {h h' : Heap} {v : Value} {ns : List Int} (x : IsTI h v ns) (k : ∀ b o, h.get? b = some o → o.cls = .type "tuple" → h'.get? b = some o) : IsTI h' v ns := by
  obtain ⟨a, o, us, n, h1, h2, h3, h4, h5⟩ := x
  exact ⟨a, o, us, n, h1, k a o h2 h3, h3, h4, h5⟩
section
variable {prog : Program} {w : World} {A : Around} {E : Value → Shared → Prop} {s : Shared}
theorem ti_lex : ∀ {us ws : List Value} {ns ms : List Int} {fin : Bool} {Q : Bool → Shared → Prop} (i : Nat), IntsAre us ns → IntsAre ws ms → fin = decide (ns.length < ms.length) → Q (HT.lexLt ns ms) s → PySem.W.KatLex prog w A true fin Q (us.zip ws) i s
  | [], [], _, _, fin, Q, i, .nil, .nil, hf, q => PySem.W.kat_nil (by rw [hf]; exact q)
  | [], _ :: _, _, _, fin, Q, i, .nil, .cons y u hb, hf, q => PySem.W.kat_nil (by rw [hf]; simpa [HT.lexLt] using q)
  | _ :: _, [], _, _, fin, Q, i, .cons x t ha, .nil, hf, q => PySem.W.kat_nil (by rw [hf]; simpa [HT.lexLt] using q)
  | _ :: us, _ :: ws, _, _, fin, Q, i, .cons (ns := ns) x t ha, .cons (ns := ms) y u hb, hf, q => by
    rw [HT.lexLt_cons] at q
    rw [List.zip_cons_cons]
    refine PySem.W.kat_cons (SeqAt.EqAt.int_int x t y u prog w _ _ ?_)
    refine PySem.W.kat_go (fun e1 => ?_) (fun e1 => ?_)
    · have ex : x = y := by simpa using e1
      rw [if_pos ex] at q
      exact PySem.W.kat_yes (ti_lex (i + 1) ha hb (by rw [hf]; simp) q)
    · have ex : ¬ x = y := by simpa using e1
      rw [if_neg ex] at q
      refine PySem.W.kat_no ?_
      cases i with
      | zero => exact oneLt_int q
      | succ i => exact PySem.W.kat_one _ _ (PyProof.Rows.lt_int q)
abbrev ltT (k : Value → List Int) (x y : Value) : Bool := HT.lexLt (k x) (k y)
theorem swoT {α : Type} (k : α → List Int) : SrtO.Swo fun x y => HT.lexLt (k x) (k y) := ⟨fun x y => NtL.lex_asym (k x) (k y), fun x y z => NtL.lex_tr (k x) (k y) (k z)⟩
theorem ti_cmp {vs : List Value} {k : Value → List Int} (hp : ∀ v ∈ vs, IsTI s.heap v (k v)) : SrtO.Cmp prog w A s (tuples' true) (fun p => p.1 ∈ vs) (SrtO.lt2 (ltT k)) := by
  intro p q hm hm'
  obtain ⟨a, o, us, n, e, ho, hc, hd, hi⟩ := hp _ hm
  obtain ⟨a', o', us', n', e', ho', hc', hd', hi'⟩ := hp _ hm'
  show wpAny (model prog w) A (keyLt' (tuples' true) p.1 q.1) (fun r s' => s' = s ∧ r = HT.lexLt (k p.1) (k q.1)) (fun _ _ => False) s
  generalize k p.1 = ns at hi ⊢
  generalize k q.1 = ms at hi' ⊢
  rw [e, e']
  refine PySem.W.kat_lt ho hd ho' hd' ?_
  exact ti_lex 0 hi hi' (by simp [hi.length, hi'.length]) ⟨rfl, rfl⟩
theorem ti_firsts {h : Heap} {k : Value → List Int} : ∀ {vs : List Value}, (∀ v ∈ vs, IsTI h v (k v) ∧ k v ≠ []) → ∃ fs : List Value, PySem.W.KatTups h vs fs ∧ fs.length = vs.length ∧ ∀ f ∈ fs, ∃ x t, f = Value.int x t
  | [], _ => ⟨[], PySem.W.KatTups.nil, rfl, fun _ hm => by simp at hm⟩
  | v :: vs, hp => by
    obtain ⟨fs, h1, h2, h3⟩ := ti_firsts (vs := vs) fun v' hm => hp v' (List.mem_cons_of_mem _ hm)
    obtain ⟨⟨a, o, us, n, e, ho, hc, hd, hi⟩, hne⟩ := hp v (List.mem_cons_self ..)
    generalize k v = ns at hi hne
    subst e
    cases hi with
    | nil => exact absurd rfl hne
    | cons x t hr =>
      refine ⟨.int x t :: fs, PySem.W.KatTups.cons ho hc hd rfl h1, by rw [List.length_cons, List.length_cons, h2], fun f hm => ?_⟩
      rcases List.mem_cons.mp hm with rfl | hm
      · exact ⟨x, t, rfl⟩
      · exact h3 f hm
theorem ti_sortable {a : Addr} {vs : List Value} {k : Value → List Int} (h0 : 0 < vs.length) (hp : ∀ v ∈ vs, IsTI s.heap v (k v) ∧ k v ≠ []) (ha : ∀ o, s.heap.get? a = some o → o.cls ≠ .type "tuple") : SrtO.SortableO prog w A s a vs (ltT k) := by
  intro h' keep
  have hp' : ∀ v ∈ vs, IsTI h' v (k v) ∧ k v ≠ [] := fun v hm => ⟨(hp v hm).1.keeps fun b o e c => keep b o (fun z => by subst z; exact ha o e c) e, (hp v hm).2⟩
  obtain ⟨fs, h1, h2, h3⟩ := ti_firsts hp'
  refine ⟨tuples' true, fun Q E hq => ?_, ti_cmp fun v hm => (hp' v hm).1⟩
  refine PySem.W.kat_kind (T := .type "int") h1 (by omega) (fun f hm => ?_) (by rfl) ?_
  · obtain ⟨x, t, rfl⟩ := h3 f hm
    exact PySem.W.Looks.now
  · have e : (Value.type "int" != Value.type "tuple") = true := by first | decide +kernel | rfl | decide
    rw [e]
    exact hq
end
def rSrtT (K : PySem.W.Frag) : List V → Hp → VK → Prop := fun vs H Q => ∃ (a : Addr) (zs : List (Addr × List Int)), vs = [V.ref a] ∧ SqL K H a (zs.map fun z => V.ref z.1) ∧ (∀ z ∈ zs, z.2 ≠ [] ∧ SqT K H z.1 (z.2.map V.int)) ∧
  ∀ ys p, SrtO.Srtd (fun x y : Addr × List Int => HT.lexLt x.2 y.2) ys → SrtO.Stb (fun x y : Addr × List Int => HT.lexLt x.2 y.2) ys zs → H p = none → Q (.ref p) (upd H p (.lst (ys.map fun z => V.ref z.1)))
/-- the ints that stand there -/
def readTI (h : Heap) : Value → Addr × List Int
  | .ref a => (a, match h.get? a with
    | some o => match o.data with
      | .seq us _ => us.toList.map SrtO.iv
      | _ => []
    | none => [])
  | _ => (0, [])
theorem refs_of {zs : List (Addr × List Int)} : ∀ {us : List Value}, Vals (zs.map fun z => V.ref z.1) us → us = zs.map fun z => Value.ref z.1 := by
  induction zs with
  | nil => intro us r; cases r; rfl
  | cons z zs ih =>
    intro us r
    cases r with
    | cons r t => cases r; rw [ih t]; rfl
theorem of_refs : ∀ zs : List (Addr × List Int), Vals (zs.map fun z => V.ref z.1) (zs.map fun z => Value.ref z.1)
  | [] => .nil
  | z :: zs => .cons rfl (of_refs zs)
section
variable {X : Cx}
theorem cr_srtT : CallR X (.builtin "sorted") (rSrtT X.K) := by
  intro pins s σ H vs us Q I r h
  obtain ⟨a, zs, rfl, hs, hx, q⟩ := h
  obtain ⟨its, rv, hl, hz⟩ := I.list hs
  rw [Vals.ref1 r]
  have hits := refs_of rv
  have hp0 : ∀ z ∈ zs, readTI s.heap (.ref z.1) = z ∧ IsTI s.heap (.ref z.1) z.2 := fun z hzm => by
    obtain ⟨its2, r2, ⟨o, ho, hc, n, hd⟩, _⟩ := I.tuple (hx z hzm).2
    refine ⟨?_, z.1, o, its2, n, rfl, ho, hc, hd, r2.ints⟩
    unfold readTI
    simp only [ho, hd]
    rw [SrtO.iv_ints r2.ints]
  have hp : ∀ v ∈ its, IsTI s.heap v (readTI s.heap v).2 ∧ (readTI s.heap v).2 ≠ [] := fun v hv => by
    rw [hits] at hv
    obtain ⟨z, hzm, rfl⟩ := List.mem_map.mp hv
    rw [(hp0 z hzm).1]
    exact ⟨(hp0 z hzm).2, (hx z hzm).1⟩
  refine SrtO.sorted_ord (swoT fun v => (readTI s.heap v).2) hl.isList (by rw [← rv.length]; exact hz) (fun h2 h₁ a' ha kk => ?_) fun out h1 h2 => ?_
  · refine ti_sortable (s := { s with heap := h₁ }) (k := fun v => (readTI s.heap v).2) (by omega) (fun v hm => ⟨(hp v hm).1.keeps fun b o e _ => (kk b o e).2, (hp v hm).2⟩) fun o e => ?_
    have e' : some o = some (seqObj "list" its.toArray 0) := e.symm.trans ha
    cases e'
    intro c
    exact absurd (Value.type.inj c) (by decide)
  · obtain ⟨ep, he'⟩ := PyProof.Rows.sortedAll_at s.heap its out.toArray
    have ez : zs = its.map (readTI s.heap) := by
      rw [hits, List.map_map]
      exact (List.map_id zs).symm.trans (List.map_congr_left fun z hzm => (hp0 z hzm).1.symm)
    have hb : SrtO.Stb (fun x y : Addr × List Int => HT.lexLt x.2 y.2) (out.map (readTI s.heap)) zs := by
      rw [ez]
      exact SrtO.Stb.map (swoT fun z : Addr × List Int => z.2) (readTI s.heap) h2
    have eo : out = (out.map (readTI s.heap)).map fun z => Value.ref z.1 := by
      rw [List.map_map]
      refine (List.map_id out).symm.trans (List.map_congr_left fun v hv => ?_)
      have hv2 : v ∈ its := h2.perm.mem_iff.mp hv
      rw [hits] at hv2
      obtain ⟨z, _, rfl⟩ := List.mem_map.mp hv2
      rfl
    refine ⟨.ref _, upd H (s.heap.objs.size + 1) (.lst ((out.map (readTI s.heap)).map fun z => V.ref z.1)), I.laid (t' := s.toks) (fun _ _ => PyProof.Rows.sortedAll_old) (Nat.le_succ _) ⟨?_, out, ep, ?_, he'⟩, rfl, q _ _ (SrtO.srtd_map h1) hb (I.hok.fresh (Nat.le_succ _))⟩
    · rw [List.length_map, hb.len]
      simpa using hz
    · conv => rhs; rw [eo]
      exact of_refs _
end
/-! ### the sort by data -/
def ltB (x y : D) : Bool := match ltD x y with
  | some b => b
  | none => false
def insD (x : D) : List D → List D
  | [] => [x]
  | y :: ys => if ltB x y = true then x :: y :: ys else y :: insD x ys
/-- from the left, behind the equal ones -/
def isoD (l : List D) : List D := l.foldl (fun acc x => insD x acc) []
def isInt : D → Bool
  | .int _ => true
  | _ => false
def isStr : D → Bool
  | .str _ => true
  | _ => false
def isTI : D → Bool
  | .tup [] => false
  | .tup l => l.all isInt
  | _ => false
def sortD (l : List D) : Option (List D) := if (l.all isInt || l.all isStr || l.all isTI) = true then some (isoD l) else none
theorem isInt_all : ∀ {l : List D}, l.all isInt = true → ∃ ns : List Int, l = ns.map D.int
  | [], _ => ⟨[], rfl⟩
  | .int i :: l, h => by
    obtain ⟨ns, e⟩ := isInt_all (l := l) (by simpa [isInt] using h)
    exact ⟨i :: ns, by rw [e]; rfl⟩
  | .non :: l, h => by simp [isInt] at h
  | .bl _ :: l, h => by simp [isInt] at h
  | .str _ :: l, h => by simp [isInt] at h
  | .tup _ :: l, h => by simp [isInt] at h
  | .lst _ :: l, h => by simp [isInt] at h
  | .dk _ _ :: l, h => by simp [isInt] at h
  | .dt _ _ :: l, h => by simp [isInt] at h
  | .hd _ :: l, h => by simp [isInt] at h
  | .tx _ :: l, h => by simp [isInt] at h
theorem isStr_all : ∀ {l : List D}, l.all isStr = true → ∃ ns : List Str, l = ns.map D.str
  | [], _ => ⟨[], rfl⟩
  | .str i :: l, h => by
    obtain ⟨ns, e⟩ := isStr_all (l := l) (by simpa [isStr] using h)
    exact ⟨i :: ns, by rw [e]; rfl⟩
  | .non :: l, h => by simp [isStr] at h
  | .bl _ :: l, h => by simp [isStr] at h
  | .int _ :: l, h => by simp [isStr] at h
  | .tup _ :: l, h => by simp [isStr] at h
  | .lst _ :: l, h => by simp [isStr] at h
  | .dk _ _ :: l, h => by simp [isStr] at h
  | .dt _ _ :: l, h => by simp [isStr] at h
  | .hd _ :: l, h => by simp [isStr] at h
  | .tx _ :: l, h => by simp [isStr] at h
/-- the insertion by any order -/
def insG {α : Type} (lt : α → α → Bool) (x : α) : List α → List α
  | [] => [x]
  | y :: ys => if lt x y = true then x :: y :: ys else y :: insG lt x ys
def isoG {α : Type} (lt : α → α → Bool) (l : List α) : List α := l.foldl (fun acc x => insG lt x acc) []
section
variable {α : Type} {lt : α → α → Bool}
theorem insG_split (x : α) : ∀ l : List α, ∃ M N, l = M ++ N ∧ insG lt x l = M ++ x :: N ∧ (∀ y ∈ M, lt x y = false) ∧ (N = [] ∨ ∃ y N', N = y :: N' ∧ lt x y = true)
  | [] => ⟨[], [], rfl, rfl, fun _ h => absurd h (by simp), .inl rfl⟩
  | y :: ys => by
    unfold insG
    by_cases h : lt x y = true
    · rw [if_pos h]
      exact ⟨[], y :: ys, rfl, rfl, fun _ h => absurd h (by simp), .inr ⟨y, ys, rfl, h⟩⟩
    · rw [if_neg h]
      obtain ⟨M, N, e1, e2, h1, h2⟩ := insG_split x ys
      refine ⟨y :: M, N, by rw [e1]; rfl, by rw [e2]; rfl, fun z hz => ?_, h2⟩
      rcases List.mem_cons.mp hz with rfl | hz
      · cases q : lt x z with
        | true => exact absurd q h
        | false => rfl
      · exact h1 z hz
theorem insG_ok (O : SrtO.Swo lt) (x : α) {l O1 : List α} (hs : SrtO.Srtd lt l) (hb : SrtO.Stb lt l O1) : SrtO.Srtd lt (insG lt x l) ∧ SrtO.Stb lt (insG lt x l) (O1 ++ [x]) := by
  obtain ⟨M, N, e1, e2, h1, h2⟩ := insG_split (lt := lt) x l
  have h3 : ∀ y ∈ N, lt x y = true := by
    rcases h2 with rfl | ⟨y, N', rfl, hy⟩
    · exact fun y h => absurd h (by simp)
    · subst e1
      exact O.lt_all (SrtO.srtd_app.mp hs).2.1 hy
  rw [e2]
  subst e1
  exact ⟨SrtO.ins_srtd O hs h1 h3, SrtO.ins_stb O h3 hb⟩
theorem isoG_ok (O : SrtO.Swo lt) (l : List α) : SrtO.Srtd lt (isoG lt l) ∧ SrtO.Stb lt (isoG lt l) l := by
  have go : ∀ (l acc O1 : List α), SrtO.Srtd lt acc → SrtO.Stb lt acc O1 → SrtO.Srtd lt (l.foldl (fun acc x => insG lt x acc) acc) ∧ SrtO.Stb lt (l.foldl (fun acc x => insG lt x acc) acc) (O1 ++ l) := by
    intro l
    induction l with
    | nil => intro acc O1 h1 h2; exact ⟨h1, by simpa using h2⟩
    | cons x l ih =>
      intro acc O1 h1 h2
      obtain ⟨h3, h4⟩ := insG_ok O x h1 h2
      have := ih _ _ h3 h4
      simpa using this
  simpa [isoG] using go l [] [] List.Pairwise.nil (SrtO.Stb.refl [])
theorem isoG_uniq (O : SrtO.Swo lt) {l m : List α} (hs : SrtO.Srtd lt m) (hb : SrtO.Stb lt m l) : m = isoG lt l := by
  obtain ⟨h1, h2⟩ := isoG_ok O l
  refine SrtO.stb_uniq O hs h1 (hb.trans ⟨h2.perm.symm, fun x => (h2.cls x).symm⟩)
/-- where equal ones are the same, a rearrangement is enough -/
theorem stb_perm (hu : ∀ x y : α, lt x y = false → lt y x = false → x = y) (O : SrtO.Swo lt) {l m : List α} (h : l.Perm m) : SrtO.Stb lt l m := by
  refine ⟨h, fun x => ?_⟩
  have e : ∀ k : List α, k.filter (SrtO.eqv lt x) = List.replicate (k.filter (SrtO.eqv lt x)).length x := fun k => by
    refine List.eq_replicate_iff.mpr ⟨rfl, fun y hy => ?_⟩
    obtain ⟨h1, h2⟩ := SrtO.eqv_iff.mp (List.mem_filter.mp hy).2
    exact (hu x y h1 h2).symm
  rw [e l, e m, (h.filter _).length_eq]
theorem insG_map {β : Type} {lt' : β → β → Bool} (f : α → β) (hf : ∀ x y, lt' (f x) (f y) = lt x y) (x : α) : ∀ l : List α, insG lt' (f x) (l.map f) = (insG lt x l).map f
  | [] => rfl
  | y :: ys => by
    rw [List.map_cons]
    unfold insG
    rw [hf]
    by_cases h : lt x y = true
    · rw [if_pos h, if_pos h]; rfl
    · rw [if_neg h, if_neg h, insG_map f hf x ys]; rfl
theorem isoG_map {β : Type} {lt' : β → β → Bool} (f : α → β) (hf : ∀ x y, lt' (f x) (f y) = lt x y) (l : List α) : isoG lt' (l.map f) = (isoG lt l).map f := by
  have go : ∀ (l acc : List α), (l.map f).foldl (fun acc x => insG lt' x acc) (acc.map f) = (l.foldl (fun acc x => insG lt x acc) acc).map f := by
    intro l
    induction l with
    | nil => intro acc; rfl
    | cons x l ih =>
      intro acc
      rw [List.map_cons, List.foldl_cons, List.foldl_cons, insG_map f hf, ih]
  exact go l []
end
theorem insD_eq (x : D) : ∀ l, insD x l = insG ltB x l
  | [] => rfl
  | y :: ys => by unfold insD insG; rw [insD_eq x ys]
theorem isoD_eq (l : List D) : isoD l = isoG ltB l := by
  unfold isoD isoG
  congr 1
  funext acc x
  exact insD_eq x acc
theorem swoI : SrtO.Swo fun x y : Int => decide (x < y) := ⟨fun x y h => by simp at h ⊢; omega, fun x y z h1 h2 => by simp at h1 h2 ⊢; omega⟩
theorem isoI {ns ns' : List Int} (h1 : ns'.Perm ns) (h2 : ns'.Pairwise (· ≤ ·)) : isoD (ns.map D.int) = ns'.map D.int := by
  rw [isoD_eq, isoG_map (lt := fun x y : Int => decide (x < y)) D.int (fun x y => rfl)]
  congr 1
  exact (isoG_uniq swoI (h2.imp fun {x y} h => by simpa using h) (stb_perm (fun x y h1 h2 => by simp at h1 h2; omega) swoI h1)).symm
theorem swoS : SrtO.Swo fun x y : Str => decide (x.cps.toList < y.cps.toList) := by
  refine ⟨fun x y h => ?_, fun x y z h1 h2 => ?_⟩
  · simp only [decide_eq_true_eq, decide_eq_false_iff_not] at h ⊢
    exact List.lt_asymm h
  · simp only [decide_eq_false_iff_not, List.not_lt] at h1 h2 ⊢
    exact List.le_trans h1 h2
theorem sortedS_pw : ∀ {l : List Str}, sortedS l = true → l.Pairwise fun x y => decide (y.cps.toList < x.cps.toList) = false
  | [], _ => .nil
  | x :: r, h => by
    have h : risingS x r = true := h
    induction r generalizing x with
    | nil => exact List.pairwise_singleton _ _
    | cons y r ih =>
      obtain ⟨h1, h2⟩ := Bool.and_eq_true_iff.mp (show (!ltCps y.cps.toList x.cps.toList && risingS y r) = true from h)
      have hy := ih y h2 h2
      have h1 : decide (y.cps.toList < x.cps.toList) = false := by rw [← ltCps_eq]; simpa using h1
      refine List.pairwise_cons.mpr ⟨fun z hz => ?_, hy⟩
      rcases List.mem_cons.mp hz with rfl | hz
      · exact h1
      · exact swoS.tr x y z h1 ((List.pairwise_cons.mp hy).1 z hz)
theorem isoS {ns ns' : List Str} (h1 : ns'.Perm ns) (h2 : sortedS ns' = true) : isoD (ns.map D.str) = ns'.map D.str := by
  rw [isoD_eq, isoG_map (lt := fun x y : Str => decide (x.cps.toList < y.cps.toList)) D.str (fun x y => rfl)]
  congr 1
  refine (isoG_uniq swoS (sortedS_pw h2) (stb_perm (fun x y h1 h2 => ?_) swoS h1)).symm
  simp only [decide_eq_false_iff_not, List.not_lt] at h1 h2
  have := List.le_antisymm h2 h1
  cases x; cases y
  simp only [Str.mk.injEq]
  exact Array.toList_inj.mp this
def rSrtS (K : PySem.W.Frag) : List V → Hp → VK → Prop := fun vs H Q => ∃ (a : Addr) (xs : List Str), vs = [V.ref a] ∧ SqL K H a (xs.map V.str) ∧
  ∀ (ys : List Str) (p : Addr), ys.Perm xs → sortedS ys = true → H p = none → Q (.ref p) (upd H p (.lst (ys.map V.str)))
theorem cr_srtS {X : Cx} : CallR X (.builtin "sorted") (rSrtS X.K) := by
  intro pins s σ H vs us Q I r h
  obtain ⟨a, xs, rfl, hs, q⟩ := h
  obtain ⟨its, rv, hl, hz⟩ := I.list hs
  rw [Vals.ref1 r]
  have hlen0 := rv.length
  rw [List.length_map] at hlen0 hz
  refine PyProof.Rows.sorted_strsAny hl.isList rv.strs (by rw [← hlen0]; exact hz) fun out ys h1 h2 h3 => ?_
  obtain ⟨ep, he'⟩ := PyProof.Rows.sortedAll_at s.heap its out
  have hlen : (ys.map V.str).length ≤ sizeLine := by rw [List.length_map, h2.length_eq]; exact hz
  exact ⟨.ref _, upd H (s.heap.objs.size + 1) (.lst (ys.map V.str)), I.laid (t' := s.toks) (fun _ _ => PyProof.Rows.sortedAll_old) (Nat.le_succ _) ⟨hlen, out.toList, ep, vals_of_strs h1, he'⟩, rfl, q ys _ h2 h3 (I.hok.fresh (Nat.le_succ _))⟩
abbrev rSrt (K : PySem.W.Frag) : List V → Hp → VK → Prop := fun vs H Q => rSortedI K vs H Q ∨ (rSrtS K vs H Q ∨ rSrtT K vs H Q)
theorem cr_srt {X : Cx} : CallR X (.builtin "sorted") (rSrt X.K) := fun pins s σ H vs us Q I r h => h.elim (cr_sortedI pins s σ H vs us Q I r) fun h => h.elim (cr_srtS pins s σ H vs us Q I r) (cr_srtT pins s σ H vs us Q I r)
def sortedM (ds : List D) : Option D := match ds with
  | [.lst l] => (sortD l).map D.lst
  | _ => none
theorem isTI_ints {d : D} (h : isTI d = true) : ∃ ns : List Int, ns ≠ [] ∧ d = .tup (ns.map D.int) := by
  unfold isTI at h
  split at h
  · cases h
  · rename_i l hl
    obtain ⟨ns, rfl⟩ := isInt_all h
    exact ⟨ns, fun e => hl (by rw [e]; rfl), rfl⟩
  · cases h
theorem isTI_all : ∀ {l : List D}, l.all isTI = true → ∃ ns : List (List Int), (∀ n ∈ ns, n ≠ []) ∧ l = ns.map fun n => D.tup (n.map D.int)
  | [], _ => ⟨[], fun _ h => absurd h (by simp), rfl⟩
  | d :: l, h => by
    rw [List.all_cons, Bool.and_eq_true] at h
    obtain ⟨n, h1, rfl⟩ := isTI_ints h.1
    obtain ⟨ns, h2, rfl⟩ := isTI_all h.2
    exact ⟨n :: ns, fun m hm => (List.mem_cons.mp hm).elim (fun e => by rw [e]; exact h1) (h2 m), rfl⟩
theorem ltB_ti (x y : List Int) : ltB (.tup (x.map D.int)) (.tup (y.map D.int)) = HT.lexLt x y := by
  unfold ltB ltD
  simp only [tupInts_map]
theorem rpA_ti {K : PySem.W.Frag} {F : Fz} : ∀ {xs : List V} {ns : List (List Int)}, RpA K F xs (ns.map fun n => D.tup (n.map D.int)) → ∃ zs : List (Addr × List Int), xs = zs.map (fun z => V.ref z.1) ∧ ns = zs.map (·.2) ∧ ∀ z ∈ zs, SqT K F z.1 (z.2.map V.int) ∧ Rp K F (.ref z.1) (.tup (z.2.map D.int))
  | _, [], h => by cases h; exact ⟨[], rfl, rfl, fun _ h => absurd h (by simp)⟩
  | _, n :: ns, h => by
    cases h with
    | cons r t =>
      obtain ⟨zs, rfl, rfl, h3⟩ := rpA_ti t
      obtain ⟨a, vs, rfl, h4, h5, h6⟩ := rp_tup r
      have := h6.ints
      subst this
      refine ⟨(a, n) :: zs, rfl, rfl, fun z hz => ?_⟩
      rcases List.mem_cons.mp hz with rfl | hz
      · exact ⟨h4, r⟩
      · exact h3 z hz
theorem rpA_of_mem {K : PySem.W.Frag} {F : Fz} : ∀ {zs : List (Addr × List Int)}, (∀ z ∈ zs, Rp K F (.ref z.1) (.tup (z.2.map D.int))) → RpA K F (zs.map fun z => V.ref z.1) (zs.map fun z => D.tup (z.2.map D.int))
  | [], _ => .nil
  | z :: zs, h => .cons (h z List.mem_cons_self) (rpA_of_mem fun y hy => h y (List.mem_cons_of_mem _ hy))
theorem sortedM_ok {K : PySem.W.Frag} : CallD K (rSrt K) sortedM := fun F H g vs ds d s r rv e Q q => by
  unfold sortedM at e
  split at e
  · rename_i l
    obtain ⟨m, e2, rfl⟩ := Option.map_eq_some_iff.mp e
    cases rv with
    | cons rl t =>
      cases t
      obtain ⟨a, xs, rfl, h1, h2, h3⟩ := rp_lst rl
      unfold sortD at e2
      split at e2
      · rename_i hk
        cases e2
        simp only [Bool.or_eq_true] at hk
        have fin : ∀ {ys : List V} {p : Addr}, H p = none → ys.length = xs.length → RpA K F ys (isoD l) → Q (.ref p) (upd H p (.lst ys)) := fun {ys p} hp hl hr =>
          q _ _ _ (.alloc s r hp) (rp_new_lst (s.free hp) (by rw [← hr.length, hl]; exact h2) hr)
        rcases hk with (hk | hk) | hk
        · obtain ⟨ns, rfl⟩ := isInt_all hk
          have := h3.ints
          subst this
          refine .inl ⟨a, ns, rfl, sqL_mono s h1, fun ns' p p1 p2 hp => fin hp (by simp [p1.length_eq]) ?_⟩
          rw [isoI p1 p2]
          exact RpA.ofInts ns'
        · obtain ⟨ns, rfl⟩ := isStr_all hk
          have e3 := h3.strs
          subst e3
          refine .inr (.inl ⟨a, ns, rfl, sqL_mono s h1, fun ns' p p1 p2 hp => fin hp (by simp [p1.length_eq]) ?_⟩)
          rw [isoS p1 p2]
          refine RpA.ofStrs ns' fun x hx => ?_
          have hx2 := p1.mem_iff.mp hx
          obtain ⟨i, hi⟩ := List.getElem?_of_mem hx2
          obtain ⟨v, _, hv⟩ := h3.get (i := i) (d := .str x) (by rw [List.getElem?_map, hi]; rfl)
          exact (rp_str hv).2
        · obtain ⟨ns, hne, rfl⟩ := isTI_all hk
          obtain ⟨zs, rfl, rfl, hz⟩ := rpA_ti h3
          refine .inr (.inr ⟨a, zs, rfl, sqL_mono s h1, fun z hzm => ⟨hne _ (List.mem_map_of_mem hzm), sqT_mono s (hz z hzm).1⟩, fun ys p p1 p2 hp => fin hp (by simp [p2.len]) ?_⟩)
          have e4 : isoD ((zs.map (·.2)).map fun n => D.tup (n.map D.int)) = ys.map fun z => D.tup (z.2.map D.int) := by
            rw [List.map_map, isoD_eq]
            have := isoG_map (lt := fun x y : Addr × List Int => HT.lexLt x.2 y.2) (lt' := ltB) (fun z : Addr × List Int => D.tup (z.2.map D.int)) (fun x y => ltB_ti x.2 y.2) zs
            refine Eq.trans this ?_
            rw [← isoG_uniq (swoT fun z : Addr × List Int => z.2) p1 p2]
          rw [e4]
          exact rpA_of_mem fun z hz2 => (hz z (p2.perm.mem_iff.mp hz2)).2
      · cases e2
  · cases e
section
variable {X : Cx} {e : Expr} {fs : EA} {p pos : Pos}
theorem pd_sorted (hm : X.mg "sorted" = none) (ha : PDA X [e] fs) (hg : Gl X "sorted" := by rfl) (he : starEach [e] X.env = (false, eval e X.env) :: starEach [] X.env := by rfl) : PD X (.Call (.Name "sorted" p) [e] [] pos) (eBi sortedM fs) :=
  pd_biD cr_srt sortedM_ok hm ha (by decide +kernel) hg (by decide) (by decide) he (by rfl)
end
end PD
end
section
set_option Elab.async false
set_option linter.all false
set_option maxRecDepth 100000
set_option maxHeartbeats 4000000
set_option autoImplicit false
namespace PD
open PySem PySem.Spec L2
open PyProof.Rows hiding St
variable [Live]

/-! ### two clauses -/
def lc2L (bd : B) (t : T) (it1 : EA) (vs1 : List Nat) (bd1 : B) (t1 : T) (e : E) (ρ : Rho) : List D → M (List D)
  | [] => mr []
  | d :: ds => match bd d ρ with
    | none => mz
    | some ρ' => mb (t ρ') fun b => if b = true then mb (it1 ρ') fun ds1 => mb (lcL bd1 t1 e (wipeR ρ' vs1) ds1) fun xs => mb (lc2L bd t it1 vs1 bd1 t1 e ρ ds) fun ys => mr (xs ++ ys) else lc2L bd t it1 vs1 bd1 t1 e ρ ds
def eLc2A (vs vs1 : List Nat) (it : EA) (bd : B) (t : T) (it1 : EA) (bd1 : B) (t1 : T) (e : E) : EA := fun ρ => mb (it ρ) fun ds => mb (lc2L bd t it1 vs1 bd1 t1 e (wipeR ρ vs) ds) fun xs => if xs.length ≤ sizeLine then mr xs else mz
/-- the reading of an iterable, in one form -/
def tIF (K : PySem.W.Frag) (f : EA) : TI := fun σ H R => ∃ F ρ g ds g', PreE K F H g ρ σ ∧ f ρ g = some (ds, g') ∧ ∀ J H' F', Stp K g g' F F' H H' → ItS K J F'.h F' ds → R J H'
theorem PDI.can {X : Cx} {tg e : Expr} {f : EA} (h : PDI X tg e f) : PI X tg e (tIF X.K f) := by
  obtain ⟨wi, hw, k⟩ := h
  exact ⟨fun pins s σ H R I ⟨F, ρ, g, ds, g', pre, e, q⟩ => hw.run pins s σ H R I (k σ H F ρ g pre ds g' e R q)⟩
def both (F W : Hp) : Hp := fun a => match F a with
  | some o => some o
  | none => W a
section
variable {X : Cx} {pos : Pos} {elt tg iter tg1 iter1 : Expr} {ifs ifs1 : List Expr} {scope : Scope} {it it1 : EA} {bd bd1 : B} {t t1 : T} {f : E} {sl sl1 : List Nat}
end
end PD
end
section
set_option Elab.async false
set_option linter.all false
set_option maxRecDepth 100000
set_option maxHeartbeats 4000000
set_option autoImplicit false
namespace PD
open PySem PySem.Spec L2
open PyProof.Rows hiding St
variable [Live]

/-! ### new dicts -/
abbrev EK := Rho → M (List Key × List D)
def NewK (K : PySem.W.Frag) (F : Fz) (H : Hp) (g g' : G) (ks : List Key) (ds : List D) (Q : VK) : Prop := ∀ p H' F' kvs, Stp K g g' F F' H H' → H p = none → F' p = none → p ∉ F'.mu → H' p = some (.dK kvs) → kvs.length ≤ sizeLine → kvs.map (·.1) = ks → ks.Nodup → RpA K F' (kvs.map (·.2)) ds → Q (.ref p) H'
def PK (X : Cx) (e : Expr) (f : EK) : Prop := ∃ t, PE X e t ∧ ∀ σ H F ρ g, PreE X.K F H g ρ σ → ∀ r g', f ρ g = some (r, g') → ∀ Q : VK, NewK X.K F H g g' r.1 r.2 Q → t σ H Q
def eKd (f : EK) : E := fun ρ => mb (f ρ) fun r => mr (.dk r.1 r.2)
def vK (f : EK) : EV := fun ρ => mb (f ρ) fun r => mr (.ok r.1 r.2)
/-- it is frozen at once -/
theorem NewK.frz {K : PySem.W.Frag} {F : Fz} {H : Hp} {g g' : G} {ks : List Key} {ds : List D} {Q : VK} (q : ∀ v H' F', Stp K g g' F F' H H' → Rp K F' v (.dk ks ds) → Q v H') : NewK K F H g g' ks ds Q := fun p H' F' kvs s hp hF hg hH hz hk _ r => by
  subst hk
  exact q (.ref p) H' (F'.upd p (.dK kvs)) (s.frz hp hF hg hH) (.dk (.inl upd_same) (r.mono (.upd hF)))
section
variable {X : Cx} {e : Expr} {fk : EK} {pos : Pos}
/-- x = a value that may be a new thing of one's own -/
def sSetV (i : Nat) (f : EV) : S := fun ρ => mb (f ρ) fun lv => mr (.nx (ρ.set i (some lv)))
theorem pds_setV (i : Nat) {x : Str} {fv : EV} {pos' : Pos} (hN : X.N.Nodup) (h : PV X e fv) (hi : X.N[i]? = some x := by rfl) (hx : Loc X.env.scope x := by first | exact Or.inl rfl | exact Or.inr rfl)
    (hs : swapsWith e (some (.Name x pos')) pos.line X.env = pure false := by rfl) (hf : X.fn x = true ∨ X.env.scope.names.lookup x = some .local := by first | exact .inl rfl | exact .inr rfl | assumption) :
    PDS X (.Assign [.Name x pos'] e pos) (sSetV i fv) := by
  obtain ⟨t, p, k⟩ := h
  refine ⟨_, ps_set hN hi hx p hs hf, fun en σ H F ρ g pre fl g' e De post => ?_⟩
  obtain ⟨lv, g1, e1, e⟩ := mb_inv e
  obtain ⟨rfl, rfl⟩ := mr_inv e
  refine k σ H F ρ g pre.e lv _ e1 _ fun v H1 F1 s1 ok fr => ?_
  exact post _ H1 F1 (par_sem (vs := [v]) (lvs := [lv]) pre s1 (.cons ok fr (fun o p ep => by subst ep; exact ok.there o) s1.mono .nil) [i])
end
/-! ### {k: v for ..} -/
theorem putD_keys {k : Key} {d : D} : ∀ {ks : List Key} {l : List D}, ks.length = l.length → (k ∈ ks ∧ (putD ks l k d).1 = ks) ∨ (k ∉ ks ∧ (putD ks l k d).1 = ks ++ [k])
  | [], [], _ => .inr ⟨by simp, rfl⟩
  | k' :: ks, d' :: l, h => by
    have ih := putD_keys (k := k) (d := d) (ks := ks) (l := l) (by simpa using h)
    unfold putD
    by_cases e : k' = k
    · subst e; exact .inl ⟨List.mem_cons_self, by rw [if_pos rfl]⟩
    · rw [if_neg e]
      rcases ih with ⟨h1, h2⟩ | ⟨h1, h2⟩
      · exact .inl ⟨List.mem_cons_of_mem _ h1, by rw [h2]⟩
      · exact .inr ⟨fun z => (List.mem_cons.mp z).elim (fun z => e z.symm) h1, by rw [h2]; rfl⟩
theorem putD_nodup {k : Key} {d : D} {ks : List Key} {l : List D} (h : ks.length = l.length) (n : ks.Nodup) : (putD ks l k d).1.Nodup := by
  rcases putD_keys (k := k) (d := d) h with ⟨h1, h2⟩ | ⟨h1, h2⟩
  · rw [h2]; exact n
  · rw [h2]
    refine List.nodup_append.mpr ⟨n, by simp, fun a ha b hb e => h1 ?_⟩
    rw [List.mem_singleton.mp hb] at e
    rw [← e]; exact ha
theorem putD_len {k : Key} {d : D} : ∀ {ks : List Key} {l : List D}, ks.length = l.length → (putD ks l k d).1.length = (putD ks l k d).2.length
  | [], [], _ => rfl
  | k' :: ks, d' :: l, h => by
    have ih := putD_len (k := k) (d := d) (ks := ks) (l := l) (by simpa using h)
    unfold putD
    by_cases e : k' = k
    · simp only [if_pos e]; simpa using h
    · simp only [if_neg e, List.length_cons, ih]
def dcL (bd : B) (t : T) (k v : E) (ρ : Rho) : List Key × List D → List D → M (List Key × List D)
  | acc, [] => mr acc
  | acc, d :: ds => match bd d ρ with
    | none => mz
    | some ρ' => mb (t ρ') fun b => if b = true then mb (k ρ') fun y => mb (v ρ') fun x => match keyD y with
        | some kk => if acc.1.length < sizeLine then dcL bd t k v ρ (putD acc.1 acc.2 kk x) ds else mz
        | none => mz
      else dcL bd t k v ρ acc ds
def eDcA (vs : List Nat) (it : EA) (bd : B) (t : T) (k v : E) : EK := fun ρ => mb (it ρ) fun ds => dcL bd t k v (wipeR ρ vs) ([], []) ds
section
variable {X : Cx} {pos : Pos} {kx vx tg iter : Expr} {ifs : List Expr} {scope : Scope} {it : EA} {bd : B} {t : T} {fk fv : E} {sl : List Nat}
end
/-! ### d.update(e) -/
def mergeD : List Key × List D → List Key → List D → List Key × List D
  | acc, k :: ks, d :: l => mergeD (putD acc.1 acc.2 k d) ks l
  | acc, _, _ => acc
theorem mergeD_ok {K : PySem.W.Frag} {F : Fz} : ∀ {more kvs : List (Key × V)} {l m : List D}, (kvs.map (·.1)).Nodup → RpA K F (kvs.map (·.2)) l → RpA K F (more.map (·.2)) m →
    (mergeK kvs more).map (·.1) = (mergeD (kvs.map (·.1), l) (more.map (·.1)) m).1 ∧ RpA K F ((mergeK kvs more).map (·.2)) (mergeD (kvs.map (·.1), l) (more.map (·.1)) m).2
  | [], kvs, l, m, _, r, rm => by cases rm; exact ⟨rfl, r⟩
  | (k, v) :: more, kvs, l, m, n, r, rm => by
    cases rm with
    | cons r0 rr =>
      rename_i d ds
      obtain ⟨q1, q2⟩ := putD_ok (k := k) r0 n r
      have hln : (kvs.map (·.1)).length = l.length := by rw [List.length_map, ← r.length, List.length_map]
      have ih := mergeD_ok (more := more) (kvs := putK kvs k v) (l := (putD (kvs.map (·.1)) l k d).2) (m := ds) (by rw [q1]; exact putD_nodup hln n) q2 rr
      rw [q1] at ih
      exact ih
def okAt (ρ : Rho) (i : Nat) : Option (List Key × List D) := match ρ[i]? with
  | some (some (.ok ks l)) => some (ks, l)
  | _ => none
def sUpdate (i : Nat) (f : EK) : S := fun ρ => mb (f ρ) fun m => ml ((okAt ρ i).bind fun r => if r.1.Nodup ∧ r.1.length + m.1.length ≤ sizeLine then some (.nx (ρ.set i (some (.ok (mergeD r m.1 m.2).1 (mergeD r m.1 m.2).2)))) else none)
section
variable {X : Cx} {e : Expr} {fk : EK} {x : Str} {p ap cp pos : Pos}
end
end PD
end
section
set_option Elab.async false
set_option linter.all false
set_option maxRecDepth 100000
set_option maxHeartbeats 4000000
set_option autoImplicit false
namespace PD
open PySem PySem.Spec L2
open PyProof.Rows hiding St
variable [Live]

/-! ### sep.join(texts) -/
def cs (x : Str) : List Nat := x.cps.toList
def ofCs (l : List Nat) : Str := ⟨l.toArray⟩
theorem ofCs_cs (x : Str) : ofCs (cs x) = x := by cases x; rfl
theorem cs_ofCs (l : List Nat) : cs (ofCs l) = l := rfl
theorem cs_inj {x y : Str} (h : cs x = cs y) : x = y := by rw [← ofCs_cs x, h, ofCs_cs]
theorem cs_len (x : Str) : (cs x).length = x.length := by simp [cs, Str.length]
def joinC (s : List Nat) : List (List Nat) → List Nat
  | [] => []
  | [p] => p
  | p :: q :: r => p ++ (s ++ joinC s (q :: r))
theorem joinC_mem {s : List Nat} {c : Nat} : ∀ {l : List (List Nat)}, c ∈ joinC s l → c ∈ s ∨ ∃ p ∈ l, c ∈ p
  | [], h => absurd h (by simp [joinC])
  | [p], h => .inr ⟨p, List.mem_singleton.mpr rfl, h⟩
  | p :: q :: r, h => by
    rcases List.mem_append.mp (show c ∈ p ++ (s ++ joinC s (q :: r)) from h) with h | h
    · exact .inr ⟨p, List.mem_cons_self, h⟩
    · rcases List.mem_append.mp h with h | h
      · exact .inl h
      · rcases joinC_mem h with h | ⟨z, hz, h⟩
        · exact .inl h
        · exact .inr ⟨z, List.mem_cons_of_mem _ hz, h⟩
theorem joinC_len {s : List Nat} : ∀ {l : List (List Nat)}, (joinC s l).length ≤ (l.map List.length).sum + l.length * s.length
  | [] => by simp [joinC]
  | [p] => by simp [joinC]
  | p :: q :: r => by
    have := joinC_len (s := s) (l := q :: r)
    show (p ++ (s ++ joinC s (q :: r))).length ≤ _
    simp only [List.length_append, List.map_cons, List.sum_cons, List.length_cons, Nat.add_mul, Nat.one_mul] at this ⊢
    omega
theorem join_cs (y : Str) : ∀ parts : List Str, cs (Str.join y parts) = joinC (cs y) (parts.map cs)
  | [] => rfl
  | [_] => rfl
  | x :: z :: r => by
    have e : ∀ a b : Str, cs (a ++ b) = cs a ++ cs b := fun a b => by
      show (a.cps ++ b.cps).toList = _
      simp [cs]
    show cs (x ++ y ++ Str.join y (z :: r)) = cs x ++ (cs y ++ joinC (cs y) ((z :: r).map cs))
    rw [e, e, join_cs y (z :: r), List.append_assoc]
def strsD : List D → Option (List Str)
  | [] => some []
  | .str x :: l => (strsD l).map (x :: ·)
  | _ :: _ => none
theorem strsD_ok : ∀ {l : List D} {xs : List Str}, strsD l = some xs → l = xs.map D.str
  | [], xs, h => by cases h; rfl
  | .str i :: l, ns, h => by
    obtain ⟨ms, h1, rfl⟩ := Option.map_eq_some_iff.mp h
    rw [strsD_ok h1]; rfl
  | .non :: l, ns, h => by cases h
  | .bl _ :: l, ns, h => by cases h
  | .int _ :: l, ns, h => by cases h
  | .tup _ :: l, ns, h => by cases h
  | .lst _ :: l, ns, h => by cases h
  | .dk _ _ :: l, ns, h => by cases h
  | .dt _ _ :: l, ns, h => by cases h
  | .hd _ :: l, ns, h => by cases h
  | .tx _ :: l, ns, h => by cases h
theorem strsD_map : ∀ xs : List Str, strsD (xs.map D.str) = some xs
  | [] => rfl
  | x :: xs => by simp [strsD, strsD_map xs]
def joinD (x y : D) : Option D := match x, y with
  | .str a, .lst l => (strsD l).bind fun xs => if (xs.map (·.length)).sum + xs.length * a.length ≤ sizeLine then some (.str (ofCs (joinC (cs a) (xs.map cs)))) else none
  | .str a, .tup l => (strsD l).bind fun xs => if (xs.map (·.length)).sum + xs.length * a.length ≤ sizeLine then some (.str (ofCs (joinC (cs a) (xs.map cs)))) else none
  | _, _ => none
def eJoin (a b : E) : E := fun ρ => mb (a ρ) fun x => mb (b ρ) fun y => ml (joinD x y)
theorem rp_strs {K : PySem.W.Frag} {F : Fz} : ∀ {xs : List V} {ys : List Str}, RpA K F xs (ys.map D.str) → ∀ y ∈ ys, sOk y = true
  | _, [], _, y, h => absurd h (by simp)
  | _, y :: ys, .cons r t, z, h => by
    rcases List.mem_cons.mp h with rfl | h
    · exact (rp_str r).2
    · exact rp_strs t z h
theorem sOk_join {a : Str} {ys : List Str} (ha : sOk a = true) (hy : ∀ y ∈ ys, sOk y = true) (hz : (ys.map (·.length)).sum + ys.length * a.length ≤ sizeLine) : sOk (ofCs (joinC (cs a) (ys.map cs))) = true := by
  refine sOk_mk (strOk_iff.mpr fun c hc => ?_) ?_
  · rcases joinC_mem (show c ∈ joinC (cs a) (ys.map cs) from hc) with h | ⟨p, hp, h⟩
    · exact strOk_iff.mp (sOk_ok ha) c h
    · obtain ⟨y, hy1, rfl⟩ := List.mem_map.mp hp
      exact strOk_iff.mp (sOk_ok (hy y hy1)) c h
  · rw [← cs_len, cs_ofCs]
    refine Nat.le_trans joinC_len ?_
    rw [List.map_map, List.length_map, cs_len]
    have e : ys.map (List.length ∘ cs) = ys.map (·.length) := List.map_congr_left fun y _ => cs_len y
    rw [e]
    exact hz
section
variable {X : Cx} {a e : Expr} {fa f : E} {ap cp pos : Pos}
theorem pd_join (ha : PD X a fa) (he : PD X e f) (hs : starEach [e] X.env = [(false, eval e X.env)] := by rfl) (hbase : attributeBase a "join" X.env (eval a X.env) = eval a X.env := by rfl) (hline : (ap.endLine == cp.line) = true := by rfl) :
    PD X (.Call (.Attribute a "join" ap) [e] [] cp) (eJoin fa f) := by
  obtain ⟨ta, pa, ka⟩ := ha
  obtain ⟨tb, pb, kb⟩ := he
  refine ⟨_, pe_join pa pb hs hbase hline, fun σ H F ρ g pre d g' e Q q => ?_⟩
  obtain ⟨dx, g1, e1, e⟩ := mb_inv e
  obtain ⟨dy, g2, e2, e⟩ := mb_inv e
  obtain ⟨e3, rfl⟩ := ml_inv e
  refine ka σ H F ρ g pre dx g1 e1 _ fun x H1 F1 s1 r1 => ?_
  have go : ∀ (a : Str) (l : List D), dx = .str a → (dy = .lst l ∨ dy = .tup l) → ((strsD l).bind fun xs => if (xs.map (·.length)).sum + xs.length * a.length ≤ sizeLine then some (D.str (ofCs (joinC (cs a) (xs.map cs)))) else none) = some d →
      (∃ a, x = .str a) ∧ tb σ H1 fun y H2 => ∃ a p, ∃ ys : List Str, x = .str a ∧ [y] = [V.ref p] ∧ (SqL X.K H2 p (ys.map V.str) ∨ SqT X.K H2 p (ys.map V.str)) ∧ (ys.map (·.length)).sum + ys.length * a.length ≤ 16777216 ∧ Q (.str (Txt.join a ys)) H2 := by
    intro a l h1 h2 h3
    subst h1
    obtain ⟨rfl, ha⟩ := rp_str r1
    obtain ⟨ys, h4, h5⟩ := Option.bind_eq_some_iff.mp h3
    have h6 := strsD_ok h4
    subst h6
    split at h5
    · rename_i hz
      cases h5
      refine ⟨⟨a, rfl⟩, kb σ H1 F1 ρ g1 (pre.step s1) dy g' e2 _ fun y H2 F2 s2 r2 => ?_⟩
      have hz2 : (ys.map (·.length)).sum + ys.length * a.length ≤ 16777216 := by rw [sizeLine_eq] at hz; exact hz
      have fin : ∀ (hy : ∀ y ∈ ys, sOk y = true), Q (.str (Txt.join a ys)) H2 := fun hy => by
        have e5 : Txt.join a ys = ofCs (joinC (cs a) (ys.map cs)) := cs_inj (by
          have : Txt.join a ys = Str.join a ys := TL.join_eq a ys
          rw [this, join_cs, cs_ofCs])
        rw [e5]
        exact q _ H2 F2 (s1.trans s2) (.str _ (sOk_join ha hy hz))
      rcases h2 with rfl | rfl
      · obtain ⟨p, xs, rfl, k1, k2, k3⟩ := rp_lst r2
        have hy := rp_strs k3
        rw [k3.strs] at k1
        exact ⟨a, p, ys, rfl, rfl, .inl (sqL_mono s2.sub k1), hz2, fin hy⟩
      · obtain ⟨p, xs, rfl, k1, k2, k3⟩ := rp_tup r2
        have hy := rp_strs k3
        rw [k3.strs] at k1
        exact ⟨a, p, ys, rfl, rfl, .inr (sqT_mono s2.sub k1), hz2, fin hy⟩
    · cases h5
  unfold joinD at e3
  split at e3
  · exact go _ _ rfl (.inl rfl) e3
  · exact go _ _ rfl (.inr rfl) e3
  · cases e3
end
/-! ### l.index(x) -/
def indexL (y : D) : List D → Option Nat
  | [] => none
  | x :: l => if eqq x y = true then some 0 else (indexL y l).map (· + 1)
def indexD (x y : D) : Option D := match x with
  | .lst l => if (cmpOk (.lst l) && cmpOk y) = true then (indexL y l).map (fun n => D.int (Int.ofNat n)) else none
  | _ => none
def eIndex (a b : E) : E := fun ρ => mb (a ρ) fun x => mb (b ρ) fun y => ml (indexD x y)
section
variable {X : Cx} {a e : Expr} {fa f : E} {ap cp pos : Pos} {k : Nat}
end
end PD
end
section
set_option Elab.async false
set_option linter.all false
set_option maxRecDepth 100000
set_option maxHeartbeats 4000000
set_option autoImplicit false
namespace PD
open PySem PySem.Spec L2
open PyProof.Rows hiding St
variable [Live]

/-! ### {x for ..}: sets of any kind of members -/
section
variable {X : Cx} {α : Type}
end
end PD
end
section
set_option Elab.async false
set_option linter.all false
set_option maxRecDepth 100000
set_option maxHeartbeats 4000000
set_option autoImplicit false
namespace PD
open PySem PySem.Spec L2
open PyProof.Rows hiding St
variable [Live]

/-! ### sets of ints -/
abbrev ES := Rho → M (List Int)
def scA (vs : List Nat) (it : EA) (bd : B) (t : T) (e : E) : ES := fun ρ => mb (it ρ) fun ds => mb (lcL bd t e (wipeR ρ vs) ds) fun xs => ml ((tupInts xs).bind fun ns => if ns.length < 64 then some ns else none)
/-- the members, each once, rising -/
def insU (x : Int) : List Int → List Int
  | [] => [x]
  | y :: ys => if x < y then x :: y :: ys else if x = y then y :: ys else y :: insU x ys
def sortU (l : List Int) : List Int := l.foldr insU []
def eSrtSet (f : ES) : E := fun ρ => mb (f ρ) fun ns => if ns.length < 64 then mr (.lst ((sortU ns).map D.int)) else mz
section
variable {X : Cx} {pos : Pos} {elt tg iter : Expr} {ifs : List Expr} {scope : Scope} {it : EA} {bd : B} {t : T} {f : E} {sl : List Nat}
variable {e : Expr} {fs : ES} {p : Pos}
end
end PD
end
section
set_option Elab.async false
set_option linter.all false
set_option maxRecDepth 100000
set_option maxHeartbeats 4000000
set_option autoImplicit false
namespace PD
open PySem PySem.Spec L2
open PyProof.Rows hiding St
variable [Live]

/-! ### calls by names -/
/-- pm: for each parameter the place of its value among those given, places first -/
def perm {α : Type} (pm : List Nat) (d : α) (l : List α) : List α := pm.map fun j => l.getD j d
structure FnDK (P : Program) (w : World) (K : PySem.W.Frag) (mg : Str → Option Value) (base : Heap) (k : Nat) (x : Str) (n : Nat) (f : List D → M D) (ks : List Str) (pm : List Nat) : Prop where
  ex : ∃ (a : Addr) (fd : FuncData) (ps : List Str), mg x = some (.ref a) ∧ PySem.W.keepIn K (.ref a) = true ∧ FnG P w K mg base CX0 k a fd ps (spD K n f) ∧ ps.length = n ∧ pm.length = n ∧
    ∀ (s : Shared) (us ws : List Value), us.length = n - ks.length → ws.length = ks.length → BindsTo s fd ⟨us, ks.zip ws⟩ (ps.zip (perm pm .none (us ++ ws)))
def eCallK (f : List D → M D) (pm : List Nat) (as ks : EA) : E := fun ρ => mb (as ρ) fun ds => mb (ks ρ) fun es => f (perm pm .non (ds ++ es))
section
variable {X : Cx} {e : Expr} {es : List Expr} {f : E} {fs fk : EA} {kws : List Keyword} {nm : Option Str} {kpos p pos : Pos} {x : Str} {k n : Nat} {ks : List Str} {pm : List Nat} {F : List D → M D}
end
end PD
end
section
set_option Elab.async false
set_option linter.all false
set_option maxRecDepth 100000
set_option maxHeartbeats 4000000
set_option autoImplicit false
namespace PD
open PySem PySem.Spec L2
open PyProof.Rows hiding St
variable [Live]

/-! ### new things of the store -/
theorem Stp.share {K : PySem.W.Frag} {g g' : G} {F F' : Fz} {H H' : Hp} {p : Addr} {m : MO} (s : Stp K g g' F F' H H') (hp : H p = none) (hF : F' p = none) (hm : p ∉ F'.mu) (ok : MOk K F' H' p m) : Stp K g (g' ++ [m]) F ⟨F'.h, F'.mu ++ [p]⟩ H H' := by
  have ex : Ext F' ⟨F'.h, F'.mu ++ [p]⟩ := ⟨Same.refl _, List.prefix_append _ _⟩
  refine ⟨s.same, s.mono, s.ext.trans ex, s.new, fun a h => ?_, s.sub, ⟨by simp [s.rep.len], ?_, fun n x a h1 h2 => ?_⟩⟩
  · rcases List.mem_append.mp h with h | h
    · exact s.newM a h
    · rw [List.mem_singleton.mp h]; exact .inr hp
  · refine List.nodup_append.mpr ⟨s.rep.nd, by simp, fun a ha b hb z => hm ?_⟩
    rw [List.mem_singleton.mp hb] at z
    rw [← z]; exact ha
  · have h2 : (F'.mu ++ [p])[n]? = some a := h2
    by_cases hn : n < g'.length
    · rw [List.getElem?_append_left hn] at h1
      rw [List.getElem?_append_left (by rw [← s.rep.len]; exact hn)] at h2
      obtain ⟨q1, q2⟩ := s.rep.at_ n x a h1 h2
      exact ⟨q1, q2.mono ex rfl⟩
    · have hn2 : n = g'.length := by
        have := (List.getElem?_eq_some_iff.mp h1).1
        simp at this
        omega
      subst hn2
      rw [List.getElem?_append_right (Nat.le_refl _)] at h1
      rw [List.getElem?_append_right (by rw [s.rep.len]; exact Nat.le_refl _), s.rep.len] at h2
      simp at h1 h2
      subst h1 h2
      exact ⟨hF, ok.mono ex rfl⟩
def mNew (m : MO) : M D := fun g => some (.hd g.length, g ++ [m])
def eMk (f : EK) : E := fun ρ => mb (f ρ) fun r => mNew (.mk r.1 r.2)
def eMl (f : EA) : E := fun ρ => mb (f ρ) fun r => mNew (.ml r)
section
variable {X : Cx} {e : Expr} {fk : EK} {fs : EA} {pos : Pos}
theorem mu_last {F : Fz} {p : Addr} : (⟨F.h, F.mu ++ [p]⟩ : Fz).mu[F.mu.length]? = some p := by simp
theorem pd_mk (h : PK X e fk) : PD X e (eMk fk) := by
  obtain ⟨t, ht, k⟩ := h
  refine ⟨t, ht, fun σ H F ρ g pre d g' e Q q => ?_⟩
  obtain ⟨r, g1, e1, e⟩ := mb_inv e
  cases e
  refine k σ H F ρ g pre r _ e1 Q fun p H' F' kvs s hp hF hg hH hz hk _ rr => ?_
  refine q (.ref p) H' _ (s.share hp hF hg (m := .mk r.1 r.2) ⟨kvs, hH, hk, rr⟩) (.hd ?_)
  rw [s.rep.len]
  exact mu_last
theorem pd_ml (h : PO X e fs) : PD X e (eMl fs) := by
  obtain ⟨t, ht, k⟩ := h
  refine ⟨t, ht, fun σ H F ρ g pre d g' e Q q => ?_⟩
  obtain ⟨r, g1, e1, e⟩ := mb_inv e
  cases e
  refine k σ H F ρ g pre r _ e1 Q fun p H' F' vs s hp hF hg hH hz rr => ?_
  refine q (.ref p) H' _ (s.share hp hF hg (m := .ml r) ⟨vs, hH, hz, rr⟩) (.hd ?_)
  rw [s.rep.len]
  exact mu_last
end
/-! ### {k: v, ..} -/
abbrev EP2 := Rho → M (List (D × D))
def PPD (X : Cx) (pos : Pos) (keys : List (Option Expr)) (values : List Expr) (f : EP2) : Prop := ∃ trs, PPs X pos keys values trs ∧ ∀ σ H F ρ g, PreE X.K F H g ρ σ → ∀ r g', f ρ g = some (r, g') → ∀ Q : List (V × V) → Hp → Prop,
  (∀ ps H' F', Stp X.K g g' F F' H H' → RpA X.K F' (ps.map (·.1)) (r.map (·.1)) → RpA X.K F' (ps.map (·.2)) (r.map (·.2)) → Q ps H') → tPairs trs σ H Q
def pNil : EP2 := fun _ => mr []
def pCons (k v : E) (r : EP2) : EP2 := fun ρ => mb (k ρ) fun x => mb (v ρ) fun y => mb (r ρ) fun l => mr ((x, y) :: l)
def eDisp (f : EP2) : EK := fun ρ => mb (f ρ) fun r => ml ((keysD (r.map (·.1))).bind fun ks => if ks.length ≤ 15 then some (mergeD ([], []) ks (r.map (·.2))) else none)
theorem mergeD_nodup : ∀ {ks : List Key} {l : List D} {acc : List Key × List D}, acc.1.length = acc.2.length → acc.1.Nodup → (mergeD acc ks l).1.Nodup
  | [], _, acc, _, h => h
  | _ :: _, [], acc, _, h => h
  | k :: ks, d :: l, acc, h, n => mergeD_nodup (ks := ks) (l := l) (acc := putD acc.1 acc.2 k d) (putD_len h) (putD_nodup h n)
theorem zip_pairs : ∀ {ps : List (V × V)} {kl : List Key}, ps.map (·.1) = kl.map kV → ps = (kl.zip (ps.map (·.2))).map fun kv => (kV kv.1, kv.2)
  | [], [], _ => rfl
  | [], _ :: _, h => by cases h
  | _ :: _, [], h => by cases h
  | (a, b) :: ps, k :: kl, h => by
    simp only [List.map_cons, List.cons.injEq] at h
    simp only [List.map_cons, List.zip_cons_cons, List.cons.injEq]
    exact ⟨by rw [h.1], zip_pairs h.2⟩
section
variable {X : Cx} {k v : Expr} {fk fv : E} {fp : EP2} {ks : List (Option Expr)} {vs : List Expr} {pos : Pos}
theorem ppd_nil : PPD X pos [] [] pNil := ⟨[], pps_nil, fun σ H F ρ g pre r g' e Q q => by
  obtain ⟨rfl, rfl⟩ := mr_inv e
  exact q [] H F pre.refl .nil .nil⟩
theorem ppd_cons (hk : PD X k fk) (hv : PD X v fv) (hr : PPD X pos ks vs fp) : PPD X pos (some k :: ks) (v :: vs) (pCons fk fv fp) := by
  obtain ⟨tk, pk, kk⟩ := hk
  obtain ⟨tv, pv, kv⟩ := hv
  obtain ⟨trs, pr, kr⟩ := hr
  refine ⟨_, pps_cons pk pv pr, fun σ H F ρ g pre r g' e Q q => ?_⟩
  obtain ⟨x, g1, e1, e⟩ := mb_inv e
  obtain ⟨y, g2, e2, e⟩ := mb_inv e
  obtain ⟨l, g3, e3, e⟩ := mb_inv e
  obtain ⟨rfl, rfl⟩ := mr_inv e
  refine kk σ H F ρ g pre x g1 e1 _ fun a H1 F1 s1 r1 => kv σ H1 F1 ρ g1 (pre.step s1) y g2 e2 _ fun b H2 F2 s2 r2 => kr σ H2 F2 ρ g2 (pre.step (s1.trans s2)) l _ e3 _ fun ps H3 F3 s3 r3 r4 => ?_
  exact q _ H3 F3 ((s1.trans s2).trans s3) (.cons (r1.mono (s2.ext.trans s3.ext)) r3) (.cons (r2.mono s3.ext) r4)
theorem pk_disp (h : PPD X pos ks vs fp) (hall : ks.all (·.isSome) = true := by rfl) (hl : ks.length = vs.length := by rfl) (h0 : ks ≠ [] := by simp) (h15 : ks.length ≤ 15 := by decide) : PK X (.Dict ks vs pos) (eDisp fp) := by
  obtain ⟨trs, pr, kr⟩ := h
  refine ⟨_, pe_disp pr hall hl h0 h15, fun σ H F ρ g pre r g' e Q q p hp => ?_⟩
  obtain ⟨l, g1, e1, e⟩ := mb_inv e
  obtain ⟨e2, rfl⟩ := ml_inv e
  obtain ⟨kl, e3, e4⟩ := Option.bind_eq_some_iff.mp e2
  split at e4
  · rename_i hz
    cases e4
    have s0 : Stp X.K g g F F H (upd H p (.dK [])) := .allocO pre.sub pre.rep hp
    have fF : F p = none := pre.sub.free hp
    have fM : p ∉ F.mu := pre.rep.out hp
    refine kr σ _ F ρ g (pre.step s0) l _ e1 _ fun ps H2 F2 s2 r2 r3 => ?_
    have hH : H2 p = some (.dK []) := s2.same p _ fM upd_same
    have ek := keysD_ok r2 e3
    have hlen : kl.length = ps.length := by
      have := congrArg List.length ek
      simpa using this.symm
    have epk := zip_pairs ek
    have hml : (kl.map kV).length = ps.length := by simpa using hlen
    have ez1 : (kl.zip (ps.map (·.2))).map (·.1) = kl := List.map_fst_zip (by simp [hlen])
    have ez2 : (kl.zip (ps.map (·.2))).map (·.2) = ps.map (·.2) := List.map_snd_zip (by simp [hlen])
    refine ⟨hH, kl.zip (ps.map (·.2)), epk, by rw [List.length_zip, List.length_map, hlen]; omega, ?_⟩
    obtain ⟨q1, q2⟩ := mergeD_ok (K := X.K) (F := F2) (kvs := []) (l := []) (more := kl.zip (ps.map (·.2))) (m := l.map (·.2)) List.nodup_nil .nil (by rw [ez2]; exact r3)
    rw [ez1] at q1 q2
    have fF2 : F2 p = none := s2.keepN fF upd_same
    have fM2 : p ∉ F2.mu := s2.keepM fM upd_same
    refine q p _ F2 (mergeK [] (kl.zip (ps.map (·.2)))) ((s0.trans s2).mut hp fF2 fM2) hp fF2 fM2 upd_same ?_ q1 (mergeD_nodup rfl List.nodup_nil) q2
    refine Nat.le_trans (length_mergeK _ _) ?_
    rw [List.length_zip, List.length_map, sizeLine_eq, List.length_nil]
    omega
  · cases e4
end
end PD
end
section
set_option Elab.async false
set_option linter.all false
set_option maxRecDepth 100000
set_option maxHeartbeats 4000000
set_option autoImplicit false
namespace PD
open PySem PySem.Spec L2
open PyProof.Rows hiding St
variable [Live]
section
variable {X : Cx} {k : Nat}
theorem hu64 (hr : Room k X.A) : X.A.units + 64 < cLine := by have := hu66 hr; omega
theorem hu65 (hr : Room k X.A) : X.A.units + 65 < cLine := by have := hu66 hr; omega
theorem hu0 (hr : Room k X.A) : X.A.units < cLine := by have := hu66 hr; omega
end
def lkB (l : List (Str × NameKind)) (x : Str) (k : NameKind) : Bool := decide (l.lookup x = some k)
/-- a block's names, looked at -/
def blkB (N : List Str) (sc scope : Scope) (own : List (Str × Nat)) : Bool :=
  decide (scope.kind = .function) && scope.names.all (fun y => lkB scope.names y.1 y.2) && own.all (fun p => decide (N[p.2]? = some p.1)) &&
  scope.names.all (fun y => !decide (y.2 = .free) || lkB sc.names y.1 .cell || lkB sc.names y.1 .free) &&
  scope.names.all (fun y => !(decide (y.2 = .local) || decide (y.2 = .cell)) || decide (y.1 ∈ own.map (·.1)) || !decide (y.1 ∈ N))
theorem blk_of {N : List Str} {sc scope : Scope} {own : List (Str × Nat)} (h : blkB N sc scope own = true) : BlkOk N sc scope own := by
  unfold blkB lkB at h
  simp only [Bool.and_eq_true, List.all_eq_true, decide_eq_true_eq, Bool.or_eq_true, Bool.not_eq_true', decide_eq_false_iff_not, Bool.or_eq_false_iff] at h
  obtain ⟨⟨⟨⟨h1, h2⟩, h3⟩, h4⟩, h5⟩ := h
  refine ⟨h1, h2, h3, fun y hy e => ?_, fun y hy e => ?_⟩
  · rcases h4 y hy with (h | h) | h
    · exact absurd e h
    · exact .inl h
    · exact .inr h
  · rcases h5 y hy with (h | h) | h
    · rcases e with e | e
      · exact absurd e h.1
      · exact absurd e h.2
    · exact .inl h
    · exact .inr h
theorem binds_of {K : PySem.W.Frag} {fd : FuncData} {ps : List Str} (h : ∀ (s : Shared) (us : List Value), us.length = ps.length → BindsTo s fd ⟨us, []⟩ (ps.zip us)) : Binds K fd ps [] := fun s us _ hl => by
  rw [List.append_nil] at hl ⊢
  exact h s us hl
end PD
end
section
set_option Elab.async false
set_option linter.all false
set_option maxRecDepth 100000
set_option maxHeartbeats 4000000
set_option autoImplicit false
namespace PD
open PySem PySem.Spec L2
open PyProof.Rows hiding St
variable [Live]
/-! ### the meanings, applied -/
section
variable {α β : Type} (ρ : Rho) (g : G)
@[simp] theorem mb_ap (m : M α) (k : α → M β) (g : G) : mb m k g = (m g).bind fun p => k p.1 p.2 := by
  unfold mb
  cases m g <;> rfl
@[simp] theorem ml_ap (o : Option α) (g : G) : ml o g = o.map fun a => (a, g) := by cases o <;> rfl
@[simp] theorem ite_ap {c : Prop} [Decidable c] (a b : M α) (g : G) : (if c then a else b) g = if c then a g else b g := by split <;> rfl
def dAt (ρ : Rho) (i : Nat) : Option D := match ρ[i]? with
  | some (some (.d x)) => some x
  | _ => none
def lAt (ρ : Rho) (i : Nat) : Option D := match ρ[i]? with
  | some (some .fn) => none
  | some (some lv) => some lv.get
  | _ => none
@[simp] theorem dAt_zero (x : D) (ρ : Rho) : dAt (some (.d x) :: ρ) 0 = some x := rfl
@[simp] theorem dAt_succ (o : Option LV) (ρ : Rho) (i : Nat) : dAt (o :: ρ) (i + 1) = dAt ρ i := rfl
@[simp] theorem lAt_zero_d (x : D) (ρ : Rho) : lAt (some (.d x) :: ρ) 0 = some x := rfl
@[simp] theorem lAt_zero_ol (l : List D) (ρ : Rho) : lAt (some (.ol l) :: ρ) 0 = some (.lst l) := rfl
@[simp] theorem lAt_zero_ok (ks : List Key) (l : List D) (ρ : Rho) : lAt (some (.ok ks l) :: ρ) 0 = some (.dk ks l) := rfl
@[simp] theorem lAt_zero_ot (ks : List (List Key)) (l : List D) (ρ : Rho) : lAt (some (.ot ks l) :: ρ) 0 = some (.dt ks l) := rfl
@[simp] theorem lAt_succ (o : Option LV) (ρ : Rho) (i : Nat) : lAt (o :: ρ) (i + 1) = lAt ρ i := rfl
@[simp] theorem olAt_zero (l : List D) (ρ : Rho) : olAt (some (.ol l) :: ρ) 0 = some l := rfl
@[simp] theorem olAt_succ (o : Option LV) (ρ : Rho) (i : Nat) : olAt (o :: ρ) (i + 1) = olAt ρ i := rfl
@[simp] theorem okAt_zero (ks : List Key) (l : List D) (ρ : Rho) : okAt (some (.ok ks l) :: ρ) 0 = some (ks, l) := rfl
@[simp] theorem okAt_succ (o : Option LV) (ρ : Rho) (i : Nat) : okAt (o :: ρ) (i + 1) = okAt ρ i := rfl
@[simp] theorem get_d (x : D) : (LV.d x).get = x := rfl
@[simp] theorem get_ol (l : List D) : (LV.ol l).get = .lst l := rfl
@[simp] theorem get_ok (ks : List Key) (l : List D) : (LV.ok ks l).get = .dk ks l := rfl
@[simp] theorem setR_zero (o : Option LV) (ρ : Rho) (d : D) : setR (o :: ρ) 0 d = some (.d d) :: ρ := rfl
@[simp] theorem setR_succ (o : Option LV) (ρ : Rho) (i : Nat) (d : D) : setR (o :: ρ) (i + 1) d = o :: setR ρ i d := rfl
@[simp] theorem wipeR_nil (ρ : Rho) : wipeR ρ [] = ρ := rfl
@[simp] theorem wipeR_cons (ρ : Rho) (v : Nat) (vs : List Nat) : wipeR ρ (v :: vs) = (wipeR ρ vs).set v none := rfl
@[simp] theorem setLs_nil (ρ : Rho) (lvs : List LV) : setLs ρ [] lvs = ρ := rfl
@[simp] theorem setLs_cons (ρ : Rho) (i : Nat) (is : List Nat) (lv : LV) (lvs : List LV) : setLs ρ (i :: is) (lv :: lvs) = setLs (ρ.set i (some lv)) is lvs := rfl
@[simp] theorem eVar_ap (i : Nat) : eVar i ρ g = (dAt ρ i).map fun x => (x, g) := by
  unfold eVar dAt
  exact ml_ap _ _
@[simp] theorem eOwn_ap (i : Nat) : eOwn i ρ g = (lAt ρ i).map fun x => (x, g) := by
  unfold eOwn lAt
  exact ml_ap _ _
@[simp] theorem eC_ap (d : D) : eC d ρ g = some (d, g) := rfl
@[simp] theorem eOp_ap (h : D → D → Option D) (a b : E) : eOp h a b ρ g = (a ρ g).bind fun p => (b ρ p.2).bind fun q => (h p.1 q.1).map fun d => (d, q.2) := by simp [eOp]
@[simp] theorem eCmp_ap (h : D → D → Option Bool) (a b : E) : eCmp h a b ρ g = (a ρ g).bind fun p => (b ρ p.2).bind fun q => (h p.1 q.1).map fun d => (.bl d, q.2) := by
  simp only [eCmp, mb_ap, ml_ap, Option.map_map]
  rfl
@[simp] theorem tCmp_ap (h : D → D → Option Bool) (a b : E) : tCmp h a b ρ g = (a ρ g).bind fun p => (b ρ p.2).bind fun q => (h p.1 q.1).map fun d => (d, q.2) := by simp [tCmp]
@[simp] theorem eChain_ap (h h' : D → D → Option Bool) (a b c : E) : eChain h h' a b c ρ g = (a ρ g).bind fun p => (b ρ p.2).bind fun q => (h p.1 q.1).bind fun k => if k = true then (c ρ q.2).bind fun r => (h' q.1 r.1).map fun d => (.bl d, r.2) else some (.bl false, q.2) := by
  simp only [eChain, mb_ap, ml_ap, ite_ap, mr_ap, Option.map_map, Option.bind_map]
  rfl
@[simp] theorem tE_ap (e : E) : tE e ρ g = (e ρ g).bind fun p => match p.1 with
    | .bl b => some (b, p.2)
    | _ => none := by
  unfold tE
  rw [mb_ap]
  congr 1
  funext p
  cases p.1 <;> rfl
@[simp] theorem tAnd_ap (a b : T) : tAnd a b ρ g = (a ρ g).bind fun p => if p.1 = true then b ρ p.2 else some (false, p.2) := by simp [tAnd]
@[simp] theorem tOr_ap (a b : T) : tOr a b ρ g = (a ρ g).bind fun p => if p.1 = true then some (true, p.2) else b ρ p.2 := by simp [tOr]
@[simp] theorem tNot_ap (a : T) : tNot a ρ g = (a ρ g).map fun p => (!p.1, p.2) := by
  simp only [tNot, mb_ap, mr_ap]
  cases a ρ g <;> rfl
@[simp] theorem eAnd_ap (a b : E) : eAnd a b ρ g = (tE a ρ g).bind fun p => if p.1 = true then b ρ p.2 else some (.bl false, p.2) := by simp [eAnd]
@[simp] theorem eOr_ap (a b : E) : eOr a b ρ g = (tE a ρ g).bind fun p => if p.1 = true then some (.bl true, p.2) else b ρ p.2 := by simp [eOr]
@[simp] theorem eNot_ap (a : E) : eNot a ρ g = (tE a ρ g).map fun p => (.bl (!p.1), p.2) := by
  simp only [eNot, mb_ap, mr_ap]
  cases tE a ρ g <;> rfl
@[simp] theorem eIf_ap (c : T) (a b : E) : eIf c a b ρ g = (c ρ g).bind fun p => if p.1 = true then a ρ p.2 else b ρ p.2 := by simp [eIf]
@[simp] theorem aNil_ap : aNil ρ g = some ([], g) := rfl
@[simp] theorem aCons_ap (a : E) (r : EA) : aCons a r ρ g = (a ρ g).bind fun p => (r ρ p.2).map fun q => (p.1 :: q.1, q.2) := by
  simp only [aCons, mb_ap, mr_ap]
  congr 1
  funext p
  cases r ρ p.2 <;> rfl
@[simp] theorem eTup_ap (fs : EA) : eTup fs ρ g = (fs ρ g).bind fun p => (szD p.1.length (.tup p.1)).map fun d => (d, p.2) := by simp [eTup]
@[simp] theorem eLst_ap (fs : EA) : eLst fs ρ g = (fs ρ g).bind fun p => (szD p.1.length (.lst p.1)).map fun d => (d, p.2) := by simp [eLst]
@[simp] theorem eCall_ap (f : List D → M D) (as : EA) : eCall f as ρ g = (as ρ g).bind fun p => f p.1 p.2 := by simp [eCall]
@[simp] theorem eCallK_ap (f : List D → M D) (pm : List Nat) (as ks : EA) : eCallK f pm as ks ρ g = (as ρ g).bind fun p => (ks ρ p.2).bind fun q => f (perm pm .non (p.1 ++ q.1)) q.2 := by simp [eCallK]
@[simp] theorem eNeg_ap (a : E) : eNeg a ρ g = (a ρ g).bind fun p => match p.1 with
    | .int i => some (.int (-i), p.2)
    | _ => none := by
  unfold eNeg
  rw [mb_ap]
  congr 1
  funext p
  cases p.1 <;> rfl
@[simp] theorem eBi_ap (h : List D → Option D) (as : EA) : eBi h as ρ g = (as ρ g).bind fun p => (h p.1).map fun d => (d, p.2) := by simp [eBi]
@[simp] theorem eIsi_ap (T : Ty) (f : E) : eIsi T f ρ g = (f ρ g).bind fun p => (isiD T p.1).map fun b => (.bl b, p.2) := by
  simp only [eIsi, mb_ap, ml_ap, Option.map_map]
  rfl
@[simp] theorem eIx_ap (a b : E) : eIx a b ρ g = (a ρ g).bind fun p => (b ρ p.2).bind fun q => (ixD q.2 p.1 q.1).map fun d => (d, q.2) := by
  unfold eIx
  rw [mb_ap]
  congr 1
  funext p
  exact mb_ap _ _ _
@[simp] theorem eIxO_ap (i : Nat) (b : E) : eIxO i b ρ g = (b ρ g).bind fun p => (match ρ[i]? with
  | some (some lv) => ixO lv p.1
  | _ => none).map fun d => (d, p.2) := by
  unfold eIxO
  rw [mb_ap]
  congr 1
  funext p
  exact ml_ap _ _
@[simp] theorem pNone_ap : pNone ρ g = some (none, g) := rfl
@[simp] theorem pSome_ap (f : E) : pSome f ρ g = (f ρ g).bind fun p => match p.1 with
    | .int i => some (some i, p.2)
    | _ => none := by
  unfold pSome
  rw [mb_ap]
  congr 1
  funext p
  cases p.1 <;> rfl
@[simp] theorem eSl_ap (a : E) (lo hi : Rho → M (Option Int)) : eSl a lo hi ρ g = (a ρ g).bind fun p => (lo ρ p.2).bind fun q => (hi ρ q.2).bind fun r => (slD p.1 q.1 r.1).map fun d => (d, r.2) := by simp [eSl]
@[simp] theorem eO_ap (f : EA) : eO f ρ g = (f ρ g).map fun p => (.lst p.1, p.2) := by
  simp only [eO, mb_ap, mr_ap]
  cases f ρ g <;> rfl
@[simp] theorem eKd_ap (f : EK) : eKd f ρ g = (f ρ g).map fun p => (.dk p.1.1 p.1.2, p.2) := by
  simp only [eKd, mb_ap, mr_ap]
  cases f ρ g <;> rfl
@[simp] theorem aSz_ap (f : EA) : aSz f ρ g = (f ρ g).bind fun p => if p.1.length ≤ sizeLine then some p else none := by
  simp only [aSz, mb_ap, ite_ap, mr_ap, mz_ap]
@[simp] theorem eLcA_ap (vs : List Nat) (it : EA) (bd : B) (t : T) (e : E) : eLcA vs it bd t e ρ g = (it ρ g).bind fun p => (lcL bd t e (wipeR ρ vs) p.1 p.2).bind fun q => if q.1.length ≤ sizeLine then some q else none := by
  simp only [eLcA, mb_ap, ite_ap, mr_ap, mz_ap]
@[simp] theorem eLc2A_ap (vs vs1 : List Nat) (it : EA) (bd : B) (t : T) (it1 : EA) (bd1 : B) (t1 : T) (e : E) : eLc2A vs vs1 it bd t it1 bd1 t1 e ρ g = (it ρ g).bind fun p => (lc2L bd t it1 vs1 bd1 t1 e (wipeR ρ vs) p.1 p.2).bind fun q => if q.1.length ≤ sizeLine then some q else none := by
  simp only [eLc2A, mb_ap, ite_ap, mr_ap, mz_ap]
@[simp] theorem eDcA_ap (vs : List Nat) (it : EA) (bd : B) (t : T) (k v : E) : eDcA vs it bd t k v ρ g = (it ρ g).bind fun p => dcL bd t k v (wipeR ρ vs) ([], []) p.1 p.2 := by simp [eDcA]
@[simp] theorem scA_ap (vs : List Nat) (it : EA) (bd : B) (t : T) (e : E) : scA vs it bd t e ρ g = (it ρ g).bind fun p => (lcL bd t e (wipeR ρ vs) p.1 p.2).bind fun q => ((tupInts q.1).bind fun ns => if ns.length < 64 then some ns else none).map fun ns => (ns, q.2) := by simp [scA]
@[simp] theorem eSrtSet_ap (f : ES) : eSrtSet f ρ g = (f ρ g).bind fun p => if p.1.length < 64 then some (.lst ((sortU p.1).map D.int), p.2) else none := by
  simp only [eSrtSet, mb_ap, ite_ap, mr_ap, mz_ap]
@[simp] theorem eJoin_ap (a b : E) : eJoin a b ρ g = (a ρ g).bind fun p => (b ρ p.2).bind fun q => (joinD p.1 q.1).map fun d => (d, q.2) := by simp [eJoin]
@[simp] theorem eIndex_ap (a b : E) : eIndex a b ρ g = (a ρ g).bind fun p => (b ρ p.2).bind fun q => (indexD p.1 q.1).map fun d => (d, q.2) := by simp [eIndex]
@[simp] theorem aIt_ap (h : List D → Option (List D)) (fs : EA) : aIt h fs ρ g = (fs ρ g).bind fun p => (h p.1).map fun d => (d, p.2) := by simp [aIt]
@[simp] theorem aItem_ap (f : E) : aItem f ρ g = (f ρ g).bind fun p => (itemsD p.1).map fun d => (d, p.2) := by simp [aItem]
@[simp] theorem aOwn_ap (i : Nat) : aOwn i ρ g = (match ρ[i]? with
  | some (some (.ol l)) => some l
  | some (some (.d d)) => itemsD d
  | _ => none).map fun d => (d, g) := by
  unfold aOwn
  exact ml_ap _ _
@[simp] theorem tYesD_ap : tYesD ρ g = some (true, g) := rfl
@[simp] theorem vD_ap (f : E) : vD f ρ g = (f ρ g).map fun p => (.d p.1, p.2) := by
  simp only [vD, mb_ap, mr_ap]
  cases f ρ g <;> rfl
@[simp] theorem vL_ap (f : EA) : vL f ρ g = (f ρ g).map fun p => (.ol p.1, p.2) := by
  simp only [vL, mb_ap, mr_ap]
  cases f ρ g <;> rfl
@[simp] theorem vK_ap (f : EK) : vK f ρ g = (f ρ g).map fun p => (.ok p.1.1 p.1.2, p.2) := by
  simp only [vK, mb_ap, mr_ap]
  cases f ρ g <;> rfl
@[simp] theorem vNil_ap : vNil ρ g = some ([], g) := rfl
@[simp] theorem vCons_ap (a : EV) (r : EVA) : vCons a r ρ g = (a ρ g).bind fun p => (r ρ p.2).map fun q => (p.1 :: q.1, q.2) := by
  simp only [vCons, mb_ap, mr_ap]
  congr 1
  funext p
  cases r ρ p.2 <;> rfl
@[simp] theorem pNil_ap : pNil ρ g = some ([], g) := rfl
@[simp] theorem pCons_ap (k v : E) (r : EP2) : pCons k v r ρ g = (k ρ g).bind fun p => (v ρ p.2).bind fun q => (r ρ q.2).map fun l => ((p.1, q.1) :: l.1, l.2) := by
  simp only [pCons, mb_ap, mr_ap]
  congr 1
  funext p
  congr 1
  funext q
  cases r ρ q.2 <;> rfl
@[simp] theorem eDisp_ap (f : EP2) : eDisp f ρ g = (f ρ g).bind fun p => ((keysD (p.1.map (·.1))).bind fun ks => if ks.length ≤ 15 then some (mergeD ([], []) ks (p.1.map (·.2))) else none).map fun r => (r, p.2) := by simp [eDisp]
@[simp] theorem eMk_ap (f : EK) : eMk f ρ g = (f ρ g).map fun p => (.hd p.2.length, p.2 ++ [.mk p.1.1 p.1.2]) := by
  simp only [eMk, mb_ap, mNew]
  cases f ρ g <;> rfl
@[simp] theorem eMl_ap (f : EA) : eMl f ρ g = (f ρ g).map fun p => (.hd p.2.length, p.2 ++ [.ml p.1]) := by
  simp only [eMl, mb_ap, mNew]
  cases f ρ g <;> rfl
/-! statements -/
@[simp] theorem sNil_ap : sNil ρ g = some (.nx ρ, g) := rfl
@[simp] theorem sPass_ap : sPass ρ g = some (.nx ρ, g) := rfl
@[simp] theorem sNever_ap : sNever ρ g = none := rfl
@[simp] theorem sCont_ap : sCont ρ g = some (.ct ρ, g) := rfl
@[simp] theorem sBreak_ap : sBreak ρ g = some (.bk ρ, g) := rfl
def sqK (b : S) : Fl × G → Option (Fl × G)
  | (.nx ρ', g') => b ρ' g'
  | p => some p
@[simp] theorem sqK_nx (b : S) (ρ' : Rho) (g' : G) : sqK b (.nx ρ', g') = b ρ' g' := rfl
@[simp] theorem sqK_xc (b : S) (nm f : Str) (d : D) (ρ' : Rho) (g' : G) : sqK b (.xc nm f d ρ', g') = some (.xc nm f d ρ', g') := rfl
@[simp] theorem sqK_rt (b : S) (d : D) (g' : G) : sqK b (.rt d, g') = some (.rt d, g') := rfl
@[simp] theorem sqK_bk (b : S) (ρ' : Rho) (g' : G) : sqK b (.bk ρ', g') = some (.bk ρ', g') := rfl
@[simp] theorem sqK_ct (b : S) (ρ' : Rho) (g' : G) : sqK b (.ct ρ', g') = some (.ct ρ', g') := rfl
@[simp] theorem sSeq_ap (a b : S) : sSeq a b ρ g = (a ρ g).bind (sqK b) := by
  unfold sSeq
  rw [mb_ap]
  congr 1
  funext p
  obtain ⟨fl, g'⟩ := p
  cases fl <;> rfl
@[simp] theorem sRet_ap (f : E) : sRet f ρ g = (f ρ g).map fun p => (.rt p.1, p.2) := by
  simp only [sRet, mb_ap, mr_ap]
  cases f ρ g <;> rfl
@[simp] theorem sSet_ap (i : Nat) (f : E) : sSet i f ρ g = (f ρ g).map fun p => (.nx (setR ρ i p.1), p.2) := by
  simp only [sSet, mb_ap, mr_ap]
  cases f ρ g <;> rfl
@[simp] theorem sAsg_ap (bd : B) (f : E) : sAsg bd f ρ g = (f ρ g).bind fun p => (bd p.1 ρ).map fun ρ' => (.nx ρ', p.2) := by
  simp only [sAsg, mb_ap, ml_ap, Option.map_map]
  rfl
@[simp] theorem sParV_ap (is : List Nat) (f : EVA) : sParV is f ρ g = (f ρ g).bind fun p => if p.1.length = is.length then some (.nx (setLs ρ is p.1), p.2) else none := by
  simp only [sParV, mb_ap, ite_ap, mr_ap, mz_ap]
@[simp] theorem sSetV_ap (i : Nat) (f : EV) : sSetV i f ρ g = (f ρ g).map fun p => (.nx (ρ.set i (some p.1)), p.2) := by
  simp only [sSetV, mb_ap, mr_ap]
  cases f ρ g <;> rfl
@[simp] theorem sIf_ap (c : T) (a b : S) : sIf c a b ρ g = (c ρ g).bind fun p => if p.1 = true then a ρ p.2 else b ρ p.2 := by simp [sIf]
@[simp] theorem sExpr_ap (f : E) : sExpr f ρ g = (f ρ g).map fun p => (.nx ρ, p.2) := by
  simp only [sExpr, mb_ap, mr_ap]
  cases f ρ g <;> rfl
@[simp] theorem sOwn_ap (i : Nat) (f : EA) : sOwn i f ρ g = (f ρ g).map fun p => (.nx (ρ.set i (some (.ol p.1))), p.2) := by
  simp only [sOwn, mb_ap, mr_ap]
  cases f ρ g <;> rfl
@[simp] theorem sFrz_ap (i : Nat) (a : S) : sFrz i a ρ g = a (frzR ρ i) g := rfl
@[simp] theorem frzR_zero_d (x : D) (ρ : Rho) : frzR (some (.d x) :: ρ) 0 = some (.d x) :: ρ := rfl
@[simp] theorem frzR_zero_ol (l : List D) (ρ : Rho) : frzR (some (.ol l) :: ρ) 0 = some (.d (.lst l)) :: ρ := rfl
@[simp] theorem frzR_zero_ok (ks : List Key) (l : List D) (ρ : Rho) : frzR (some (.ok ks l) :: ρ) 0 = some (.d (.dk ks l)) :: ρ := rfl
@[simp] theorem frzR_zero_ot (ks : List (List Key)) (l : List D) (ρ : Rho) : frzR (some (.ot ks l) :: ρ) 0 = some (.d (.dt ks l)) :: ρ := rfl
@[simp] theorem frzR_zero_fn (ρ : Rho) : frzR (some .fn :: ρ) 0 = some .fn :: ρ := rfl
@[simp] theorem frzR_zeroN (ρ : Rho) : frzR (none :: ρ) 0 = none :: ρ := rfl
@[simp] theorem frzR_succ (o : Option LV) (ρ : Rho) (i : Nat) : frzR (o :: ρ) (i + 1) = o :: frzR ρ i := by
  unfold frzR
  simp only [List.getElem?_cons_succ]
  cases h : ρ[i]? with
  | none => rfl
  | some p =>
    cases p with
    | none => rfl
    | some lv => cases lv <;> rfl
@[simp] theorem sFor_ap (it : EA) (bd : B) (b : S) : sFor it bd b ρ g = (it ρ g).bind fun p => forL bd b p.1 ρ p.2 := by simp [sFor]
@[simp] theorem sWhile_ap (n : Nat) (c : T) (b : S) : sWhile n c b ρ g = whileL c b n ρ g := rfl
@[simp] theorem sAppend_ap (i : Nat) (f : E) : sAppend i f ρ g = (f ρ g).bind fun p => ((olAt ρ i).bind fun l => if l.length < sizeLine then some (.nx (ρ.set i (some (.ol (l ++ [p.1]))))) else none).map fun fl => (fl, p.2) := by simp [sAppend]
@[simp] theorem sExtend_ap (i : Nat) (f : EA) : sExtend i f ρ g = (f ρ g).bind fun p => ((olAt ρ i).bind fun l => if l.length + p.1.length ≤ sizeLine then some (.nx (ρ.set i (some (.ol (l ++ p.1))))) else none).map fun fl => (fl, p.2) := by simp [sExtend]
@[simp] theorem sUpdate_ap (i : Nat) (f : EK) : sUpdate i f ρ g = (f ρ g).bind fun p => ((okAt ρ i).bind fun r => if r.1.Nodup ∧ r.1.length + p.1.1.length ≤ sizeLine then some (.nx (ρ.set i (some (.ok (mergeD r p.1.1 p.1.2).1 (mergeD r p.1.1 p.1.2).2)))) else none).map fun fl => (fl, p.2) := by simp [sUpdate]
@[simp] theorem sStore_ap (a b f : E) : sStore a b f ρ g = (f ρ g).bind fun p => (a ρ p.2).bind fun q => (b ρ q.2).bind fun r => (storeD r.2 q.1 r.1 p.1).map fun g' => (.nx ρ, g') := by
  unfold sStore
  rw [mb_ap]
  congr 1
  funext p
  rw [mb_ap]
  congr 1
  funext q
  exact mb_ap _ _ _
end
/-! ### loops -/
def feK (bd : B) (b : S) (ds : List D) : Fl × G → Option (Fl × G)
  | (.nx ρ', g') => forL bd b ds ρ' g'
  | (.ct ρ', g') => forL bd b ds ρ' g'
  | (.bk ρ', g') => some (.nx ρ', g')
  | (.rt x, g') => some (.rt x, g')
  | (.xc nm f d ρ', g') => some (.xc nm f d ρ', g')
@[simp] theorem feK_nx (bd : B) (b : S) (ds : List D) (ρ' : Rho) (g' : G) : feK bd b ds (.nx ρ', g') = forL bd b ds ρ' g' := rfl
@[simp] theorem feK_ct (bd : B) (b : S) (ds : List D) (ρ' : Rho) (g' : G) : feK bd b ds (.ct ρ', g') = forL bd b ds ρ' g' := rfl
@[simp] theorem feK_bk (bd : B) (b : S) (ds : List D) (ρ' : Rho) (g' : G) : feK bd b ds (.bk ρ', g') = some (.nx ρ', g') := rfl
@[simp] theorem feK_xc (bd : B) (b : S) (ds : List D) (nm f : Str) (d : D) (ρ' : Rho) (g' : G) : feK bd b ds (.xc nm f d ρ', g') = some (.xc nm f d ρ', g') := rfl
@[simp] theorem feK_rt (bd : B) (b : S) (ds : List D) (x : D) (g' : G) : feK bd b ds (.rt x, g') = some (.rt x, g') := rfl
@[simp] theorem forL_nil (bd : B) (b : S) (ρ : Rho) (g : G) : forL bd b [] ρ g = some (.nx ρ, g) := rfl
theorem forL_cons (bd : B) (b : S) (d : D) (ds : List D) (ρ : Rho) (g : G) : forL bd b (d :: ds) ρ g = (bd d ρ).bind fun ρ1 => (b ρ1 g).bind (feK bd b ds) := by
  conv => lhs; unfold forL
  cases bd d ρ with
  | none => rfl
  | some ρ1 =>
    simp only [mb_ap, Option.bind_some]
    congr 1
    funext p
    obtain ⟨fl, g'⟩ := p
    cases fl <;> rfl
def weK (c : T) (b : S) (n : Nat) : Fl × G → Option (Fl × G)
  | (.nx ρ', g') => whileL c b n ρ' g'
  | (.ct ρ', g') => whileL c b n ρ' g'
  | (.bk ρ', g') => some (.nx ρ', g')
  | (.rt x, g') => some (.rt x, g')
  | (.xc nm f d ρ', g') => some (.xc nm f d ρ', g')
@[simp] theorem weK_nx (c : T) (b : S) (n : Nat) (ρ' : Rho) (g' : G) : weK c b n (.nx ρ', g') = whileL c b n ρ' g' := rfl
@[simp] theorem weK_ct (c : T) (b : S) (n : Nat) (ρ' : Rho) (g' : G) : weK c b n (.ct ρ', g') = whileL c b n ρ' g' := rfl
@[simp] theorem weK_bk (c : T) (b : S) (n : Nat) (ρ' : Rho) (g' : G) : weK c b n (.bk ρ', g') = some (.nx ρ', g') := rfl
@[simp] theorem weK_xc (c : T) (b : S) (n : Nat) (nm f : Str) (d : D) (ρ' : Rho) (g' : G) : weK c b n (.xc nm f d ρ', g') = some (.xc nm f d ρ', g') := rfl
@[simp] theorem weK_rt (c : T) (b : S) (n : Nat) (x : D) (g' : G) : weK c b n (.rt x, g') = some (.rt x, g') := rfl
theorem whileL_succ (c : T) (b : S) (n : Nat) (ρ : Rho) (g : G) : whileL c b (n + 1) ρ g = (c ρ g).bind fun p => if p.1 = true then (b ρ p.2).bind (weK c b n) else some (.nx ρ, p.2) := by
  conv => lhs; unfold whileL
  simp only [mb_ap, ite_ap, mr_ap]
  congr 1
  funext p
  split
  · congr 1
    funext q
    obtain ⟨fl, g'⟩ := q
    cases fl <;> rfl
  · rfl
@[simp] theorem lcL_nil (bd : B) (t : T) (e : E) (ρ : Rho) (g : G) : lcL bd t e ρ [] g = some ([], g) := rfl
theorem lcL_cons (bd : B) (t : T) (e : E) (ρ : Rho) (d : D) (ds : List D) (g : G) : lcL bd t e ρ (d :: ds) g = (bd d ρ).bind fun ρ' => (t ρ' g).bind fun p => if p.1 = true then (e ρ' p.2).bind fun q => (lcL bd t e ρ ds q.2).map fun r => (q.1 :: r.1, r.2) else lcL bd t e ρ ds p.2 := by
  conv => lhs; unfold lcL
  cases bd d ρ with
  | none => rfl
  | some ρ' =>
    simp only [mb_ap, ite_ap, mr_ap, Option.bind_some]
    congr 1
    funext p
    split
    · congr 1
      funext q
      cases lcL bd t e ρ ds q.2 <;> rfl
    · rfl
theorem runF_rt {n : Nat} {f : S} {ds : List D} {g g' : G} {d : D} (h : f (slots0 n ds) g = some (.rt d, g')) : runF n f ds g = some (d, g') := by unfold runF; rw [h]
theorem runF_nx {n : Nat} {f : S} {ds : List D} {g g' : G} {ρ : Rho} (h : f (slots0 n ds) g = some (.nx ρ, g')) : runF n f ds g = some (.non, g') := by unfold runF; rw [h]
end PD
end
section
set_option Elab.async false
set_option linter.all false
set_option maxRecDepth 100000
set_option maxHeartbeats 4000000
set_option autoImplicit false
namespace PD
open PySem
variable [Live]
/-! ### plain facts of the data -/
theorem dMod_ok (i j : Int) (h : 0 < j) : dMod (.int i) (.int j) = some (.int (i % j)) := by simp [dMod, intD, modC, h]
theorem dFdiv_ok (i j : Int) (h : 0 < j) (h2 : j < 18446744073709551616) : dFdiv (.int i) (.int j) = some (.int (i / j)) := by
  have : fdivC i j = true := by
    unfold fdivC
    have e : (18446744073709551616 : Int) ≤ 2 ^ 8000 := by decide +kernel
    rw [Bool.and_eq_true]
    exact ⟨decide_eq_true h, decide_eq_true (by omega)⟩
  simp [dFdiv, intD, this]
theorem dMul_ok (i j : Int) (h : -18446744073709551616 < i ∧ i < 18446744073709551616) : dMul (.int i) (.int j) = some (.int (i * j)) := by
  have : mulC i j = true := by simp [mulC, h.1, h.2]
  simp [dMul, intD, this]
theorem dMul_ok2 (i j : Int) (h : -18446744073709551616 < j ∧ j < 18446744073709551616) : dMul (.int i) (.int j) = some (.int (i * j)) := by
  have : mulC i j = true := by simp [mulC, h.1, h.2]
  simp [dMul, intD, this]
@[simp] theorem addD_int (i j : Int) : addD (.int i) (.int j) = some (.int (i + j)) := rfl
@[simp] theorem subD_int (i j : Int) : subD (.int i) (.int j) = some (.int (i - j)) := rfl
@[simp] theorem gtD_int (i j : Int) : gtD (.int i) (.int j) = some (decide (j < i)) := rfl
@[simp] theorem ltD_int (i j : Int) : ltD (.int i) (.int j) = some (decide (i < j)) := rfl
@[simp] theorem geD_int (i j : Int) : geD (.int i) (.int j) = some (decide (j ≤ i)) := rfl
@[simp] theorem leD_int (i j : Int) : leD (.int i) (.int j) = some (decide (i ≤ j)) := rfl
@[simp] theorem pow18 : dPow (.int 10) (.int 18) = some (.int 1000000000000000000) := by rfl
@[simp] theorem lenD_lst (l : List D) : lenD [.lst l] = some (.int l.length) := rfl
@[simp] theorem lenD_tup (l : List D) : lenD [.tup l] = some (.int l.length) := rfl
@[simp] theorem itemsD_lst (l : List D) : itemsD (.lst l) = some l := rfl
@[simp] theorem itemsD_tup (l : List D) : itemsD (.tup l) = some l := rfl
@[simp] theorem itemsD_str (x : Str) : itemsD (.str x) = some (strItems x) := rfl
@[simp] theorem isNon_non : isNon .non = true := rfl
theorem ixN_of {n : Nat} {i : Int} (h1 : 0 ≤ i) (h2 : i < n) : L2.ixN n i = some i.toNat := by
  unfold L2.ixN
  simp [h1, h2]
theorem atI_of {α : Type} {l : List α} {i : Int} (h1 : 0 ≤ i) (h2 : i < l.length) : L2.atI l i = l[i.toNat]? := by
  unfold L2.atI
  rw [ixN_of h1 h2]
  rfl
theorem atI_mem {α : Type} {l : List α} {i : Int} (h1 : 0 ≤ i) (h2 : i < l.length) : ∃ x, L2.atI l i = some x ∧ x ∈ l := by
  rw [atI_of h1 h2]
  have h : i.toNat < l.length := by omega
  exact ⟨l[i.toNat], List.getElem?_eq_getElem h, List.getElem_mem h⟩
@[simp] theorem ixD_lst (g : G) (l : List D) (i : Int) : ixD g (.lst l) (.int i) = L2.atI l i := rfl
@[simp] theorem ixD_tup (g : G) (l : List D) (i : Int) : ixD g (.tup l) (.int i) = L2.atI l i := rfl
@[simp] theorem ixD_str (g : G) (z : Str) (i : Int) : ixD g (.str z) (.int i) = (L2.atI z.cps.toList i).map fun c => .str ⟨#[c]⟩ := rfl
@[simp] theorem szD_ok {n : Nat} {d : D} (h : n ≤ sizeLine) : szD n d = some d := by unfold szD; rw [if_pos h]
/-! ### equal, in -/
@[simp] theorem eqq_int (i j : Int) : eqq (.int i) (.int j) = decide (i = j) := by
  unfold eqq
  rw [Bool.eq_iff_iff]
  simp
@[simp] theorem eqq_str (x y : Str) : eqq (.str x) (.str y) = decide (x = y) := by
  unfold eqq
  rw [Bool.eq_iff_iff]
  simp
theorem eqqA_map {α : Type} [DecidableEq α] {f : α → D} (hf : ∀ x y, eqq (f x) (f y) = decide (x = y)) : ∀ xs ys : List α, eqqA (xs.map f) (ys.map f) = decide (xs = ys)
  | [], [] => by simp [eqqA]
  | [], y :: ys => by simp [eqqA]
  | x :: xs, [] => by simp [eqqA]
  | x :: xs, y :: ys => by simp [eqqA, hf, eqqA_map hf xs ys]
theorem eqq_lst (l m : List D) : eqq (.lst l) (.lst m) = eqqA l m := by simp [eqq]
theorem purA_map {α : Type} {f : α → D} (hf : ∀ x, pur (f x) = true) : ∀ xs : List α, purA (xs.map f) = true
  | [] => rfl
  | x :: xs => by simp [purA, hf, purA_map hf xs]
theorem depA_map {α : Type} {f : α → D} {n : Nat} (hf : ∀ x, dep (f x) ≤ n) : ∀ xs : List α, depA (xs.map f) ≤ n
  | [] => by simp [depA]
  | x :: xs => by
    have := depA_map hf xs
    have := hf x
    simp only [List.map_cons, depA]
    omega
/-- a kind of data by a type -/
structure Kd {α : Type} (f : α → D) (n : Nat) : Prop where
  pu : ∀ x, pur (f x) = true
  de : ∀ x, dep (f x) ≤ n
theorem kdI : Kd D.int 0 := ⟨fun _ => rfl, fun _ => Nat.le_refl _⟩
theorem kdS : Kd D.str 0 := ⟨fun _ => rfl, fun _ => Nat.le_refl _⟩
theorem Kd.tup {α : Type} {f : α → D} {n : Nat} (h : Kd f n) : Kd (fun xs : List α => D.tup (xs.map f)) (n + 1) :=
  ⟨fun xs => by simp [pur, purA_map h.pu], fun xs => by have := depA_map h.de xs; simp only [dep]; omega⟩
theorem Kd.lst {α : Type} {f : α → D} {n : Nat} (h : Kd f n) : Kd (fun xs : List α => D.lst (xs.map f)) (n + 1) :=
  ⟨fun xs => by simp [pur, purA_map h.pu], fun xs => by have := depA_map h.de xs; simp only [dep]; omega⟩
theorem Kd.ok {α : Type} {f : α → D} {n : Nat} (h : Kd f n) (hn : n ≤ 64) (x : α) : cmpOk (f x) = true := by
  unfold cmpOk
  rw [h.pu, Bool.true_and]
  exact decide_eq_true (Nat.le_trans (h.de x) hn)
theorem any_eqq {α : Type} [DecidableEq α] {f : α → D} (hf : ∀ x y, eqq (f x) (f y) = decide (x = y)) (x : α) : ∀ xs : List α, ((xs.map f).any fun z => eqq z (f x)) = decide (x ∈ xs)
  | [] => by simp
  | y :: ys => by
    simp only [List.map_cons, List.any_cons, hf, any_eqq hf x ys, List.mem_cons, Bool.decide_or]
    congr 1
    exact decide_eq_decide.mpr eq_comm
theorem inD_lst {α : Type} [DecidableEq α] {f : α → D} {n : Nat} (k : Kd f n) (hn : n < 64) (hf : ∀ x y, eqq (f x) (f y) = decide (x = y)) (x : α) (xs : List α) : inD (f x) (.lst (xs.map f)) = some (decide (x ∈ xs)) := by
  have h1 := k.ok (by omega) x
  have h2 := k.lst.ok (by omega) xs
  simp only [inD, h1, h2, Bool.and_self, if_true, any_eqq hf]
theorem notInD_lst {α : Type} [DecidableEq α] {f : α → D} {n : Nat} (k : Kd f n) (hn : n < 64) (hf : ∀ x y, eqq (f x) (f y) = decide (x = y)) (x : α) (xs : List α) : notInD (f x) (.lst (xs.map f)) = some (!decide (x ∈ xs)) := by
  unfold notInD
  rw [inD_lst k hn hf]
  rfl
theorem flat_map {α : Type} {f : α → D} (hf : ∀ x, flatD (f x) = true) (xs : List α) : (xs.map f).all flatD = true := by
  rw [List.all_map]
  exact List.all_eq_true.mpr fun x _ => hf x
theorem inD_tup {α : Type} [DecidableEq α] {f : α → D} (k : ∀ x, flatD (f x) = true) (hf : ∀ x y, eqq (f x) (f y) = decide (x = y)) (x : α) (xs : List α) : inD (f x) (.tup (xs.map f)) = some (decide (x ∈ xs)) := by
  have h1 := k x
  have h2 := flat_map k xs
  simp only [inD, h1, h2, Bool.and_self, if_true, any_eqq hf]
theorem notInD_tup {α : Type} [DecidableEq α] {f : α → D} (k : ∀ x, flatD (f x) = true) (hf : ∀ x y, eqq (f x) (f y) = decide (x = y)) (x : α) (xs : List α) : notInD (f x) (.tup (xs.map f)) = some (!decide (x ∈ xs)) := by
  unfold notInD
  rw [inD_tup k hf]
  rfl
@[simp] theorem inD_strs (x : Str) (xs : List Str) : inD (.str x) (.lst (xs.map .str)) = some (decide (x ∈ xs)) := inD_lst kdS (by decide) eqq_str x xs
@[simp] theorem notInD_strs (x : Str) (xs : List Str) : notInD (.str x) (.lst (xs.map .str)) = some (!decide (x ∈ xs)) := notInD_lst kdS (by decide) eqq_str x xs
@[simp] theorem inD_ints (x : Int) (xs : List Int) : inD (.int x) (.lst (xs.map .int)) = some (decide (x ∈ xs)) := inD_lst kdI (by decide) eqq_int x xs
@[simp] theorem notInD_ints (x : Int) (xs : List Int) : notInD (.int x) (.lst (xs.map .int)) = some (!decide (x ∈ xs)) := notInD_lst kdI (by decide) eqq_int x xs
@[simp] theorem inD_strsT (x : Str) (xs : List Str) : inD (.str x) (.tup (xs.map .str)) = some (decide (x ∈ xs)) := inD_tup (fun _ => rfl) eqq_str x xs
@[simp] theorem notInD_strsT (x : Str) (xs : List Str) : notInD (.str x) (.tup (xs.map .str)) = some (!decide (x ∈ xs)) := notInD_tup (fun _ => rfl) eqq_str x xs
@[simp] theorem inD_intsT (x : Int) (xs : List Int) : inD (.int x) (.tup (xs.map .int)) = some (decide (x ∈ xs)) := inD_tup (fun _ => rfl) eqq_int x xs
@[simp] theorem notInD_intsT (x : Int) (xs : List Int) : notInD (.int x) (.tup (xs.map .int)) = some (!decide (x ∈ xs)) := notInD_tup (fun _ => rfl) eqq_int x xs
theorem eqD_of {x y : D} (h1 : cmpOk x = true) (h2 : cmpOk y = true) : eqD x y = some (eqq x y) := by simp [eqD, h1, h2]
theorem neD_of {x y : D} (h1 : cmpOk x = true) (h2 : cmpOk y = true) : neD x y = some (!eqq x y) := by simp [neD, h1, h2]
/-! ### texts joined -/
theorem joinC_nil : ∀ xs : List Nat, joinC [] (xs.map fun c => [c]) = xs
  | [] => rfl
  | [_] => rfl
  | a :: b :: r => by
    have := joinC_nil (b :: r)
    simp only [List.map_cons] at this ⊢
    simp [joinC, this]
theorem joinD_signs (xs : List Nat) (h : xs.length ≤ 1000000) : joinD (.str "") (.lst (xs.map fun c => .str ⟨#[c]⟩)) = some (.str (ofCs xs)) := by
  have e : (xs.map fun c => D.str ⟨#[c]⟩) = (xs.map fun c => (⟨#[c]⟩ : Str)).map D.str := by rw [List.map_map]; rfl
  rw [e]
  show ((strsD ((xs.map fun c => (⟨#[c]⟩ : Str)).map D.str)).bind fun ys => if (ys.map (·.length)).sum + ys.length * ("" : Str).length ≤ sizeLine then some (D.str (ofCs (joinC (cs "") (ys.map cs)))) else none) = _
  rw [strsD_map]
  have e1 : ((xs.map fun c => (⟨#[c]⟩ : Str)).map (·.length)).sum = xs.length := by
    rw [List.map_map]
    clear e h
    induction xs with
    | nil => rfl
    | cons x xs ih =>
      simp only [List.map_cons, List.sum_cons, ih, List.length_cons]
      show 1 + _ = _
      omega
  have e2 : ("" : Str).length = 0 := by rfl
  have e3 : (xs.map fun c => (⟨#[c]⟩ : Str)).map cs = xs.map fun c => [c] := by rw [List.map_map]; rfl
  have e4 : cs "" = [] := by rfl
  simp only [Option.bind_some, e1, e2, e3, e4, joinC_nil]
  rw [if_pos (by rw [sizeLine_eq]; omega)]
/-! ### plain lists -/
/-! ### sorted texts, numbers -/
def ltS (x y : Str) : Bool := decide (x.cps.toList < y.cps.toList)
def sortS (xs : List Str) : List Str := isoG ltS xs
theorem all_map {α : Type} {f : α → D} {p : D → Bool} (hf : ∀ x, p (f x) = true) (xs : List α) : (xs.map f).all p = true := by
  rw [List.all_map]
  exact List.all_eq_true.mpr fun x _ => hf x
theorem sortedM_strs (xs : List Str) : sortedM [.lst (xs.map .str)] = some (.lst ((sortS xs).map .str)) := by
  have h : sortD (xs.map D.str) = some (isoD (xs.map D.str)) := by
    unfold sortD
    rw [if_pos]
    simp only [Bool.or_eq_true]
    exact .inl (.inr (all_map (fun _ => rfl) xs))
  show (sortD (xs.map D.str)).map D.lst = _
  rw [h, isoD_eq, isoG_map (lt := ltS) D.str (fun x y => rfl)]
  rfl
theorem sortS_perm (xs : List Str) : (sortS xs).Perm xs := (isoG_ok swoS xs).2.perm
theorem sortS_lt {xs : List Str} (h : xs.Nodup) : (sortS xs).Pairwise fun x y => x.cps.toList < y.cps.toList := by
  have h1 : (sortS xs).Pairwise fun x y => decide (y.cps.toList < x.cps.toList) = false := (isoG_ok swoS xs).1
  have h2 : (sortS xs).Pairwise (· ≠ ·) := (sortS_perm xs).nodup_iff.mpr h
  refine (List.Pairwise.and h1 h2).imp fun {x y} q => ?_
  obtain ⟨q1, q2⟩ := q
  have q3 : ¬ y.cps.toList < x.cps.toList := of_decide_eq_false q1
  rcases Classical.em (x.cps.toList < y.cps.toList) with q4 | q4
  · exact q4
  · exact absurd (cs_inj (List.le_antisymm (List.not_lt.mp q3) (List.not_lt.mp q4))) q2
theorem allD_lst (bs : List Bool) : allD [.lst (bs.map .bl)] = some (.bl (bs.all id)) := by
  show (bools (bs.map .bl)).map (fun bs => D.bl (bs.all id)) = _
  rw [bools_map]
  rfl
/-- all([..]), any([..]) of a comprehension without effects -/
theorem lc_bools {α : Type} {f : α → D} {bd : B} {e : E} {ρ : Rho} {g : G} {p : α → Bool} (xs : List α) (h : ∀ x ∈ xs, ∃ ρ', bd (f x) ρ = some ρ' ∧ e ρ' g = some (.bl (p x), g)) : lcL bd tYesD e ρ (xs.map f) g = some ((xs.map p).map .bl, g) := by
  induction xs with
  | nil => rfl
  | cons x xs ih =>
    obtain ⟨ρ', h1, h2⟩ := h x List.mem_cons_self
    rw [List.map_cons, lcL_cons, h1]
    simp [h2, ih fun y hy => h y (List.mem_cons_of_mem _ hy)]
/-- [.. for x in xs], [.. if ..] of typed items -/
theorem lc_typed {α β : Type} {f : α → D} {f' : β → D} {bd : B} {e : E} {ρ : Rho} {g : G} {q : α → β} (xs : List α) (h : ∀ x ∈ xs, ∃ ρ', bd (f x) ρ = some ρ' ∧ e ρ' g = some (f' (q x), g)) : lcL bd tYesD e ρ (xs.map f) g = some ((xs.map q).map f', g) := by
  induction xs with
  | nil => rfl
  | cons x xs ih =>
    obtain ⟨ρ', h1, h2⟩ := h x List.mem_cons_self
    rw [List.map_cons, lcL_cons, h1]
    simp [h2, ih fun y hy => h y (List.mem_cons_of_mem _ hy)]
theorem lc_typedF {α β : Type} {f : α → D} {f' : β → D} {bd : B} {t : T} {e : E} {ρ : Rho} {g : G} {p : α → Bool} {q : α → β} (xs : List α) (h : ∀ x ∈ xs, ∃ ρ', bd (f x) ρ = some ρ' ∧ t ρ' g = some (p x, g) ∧ (p x = true → e ρ' g = some (f' (q x), g))) :
    lcL bd t e ρ (xs.map f) g = some (((xs.filter p).map q).map f', g) := by
  induction xs with
  | nil => rfl
  | cons x xs ih =>
    obtain ⟨ρ', h1, h2, h3⟩ := h x List.mem_cons_self
    have ih := ih fun y hy => h y (List.mem_cons_of_mem _ hy)
    rw [List.map_cons, lcL_cons, h1]
    cases hp : p x with
    | true => simp [h2, hp, h3 hp, ih]
    | false => simp [h2, hp, ih]
theorem cutL_one {α : Type} (l : List α) : cutL l (some 1) none = l.drop 1 := by
  unfold cutL
  rw [HT.sIx_none]
  have : HT.sIx l.length 0 (some 1) = min 1 l.length := HT.sIx_nat l.length 0 1
  rw [this]
  by_cases h : 1 ≤ l.length
  · rw [Nat.min_eq_left h]
    exact List.take_of_length_le (by rw [List.length_drop]; omega)
  · have : l = [] := List.length_eq_zero_iff.mp (by omega)
    subst this
    rfl
theorem zip2L_map {α β : Type} {f : α → D} {f' : β → D} : ∀ (xs : List α) (ys : List β), zip2L (xs.map f) (ys.map f') = (xs.zip ys).map fun p => .tup [f p.1, f' p.2]
  | [], ys => by simp [zip2L]
  | _ :: _, [] => by simp [zip2L]
  | x :: xs, y :: ys => by simp [zip2L, zip2L_map xs ys]
@[simp] theorem seqD_lst (l : List D) : seqD (.lst l) = some l := rfl
@[simp] theorem seqD_tup (l : List D) : seqD (.tup l) = some l := rfl
theorem rangeD_eq : ∀ (n : Nat) (lo : Int), rangeD lo n = (List.range n).map fun (m : Nat) => D.int (lo + m)
  | 0, lo => rfl
  | n + 1, lo => by
    rw [List.range_succ_eq_map, List.map_cons, List.map_map]
    show D.int lo :: rangeD (lo + 1) n = _
    rw [rangeD_eq n (lo + 1)]
    congr 1
    · simp
    · refine List.map_congr_left fun m _ => ?_
      simp only [Function.comp]
      congr 1
      omega
/-- 0, 1, .. -/
def upto (c : Int) : List Int := (List.range c.toNat).map fun (m : Nat) => (m : Int)
theorem upto_mem {c i : Int} : i ∈ upto c ↔ 0 ≤ i ∧ i < c := by
  unfold upto
  simp only [List.mem_map, List.mem_range]
  constructor
  · rintro ⟨m, h, rfl⟩; omega
  · rintro ⟨h1, h2⟩; exact ⟨i.toNat, by omega, by omega⟩
theorem upto_len (c : Int) : (upto c).length = c.toNat := by simp [upto]
theorem rangeD_upto (c : Int) : rangeD 0 c.toNat = (upto c).map .int := by
  rw [rangeD_eq]
  unfold upto
  rw [List.map_map]
  refine List.map_congr_left fun m _ => ?_
  simp
end PD
end
section
set_option Elab.async false
set_option linter.all false
set_option maxRecDepth 100000
set_option maxHeartbeats 4000000
set_option autoImplicit false
namespace PD
open PySem PySem.Spec L2
open PyProof.Rows hiding St
variable [Live]
/-! ### it ends, and so -/
section
variable {α β : Type}
def Wp (o : Option (α × G)) (Q : α → G → Prop) : Prop := ∃ a g', o = some (a, g') ∧ Q a g'
@[simp] theorem wp_some (a : α) (g : G) (Q : α → G → Prop) : Wp (some (a, g)) Q ↔ Q a g := by
  constructor
  · rintro ⟨a', g', e, h⟩
    cases e
    exact h
  · exact fun h => ⟨a, g, rfl, h⟩
theorem wp_bind {m : Option (α × G)} {k : α × G → Option (β × G)} {Q : β → G → Prop} (h : Wp m fun a g => Wp (k (a, g)) Q) : Wp (m.bind k) Q := by
  obtain ⟨a, g, rfl, h⟩ := h
  exact h
theorem wp_mono {m : Option (α × G)} {P Q : α → G → Prop} (h : Wp m P) (hPQ : ∀ a g, P a g → Q a g) : Wp m Q := by
  obtain ⟨a, g, e, h⟩ := h
  exact ⟨a, g, e, hPQ a g h⟩
/-- behind a veil: what is asked stays as it is while the run is reckoned -/
theorem wp_hide {m : Option (α × G)} {Q : α → G → Prop} (h : ∀ Q' : α → G → Prop, (∀ a g, Q a g → Q' a g) → Wp m Q') : Wp m Q := h Q fun _ _ h => h
end
/-- a loop's body goes on, and then J -/
def Goes (J : Rho → G → Prop) : Fl → G → Prop
  | .nx ρ, g => J ρ g
  | .ct ρ, g => J ρ g
  | _, _ => False
@[simp] theorem goes_nx (J : Rho → G → Prop) (ρ : Rho) (g : G) : Goes J (.nx ρ) g ↔ J ρ g := Iff.rfl
@[simp] theorem goes_ct (J : Rho → G → Prop) (ρ : Rho) (g : G) : Goes J (.ct ρ) g ↔ J ρ g := Iff.rfl
def Ends' (Q : D → G → Prop) : Fl → G → Prop
  | .rt d, g => Q d g
  | .nx _, g => Q .non g
  | _, _ => False
@[simp] theorem ends_rt (Q : D → G → Prop) (d : D) (g : G) : Ends' Q (.rt d) g ↔ Q d g := Iff.rfl
@[simp] theorem ends_nx (Q : D → G → Prop) (ρ : Rho) (g : G) : Ends' Q (.nx ρ) g ↔ Q .non g := Iff.rfl
theorem wp_runF {n : Nat} {f : S} {ds : List D} {g : G} {Q : D → G → Prop} (h : Wp (f (slots0 n ds) g) (Ends' Q)) : Wp (runF n f ds g) Q := by
  obtain ⟨fl, g', e, h⟩ := h
  cases fl with
  | rt d => exact ⟨d, g', runF_rt e, h⟩
  | nx ρ => exact ⟨.non, g', runF_nx e, h⟩
  | bk ρ => exact h.elim
  | xc nm f d ρ => exact h.elim
  | ct ρ => exact h.elim
theorem wp_for {α : Type} {f : α → D} {bd : B} {b : S} {Q : Fl → G → Prop} (xs : List α) (I : List α → Rho → G → Prop) {ρ : Rho} {g : G} (h0 : I [] ρ g)
    (hs : ∀ (done : List α) (x : α) (todo : List α) (ρ : Rho) (g : G), xs = done ++ x :: todo → I done ρ g → ∃ ρ1, bd (f x) ρ = some ρ1 ∧ Wp (b ρ1 g) (Goes (I (done ++ [x]))))
    (hQ : ∀ (ρ : Rho) (g : G), I xs ρ g → Q (.nx ρ) g) : Wp (forL bd b (xs.map f) ρ g) Q := by
  have key : ∀ (todo done : List α) (ρ : Rho) (g : G), xs = done ++ todo → I done ρ g → Wp (forL bd b (todo.map f) ρ g) Q := by
    intro todo
    induction todo with
    | nil =>
      intro done ρ g e h
      rw [List.append_nil] at e
      subst e
      exact ⟨_, _, rfl, hQ _ _ h⟩
    | cons x todo ih =>
      intro done ρ g e h
      obtain ⟨ρ1, e1, fl, g', e2, h2⟩ := hs done x todo ρ g e h
      rw [List.map_cons, forL_cons, e1]
      simp only [Option.bind_some, e2]
      cases fl with
      | nx ρ' => exact ih (done ++ [x]) ρ' g' (by rw [e]; simp) h2
      | ct ρ' => exact ih (done ++ [x]) ρ' g' (by rw [e]; simp) h2
      | rt d => exact h2.elim
      | bk ρ' => exact h2.elim
      | xc nm f d ρ' => exact h2.elim
  exact key xs [] ρ g rfl h0
theorem wp_lc {α : Type} {f : α → D} {bd : B} {t : T} {e : E} {ρ : Rho} {g : G} {Q : List D → G → Prop} (xs : List α) (I : List α → List D → G → Prop) (h0 : I [] [] g)
    (hs : ∀ (done : List α) (x : α) (todo : List α) (r : List D) (g : G), xs = done ++ x :: todo → I done r g → ∃ ρ', bd (f x) ρ = some ρ' ∧ Wp (t ρ' g) fun k g1 => if k = true then Wp (e ρ' g1) (fun d g2 => I (done ++ [x]) (r ++ [d]) g2) else I (done ++ [x]) r g1)
    (hQ : ∀ (r : List D) (g : G), I xs r g → Q r g) : Wp (lcL bd t e ρ (xs.map f) g) Q := by
  have key : ∀ (todo done : List α) (r : List D) (g : G), xs = done ++ todo → I done r g → Wp (lcL bd t e ρ (todo.map f) g) fun r' g' => Q (r ++ r') g' := by
    intro todo
    induction todo with
    | nil =>
      intro done r g e h
      rw [List.append_nil] at e
      subst e
      exact ⟨[], g, rfl, by show Q (r ++ []) g; rw [List.append_nil]; exact hQ _ _ h⟩
    | cons x todo ih =>
      intro done r g e h
      obtain ⟨ρ1, e1, k, g', e2, h2⟩ := hs done x todo r g e h
      rw [List.map_cons, lcL_cons, e1]
      simp only [Option.bind_some, e2]
      cases k with
      | true =>
        simp only [if_true] at h2 ⊢
        obtain ⟨d, g2, e3, h3⟩ := h2
        rw [e3]
        simp only [Option.bind_some]
        obtain ⟨r', g3, e4, h4⟩ := ih (done ++ [x]) (r ++ [d]) g2 (by rw [e]; simp) h3
        rw [e4]
        refine ⟨d :: r', g3, rfl, ?_⟩
        simpa using h4
      | false =>
        simp only [Bool.false_eq_true, if_false] at h2 ⊢
        exact ih (done ++ [x]) r g' (by rw [e]; simp) h2
  have := key xs [] [] g rfl h0
  simpa using this
theorem wp_lcY {α : Type} {f : α → D} {bd : B} {e : E} {ρ : Rho} {g : G} {Q : List D → G → Prop} (xs : List α) (I : List α → List D → G → Prop) (h0 : I [] [] g)
    (hs : ∀ (done : List α) (x : α) (todo : List α) (r : List D) (g : G), xs = done ++ x :: todo → I done r g → ∃ ρ', bd (f x) ρ = some ρ' ∧ Wp (e ρ' g) (fun d g2 => I (done ++ [x]) (r ++ [d]) g2))
    (hQ : ∀ (r : List D) (g : G), I xs r g → Q r g) : Wp (lcL bd tYesD e ρ (xs.map f) g) Q :=
  wp_lc xs I h0 (fun done x todo r g e h => by
    obtain ⟨ρ', h1, h2⟩ := hs done x todo r g e h
    exact ⟨ρ', h1, true, g, rfl, h2⟩) hQ
/-! ### shown -/
mutual
def shB : D → Bool
  | .int i => decide (i.natAbs.log2 < 1920)
  | .str x => x.cps.toList.all fun c => decide (c < 16 ^ 8)
  | .tup l => shBA l
  | .lst l => shBA l
  | _ => true
def shBA : List D → Bool
  | [] => true
  | d :: l => shB d && shBA l
end
mutual
def shW : D → Nat
  | .int _ => 1921
  | .str x => 10 * x.length + 2
  | .tup l => shWA l + 4
  | .lst l => shWA l + 4
  | _ => 8
def shWA : List D → Nat
  | [] => 0
  | d :: l => shW d + 2 + shWA l
end
theorem join_cons_le (t : Str) (ts : List Str) : (Str.join ", " (t :: ts)).length ≤ t.length + 2 + (Str.join ", " ts).length := by
  cases ts with
  | nil =>
    show t.length ≤ _
    omega
  | cons u us =>
    show ((t ++ ", ") ++ Str.join ", " (u :: us)).length ≤ _
    rw [Str.length_append, Str.length_append]
    have : (", " : Str).length = 2 := by rfl
    omega
mutual
theorem shown_le : ∀ d : D, shB d = true → (toPy d).showable = true ∧ (shows d).length ≤ shW d
  | .non, _ => ⟨by simp [toPy, PyData.showable], by unfold shows; rw [toPy, PyData.shown_none]; decide⟩
  | .bl b, _ => ⟨by simp [toPy, PyData.showable], by unfold shows; rw [toPy, PyData.shown_bool]; cases b <;> decide⟩
  | .dk _ _, _ => ⟨by simp [toPy, PyData.showable], by unfold shows; rw [toPy, PyData.shown_none]; simp only [shW]; decide⟩
  | .dt _ _, _ => ⟨by simp [toPy, PyData.showable], by unfold shows; rw [toPy, PyData.shown_none]; simp only [shW]; decide⟩
  | .hd _, _ => ⟨by simp [toPy, PyData.showable], by unfold shows; rw [toPy, PyData.shown_none]; simp only [shW]; decide⟩
  | .tx _, _ => ⟨by simp [toPy, PyData.showable], by unfold shows; rw [toPy, PyData.shown_none]; simp only [shW]; decide⟩
  | .int i, h => by
    have h : decide (i.natAbs.log2 < 1920) = true := by simpa [shB] using h
    refine ⟨by simp only [toPy, PyData.showable]; exact h, ?_⟩
    unfold shows
    rw [toPy, PyData.shown_int]
    simp only [shW]
    exact int_text_len_1921 (of_decide_eq_true h)
  | .str x, h => by
    have h : (x.cps.toList.all fun c => decide (c < 16 ^ 8)) = true := by simpa [shB] using h
    refine ⟨by simp [toPy, PyData.showable], ?_⟩
    unfold shows
    rw [toPy, PyData.shown_str]
    simp only [shW]
    exact PySem.StrLaws.reprText_len x fun c hc => of_decide_eq_true (List.all_eq_true.mp h c hc)
  | .tup l, h => by
    obtain ⟨h1, h2⟩ := shown_leA l (by simpa [shB] using h)
    refine ⟨by simp only [toPy, PyData.showable]; exact h1, ?_⟩
    unfold shows
    rw [toPy, PyData.shown_tuple, Str.length_append, Str.length_append]
    simp only [shW]
    have a1 : ("(" : Str).length = 1 := by rfl
    have a2 : ((if (toPyA l).length == 1 then ",)" else ")" : String) : Str).length ≤ 2 := by split <;> decide
    omega
  | .lst l, h => by
    obtain ⟨h1, h2⟩ := shown_leA l (by simpa [shB] using h)
    refine ⟨by simp only [toPy, PyData.showable]; exact h1, ?_⟩
    unfold shows
    rw [toPy, PyData.shown_list, Str.length_append, Str.length_append]
    simp only [shW]
    have a1 : ("[" : Str).length = 1 := by rfl
    have a2 : ("]" : Str).length = 1 := by rfl
    omega
theorem shown_leA : ∀ l : List D, shBA l = true → PyData.showableAll (toPyA l) = true ∧ (Str.join ", " (PyData.shownAll (toPyA l))).length ≤ shWA l
  | [], _ => ⟨by simp [toPyA, PyData.showableAll], by rw [toPyA, PyData.shownAll_nil]; decide⟩
  | d :: l, h => by
    have h : shB d = true ∧ shBA l = true := by simpa [shBA] using h
    obtain ⟨h1, h2⟩ := shown_le d h.1
    obtain ⟨h3, h4⟩ := shown_leA l h.2
    refine ⟨by simp only [toPyA, PyData.showableAll, h1, h3, Bool.and_self], ?_⟩
    rw [toPyA, PyData.shownAll_cons]
    have := join_cons_le (PyData.shown (toPy d)) (PyData.shownAll (toPyA l))
    unfold shows at h2
    simp only [shWA]
    omega
end
theorem reprD_of {d : D} (h1 : cmpOk d = true) (h2 : shB d = true) (h3 : shW d ≤ 16777216) : reprD [d] = some (.str (shows d)) := by
  obtain ⟨h4, h5⟩ := shown_le d h2
  show (if showOk d = true then _ else _) = _
  rw [if_pos]
  unfold showOk
  rw [h1, h4]
  simp only [Bool.true_and, decide_eq_true_eq]
  rw [sizeLine_eq]
  omega
end PD
end
section
set_option Elab.async false
set_option linter.all false
set_option maxRecDepth 100000
set_option maxHeartbeats 4000000
set_option autoImplicit false
/-! ### dict(zip(..)) of two tuples -/
namespace PD
open PySem
variable [Live]
section
variable {prog : Program} {w : World} {A : Around} {E : Value → Shared → Prop} {s : Shared} {zz ti to tt j1 j2 p1 p2 : Addr} {fl : Bool} {ot : Obj} {n1 n2 : Nat} {us vs : Array Value}
end
section
variable {prog : Program} {w : World}
end
end PD
end
section
set_option Elab.async false
set_option linter.all false
set_option maxRecDepth 100000
set_option maxHeartbeats 4000000
set_option autoImplicit false
namespace PD
open PySem PySem.Spec L2
open PyProof.Rows hiding St
variable [Live]
/-! ### dict(zip(names, values)) -/
end PD
end
section
set_option Elab.async false
set_option linter.all false
set_option maxRecDepth 100000
set_option maxHeartbeats 4000000
set_option autoImplicit false
namespace PD
open PySem PySem.Spec L2
open PyProof.Rows hiding St
variable [Live]
def dzD (ds : List D) : Option (List Key × List D) := match ds with
  | [.tup l, .tup m] => if l.length = m.length then (strsD l).map fun xs => mergeD ([], []) (xs.map Sum.inr) m else none
  | _ => none
def eDz (fs : EA) : EK := fun ρ => mb (fs ρ) fun ds => ml (dzD ds)
@[simp] theorem eDz_ap (fs : EA) (ρ : Rho) (g : G) : eDz fs ρ g = (fs ρ g).bind fun p => (dzD p.1).map fun r => (r, p.2) := by simp [eDz]
section
variable {X : Cx} {a e e2 : Expr} {f fa : E} {fs : EA} {p q pos zp ap cp : Pos}
/-! ### t.index(x) of a tuple of texts -/
def idxS (z : Str) : List Str → Option Nat
  | [] => none
  | x :: l => if x = z then some 0 else (idxS z l).map (· + 1)
/-! ### tuples of texts of which all is known (D.tx) -/
def plD : D → D
  | .tx xs => .tup (xs.map .str)
  | d => d
@[simp] theorem plD_tx (xs : List Str) : plD (.tx xs) = .tup (xs.map .str) := rfl
@[simp] theorem plD_tup (l : List D) : plD (.tup l) = .tup l := rfl
@[simp] theorem plD_non : plD .non = .non := rfl
def ePl (f : E) : E := fun ρ => mb (f ρ) fun d => mr (plD d)
@[simp] theorem ePl_ap (f : E) (ρ : Rho) (g : G) : ePl f ρ g = (f ρ g).map fun p => (plD p.1, p.2) := by
  simp only [ePl, mb_ap, mr_ap]
  cases f ρ g <;> rfl
def txD (ds : List D) : Option D := (strsD ds).bind fun xs => if xs.length ≤ sizeLine then some (.tx xs) else none
def eTx (fs : EA) : E := fun ρ => mb (fs ρ) fun ds => ml (txD ds)
@[simp] theorem eTx_ap (fs : EA) (ρ : Rho) (g : G) : eTx fs ρ g = (fs ρ g).bind fun p => (txD p.1).map fun d => (d, p.2) := by simp [eTx]
def indexTD (x y : D) : Option D := match x, y with
  | .tx xs, .str z => (idxS z xs).map fun n => D.int (Int.ofNat n)
  | _, _ => none
def eIndexT (a b : E) : E := fun ρ => mb (a ρ) fun x => mb (b ρ) fun y => ml (indexTD x y)
@[simp] theorem eIndexT_ap (a b : E) (ρ : Rho) (g : G) : eIndexT a b ρ g = (a ρ g).bind fun p => (b ρ p.2).bind fun q => (indexTD p.1 q.1).map fun d => (d, q.2) := by simp [eIndexT]
/-! ### tuple(range(n)), list(range(n)) -/
def upD (d : D) : Option (List D) := match d with
  | .int n => if 0 ≤ n ∧ n ≤ 16777216 then some ((upto n).map .int) else none
  | _ => none
def eTupRg (f : E) : E := fun ρ => mb (f ρ) fun d => ml ((upD d).map .tup)
def aLstRg (f : E) : EA := fun ρ => mb (f ρ) fun d => ml (upD d)
@[simp] theorem eTupRg_ap (f : E) (ρ : Rho) (g : G) : eTupRg f ρ g = (f ρ g).bind fun p => ((upD p.1).map .tup).map fun d => (d, p.2) := by simp [eTupRg]
@[simp] theorem aLstRg_ap (f : E) (ρ : Rho) (g : G) : aLstRg f ρ g = (f ρ g).bind fun p => (upD p.1).map fun d => (d, p.2) := by simp [aLstRg]
end
end PD
end
section
set_option Elab.async false
set_option linter.all false
set_option maxRecDepth 100000
set_option maxHeartbeats 4000000
set_option autoImplicit false
namespace PD
open PySem PySem.Spec L2
open PyProof.Rows hiding St
variable [Live]
/-! ### y = [.. for .. for ..], y a list of one's own -/
section
variable {X : Cx} {elt tg iter tg1 iter1 : Expr} {ifs ifs1 : List Expr} {scope : Scope} {it it1 : EA} {bd bd1 : B} {t t1 : T} {f : E} {sl sl1 : List Nat} {pos : Pos}
end
/-! ### xs[::k], k from 1 on -/
def stepL {α : Type} (k : Int) (l : List α) : List α := (sliceRange 0 l.length k).filterMap (l[·]?)
def stepD (x y : D) : Option (List D) := match x, y with
  | .lst l, .int k => if 1 ≤ k then some (stepL k l) else none
  | _, _ => none
def aStep (f fs : E) : EA := fun ρ => mb (f ρ) fun x => mb (fs ρ) fun y => ml (stepD x y)
@[simp] theorem aStep_ap (f fs : E) (ρ : Rho) (g : G) : aStep f fs ρ g = (f ρ g).bind fun p => (fs ρ p.2).bind fun q => (stepD p.1 q.1).map fun d => (d, q.2) := by simp [aStep]
/-! ### xs[::-1] -/
def revD (x : D) : Option (List D) := match x with
  | .lst l => some l.reverse
  | _ => none
def aRev (f : E) : EA := fun ρ => mb (f ρ) fun x => ml (revD x)
@[simp] theorem aRev_ap (f : E) (ρ : Rho) (g : G) : aRev f ρ g = (f ρ g).bind fun p => (revD p.1).map fun d => (d, p.2) := by simp [aRev]
theorem rpA_rev {K : PySem.W.Frag} {F : Fz} {vs : List V} {ds : List D} (r : RpA K F vs ds) : RpA K F vs.reverse ds.reverse := by
  have go : ∀ {vs : List V} {ds : List D} {us : List V} {es : List D}, RpA K F vs ds → RpA K F us es → RpA K F (vs.reverseAux us) (ds.reverseAux es) := by
    intro vs
    induction vs with
    | nil =>
      intro ds us es h1 h2
      cases h1
      exact h2
    | cons v vs ih =>
      intro ds us es h1 h2
      cases h1 with
      | cons a b =>
        have z := ih b (RpA.cons a h2)
        exact z
  exact go r .nil
theorem po_rev {X : Cx} {e : Expr} {f : E} {k : Nat} {p1 p2 p3 pos : Pos} (he : PD X e f) : PO X (.Subscript e (.Slice none none (some (.UnaryOp .USub (.Constant (.int 1) k p1) p2)) p3) pos) (aRev f) := by
  obtain ⟨t, ht, k⟩ := he
  refine ⟨_, pe_revL ht, fun σ H F ρ g pre d g' ev Q qq => ?_⟩
  obtain ⟨x, g1, e1, ev⟩ := mb_inv ev
  obtain ⟨e3, rfl⟩ := ml_inv ev
  unfold revD at e3
  split at e3
  · cases e3
    refine k σ H F ρ g pre _ _ e1 _ fun v H1 F1 s1 r1 => ?_
    obtain ⟨a, xs, rfl, h1, h2, h3⟩ := rp_lst r1
    refine ⟨a, xs, rfl, sqL_mono s1.sub h1, fun w hw => ?_⟩
    exact qq w _ F1 _ (s1.trans (.allocO s1.sub s1.rep hw)) (s1.mono _ hw) (s1.sub.free hw) (s1.rep.out hw) upd_same (by rw [List.length_reverse]; exact h2) (rpA_rev h3)
  · cases e3
end PD
end
section
set_option Elab.async false
set_option linter.all false
set_option maxRecDepth 100000
set_option maxHeartbeats 4000000
set_option autoImplicit false
/-! ### list(zip(..)) of two tuples -/
namespace PD
open PySem
variable [Live]
section
variable {prog : Program} {w : World} {A : Around} {E : Value → Shared → Prop} {s : Shared} {zz ti to j1 j2 p1 p2 d : Addr} {us vs : Array Value}
end
end PD
end
section
set_option Elab.async false
set_option linter.all false
set_option maxRecDepth 100000
set_option maxHeartbeats 4000000
set_option autoImplicit false
namespace PD
open PySem PySem.Spec L2
open PyProof.Rows hiding St
variable [Live]
/-! ### dict(list(zip(names, values)) + list(zip(names, values))) -/
def pairO (u v : Value) : Obj := { cls := .type "tuple", data := .seq #[u, v] }
/-- a new list of pairs stands at L -/
def LZ (xs : List Str) (ys : List V) (L : Addr) (acc : Array Value) (news : List (Addr × Obj)) : Prop := acc.size = xs.length ∧ xs.length = ys.length ∧ xs.length ≤ sizeLine ∧ (∃ c, (L, ({ cls := .type "list", data := .seq acc c } : Obj)) ∈ news) ∧
  ∀ (j : Nat) (x : Str) (y : V), xs[j]? = some x → ys[j]? = some y → ∃ (T : Addr) (t : Tok) (v : Value), acc[j]? = some (Value.ref T) ∧ RelV y v ∧ (T, pairO (.str x t) v) ∈ news
theorem LZ.mono {xs : List Str} {ys : List V} {L : Addr} {acc : Array Value} {news news' : List (Addr × Obj)} (h : LZ xs ys L acc news) (k : ∀ p ∈ news, p ∈ news') : LZ xs ys L acc news' := by
  obtain ⟨h1, h2, h3, ⟨c, h4⟩, h5⟩ := h
  refine ⟨h1, h2, h3, ⟨c, k _ h4⟩, fun j x y a b => ?_⟩
  obtain ⟨T, t, v, q1, q2, q3⟩ := h5 j x y a b
  exact ⟨T, t, v, q1, q2, k _ q3⟩
section
variable {X : Cx} {e e2 e3 e4 : Expr} {ta tb : TA} {p zp q pos p' zp' q' pos' dp dpos bpos : Pos}
end
end PD
end
section
set_option Elab.async false
set_option linter.all false
set_option maxRecDepth 100000
set_option maxHeartbeats 4000000
set_option autoImplicit false
namespace PD
open PySem PySem.Spec L2
open PyProof.Rows hiding St
variable [Live]
/-! ### dict(list(zip(..)) + list(zip(..))) by data -/
def dz2D (ds es : List D) : Option (List Key × List D) := match ds, es with
  | [.tup l, .tup m], [.tup l', .tup m'] => if l.length = m.length ∧ l'.length = m'.length ∧ l.length + l'.length ≤ sizeLine then (strsD l).bind fun xs => (strsD l').map fun ys => mergeD ([], []) (xs.map Sum.inr ++ ys.map Sum.inr) (m ++ m') else none
  | _, _ => none
def eDz2 (fs gs : EA) : EK := fun ρ => mb (fs ρ) fun ds => mb (gs ρ) fun es => ml (dz2D ds es)
@[simp] theorem eDz2_ap (fs gs : EA) (ρ : Rho) (g : G) : eDz2 fs gs ρ g = (fs ρ g).bind fun p => (gs ρ p.2).bind fun q => (dz2D p.1 q.1).map fun r => (r, q.2) := by
  unfold eDz2
  rw [mb_ap]
  congr 1
  funext p
  rw [mb_ap]
  congr 1
  funext q
  exact ml_ap _ _
section
variable {X : Cx} {a e e2 e3 e4 : Expr} {f fa : E} {fs gs : EA} {p zp q pos p' zp' q' pos' dp dpos bpos : Pos}
end
/-! ### tuple(list of texts), known whole -/
section
variable {X : Cx} {e : Expr} {fs : EA} {p pos : Pos}
end
/-! ### dict(pairs) whose keys are tuples of ints -/
def kI (ns : List Int) : List Key := ns.map Sum.inl
def intsD : List D → Option (List Int)
  | [] => some []
  | .int i :: l => (intsD l).map (i :: ·)
  | _ => none
theorem intsD_ok : ∀ {l : List D} {ns : List Int}, intsD l = some ns → l = ns.map D.int
  | [], ns, e => by cases e; rfl
  | .int i :: l, ns, e => by
    obtain ⟨ms, h1, rfl⟩ := Option.map_eq_some_iff.mp (show (intsD l).map (i :: ·) = some ns from e)
    rw [intsD_ok h1]
    rfl
  | .non :: _, ns, e => by cases e
  | .bl _ :: _, ns, e => by cases e
  | .str _ :: _, ns, e => by cases e
  | .tup _ :: _, ns, e => by cases e
  | .lst _ :: _, ns, e => by cases e
  | .dk _ _ :: _, ns, e => by cases e
  | .dt _ _ :: _, ns, e => by cases e
  | .hd _ :: _, ns, e => by cases e
  | .tx _ :: _, ns, e => by cases e
theorem intsD_map (ns : List Int) : intsD (ns.map .int) = some ns := by
  induction ns with
  | nil => rfl
  | cons n ns ih =>
    show (intsD (ns.map .int)).map (n :: ·) = _
    rw [ih]
    rfl
section
variable {X : Cx} {a b e : Expr} {fa fb : E} {fs : EA} {p pos : Pos} {k : Nat}
end
/-! ### d[t], t in d -/
def lookT (ks : List (List Key)) (l : List D) (k : List Key) : Option D := match ks, l with
  | k' :: ks, d :: l => if k' = k then some d else lookT ks l k
  | _, _ => none
def getT (x y : D) : Option D := match x, y with
  | .dt ks l, .tup m => (intsD m).bind fun ns => lookT ks l (kI ns)
  | _, _ => none
end PD
end
section
set_option Elab.async false
set_option linter.all false
set_option maxRecDepth 100000
set_option maxHeartbeats 4000000
set_option autoImplicit false
namespace PD
open PySem PySem.Spec L2
open PyProof.Rows hiding St
variable [Live]
/-! ### things of the store, looked at as they are -/
def optA (f : D → Option D) : List D → Option (List D)
  | [] => some []
  | d :: l => (f d).bind fun x => (optA f l).map (x :: ·)
/-- lists of the store in the place of their handles -/
def rsv : Nat → G → D → Option D
  | 0, _, d => some d
  | k + 1, g, d => match d with
    | .hd n => match g[n]? with
      | some (.ml l) => (optA (rsv k g) l).map .lst
      | _ => none
    | .lst l => (optA (rsv k g) l).map .lst
    | .tup l => (optA (rsv k g) l).map .tup
    | d => some d
def allF (F : Fz) (H : Hp) : Fz := ⟨H, F.mu⟩
theorem ext_all {F : Fz} {H : Hp} (s : Same F.h H) : Ext F (allF F H) := ⟨s, List.prefix_refl _⟩
theorem rpA_opt {K : PySem.W.Frag} {F W : Fz} {f : D → Option D} (h : ∀ v d d', Rp K F v d → f d = some d' → Rp K W v d') : ∀ {l l' : List D} {vs : List V}, RpA K F vs l → optA f l = some l' → RpA K W vs l'
  | [], l', vs, r, e => by cases r; cases e; exact .nil
  | d :: l, l', vs, r, e => by
    obtain ⟨x, e1, e2⟩ := Option.bind_eq_some_iff.mp e
    obtain ⟨m, e3, rfl⟩ := Option.map_eq_some_iff.mp e2
    cases r with
    | cons r0 rr => exact .cons (h _ _ _ r0 e1) (rpA_opt h rr e3)
theorem rp_rsv {K : PySem.W.Frag} {F : Fz} {H : Hp} {g : G} (s : Same F.h H) (r : GRep K g F H) : ∀ (k : Nat) (v : V) (d d' : D), Rp K F v d → rsv k g d = some d' → Rp K (allF F H) v d'
  | 0, v, d, d', h, e => by cases e; exact h.mono (ext_all s)
  | k + 1, v, d, d', h, e => by
    have ih := rp_rsv s r k
    unfold rsv at e
    split at e
    · rename_i n
      split at e
      · rename_i l hg
        obtain ⟨l', e1, rfl⟩ := Option.map_eq_some_iff.mp e
        obtain ⟨a, hm, _, vs, h3, h4, h5⟩ := r.get hg
        have := rp_hd h hm
        subst this
        exact .lst (.of h3) h4 (rpA_opt ih h5 e1)
      · cases e
    · obtain ⟨l', e1, rfl⟩ := Option.map_eq_some_iff.mp e
      obtain ⟨a, xs, rfl, h1, h2, h3⟩ := rp_lst h
      exact .lst (sqL_mono s h1) h2 (rpA_opt ih h3 e1)
    · obtain ⟨l', e1, rfl⟩ := Option.map_eq_some_iff.mp e
      obtain ⟨a, xs, rfl, h1, h2, h3⟩ := rp_tup h
      exact .tup (sqT_mono s h1) h2 (rpA_opt ih h3 e1)
    · cases e
      exact h.mono (ext_all s)
def rs2 (h : D → D → Option Bool) (g : G) (x y : D) : Option Bool := (rsv 4 g x).bind fun x' => (rsv 4 g y).bind fun y' => h x' y'
def tCmpR (h : D → D → Option Bool) (a b : E) : T := fun ρ => mb (a ρ) fun x => mb (b ρ) fun y => fun g => (rs2 h g x y).map fun r => (r, g)
def eCmpR (h : D → D → Option Bool) (a b : E) : E := fun ρ => mb (a ρ) fun x => mb (b ρ) fun y => fun g => (rs2 h g x y).map fun r => (.bl r, g)
@[simp] theorem tCmpR_ap (h : D → D → Option Bool) (a b : E) (ρ : Rho) (g : G) : tCmpR h a b ρ g = (a ρ g).bind fun p => (b ρ p.2).bind fun q => (rs2 h q.2 p.1 q.1).map fun r => (r, q.2) := by
  refine (mb_ap _ _ _).trans ?_
  congr 1
  funext p
  exact mb_ap _ _ _
@[simp] theorem eCmpR_ap (h : D → D → Option Bool) (a b : E) (ρ : Rho) (g : G) : eCmpR h a b ρ g = (a ρ g).bind fun p => (b ρ p.2).bind fun q => (rs2 h q.2 p.1 q.1).map fun r => (.bl r, q.2) := by
  refine (mb_ap _ _ _).trans ?_
  congr 1
  funext p
  exact mb_ap _ _ _
def eBiR (h : List D → Option D) (as : EA) : E := fun ρ => mb (as ρ) fun ds => fun g => ((optA (rsv 4 g) ds).bind h).map fun d => (d, g)
@[simp] theorem eBiR_ap (h : List D → Option D) (as : EA) (ρ : Rho) (g : G) : eBiR h as ρ g = (as ρ g).bind fun p => ((optA (rsv 4 p.2) p.1).bind h).map fun d => (d, p.2) := by
  exact mb_ap _ _ _
section
variable {X : Cx} {a b e : Expr} {es : List Expr} {fa fb f : E} {fs : EA} {x : Str} {p pos q : Pos} {id T : String} {k : Nat}
theorem pdt_cmpR {op : CmpOp} {r : R2} {h : D → D → Option Bool} (ho : OpR X (compareOp op) r) (hh : OpB X.K r h) (ha : PD X a fa) (hb : PD X b fb) (hm : behindInMarks op b = false := by first | exact nomark _ | rfl) :
    PDT X (.Compare a [op] [b] pos) (tCmpR h fa fb) := by
  obtain ⟨ta, pa, ka⟩ := ha
  obtain ⟨tb, pb, kb⟩ := hb
  refine ⟨_, pt_cmpR ho pa pb hm, fun σ H F ρ g pre d g' e Q q => ?_⟩
  obtain ⟨dx, g1, e1, e⟩ := mb_inv e
  obtain ⟨dy, g2, e2, e⟩ := mb_inv e
  obtain ⟨b, e4, e5⟩ := Option.map_eq_some_iff.mp e
  cases e5
  obtain ⟨x', e6, e7⟩ := Option.bind_eq_some_iff.mp e4
  obtain ⟨y', e8, e9⟩ := Option.bind_eq_some_iff.mp e7
  refine ka σ H F ρ g pre dx g1 e1 _ fun x H1 F1 s1 r1 => ?_
  refine kb σ H1 F1 ρ g1 (pre.step s1) dy _ e2 _ fun y H2 F2 s2 r2 => ?_
  exact hh (allF F2 H2) H2 x y x' y' _ (Same.refl _) (rp_rsv s2.sub s2.rep 4 _ _ _ (r1.mono s2.ext) e6) (rp_rsv s2.sub s2.rep 4 _ _ _ r2 e8) e9 _ ⟨_, rfl, q H2 F2 (s1.trans s2)⟩
theorem pd_biR {r : List V → Hp → VK → Prop} {h : List D → Option D} (hc : CallR X (.builtin id) r) (hh : CallB X.K r h) (hm : X.mg x = none) (ha : PDA X (e :: es) fs) (hv : bootBuiltins x = some (.builtin id) := by decide +kernel) (hg : Gl X x := by rfl) (hn : x ≠ "__name__" := by decide)
    (hdb : (x == ("__debug__" : Str)) = false := by decide) (he : starEach (e :: es) X.env = (false, eval e X.env) :: starEach es X.env := by rfl) (hpl : (backTo pos (starEach es X.env)).any (·.1) = false := by rfl) :
    PD X (.Call (.Name x p) (e :: es) [] pos) (eBiR h fs) := by
  obtain ⟨t, ht, k⟩ := ha
  refine ⟨_, pe_callB hc hg hm hv ht hn hdb he hpl, fun σ H F ρ g pre d g' e Q q => ?_⟩
  obtain ⟨ds, g1, e1, e⟩ := mb_inv e
  obtain ⟨b, e4, e5⟩ := Option.map_eq_some_iff.mp e
  cases e5
  obtain ⟨ds', e6, e7⟩ := Option.bind_eq_some_iff.mp e4
  refine k σ H F ρ g pre ds _ e1 _ fun vs H1 F1 s1 r1 => ?_
  exact hh (allF F1 H1) H1 vs ds' d (Same.refl _) (rpA_opt (rp_rsv s1.sub s1.rep 4) r1 e6) e7 Q fun v rv => q v H1 F1 s1 (rv F1)
theorem pd_lenR (hm : X.mg "len" = none) (ha : PDA X [e] fs) (hg : Gl X "len" := by rfl) (he : starEach [e] X.env = (false, eval e X.env) :: starEach [] X.env := by rfl) : PD X (.Call (.Name "len" p) [e] [] pos) (eBiR lenD fs) :=
  pd_biR call_lenA lenD_ok hm ha (by decide +kernel) hg (by decide) (by decide) he (by rfl)
def eIsiR (T : Ty) (f : E) : E := fun ρ => mb (f ρ) fun d => fun g => ((rsv 1 g d).bind fun d' => (isiD T d').map .bl).map fun d => (d, g)
@[simp] theorem eIsiR_ap (T : Ty) (f : E) (ρ : Rho) (g : G) : eIsiR T f ρ g = (f ρ g).bind fun p => ((rsv 1 p.2 p.1).bind fun d' => (isiD T d').map .bl).map fun d => (d, p.2) := by
  exact mb_ap _ _ _
end
/-! ### x.append(e) of a list of the store -/
section
variable {X : Cx} {e : Expr} {f : E} {x : Str} {p pos ap cp : Pos}
end
/-! ### for over a list of the store that stays as it is -/
open Classical in
section
variable {X : Cx} {tg iter c : Expr} {body : List Stmt} {f : E} {sl : List Nat} {bd : B} {b : S} {tc : T} {pos : Pos}
end
/-! ### s.split(one sign) -/
def splC (c : Nat) : List Nat → List Nat → List (List Nat)
  | acc, [] => [acc]
  | acc, d :: r => if d = c then acc :: splC c [] r else splC c (acc ++ [d]) r
theorem spl_one (c : Nat) : ∀ (r acc : List Nat), TL.spl [c] 0 acc r = splC c acc r
  | [], acc => rfl
  | d :: r, acc => by
    have hp : TL.pre [c] (d :: r) = decide (d = c) := by
      by_cases h : d = c
      · subst h; simp [TL.pre]
      · simp [TL.pre, h]
        first | done | (intro e; exact absurd e.symm h) | exact fun e => h e.symm
    unfold splC
    by_cases h : d = c
    · rw [TL.spl_hit (by rw [hp]; exact decide_eq_true h), if_pos h]
      exact congrArg _ (spl_one c r [])
    · rw [if_neg h]
      show (if TL.pre [c] (d :: r) = true then _ else _) = _
      rw [if_neg (by rw [hp, decide_eq_false h]; simp)]
      exact spl_one c r (acc ++ [d])
theorem splC_mem (c : Nat) : ∀ (r acc : List Nat), ∀ y ∈ splC c acc r, (∀ x ∈ y, x ∈ acc ∨ x ∈ r) ∧ y.length ≤ acc.length + r.length
  | [], acc, y, h => by
    have : y = acc := by simpa [splC] using h
    subst this
    exact ⟨fun x hx => .inl hx, by simp⟩
  | d :: r, acc, y, h => by
    unfold splC at h
    split at h
    · rcases List.mem_cons.mp h with e | h
      · subst e
        exact ⟨fun x hx => .inl hx, by simp⟩
      · obtain ⟨h1, h2⟩ := splC_mem c r [] y h
        exact ⟨fun x hx => (h1 x hx).elim (fun z => by cases z) fun z => .inr (List.mem_cons_of_mem _ z), by simp at h2 ⊢; omega⟩
    · obtain ⟨h1, h2⟩ := splC_mem c r (acc ++ [d]) y h
      refine ⟨fun x hx => ?_, by simp at h2 ⊢; omega⟩
      rcases h1 x hx with z | z
      · rcases List.mem_append.mp z with z | z
        · exact .inl z
        · rw [List.mem_singleton.mp z]; exact .inr List.mem_cons_self
      · exact .inr (List.mem_cons_of_mem _ z)
def splD (c : Nat) (d : D) : Option (List D) := match d with
  | .str x => if x.length + 2 ≤ sizeLine then some ((splC c [] (cs x)).map fun l => .str (ofCs l)) else none
  | _ => none
def aSplit (c : Nat) (f : E) : EA := fun ρ => mb (f ρ) fun d => ml (splD c d)
@[simp] theorem aSplit_ap (c : Nat) (f : E) (ρ : Rho) (g : G) : aSplit c f ρ g = (f ρ g).bind fun p => (splD c p.1).map fun l => (l, p.2) := by
  unfold aSplit
  rw [mb_ap]
  congr 1
  funext p
  exact ml_ap _ _
section
variable {X : Cx} {e : Expr} {f : E} {ap cp sp : Pos} {j : Nat}
theorem po_split (c : Nat) {sep : Str} (hsep : sep = ⟨#[c]⟩) (hc : c < 256) (h : PD X e f) (hs : starEach [.Constant (.str sep) j sp] X.env = [(false, eval (.Constant (.str sep) j sp) X.env)] := by rfl) (hbase : attributeBase e "split" X.env (eval e X.env) = eval e X.env := by rfl) (hline : (ap.endLine == cp.line) = true := by rfl) :
    PO X (.Call (.Attribute e "split" ap) [.Constant (.str sep) j sp] [] cp) (aSplit c f) := by
  obtain ⟨t, ht, k⟩ := h
  refine ⟨_, pe_split ht (pe_str (x := sep)) hs hbase hline, fun σ H F ρ g pre l g' ev Q qq => ?_⟩
  obtain ⟨d, g1, e1, ev⟩ := mb_inv ev
  obtain ⟨e2, rfl⟩ := ml_inv ev
  refine k σ H F ρ g pre d _ e1 _ fun v H1 F1 s1 r1 => ?_
  unfold splD at e2
  split at e2
  · rename_i x
    split at e2
    · rename_i hz
      cases e2
      obtain ⟨rfl, hx⟩ := rp_str r1
      have esp : Txt.split x sep = (splC c [] (cs x)).map ofCs := by
        have := SX.split_S (a := cs x) (b := [c]) (by simp) (by simp [hc])
        rw [spl_one] at this
        have ex : SX.S (cs x) = x := ofCs_cs x
        have es : SX.S [c] = sep := hsep.symm
        rw [ex, es] at this
        exact this
      refine ⟨⟨x, rfl⟩, x, sep, rfl, rfl, by rw [hsep]; rfl, hz, fun w hw => ?_⟩
      rw [esp]
      have el : (splC c [] (cs x)).map (fun l => D.str (ofCs l)) = ((splC c [] (cs x)).map ofCs).map D.str := by rw [List.map_map]; rfl
      have hl : ((splC c [] (cs x)).map ofCs).length ≤ sizeLine := by
        rw [← esp]
        have := PyProof.Rows.split_le x sep
        omega
      have hok : ∀ y ∈ (splC c [] (cs x)).map ofCs, sOk y = true := fun y hy => by
        obtain ⟨l, hl, rfl⟩ := List.mem_map.mp hy
        obtain ⟨h1, h2⟩ := splC_mem c (cs x) [] l hl
        have hx' := strOk_iff.mp (sOk_ok hx)
        refine sOk_mk (strOk_iff.mpr fun a ha => ?_) ?_
        · rcases h1 a ha with z | z
          · cases z
          · exact hx' a z
        · rw [← cs_len, cs_ofCs]
          rw [cs_len] at h2
          simp at h2
          omega
      have rr : RpA X.K F1 (((splC c [] (cs x)).map ofCs).map V.str) (((splC c [] (cs x)).map ofCs).map D.str) := by
        generalize (splC c [] (cs x)).map ofCs = ys at hok
        clear el hl esp e1 hw
        induction ys with
        | nil => exact .nil
        | cons y ys ih => exact .cons (.str y (hok y List.mem_cons_self)) (ih fun z hz => hok z (List.mem_cons_of_mem _ hz))
      rw [el] at qq
      exact qq w _ F1 _ (s1.trans (.allocO s1.sub s1.rep hw)) (s1.mono _ hw) (s1.sub.free hw) (s1.rep.out hw) upd_same (by rw [List.length_map]; exact hl) rr
    · cases e2
  · cases e2
end
end PD
end
section
set_option Elab.async false
set_option linter.all false
set_option maxRecDepth 100000
set_option maxHeartbeats 4000000
set_option autoImplicit false
/-! ### own exception classes over a built-in one, whose __init__ sets one field -/
namespace PD
open PySem PySem.Spec L2 PySem.W PySem.Calls
open Builtin Builtin.ObjectAttr
open PyProof.Rows hiding St
variable [Live]
structure XBase (B newId initId : String) (tail : List Value) : Prop where
  ef : ExcBaseFacts B newId initId tail
  ps : ∀ self : Value, refuseLoop self "__setattr__" tail = pure ()
  ob : tail.contains (.type "object") = true
  ne : tail.isEmpty = false
abbrev tailV : List Value := [.type "ValueError", .type "Exception", .type "BaseException", .type "object"]
abbrev tailL : List Value := [.type "LookupError", .type "Exception", .type "BaseException", .type "object"]
abbrev tailA : List Value := [.type "ArithmeticError", .type "Exception", .type "BaseException", .type "object"]
theorem xbV : XBase "ValueError" "ValueError.__new__" "ValueError.__init__" tailV := ⟨F.excBase_ValueError, fun u => F.store_ValueError.passes u, by decide +kernel, rfl⟩
theorem xbL : XBase "LookupError" "LookupError.__new__" "LookupError.__init__" tailL := ⟨F.excBase_LookupError, fun u => F.store_LookupError.passes u, by decide +kernel, rfl⟩
theorem xbA : XBase "ArithmeticError" "ArithmeticError.__new__" "ArithmeticError.__init__" tailA := ⟨F.excBase_ArithmeticError, fun u => F.store_ArithmeticError.passes u, by decide +kernel, rfl⟩
abbrev mroB (own : List Addr) (tail : List Value) : List Value := own.map Value.ref ++ tail
theorem own_pass {tail : List Value} (self : Value) (h : refuseLoop self "__setattr__" tail = pure ()) : ∀ own : List Addr, refuseLoop self "__setattr__" (mroB own tail) = pure ()
  | [] => h
  | c :: own => (refuseLoop_ref self "__setattr__" c (mroB own tail)).trans (own_pass self h own)
theorem own_has {tail : List Value} (Y : String) : ∀ own : List Addr, (mroB own tail).contains (.type Y) = tail.contains (.type Y)
  | [] => rfl
  | c :: own => by
    show (Value.ref c :: mroB own tail).contains (.type Y) = _
    rw [List.contains_cons, own_has Y own]
    rfl
structure OexB (K : PySem.W.Frag) (C : Addr) (tail : List Value) (newId : String) : Prop where
  cls : ∃ nm q N bs own sn sub ab col dd k0 k1 k2 k3 k5, K.lookup C = some (excClassObj nm q C N bs (mroB own tail) true sn sub ab col dd k0 k1 k2 k3 k5 newId)
  sa : PySem.W.findIn K (.ref C) "__setattr__" = some (some (.builtin "object.__setattr__"))
  exC : PySem.W.subIn K (.ref C) (.type "BaseException") = some true
  tyC : PySem.W.typeIn K (.ref C) = some (.type "type")
  kC : PySem.W.keepIn K (.ref C) = true
section
variable {P : Program} {w : World} {A : Around} {R : Result → Shared → Prop} {h0 : Heap} {g : Array GenState} {d : Drawn} {t : Nat} {os : OsState}
/-- object.__setattr__ of an exception without a dict -/
theorem osaB {K : PySem.W.Frag} {nm : Str} {tk : Tok} {v : Value} {x C : Addr} {fv : Array Value} {cd : ClassData} {own : List Addr} {tail : List Value} (X : K.In h0)
    (hx : h0.get? x = some { cls := .ref C, data := .fields fv }) (hcd : clsIn K C = some cd) (hm : cd.mro = mroB own tail) (hps : ∀ self : Value, refuseLoop self "__setattr__" tail = pure ()) (hob : tail.contains (.type "object") = true)
    (hh : cd.hasDict = true) (ha : findIn K (.ref C) nm = some none)
    (hq : ∀ h1 tk1 dx, (∀ b o, b ≠ x → h0.get? b = some o → h1.get? b = some o) → h0.objs.size ≤ dx → dx ≠ x → h1.get? x = some { cls := .ref C, dict := some dx, data := .fields fv } →
      h1.Ns1 dx (fun y => if y = nm then some v else none) → R (.ok (.ret .none)) ⟨h1, g, d, tk1, os⟩) :
    codeAny (model P w) A (.call (.builtin "object.__setattr__") ⟨[.ref x, .str nm tk, v], []⟩) R ⟨h0, g, d, t, os⟩ := by
  have J : InstAt h0 x { cls := .ref C, data := .fields fv } C none := ⟨hx, rfl, rfl, trivial⟩
  have FS := PySem.F.store_object
  have c1 : cd.mro.contains (.type "object") = true := by rw [hm]; exact (own_has "object" own).trans hob
  have c2 : cd.mro.isEmpty = false := by
    cases e : cd.mro with
    | nil => rw [e] at c1; exact absurd c1 (by decide)
    | cons a b => rfl
  have c3 : x ≠ h0.objs.size := Nat.ne_of_lt (Heap.lt_size hx)
  have c4 : Looks (model P w) h0 (isInstance (.ref x) (.type "object")) true :=
    J.type.andThen (looks_mroIn X (by unfold mroIn; rw [hcd, Option.bind_some, if_neg (by rw [c2]; decide), c1]))
  refine codeAny_call_builtin FS.slot.plain FS.entry
    (@check_slot (model P w) _ _ ⟨h0, g, d, t, os⟩ "object.__setattr__" "object" "__setattr__" (.ref x) [.str nm tk, v] [] _ FS.kind FS.split c4 (FS.args (.ref x) (.str nm tk) v) ?_)
  have c5 : Looks (model P w) h0 (mroOf (.ref C)) cd.mro := (looks_clsIn X hcd).andThen .now
  have c6 : Looks (model P w) h0 (storeTaker? none) none := .now
  have c7 : Looks (model P w) h0 (classData C) cd := looks_clsIn X hcd
  rw [osa_eq, refuse_eq]
  refine wpAny_bind (wpAny_bind (J.type.at (wpAny_bind (c5.at ?_))))
  rw [hm, own_pass _ (hps _) own]
  refine wpAny_pure (wpAny_bind (J.type.at (wpAny_bind ((looks_findIn X ha).at (wpAny_bind (c6.at ?_))))))
  show wpAny _ _ (storeInOwnDict (.ref x) (.ref C) (.str nm tk) nm v false) _ _ _
  obtain ⟨z1, z2, z3, z4, z5, z6, z7, z8, z9, z10, z11⟩ := cd
  dsimp only at hh
  subst hh
  unfold storeInOwnDict ownDictForStores
  repeat (first
    | with_reducible refine HandSPX.store_in_new ?_ ?_
    | with_reducible refine wpAny_loadPart_at hx ?_
    | with_reducible refine c7.at ?_
    | wp_step)
  · exact ⟨_, #[], _, (Heap.get?_update_ne _ _ _ _ c3.symm).trans (Heap.get?_push_at rfl rfl), rfl, fun e he => absurd he (by simp), fun _ => rfl⟩
  · intro h1 tk1 hn1 hs1
    have c8 : (h0.push { cls := .type "dict", data := .dict #[] }).get? x = some { cls := .ref C, data := .fields fv } := Heap.get?_push_of_some _ hx
    refine hq h1 tk1 h0.objs.size (fun b o hb ho => ?_) (Nat.le_refl _) c3.symm ?_ hn1
    · exact (hs1.2 b (Nat.ne_of_lt (Heap.lt_size ho))).trans ((Heap.get?_update_ne _ _ _ _ hb).trans (Heap.get?_push_of_some _ ho))
    · exact (hs1.2 x c3).trans (Heap.get?_update_self _ c8 rfl)
end
section
variable {X : Cx} {pins : List (Addr × Obj)} {σ : St} {H : Hp} {s : Shared} {a C : Addr} {f : Str} {y : V} {u : Value} {tail : List Value} {newId : String} {Q : Unit → Shared → Prop} {E : Value → Shared → Prop} {A : Around}
theorem clsB {K : PySem.W.Frag} (T : OexB K C tail newId) : ∃ cd own, clsIn K C = some cd ∧ cd.mro = mroB own tail ∧ cd.hasDict = true := by
  obtain ⟨nm, q, N, bs, own, sn, sub, ab, col, dd, k0, k1, k2, k3, k5, hC⟩ := T.cls
  refine ⟨{ name := nm, bases := bs, mro := .ref C :: mroB own tail, ns := N, qualname := q, hasDict := true, slotNames := sn, subclasses := sub, abstract := ab, collection := col, hasDel := false }, C :: own, ?_, rfl, rfl⟩
  unfold clsIn
  rw [hC] <;> rfl
/-- self.f = y -/
theorem ostB (T : OexB X.K C tail newId) (hps : ∀ self : Value, refuseLoop self "__setattr__" tail = pure ()) (hob : tail.contains (.type "object") = true) (I : Inv X pins σ H s) (e : H a = some (exo a C none)) (hno : findIn X.K (.ref C) f = some none) (ry : RelV y u)
    (h : ∀ dx s', H dx = none → dx ≠ a → Inv X pins σ (upd (upd H dx (exd dx [(f, y)])) a (exo a C (some dx))) s' → Q () s') : wpAny (model X.prog X.w) A (setAttr (.ref a) f u) Q E s := by
  obtain ⟨cd, own, e1, e2, e3⟩ := clsB T
  obtain ⟨t1, ho⟩ := exo_at I.hok e
  obtain ⟨hp, g, d, t, os⟩ := s
  refine set_plain I.kIn (ox := { cls := .ref C, dict := none, data := .fields #[.ref t1, .none, .none, .none, .bool false, .none] }) (od := none) ⟨ho, rfl, rfl, trivial⟩ T.sa ?_
  refine osaB I.kIn ho e1 e2 hps hob e3 hno fun h1 tk1 dx k dn dne hx hn => ?_
  have n1 : H dx = none := I.hok.fresh dn
  have n2 : ∀ {b : Addr} {o : Obj}, hp.get? b = some o → b ≠ dx := fun {b o} q => Nat.ne_of_lt (Nat.lt_of_lt_of_le (Heap.lt_size q) dn)
  have n3 : ∀ {b : Addr}, H b = none → b ≠ a := fun {b} n z => by rw [z, e] at n; cases n
  have at1 : ∀ b, b ≠ a → b ≠ dx → upd (upd H dx (exd dx [(f, y)])) a (exo a C (some dx)) b = H b := fun b q1 q2 => by rw [upd_ne q1, upd_ne q2]
  refine h dx _ n1 dne (I.un (t' := tk1) (H' := upd (upd H dx (exd dx [(f, y)])) a (exo a C (some dx))) { keep := fun b o q n _ _ => k b o (n3 n) q, slot := fun b o q n _ _ => ⟨o.slots, k b o (n3 n) q⟩, free := fun b o q n _ => by rw [at1 b (n3 n) (n2 q)]; exact n, there := fun b o q _ => ?_, tups := fun b xs q => by rw [at1 b (at_ne e q exo_tup) (ne_of_none q n1)]; exact q, frzs := fun b o v q => by rw [at1 b (at_ne e q exo_frz) (ne_of_none q n1)]; exact q, tbls := fun b ps q => ⟨#[], by rw [at1 b (at_ne e q exo_tbl) (ne_of_none q n1), q]; simp⟩ } fun b o q => ?_)
  · by_cases hb : b = a
    · exact ⟨_, by rw [hb]; exact hx⟩
    · exact ⟨o, k b o hb q⟩
  · by_cases hb : b = a
    · subst hb
      rw [upd_same] at q
      cases q
      exact exo_ok hx
    · by_cases hd : b = dx
      · subst hd
        rw [upd_ne hb, upd_same] at q
        cases q
        exact exd_ok hn (relO_put (fs := []) ry fun g => True.intro)
      · rw [at1 b hb hd] at q
        refine (I.hok b o q).stay (fun c v hc z => k c v ?_ z) (fun c hc => by rw [at1 c (at_ne e hc exo_own) (ne_of_none hc n1)]; exact hc) (fun c xs hc => by rw [at1 c (at_ne e hc exo_tup) (ne_of_none hc n1)]; exact hc)
        rcases hc with hc | hc
        · rw [hc]; exact hb
        · exact at_ne e hc exo_own
def tOstB (K : PySem.W.Frag) (tail : List Value) (newId : String) (f : Str) (to te : TE) : TS := fun De σ H => te σ H fun y H1 => to σ H1 fun x H2 => ∃ a C : Addr, x = .ref a ∧ OexB K C tail newId ∧ findIn K (.ref C) f = some none ∧ H2 a = some (exo a C none) ∧
  ∀ dx, H2 dx = none → dx ≠ a → De.nx σ (upd (upd H2 dx (exd dx [(f, y)])) a (exo a C (some dx)))
theorem ps_ostB {o e : Expr} {to te : TE} {p' pos : Pos} (hps : ∀ self : Value, refuseLoop self "__setattr__" tail = pure ()) (hob : tail.contains (.type "object") = true) (ho : PE X o to) (he : PE X e te)
    (hs : swapsWith e (some (.Attribute o f p')) pos.line X.env = pure false := by rfl) : PS X (.Assign [.Attribute o f p'] e pos) (tOstB X.K tail newId f to te) := by
  refine ⟨fun pins s σ H De I h => ?_⟩
  refine plainObj_wpAny_Assign_Attribute (thn (he.run pins s σ H _ I h) fun v s1 ⟨y, H1, I1, r1, q1⟩ => thn (ho.run pins s1 σ H1 _ I1 q1) fun u s2 ⟨x, H2, I2, r2, a, C, ex, T, hno, ea, q⟩ => ?_) hs
  subst ex
  obtain rfl : u = Value.ref a := r2
  exact ostB T hps hob I2 ea hno r1 fun dx s' n ne J => ⟨σ, _, J, q dx n ne⟩
end
/-- what the __init__ of such a class keeps -/
def spI (C : Addr) (f : Str) : Sp := fun vs H Q _ => ∃ (a : Addr) (y : V), vs = [.ref a, y] ∧ H a = some (exo a C none) ∧ ∀ dx, H dx = none → dx ≠ a → Q .non (upd (upd H dx (exd dx [(f, y)])) a (exo a C (some dx)))
end PD
end
section
set_option Elab.async false
set_option linter.all false
set_option maxRecDepth 100000
set_option maxHeartbeats 4000000
set_option autoImplicit false
/-! ### such an exception made: by place, to be raised; by keyword, to be kept -/
namespace PD
open PySem PySem.Spec L2 PySem.W PySem.Calls
open Builtin Builtin.ObjectAttr
open PyProof.Rows hiding St
variable [Live]
theorem init_ok {P : Program} {w : World} {K : PySem.W.Frag} {mg : Str → Option Value} {base : Heap} {C fI : Addr} {f x qual : Str} {fd : FuncData} {params : Arguments} {body : List Stmt} {scope : Scope} {kws : List (Str × V)} {tail : List Value} {newId : String} {p1 p2 p3 p4 : Pos}
    (T : OexB K C tail newId) (hps : ∀ self : Value, refuseLoop self "__setattr__" tail = pure ()) (hob : tail.contains (.type "object") = true) (hno : findIn K (.ref C) f = some none)
    (FF : FunD K "__init__" qual params body scope [] kws fI fd) (hb : body = [.Assign [.Attribute (.Name "self" p1) f p2] (.Name x p3) p4]) (S : FnScope ["self", x] ["self", x] scope)
    (hx1 : (x == ("__debug__" : Str)) = false) (hx2 : (x == ("__classdict__" : Str)) = false) (hv1 : Vis scope "self") (hv2 : Vis scope x)
    (hsw : ∀ env : Env, env.scope = scope → swapsWith (.Name x p3) (some (.Attribute (.Name "self" p1) f p2)) p4.line env = pure false) : FnOk P w K mg base CX0 1 fI fd ["self", x] (spI C f) := by
  obtain ⟨oc, od, dV, kV, doc, pm, an, cdv, ct, osl, rfl, lk, hcd, _, _⟩ := FF.ex
  refine fn_of (k := 0) lk hcd S (fun vs H Q E h => ?_) fun A outer s H vs Q E hr h => ?_
  · obtain ⟨a, y, rfl, _⟩ := h
    rfl
  · obtain ⟨a, y, rfl, e1, q⟩ := h
    rw [hb]
    refine ⟨_, pss_one (ps_ostB (newId := newId) hps hob (pe_var (i := 0) rfl hv1 (by decide) (by decide)) (pe_var (i := 1) rfl hv2 hx1 hx2) (hsw _ rfl)), ?_⟩
    exact ⟨y, rfl, .ref a, rfl, a, C, rfl, T, hno, e1, fun dx n ne => q dx n ne⟩
def tMkB (C : Addr) (sp : Sp) (ta : TA) : L2.St → Hp → XK → Prop := fun σ H Q => ta σ H fun vs H1 => vs.length ≤ 1000 ∧ ∀ a, H1 a = none → sp (.ref a :: vs) (upd H1 a (exo a C none))
  (fun v H2 => v = .non ∧ ∃ (dd : Addr) (fs : List (Str × V)), H2 a = some (exo a C (some dd)) ∧ H2 dd = some (exd dd fs) ∧ H1 dd = none ∧ Q (.ref C) (some dd) (upd (del H2 a) dd (.xd fs))) (fun _ _ _ => False)
section
variable {X : Cx} {C fI : Addr} {x : Str} {e : Expr} {es : List Expr} {ta : TA} {p pos : Pos} {tail : List Value} {B newId initId : String} {k : Nat} {fd : FuncData} {ps : List Str} {sp : Sp}
theorem pmkB (XB : XBase B newId initId tail) (T : OexB X.K C tail newId) (iC : findIn X.K (.ref C) "__init__" = some (some (.ref fI))) (tI : typeIn X.K (.ref fI) = some (.type "function"))
    (F1 : FnOk X.prog X.w X.K X.mg X.base CX0 k fI fd ps sp) (hr : Room (k + 1) X.A) (hb : Binds X.K fd ps []) (hg : Gl X x) (hm : X.mg x = some (.ref C)) (ha : PA X (e :: es) ta)
    (hdb : (x == ("__debug__" : Str)) = false := by decide) (he : starEach (e :: es) X.env = (false, eval e X.env) :: starEach es X.env := by rfl) (hpl : (backTo pos (starEach es X.env)).any (·.1) = false := by rfl) :
    L2N.PMk X (.Call (.Name x p) (e :: es) [] pos) (tMkB C sp ta) := by
  intro pins s σ H Q I h
  obtain ⟨nm, qn, N, bs, own, sn, sub, ab, col, dd, k0, k1, k2, k3, k5, hC⟩ := T.cls
  refine wpAny_Call_Name_kw (ld_glob I hg hm ?_ hdb)
  refine callWith_K (h₀ := X.base) I.ok.mod.kin T.kC (thn (ha.run pos pins s σ H _ I h) fun us s1 ⟨vs, H1, I1, r1, hz, q1⟩ => ⟨I1.kIn, ?_⟩) he hpl
  show wpAny _ _ (call (.ref C) us) _ _ _
  obtain ⟨hp, g, dr, tk, os⟩ := s1
  have nz : hp.objs.size ≤ hp.objs.size + 1 := Nat.le_succ _
  have hq := q1 (hp.objs.size + 1) (I1.hok.fresh nz)
  have kk : ∀ b o, hp.get? b = some o → ((hp.push (kdv_tup us)).push (HandSPX.excO C hp.objs.size)).get? b = some o := fun b o z => Heap.get?_push_of_some _ (Heap.get?_push_of_some _ z)
  have hget : ((hp.push (kdv_tup us)).push (HandSPX.excO C hp.objs.size)).get? (hp.objs.size + 1) = some (HandSPX.excO C hp.objs.size) := by heap_get
  have I2 := I1.laid (t' := tk) (a := hp.objs.size + 1) (o := exo (hp.objs.size + 1) C none) (h' := (hp.push (kdv_tup us)).push (HandSPX.excO C hp.objs.size)) kk nz (exo_ok hget)
  have r2 : Vals (V.ref (hp.objs.size + 1) :: vs) (Value.ref (hp.objs.size + 1) :: us) := .cons rfl r1
  have hl : (Value.ref (hp.objs.size + 1) :: us).length = ps.length := r2.length.symm.trans (F1.len _ _ _ _ hq)
  have hus : us.length ≤ sizeLine := by rw [← Paired.length r1, sizeLine_eq]; omega
  have bd := hb ⟨(hp.push (kdv_tup us)).push (HandSPX.excO C hp.objs.size), g, dr, tk, os⟩ (Value.ref (hp.objs.size + 1) :: us) I2.kIn (by rw [List.append_nil]; exact hl)
  rw [List.append_nil] at bd
  refine wpAny_call (HandSPX.call_own XB.ef (fun Y => own_has Y own) (I1.kIn _ _ hC) (looks_findIn I1.kIn iC) (fun self => bind_fn I1.kIn self tI) hus
    (codeAny_mono (F1.run _ X.stack _ _ ⟨Value.ref (hp.objs.size + 1) :: us, []⟩ _ _ _ (fun _ _ _ => False) (hr.make C us []) (I2.env0.make C us []) bd r2 hq) fun r s' hq' => ?_))
  match r, hq' with
  | .error er, hq' => exact hq'.elim
  | .ok .next, hq' => exact hq'.elim
  | .ok .brk, hq' => exact hq'.elim
  | .ok .cont, hq' => exact hq'.elim
  | .ok (.ret u), ⟨v, H2, os2, bare2, un2, hok2, rv, ev, d, fs, ea, ed, hd1, q2⟩ =>
    subst ev
    obtain ⟨h2, g2, d2, t2, os'⟩ := s'
    obtain ⟨t0, GG, J, kG, ge, hoe, na⟩ := mk_end0 (d2 := d2) (t2 := t2) I1 nz kk un2 hok2 os2 bare2 ea ed hd1
    exact ⟨rv, hp.objs.size + 1, _, _, ⟨GG, g2, d2, t2, os'⟩, _, .ref C, some d, rfl, J, kG, ge, hoe, ⟨rfl, rfl, fun vs e => by cases e; rfl⟩, rfl, rfl, na, rfl, bare2, raises_own T.exC T.tyC, q2⟩
end
/-! ### by keyword -/
section
variable {P : Program} {w : World} {A : Around} {E : Value → Shared → Prop} {R : Result → Shared → Prop} {h : Heap} {g : Array GenState} {d : Drawn} {t : Nat} {os : OsState}
variable {nm q : Str} {C N : Addr} {bs tail : List Value} {own : List Addr} {sn : List Str} {sub : List Value} {ab : Bool} {col : Option Bool} {dd : Option Addr} {k0 k1 k2 k3 k5 : Option Value} {B newId initId : String} {x : Str} {v : Value}
end
end PD
end
section
set_option Elab.async false
set_option linter.all false
set_option maxRecDepth 100000
set_option maxHeartbeats 4000000
set_option autoImplicit false
/-! ### exceptions by data: made, raised, let out of a def, caught -/
namespace PD
open PySem PySem.Spec L2 PySem.W PySem.Calls
open PyProof.Rows hiding St
variable [Live]
/-- the class nm, its one field f -/
structure XCls (P : Program) (w : World) (K : PySem.W.Frag) (mg : Str → Option Value) (base : Heap) (nm f x : Str) : Prop where
  ex : ∃ (B newId initId : String) (tail : List Value) (fI : Addr) (fd : FuncData), XBase B newId initId tail ∧ OexB K (He.ga K nm) tail newId ∧ mg nm = some (.ref (He.ga K nm)) ∧
    findIn K (.ref (He.ga K nm)) "__init__" = some (some (.ref fI)) ∧ typeIn K (.ref fI) = some (.type "function") ∧ FnOk P w K mg base CX0 1 fI fd ["self", x] (spI (He.ga K nm) f) ∧ Binds K fd ["self", x] [] ∧
    ∀ (s : Shared) (u v : Value), BindsTo s fd ⟨[u], [(x, v)]⟩ [("self", u), (x, v)]
theorem exK_ok {P : Program} {w : World} {H : Hp} {h : Heap} {e C dd : Addr} {oe : Obj} {vs : Array Value} (he : h.get? e = some oe) (h1 : oe.cls = .ref C) (h2 : oe.dict = some dd) (h3 : oe.data = .fields vs) (h4 : vs[2]? = some .none) : ObjOk P w H h e (exK e C dd) :=
  ⟨⟨oe, vs, he, h1, h2, h3, h4⟩, ⟨_, he⟩, fun g1 g2 z k => by
    obtain ⟨oe, vs, he, h1, h2, h3, h4⟩ := z
    exact ⟨oe, vs, k _ he, h1, h2, h3, h4⟩⟩
theorem exK_at {P : Program} {w : World} {H : Hp} {h : Heap} {e C dd : Addr} (hok : HOk P w H h) (he : H e = some (exK e C dd)) : ∃ (oe : Obj) (vs : Array Value), h.get? e = some oe ∧ oe.cls = .ref C ∧ oe.dict = some dd ∧ oe.data = .fields vs ∧ vs[2]? = some .none := by
  have z : ObjOk P w H h e (.ext fun h => ∃ (oe : Obj) (vs : Array Value), h.get? e = some oe ∧ oe.cls = .ref C ∧ oe.dict = some dd ∧ oe.data = .fields vs ∧ vs[2]? = some .none) := hok e _ he
  exact z.1
theorem mkH2 {H1 : Hp} {a dx C : Addr} {fs : List (Str × V)} (ha : H1 a = none) (hd : dx ≠ a) : upd (del (upd (upd (upd H1 a (exo a C none)) dx (exd dx fs)) a (exo a C (some dx))) a) dx (.xd fs) = upd H1 dx (.xd fs) := by
  funext b
  by_cases h2 : b = dx
  · subst h2; rw [upd_same, upd_same]
  · rw [upd_ne h2, upd_ne h2]
    by_cases h1 : b = a
    · subst h1; rw [del_same, ha]
    · rw [del_ne h1, upd_ne h1, upd_ne h2, upd_ne h1]
/-! ### C(f = e), kept -/
def eNew (nm f : Str) (fe : E) : E := fun ρ => mb (fe ρ) fun v => fun g => some (.hd g.length, g ++ [.mx nm f v])
@[simp] theorem eNew_ap (nm f : Str) (fe : E) (ρ : Rho) (g : G) : eNew nm f fe ρ g = (fe ρ g).map fun p => (.hd p.2.length, p.2 ++ [.mx nm f p.1]) := by
  refine (mb_ap _ _ _).trans ?_
  cases fe ρ g <;> rfl
section
variable {X : Cx} {nm f x : Str} {e : Expr} {fe : E} {p pos kp : Pos} {k : Nat}
end
/-! ### raise C(e) -/
def sRaise (nm f : Str) (fe : E) : S := fun ρ => mb (fe ρ) fun v => mr (.xc nm f v ρ)
@[simp] theorem sRaise_ap (nm f : Str) (fe : E) (ρ : Rho) (g : G) : sRaise nm f fe ρ g = (fe ρ g).map fun p => (.xc nm f p.1 ρ, p.2) := by
  refine (mb_ap _ _ _).trans ?_
  cases fe ρ g <;> rfl
section
variable {X : Cx} {nm f x : Str} {e : Expr} {fe : E} {p pos pos' : Pos} {k : Nat}
theorem pds_raise (hc : XCls X.prog X.w X.K X.mg X.base nm f x) (hcm : X.calm = true) (hr : Room (k + 2) X.A) (he : PD X e fe) (hg : Gl X nm := by rfl) (hdb : (nm == ("__debug__" : Str)) = false := by decide)
    (hs : starEach [e] X.env = (false, eval e X.env) :: starEach [] X.env := by rfl) : PDS X (.Raise (some (.Call (.Name nm p) [e] [] pos)) none pos') (sRaise nm f fe) := by
  obtain ⟨B, newId, initId, tail, fI, fd, XB, T, hm, iC, tI, F1, hb, _⟩ := hc.ex
  obtain ⟨t, ht, kt⟩ := he
  refine ⟨_, L2N.ps_raise hcm takes_wx (pmkB XB T iC tI F1 (hr.mono (by omega)) hb hg hm (pa_cons ht pa_nil hs) hdb hs (by rfl)), fun en σ H F ρ g pre fl g' ev De post => ?_⟩
  obtain ⟨dv, g1, e1, ev⟩ := mb_inv ev
  obtain ⟨rfl, rfl⟩ := mr_inv ev
  refine kt σ H F ρ g pre.e dv _ e1 _ fun y H1 F1' s1 r1 => ⟨by simp, fun a ha => ?_⟩
  refine ⟨a, y, rfl, upd_same, fun dx n ne => ⟨rfl, dx, [(f, y)], upd_same, by rw [upd_ne ne, upd_same], by rw [upd_ne ne] at n; exact n, ?_⟩⟩
  rw [mkH2 ha ne]
  have n : H1 dx = none := by rw [upd_ne ne] at n; exact n
  have st1 := Stp.alloc (o := .xd [(f, y)]) s1.sub s1.rep n
  exact post σ _ _ dx y ((pre.step s1).step st1) upd_same (r1.mono st1.ext)
end
end PD
end
section
set_option Elab.async false
set_option linter.all false
set_option maxRecDepth 100000
set_option maxHeartbeats 4000000
set_option autoImplicit false
namespace PD
open PySem PySem.Spec L2 PySem.W PySem.Calls
open PyProof.Rows hiding St
variable [Live]
/-! ### a def that may raise -/
inductive Rx where
  | ok (d : D) | xc (nm f : Str) (d : D)
def runX (n : Nat) (f : S) : List D → M Rx := fun ds g => match f (slots0 n ds) g with
  | some (.rt d, g') => some (.ok d, g')
  | some (.nx _, g') => some (.ok .non, g')
  | some (.xc nm f d _, g') => some (.xc nm f d, g')
  | _ => none
def spX (K : PySem.W.Frag) (n : Nat) (f : List D → M Rx) : Sp := fun vs H Q E => ∃ (F : Fz) (g : G) (ds : List D) (r : Rx) (g' : G), ds.length = n ∧ Same F.h H ∧ GRep K g F H ∧ RpA K F vs ds ∧ f ds g = some (r, g') ∧ match r with
  | .ok d => ∀ v H' F', Stp K g g' F F' H H' → Rp K F' v d → Q v H'
  | .xc nm fl d => ∀ (dd : Addr) (v : V) H' F', Stp K g g' F F' H H' → F'.h dd = some (.xd [(fl, v)]) → Rp K F' v d → E (.ref (He.ga K nm)) (some dd) H'
structure FnX (P : Program) (w : World) (K : PySem.W.Frag) (mg : Str → Option Value) (base : Heap) (k : Nat) (x : Str) (n : Nat) (f : List D → M Rx) : Prop where
  ex : ∃ (a : Addr) (fd : FuncData) (ps : List Str), mg x = some (.ref a) ∧ keepIn K (.ref a) = true ∧ Binds K fd ps [] ∧ FnG P w K mg base (L2N.CX P w) k a fd ps (spX K n f)
theorem fn_dX {P : Program} {w : World} {K : PySem.W.Frag} {mg : Str → Option Value} {base : Heap} {k : Nat} {f : Addr} {x qual : Str} {params : Arguments} {body : List Stmt} {scope : Scope} {kws : List (Str × V)} {fd : FuncData} {N ps : List Str} {sem : S}
    (F : FunD K x qual params body scope [] kws f fd) (S : FnScope N ps scope)
    (hbody : ∀ (cdv : Value) (A : Around) (outer : List Env) (s : Shared) (H : Hp) (E : XK), Room k (A.deeper (envOfC qual scope s.heap.objs.size f cdv)) → (A.deeper (envOfC qual scope s.heap.objs.size f cdv)).guards = some [] →
      PDSS (cxOf (L2N.CX P w) P w K mg base N qual scope f cdv A outer s H E) body sem) : FnG P w K mg base (L2N.CX P w) (k + 1) f fd ps (spX K ps.length (runX N.length sem)) := by
  refine fn_g F S (fun vs H Q E h => ?_) fun cdv A outer s H vs Q E hr gd h => ?_
  · obtain ⟨F, g, ds, r, g', hn, _, _, rv, _⟩ := h
    rw [rv.length, hn]
  · obtain ⟨F, g, ds, r, g', hn, sb, rp, rv, ev, q⟩ := h
    obtain ⟨t, ht, kt⟩ := hbody cdv A outer s H E hr gd
    refine ⟨t, ht, ?_⟩
    unfold runX at ev
    cases h : sem (slots0 N.length ds) g with
    | none => rw [h] at ev; cases ev
    | some r' =>
      obtain ⟨fl, g1⟩ := r'
      rw [h] at ev
      refine kt ⟨g, F, H⟩ (start N vs) H F (slots0 N.length ds) g (pre0 sb rp rv) fl g1 h _ ?_
      cases fl with
      | rt z => cases ev; exact fun v H' F' s' r' => q v H' F' s' r'
      | nx ρ => cases ev; exact fun σ' H' F' p' => q .non H' F' p'.st .non
      | bk ρ => cases ev
      | ct ρ => cases ev
      | xc nm fl d ρ =>
        cases ev
        intro σ' H' F' dd v p' a b u s' xx
        obtain ⟨a0, B, sI, pins, σ0, H0, cls, d0, e, I, nb, up, sky, na, os, ag, rfl, rfl, rfl, rfl⟩ := xx
        exact L2N.takes_of (X := cxOf (L2N.CX P w) P w K mg base N qual scope f cdv A outer s H E) (E := E) rfl rfl rfl rfl u s' ⟨a0, B, sI, pins, σ0, H0, _, _, e, I, nb, up, sky, na, os, ag, q dd v H0 F' p'.st a b⟩
section
variable {X : Cx} {CX : CXT} {k : Nat} {f : Addr} {fd : FuncData} {ps : List Str} {sp : Sp} {E : L2.St → XK} {x : Str} {p pos : Pos} {e : Expr} {es : List Expr} {t : TA}
theorem pe_callGS (F : FnG X.prog X.w X.K X.mg X.base CX k f fd ps sp) (hr : Room k X.A) (gd : X.A.guards = some []) (hg : Gl X x) (hm : X.mg x = some (.ref f)) (hk : keepIn X.K (.ref f) = true) (hb : Binds X.K fd ps []) (hx : ∀ σ, PassesAt CX X σ (E σ))
    (ha : PA X (e :: es) t) (hdb : (x == ("__debug__" : Str)) = false := by decide) (he : starEach (e :: es) X.env = (false, eval e X.env) :: starEach es X.env := by rfl) (hpl : (backTo pos (starEach es X.env)).any (·.1) = false := by rfl) :
    PE X (.Call (.Name x p) (e :: es) [] pos) (tCallS sp E t) := by
  refine ⟨fun pins s σ H Q I h => wpAny_Call_Name_kw (ld_glob I hg hm ?_ hdb)⟩
  refine callWith_K (h₀ := X.base) I.ok.mod.kin hk (thn (ha.run pos pins s σ H _ I h) fun us s1 ⟨vs, H1, I1, r, q⟩ => ⟨I1.kIn, ?_⟩) he hpl
  have hl : us.length = ps.length := r.length.symm.trans (F.len _ _ _ _ q)
  have b := hb s1 us I1.kIn (by rw [List.append_nil]; exact hl)
  rw [List.append_nil] at b
  refine wpAny_call (codeAny_mono (F.run X.A X.stack s1 H1 ⟨us, []⟩ us vs Q (E σ) hr gd I1.env0 b r q) fun res s' hq => ?_)
  match res, hq with
  | .error er, hq => exact hx σ pins H1 s1 er s' I1 hq
  | .ok (.ret u), hq => exact I1.after hq
  | .ok .next, hq => exact False.elim hq
  | .ok .brk, hq => exact False.elim hq
  | .ok .cont, hq => exact False.elim hq
end
/-- f(e, ..) as a statement, f may raise -/
def sExprX (F : List D → M Rx) (fs : EA) : S := fun ρ => mb (fs ρ) fun ds => mb (F ds) fun r => match r with
  | .ok _ => mr (.nx ρ)
  | .xc nm f d => mr (.xc nm f d ρ)
def exK1 (ρ : Rho) : Rx × G → Option (Fl × G)
  | (.ok _, g) => some (.nx ρ, g)
  | (.xc nm f d, g) => some (.xc nm f d ρ, g)
@[simp] theorem exK1_ok (ρ : Rho) (d : D) (g : G) : exK1 ρ (.ok d, g) = some (.nx ρ, g) := rfl
@[simp] theorem exK1_xc (ρ : Rho) (nm f : Str) (d : D) (g : G) : exK1 ρ (.xc nm f d, g) = some (.xc nm f d ρ, g) := rfl
@[simp] theorem sExprX_ap (F : List D → M Rx) (fs : EA) (ρ : Rho) (g : G) : sExprX F fs ρ g = (fs ρ g).bind fun p => (F p.1 p.2).bind (exK1 ρ) := by
  refine (mb_ap _ _ _).trans ?_
  congr 1
  funext p
  refine (mb_ap _ _ _).trans ?_
  congr 1
  funext q
  obtain ⟨r, g⟩ := q
  cases r <;> rfl
theorem pds_exprX {X : Cx} {k n : Nat} {x : Str} {p pos pos' : Pos} {e : Expr} {es : List Expr} {fs : EA} {F : List D → M Rx} (hf : FnX X.prog X.w X.K X.mg X.base k x n F) (hr : Room k X.A) (gd : X.A.guards = some []) (ha : PDA X (e :: es) fs)
    (hn : ∀ ρ g ds g', fs ρ g = some (ds, g') → ds.length = n) (hg : Gl X x := by rfl) (hdb : (x == ("__debug__" : Str)) = false := by decide) (he : starEach (e :: es) X.env = (false, eval e X.env) :: starEach es X.env := by rfl)
    (hpl : (backTo pos (starEach es X.env)).any (·.1) = false := by rfl) (hs : swapsWith (.Call (.Name x p) (e :: es) [] pos) none pos'.line X.env = pure false := by rfl) : PDS X (.Expr (.Call (.Name x p) (e :: es) [] pos) pos') (sExprX F fs) := by
  obtain ⟨a, fd, ps, hm, hk, hb, GG⟩ := hf.ex
  obtain ⟨t, ht, kt⟩ := ha
  refine ⟨_, ps_expr (pe_callGS (E := WE (Wx X)) GG hr gd hg hm hk hb (L2N.passAt takes_wx) ht hdb he hpl) hs, fun en σ H F0 ρ g pre fl g' ev De post => ?_⟩
  obtain ⟨ds, g1, e1, ev⟩ := mb_inv ev
  obtain ⟨r, g2, e2, ev⟩ := mb_inv ev
  refine kt σ H F0 ρ g pre.e ds g1 e1 _ fun vs H1 F1 s1 r1 => ?_
  refine ⟨F1, g1, ds, r, g2, hn _ _ _ _ e1, s1.sub, s1.rep, r1, e2, ?_⟩
  cases r with
  | ok d =>
    obtain ⟨rfl, rfl⟩ := mr_inv ev
    exact fun v H2 F2 s2 r2 => post σ H2 F2 (pre.step (s1.trans s2))
  | xc nm f d =>
    obtain ⟨rfl, rfl⟩ := mr_inv ev
    exact fun dd v H2 F2 s2 a b => post σ H2 F2 dd v (pre.step (s1.trans s2)) a b
/-! ### try: .. except C as n: .. -/
/-- a clause: which classes it takes, its name's slot, its suite -/
structure Cl where
  tab : Str → Option Bool
  i : Nat
  su : S
def goneF (i : Nat) : Fl → Option Fl
  | .nx ρ => some (.nx (ρ.set i none))
  | .bk ρ => some (.bk (ρ.set i none))
  | .ct ρ => some (.ct (ρ.set i none))
  | .rt d => some (.rt d)
  | .xc _ _ _ _ => none
def hX (nm f : Str) (d : D) : List Cl → S
  | [] => fun _ => mz
  | c :: r => fun ρ g => match c.tab nm with
    | some true => (c.su (setR ρ c.i (.hd g.length)) (g ++ [.mx nm f d])).bind fun q => (goneF c.i q.1).map fun fl => (fl, q.2)
    | some false => hX nm f d r ρ g
    | none => none
def sTry (b : S) (cl : List Cl) : S := fun ρ => mb (b ρ) fun fl => match fl with
  | .xc nm f d ρ' => hX nm f d cl ρ'
  | fl => mr fl
theorem PreS.gone {K : PySem.W.Frag} {en : Ent} {F : Fz} {H : Hp} {g : G} {ρ : Rho} {σ : L2.St} (p : PreS K en F H g ρ σ) (i : Nat) : PreS K en F H g (ρ.set i none) (σ.set i none) := by
  have ow : ∀ j q, Owned (ρ.set i none) (σ.set i none) j q → Owned ρ σ j q := fun j q ⟨lv, h1, h2, h3⟩ => by
    by_cases hj : i = j
    · subst hj
      by_cases hl : i < ρ.length
      · rw [List.getElem?_set_self hl] at h1; cases h1
      · rw [List.getElem?_eq_none (by simpa using hl)] at h1; cases h1
    · rw [List.getElem?_set_ne hj] at h1 h3
      exact ⟨lv, h1, h2, h3⟩
  refine ⟨⟨p.e.sub, p.e.rep, ⟨by simpa using p.e.sl.len, fun j lv h => ?_, fun j l q h1 h2 => p.e.sl.sep j l q (ow j q h1) (ow l q h2)⟩⟩, p.st, fun j q h => p.fr j q (ow j q h)⟩
  by_cases hj : i = j
  · subst hj
    by_cases hl : i < ρ.length
    · rw [List.getElem?_set_self hl] at h; cases h
    · rw [List.getElem?_eq_none (by simpa using hl)] at h; cases h
  · rw [List.getElem?_set_ne hj] at h ⊢
    exact p.e.sl.at_ j lv h
/-- the suite of a clause: the exception at a is kept -/
def PDSA (X : Cx) (a : Addr) (st : List Stmt) (f : S) : Prop := ∃ t, PSs X st t ∧ ∀ en σ H F ρ g, PreS X.K en F H g ρ σ → (∃ C dd, H a = some (exK a C dd)) → ∀ fl g', f ρ g = some (fl, g') → ∀ De : Ends, Post X en g' De fl → t De σ H
theorem pdsa_of {X : Cx} {a : Addr} {st : List Stmt} {f : S} (h : PDSS X st f) : PDSA X a st f := by
  obtain ⟨t, p, k⟩ := h
  exact ⟨t, p, fun en σ H F ρ g pre _ => k en σ H F ρ g pre⟩
inductive HdsX (X : Cx) : List ExceptHandler → List Cl → Prop
  | nil : HdsX X [] []
  | cons {x n : Str} {c : Value} {cl : Cl} {b₀ : Stmt} {suite : List Stmt} {np pos' : Pos} {hds : List ExceptHandler} {l : List Cl} (hc : Names X x c) (ht : ∀ nm b, cl.tab nm = some b → exmOne X.K (.ref (He.ga X.K nm)) c = some b)
      (hi : X.N[cl.i]? = some n) (hln : X.env.kindOf n = some .local) (hsu : ∀ (a : Addr) (pn : List (Addr × Obj)), PDSA (X.suite a pn) a (b₀ :: suite) cl.su) (r : HdsX X hds l) :
      HdsX X (.ExceptHandler (some (.Name x np)) (some n) (b₀ :: suite) pos' :: hds) (cl :: l)
section
variable {X : Cx} {pins : List (Addr × Obj)} {σ : L2.St} {H : Hp} {s sI s' : Shared} {B : Heap}
theorem suite0 (I : Inv X pins σ H s) (a : Addr) : Inv (X.suite a (X.pn ++ pins)) [] σ H s :=
  ⟨I.ok.suite _ _, I.os, I.bare, I.base, I.loc, I.cell, I.free, I.freeC, fun p hp => I.pin p (by rw [List.append_nil] at hp; exact hp), I.hok, I.len⟩
theorem unsuite0 {a : Addr} {pn' : List (Addr × Obj)} (I : Inv (X.suite a (X.pn ++ pins)) pn' σ H s) (ok : X.Ok) : Inv X pins σ H s :=
  ⟨ok, I.os, I.bare, I.base, I.loc, I.cell, I.free, I.freeC, fun p hp => I.pin p (List.mem_append_left _ hp), I.hok, I.len⟩
/-- the exception on the ground is a thing that is told of -/
theorem landX {a C dd : Addr} {oe : Obj} {vs : Array Value} (I : Inv X pins σ H sI) (nb : ∀ b o, sI.heap.get? b = some o → b ∉ frs X.stack → B.get? b = some o) (st : B.StaysIn s'.heap) (up : sI.heap.UpToSlots s'.heap) (os : s'.os = sI.os) (ag : AllBare s'.gens)
    (na : H a = none) (nB : B.get? a = none) (nF : a ∉ frs X.stack) (ha : s'.heap.get? a = some oe) (h1 : oe.cls = .ref C) (h2 : oe.dict = some dd) (h3 : oe.data = .fields vs) (h4 : vs[2]? = some .none) : Inv X pins σ (upd H a (exK a C dd)) s' := by
  have nf : ∀ b ∈ frs X.stack, ∀ o, sI.heap.get? b = some o → ∃ sl, s'.heap.get? b = some { o with slots := sl } := fun b hb o e => by
    obtain ⟨_, o', e', hd⟩ := I.stack.mem hb
    rw [e] at e'; cases e'
    exact up b o e hd
  have ni : ∀ b o, sI.heap.get? b = some o → b ≠ a := fun b o e z => by
    subst z
    rw [nb b o e nF] at nB; cases nB
  have J := I.call (ch := []) (h' := s'.heap) (g' := s'.gens) (t' := s'.toks) (d' := s'.drawn) (H' := upd H a (exK a C dd))
    ⟨fun b o e _ hb _ => st b o (nb b o e hb), fun b o e _ hb _ => nf b hb o e, fun b o e n _ => by rw [upd_ne (ni b o e)]; exact n, fun b o e _ => ?_, fun b xs e => by rw [upd_ne (ne_of_none e na)]; exact e, fun b o v e => by rw [upd_ne (ne_of_none e na)]; exact e, fun b ps e => ⟨#[], by rw [upd_ne (ne_of_none e na), e]; simp⟩⟩
    (fun b o e => ?_) ag (fun _ z => nomatch z)
  · obtain ⟨a1, a2, a3, a4, a5⟩ := s'
    have e5 : a5 = sI.os := os
    subst e5
    exact J
  · by_cases hb : b ∈ frs X.stack
    · obtain ⟨sl, q⟩ := nf b hb o e
      exact ⟨_, q⟩
    · exact ⟨o, st b o (nb b o e hb)⟩
  · by_cases hb : b = a
    · subst hb
      rw [upd_same] at e
      cases e
      exact exK_ok ha h1 h2 h3 h4
    · rw [upd_ne hb] at e
      exact (((I.inGround nb).kept st) b o e).stay (fun c v hc z => z) (fun c hc => by rw [upd_ne (ne_of_none hc na)]; exact hc) (fun c xs hc => by rw [upd_ne (ne_of_none hc na)]; exact hc)
end
end PD
end
section
set_option Elab.async false
set_option linter.all false
set_option maxRecDepth 100000
set_option maxHeartbeats 4000000
set_option autoImplicit false
namespace PD
open PySem PySem.Spec L2 PySem.W PySem.Calls
open PyProof.Rows hiding St
variable [Live]
theorem sTry_nx {b : S} {cl : List Cl} {ρ : Rho} {g g' g1 : G} {fl fl1 : Fl} (e1 : b ρ g = some (fl1, g1)) (ev : sTry b cl ρ g = some (fl, g')) : (∃ nm f d ρ1, fl1 = .xc nm f d ρ1 ∧ hX nm f d cl ρ1 g1 = some (fl, g')) ∨ ((∀ nm f d ρ1, fl1 ≠ .xc nm f d ρ1) ∧ fl = fl1 ∧ g' = g1) := by
  unfold sTry at ev
  rw [mb_some e1] at ev
  cases fl1 with
  | xc nm f d ρ1 => exact .inl ⟨nm, f, d, ρ1, rfl, ev⟩
  | nx ρ => obtain ⟨rfl, rfl⟩ := mr_inv ev; exact .inr ⟨(fun _ _ _ _ z => by cases z), rfl, rfl⟩
  | rt d => obtain ⟨rfl, rfl⟩ := mr_inv ev; exact .inr ⟨(fun _ _ _ _ z => by cases z), rfl, rfl⟩
  | bk ρ => obtain ⟨rfl, rfl⟩ := mr_inv ev; exact .inr ⟨(fun _ _ _ _ z => by cases z), rfl, rfl⟩
  | ct ρ => obtain ⟨rfl, rfl⟩ := mr_inv ev; exact .inr ⟨(fun _ _ _ _ z => by cases z), rfl, rfl⟩
end PD
end
section
set_option Elab.async false
set_option linter.all false
set_option maxRecDepth 100000
set_option maxHeartbeats 4000000
set_option autoImplicit false
/-! ### an exception that is kept: isinstance, its field -/
namespace PD
open PySem PySem.Spec L2 PySem.W PySem.Calls
open PyProof.Rows hiding St
variable [Live]
@[simp] theorem sTry_ap (b : S) (cl : List Cl) (ρ : Rho) (g : G) : sTry b cl ρ g = (b ρ g).bind fun p => match p with
  | (.xc nm f d ρ', g') => hX nm f d cl ρ' g'
  | (.nx ρ', g') => some (.nx ρ', g')
  | (.rt d, g') => some (.rt d, g')
  | (.bk ρ', g') => some (.bk ρ', g')
  | (.ct ρ', g') => some (.ct ρ', g') := by
  refine (mb_ap _ _ _).trans ?_
  congr 1
  funext p
  obtain ⟨fl, g'⟩ := p
  cases fl <;> rfl
@[simp] theorem goneF_nx (i : Nat) (ρ : Rho) : goneF i (.nx ρ) = some (.nx (ρ.set i none)) := rfl
@[simp] theorem goneF_rt (i : Nat) (d : D) : goneF i (.rt d) = some (.rt d) := rfl
theorem hX_t {nm f : Str} {d : D} {c : Cl} {r : List Cl} {ρ : Rho} {g : G} (h : c.tab nm = some true) : hX nm f d (c :: r) ρ g = (c.su (setR ρ c.i (.hd g.length)) (g ++ [.mx nm f d])).bind fun q => (goneF c.i q.1).map fun fl => (fl, q.2) := by
  show (match c.tab nm with
    | some true => (c.su (setR ρ c.i (.hd g.length)) (g ++ [MO.mx nm f d])).bind fun q => (goneF c.i q.1).map fun fl => (fl, q.2)
    | some false => hX nm f d r ρ g
    | none => none) = _
  rw [h]
def isX (tab : Str → Option Bool) (g : G) (d : D) : Option D := match d with
  | .hd n => match g[n]? with
    | some (.mx nm _ _) => (tab nm).map .bl
    | _ => none
  | _ => none
def eIsX (tab : Str → Option Bool) (f : E) : E := fun ρ => mb (f ρ) fun d => fun g => (isX tab g d).map fun d => (d, g)
@[simp] theorem eIsX_ap (tab : Str → Option Bool) (f : E) (ρ : Rho) (g : G) : eIsX tab f ρ g = (f ρ g).bind fun p => (isX tab p.2 p.1).map fun d => (d, p.2) := mb_ap _ _ _
def atX (ok : Str → Bool) (f : Str) (g : G) (d : D) : Option D := match d with
  | .hd n => match g[n]? with
    | some (.mx nm f' v) => if f' = f ∧ ok nm = true then some v else none
    | _ => none
  | _ => none
def eAtX (ok : Str → Bool) (f : Str) (fe : E) : E := fun ρ => mb (fe ρ) fun d => fun g => (atX ok f g d).map fun d => (d, g)
@[simp] theorem eAtX_ap (ok : Str → Bool) (f : Str) (fe : E) (ρ : Rho) (g : G) : eAtX ok f fe ρ g = (fe ρ g).bind fun p => (atX ok f p.2 p.1).map fun d => (d, p.2) := mb_ap _ _ _
def rIsX (K : PySem.W.Frag) : List V → Hp → VK → Prop := fun xs H Q => ∃ (a C dd : Addr) (fs : List (Str × V)) (c : V) (cv : Value) (b : Bool), xs = [.ref a, c] ∧ H a = some (exK a C dd) ∧ H dd = some (.xd fs) ∧ ExcC K C ∧ (∀ u, RelV c u → u = cv) ∧ kitOne K (.ref C) cv = some b ∧ Q (.bl b) H
theorem inst_at {X : Cx} {pins : List (Addr × Obj)} {σ : L2.St} {H : Hp} {s : Shared} {a C dd : Addr} {fs : List (Str × V)} (I : Inv X pins σ H s) (ea : H a = some (exK a C dd)) (ed : H dd = some (.xd fs)) :
    ∃ (oe od : Obj) (mA : Str → Option Value), InstAt s.heap a oe C (some od) ∧ s.heap.Ns1 dd mA ∧ (∀ f, RelO (fs.lookup f) (mA f)) ∧ s.heap.get? dd = some od := by
  obtain ⟨oe, vs, he, h1, h2, h3, _⟩ := exK_at I.hok ea
  have hx : ObjOk X.prog X.w H s.heap dd (.xd fs) := I.hok dd _ ed
  obtain ⟨mA, hns, hr⟩ := hx
  obtain ⟨od, es, ep, ho, hrest⟩ := id hns
  exact ⟨oe, od, mA, ⟨he, h1, by unfold notCls; rw [h3] <;> rfl, by rw [h2]; exact ho⟩, hns, hr, ho⟩
section
variable {X : Cx} {e : Expr} {fe : E} {y f : Str} {p q pos : Pos}
theorem call_isX : CallR X (.builtin "isinstance") (rIsX X.K) := by
  intro pins s σ H xs us Q I r h
  obtain ⟨a, C, dd, fs, c, cv, b, rfl, ea, ed, EC, hcv, ek, q⟩ := h
  cases r with
  | cons rx rr =>
    cases rr with
    | cons rt rr =>
      cases rr
      cases rx
      have ec := hcv _ rt
      subst ec
      obtain ⟨oe, od, mA, J, _⟩ := inst_at I ea ed
      obtain ⟨cd, hcl, _⟩ := any_some EC.hd
      exact kia_one (kitx_exc (by rw [hcl]; rfl) EC.hg EC.hk EC.hs EC.ha EC.hn EC.ht EC.hm) I.kIn J ek (fun z => nomatch z) fun tk => ⟨.bl b, H, I.kept (t' := tk) fun _ _ z => z, rfl, q⟩
theorem pd_isX0 {tab : Str → Option Bool} {c : V} {cv : Value} (hm : X.mg "isinstance" = none) (hc : PE X (.Name y q) (tC c)) (hcv : ∀ u, RelV c u → u = cv) (htab : ∀ nm b, tab nm = some b → ExcC X.K (He.ga X.K nm) ∧ kitOne X.K (.ref (He.ga X.K nm)) cv = some b) (h : PD X e fe)
    (hg : Gl X "isinstance" := by rfl) (he : starEach [e, .Name y q] X.env = (false, eval e X.env) :: starEach [.Name y q] X.env := by rfl) (he2 : starEach [.Name y q] X.env = (false, eval (.Name y q) X.env) :: starEach [] X.env := by rfl)
    (hpl : (backTo pos (starEach [.Name y q] X.env)).any (·.1) = false := by rfl) : PD X (.Call (.Name "isinstance" p) [e, .Name y q] [] pos) (eIsX tab fe) := by
  obtain ⟨t, ht, k⟩ := h
  refine ⟨_, pe_callB call_isX hg hm (by decide +kernel) (pa_cons ht (pa_cons hc pa_nil he2) he) (by decide) (by decide) he hpl, fun σ H F ρ g pre d g' ev Q qq => ?_⟩
  obtain ⟨dx, g1, e1, ev⟩ := mb_inv ev
  obtain ⟨d0, e2, e5⟩ := Option.map_eq_some_iff.mp ev
  cases e5
  refine k σ H F ρ g pre dx _ e1 _ fun v H1 F1 s1 r1 => ?_
  unfold isX at e2
  split at e2
  · rename_i n
    split at e2
    · rename_i nm fn dv hgn
      obtain ⟨b, e3, rfl⟩ := Option.map_eq_some_iff.mp e2
      obtain ⟨a, hmu, _, dd, v1, h1, h2, h3⟩ := s1.rep.get hgn
      have := rp_hd r1 hmu
      subst this
      obtain ⟨EC, ek⟩ := htab nm b e3
      exact ⟨a, _, dd, _, c, cv, b, rfl, h1, s1.sub _ _ h2, EC, hcv, ek, qq _ H1 F1 s1 (.bl b)⟩
    · cases e2
  · cases e2
/-- an own class -/
theorem pd_isXo {tab : Str → Option Bool} (hm : X.mg "isinstance" = none) (hy : X.mg y = some (.ref (He.ga X.K y))) (htab : ∀ nm b, tab nm = some b → ExcC X.K (He.ga X.K nm) ∧ kitOne X.K (.ref (He.ga X.K nm)) (.ref (He.ga X.K y)) = some b) (h : PD X e fe)
    (hg : Gl X "isinstance" := by rfl) (hg2 : Gl X y := by rfl) (hd : (y == ("__debug__" : Str)) = false := by decide) (he : starEach [e, .Name y q] X.env = (false, eval e X.env) :: starEach [.Name y q] X.env := by rfl) (he2 : starEach [.Name y q] X.env = (false, eval (.Name y q) X.env) :: starEach [] X.env := by rfl)
    (hpl : (backTo pos (starEach [.Name y q] X.env)).any (·.1) = false := by rfl) : PD X (.Call (.Name "isinstance" p) [e, .Name y q] [] pos) (eIsX tab fe) :=
  pd_isX0 hm (pe_glob (v := .ref (He.ga X.K y)) hg2 hy rfl hd) (fun u r => r) htab h hg he he2 hpl
/-- a built-in class -/
theorem pd_isXb (T : String) {tab : Str → Option Bool} (hm : X.mg "isinstance" = none) (hy : X.mg y = none) (htab : ∀ nm b, tab nm = some b → ExcC X.K (He.ga X.K nm) ∧ kitOne X.K (.ref (He.ga X.K nm)) (.type T) = some b) (h : PD X e fe) (hv : bootBuiltins y = some (.type T) := by decide +kernel)
    (hg : Gl X "isinstance" := by rfl) (hg2 : Gl X y := by rfl) (hn : y ≠ "__name__" := by decide) (hd : (y == ("__debug__" : Str)) = false := by decide) (he : starEach [e, .Name y q] X.env = (false, eval e X.env) :: starEach [.Name y q] X.env := by rfl) (he2 : starEach [.Name y q] X.env = (false, eval (.Name y q) X.env) :: starEach [] X.env := by rfl)
    (hpl : (backTo pos (starEach [.Name y q] X.env)).any (·.1) = false := by rfl) : PD X (.Call (.Name "isinstance" p) [e, .Name y q] [] pos) (eIsX tab fe) :=
  pd_isX0 hm (pe_bltn (v := .ty T) hg2 hy hv rfl hn hd) (fun u r => r) htab h hg he he2 hpl
theorem pd_atX {ok : Str → Bool} (hok : ∀ nm, ok nm = true → XfC X.K (He.ga X.K nm) ∧ findIn X.K (.ref (He.ga X.K nm)) f = some none) (h : PD X e fe) (hb : attributeBase e f X.env (eval e X.env) = eval e X.env := by rfl) : PD X (.Attribute e f pos) (eAtX ok f fe) := by
  obtain ⟨t, ht, k⟩ := h
  refine ⟨fun σ H Q => t σ H fun x H1 => ∃ (a C dd : Addr) (fs : List (Str × V)) (v : V), x = .ref a ∧ H1 a = some (exK a C dd) ∧ H1 dd = some (.xd fs) ∧ XfC X.K C ∧ findIn X.K (.ref C) f = some none ∧ fs.lookup f = some v ∧ Q v H1, ⟨fun pins s σ H Q I hh => ?_⟩, fun σ H F ρ g pre d g' ev Q qq => ?_⟩
  · refine attr_of hb (thn (ht.run pins s σ H _ I hh) fun u s1 ⟨x, H1, I1, rx, a, C, dd, fs, v, ex, ea, ed, T, hno, l, q⟩ => ?_)
    subst ex
    obtain rfl : u = Value.ref a := rx
    obtain ⟨oe, od, mA, J, hns, hr, ho⟩ := inst_at I1 ea ed
    obtain ⟨od2, ho2, hl⟩ := lookIn_ns hns
    rw [ho] at ho2
    cases ho2
    obtain ⟨u, hu, ru⟩ := RelO.some_of (v := v) (o := mA f) (by rw [← l]; exact hr f)
    exact HandSPX.exc_get I1.kIn J T.ga T.gg T.exC (findObj_own T.hdC hno rfl (by rw [hl, hu])) (handed_of ru) ⟨v, H1, I1.tok _, ru, q⟩
  · obtain ⟨dx, g1, e1, ev⟩ := mb_inv ev
    obtain ⟨d0, e2, e5⟩ := Option.map_eq_some_iff.mp ev
    cases e5
    refine k σ H F ρ g pre dx _ e1 _ fun v H1 F1 s1 r1 => ?_
    unfold atX at e2
    split at e2
    · rename_i n
      split at e2
      · rename_i nm fn dv hgn
        split at e2
        · rename_i hc
          cases e2
          obtain ⟨rfl, hc2⟩ := hc
          obtain ⟨a, hmu, _, dd, v1, h1, h2, h3⟩ := s1.rep.get hgn
          have := rp_hd r1 hmu
          subst this
          obtain ⟨T, hno⟩ := hok nm hc2
          exact ⟨a, _, dd, _, v1, rfl, h1, s1.sub _ _ h2, T, hno, by rw [lookup_put, if_pos rfl], qq v1 H1 F1 s1 h3⟩
        · cases e2
      · cases e2
    · cases e2
end
end PD
end
section
set_option Elab.async false
set_option linter.all false
set_option maxRecDepth 100000
set_option maxHeartbeats 4000000
set_option autoImplicit false
/-! ### what the head tells of the exceptions' classes -/
namespace PD
open PySem PySem.Spec L2 PySem.W PySem.Calls
open PyProof.Rows hiding St
variable [Live]
/-- the classes (name, field, family), the own and the built-in classes that are asked for -/
structure XT where
  cl : List (Str × Str × Nat)
  own : List Str
  blt : List (Str × String)
  exm : List Str
def famN : Nat → List Str
  | 0 => ["Refused", "ValueError"]
  | 1 => ["Barred", "LookupError"]
  | _ => ["Beyond", "ArithmeticError"]
def tailOf : Nat → List Value
  | 0 => tailV
  | 1 => tailL
  | _ => tailA
def newOf : Nat → String
  | 0 => "ValueError.__new__"
  | 1 => "LookupError.__new__"
  | _ => "ArithmeticError.__new__"
theorem baseOf : ∀ k : Nat, ∃ B initId, XBase B (newOf k) initId (tailOf k)
  | 0 => ⟨_, _, xbV⟩
  | 1 => ⟨_, _, xbL⟩
  | _ + 2 => ⟨_, _, xbA⟩
def subX (T : XT) (nm y : Str) : Option Bool := (T.cl.find? fun c => decide (c.1 = nm)).map fun c => decide (y = nm) || (famN c.2.2).contains y
def refsT (tail : List Value) : List Value → Bool
  | .ref _ :: r => refsT tail r
  | l => l == tail
theorem refsT_ok {tail : List Value} : ∀ {l : List Value}, refsT tail l = true → ∃ own, l = mroB own tail
  | [], h => ⟨[], beq_iff_eq.mp h⟩
  | .ref c :: r, h => by
    obtain ⟨own, e⟩ := refsT_ok (l := r) h
    exact ⟨c :: own, by rw [e]; rfl⟩
  | .none :: _, h => ⟨[], beq_iff_eq.mp h⟩
  | .ellipsis :: _, h => ⟨[], beq_iff_eq.mp h⟩
  | .notImplemented :: _, h => ⟨[], beq_iff_eq.mp h⟩
  | .bool _ :: _, h => ⟨[], beq_iff_eq.mp h⟩
  | .int _ _ :: _, h => ⟨[], beq_iff_eq.mp h⟩
  | .float _ _ :: _, h => ⟨[], beq_iff_eq.mp h⟩
  | .str _ _ :: _, h => ⟨[], beq_iff_eq.mp h⟩
  | .bytes _ _ :: _, h => ⟨[], beq_iff_eq.mp h⟩
  | .type _ :: _, h => ⟨[], beq_iff_eq.mp h⟩
  | .builtin _ :: _, h => ⟨[], beq_iff_eq.mp h⟩
def exOk (K : PySem.W.Frag) (C : Addr) (tail : List Value) (newId : String) : Bool := match K.lookup C with
  | some ⟨.type "type", _, .cls cd, sl⟩ => (match cd.mro, sl.toList with
    | .ref C' :: bm, [_, _, _, _, some (.builtin n), _] => C' == C && n == newId && !cd.hasDel && cd.hasDict && refsT tail bm
    | _, _ => false)
  | _ => false
theorem exOk_ok {K : PySem.W.Frag} {C : Addr} {tail : List Value} {newId : String} (q : exOk K C tail newId = true) : ∃ nm q N bs own sn sub ab col dd k0 k1 k2 k3 k5, K.lookup C = some (excClassObj nm q C N bs (mroB own tail) true sn sub ab col dd k0 k1 k2 k3 k5 newId) := by
  unfold exOk at q
  split at q
  · rename_i dd cd sl ho
    split at q
    · rename_i C' bm k0 k1 k2 k3 n k5 hm hs
      simp only [Bool.and_eq_true, beq_iff_eq, Bool.not_eq_true'] at q
      obtain ⟨⟨⟨⟨rfl, rfl⟩, hdel⟩, hdct⟩, ht⟩ := q
      obtain ⟨own, rfl⟩ := refsT_ok ht
      obtain ⟨nm, bs, mro, ns, qn, hd, sn, sub, ab, col, del⟩ := cd
      dsimp only at hm hdel hdct
      subst hm hdel hdct
      have hsl : sl = #[k0, k1, k2, k3, some (.builtin n), k5] := by
        obtain ⟨l⟩ := sl
        simp only at hs
        rw [hs]
      subst hsl
      exact ⟨nm, qn, ns, bs, own, sn, sub, ab, col, dd, k0, k1, k2, k3, k5, ho⟩
    · cases q
  · cases q
def clsOk (K : PySem.W.Frag) (c : Str × Str × Nat) : Bool :=
  let C := He.ga K c.1
  exOk K C (tailOf c.2.2) (newOf c.2.2) && (He.eqO (findIn K (.ref C) "__setattr__") (some (some (.builtin "object.__setattr__"))) && (decide (subIn K (.ref C) (.type "BaseException") = some true) && (decide (typeIn K (.ref C) = some (.type "type")) && (keepIn K (.ref C) &&
    (He.eqO (findIn K (.ref C) "__init__") (some (some (.ref (He.ma K C "__init__")))) && (decide (typeIn K (.ref (He.ma K C "__init__")) = some (.type "function")) && (He.eqO (findIn K (.ref C) c.2.1) (some none) &&
    (He.eqO (findIn K (.ref C) "__getattribute__") (some (some (.builtin "BaseException.__getattribute__"))) && (He.eqO (findIn K (.ref C) "__getattr__") (some none) && (hasDictIn K C && (He.eqO (findIn K (.ref C) "__class__") (some (some (.builtin "object.__class__"))) && decide (mroIn K C (.type "object") = some true))))))))))))
def xbK (T : XT) (K : PySem.W.Frag) : Bool := (decide (specialIn K (.builtin "object.__class__") "__get__" = some (some (.builtin "getset_descriptor.__get__"))) && decide (takesIn K (.builtin "object.__class__") = some true)) &&
  T.cl.all fun c => clsOk K c && ((T.own.all fun y => decide (kitOne K (.ref (He.ga K c.1)) (.ref (He.ga K y)) = subX T c.1 y)) && ((T.blt.all fun y => decide (kitOne K (.ref (He.ga K c.1)) (.type y.2) = subX T c.1 y.1)) &&
    (T.exm.all fun y => decide (exmOne K (.ref (He.ga K c.1)) (.ref (He.ga K y)) = subX T c.1 y))))
structure ClsF (K : PySem.W.Frag) (nm f : Str) (k : Nat) : Prop where
  oex : OexB K (He.ga K nm) (tailOf k) (newOf k)
  init : findIn K (.ref (He.ga K nm)) "__init__" = some (some (.ref (He.ma K (He.ga K nm) "__init__")))
  fn : typeIn K (.ref (He.ma K (He.ga K nm) "__init__")) = some (.type "function")
  no : findIn K (.ref (He.ga K nm)) f = some none
  ec : ExcC K (He.ga K nm)
  xf : XfC K (He.ga K nm)
section
variable {T : XT} {K : PySem.W.Frag}
theorem xb_cls (h : xbK T K = true) {c : Str × Str × Nat} (hc : c ∈ T.cl) : ClsF K c.1 c.2.1 c.2.2 := by
  obtain ⟨h0, h1⟩ := Bool.and_eq_true_iff.mp h
  obtain ⟨s1, s2⟩ := Bool.and_eq_true_iff.mp h0
  obtain ⟨h2, _⟩ := Bool.and_eq_true_iff.mp (List.all_eq_true.mp h1 c hc)
  unfold clsOk at h2
  dsimp only at h2
  obtain ⟨a1, h2⟩ := Bool.and_eq_true_iff.mp h2
  obtain ⟨a2, h2⟩ := Bool.and_eq_true_iff.mp h2
  obtain ⟨a3, h2⟩ := Bool.and_eq_true_iff.mp h2
  obtain ⟨a4, h2⟩ := Bool.and_eq_true_iff.mp h2
  obtain ⟨a5, h2⟩ := Bool.and_eq_true_iff.mp h2
  obtain ⟨a6, h2⟩ := Bool.and_eq_true_iff.mp h2
  obtain ⟨a7, h2⟩ := Bool.and_eq_true_iff.mp h2
  obtain ⟨a8, h2⟩ := Bool.and_eq_true_iff.mp h2
  obtain ⟨a9, h2⟩ := Bool.and_eq_true_iff.mp h2
  obtain ⟨a10, h2⟩ := Bool.and_eq_true_iff.mp h2
  obtain ⟨a11, h2⟩ := Bool.and_eq_true_iff.mp h2
  obtain ⟨a12, a13⟩ := Bool.and_eq_true_iff.mp h2
  exact ⟨⟨exOk_ok a1, He.eqO_ok a2, of_decide_eq_true a3, of_decide_eq_true a4, a5⟩, He.eqO_ok a6, of_decide_eq_true a7, He.eqO_ok a8,
    ⟨He.eqO_ok a9, He.eqO_ok a10, of_decide_eq_true a3, a11, He.eqO_ok a12, of_decide_eq_true s1, of_decide_eq_true s2, of_decide_eq_true a13⟩, ⟨He.eqO_ok a9, He.eqO_ok a10, of_decide_eq_true a3, a11⟩⟩
theorem xb_rest (h : xbK T K = true) {c : Str × Str × Nat} (hc : c ∈ T.cl) : (∀ y ∈ T.own, kitOne K (.ref (He.ga K c.1)) (.ref (He.ga K y)) = subX T c.1 y) ∧ (∀ y ∈ T.blt, kitOne K (.ref (He.ga K c.1)) (.type y.2) = subX T c.1 y.1) ∧ ∀ y ∈ T.exm, exmOne K (.ref (He.ga K c.1)) (.ref (He.ga K y)) = subX T c.1 y := by
  obtain ⟨_, h1⟩ := Bool.and_eq_true_iff.mp h
  obtain ⟨_, h2⟩ := Bool.and_eq_true_iff.mp (List.all_eq_true.mp h1 c hc)
  obtain ⟨a1, h2⟩ := Bool.and_eq_true_iff.mp h2
  obtain ⟨a2, a3⟩ := Bool.and_eq_true_iff.mp h2
  exact ⟨fun y hy => of_decide_eq_true (List.all_eq_true.mp a1 y hy), fun y hy => of_decide_eq_true (List.all_eq_true.mp a2 y hy), fun y hy => of_decide_eq_true (List.all_eq_true.mp a3 y hy)⟩
theorem sub_in {nm y : Str} {b : Bool} (h : subX T nm y = some b) : ∃ c ∈ T.cl, c.1 = nm := by
  obtain ⟨c, e, _⟩ := Option.map_eq_some_iff.mp h
  have e2 : decide (c.1 = nm) = true := List.find?_some (p := fun c : Str × Str × Nat => decide (c.1 = nm)) e
  exact ⟨c, List.mem_of_find?_eq_some e, of_decide_eq_true e2⟩
theorem xb_own (h : xbK T K = true) {y : Str} (hy : y ∈ T.own) : ∀ nm b, subX T nm y = some b → ExcC K (He.ga K nm) ∧ kitOne K (.ref (He.ga K nm)) (.ref (He.ga K y)) = some b := fun nm b e => by
  obtain ⟨c, hc, rfl⟩ := sub_in e
  exact ⟨(xb_cls h hc).ec, by rw [(xb_rest h hc).1 y hy]; exact e⟩
theorem xb_blt (h : xbK T K = true) {y : Str × String} (hy : y ∈ T.blt) : ∀ nm b, subX T nm y.1 = some b → ExcC K (He.ga K nm) ∧ kitOne K (.ref (He.ga K nm)) (.type y.2) = some b := fun nm b e => by
  obtain ⟨c, hc, rfl⟩ := sub_in e
  exact ⟨(xb_cls h hc).ec, by rw [(xb_rest h hc).2.1 y hy]; exact e⟩
theorem xb_exm (h : xbK T K = true) {y : Str} (hy : y ∈ T.exm) : ∀ nm b, subX T nm y = some b → exmOne K (.ref (He.ga K nm)) (.ref (He.ga K y)) = some b := fun nm b e => by
  obtain ⟨c, hc, rfl⟩ := sub_in e
  rw [(xb_rest h hc).2.2 y hy]
  exact e
/-- the classes whose field is f -/
def hasF (T : XT) (f nm : Str) : Bool := T.cl.any fun c => decide (c.1 = nm) && decide (c.2.1 = f)
theorem xb_at (h : xbK T K = true) (f : Str) : ∀ nm, hasF T f nm = true → XfC K (He.ga K nm) ∧ findIn K (.ref (He.ga K nm)) f = some none := fun nm e => by
  obtain ⟨c, hc, e⟩ := List.any_eq_true.mp e
  obtain ⟨e1, e2⟩ := Bool.and_eq_true_iff.mp e
  have e1 := of_decide_eq_true e1
  have e2 := of_decide_eq_true e2
  subst e1 e2
  exact ⟨(xb_cls h hc).xf, (xb_cls h hc).no⟩
theorem xcls_of {P : Program} {w : World} {mg : Str → Option Value} {base : Heap} {nm f qual : Str} {k : Nat} {fd : FuncData} {params : Arguments} {body : List Stmt} {scope : Scope} {p1 p2 p3 p4 : Pos} (h : xbK T K = true) (hc : (nm, f, k) ∈ T.cl) (hm : mg nm = some (.ref (He.ga K nm)))
    (FF : FunD K "__init__" qual params body scope [] [] (He.fAd K (nm, some "__init__")) fd) (hb : body = [.Assign [.Attribute (.Name "self" p1) f p2] (.Name f p3) p4]) (S : FnScope ["self", f] ["self", f] scope)
    (hx1 : (f == ("__debug__" : Str)) = false) (hx2 : (f == ("__classdict__" : Str)) = false) (hv1 : Vis scope "self") (hv2 : Vis scope f)
    (hsw : ∀ env : Env, env.scope = scope → swapsWith (.Name f p3) (some (.Attribute (.Name "self" p1) f p2)) p4.line env = pure false) (bd : Binds K fd ["self", f] []) (kb : ∀ (s : Shared) (u v : Value), BindsTo s fd ⟨[u], [(f, v)]⟩ [("self", u), (f, v)]) : XCls P w K mg base nm f f := by
  obtain ⟨B, initId, XB⟩ := baseOf k
  have CF := xb_cls h hc
  exact ⟨B, _, initId, _, _, fd, XB, CF.oex, hm, CF.init, CF.fn, init_ok CF.oex XB.ps XB.ob CF.no FF hb S hx1 hx2 hv1 hv2 hsw, bd, kb⟩
end
end PD
end
section
set_option Elab.async false
set_option linter.all false
set_option maxRecDepth 100000
set_option maxHeartbeats 4000000
set_option autoImplicit false
/-! ### x, y = n, 'text' in the suite of an except clause -/
namespace PD
open PySem PySem.Spec L2 PySem.W PySem.Calls
open PyProof.Rows hiding St
variable [Live]
section
variable {P : Program} {w : World} {A : Around} {E : Value → Shared → Prop} {s : Shared}
end
/-- x, y = n, 'text' -/
def sPair (i j1 j2 : Nat) (tx : Str) : S := fun ρ => mb (eVar i ρ) fun d => mr (.nx (setR (setR ρ j1 d) j2 (.str tx)))
@[simp] theorem sPair_ap (i j1 j2 : Nat) (tx : Str) (ρ : Rho) (g : G) : sPair i j1 j2 tx ρ g = (eVar i ρ g).map fun p => (.nx (setR (setR ρ j1 p.1) j2 (.str tx)), p.2) := by
  refine (mb_ap _ _ _).trans ?_
  cases eVar i ρ g <;> rfl
end PD
namespace PD
open PySem PySem.Spec L2
variable [Live]
/-! ### [..] * k -/
def repA (k : Int) (ds : List D) : Option (List D) := if ds.length * k.toNat ≤ sizeLine ∧ -(2 ^ 63) ≤ k ∧ k < 2 ^ 63 then some (List.replicate k.toNat ds).flatten else none
def aRep (k : Int) (fa : EA) : EA := fun ρ => mb (fa ρ) fun ds => ml (repA k ds)
@[simp] theorem aRep_ap (k : Int) (fa : EA) (ρ : Rho) (g : G) : aRep k fa ρ g = (fa ρ g).bind fun p => (repA k p.1).map fun ds => (ds, p.2) := by
  refine (mb_ap _ _ _).trans ?_
  congr 1
  funext p
  exact ml_ap _ _
theorem rpA_rep {K : PySem.W.Frag} {F : Fz} {vs : List V} {ds : List D} (r : RpA K F vs ds) : ∀ n : Nat, RpA K F (List.replicate n vs).flatten (List.replicate n ds).flatten
  | 0 => .nil
  | n + 1 => by
    rw [List.replicate_succ, List.replicate_succ, List.flatten_cons, List.flatten_cons]
    exact r.append (rpA_rep r n)
end PD
end
section
set_option Elab.async false
set_option linter.all false
set_option maxRecDepth 100000
set_option maxHeartbeats 4000000
set_option autoImplicit false
/-! ### int(text), str(int), text.index(sign), text * k, a slice as a new list -/
namespace PD
open PySem PySem.Spec L2
open PyProof.Rows hiding St
variable [Live]
def intTD : D → Option D
  | .str a => if a.length ≤ 640 then (PySem.intText? a).map .int else none
  | _ => none
def strTD : D → Option D
  | .int i => if i.natAbs.log2 < 1920 ∧ showOk (.int i) = true then some (.str (toString i)) else none
  | _ => none
def eUn (h : D → Option D) (f : E) : E := fun ρ => mb (f ρ) fun d => ml (h d)
@[simp] theorem eUn_ap (h : D → Option D) (f : E) (ρ : Rho) (g : G) : eUn h f ρ g = (f ρ g).bind fun p => (h p.1).map fun d => (d, p.2) := by
  refine (mb_ap _ _ _).trans ?_
  congr 1
  funext p
  exact ml_ap _ _
section
variable {X : Cx} {e : Expr} {f : E} {p pos : Pos}
theorem pd_intT (hm : X.mg "int" = none) (h : PD X e f) (hg : Gl X "int" := by rfl) (hs : starEach [e] X.env = (false, eval e X.env) :: starEach [] X.env := by rfl) : PD X (.Call (.Name "int" p) [e] [] pos) (eUn intTD f) := by
  obtain ⟨t, ht, k⟩ := h
  refine ⟨_, pe_callTy call_int_str hg hm (by decide +kernel) (pa_cons ht pa_nil hs) (by decide) (by decide) hs (by rfl), fun σ H F ρ g pre d g' ev Q q => ?_⟩
  obtain ⟨d0, g1, e1, ev⟩ := mb_inv ev
  obtain ⟨e2, rfl⟩ := ml_inv ev
  refine k σ H F ρ g pre d0 _ e1 _ fun v H1 F1 s1 r1 => ?_
  unfold intTD at e2
  split at e2
  · split at e2
    · rename_i a hz
      obtain ⟨n, e3, rfl⟩ := Option.map_eq_some_iff.mp e2
      obtain ⟨rfl, _⟩ := rp_str r1
      exact ⟨a, n, rfl, e3, hz, q _ H1 F1 s1 (.int n)⟩
    · cases e2
  · cases e2
theorem pd_strT (hm : X.mg "str" = none) (h : PD X e f) (hg : Gl X "str" := by rfl) (hs : starEach [e] X.env = (false, eval e X.env) :: starEach [] X.env := by rfl) : PD X (.Call (.Name "str" p) [e] [] pos) (eUn strTD f) := by
  obtain ⟨t, ht, k⟩ := h
  refine ⟨_, pe_callTy call_str_int hg hm (by decide +kernel) (pa_cons ht pa_nil hs) (by decide) (by decide) hs (by rfl), fun σ H F ρ g pre d g' ev Q q => ?_⟩
  obtain ⟨d0, g1, e1, ev⟩ := mb_inv ev
  obtain ⟨e2, rfl⟩ := ml_inv ev
  refine k σ H F ρ g pre d0 _ e1 _ fun v H1 F1 s1 r1 => ?_
  unfold strTD at e2
  split at e2
  · split at e2
    · rename_i i hz
      cases e2
      have := rp_int r1
      subst this
      obtain ⟨h1, h2⟩ := hz
      obtain ⟨_, c2⟩ := Bool.and_eq_true_iff.mp h2
      obtain ⟨_, c4⟩ := Bool.and_eq_true_iff.mp c2
      have es : shows (.int i) = (toString i : Str) := rfl
      exact ⟨i, rfl, h1, q _ H1 F1 s1 (.str _ (sOk_mk (strOk_iff.mpr (sg_string _)) (by rw [← es]; exact of_decide_eq_true c4)))⟩
    · cases e2
  · cases e2
end
/-! ### text.index(sign) -/
section
variable {X : Cx} {a e : Expr} {fa f : E} {ap cp : Pos}
end
/-! ### text * k -/
def repS (a : Str) (n : Int) : Str := ⟨(List.replicate n.toNat a.cps).foldl (· ++ ·) #[]⟩
theorem fold_size (x : Array Nat) : ∀ (n : Nat) (acc : Array Nat), ((List.replicate n x).foldl (· ++ ·) acc).size = acc.size + n * x.size
  | 0, acc => by simp
  | n + 1, acc => by
    rw [List.replicate_succ, List.foldl_cons, fold_size x n (acc ++ x), Array.size_append, Nat.add_mul]
    omega
theorem repS_len (a : Str) (n : Int) : (repS a n).length = n.toNat * a.length := by
  show ((List.replicate n.toNat a.cps).foldl (· ++ ·) #[]).size = _
  rw [fold_size]
  simp
  rfl
def rRepS : R2 := fun x y H Q => ∃ (a : Str) (n : Int), x = .str a ∧ y = .int n ∧ 2 ≤ n ∧ n ≤ 10000 ∧ 1 ≤ a.length ∧ a.length ≤ 100 ∧ Q (.str (repS a n)) H
theorem op_repS {X : Cx} : OpR X (binaryOp .Mult) rRepS := by
  intro pins s σ H x y v u Q I rx ry h
  obtain ⟨a, n, rfl, rfl, h1, h2, h3, h4, q⟩ := h
  obtain ⟨t, rfl⟩ := rx
  obtain ⟨t2, rfl⟩ := ry
  have c0 : ¬ n < 1 := by omega
  have c1 : (n == 1 || a.length == 0) = false := by
    have e1 : (n == 1) = false := by simpa using (by omega : ¬ n = 1)
    have e2 : (a.length == 0) = false := by simpa using (by omega : ¬ a.length = 0)
    rw [e1, e2]
    rfl
  refine PySem.P.mul_str ?_ (fun _ _ => ?_) (fun _ _ => ?_) ?_
  · have e1 : ¬ n < -(2 ^ 63 : Int) := by omega
    have e2 : ¬ n ≥ 2 ^ 63 := by omega
    rw [decide_eq_false e1, decide_eq_false e2]
    rfl
  · have e1 : (a.length : Int) * n ≤ 100 * 10000 := Int.mul_le_mul (by omega) h2 (by omega) (by omega)
    have e2 : (a.length : Int) ≤ (2 ^ 63 - 1) / n := Int.le_ediv_of_mul_le (by omega) (by omega)
    omega
  · have e1 : a.length * n.toNat ≤ 100 * 10000 := Nat.mul_le_mul h4 (by omega)
    exact decide_eq_false (by rw [sizeLine_eq]; omega)
  · rw [if_neg c0, c1, if_neg Bool.false_ne_true]
    refine ⟨?_, ⟨.str _, H, I.tok _, ⟨_, rfl⟩, q⟩⟩
    have e1 : n.toNat * a.length ≤ 10000 * 100 := Nat.mul_le_mul (by omega) h4
    have e2 := repS_len a n
    show (repS a n).length ≤ sizeLine
    rw [e2, sizeLine_eq]
    omega
def mulSD (x y : D) : Option D := match x, y with
  | .str a, .int n => if 2 ≤ n ∧ n ≤ 10000 ∧ 1 ≤ a.length ∧ a.length ≤ 100 ∧ sOk (repS a n) = true then some (.str (repS a n)) else none
  | _, _ => none
/-! ### a slice, as a new list -/
def aSlL (fa : E) (fl fh : Rho → M (Option Int)) : EA := fun ρ => mb (fa ρ) fun x => mb (fl ρ) fun l => mb (fh ρ) fun h => ml (match x with
  | .lst xs => some (cutL xs l h)
  | _ => none)
@[simp] theorem aSlL_ap (fa : E) (fl fh : Rho → M (Option Int)) (ρ : Rho) (g : G) : aSlL fa fl fh ρ g = (fa ρ g).bind fun p => (fl ρ p.2).bind fun q => (fh ρ q.2).bind fun r => (match p.1 with
  | .lst xs => some (cutL xs q.1 r.1)
  | _ => none).map fun ds => (ds, r.2) := by
  refine (mb_ap _ _ _).trans ?_
  congr 1
  funext p
  refine (mb_ap _ _ _).trans ?_
  congr 1
  funext q
  refine (mb_ap _ _ _).trans ?_
  congr 1
  funext r
  exact ml_ap _ _
/-! ### {} -/
def eK0 : EK := fun _ => mr ([], [])
@[simp] theorem eK0_ap (ρ : Rho) (g : G) : eK0 ρ g = some (([], []), g) := rfl
end PD
end
section
set_option Elab.async false
set_option linter.all false
set_option maxRecDepth 100000
set_option maxHeartbeats 4000000
set_option autoImplicit false
/-! ### except (A, B, C) as n, isinstance(e, (A, B)), xs.append(f(..)) of a def that may raise -/
namespace PD
open PySem PySem.Spec L2 PySem.W PySem.Calls
open PyProof.Rows hiding St
variable [Live]
theorem fly_keep {B h h' : Heap} {l : List Env} {e : Addr} {Z : Obj → Prop} (x : HandSPX.FlyingZ B l e Z h) (k : h.StaysIn h') : HandSPX.FlyingZ B l e Z h' := by
  obtain ⟨f1, f2, f3, oe, vs, T, oT, ts, he, hz, hd, h1, hn, hT, hT2, hd2, h3⟩ := x
  exact ⟨fun b o hb => k b o (f1 b o hb), f2, f3.of_keeps fun b o hb _ => ⟨o, k b o hb, rfl⟩, oe, vs, T, oT, ts, k _ _ he, hz, hd, h1, hn, hT, k _ _ hT2, hd2, h3⟩
theorem up_keep {h h' h'' : Heap} (x : h.UpToSlots h') (k : h'.StaysIn h'') : h.UpToSlots h'' := fun b o e n => by
  obtain ⟨sl, q⟩ := x b o e n
  exact ⟨sl, k _ _ q⟩
def subXs (T : XT) (nm : Str) (ys : List Str) : Option Bool := (T.cl.find? fun c => decide (c.1 = nm)).map fun c => ys.any fun y => decide (y = nm) || (famN c.2.2).contains y
section
variable {T : XT} {K : PySem.W.Frag}
theorem subXs_in {nm : Str} {ys : List Str} {b : Bool} (h : subXs T nm ys = some b) : ∃ c ∈ T.cl, c.1 = nm ∧ b = ys.any (fun y => decide (y = nm) || (famN c.2.2).contains y) ∧ ∀ y, subX T nm y = some (decide (y = nm) || (famN c.2.2).contains y) := by
  obtain ⟨c, e, rfl⟩ := Option.map_eq_some_iff.mp h
  have e2 : decide (c.1 = nm) = true := List.find?_some (p := fun c : Str × Str × Nat => decide (c.1 = nm)) e
  exact ⟨c, List.mem_of_find?_eq_some e, of_decide_eq_true e2, rfl, fun y => by unfold subX; rw [e]; rfl⟩
theorem xb_exmAny (h : xbK T K = true) {ys : List Str} (hy : ∀ y ∈ ys, y ∈ T.exm) : ∀ nm b, subXs T nm ys = some b → exmAny K (.ref (He.ga K nm)) (ys.map fun y => .ref (He.ga K y)) = some b := fun nm b e => by
  obtain ⟨c, hc, rfl, rfl, hs⟩ := subXs_in e
  clear e
  induction ys with
  | nil => rfl
  | cons y ys ih =>
    have e1 := xb_exm h (hy y List.mem_cons_self) c.1 _ (hs y)
    have e2 := ih fun z hz => hy z (List.mem_cons_of_mem _ hz)
    rw [List.map_cons, List.any_cons]
    unfold exmAny
    rw [e1, e2]
end
/-- one clause, of a tuple of three classes -/
structure HdT (X : Cx) (h : ExceptHandler) (cl : Cl) : Prop where
  ex : ∃ (x1 x2 x3 n : Str) (c1 c2 c3 : Value) (b₀ : Stmt) (suite : List Stmt) (p1 p2 p3 tp pos' : Pos) (tk : Nat), h = .ExceptHandler (some (.Tuple [.Name x1 p1, .Name x2 p2, .Name x3 p3] tk tp)) (some n) (b₀ :: suite) pos' ∧
    backTo tp (starEach [.Name x1 p1, .Name x2 p2, .Name x3 p3] X.env) = [(false, eval (.Name x1 p1) X.env), (false, eval (.Name x2 p2) X.env), (false, eval (.Name x3 p3) X.env)] ∧
    Names X x1 c1 ∧ Names X x2 c2 ∧ Names X x3 c3 ∧ (∀ nm b, cl.tab nm = some b → exmAny X.K (.ref (He.ga X.K nm)) [c1, c2, c3] = some b) ∧ X.N[cl.i]? = some n ∧ X.env.kindOf n = some .local ∧
    ∀ (a : Addr) (pn : List (Addr × Obj)), PDSA (X.suite a pn) a (b₀ :: suite) cl.su
theorem pds_tryT {X : Cx} {body : List Stmt} {h₀ : ExceptHandler} {b : S} {cl : Cl} {pos : Pos} (hs : X.stack = X.env :: X.outer) (hf : X.env.frame = some X.env.locals) (hN : X.N.Nodup)
    (hb : ∀ (pn : List (Addr × Obj)) (xe : Value → Shared → Prop), PassesOwn (model X.prog X.w) X.A X.env xe → PDSS (X.tr pn xe) body b) (hh : HdT X h₀ cl) : PDS X (.Try body [h₀] [] [] pos) (sTry b [cl]) := by
  obtain ⟨x1, x2, x3, n, c1, c2, c3, b₀, suite, q1, q2, q3, tp, pos', tkk, rfl, hst, hc1, hc2, hc3, htab, hi, hln, hsu⟩ := hh.ex
  refine ⟨fun De σ H => ∃ en F ρ g fl g', PreS X.K en F H g ρ σ ∧ sTry b [cl] ρ g = some (fl, g') ∧ Post X en g' De fl, ⟨fun pins s σ H De I h => ?_⟩, fun en σ H F ρ g pre fl g' ev De post => ⟨en, F, ρ, g, fl, g', pre, ev, post⟩⟩
  obtain ⟨en, F, ρ, g, fl, g', pre, ev, post⟩ := h
  have ok := I.ok
  have hfr : X.A.frames = some (X.env :: X.outer) := by rw [ok.frames, hs]
  obtain ⟨fl1, g1, e1⟩ : ∃ fl1 g1, b ρ g = some (fl1, g1) := by
    obtain ⟨fl1, g1, e1, _⟩ := mb_inv ev
    exact ⟨fl1, g1, e1⟩
  refine wpAny_Try_except ?_
  obtain ⟨t, ht, kt⟩ := hb (X.pn ++ pins) (fun er s₁ => wpAny (model X.prog X.w) X.A (noteFrame er X.env) (fun _ s₂ => wpAny (model X.prog X.w) X.A (setFlight er none)
    (fun _ s₃ => wpAny (model X.prog X.w) X.A (handleBy er X.env [.ExceptHandler (some (.Tuple [.Name x1 q1, .Name x2 q2, .Name x3 q3] tkk tp)) (some n) (b₀ :: suite) pos']) (SP X pins De) X.xe s₃) X.xe s₂) X.xe s₁) PassesOwn.looking
  refine wpAny_mono (ht.run [] s σ H De (I.toTry _) (kt en σ H F ρ g pre fl1 g1 e1 De ?post1)) (fun f s1 hsp => ?ok1) (fun er s1 he => he)
  case ok1 =>
    match f, hsp with
    | .next, ⟨σ1, H1, J1, q⟩ => exact wpAny_execs_nil ⟨σ1, H1, J1.ofTry ok, q⟩
    | .brk, ⟨σ1, H1, J1, q⟩ => exact ⟨σ1, H1, J1.ofTry ok, q⟩
    | .cont, ⟨σ1, H1, J1, q⟩ => exact ⟨σ1, H1, J1.ofTry ok, q⟩
    | .ret u, ⟨v, σ1, H1, J1, r, q⟩ => exact ⟨v, σ1, H1, J1.ofTry ok, r, q⟩
  case post1 =>
    rcases sTry_nx e1 ev with ⟨nm, fn, d, ρ1, rfl, eX⟩ | ⟨hne, rfl, rfl⟩
    · -- the catch
      intro σ1 H1 F1 dd v1 p1 hdd rv u s' xx
      obtain ⟨a, B0, sI, pins', σ0, H0, cls, d0, rfl, J', nb, up, sky, na, os, ag, rfl, rfl, rfl, rfl⟩ := xx
      have J : Inv X pins σ0 H0 sI := J'.ofTry ok
      have sky' : Sky B0 (X.env :: X.outer) a (L2N.Zn (.ref (He.ga X.K nm)) (some dd)) X.env.locals s'.heap := by rw [← hs]; exact sky
      show wpAny (model X.prog X.w) X.A (noteFrame (.ref a) X.env) _ _ _
      refine L2N.Sky.land L2N.Zn.steady hfr hf sky' fun h3 fl3 up3 => ?_
      obtain ⟨oe3, vs3, he3, hz3, hd3⟩ := fl3.there
      have nfr : a ∉ frs (X.env :: X.outer) := fun hm => by
        obtain ⟨_, o', e', hnf⟩ := fl3.2.2.1.mem hm
        rw [he3] at e'; cases e'
        exact hnf _ hd3
      have nfr2 : a ∉ frs X.stack := by rw [hs]; exact nfr
      have nL : a ≠ X.env.locals := fun z => nfr (List.mem_filterMap.mpr ⟨X.env, List.mem_cons_self, by rw [hf, z]⟩)
      have nF : a ∉ X.fs := fun hm => by
        obtain ⟨e, he, q⟩ := List.mem_filterMap.mp hm
        exact nfr (List.mem_filterMap.mpr ⟨e, List.mem_cons_of_mem _ he, q⟩)
      have J3 : Inv X pins σ0 H0 { s' with heap := h3 } := J.landed nb fl3.1 (up.trans up3) os ag
      have S3 := J3.suite he3 hd3 na nL nF
      refine wpAny_handleBy_cons (codeAny_handlers_test ?_) (by intro q; cases q)
      have test : ∀ {x : Str} {np : Pos} {c : Value}, Names X x c → ∀ {Q : Value → Shared → Prop} {E : Value → Shared → Prop}, Q c { s' with heap := h3 } → wpAny (model X.prog X.w) (X.A.mark (some (.ref a))) (eval (.Name x np) X.env) Q E { s' with heap := h3 } := fun {x np c} hc {Q E} q => by
        obtain ⟨hg, hdbg, hm | ⟨hm, hv, hnn⟩⟩ := hc
        · exact ld_glob (X := X.suite a ((a, oe3) :: (X.pn ++ pins))) S3 hg hm q hdbg
        · exact ld_blt (X := X.suite a ((a, oe3) :: (X.pn ++ pins))) S3 hg hm hv q hnn hdbg
      unfold hX at eX
      cases hb1 : cl.tab nm with
      | none => rw [hb1] at eX; cases eX
      | some bb =>
        rw [hb1] at eX
        cases bb with
        | false => cases eX
        | true =>
          refine wpAny_Tuple_spliced ?_
          rw [hst]
          refine Calls.spliced_cons (test hc1 (Calls.spliced_cons (test hc2 (Calls.spliced_cons (test hc3 (Calls.spliced_nil ⟨by rw [sizeLine_eq]; simp, ?_⟩))))))
          generalize hT : ({ cls := .type "tuple", data := .seq [c1, c2, c3].toArray } : Obj) = oT
          have kp : h3.StaysIn (h3.push oT) := fun b o hb => Heap.get?_push_of_some _ hb
          have htp : (h3.push oT).get? h3.objs.size = some oT := Heap.get?_push_size _ (by rw [← hT]; rfl)
          have LT : Looks (model X.prog X.w) (h3.push oT) (typeOf (.ref a)) (.ref (He.ga X.K nm)) := fun A Q E s k q => wpAny_typeOf_ref (k _ _ (kp _ _ he3)) (by rw [hz3.1]; exact q)
          have KI : X.K.In (h3.push oT) := PySem.W.Frag.In.keeps J3.kIn kp
          have LM := exm_tup3 (M := model X.prog X.w) KI LT (by rw [htp, ← hT]) (htab nm true hb1)
          have fl3' := fly_keep fl3 kp
          have up3' : sI.heap.UpToSlots (h3.push oT) := up_keep (up.trans up3) kp
          refine LM.here (s := { s' with heap := h3.push oT }) ?_
          obtain ⟨⟨fl2, g2⟩, w1, w2⟩ := Option.bind_eq_some_iff.mp eX
          obtain ⟨fl3x, w3, w4⟩ := Option.map_eq_some_iff.mp w2
          cases w4
          refine codeAny_handlers_suite_as ?_
          refine HandSPX.lands_againZ (s := { s' with heap := h3.push oT }) fl3' fun h4 fl4 up4 => ?_
          obtain ⟨oe4, vs4, he4, hz4, hd4⟩ := fl4.there
          have J4 : Inv X pins σ0 (upd H0 a (exK a (He.ga X.K nm) dd)) { s' with heap := h4 } := landX (s' := { s' with heap := h4 }) J nb fl4.1 (up3'.trans up4) os ag na fl4.2.1 nfr2 he4 hz4.1 hz4.2.1 hd4 (hz4.2.2 _ hd4)
          have S4 := suite0 J4 a
          refine store_ok (X := X.suite a (X.pn ++ pins)) (v := .ref a) S4 hN hi (.inl hln) rfl (fun s5 S5 => ?_) (.inr hln)
          obtain ⟨ts, hts, kts⟩ := hsu a (X.pn ++ pins)
          have st2 := Stp.allocM (o := exK a (He.ga X.K nm) dd) (m := .mx nm fn d) p1.e.sub p1.e.rep na ⟨dd, v1, upd_same, hdd, rv⟩
          have p2 := (p1.step st2).set (i := cl.i) (d := .hd g1.length) (v := .ref a) (.hd (by
            have el : g1.length = F1.mu.length := p1.e.rep.len
            rw [el]
            simp))
          refine wpAny_mono (hts.run [] s5 _ _ { nx := fun σ6 H6 => De.nx (σ6.set cl.i none) H6, rt := De.rt, bk := fun σ6 H6 => De.bk (σ6.set cl.i none) H6, ct := fun σ6 H6 => De.ct (σ6.set cl.i none) H6 } S5
            (kts en _ _ _ _ _ p2 ⟨_, _, upd_same⟩ fl2 g2 w1 _ ?post2)) (fun f s6 hsp => ?end2) (fun _ _ z => False.elim z)
          case post2 =>
            cases fl2 with
            | nx ρ2 => cases w3; exact fun σ6 H6 F6 p6 => post _ H6 F6 (p6.gone cl.i)
            | bk ρ2 => cases w3; exact fun σ6 H6 F6 p6 => post _ H6 F6 (p6.gone cl.i)
            | ct ρ2 => cases w3; exact fun σ6 H6 F6 p6 => post _ H6 F6 (p6.gone cl.i)
            | rt d2 => cases w3; exact fun v H6 F6 s6 r6 => post v H6 F6 s6 r6
            | xc _ _ _ _ => cases w3
          case end2 =>
            have end_ : ∀ {σ6 : L2.St} {H6 : Hp} {Q : Shared → Prop}, Inv (X.suite a (X.pn ++ pins)) [] σ6 H6 s6 → (∀ s7, Inv X pins (σ6.set cl.i none) H6 s7 → Q s7) →
                wpAny (model X.prog X.w) X.A (do bindName X.env n .none; unbindBehindTheSuite X.env n pos') (fun _ s7 => Q s7) X.xe s6 := fun {σ6 H6 Q} S6 hq => gone_ok (unsuite0 S6 ok) hN hi hln hq
            match f, hsp with
            | .next, ⟨σ6, H6, S6, q6⟩ => exact end_ S6 fun s7 J7 => ⟨_, _, J7, q6⟩
            | .brk, ⟨σ6, H6, S6, q6⟩ => exact end_ S6 fun s7 J7 => ⟨_, _, J7, q6⟩
            | .cont, ⟨σ6, H6, S6, q6⟩ => exact end_ S6 fun s7 J7 => ⟨_, _, J7, q6⟩
            | .ret u, ⟨v6, σ6, H6, S6, r6, q6⟩ => exact end_ S6 fun s7 J7 => ⟨_, _, _, J7, r6, q6⟩
    · cases fl with
      | nx ρ => exact post
      | rt d => exact post
      | bk ρ => exact post
      | ct ρ => exact post
      | xc nm f d ρ => exact absurd rfl (hne nm f d ρ)
/-! ### xs.append(f(..)), f may raise -/
def sAppX (i : Nat) (F : List D → M Rx) (fs : EA) : S := fun ρ => mb (fs ρ) fun ds => mb (F ds) fun r => match r with
  | .ok d => ml ((olAt ρ i).bind fun l => if l.length < sizeLine then some (.nx (ρ.set i (some (.ol (l ++ [d]))))) else none)
  | .xc nm f d => fun g => (olAt ρ i).map fun _ => (.xc nm f d ρ, g)
def apK1 (i : Nat) (ρ : Rho) : Rx × G → Option (Fl × G)
  | (.ok d, g) => ((olAt ρ i).bind fun l => if l.length < sizeLine then some (.nx (ρ.set i (some (.ol (l ++ [d]))))) else none).map fun fl => (fl, g)
  | (.xc nm f d, g) => (olAt ρ i).map fun _ => (.xc nm f d ρ, g)
@[simp] theorem apK1_ok (i : Nat) (ρ : Rho) (d : D) (g : G) : apK1 i ρ (.ok d, g) = ((olAt ρ i).bind fun l => if l.length < sizeLine then some (.nx (ρ.set i (some (.ol (l ++ [d]))))) else none).map fun fl => (fl, g) := rfl
@[simp] theorem apK1_xc (i : Nat) (ρ : Rho) (nm f : Str) (d : D) (g : G) : apK1 i ρ (.xc nm f d, g) = (olAt ρ i).map fun _ => (.xc nm f d ρ, g) := rfl
@[simp] theorem sAppX_ap (i : Nat) (F : List D → M Rx) (fs : EA) (ρ : Rho) (g : G) : sAppX i F fs ρ g = (fs ρ g).bind fun p => (F p.1 p.2).bind (apK1 i ρ) := by
  refine (mb_ap _ _ _).trans ?_
  congr 1
  funext p
  refine (mb_ap _ _ _).trans ?_
  congr 1
  funext q
  obtain ⟨r, g⟩ := q
  cases r with
  | ok d => exact ml_ap _ _
  | xc nm f d => rfl
theorem pds_appX {X : Cx} {k n : Nat} {x y : Str} {p p2 ap cp cp2 pos : Pos} {e : Expr} {es : List Expr} {fs : EA} {F : List D → M Rx} (i : Nat) (hf : FnX X.prog X.w X.K X.mg X.base k y n F) (hr : Room k X.A) (gd : X.A.guards = some []) (ha : PDA X (e :: es) fs)
    (hn : ∀ ρ g ds g', fs ρ g = some (ds, g') → ds.length = n) (hg : Gl X y := by rfl) (hdb : (y == ("__debug__" : Str)) = false := by decide) (he : starEach (e :: es) X.env = (false, eval e X.env) :: starEach es X.env := by rfl)
    (hpl : (backTo cp2 (starEach es X.env)).any (·.1) = false := by rfl) (hN : X.N[i]? = some x := by rfl) (hv : Vis X.env.scope x := by first | exact Or.inl rfl | exact Or.inr (Or.inl rfl) | exact Or.inr (Or.inr rfl))
    (hd : (x == ("__debug__" : Str)) = false := by decide) (hcd : (x == ("__classdict__" : Str)) = false := by decide)
    (hbase : attributeBase (.Name x p) "append" X.env (eval (.Name x p) X.env) = eval (.Name x p) X.env := by rfl)
    (hfew : ((backTo cp (starEach [.Call (.Name y p2) (e :: es) [] cp2] X.env)).all (fun x => !x.1) && (backToKw cp (keywordEach [] X.env)).all (fun x => x.1.isSome)
      && decide ([Expr.Call (.Name y p2) (e :: es) [] cp2].length + ([] : List Keyword).length + (if ([] : List Keyword).isEmpty then 0 else 1) < 30)) = true := by rfl)
    (hline : (ap.endLine == cp.line) = true := by rfl) (hs : starEach [.Call (.Name y p2) (e :: es) [] cp2] X.env = (false, eval (.Call (.Name y p2) (e :: es) [] cp2) X.env) :: starEach [] X.env := by rfl) (hsw : swapsWith (.Call (.Attribute (.Name x p) "append" ap) [.Call (.Name y p2) (e :: es) [] cp2] [] cp) none pos.line X.env = pure false := by rfl) :
    PDS X (.Expr (.Call (.Attribute (.Name x p) "append" ap) [.Call (.Name y p2) (e :: es) [] cp2] [] cp) pos) (sAppX i F fs) := by
  obtain ⟨a, fd, ps, hm, hk, hb, GG⟩ := hf.ex
  obtain ⟨t, ht, kt⟩ := ha
  refine ⟨_, ps_expr (pe_bm PySem.F.plainAttrs_list PySem.F.slot_list_append PySem.F.type_list_append mt_append (pe_var hN hv hd hcd) (pa_cons (pe_callGS (E := WE (Wx X)) GG hr gd hg hm hk hb (L2N.passAt takes_wx) ht hdb he hpl) pa_nil hs) hbase hfew hline hs (by rfl)) hsw, fun en σ H F0 ρ g pre fl g' ev De post => ?_⟩
  obtain ⟨ds, g1, e1, ev⟩ := mb_inv ev
  obtain ⟨r, g2, e2, ev⟩ := mb_inv ev
  have hl0 : ∃ l, olAt ρ i = some l := by
    cases r with
    | ok d =>
      obtain ⟨ev2, rfl⟩ := ml_inv ev
      obtain ⟨l, hl0, _⟩ := bind_if ev2
      exact ⟨l, hl0⟩
    | xc nm f d =>
      obtain ⟨l, hl0, _⟩ := Option.map_eq_some_iff.mp ev
      exact ⟨l, hl0⟩
  obtain ⟨l, hl0⟩ := hl0
  have hl := olAt_inv hl0
  obtain ⟨q, vs, h1, h2, h3, h4, h5, h6⟩ := ol_inv pre.e hl
  refine ⟨_, h1, .inl ⟨rfl, vs, .of h4⟩, kt σ H F0 ρ g pre.e ds g1 e1 _ fun us H1 F1 s1 r1 => ?_⟩
  refine ⟨F1, g1, ds, r, g2, hn _ _ _ _ e1, s1.sub, s1.rep, r1, e2, ?_⟩
  cases r with
  | ok d =>
    obtain ⟨ev2, rfl⟩ := ml_inv ev
    obtain ⟨l', hl1, hz, rfl⟩ := bind_if ev2
    rw [hl0] at hl1
    cases hl1
    intro v H2 F2 s2 r2
    have s12 := s1.trans s2
    have pre1 := pre.step s12
    have h4' : H2 q = some (.lst vs) := s12.same _ _ h3 h4
    have hl' : vs.length = l.length := h6.length
    refine ⟨q, vs, v, rfl, rfl, h4', by omega, post σ _ F2 (pre1.mut hl rfl h1 rfl (s12.keepN h2 h4) (s12.keepM h3 h4) ⟨q, vs ++ [v], rfl, s12.keepN h2 h4, s12.keepM h3 h4, upd_same, ?_, (h6.mono s12.ext).append (.cons r2 .nil)⟩)⟩
    rw [List.length_append]
    simp only [List.length_cons, List.length_nil]
    omega
  | xc nm f d =>
    obtain ⟨_, _, e5⟩ := Option.map_eq_some_iff.mp ev
    cases e5
    exact fun dd v H2 F2 s2 a b => post σ H2 F2 dd v (pre.step (s1.trans s2)) a b
end PD
end
section
set_option Elab.async false
set_option linter.all false
set_option maxRecDepth 100000
set_option maxHeartbeats 4000000
set_option autoImplicit false
/-! ### isinstance(e, (A, B)); repr of what has {} in it; t == (); t * k -/
namespace PD
open PySem PySem.Spec L2 PySem.W PySem.Calls
open PyProof.Rows hiding St
variable [Live]
/-! #### what has {} in it -/
mutual
def purE : D → Bool
  | .non => true
  | .bl _ => true
  | .int _ => true
  | .str _ => true
  | .tup l => purEA l
  | .lst l => purEA l
  | .dk ks l => ks.isEmpty && l.isEmpty
  | _ => false
def purEA : List D → Bool
  | [] => true
  | d :: l => purE d && purEA l
end
mutual
def toPyE : D → PyData
  | .non => .none
  | .bl b => .bool b
  | .int i => .int i
  | .str x => .str x
  | .tup l => .tuple (toPyEA l)
  | .lst l => .list (toPyEA l)
  | .dk _ _ => .dict []
  | _ => .none
def toPyEA : List D → List PyData
  | [] => []
  | d :: l => toPyE d :: toPyEA l
end
/-- sys.modules is a dict -/
def smOk (K : PySem.W.Frag) : Bool := match K.lookup sysModules with
  | some o => decide (o.cls = .type "dict")
  | none => false
section
variable {X : Cx} {pins : List (Addr × Obj)} {σ : L2.St} {H : Hp} {s : Shared} {W : Fz}
end
/-! #### t == () -/
section
variable {X : Cx}
end
end PD
end
section
set_option Elab.async false
set_option linter.all false
set_option maxRecDepth 100000
set_option maxHeartbeats 4000000
set_option autoImplicit false
/-! ### t * k; isinstance(e, (A, B)) -/
namespace PD
open PySem PySem.Spec L2 PySem.W PySem.Calls
open PyProof.Rows hiding St
variable [Live]
/-! #### isinstance(e, (A, B)) -/
section
variable {X : Cx} {e : Expr} {fe : E} {p pos tpos : Pos}
end
/-! #### the head's facts, sys.modules among them -/
def frS (g : Addr → Option Obj) (n : Nat) : PySem.W.Frag := He.frG g (sysModules :: He.asD g n)
end PD
end
section
set_option Elab.async false
set_option linter.all false
set_option maxRecDepth 100000
set_option maxHeartbeats 4000000
set_option autoImplicit false
/-! ### expressions that may raise; a function that is handed over -/
namespace PD
open PySem PySem.Spec L2 PySem.W PySem.Calls
open PyProof.Rows hiding St
variable [Live]
/-- what is behind a call that may raise -/
def RxPost (K : PySem.W.Frag) (g g' : G) (F : Fz) (H : Hp) (Q : VK) (E : XK) : Rx → Prop
  | .ok d => ∀ v H' F', Stp K g g' F F' H H' → Rp K F' v d → Q v H'
  | .xc nm fl d => ∀ (dd : Addr) (v : V) H' F', Stp K g g' F F' H H' → F'.h dd = some (.xd [(fl, v)]) → Rp K F' v d → E (.ref (He.ga K nm)) (some dd) H'
abbrev CM := Rho → M Rx
def PX (X : Cx) (e : Expr) (c : CM) : Prop := ∃ t, PE X e t ∧ ∀ σ H F ρ g, PreE X.K F H g ρ σ → ∀ r g', c ρ g = some (r, g') → ∀ Q : VK, RxPost X.K g g' F H Q (WE (Wx X) σ) r → t σ H Q
theorem RxPost.trans {K : PySem.W.Frag} {g g1 g' : G} {F F1 : Fz} {H H1 : Hp} {Q : VK} {E : XK} {r : Rx} (q : RxPost K g g' F H Q E r) (s : Stp K g g1 F F1 H H1) : RxPost K g1 g' F1 H1 Q E r := by
  cases r with
  | ok d => exact fun v H' F' s' r' => q v H' F' (s.trans s') r'
  | xc nm fl d => exact fun dd v H' F' s' a b => q dd v H' F' (s.trans s') a b
section
variable {X : Cx} {e : Expr} {es : List Expr} {f : E} {fs : EA} {c : CM} {k n : Nat} {x : Str} {p pos : Pos} {F : List D → M Rx}
def cOk (f : E) : CM := fun ρ => mb (f ρ) fun d => mr (.ok d)
def cCall (F : List D → M Rx) (fs : EA) : CM := fun ρ => mb (fs ρ) F
theorem px_call (hf : FnX X.prog X.w X.K X.mg X.base k x n F) (hr : Room k X.A) (gd : X.A.guards = some []) (ha : PDA X (e :: es) fs)
    (hn : ∀ ρ g ds g', fs ρ g = some (ds, g') → ds.length = n) (hg : Gl X x := by rfl) (hdb : (x == ("__debug__" : Str)) = false := by decide) (he : starEach (e :: es) X.env = (false, eval e X.env) :: starEach es X.env := by rfl)
    (hpl : (backTo pos (starEach es X.env)).any (·.1) = false := by rfl) : PX X (.Call (.Name x p) (e :: es) [] pos) (cCall F fs) := by
  obtain ⟨a, fd, ps, hm, hk, hb, GG⟩ := hf.ex
  obtain ⟨t, ht, kt⟩ := ha
  refine ⟨_, pe_callGS (E := WE (Wx X)) GG hr gd hg hm hk hb (L2N.passAt takes_wx) ht hdb he hpl, fun σ H F0 ρ g pre r g' ev Q q => ?_⟩
  obtain ⟨ds, g1, e1, ev⟩ := mb_inv ev
  refine kt σ H F0 ρ g pre ds g1 e1 _ fun vs H1 F1 s1 r1 => ?_
  refine ⟨F1, g1, ds, r, g', hn _ _ _ _ e1, s1.sub, s1.rep, r1, ev, ?_⟩
  have q1 := q.trans s1
  cases r with
  | ok d => exact q1
  | xc nm fl d => exact q1
/-! #### statements -/
def sAppR (i : Nat) (c : CM) : S := fun ρ => mb (c ρ) fun r => fun g => apK1 i ρ (r, g)
@[simp] theorem sAppR_ap (i : Nat) (c : CM) (ρ : Rho) (g : G) : sAppR i c ρ g = (c ρ g).bind (apK1 i ρ) := by
  unfold sAppR mb
  cases c ρ g with
  | none => rfl
  | some p => rfl
/-- x = f(..), f may raise -/
def sSetR (i : Nat) (c : CM) : S := fun ρ => mb (c ρ) fun r => match r with
  | .ok d => mr (.nx (setR ρ i d))
  | .xc nm f d => mr (.xc nm f d ρ)
theorem pds_setR (i : Nat) {y : Str} {pos' : Pos} (hN : X.N.Nodup) (h : PX X e c) (hi : X.N[i]? = some y := by rfl) (hx : Loc X.env.scope y := by first | exact Or.inl rfl | exact Or.inr rfl)
    (hs : swapsWith e (some (.Name y pos')) pos.line X.env = pure false := by rfl) (hf : X.fn y = true ∨ X.env.scope.names.lookup y = some .local := by first | exact .inl rfl | exact .inr rfl | assumption) :
    PDS X (.Assign [.Name y pos'] e pos) (sSetR i c) := by
  obtain ⟨t, p, k⟩ := h
  refine ⟨_, ps_set hN hi hx p hs hf, fun en σ H F ρ g pre fl g' ev De post => ?_⟩
  obtain ⟨r, g1, e1, ev⟩ := mb_inv ev
  refine k σ H F ρ g pre.e r g1 e1 _ ?_
  cases r with
  | ok d =>
    obtain ⟨rfl, rfl⟩ := mr_inv ev
    exact fun v H1 F1 s1 r1 => post _ H1 F1 ((pre.step s1).set r1)
  | xc nm f d =>
    obtain ⟨rfl, rfl⟩ := mr_inv ev
    exact fun dd v H1 F1 s1 a b => post σ H1 F1 dd v (pre.step s1) a b
/-- f(..) as a statement -/
def sExprR (c : CM) : S := fun ρ => mb (c ρ) fun r => match r with
  | .ok _ => mr (.nx ρ)
  | .xc nm f d => mr (.xc nm f d ρ)
theorem pds_exprR (h : PX X e c) (hs : swapsWith e none pos.line X.env = pure false := by rfl) : PDS X (.Expr e pos) (sExprR c) := by
  obtain ⟨t, p, k⟩ := h
  refine ⟨_, ps_expr p hs, fun en σ H F ρ g pre fl g' ev De post => ?_⟩
  obtain ⟨r, g1, e1, ev⟩ := mb_inv ev
  refine k σ H F ρ g pre.e r g1 e1 _ ?_
  cases r with
  | ok d =>
    obtain ⟨rfl, rfl⟩ := mr_inv ev
    exact fun v H1 F1 s1 r1 => post σ H1 F1 (pre.step s1)
  | xc nm f d =>
    obtain ⟨rfl, rfl⟩ := mr_inv ev
    exact fun dd v H1 F1 s1 a b => post σ H1 F1 dd v (pre.step s1) a b
/-- return f(..) -/
def sRetR (c : CM) : S := fun ρ => mb (c ρ) fun r => match r with
  | .ok d => mr (.rt d)
  | .xc nm f d => mr (.xc nm f d ρ)
def rxK (ok : D → Fl) (ρ : Rho) : Rx × G → Fl × G
  | (.ok d, g) => (ok d, g)
  | (.xc nm f d, g) => (.xc nm f d ρ, g)
@[simp] theorem rxK_ok (ok : D → Fl) (ρ : Rho) (d : D) (g : G) : rxK ok ρ (.ok d, g) = (ok d, g) := rfl
@[simp] theorem rxK_xc (ok : D → Fl) (ρ : Rho) (nm f : Str) (d : D) (g : G) : rxK ok ρ (.xc nm f d, g) = (.xc nm f d ρ, g) := rfl
@[simp] theorem sSetR_ap (i : Nat) (c : CM) (ρ : Rho) (g : G) : sSetR i c ρ g = (c ρ g).map (rxK (fun d => .nx (setR ρ i d)) ρ) := by
  unfold sSetR mb
  cases c ρ g with
  | none => rfl
  | some p => obtain ⟨r, g⟩ := p; cases r <;> rfl
@[simp] theorem sExprR_ap (c : CM) (ρ : Rho) (g : G) : sExprR c ρ g = (c ρ g).map (rxK (fun _ => .nx ρ) ρ) := by
  unfold sExprR mb
  cases c ρ g with
  | none => rfl
  | some p => obtain ⟨r, g⟩ := p; cases r <;> rfl
@[simp] theorem sRetR_ap (c : CM) (ρ : Rho) (g : G) : sRetR c ρ g = (c ρ g).map (rxK .rt ρ) := by
  unfold sRetR mb
  cases c ρ g with
  | none => rfl
  | some p => obtain ⟨r, g⟩ := p; cases r <;> rfl
@[simp] theorem cCall_ap (F : List D → M Rx) (fs : EA) (ρ : Rho) (g : G) : cCall F fs ρ g = (fs ρ g).bind fun p => F p.1 p.2 := mb_ap _ _ _
@[simp] theorem cOk_ap (f : E) (ρ : Rho) (g : G) : cOk f ρ g = (f ρ g).map fun p => (.ok p.1, p.2) := by
  unfold cOk mb
  cases f ρ g <;> rfl
end
end PD
end
section
set_option Elab.async false
set_option linter.all false
set_option maxRecDepth 100000
set_option maxHeartbeats 4000000
set_option autoImplicit false
/-! ### a function without parameters, handed over -/
namespace PD
open PySem PySem.Spec L2 PySem.W PySem.Calls
open PyProof.Rows hiding St
variable [L : Live]
@[reducible] def liveOf (f : Addr) (F0 : Fz) : Live := ⟨.ref f, fun F => Ext F0 F, fun e h => h.trans e⟩
/-- what stays of the maker's state, told of another one's -/
theorem un_over {fs fs' : List Addr} {H H1 H2 : Hp} {h h1 h2 : Heap} (a : Un fs [] H H1 h h1) (b : Un fs' [] H1 H2 h1 h2) (hf : ∀ x ∈ fs', x ∈ fs ∨ h.get? x = none) : Un fs [] H H2 h h2 := by
  have nx : ∀ b : Addr, b ∉ ([] : List Addr) := fun b z => nomatch z
  have nf : ∀ x o, h.get? x = some o → x ∉ fs → x ∉ fs' := fun x o e n z => by
    rcases hf x z with q | q
    · exact n q
    · rw [e] at q; cases q
  refine ⟨fun x o e n1 n2 _ => ?_, fun x o e n1 n2 _ => ?_, fun x o e n1 _ => ?_, fun x o e _ => ?_, fun x xs e => b.tups x xs (a.tups x xs e), fun x o u e => b.frzs x o u (a.frzs x o u e), fun x ps e => ?_⟩
  · exact b.keep x o (a.keep x o e n1 n2 (nx _)) (a.free x o e n1 (nx _)) (nf x o e n2) (nx _)
  · obtain ⟨sl, q⟩ := a.slot x o e n1 n2 (nx _)
    have n3 := a.free x o e n1 (nx _)
    by_cases hx : x ∈ fs'
    · obtain ⟨sl2, q2⟩ := b.slot x _ q n3 hx (nx _)
      exact ⟨sl2, q2⟩
    · exact ⟨sl, b.keep x _ q n3 hx (nx _)⟩
  · obtain ⟨sl, q⟩ := a.any e n1 (nx _)
    exact b.free x _ q (a.free x o e n1 (nx _)) (nx _)
  · obtain ⟨o1, q⟩ := a.there x o e (nx _)
    exact b.there x o1 q (nx _)
  · obtain ⟨m1, q⟩ := a.tbls x ps e
    obtain ⟨m2, q2⟩ := b.tbls x _ q
    exact ⟨m1 ++ m2, by rw [← Array.append_assoc]; exact q2⟩
/-- the promise of the function that is handed over; stk, Hm, hm: its maker's frames and state -/
structure ThunkP (P : Program) (w : World) (K : PySem.W.Frag) (mg : Str → Option Value) (base : Heap) (k : Nat) (L : Live) (stk : List Env) (Hm : Hp) (hm : Heap) (c : M Rx) : Prop where
  run : ∃ f : Addr, L.v = .ref f ∧ ∀ (A : Around) (outer : List Env) (s : Shared) (H : Hp) (Q : VK) (E : XK) (F : Fz) (g : G) (r : Rx) (g' : G), Room k A → A.guards = some [] → Env0 P w K mg base A outer s H →
    Un (frs stk) [] Hm H hm s.heap → Same F.h H → GRep K g F H → L.J F → c g = some (r, g') → RxPost K g g' F H Q E r → FnAt f s.heap ∧ codeAny (model P w) A (.call (.ref f) ⟨[], []⟩) (CR (L2N.CX P w) outer P w H s Q E) s
/-- the same, in the air of X -/
structure ThunkAt (L : Live) (X : Cx) (k : Nat) (c : M Rx) : Prop where
  ex : ∃ (stk : List Env) (Hm : Hp) (hm : Heap), ThunkP X.prog X.w X.K X.mg X.base k L stk Hm hm c ∧ Un (frs stk) [] Hm X.H_0 hm X.s_0.heap ∧ ∀ b ∈ frs X.outer, b ∈ frs stk ∨ hm.get? b = none
  noex : X.ex = []
def cFn (i : Nat) (c : M Rx) : CM := fun ρ => match ρ[i]? with
  | some (some .fn) => c
  | _ => mz
theorem cFn_inv {i : Nat} {c : M Rx} {ρ : Rho} {g g' : G} {r : Rx} (h : cFn i c ρ g = some (r, g')) : ρ[i]? = some (some .fn) ∧ c g = some (r, g') := by
  unfold cFn at h
  cases e : ρ[i]? with
  | none => rw [e] at h; cases h
  | some o =>
    rw [e] at h
    cases o with
    | none => cases h
    | some lv => cases lv <;> first | exact ⟨rfl, h⟩ | cases h
section
variable {X : Cx} {k : Nat}
theorem px_fn {i : Nat} {a : Str} {c : M Rx} {p1 p2 : Pos} (TH : ThunkAt L X k c) (hr : Room k X.A) (gd : X.A.guards = some []) (hN : X.N[i]? = some a := by rfl) (hv : Vis X.env.scope a := by first | exact Or.inl rfl | exact Or.inr (Or.inl rfl) | exact Or.inr (Or.inr rfl))
    (hd : (a == ("__debug__" : Str)) = false := by decide) (hcd : (a == ("__classdict__" : Str)) = false := by decide) : PX X (.Call (.Name a p1) [] [] p2) (cFn i c) := by
  obtain ⟨stk, Hm, hm, TP, hun, hfr⟩ := TH.ex
  obtain ⟨f, hf, TR⟩ := TP.run
  refine ⟨fun σ H Q => ∃ F g r g', σ[i]? = some (some L.v) ∧ Same F.h H ∧ GRep X.K g F H ∧ L.J F ∧ c g = some (r, g') ∧ RxPost X.K g g' F H Q (WE (Wx X) σ) r, ⟨fun pins s σ H Q I h => ?_⟩, fun σ H F ρ g pre r g' ev Q q => ?_⟩
  · obtain ⟨F, g, r, g', h1, sb, rp, j, ev, q⟩ := h
    refine wpAny_Call_Name_kw (thn ((pe_var (pos := p1) (i := i) hN hv hd hcd).run pins s σ H (fun v H1 => v = .ref f ∧ H1 = H) I ⟨.ref f, by rw [h1, hf], rfl, rfl⟩) fun u s1 ⟨v, H1, I1, r1, q1⟩ => ?_)
    obtain ⟨e1, e2⟩ := q1
    subst e1
    rw [e2] at I1
    obtain rfl : u = Value.ref f := r1
    have un := I1.base
    rw [TH.noex] at un
    obtain ⟨fa, rc⟩ := TR X.A X.stack s1 H Q (WE (Wx X) σ) F g r g' hr gd I1.env0 (un_over hun un hfr) sb rp j ev q
    refine PySem.W.callWith_F0 fa ?_
    refine wpAny_call (codeAny_mono rc fun r s' hq => ?_)
    match r, hq with
    | .error er, hq => exact L2N.passAt takes_wx σ pins H s1 er s' I1 hq
    | .ok (.ret u), hq => exact I1.after hq
    | .ok .next, hq => exact False.elim hq
    | .ok .brk, hq => exact False.elim hq
    | .ok .cont, hq => exact False.elim hq
  · obtain ⟨h0, ev⟩ := cFn_inv ev
    obtain ⟨v, h1, h2⟩ := pre.sl.at_ i _ h0
    have h2 : v = L.v ∧ L.J F := h2
    exact ⟨F, g, r, g', by rw [h1, h2.1], pre.sub, pre.rep, h2.2, ev, q⟩
end
/-! #### a def that takes a function -/
def slotsT (n : Nat) : Rho := some .fn :: List.replicate (n - 1) none
def runT (n : Nat) (st : M Rx → S) (c : M Rx) : M D := fun g => match st c (slotsT n) g with
  | some (.rt d, g') => some (d, g')
  | some (.nx _, g') => some (.non, g')
  | _ => none
structure FnT (P : Program) (w : World) (K : PySem.W.Frag) (mg : Str → Option Value) (base : Heap) (k kt : Nat) (x : Str) (F : M Rx → M D) : Prop where
  ex : ∃ a : Addr, mg x = some (.ref a) ∧ keepIn K (.ref a) = true ∧ ∀ (L : Live) (stk : List Env) (Hm : Hp) (hm : Heap) (c : M Rx), ThunkP P w K mg base kt L stk Hm hm c →
    ∀ (A : Around) (outer : List Env) (s : Shared) (H : Hp) (Q : VK) (E : XK) (F0 : Fz) (g0 : G) (d : D) (g' : G) (u : Value), Room k A → A.guards = some [] → Env0 P w K mg base A outer s H → Un (frs stk) [] Hm H hm s.heap →
      (∀ b ∈ frs outer, b ∈ frs stk ∨ hm.get? b = none) → RelV L.v u → Same F0.h H → GRep K g0 F0 H → L.J F0 → F c g0 = some (d, g') → (∀ v H' F', Stp K g0 g' F0 F' H H' → Rp K F' v d → Q v H') →
      codeAny (model P w) A (.call (.ref a) ⟨[u], []⟩) (CR CX0 outer P w H s Q E) s
theorem preT {K : PySem.W.Frag} {F : Fz} {H : Hp} {g : G} {N : List Str} (s : Same F.h H) (r : GRep K g F H) (j : L.J F) : PreS K ⟨g, F, H⟩ F H g (slotsT N.length) (start N [L.v]) := by
  have at0 : ∀ (i : Nat) (lv : LV), (slotsT N.length)[i]? = some (some lv) → i = 0 ∧ lv = .fn := fun i lv h => by
    cases i with
    | zero =>
      have h : some (some LV.fn) = some (some lv) := h
      cases h
      exact ⟨rfl, rfl⟩
    | succ i =>
      have h : (List.replicate (N.length - 1) (none : Option LV))[i]? = some (some lv) := h
      have := List.mem_of_getElem? h
      rw [List.mem_replicate] at this
      cases this.2
  have no : ∀ i p, ¬ Owned (slotsT N.length) (start N [L.v]) i p := fun i p ⟨lv, h1, h2, _⟩ => by
    obtain ⟨_, rfl⟩ := at0 i lv h1
    cases h2
  refine ⟨⟨s, r, ?_, fun i lv h => ?_, fun i j p h => (no i p h).elim⟩, Stp.refl s r, fun i p h => (no i p h).elim⟩
  · simp [slotsT, L2.start]
  · obtain ⟨rfl, rfl⟩ := at0 i lv h
    exact ⟨L.v, rfl, rfl, j⟩
theorem fn_dT {P : Program} {w : World} {K : PySem.W.Frag} {mg : Str → Option Value} {base : Heap} {k kt : Nat} {f : Addr} {x qual a : Str} {params : Arguments} {body : List Stmt} {scope : Scope} {fd : FuncData} {N : List Str} {st : M Rx → S}
    (hm : mg x = some (.ref f)) (FF : FunD K x qual params body scope [] [] f fd) (S : FnScope N [a] scope) (bd : ∀ (s : Shared) (u : Value), BindsTo s fd ⟨[u], []⟩ [(a, u)])
    (hbody : ∀ (L : Live) (c : M Rx) (cdv : Value) (A : Around) (outer : List Env) (s : Shared) (H : Hp) (E : XK), Room k (A.deeper (envOfC qual scope s.heap.objs.size f cdv)) → (A.deeper (envOfC qual scope s.heap.objs.size f cdv)).guards = some [] →
      ThunkAt L (cxOf CX0 P w K mg base N qual scope f cdv A outer s H E).nox kt c → @PDSS L (cxOf CX0 P w K mg base N qual scope f cdv A outer s H E).nox body (st c)) : FnT P w K mg base (k + 1) kt x (runT N.length st) := by
  obtain ⟨oc, od, dV, kV, doc, pm, an, cdv, ct, osl, rfl, lk, hcd, _, _⟩ := FF.ex
  refine ⟨f, hm, FF.kp, fun L stk Hm hmm c TP A outer s H Q E F0 g0 d g' u hr gd e0 un hfr ru sb rp j ev q => ?_⟩
  refine LamX.run_ofS (N := N) (ps := [a]) (us := [u]) (vs := [L.v]) lk hcd S hr e0 (bd s u) (.cons ru .nil) rfl fun hr' => ?_
  obtain ⟨t, ht, kt'⟩ := hbody L c cdv A outer s H E hr' gd ⟨⟨stk, Hm, hmm, TP, un, hfr⟩, rfl⟩
  refine ⟨t, ht.nox, ?_⟩
  unfold runT at ev
  cases h : st c (slotsT N.length) g0 with
  | none => rw [h] at ev; cases ev
  | some r =>
    obtain ⟨fl, g1⟩ := r
    rw [h] at ev
    refine kt' ⟨g0, F0, H⟩ (start N [L.v]) H F0 (slotsT N.length) g0 (@preT L _ _ _ _ _ sb rp j) fl g1 h _ ?_
    cases fl with
    | rt z => cases ev; exact fun v H' F' s' r' => q v H' F' s' r'
    | nx ρ => cases ev; exact fun σ' H' F' p' => q .non H' F' p'.st .non
    | bk ρ => cases ev
    | xc nm f d ρ => cases ev
    | ct ρ => cases ev
section
variable {X : Cx} {k kt : Nat}
end
end PD
end
section
set_option Elab.async false
set_option linter.all false
set_option maxRecDepth 100000
set_option maxHeartbeats 4000000
set_option autoImplicit false
/-! ### lambdas without parameters, handed over -/
namespace PD
open PySem PySem.Spec L2 PySem.W PySem.Calls
open PyProof.Rows hiding St
variable [L : Live]
/-- what a lambda sees: data alone -/
def onlyD : Rho → Rho := List.map fun o => match o with
  | some (.d x) => some (.d x)
  | _ => none
@[simp] theorem onlyD_nil : onlyD [] = [] := rfl
@[simp] theorem onlyD_d (x : D) (ρ : Rho) : onlyD (some (.d x) :: ρ) = some (.d x) :: onlyD ρ := rfl
@[simp] theorem onlyD_n (ρ : Rho) : onlyD (none :: ρ) = none :: onlyD ρ := rfl
@[simp] theorem onlyD_ol (l : List D) (ρ : Rho) : onlyD (some (.ol l) :: ρ) = none :: onlyD ρ := rfl
@[simp] theorem onlyD_ok (ks : List Key) (l : List D) (ρ : Rho) : onlyD (some (.ok ks l) :: ρ) = none :: onlyD ρ := rfl
@[simp] theorem onlyD_ot (ks : List (List Key)) (l : List D) (ρ : Rho) : onlyD (some (.ot ks l) :: ρ) = none :: onlyD ρ := rfl
@[simp] theorem onlyD_fn (ρ : Rho) : onlyD (some .fn :: ρ) = none :: onlyD ρ := rfl
theorem onlyD_inv {ρ : Rho} {i : Nat} {lv : LV} (h : (onlyD ρ)[i]? = some (some lv)) : ∃ x, lv = .d x ∧ ρ[i]? = some (some (.d x)) := by
  unfold onlyD at h
  rw [List.getElem?_map] at h
  obtain ⟨o, h1, h2⟩ := Option.map_eq_some_iff.mp h
  cases o with
  | none => cases h2
  | some l =>
    cases l with
    | d x => cases h2; exact ⟨x, rfl, h1⟩
    | _ => cases h2
/-- the lambda's air, exceptions with their context -/
def lamN (X : Cx) (A : Around) (outer : List Env) (s : Shared) (H : Hp) (E : XK) (scope : Scope) (f c' : Addr) : Cx :=
  { LamX.lamCx X A outer s H E scope f c' with
    xe := fun e s' => wpAny (model X.prog X.w) (A.deeper (LamX.lamEnv X scope s.heap.objs.size f c')) (leaving (LamX.lamEnv X scope s.heap.objs.size f c') e) (fun _ s2 => L2N.CX X.prog X.w outer H s E e s2) (fun e2 s2 => L2N.CX X.prog X.w outer H s E e2 s2) s' }
theorem invN {X : Cx} {A : Around} {outer : List Env} {s : Shared} {H H' : Hp} {E : XK} {scope : Scope} {f c' : Addr} {pins : List (Addr × Obj)} {σ : L2.St} {s' : Shared} (J : Inv (LamX.lamCx X A outer s H E scope f c') pins σ H' s') : Inv (lamN X A outer s H E scope f c') pins σ H' s' :=
  ⟨⟨J.ok.mod, J.ok.kind, J.ok.glob, J.ok.blt, J.ok.above, J.ok.inj, J.ok.has, J.ok.cab, J.ok.hd, J.ok.frames, J.ok.stk, J.ok.exf, J.ok.bs, J.ok.bsz, J.ok.noex, J.ok.exfs, J.ok.funs, J.ok.frf⟩, J.os, J.bare, J.base, J.loc, J.cell, J.free, J.freeC, J.pin, J.hok, J.len⟩
section
variable {X : Cx} {pins : List (Addr × Obj)} {σ : L2.St} {H : Hp} {s : Shared}
theorem thunk_of {scope : Scope} {params : Arguments} {body : Expr} {f c' : Addr} {pm ctv : Value} {k : Nat} {F0 : Fz} {g0 : G} {ρ : Rho} {cx : CM} (I : Inv X pins σ H s) (Lm : LamX.LamS X.env.scope scope)
    (hf : s.heap.get? f = some (kla_obj "<lambda>" (X.env.qual ++ "<lambda>") params body scope (cloFrom X.env.cells scope.names []) pm c' ctv)) (hfn : H f = none) (hfr : f ∉ frs X.stack)
    (hbind : bindArgs (kla_fn "<lambda>" (X.env.qual ++ "<lambda>") params body scope (cloFrom X.env.cells scope.names []) pm (.ref c') ctv) ⟨[], []⟩ = pure [])
    (hc : F0.h c' = some (LamX.CodeO c' (X.env.qual ++ "<lambda>"))) (pre0 : PreE X.K F0 H g0 ρ σ)
    (hbody : ∀ (A : Around) (outer : List Env) (s : Shared) (H : Hp) (E : XK), Room k (A.deeper (LamX.lamEnv X scope s.heap.objs.size f c')) → (A.deeper (LamX.lamEnv X scope s.heap.objs.size f c')).guards = some [] → PX (lamN X A outer s H E scope f c') body cx) :
    ThunkP X.prog X.w X.K X.mg X.base (k + 1) (liveOf f F0) X.stack H s.heap (cx (onlyD ρ)) := by
  refine ⟨f, rfl, fun A outer s1 H1 Q E F g r g' hr gd e0 un sb rp j ev q => ?_⟩
  have j : Ext F0 F := j
  have of1 := un.keep f _ hf hfn hfr (fun z => nomatch z)
  have hc1 := sb _ _ (j.h _ _ hc)
  obtain ⟨⟨oc, vs, t, hoc, hdc, hvc⟩, _, _⟩ := e0.hok c' _ hc1
  refine ⟨⟨_, _, _, _, of1⟩, ?_⟩
  have nl : s1.heap.NoLimit := e0.mod.nolimit.keeps fun b o e => (e0.bs b o e).1
  refine kla_callFunE hr.depth of1 rfl Lm.co Lm.gen rfl ⟨c', oc, vs, t, rfl, hoc, hdc, hvc⟩ ?_
  rw [hbind]
  refine wpAny_pure (wpAny_newFunctionEnv (fun y hy => (Lm.own y hy).2) (fun y hy => absurd hy (by simp)) (fun h1 hns hsb => ⟨nl.fresh _ hsb, ?_⟩) Lm.kind)
  have kp : ∀ b o, s1.heap.get? b = some o → h1.get? b = some o := fun b o e => hsb.extBut b o (Nat.ne_of_lt (Heap.lt_size e)) (Heap.get?_push_of_some _ e)
  have J : Inv (lamN X A outer s1 H1 E scope f c') [] σ H1 { s1 with heap := h1, toks := s1.toks + ([] : List (Str × Value)).length } := invN (LamX.lam_start2 I Lm e0 hr.hd un hns kp)
  obtain ⟨tb, htb, ktb⟩ := hbody A outer s1 H1 E (hr.deeper _) gd
  have pre : PreE X.K F H1 g (onlyD ρ) σ := by
    refine ⟨sb, rp, by unfold onlyD; rw [List.length_map]; exact pre0.sl.len, fun i lv h => ?_, fun i i' p h => ?_⟩
    · obtain ⟨x, rfl, h2⟩ := onlyD_inv h
      obtain ⟨v, h3, h4⟩ := pre0.sl.at_ i _ h2
      exact ⟨v, h3, Rp.mono j h4⟩
    · obtain ⟨lv, h1, h2, _⟩ := h
      obtain ⟨x, rfl, _⟩ := onlyD_inv h1
      cases h2
  have tk := L2N.takes_of (X := lamN X A outer s1 H1 E scope f c') (E := E) rfl rfl rfl rfl
  have q2 : RxPost X.K g g' F H1 Q (WE (Wx (lamN X A outer s1 H1 E scope f c')) σ) r := by
    cases r with
    | ok d => exact q
    | xc nm fl d =>
      intro dd v H2 F2 s2 a b u s' xx
      obtain ⟨a0, B, sI, pins2, σ0, H0, cls, d0, e, I2, nb, up, sky, na, os, ag, rfl, rfl, rfl, rfl⟩ := xx
      exact tk u s' ⟨a0, B, sI, pins2, _, H0, _, _, e, I2, nb, up, sky, na, os, ag, q dd v H0 F2 s2 a b⟩
  show codeAny _ _ (.expr body (LamX.lamEnv X scope s1.heap.objs.size f c')) _ _
  refine kla_codeExpr (wpAny_mono (htb.run [] _ σ H1 Q J (ktb σ H1 F (onlyD ρ) g pre r g' ev Q q2)) (fun v s' hq => ?_) fun e s' hq => hq)
  obtain ⟨v', H', J', rv, q3⟩ := hq
  exact ⟨v', H', J'.os, J'.bare, J'.base, J'.hok, rv, q3⟩
/-- the lambda is made: its code object is new, or stands in the table -/
theorem lam_make3 {F : Fz} {g : G} {ρ : Rho} {me : Str} {j : Nat} {c P : Addr} {params : Arguments} {body : Expr} {scope : Scope} {pos : Pos} {E Q : Value → Shared → Prop} (I : Inv X pins σ H s) (pre : PreE X.K F H g ρ σ)
    (ht : tabIn X.K me = some (c, P)) (TB : LamX.TabB X.base X.mg c P) (hcode : X.env.code = .ref c) (hq : X.env.qual ++ "<lambda>" = lamQ me) (hj : g[j]? = some (.mt me)) (hdef : defaultsOf params X.env = ([], [])) (hfree : ∀ y ∈ scope.names, y.2 = .free → ∃ c, X.env.cells.lookup y.1 = some c)
    (h : ∀ (f c' : Addr) (pm ctv : Value) (H1 : Hp) (F1 : Fz) (s' : Shared), Inv X pins σ H1 s' → Stp X.K g g F F1 H H1 → F1.h c' = some (LamX.CodeO c' (X.env.qual ++ "<lambda>")) →
      s'.heap.get? f = some (kla_obj "<lambda>" (X.env.qual ++ "<lambda>") params body scope (cloFrom X.env.cells scope.names []) pm c' ctv) → H1 f = none → f ∉ frs X.stack → Q (.ref f) s') :
    wpAny (model X.prog X.w) X.A (eval (.Lambda params body scope pos) X.env) Q E s := by
  obtain ⟨a, hmu, hFa, ⟨c2, h2⟩, ps, hP, htr, ha⟩ := pre.rep.get hj
  rw [ht] at h2
  cases h2
  rw [← hq] at ha
  have nofr : ∀ f, s.heap.objs.size ≤ f → f ∉ frs X.stack := fun f hf z => by
    rcases List.mem_cons.mp (I.stkSub _ z) with e | e
    · have h1 := I.lt
      rw [← e] at h1
      exact absurd (Nat.lt_of_lt_of_le h1 hf) (Nat.lt_irrefl _)
    · exact I.nofs hf e
  have hP' := I.hok P _ hP
  have bP := TB.bm.keeps I.bk
  refine kla_eval hdef ?_
  cases hc : codeAmong pos ps.toList with
  | none =>
    refine kla_makeFunction (mg := X.mg) (c := c) (P := P) (ps := ps) (closure_ok hfree) I.ok.glob (I.mod.glob.keeps I.bk) hcode (TB.code.keeps I.bk) hP' htr hc TB.gP bP fun c' ctv h' tk hx hge hlt hrec htb => ?_
    obtain ⟨c3, oc, vs, t, e3, hoc, hd, hv⟩ := hrec
    cases e3
    have hsz := Nat.le_trans hge (Nat.le_of_lt hlt)
    have nC : H c' = none := I.hok.fresh hge
    have ne : P ≠ c' := ne_of_none hP nC
    have I1 := LamX.inv_table (c := c') (q := X.env.qual ++ "<lambda>") (t' := tk) (more := #[rawInt pos.line, rawInt pos.col, .ref c']) (h' := h'.push (kla_obj "<lambda>" (X.env.qual ++ "<lambda>") params body scope (cloFrom X.env.cells scope.names []) ((X.mg "__name__").getD .none) c' ctv)) I hP
      (fun b o hb e => Heap.get?_push_of_some _ (hx b o hb e)) (Heap.get?_push_of_some _ htb) hge ⟨oc, vs, t, Heap.get?_push_of_some _ hoc, hd, hv⟩
    have hmP : P ∈ F.mu := List.mem_of_getElem? hmu
    have nF : F.h c' = none := pre.sub.free nC
    have st : Stp X.K g g F (F.upd c' (LamX.CodeO c' (X.env.qual ++ "<lambda>"))) H (upd (upd H P (.tbl (ps ++ #[rawInt pos.line, rawInt pos.col, .ref c']))) c' (LamX.CodeO c' (X.env.qual ++ "<lambda>"))) := by
      have ex : Ext F (F.upd c' (LamX.CodeO c' (X.env.qual ++ "<lambda>"))) := Ext.upd nF
      refine ⟨fun b o hb e => ?_, fun b e => ?_, ex, fun b o e => ?_, fun b hb => .inl hb, fun b o e => ?_, pre.rep.len, pre.rep.nd, fun n m b h1 h2 => ?_⟩
      · rw [upd_ne (ne_of_none e nC), upd_ne (fun z => hb (by rw [z]; exact hmP))]
        exact e
      · by_cases z : b = c'
        · rw [z]; exact nC
        · rw [upd_ne z] at e
          by_cases z2 : b = P
          · rw [z2, upd_same] at e; cases e
          · rw [upd_ne z2] at e; exact e
      · have e : L2.upd F.h c' _ b = some o := e
        by_cases z : b = c'
        · rw [z]; exact .inr nC
        · rw [upd_ne z] at e; exact .inl ⟨o, e⟩
      · have e : L2.upd F.h c' (LamX.CodeO c' (X.env.qual ++ "<lambda>")) b = some o := e
        by_cases z : b = c'
        · rw [z, upd_same] at e
          rw [z, upd_same]
          exact e
        · rw [upd_ne z] at e
          rw [upd_ne z, upd_ne (fun z2 => by rw [z2] at e; rw [hFa] at e; cases e)]
          exact pre.sub b o e
      · have h2 : F.mu[n]? = some b := h2
        obtain ⟨q1, q2⟩ := pre.rep.at_ n m b h1 h2
        have hbm : b ∈ F.mu := List.mem_of_getElem? h2
        have nb : b ≠ c' := fun z => by
          obtain ⟨o, ho⟩ := q2.some
          rw [z, nC] at ho; cases ho
        refine ⟨by show L2.upd F.h c' _ b = none; rw [upd_ne nb]; exact q1, ?_⟩
        by_cases z : b = P
        · have en : n = j := by
            exact (List.getElem?_inj (List.getElem?_eq_some_iff.mp h2).1 pre.rep.nd).mp (by rw [h2, hmu, z])
          rw [en, hj] at h1
          cases h1
          rw [z]
          refine ⟨⟨c, ht⟩, _, by rw [upd_ne ne, upd_same], ?_, fun p' cv hcv => ?_⟩
          · rw [Array.toList_append]
            exact PySem.TriplesOk_snoc _ _ _ _ htr
          · rw [Array.toList_append] at hcv
            rcases LamX.among_app _ htr hcv with z3 | z3
            · obtain ⟨c0, e1, e2⟩ := ha p' cv z3
              exact ⟨c0, e1, by rw [← hq]; exact ex.h _ _ e2⟩
            · exact ⟨c', z3, by rw [← hq]; exact upd_same⟩
        · exact q2.mono ex (by rw [upd_ne nb, upd_ne z])
    refine h h'.objs.size c' ((X.mg "__name__").getD .none) ctv _ _ _ I1 st upd_same (Heap.get?_push_size _ rfl) ?_ (nofr _ hsz)
    rw [upd_ne (Nat.ne_of_gt hlt), upd_ne (Nat.ne_of_gt (Nat.lt_of_lt_of_le (Heap.lt_size hP') hsz))]
    exact I.hok.fresh hsz
  | some cv =>
    obtain ⟨c', e, hco⟩ := ha pos cv hc
    subst e
    refine kla_makeFunctionHit (mg := X.mg) (c := c) (P := P) (ps := ps) (closure_ok hfree) I.ok.glob (I.mod.glob.keeps I.bk) hcode (TB.code.keeps I.bk) hP' htr hc bP fun ctv h' tk hx hsz => ?_
    have I1 : Inv X pins σ H { s with heap := h'.push (kla_obj "<lambda>" (X.env.qual ++ "<lambda>") params body scope (cloFrom X.env.cells scope.names []) ((X.mg "__name__").getD .none) c' ctv), toks := tk } := I.kept fun b o e => Heap.get?_push_of_some _ (hx b o e)
    exact h h'.objs.size c' ((X.mg "__name__").getD .none) ctv H F _ I1 pre.refl hco (Heap.get?_push_size _ rfl) (I.hok.fresh hsz) (nofr _ hsz)
end
/-! #### x(lambda: ..) -/
def tabAt (g : G) (j : Nat) (x : Str) : Bool := match g[j]? with
  | some (.mt y) => decide (y = x)
  | _ => false
theorem tabAt_inv {g : G} {j : Nat} {x : Str} (h : tabAt g j x = true) : g[j]? = some (.mt x) := by
  unfold tabAt at h
  split at h
  · rename_i y e
    rw [e, of_decide_eq_true h]
  · cases h
def eLam (j : Nat) (me : Str) (F : M Rx → M D) (cx : CM) : E := fun ρ g => if tabAt g j me = true then F (cx (onlyD ρ)) g else none
theorem eLam_at {j : Nat} {me : Str} {F : M Rx → M D} {cx : CM} {ρ : Rho} {g : G} (h : tabAt g j me = true) : eLam j me F cx ρ g = F (cx (onlyD ρ)) g := by
  unfold eLam
  rw [if_pos h]
/-- the def's table -/
structure TabOk (X : Cx) (me : Str) : Prop where
  ex : ∃ c P, tabIn X.K me = some (c, P) ∧ LamX.TabB X.base X.mg c P ∧ X.env.code = .ref c
  q : X.env.qual ++ "<lambda>" = lamQ me
section
variable {X : Cx} {k kt : Nat}
theorem pd_lamT {x me : Str} {j : Nat} {F : M Rx → M D} {cx : CM} {params : Arguments} {body : Expr} {scope : Scope} {p lpos pos : Pos} (hf : FnT X.prog X.w X.K X.mg X.base k (kt + 1) x F) (TO : TabOk X me) (hr : Room k X.A) (gd : X.A.guards = some []) (hls : LamX.lamSB X.env.scope scope = true)
    (hbody : ∀ (A : Around) (outer : List Env) (s : Shared) (H : Hp) (E : XK) (f c' : Addr), Room kt (A.deeper (LamX.lamEnv X scope s.heap.objs.size f c')) → (A.deeper (LamX.lamEnv X scope s.heap.objs.size f c')).guards = some [] → PX (lamN X A outer s H E scope f c') body cx)
    (hg : Gl X x := by rfl) (hdef : defaultsOf params X.env = ([], []) := by rfl)
    (hbind : ∀ (q : Str) (cl : List (Str × Addr)) (pm cv ctv : Value), bindArgs (kla_fn "<lambda>" q params body scope cl pm cv ctv) ⟨[], []⟩ = pure [] := by intros; rfl)
    (hdb : (x == ("__debug__" : Str)) = false := by decide) (he : starEach [.Lambda params body scope lpos] X.env = (false, eval (.Lambda params body scope lpos) X.env) :: starEach [] X.env := by rfl) (hpl : (backTo pos (starEach [] X.env)).any (·.1) = false := by rfl) :
    PD X (.Call (.Name x p) [.Lambda params body scope lpos] [] pos) (eLam j me F cx) := by
  have Lm := LamX.lamS_by hls
  obtain ⟨b, hmx, hk, FR⟩ := hf.ex
  obtain ⟨c, P, ht, TB, hcode⟩ := TO.ex
  refine ⟨fun σ H Q => ∃ F0 ρ g d g', PreE X.K F0 H g ρ σ ∧ g[j]? = some (.mt me) ∧ F (cx (onlyD ρ)) g = some (d, g') ∧ ∀ v H' F', Stp X.K g g' F0 F' H H' → Rp X.K F' v d → Q v H', ⟨fun pins s σ H Q I h => ?_⟩, fun σ H F0 ρ g pre d g' ev Q q => ?_⟩
  · obtain ⟨F0, ρ, g, d, g', pre, hj, ev, q⟩ := h
    refine wpAny_Call_Name_kw (ld_glob I hg hmx ?_ hdb)
    refine callWith_K (h₀ := X.base) I.ok.mod.kin hk ?_ he hpl
    refine Calls.spliced_cons (lam_make3 I pre ht TB hcode TO.q hj hdef (Lm.has I.ok) fun f c' pm ctv H1 F1 s1 I1 st hc' hfo hfn hfr => ?_)
    refine Calls.spliced_nil ⟨I1.kIn, ?_⟩
    have TP := thunk_of (k := kt) I1 Lm hfo hfn hfr (hbind _ _ _ _ _) hc' (pre.step st) fun A outer s H E => hbody A outer s H E f c'
    refine wpAny_call (codeAny_mono (FR (liveOf f F1) X.stack H1 s1.heap _ TP X.A X.stack s1 H1 Q (fun _ _ _ => False) F1 g d g' (.ref f) hr gd I1.env0 Un.refl (fun b hb => .inl hb) rfl st.sub st.rep (Ext.refl F1) ev fun v H' F' s' r' => q v H' F' (st.trans s') r') fun r s' hq => ?_)
    match r, hq with
    | .error er, hq => exact False.elim hq
    | .ok (.ret u), hq => exact I1.after hq
    | .ok .next, hq => exact False.elim hq
    | .ok .brk, hq => exact False.elim hq
    | .ok .cont, hq => exact False.elim hq
  · unfold eLam at ev
    split at ev
    · rename_i h0
      exact ⟨F0, ρ, g, d, g', pre, tabAt_inv h0, ev, q⟩
    · cases ev
end
end PD
end
section
set_option Elab.async false
set_option linter.all false
set_option maxRecDepth 100000
set_option maxHeartbeats 4000000
set_option autoImplicit false
/-! ### calls by names that may raise; the end of a law with tables of code objects -/
namespace PD
open PySem PySem.Spec L2 PySem.W PySem.Calls
open PyProof.Rows hiding St
variable [L : Live]
structure FnXK (P : Program) (w : World) (K : PySem.W.Frag) (mg : Str → Option Value) (base : Heap) (k : Nat) (x : Str) (n : Nat) (f : List D → M Rx) (ks : List Str) (pm : List Nat) : Prop where
  ex : ∃ (a : Addr) (fd : FuncData) (ps : List Str), mg x = some (.ref a) ∧ keepIn K (.ref a) = true ∧ FnG P w K mg base (L2N.CX P w) k a fd ps (spX K n f) ∧ ps.length = n ∧ pm.length = n ∧
    ∀ (s : Shared) (us ws : List Value), us.length = n - ks.length → ws.length = ks.length → BindsTo s fd ⟨us, ks.zip ws⟩ (ps.zip (perm pm .none (us ++ ws)))
def cCallK (f : List D → M Rx) (pm : List Nat) (as ks : EA) : CM := fun ρ => mb (as ρ) fun ds => mb (ks ρ) fun es => f (perm pm .non (ds ++ es))
@[simp] theorem cCallK_ap (f : List D → M Rx) (pm : List Nat) (as ks : EA) (ρ : Rho) (g : G) : cCallK f pm as ks ρ g = (as ρ g).bind fun p => (ks ρ p.2).bind fun q => f (perm pm .non (p.1 ++ q.1)) q.2 := by
  refine (mb_ap _ _ _).trans ?_
  congr 1
  funext p
  exact mb_ap _ _ _
section
variable {X : Cx} {e : Expr} {es : List Expr} {fs fk : EA} {kws : List Keyword} {p pos : Pos} {x : Str} {k n : Nat} {ks : List Str} {pm : List Nat} {F : List D → M Rx}
end
/-! #### the end -/
/-- the tables of some defs: where they stand -/
def tabsOf (K : PySem.W.Frag) (xs : List Str) : List (Addr × Addr) := xs.filterMap fun x => tabIn K x
/-- each of the defs has a code object that can be told, and a table that is none of the frozen things; the tables are unlike -/
def tabK (K : PySem.W.Frag) (xs : List Str) : Bool := (xs.all fun x => match tabIn K x with
  | some (c, P) => codeHdIn K c P && (K.lookup P).isNone
  | none => false) && decide ((tabsOf K xs).map (·.2)).Nodup
theorem tabK_at {K : PySem.W.Frag} : ∀ {xs : List Str}, (xs.all fun x => match tabIn K x with
  | some (c, P) => codeHdIn K c P && (K.lookup P).isNone
  | none => false) = true → (tabsOf K xs).length = xs.length ∧ (∀ (n : Nat) (x : Str) (q : Addr × Addr), xs[n]? = some x → (tabsOf K xs)[n]? = some q → tabIn K x = some q) ∧ ∀ q ∈ tabsOf K xs, codeHdIn K q.1 q.2 = true ∧ K.lookup q.2 = none
  | [], _ => ⟨rfl, fun n x q h => by simp at h, fun q h => by simp [tabsOf] at h⟩
  | x :: xs, h => by
    rw [List.all_cons, Bool.and_eq_true] at h
    obtain ⟨h1, h2⟩ := h
    obtain ⟨i1, i2, i3⟩ := tabK_at h2
    cases e : tabIn K x with
    | none => rw [e] at h1; cases h1
    | some q =>
      obtain ⟨c, P⟩ := q
      rw [e] at h1
      have h1 : (codeHdIn K c P && (K.lookup P).isNone) = true := h1
      rw [Bool.and_eq_true] at h1
      have ec : tabsOf K (x :: xs) = (c, P) :: tabsOf K xs := by unfold tabsOf; rw [List.filterMap_cons, e]
      rw [ec]
      refine ⟨by simp [i1], fun n y q hy hq => ?_, fun q hq => ?_⟩
      · cases n with
        | zero =>
          simp at hy hq
          subst hy hq
          exact e
        | succ n => exact i2 n y q (by simpa using hy) (by simpa using hq)
      · rcases List.mem_cons.mp hq with rfl | hq
        · exact ⟨h1.1, by simpa using h1.2⟩
        · exact i3 q hq
/-- the tables, as the store's first things -/
def tabG (xs : List Str) : G := xs.map MO.mt
def TabsB (K : PySem.W.Frag) (mg : Str → Option Value) (base : Heap) (xs : List Str) : Prop := ∀ x ∈ xs, ∃ c P, tabIn K x = some (c, P) ∧ LamX.TabB base mg c P
end PD
end
section
set_option Elab.async false
set_option linter.all false
set_option maxRecDepth 100000
set_option maxHeartbeats 4000000
set_option autoImplicit false
/-! ### the law's call, where lambdas are made -/
namespace PD
open PySem PySem.Spec L2
open PyProof.Rows hiding St
theorem law_gT {P : Program} {w : World} {K : PySem.W.Frag} {mg mb : Str → Option Value} {k : Nat} {fa a : Addr} {cs : List (Addr × Addr)} {fd : FuncData} {x : Str} {sp : Sp} {s₁ : Shared} {vs : List Value} {ns : List Int}
    (KX : K.In s₁.heap) (hns : s₁.heap.Ns mainGlobals mg) (hb : s₁.heap.Ns builtinsNs mb) (hbb : ∀ x : Str, x ≠ "__name__" → mb x = bootBuiltins x) (hlim : s₁.heap.NoLimit) (hg : s₁.gens = #[])
    (hT : ∀ p ∈ cs, s₁.heap.get? p.2 = some (PySem.W.tabObj #[])) (nT : ∀ p ∈ cs, K.lookup p.2 = none) (C : ∀ p ∈ cs, PySem.W.CodeHd s₁.heap p.1 p.2)
    (hbm : ∃ (bm : Addr) (ob : Obj), mg "__builtins__" = some (.ref bm) ∧ bm ≠ builtinsNs ∧ s₁.heap.get? bm = some ob ∧ ob.cls = .type "module" ∧ ob.dict = some builtinsNs ∧ ob.data = .plain)
    (ha : s₁.heap.get? a = some { cls := .type "list", data := .seq vs.toArray }) (hi : IntsAre vs ns) (hl : ns.length ≤ sizeLine) (hr : Room k callerA)
    (F : ∀ base : Heap, K.In base → base.Ns mainGlobals mg → (∀ p ∈ cs, LamX.TabB base mg p.1 p.2) → FnG P w K mg base CX0 k fa fd [x] sp) (hbind : ∀ (s : Shared) (u : Value), BindsTo s fd ⟨[u], []⟩ [(x, u)])
    (hsp : ∀ H : Hp, (∀ p ∈ cs, H p.2 = some (.tbl #[])) → SqL K H a (ns.map V.int) → sp [.ref a] H (fun v _ => v = .bl true) fun _ _ _ => False) :
    codeAny (model P w) callerA (.call (.ref fa) ⟨[.ref a], []⟩) (fun r s' => r = .ok (.ret (.bool true)) ∧ OldK s₁.heap s'.heap ∧ s'.os = s₁.os ∧ AllBare s'.gens) s₁ := by
  have rv := vals_ints hi
  have isT : ∀ b : Addr, b ∈ cs.map (·.2) → s₁.heap.get? b = some (PySem.W.tabObj #[]) := fun b hb => by
    obtain ⟨p, hp, rfl⟩ := List.mem_map.mp hb
    exact hT p hp
  have aT : a ∉ cs.map (·.2) := fun z => by
    have q := isT a z
    rw [ha] at q
    cases q
  have core : ∀ H : Hp, (∀ b, (H b = none ∧ b ∉ cs.map (·.2)) ∨ (b = a ∧ K.lookup a = none ∧ H b = some (.frz { cls := .type "list", data := .seq vs.toArray } (.lst (ns.map V.int)))) ∨ (b ∈ cs.map (·.2) ∧ H b = some (.tbl #[]))) → SqL K H a (ns.map V.int) →
      codeAny (model P w) callerA (.call (.ref fa) ⟨[.ref a], []⟩) (fun r s' => r = .ok (.ret (.bool true)) ∧ OldK s₁.heap s'.heap ∧ s'.os = s₁.os ∧ AllBare s'.gens) s₁ := by
    intro H hA hS
    have tb : ∀ b, b ∈ cs.map (·.2) → H b = some (.tbl #[]) := fun b hb => by
      rcases hA b with ⟨_, n⟩ | ⟨rfl, _, _⟩ | ⟨_, q⟩
      · exact absurd hb n
      · exact absurd hb aT
      · exact q
    have hok : HOk P w H s₁.heap := fun b o e => by
      rcases hA b with ⟨n, _⟩ | ⟨rfl, _, q⟩ | ⟨m, q⟩
      · rw [n] at e; cases e
      · rw [q] at e; cases e
        exact ⟨ha, by rw [List.length_map]; exact hl, vs, _, rv, ha⟩
      · rw [q] at e; cases e
        exact isT b m
    have free : ∀ {b : Addr} {o : Obj}, s₁.heap.get? b = some o → (∀ its n, o.data ≠ .seq its n) → o.data ≠ .fields #[] → H b = none := fun {b o} e d d2 => by
      rcases hA b with ⟨n, _⟩ | ⟨rfl, _, q⟩ | ⟨m, q⟩
      · exact n
      · rw [ha] at e; cases e; exact absurd rfl (d _ _)
      · rw [isT b m] at e; cases e; exact absurd rfl d2
    have nsK : ∀ {b : Addr} {m : Str → Option Value}, s₁.heap.Ns b m → (hidT s₁.heap H).Ns b m := fun {b m} ⟨o, es, ep, e, d, r⟩ =>
      ⟨o, es, ep, hidT_get e (free e (fun its n z => by rw [d] at z; cases z) fun z => by rw [d] at z; cases z), d, r⟩
    have kb : K.In (hidT s₁.heap H) := fun b o e => hidT_get (KX b o e) (by
      rcases hA b with ⟨n, _⟩ | ⟨rfl, q, _⟩ | ⟨m, _⟩
      · exact n
      · rw [q] at e; cases e
      · obtain ⟨p, hp, rfl⟩ := List.mem_map.mp m
        rw [nT p hp] at e; cases e)
    have TB : ∀ p ∈ cs, LamX.TabB (hidT s₁.heap H) mg p.1 p.2 := fun p hp => by
      have hTp := hT p hp
      refine ⟨?_, ?_, fun z => ?_⟩
      · obtain ⟨o, us, file, tf, flags, tg, inF, text, tt, e1, r1, r2, r3, r⟩ := C p hp
        exact ⟨o, us, file, tf, flags, tg, inF, text, tt, hidT_get e1 (free e1 (fun its n z => by rw [r2] at z; cases z) fun z => by rw [r2] at z; cases z; simp at r3), r1, r2, r3, r⟩
      · obtain ⟨bm, ob, b1, b2, b3, b4, b5, b6⟩ := hbm
        refine ⟨bm, ob, b1, b2, fun q => ?_, fun q => ?_, hidT_get b3 (free b3 (fun its n z => by rw [b6] at z; cases z) fun z => by rw [b6] at z; cases z), b4, b5, b6⟩
        · obtain ⟨o, es, ep, e, hd, _⟩ := hns
          rw [q, e] at b3
          cases b3
          rw [hd] at b6
          cases b6
        · rw [q, hTp] at b3
          cases b3
          cases b6
      · obtain ⟨o, es, ep, e, hd, _⟩ := hns
        rw [z, hTp] at e
        cases e
        cases hd
    have e0 : Env0 P w K mg (hidT s₁.heap H) callerA [] s₁ H :=
      ⟨rfl, ⟨kb, nsK hns, ⟨mb, nsK hb, hbb⟩, hlim.imp fun _ z => ⟨nsK z.1, z.2⟩⟩, fun b o e => of_hidT e, Nat.le_of_eq (hidT_size _ _), trivial, fun b z => (List.not_mem_nil (show b ∈ ([] : List Addr) from z)).elim, hok, .of_eq hg⟩
    refine codeAny_mono ((F _ kb (nsK hns) TB).run callerA [] s₁ H ⟨[.ref a], []⟩ [.ref a] [.ref a] _ _ hr rfl e0 (hbind s₁ (.ref a)) (.cons rfl .nil) (hsp H (fun p hp => tb p.2 (List.mem_map.mpr ⟨p, hp, rfl⟩)) hS)) fun r s' h => ?_
    match r, h with
    | .error e, h => exact False.elim h
    | .ok .next, h => exact False.elim h
    | .ok .brk, h => exact False.elim h
    | .ok .cont, h => exact False.elim h
    | .ok (.ret u), ⟨v, H', os, bare, un, hok', r', q⟩ =>
      have q : v = .bl true := q
      subst q
      obtain rfl : u = Value.bool true := r'
      have nx : ∀ b : Addr, b ∉ ([] : List Addr) := fun b z => nomatch z
      have grown : ∀ p ∈ cs, ∃ more : Array Value, s'.heap.get? p.2 = some (PySem.W.tabObj more) := fun p hp => by
        obtain ⟨more, z⟩ := un.tbls p.2 #[] (tb p.2 (List.mem_map.mpr ⟨p, hp, rfl⟩))
        exact ⟨_, hok' p.2 _ z⟩
      have key : ∀ b o, b ∉ cs.map (·.2) → s₁.heap.get? b = some o → s'.heap.get? b = some o := fun b o nb e => by
        rcases hA b with ⟨n, _⟩ | ⟨rfl, _, q⟩ | ⟨m, _⟩
        · exact un.keep b o e n (nx _) (nx _)
        · obtain ⟨e2, _⟩ := hok' _ _ (un.frzs _ _ _ q)
          rw [ha] at e; cases e
          exact e2
        · exact absurd m nb
      refine ⟨rfl, ⟨fun b o e => ?_, fun b o e => ?_⟩, os, bare⟩
      · by_cases hbm : b ∈ cs.map (·.2)
        · obtain ⟨p, hp, rfl⟩ := List.mem_map.mp hbm
          obtain ⟨more, hm⟩ := grown p hp
          rw [hT p hp] at e
          cases e
          exact .inr (.inl ⟨((C p hp).tab (hT p hp)).isCodeTable, rfl, #[], more, rfl, by rw [Array.empty_append]; exact hm⟩)
        · exact .inl (key b o hbm e)
      · by_cases hbm : b ∈ cs.map (·.2)
        · obtain ⟨p, hp, rfl⟩ := List.mem_map.mp hbm
          obtain ⟨more, hm⟩ := grown p hp
          exact ⟨_, hm⟩
        · exact ⟨o, key b o hbm e⟩
  cases hk : K.lookup a with
  | some o =>
    have e := KX a o hk
    rw [ha] at e
    cases e
    refine core (fun b => if b ∈ cs.map (·.2) then some (.tbl #[]) else none) (fun b => ?_) (.inr ⟨_, vs.toArray, _, hk, rfl, rfl, rfl, by rw [List.size_toArray, hi.length]; exact hl, by simpa using rv⟩)
    by_cases hbm : b ∈ cs.map (·.2)
    · exact .inr (.inr ⟨hbm, if_pos hbm⟩)
    · exact .inl ⟨if_neg hbm, hbm⟩
  | none =>
    refine core (fun b => if b = a then some (.frz { cls := .type "list", data := .seq vs.toArray } (.lst (ns.map V.int))) else if b ∈ cs.map (·.2) then some (.tbl #[]) else none) (fun b => ?_) (.inl (.inr ⟨_, if_pos rfl⟩))
    by_cases hba : b = a
    · exact .inr (.inl ⟨hba, hk, if_pos hba⟩)
    · by_cases hbm : b ∈ cs.map (·.2)
      · exact .inr (.inr ⟨hbm, (if_neg hba).trans (if_pos hbm)⟩)
      · exact .inl ⟨(if_neg hba).trans (if_neg hbm), hbm⟩
/-- the walk: K the frozen things, xs the defs in which lambdas are made -/
theorem walk_gT {l : PySem.W.OpenLaw} {n k : Nat} {q : Program} {loose : List Str} {XP : (Str → Option Value) → Heap → Prop} {YP : World → Heap → Prop} {d : DefRec} {x : Str} {xs : List Str}
    (hn : l.most = some n) (hn2 : n ≤ sizeLine) (hdf : d.params.defaults = []) (hr : Room k callerA)
    (F : ∀ (w : World) (mg : Str → Option Value) (fa : Addr) (h : Heap), YP w h → h.Ns mainGlobals mg → mg d.name = some (.ref fa) →
      ∃ (K : PySem.W.Frag) (fd : FuncData) (sp : Sp), K.In h ∧ tabK K xs = true ∧ (∀ p ∈ tabsOf K xs, h.get? p.2 = some (PySem.W.tabObj #[])) ∧ (∀ (s : Shared) (u : Value), BindsTo s fd ⟨[u], []⟩ [(x, u)]) ∧
        (∀ (H : Hp) (a : Addr) (ns : List Int), ns.length ≤ n → (∀ z ∈ ns, Builtin.Int.intBits z ≤ 1048576) → (∀ p ∈ tabsOf K xs, H p.2 = some (.tbl #[])) → SqL K H a (ns.map V.int) → sp [.ref a] H (fun v _ => v = .bl true) fun _ _ _ => False) ∧
        ∀ base : Heap, K.In base → base.Ns mainGlobals mg → TabsB K mg base xs → FnG l.prog w K mg base CX0 k fa fd [x] sp) :
    PySem.W.WalkO q loose XP YP l.row.toRowW d [] (fun f vs => PySem.call f vs) := by
  refine Att.attach_callB hn hdf fun w s₀ s₁ mg mb fa o pm cd doc a vs ns G Y ho hd hcd hmg hobj hints hlen hbits hg => ?_
  obtain ⟨K, fd, sp, KX, hxs, hT, hb, hsp, hF⟩ := F w mg fa _ Y G.T.g hmg
  obtain ⟨h1, h2⟩ := Bool.and_eq_true_iff.mp hxs
  obtain ⟨t1, t2, t3⟩ := tabK_at h1
  refine law_gT (cs := tabsOf K xs) KX G.T.g G.T.b G.T.builtins G.T.nolimit hg hT (fun p hp => (t3 p hp).2) (fun p hp => PySem.W.codeHd_of_K KX (t3 p hp).1) G.T.bmain hobj hints (Nat.le_trans hlen hn2) hr (fun base kb nb tb => hF base kb nb fun x hx => ?_) hb fun H hH hS => hsp H a ns hlen hbits hH hS
  obtain ⟨i, hi, rfl⟩ := List.mem_iff_getElem.mp hx
  have hi2 : i < (tabsOf K xs).length := by rw [t1]; exact hi
  have e := t2 i xs[i] (tabsOf K xs)[i] (List.getElem?_eq_getElem hi) (List.getElem?_eq_getElem hi2)
  exact ⟨_, _, e, tb _ (List.getElem_mem hi2)⟩
/-- the law's promise, by data, the tables the store's first things -/
theorem law_spT {K : PySem.W.Frag} {f : List D → M D} {H : Hp} {a : Addr} {ns : List Int} {g' : G} {xs : List Str} (hxs : tabK K xs = true) (hn : ns.length ≤ 63) (hH : ∀ p ∈ tabsOf K xs, H p.2 = some (.tbl #[])) (hS : SqL K H a (ns.map V.int))
    (e : f [.lst (ns.map D.int)] (tabG xs) = some (.bl true, g')) : spD K 1 f [.ref a] H (fun v _ => v = .bl true) fun _ _ _ => False := by
  obtain ⟨h1, h2⟩ := Bool.and_eq_true_iff.mp hxs
  obtain ⟨t1, t2, t3⟩ := tabK_at h1
  have h2 := of_decide_eq_true h2
  generalize hP : (tabsOf K xs).map (·.2) = Ps at *
  let F : Fz := ⟨fun b => if b ∈ Ps then none else H b, Ps⟩
  have sub : Same F.h H := fun b o h => by
    have h : (if b ∈ Ps then none else H b) = some o := h
    by_cases hb : b ∈ Ps
    · rw [if_pos hb] at h; cases h
    · rw [if_neg hb] at h; exact h
  have atP : ∀ b ∈ Ps, H b = some (.tbl #[]) := fun b hb => by
    rw [← hP] at hb
    obtain ⟨p, hp, rfl⟩ := List.mem_map.mp hb
    exact hH p hp
  have rep : GRep K (tabG xs) F H := by
    refine ⟨?_, h2, fun n m b e1 e2 => ?_⟩
    · show (xs.map MO.mt).length = Ps.length
      rw [List.length_map, ← hP, List.length_map, t1]
    · have e2 : Ps[n]? = some b := e2
      have hb : b ∈ Ps := List.mem_of_getElem? e2
      obtain ⟨x, hx, rfl⟩ := Option.map_eq_some_iff.mp (show xs[n]?.map MO.mt = some m by rw [← List.getElem?_map]; exact e1)
      rw [← hP, List.getElem?_map] at e2
      obtain ⟨q, hq, rfl⟩ := Option.map_eq_some_iff.mp e2
      refine ⟨if_pos hb, ⟨q.1, t2 n x q hx hq⟩, #[], atP _ hb, True.intro, fun pos cv hcv => ?_⟩
      have z : PySem.codeAmong pos [] = some cv := hcv
      simp [PySem.codeAmong] at z
  have hSq : SqL K F.h a (ns.map V.int) := hS.imp (fun h => by
    have na : a ∉ Ps := fun hb => by
      have := atP a hb
      rcases h with h | ⟨o, h⟩
      · rw [this] at h; cases h
      · rw [this] at h; cases h
    rcases h with h | ⟨o, h⟩
    · exact .inl ((if_neg na).trans h)
    · exact .inr ⟨o, (if_neg na).trans h⟩) id
  refine ⟨F, tabG xs, [.lst (ns.map D.int)], .bl true, g', rfl, sub, rep, .cons (.lst hSq ?_ (RpA.ofInts ns)) .nil, e, fun v H' F' s r => rp_bl r⟩
  rw [List.length_map, sizeLine_eq]
  omega
/-! #### the head's facts, the tables among them -/
def noKeys (K : PySem.W.Frag) (Ps : List Addr) : PySem.W.Frag := K.filter fun p => !Ps.contains p.1
/-- the frozen things but the tables -/
def frT (g : Addr → Option Obj) (n : Nat) (xs : List Str) : PySem.W.Frag := noKeys (frS g n) ((tabsOf (frS g n) xs).map (·.2))
def isTab (o : Option Obj) : Bool := match o with
  | some ⟨.none, none, .fields vs, sl⟩ => vs.isEmpty && sl.isEmpty
  | _ => false
def obT (n : Nat) (fa : List He.Fa) (fn : List He.DefD) (T : XT) (xs : List Str) (g : Addr → Option Obj) : He.AlD × Bool := (He.obsD fa fn (frT g n xs), xbK T (frT g n xs) && smOk (frT g n xs) && (tabK (frT g n xs) xs && (tabsOf (frT g n xs) xs).all fun p => isTab (g p.2)))
def hookT (n : Nat) (fa : List He.Fa) (fn : List He.DefD) (T : XT) (xs : List Str) : PySem.W.Hook where
  α := He.AlD × Bool
  obs := fun s => obT n fa fn T xs s.heap.get?
  val := fun _ => (He.valD fn, true)
  says := fun _ h => ∃ K : PySem.W.Frag, K.In h ∧ He.SaysD fa fn K ∧ (xbK T K && smOk K) = true ∧ tabK K xs = true ∧ ∀ p ∈ tabsOf K xs, h.get? p.2 = some (PySem.W.tabObj #[])
  of := fun _ s e => by
    have e1 := congrArg Prod.fst e
    have e2 := congrArg Prod.snd e
    have e2 : (xbK T (frT s.heap.get? n xs) && smOk (frT s.heap.get? n xs) && (tabK (frT s.heap.get? n xs) xs && (tabsOf (frT s.heap.get? n xs) xs).all fun p => isTab (s.heap.get? p.2))) = true := e2
    rw [Bool.and_eq_true, Bool.and_eq_true (tabK _ _)] at e2
    refine ⟨frT s.heap.get? n xs, fun a o h => ?_, e1, e2.1, e2.2.1, fun p hp => ?_⟩
    · have hm := (List.mem_filter.mp (PySem.W.mem_of_lookupK h)).1
      obtain ⟨b, _, hb⟩ := List.mem_filterMap.mp hm
      obtain ⟨o', e1, e2⟩ := Option.map_eq_some_iff.mp hb
      cases e2
      exact e1
    · have := List.all_eq_true.mp e2.2.2 p hp
      unfold isTab at this
      split at this
      · rename_i vs sl q
        rw [Bool.and_eq_true] at this
        have h1 : vs = #[] := by simpa using this.1
        have h2 : sl = #[] := by simpa using this.2
        rw [q, h1, h2]
      · cases this
  keeps := fun _ _ _ ⟨K, hK, c, x, t, y⟩ k => ⟨K, PySem.W.Frag.In.keeps hK k, c, x, t, fun p hp => k _ _ (y p hp)⟩
theorem obT_eq {n : Nat} {fa : List He.Fa} {fn : List He.DefD} {T : XT} {xs : List Str} {g : Addr → Option Obj} {s : Shared} (h : ∀ a, g a = s.heap.get? a) : obT n fa fn T xs g = (hookT n fa fn T xs).obs s := by
  have e : g = s.heap.get? := funext h
  rw [e] <;> rfl
end PD
end
section
set_option Elab.async false
set_option linter.all false
set_option maxRecDepth 100000
set_option maxHeartbeats 4000000
set_option autoImplicit false
/-! ### a def in which lambdas are made; t * k from 1 on -/
namespace PD
open PySem PySem.Spec L2 PySem.W PySem.Calls
open PyProof.Rows hiding St
variable [L : Live]
theorem ThunkAt.tr {X : Cx} {k : Nat} {c : M Rx} {pn : List (Addr × Obj)} {xe : Value → Shared → Prop} (h : ThunkAt L X k c) : ThunkAt L (X.tr pn xe) k c := ⟨h.ex, h.noex⟩
theorem fn_gL {CX : CXT} {P : Program} {w : World} {K : PySem.W.Frag} {mg : Str → Option Value} {base : Heap} {k : Nat} {f : Addr} {x : Str} {params : Arguments} {body : List Stmt} {scope : Scope} {kws : List (Str × V)} {fd : FuncData}
    {N ps : List Str} {sp : Sp} (hm : mg x = some (.ref f)) (kb : K.In base) (nb : base.Ns mainGlobals mg) (tb : ∃ c P, tabIn K x = some (c, P) ∧ LamX.TabB base mg c P) (F : FunD K x x params body scope [] kws f fd) (S : FnScope N ps scope) (len : ∀ vs H Q E, sp vs H Q E → vs.length = ps.length)
    (hbody : ∀ (cdv : Value) (A : Around) (outer : List Env) (s : Shared) (H : Hp) (vs : List V) (Q : VK) (E : XK), Room k (A.deeper (envOfC x scope s.heap.objs.size f cdv)) →
      (A.deeper (envOfC x scope s.heap.objs.size f cdv)).guards = some [] → TabOk (cxOf CX P w K mg base N x scope f cdv A outer s H E) x → sp vs H Q E →
      ∃ t, PSs (cxOf CX P w K mg base N x scope f cdv A outer s H E) body t ∧ t { nx := fun _ H' => Q .non H', rt := Q } (start N vs) H) : FnG P w K mg base CX (k + 1) f fd ps sp := by
  obtain ⟨oc, od, dV, kV, doc, pm, an, cdv, ct, osl, rfl, lk, hcd, _, _⟩ := F.ex
  obtain ⟨c, P', ht, TB⟩ := tb
  have hcc : cdv = .ref c := law_code kb nb ht hm (kb _ _ lk) rfl
  refine ⟨len, fun A outer s H args us vs Q E hr gd e0 hb r hsp => ?_⟩
  have hl := len _ _ _ _ hsp
  have old : ∀ b o, base.get? b = some o → s.heap.get? b = some o := fun b o e => (e0.bs b o e).1
  have KX : K.In s.heap := e0.mod.kin.keeps old
  refine codeAny_call_function hr.depth (KX _ _ lk) rfl S.co S.gen rfl (PySem.W.codeRec_of KX hcd) (hb _ _ _ _ ?_)
  refine wpAny_newFunctionEnv_cells S.kind (fun y hy => ?_) fun env he s1 z => ?_
  · obtain ⟨n, v⟩ := y
    have q := S.par n (List.of_mem_zip hy).1
    exact q.imp id fun q => ⟨q, PySem.W.cellsFrom_some _ _ _ (.inl q)⟩
  subst he
  refine ⟨(e0.mod.nolimit.keeps old).keeps z.toInCall.keep, codeAny_func ?_⟩
  obtain ⟨t, ht2, hq⟩ := hbody cdv A outer s H vs Q E (hr.deeper _) gd ⟨⟨c, P', ht, TB, hcc⟩, rfl⟩ hsp
  have I := inv_start (CX := CX) (w := w) (K := K) (mg := mg) (base := base) (E := E) S hr.hd e0 hl r z
  refine wpAny_mono (ht2.run [] s1 (start N vs) H _ I hq) (fun fl s' hs => ?_) fun _ _ hs => hs
  match fl, hs with
  | .ret u, ⟨v, _, H', J, rv, q⟩ => exact ⟨v, H', J.os, J.bare, J.base, J.hok, rv, q⟩
  | .next, ⟨_, H', J, q⟩ => exact ⟨V.non, H', J.os, J.bare, J.base, J.hok, rfl, q⟩
  | .brk, ⟨_, _, _, q⟩ => exact False.elim q
  | .cont, ⟨_, _, _, q⟩ => exact False.elim q
theorem fn_dGL {P : Program} {w : World} {K : PySem.W.Frag} {mg : Str → Option Value} {base : Heap} {k : Nat} {f : Addr} {x : Str} {params : Arguments} {body : List Stmt} {scope : Scope} {kws : List (Str × V)} {fd : FuncData} {N ps : List Str} {sem : S}
    (hm : mg x = some (.ref f)) (kb : K.In base) (nb : base.Ns mainGlobals mg) (tb : ∃ c P, tabIn K x = some (c, P) ∧ LamX.TabB base mg c P) (F : FunD K x x params body scope [] kws f fd) (S : FnScope N ps scope)
    (hbody : ∀ (cdv : Value) (A : Around) (outer : List Env) (s : Shared) (H : Hp) (E : XK), Room k (A.deeper (envOfC x scope s.heap.objs.size f cdv)) → (A.deeper (envOfC x scope s.heap.objs.size f cdv)).guards = some [] →
      TabOk (cxOf CX0 P w K mg base N x scope f cdv A outer s H E).nox x → PDSS (cxOf CX0 P w K mg base N x scope f cdv A outer s H E).nox body sem) : FnG P w K mg base CX0 (k + 1) f fd ps (spD K ps.length (runF N.length sem)) := by
  refine fn_gL hm kb nb tb F S (fun vs H Q E h => ?_) fun cdv A outer s H vs Q E hr gd to h => ?_
  · obtain ⟨F, g, ds, d, g', hn, _, _, rv, _⟩ := h
    rw [rv.length, hn]
  · obtain ⟨F, g, ds, d, g', hn, sb, rp, rv, ev, q⟩ := h
    obtain ⟨t, ht, kt⟩ := hbody cdv A outer s H E hr gd ⟨to.ex, to.q⟩
    refine ⟨t, ht.nox, ?_⟩
    unfold runF at ev
    cases h : sem (slots0 N.length ds) g with
    | none => rw [h] at ev; cases ev
    | some r =>
      obtain ⟨fl, g1⟩ := r
      rw [h] at ev
      refine kt ⟨g, F, H⟩ (start N vs) H F (slots0 N.length ds) g (PD.pre0 sb rp rv) fl g1 h _ ?_
      cases fl with
      | rt z => cases ev; exact fun v H' F' s' r' => q v H' F' s' r'
      | nx ρ => cases ev; exact fun σ' H' F' p' => q .non H' F' p'.st .non
      | bk ρ => cases ev
      | xc nm f d ρ => cases ev
      | ct ρ => cases ev
/-! #### t * 1 -/
end PD
end
section
set_option Elab.async false
set_option linter.all false
set_option maxRecDepth 100000
set_option maxHeartbeats 4000000
set_option autoImplicit false
namespace PD
open PySem PySem.Spec L2
open PyProof.Rows hiding St
variable [Live]
/-! ### x += e of whole numbers -/
def sAug (i : Nat) (f : E) : S := fun ρ => mb (eVar i ρ) fun x => mb (f ρ) fun y => match x, y with
  | .int a, .int b => mr (.nx (setR ρ i (.int (a + b))))
  | _, _ => mz
section
variable {X : Cx} {e o a b : Expr} {f fa fb : E} {x : Str} {pos pos' ap cp : Pos} {k : Nat}
theorem pds_aug (i : Nat) (hN : X.N.Nodup) (h : PD X e f) (hi : X.N[i]? = some x := by rfl) (hx : Loc X.env.scope x := by first | exact Or.inl rfl | exact Or.inr rfl)
    (hf : X.fn x = true ∨ X.env.scope.names.lookup x = some .local := by first | exact .inl rfl | exact .inr rfl | assumption) : PDS X (.AugAssign (.Name x pos') .Add e pos) (sAug i f) := by
  obtain ⟨t, p, k⟩ := h
  refine ⟨_, ps_aug hN hi hx p ip_add hf, fun en σ H F ρ g pre fl g' ev De post => ?_⟩
  obtain ⟨dx, g1, e1, ev⟩ := mb_inv ev
  obtain ⟨dy, g2, e2, ev⟩ := mb_inv ev
  obtain ⟨e3, rfl⟩ := ml_inv e1
  cases hs : ρ[i]? with
  | none => rw [hs] at e3; cases e3
  | some ov =>
    rw [hs] at e3
    match ov, e3, hs with
    | some (.d x0), rfl, hs =>
      obtain ⟨v, h1, h2⟩ := pre.e.sl.at_ i _ hs
      match x0, dy, ev with
      | .int m, .int n, ev =>
        obtain ⟨rfl, rfl⟩ := mr_inv ev
        refine ⟨v, h1, k σ H F ρ _ pre.e _ _ e2 _ fun w H1 F1 s1 r1 => ?_⟩
        exact ⟨m, n, rp_int h2, rp_int r1, post _ H1 F1 ((pre.step s1).set (.int _))⟩
/-! ### d.get(k), d.get(k, x) -/
def getD1 (x y z : D) : Option D := match x with
  | .dk ks l => (keyD y).map fun k => (lookD ks l k).getD z
  | _ => none
def eGet (a b : E) : E := fun ρ => mb (a ρ) fun x => mb (b ρ) fun y => ml (getD1 x y .non)
def eGet2 (a b c : E) : E := fun ρ => mb (a ρ) fun x => mb (b ρ) fun y => mb (c ρ) fun z => ml (getD1 x y z)
end
/-! ### a call of a def that changes nothing, its arguments one's own things -/
mutual
def noH : D → Bool
  | .hd _ => false
  | .tup l => noHA l
  | .lst l => noHA l
  | .dk _ l => noHA l
  | .dt _ l => noHA l
  | _ => true
def noHA : List D → Bool
  | [] => true
  | d :: l => noH d && noHA l
end
section
variable {K : PySem.W.Frag} {F : Fz}
end
def eCallB (F : List D → M D) (as : EA) : E := fun ρ => mb (as ρ) fun ds => fun g => if noHA ds = true then (match F ds [] with
  | some (d, []) => some (d, g)
  | _ => none) else none
/-- the answer has no parts -/
def eFl (f : E) : E := fun ρ => mb (f ρ) fun d => if flatD d = true then mr d else mz
section
variable {X : Cx} {e : Expr} {es : List Expr} {fs : EA} {f : E} {x : Str} {p pos : Pos}
end
/-! ### list(x), x a list of one's own: a new one -/
def aCopy (i : Nat) : EA := fun ρ => ml (olAt ρ i)
section
variable {X : Cx} {x : Str} {p q pos : Pos}
end
end PD
end
section
set_option Elab.async false
set_option linter.all false
set_option maxRecDepth 100000
set_option maxHeartbeats 4000000
set_option autoImplicit false
namespace PD
open PySem PySem.Spec L2 PySem.Calls
open PyProof.Rows hiding St
variable [Live]
/-! ### a, *b, c = a tuple -/
section
variable {X : Cx} {pins : List (Addr × Obj)} {σ : St} {H : Hp} {s : Shared} {a : Addr} {xs : List V} {n i : Nat} {pos : Pos}
end
section
variable {X : Cx} {pos tp : Pos}
/-- the parts: the i-th of n gets all that is left -/
def starD (n i : Nat) (l : List D) : Option (List D) := if i < n ∧ n ≤ l.length + 1 then some (l.take i ++ D.lst ((l.drop i).take (l.length + 1 - n)) :: (l.drop i).drop (l.length + 1 - n)) else none
def sStar (n i : Nat) (bd : Bs) (f : E) : S := fun ρ => mb (f ρ) fun d => ml (match d with
  | .tup l => (starD n i l).bind fun ds => (bd ds ρ).map Fl.nx
  | _ => none)
end
end PD
end
section
set_option Elab.async false
set_option linter.all false
set_option maxRecDepth 100000
set_option maxHeartbeats 4000000
set_option autoImplicit false
namespace PD
open PySem PySem.Spec L2
open PyProof.Rows hiding St
variable [Live]
/-! ### dicts of the top: texts to whole numbers -/
def tblAt : List (Str × Int) → Str → Option Int
  | [], _ => none
  | (y, v) :: r, z => if y = z then some v else tblAt r z
structure GDict (w : World) (K : PySem.W.Frag) (x : Str) (t : List (Str × Int)) : Prop where
  ex : ∃ es n, KDict K w (He.ga K x) es n
  at_ : ∀ z, match tblAt t z with
    | some v => ∃ tk, PySem.W.nsIn K (He.ga K x) z = some (some (.int v tk))
    | none => PySem.W.nsIn K (He.ga K x) z = some none
/-- x in TABLE, TABLE[x], TABLE.get(x) -/
def inG (t : List (Str × Int)) (neg : Bool) (f : E) : E := fun ρ => mb (f ρ) fun x => match x with
  | .str z => mr (.bl (if neg then !(tblAt t z).isSome else (tblAt t z).isSome))
  | _ => mz
def ixG (t : List (Str × Int)) (f : E) : E := fun ρ => mb (f ρ) fun x => match x with
  | .str z => ml ((tblAt t z).map D.int)
  | _ => mz
section
variable {X : Cx} {a : Expr} {f : E} {x : Str} {p pos ap cp : Pos} {t : List (Str × Int)}
end
/-! ### the head's facts, such dicts among them -/
end PD
end
section
set_option Elab.async false
set_option linter.all false
set_option maxRecDepth 100000
set_option maxHeartbeats 4000000
set_option autoImplicit false
namespace PD
open PySem PySem.Spec L2
open PyProof.Rows hiding St
variable [Live]
/-! ### d.setdefault(k, x), the keys tuples of ints -/
/-- at a: the empty dict, or one whose keys are tuples -/
def GDX (H : Hp) (a : Addr) (kas : List (List Key × Addr × V)) : Prop := (H a = some (.dK []) ∧ kas = []) ∨ H a = some (.ext (DTX a kas))
section
variable {X : Cx} {pins : List (Addr × Obj)} {σ : St} {H : Hp} {s : Shared} {a b : Addr} {kas : List (List Key × Addr × V)} {A : Around} {E : Value → Shared → Prop}
end
section
variable {X : Cx} {o e f : Expr} {apos cpos : Pos} {td ty tx : TE}
end
end PD
end
section
set_option Elab.async false
set_option linter.all false
set_option maxRecDepth 100000
set_option maxHeartbeats 4000000
set_option autoImplicit false
namespace PD
open PySem PySem.Spec L2
open PyProof.Rows hiding St
variable [Live]
/-! ### quiet statements: names are set, nothing else -/
def qSet (i : Nat) (f : E) : Rho → M Rho := fun ρ => mb (f ρ) fun d => mr (setR ρ i d)
section
variable {X : Cx} {e : Expr} {f : E} {pos : Pos}
end
/-! ### a dict of lists that grow: for ..: d.setdefault(k, []).append(v) -/
structure GE where
  ns : List Int
  b : Addr
  la : Addr
  ds : List D
def kasE (E : List GE) : List (List Key × Addr × V) := E.map fun e => (kI e.ns, e.b, V.ref e.la)
structure GIe (K : PySem.W.Frag) (en : Ent) (F : Fz) (H : Hp) (ρ : Rho) (σ : St) (e : GE) : Prop where
  key : SqT K F.h e.b (e.ns.map V.int)
  f : F e.la = none
  m : e.la ∉ F.mu
  e0 : en.H e.la = none
  no : ∀ j, ¬ Owned ρ σ j e.la
  at_ : ∃ vs, H e.la = some (.lst vs) ∧ vs.length ≤ sizeLine ∧ RpA K F vs e.ds
structure GI (K : PySem.W.Frag) (en : Ent) (i : Nat) (p : Addr) (E : List GE) (F : Fz) (H : Hp) (g : G) (ρ : Rho) (σ : St) : Prop where
  pre : PreS K en F H g ρ σ
  at_ : σ[i]? = some (some (.ref p))
  no : ∀ j, ¬ Owned ρ σ j p
  f : F p = none
  m : p ∉ F.mu
  e0 : en.H p = none
  dict : GDX H p (kasE E)
  ent : ∀ e ∈ E, GIe K en F H ρ σ e
  nda : (E.map (·.la)).Nodup
  ndk : (E.map (·.ns)).Nodup
section
variable {K : PySem.W.Frag} {en : Ent} {i : Nat} {p : Addr} {E : List GE} {F F' : Fz} {H H' : Hp} {g g' : G} {ρ ρ' : Rho} {σ σ' : St}
theorem gdx_some {kas : List (List Key × Addr × V)} (h : GDX H p kas) : ∃ o, H p = some o := by
  rcases h with ⟨h, _⟩ | h
  · exact ⟨_, h⟩
  · exact ⟨_, h⟩
theorem gdx_keep {kas : List (List Key × Addr × V)} (h : GDX H p kas) (k : ∀ o, H p = some o → H' p = some o) : GDX H' p kas := h.imp (fun h => ⟨k _ h.1, h.2⟩) (k _)
theorem GIe.step {e : GE} (h : GIe K en F H ρ σ e) (s : Stp K g g' F F' H H') (o : ∀ i p, Owned ρ' σ' i p → Owned ρ σ i p) : GIe K en F' H' ρ' σ' e := by
  obtain ⟨vs, a1, a2, a3⟩ := h.at_
  exact ⟨sqT_mono s.ext.h h.key, s.keepN h.f a1, s.keepM h.m a1, h.e0, fun j z => h.no j (o _ _ z), vs, s.same _ _ h.m a1, a2, a3.mono s.ext⟩
theorem GI.step (h : GI K en i p E F H g ρ σ) (s : Stp K g g' F F' H H') (pre : PreS K en F' H' g' ρ' σ') (o : ∀ i p, Owned ρ' σ' i p → Owned ρ σ i p) (a : σ'[i]? = σ[i]?) : GI K en i p E F' H' g' ρ' σ' := by
  obtain ⟨ho, hp⟩ := gdx_some h.dict
  exact ⟨pre, a.trans h.at_, fun j z => h.no j (o _ _ z), s.keepN h.f hp, s.keepM h.m hp, h.e0, gdx_keep h.dict fun o e => s.same _ _ h.m e, fun e he => (h.ent e he).step s o, h.nda, h.ndk⟩
theorem GI.stp (h : GI K en i p E F H g ρ σ) (s : Stp K g g' F F' H H') : GI K en i p E F' H' g' ρ σ := h.step s (h.pre.step s) (fun _ _ z => z) rfl
/-- the slots and what is known of them, one thing of one's own is changed that no slot holds -/
theorem PreS.mutN {q : Addr} {o : HO} (pre : PreS K en F H g ρ σ) (hq : en.H q = none) (hF : F q = none) (hm : q ∉ F.mu) (no : ∀ j, ¬ Owned ρ σ j q) : PreS K en F (upd H q o) g ρ σ :=
  ⟨pre.e.mut hF hm no, pre.st.mut hq hF hm, pre.fr⟩
/-- such a thing is frozen -/
theorem PreS.frzA {q : Addr} {o : HO} (pre : PreS K en F H g ρ σ) (hq : en.H q = none) (hF : F q = none) (hm : q ∉ F.mu) (hH : H q = some o) (no : ∀ j, ¬ Owned ρ σ j q) : PreS K en (F.upd q o) H g ρ σ := by
  have ex : Ext F (F.upd q o) := .upd hF
  have st' := pre.st.frz hq hF hm hH
  refine ⟨⟨st'.sub, st'.rep, pre.e.sl.len, fun j l z => ?_, pre.e.sl.sep⟩, st', pre.fr⟩
  obtain ⟨u, z1, z2⟩ := pre.e.sl.at_ j l z
  refine ⟨u, z1, ?_⟩
  have nF : l.own = true → ∀ w, u = .ref w → F w = none → (F.upd q o) w = none := fun w1 w w2 w3 => by
    have : w ≠ q := fun e => no j ⟨l, z, w1, by rw [z1, w2, e]⟩
    show L2.upd F.h q o w = none
    rw [upd_ne this]; exact w3
  cases l with
  | d x => exact Rp.mono ex z2
  | ol ds => obtain ⟨w, vs, e1, e2, e3, e4, e5, e6⟩ := z2; exact ⟨w, vs, e1, nF rfl w e1 e2, e3, e4, e5, e6.mono ex⟩
  | ok ks ds => obtain ⟨w, vs, e1, e2, e3, e4, e5, e6⟩ := z2; exact ⟨w, vs, e1, nF rfl w e1 e2, e3, e4, e5, e6.mono ex⟩
  | ot ks ds => obtain ⟨w, vs, e1, e2, e3, e4, e5, e6⟩ := z2; exact ⟨w, vs, e1, nF rfl w e1 e2, e3, e4, ⟨e5.1, fun x hx => sqT_mono ex.h (e5.2 x hx)⟩, e6.mono ex⟩
  | fn => exact ⟨z2.1, Live.step ex z2.2⟩
theorem GIe.ne {e : GE} (h : GIe K en F H ρ σ e) (d : GDX H p (kasE E)) : e.la ≠ p := fun z => by
  obtain ⟨vs, a1, _⟩ := h.at_
  rw [z] at a1
  rcases d with ⟨d, _⟩ | d <;> (rw [d] at a1; cases a1)
/-- a new key -/
theorem GI.new (h : GI K en i p E F H g ρ σ) {ns : List Int} {b q : Addr} (hb : SqT K F.h b (ns.map V.int)) (hq : H q = none) (hk : ns ∉ E.map (·.ns)) :
    GI K en i p (E ++ [⟨ns, b, q, []⟩]) F (upd (upd H q (.lst [])) p (.ext (DTX p (kasE E ++ [(kI ns, b, V.ref q)])))) g ρ σ := by
  obtain ⟨o, hp⟩ := gdx_some h.dict
  have pq : p ≠ q := fun z => by rw [z, hq] at hp; cases hp
  have fq : F q = none := h.pre.e.sub.free hq
  have mq : q ∉ F.mu := h.pre.e.rep.out hq
  have nq : ∀ j, ¬ Owned ρ σ j q := fun j z => by
    obtain ⟨o, ho⟩ := h.pre.e.own_some z
    rw [hq] at ho; cases ho
  have h1 := h.stp (.allocO (o := .lst []) h.pre.e.sub h.pre.e.rep hq)
  have p2 : PreS K en F (upd (upd H q (.lst [])) p (.ext (DTX p (kasE E ++ [(kI ns, b, V.ref q)])))) g ρ σ := h1.pre.mutN h.e0 h.f h.m h.no
  have eq : en.H q = none := h.pre.st.mono q hq
  refine ⟨p2, h.at_, h.no, h.f, h.m, h.e0, .inr (by rw [upd_same]; unfold kasE; rw [List.map_append]; rfl), fun e he => ?_, ?_, ?_⟩
  · rcases List.mem_append.mp he with he | he
    · have z := h.ent e he
      obtain ⟨vs, a1, a2, a3⟩ := z.at_
      have n1 : e.la ≠ p := z.ne h.dict
      have n2 : e.la ≠ q := fun y => by rw [y, hq] at a1; cases a1
      exact ⟨z.key, z.f, z.m, z.e0, z.no, vs, by rw [upd_ne n1, upd_ne n2]; exact a1, a2, a3⟩
    · rw [List.mem_singleton.mp he]
      exact ⟨hb, fq, mq, eq, nq, [], by rw [upd_ne (fun z => pq z.symm), upd_same], Nat.zero_le _, .nil⟩
  · rw [List.map_append]
    refine List.nodup_append.mpr ⟨h.nda, by simp, fun x hx y hy e => ?_⟩
    obtain ⟨z, hz, rfl⟩ := List.mem_map.mp hx
    obtain ⟨vs, a1, _⟩ := (h.ent z hz).at_
    simp only [List.map_cons, List.map_nil, List.mem_singleton] at hy
    subst hy
    rw [e, hq] at a1; cases a1
  · rw [List.map_append]
    refine List.nodup_append.mpr ⟨h.ndk, by simp, fun x hx y hy e => ?_⟩
    simp only [List.map_cons, List.map_nil, List.mem_singleton] at hy
    subst hy
    exact hk (by rw [← e]; exact hx)
/-- all is given away -/
theorem GI.all (B : List GE) : ∀ {F : Fz}, PreS K en F H g ρ σ → (B.map (·.la)).Nodup → (∀ e ∈ B, GIe K en F H ρ σ e) → ∃ F', PreS K en F' H g ρ σ ∧ Ext F F' ∧ (∀ a, a ∉ B.map (·.la) → F a = none → F' a = none) ∧ F'.mu = F.mu ∧ RpA K F' (B.map fun e => V.ref e.la) (B.map fun e => D.lst e.ds) := by
  induction B with
  | nil => exact fun pre _ _ => ⟨_, pre, Ext.refl _, fun _ _ h => h, rfl, .nil⟩
  | cons e B ih =>
    intro F pre nd he
    have h := he e List.mem_cons_self
    obtain ⟨vs, a1, a2, a3⟩ := h.at_
    obtain ⟨n1, n2⟩ := List.nodup_cons.mp nd
    have ex : Ext F (F.upd e.la (.lst vs)) := .upd h.f
    obtain ⟨F', p', e', k', m', r'⟩ := ih (pre.frzA h.e0 h.f h.m a1 h.no) n2 fun y hy => by
      have z := he y (List.mem_cons_of_mem _ hy)
      have n : y.la ≠ e.la := fun q => n1 (by
        have z := List.mem_map_of_mem (f := fun x : GE => x.la) hy
        rw [q] at z
        exact z)
      obtain ⟨us, b1, b2, b3⟩ := z.at_
      exact ⟨sqT_mono ex.h z.key, by show L2.upd F.h e.la (.lst vs) y.la = none; rw [upd_ne n]; exact z.f, z.m, z.e0, z.no, us, b1, b2, b3.mono ex⟩
    refine ⟨F', p', ex.trans e', fun a ha hF => k' a (fun z => ha (List.mem_cons_of_mem _ z)) ?_, m', .cons ?_ r'⟩
    · have : a ≠ e.la := fun z => ha (by rw [z]; exact List.mem_cons_self)
      show L2.upd F.h e.la (.lst vs) a = none
      rw [upd_ne this]; exact hF
    · exact .lst (.of (e'.h _ _ upd_same)) a2 ((a3.mono ex).mono e')
end
/-! ### by data -/
def putG : List (List Int × List D) → List Int → D → List (List Int × List D)
  | [], ns, v => [(ns, [v])]
  | (m, l) :: r, ns, v => if m = ns then (m, l ++ [v]) :: r else (m, l) :: putG r ns v
def okG (acc : List (List Int × List D)) : Bool := decide (acc.length < sizeLine) && acc.all fun q => decide (q.2.length < sizeLine)
def accE (E : List GE) : List (List Int × List D) := E.map fun e => (e.ns, e.ds)
/-- the body of such a loop: what it sets, key, value -/
def PGB (X : Cx) (i : Nat) (body : List Stmt) (f : Rho → M (Rho × D × D)) : Prop := ∃ t, PSs X body t ∧ ∀ en p E σ H F ρ g, GI X.K en i p E F H g ρ σ → ∀ ρ' kd vd g', f ρ g = some ((ρ', kd, vd), g') → ∀ ns, intsT kd = some ns → okG (accE E) = true → ∀ De : Ends,
  (∀ E' σ' H' F', Ext F F' → GI X.K en i p E' F' H' g' ρ' σ' → accE E' = putG (accE E) ns vd → De.nx σ' H') → t De σ H
where intsT : D → Option (List Int)
  | .tup l => intsD l
  | _ => none
def gFin (fk fv : E) : Rho → M (Rho × D × D) := fun ρ => mb (fk ρ) fun k => mb (fv ρ) fun v => mr (ρ, k, v)
def gSeq (q : Rho → M Rho) (f : Rho → M (Rho × D × D)) : Rho → M (Rho × D × D) := fun ρ => mb (q ρ) f
section
variable {X : Cx} {i : Nat} {e f : Expr} {fk fv : E} {x : Str} {p1 p2 p3 p4 p5 p6 pos : Pos} {k : Nat}
end
def forG (bd : B) (b : Rho → M (Rho × D × D)) : List D → Rho → List (List Int × List D) → M (Rho × List (List Int × List D))
  | [], ρ, acc => mr (ρ, acc)
  | d :: ds, ρ, acc => match bd d ρ with
    | none => mz
    | some ρ1 => mb (b ρ1) fun r => match PGB.intsT r.2.1 with
      | some ns => if okG acc = true then forG bd b ds r.1 (putG acc ns r.2.2) else mz
      | none => mz
def dtG (acc : List (List Int × List D)) : D := .dt (acc.map fun q => kI q.1) (acc.map fun q => D.lst q.2)
def isOk0 : Option (Option LV) → Bool
  | some (some (.ok [] [])) => true
  | _ => false
def sForG (i : Nat) (it : EA) (bd : B) (b : Rho → M (Rho × D × D)) : S := fun ρ => mb (it ρ) fun ds => if isOk0 ρ[i]? = true then mb (forG bd b ds (ρ.set i none) []) fun r => if r.2 = [] then mz else mr (.nx (setR r.1 i (dtG r.2))) else mz
section
variable {X : Cx} {tg iter c : Expr} {body : List Stmt} {it : EA} {sl : List Nat} {bd : B} {b : Rho → M (Rho × D × D)} {pos : Pos}
end
end PD
end
section
set_option Elab.async false
set_option linter.all false
set_option maxRecDepth 100000
set_option maxHeartbeats 4000000
set_option autoImplicit false
namespace PD
open PySem PySem.Spec L2
open PyProof.Rows hiding St
variable [Live]
/-! ### sorted(d), the keys tuples of ints -/
section
variable {X : Cx} {pins : List (Addr × Obj)} {σ : St} {H : Hp} {s : Shared} {a : Addr} {kas : List (List Key × Addr × V)}
end
section
variable {X : Cx}
end
section
variable {X : Cx} {e : Expr} {fs : EA} {p pos : Pos}
end
/-! ### a list some times over -/
def rRepLA (K : PySem.W.Frag) : R2 := fun x y H Q => ∃ l k xs, x = .ref l ∧ y = .int k ∧ SqL K H l xs ∧ -(2 ^ 63) ≤ k ∧ k < 2 ^ 63 ∧ xs.length * k.toNat ≤ sizeLine ∧ ∀ p, H p = none → Q (.ref p) (upd H p (.lst (List.replicate k.toNat xs).flatten))
theorem op_repLA {X : Cx} : OpR X (binaryOp .Mult) (rRepLA X.K) := by
  intro pins s σ H x y v u Q I rx ry h
  obtain ⟨l, k, xs, rfl, rfl, hH, h1, h2, hz, q⟩ := h
  cases rx
  obtain ⟨t, rfl⟩ := ry
  obtain ⟨its, r, ⟨o1, n, e, c1, k1, d1⟩, _⟩ := I.list hH
  obtain ⟨cl1, dd1, dt1, sl1⟩ := o1
  simp only at c1 d1
  subst c1 d1
  have hl := r.length
  have hln : its.toArray.size * k.toNat ≤ sizeLine := by rw [List.size_toArray, ← hl]; exact hz
  have c0 : ¬ its.toArray.size * k.toNat > (2 ^ 63 - 1) / 8 := by
    have : (sizeLine : Nat) ≤ (2 ^ 63 - 1) / 8 := by decide
    omega
  have f0 : ¬ (!Builtin.List.listFitsIndex k) = true := by rw [fitsIndex_both h1 h2]; exact Bool.false_ne_true
  have t0 : ¬ Builtin.List.listTooLong (its.toArray.size * k.toNat) = true := by rw [notLongL hln]; exact Bool.false_ne_true
  have new : List.foldl (fun x1 x2 => x1 ++ x2) #[] (List.replicate (if its.toArray.isEmpty = true then 0 else k.toNat) its.toArray) = (List.replicate k.toNat its).flatten.toArray := by
    have all : ∀ m : Nat, List.foldl (fun x1 x2 => x1 ++ x2) #[] (List.replicate m its.toArray) = (List.replicate m its).flatten.toArray := fun m => by simpa using foldl_rep its m []
    rw [all]
    cases its with
    | nil => simp
    | cons a r' => rw [if_neg (by simp)]
  refine wpAny_binaryOp_repeat_ref (T := "list") (U := "int") (by decide) ⟨_, e, rfl⟩ (fun s' => typeIs_int s' k t) noFill_list_mul PySem.F.fills_int_mul PySem.F.slot_int_rmul repeat_list PySem.F.slot_int_index.lookup
    (call_meets PySem.F.slot_int_rmul (typeIs_int s k t) PySem.F.entry_int_rmul (PySem.F.args_int_rmul_2 _ _) (lm_int_rmul_list_any k t l its.toArray n dd1 sl1)
      ⟨e, rfl, ⟨_, e, rfl⟩, call_meets PySem.F.slot_list_mul ⟨_, e, rfl⟩ PySem.F.entry_list_mul (PySem.F.args_list_mul_2 _ _) (lm_list_mul_any l its.toArray n dd1 sl1 k t f0 c0 t0) ⟨e, ?_⟩⟩)
  rw [new]
  exact ⟨.ref _, _, I.lnew (t' := s.toks) (r.rep k.toNat) (by rw [PyProof.Rows.lm_len_rep_flat, Nat.mul_comm]; exact hz), rfl, q _ I.fresh⟩
def repLD (x y : D) : Option D := match x, y with
  | .lst l, .int k => if l.length * k.toNat ≤ sizeLine ∧ -(2 ^ 63) ≤ k ∧ k < 2 ^ 63 then some (.lst (List.replicate k.toNat l).flatten) else none
  | _, _ => none
theorem pd_repL {X : Cx} {a b : Expr} {fa fb : E} {pos : Pos} (ha : PD X a fa) (hb : PD X b fb) : PD X (.BinOp a .Mult b pos) (eOp repLD fa fb) := by
  refine pd_op op_repLA (fun F H g x y dx dy d s r rx ry e Q q => ?_) ha hb
  unfold repLD at e
  split at e
  · split at e
    · rename_i hz
      cases e
      rw [rp_int ry]
      obtain ⟨a, vs, rfl, t1, l1, u1⟩ := rp_lst rx
      have e1 := u1.length
      refine ⟨a, _, vs, rfl, rfl, sqL_mono s t1, hz.2.1, hz.2.2, by rw [e1]; exact hz.1, fun p hp => q _ _ _ (.alloc s r hp) (rp_new_lst (s.free hp) ?_ (rpA_rep u1 _))⟩
      rw [PyProof.Rows.lm_len_rep_flat, Nat.mul_comm]
      exact hz.1
    · cases e
  · cases e
end PD
end
section
set_option Elab.async false
set_option linter.all false
set_option maxRecDepth 100000
set_option maxHeartbeats 4000000
set_option autoImplicit false
namespace PD
open PySem PySem.Spec L2
open PyProof.Rows hiding St
variable [Live]
/-! ### x.pop(e) of a list of the store -/
def popH (g : G) (n : Nat) (d : D) : Option (D × G) := match d with
  | .int i => match g[n]? with
    | some (.ml l) => (L2.ixN l.length i).bind fun k => (l[k]?).map fun y => (y, updG g n (.ml (l.eraseIdx k)))
    | _ => none
  | _ => none
def ePopH (i : Nat) (f : E) : E := fun ρ => mb (eVar i ρ) fun x => fun g => match x with
  | .hd n => match g[n]? with
    | some (.ml _) => (mb (f ρ) fun d => fun g1 => popH g1 n d) g
    | _ => none
  | _ => none
theorem RpA.eraseIdx {K : PySem.W.Frag} {F : Fz} : ∀ {vs : List V} {ds : List D} (k : Nat), RpA K F vs ds → RpA K F (vs.eraseIdx k) (ds.eraseIdx k)
  | _, _, _, .nil => .nil
  | _, _, 0, .cons _ t => t
  | _, _, k + 1, .cons r t => .cons r (RpA.eraseIdx k t)
section
variable {X : Cx} {e : Expr} {f : E} {x : Str} {p pos ap : Pos}
end
@[simp] theorem ePopH_ap (i : Nat) (f : E) {ρ : Rho} {g : G} : ePopH i f ρ g = (eVar i ρ g).bind fun p => match p.1 with
    | .hd n => match p.2[n]? with
      | some (.ml _) => (f ρ p.2).bind fun q => popH q.2 n q.1
      | _ => none
    | _ => none := by
  refine (mb_ap _ _ _).trans ?_
  congr 1
  funext p
  cases p.1 with
  | hd n =>
    show (match p.2[n]? with
      | some (.ml _) => (mb (f ρ) fun d => fun g1 => popH g1 n d) p.2
      | _ => none) = (match p.2[n]? with
      | some (.ml _) => (f ρ p.2).bind fun q => popH q.2 n q.1
      | _ => none)
    split
    · exact mb_ap _ _ _
    · rfl
  | _ => rfl
/-! ### x.count(e) of a list of one's own -/
def cntD : LV → D → Option D
  | .ol l, .int k => (intsD l).map fun ns => .int (ns.count k : Nat)
  | _, _ => none
def eCntO (i : Nat) (f : E) : E := fun ρ => mb (f ρ) fun d => ml (match ρ[i]? with
  | some (some lv) => cntD lv d
  | _ => none)
section
variable {X : Cx} {e : Expr} {f : E} {x : Str} {p pos ap : Pos}
end
@[simp] theorem eCntO_ap (i : Nat) (f : E) {ρ : Rho} {g : G} : eCntO i f ρ g = (f ρ g).bind fun p => (match ρ[i]? with
    | some (some lv) => cntD lv p.1
    | _ => none).map fun d => (d, p.2) := by
  simp only [eCntO, mb_ap, ml_ap]
end PD
end
section
set_option Elab.async false
set_option linter.all false
set_option maxRecDepth 100000
set_option maxHeartbeats 4000000
set_option autoImplicit false
namespace PD
open PySem PySem.Spec L2
open PyProof.Rows hiding St
variable [Live]
/-! ### x *= e, ints -/
section
variable {X : Cx} {e : Expr} {f : E} {x : Str} {pos' pos : Pos}
theorem ip_mul : PIp X .Mult (fun x y H Q => ∃ i j, x = V.int i ∧ y = V.int j ∧ CMul i j ∧ Q (.int (i * j)) H) := by
  intro pins s σ H x y v u Q I r1 r2 h
  obtain ⟨i, j, e1, e2, hc, q⟩ := h
  subst e1; subst e2
  obtain ⟨t, rfl⟩ := r1
  obtain ⟨t', rfl⟩ := r2
  exact PySem.P.imul_int ⟨.int _, H, I.tok _, ⟨_, rfl⟩, q⟩ hc.ok
def sMul (i : Nat) (f : E) : S := fun ρ => mb (eVar i ρ) fun x => mb (f ρ) fun y => ml ((dMul x y).map fun d => Fl.nx (setR ρ i d))
theorem pds_mul (i : Nat) (hN : X.N.Nodup) (h : PD X e f) (hi : X.N[i]? = some x := by rfl) (hx : Loc X.env.scope x := by first | exact Or.inl rfl | exact Or.inr rfl)
    (hf : X.fn x = true ∨ X.env.scope.names.lookup x = some .local := by first | exact .inl rfl | exact .inr rfl | assumption) : PDS X (.AugAssign (.Name x pos') .Mult e pos) (sMul i f) := by
  obtain ⟨t, p, k⟩ := h
  refine ⟨_, ps_aug hN hi hx p ip_mul hf, fun en σ H F ρ g pre fl g' ev De post => ?_⟩
  obtain ⟨dx, g1, e1, ev⟩ := mb_inv ev
  obtain ⟨dy, g2, e2, ev⟩ := mb_inv ev
  obtain ⟨e4, rfl⟩ := ml_inv ev
  obtain ⟨dz, e5, rfl⟩ := Option.map_eq_some_iff.mp e4
  obtain ⟨e3, rfl⟩ := ml_inv e1
  cases hs : ρ[i]? with
  | none => rw [hs] at e3; cases e3
  | some ov =>
    rw [hs] at e3
    match ov, e3, hs with
    | some (.d x0), rfl, hs =>
      obtain ⟨v, h1, h2⟩ := pre.e.sl.at_ i _ hs
      match x0, dy, e5 with
      | .int m, .int n, e5 =>
        have e5 : (if mulC m n = true then some (D.int (m * n)) else none) = some dz := e5
        split at e5
        · rename_i hc
          cases e5
          refine ⟨v, h1, k σ H F ρ _ pre.e _ _ e2 _ fun w H1 F1 s1 r1 => ?_⟩
          exact ⟨m, n, rp_int h2, rp_int r1, mulC_ok m n hc, post _ H1 F1 ((pre.step s1).set (.int _))⟩
        · cases e5
end
@[simp] theorem sMul_ap (i : Nat) (f : E) {ρ : Rho} {g : G} : sMul i f ρ g = (eVar i ρ g).bind fun p => (f ρ p.2).bind fun q => ((dMul p.1 q.1).map fun d => Fl.nx (setR ρ i d)).map fun fl => (fl, q.2) := by
  simp only [sMul, mb_ap, ml_ap]
/-! ### max of a list, of a tuple of ints -/
def maxI : List Int → Int
  | [] => 0
  | [x] => x
  | x :: y :: l => max x (maxI (y :: l))
theorem maxI_ge : ∀ {l : List Int} {y : Int}, y ∈ l → y ≤ maxI l
  | [x], y, h => by rw [List.mem_singleton.mp h]; exact Int.le_refl _
  | x :: z :: l, y, h => by
    show y ≤ max x (maxI (z :: l))
    rcases List.mem_cons.mp h with rfl | h
    · omega
    · have := maxI_ge h; omega
theorem maxI_mem : ∀ {l : List Int}, l ≠ [] → maxI l ∈ l
  | [x], _ => List.mem_cons_self
  | x :: z :: l, _ => by
    show max x (maxI (z :: l)) ∈ _
    have ih := maxI_mem (l := z :: l) (by simp)
    by_cases h : x ≤ maxI (z :: l)
    · rw [show max x (maxI (z :: l)) = maxI (z :: l) by omega]; exact List.mem_cons_of_mem _ ih
    · rw [show max x (maxI (z :: l)) = x by omega]; exact List.mem_cons_self
theorem maxI_of {l : List Int} {m : Int} (h1 : m ∈ l) (h2 : ∀ y ∈ l, y ≤ m) : m = maxI l := by
  have a := maxI_ge h1
  have b := h2 _ (maxI_mem (List.ne_nil_of_mem h1))
  omega
def maxLD : List D → Option D
  | [.lst l] => (intsD l).bind fun ns => if ns = [] then none else some (.int (maxI ns))
  | [.tup l] => (intsD l).bind fun ns => if ns = [] then none else some (.int (maxI ns))
  | _ => none
section
variable {prog : Program} {w : World} {A : Around} {E : Value → Shared → Prop} {s : Shared} {t : Addr} {its : List Value} {ns : List Int}
theorem max_tup {Q : Value → Shared → Prop} (hh : A.handled = none) (hl : s.heap.IsTuple t its.toArray) (hi : IntsAre its ns) (hne : 0 < ns.length)
    (h : ∀ h' tk M t', (∀ b o, s.heap.get? b = some o → h'.get? b = some o) → M ∈ ns → (∀ a, a ∈ ns → a ≤ M) → Q (.int M t') { s with heap := h', toks := tk }) : wpAny (model prog w) A (call (.builtin "max") [.ref t]) Q E s := by
  obtain ⟨xs, e⟩ := hi.allInts.items
  have hn : numsOf (intItems xs).toList = ns := by rw [← e]; exact hi.numsOf
  rw [nums_intItems] at hn
  subst hn
  rw [e] at hl
  have hsz : 0 < xs.size := by simpa using hne
  have hlt : t < s.heap.objs.size := by obtain ⟨_, e, _⟩ := hl; exact Heap.lt_size e
  refine call_max_walk (wpAny_pyIter_tuple hl ?_)
  refine ⟨_, _, _, _, _, _, _, rfl, Walks.tuple (A := A.in1) hh _ t (Nat.ne_of_lt hlt) (intItems xs), ⟨⟨_, Heap.get?_push_size _ rfl, rfl, rfl⟩, hl.push _⟩, fun b hb => ?_, by simpa [intItems] using hsz, CmpOf.ints_gt (numAt xs) (fun _ _ => intItems_at), fun v h' tk hP hk => ?_⟩
  · show b < (s.heap.push _).objs.size
    rw [Heap.size_push]
    have e : b = s.heap.objs.size ∨ b = t := by simpa using hb
    rcases e with rfl | rfl
    · exact Nat.lt_succ_self _
    · exact Nat.lt_succ_of_lt hlt
  · have hP : (intItems xs)[argBest (fun i j => decide (numAt xs i > numAt xs j)) (xs.size - 1)]? = some v := by simpa [intItems] using hP
    obtain ⟨t', rfl⟩ := intItems_at hP
    obtain ⟨h1, h2⟩ := argBest_gt (numAt xs) (xs.size - 1)
    refine h h' tk _ t' (fun b o e => hk b o (fun hb => ?_) (Heap.get?_push_of_some _ e)) ?_ fun a ha => ?_
    · have : b = s.heap.objs.size := by simpa using hb
      subst this
      exact absurd (Heap.lt_size e) (Nat.lt_irrefl _)
    · rw [numAt_eq]; exact PySem.getD_mem (by rw [List.length_map, Array.length_toList]; omega)
    · obtain ⟨j, hj, rfl⟩ := mem_getD ha
      rw [List.length_map, Array.length_toList] at hj
      rw [← numAt_eq]; exact h2 j (by omega)
end
section
variable {X : Cx} {e : Expr} {fs : EA} {p pos : Pos}
def rMaxA (K : PySem.W.Frag) : List V → Hp → VK → Prop := fun vs H Q => ∃ (a : Addr) (ns : List Int), vs = [V.ref a] ∧ (SqL K H a (ns.map V.int) ∨ SqT K H a (ns.map V.int)) ∧ 0 < ns.length ∧ Q (.int (maxI ns)) H
theorem cr_maxA (hc : X.calm = true) : CallR X (.builtin "max") (rMaxA X.K) := by
  intro pins s σ H vs us Q I r h
  obtain ⟨a, ns, rfl, hs | hs, hne, q⟩ := h
  · exact cr_max hc pins s σ H _ us Q I r ⟨a, ns, rfl, hs, hne, fun m h1 h2 => by rw [maxI_of h1 h2]; exact q⟩
  · obtain ⟨its, rv, hl, _⟩ := I.tuple hs
    rw [Vals.ref1 r]
    exact max_tup (I.ok.hd hc) hl rv.ints hne fun h' tk m t' hk h1 h2 => ⟨.int _, H, I.kept hk, ⟨_, rfl⟩, by rw [maxI_of h1 h2]; exact q⟩
theorem maxLD_ok {K : PySem.W.Frag} : CallB K (rMaxA K) maxLD := fun W H vs ds d s rv e Q q => by
  have fin : ∀ {x : D} {l : List D}, ds = [x] → seqD x = some l → ((intsD l).bind fun ns => if ns = [] then none else some (D.int (maxI ns))) = some d → rMaxA K vs H Q := fun {x l} hd hx e' => by
    subst hd
    obtain ⟨ns, h1, h2⟩ := Option.bind_eq_some_iff.mp e'
    split at h2
    · cases h2
    · rename_i hn
      cases h2
      cases rv with
      | cons r t =>
        cases t
        obtain ⟨k, a, xs, rfl, h3, h4, h5⟩ := rp_seq r hx
        have hl := intsD_ok h1
        subst hl
        rw [(h5 : RpA K W xs (ns.map D.int)).ints] at h3
        refine ⟨a, ns, rfl, ?_, List.length_pos_iff.mpr hn, q _ fun F => .int _⟩
        have h3 := sqK_mono s h3
        cases k with
        | true => exact .inl h3
        | false => exact .inr h3
  unfold maxLD at e
  split at e
  · exact fin rfl rfl e
  · exact fin rfl rfl e
  · cases e
theorem pd_maxL (hc : X.calm = true) (hm : X.mg "max" = none) (ha : PBA X [e] fs) (hg : Gl X "max" := by rfl) (he : starEach [e] X.env = (false, eval e X.env) :: starEach [] X.env := by rfl) :
    PD X (.Call (.Name "max" p) [e] [] pos) (eBi maxLD fs) := pd_biB (cr_maxA hc) maxLD_ok hm ha (by decide +kernel) hg (by decide) (by decide) he (by rfl)
end
end PD
end
section
set_option Elab.async false
set_option linter.all false
set_option maxRecDepth 100000
set_option maxHeartbeats 4000000
set_option autoImplicit false
namespace PD
open PySem PySem.Spec L2
open PyProof.Rows hiding St
variable [Live]
/-! ### str(x), x an int or a text -/
section
variable {X : Cx} {e : Expr} {f : E} {p pos : Pos}
end
end PD
end
section
set_option Elab.async false
set_option linter.all false
set_option maxRecDepth 100000
set_option maxHeartbeats 4000000
set_option autoImplicit false
namespace PD
open PySem PySem.Spec L2 PySem.Calls
open PyProof.Rows hiding St
variable [Live]
/-! ### new lists: a + b, sorted(a set) -/
def catL2 (x y : D) : Option (List D) := match x, y with
  | .lst xs, .lst ys => if xs.length + ys.length ≤ sizeLine then some (xs ++ ys) else none
  | _, _ => none
def aAdd (a b : E) : EA := fun ρ => mb (a ρ) fun x => mb (b ρ) fun y => ml (catL2 x y)
@[simp] theorem aAdd_ap (a b : E) (ρ : Rho) (g : G) : aAdd a b ρ g = (a ρ g).bind fun p => (b ρ p.2).bind fun q => (catL2 p.1 q.1).map fun d => (d, q.2) := by simp [aAdd]
section
variable {X : Cx} {a b : Expr} {fa fb : E} {pos p : Pos}
end
/-! ### x.insert(i, e) of a list of one's own -/
def insD2 (l : List D) (i d : D) : Option (List D) := match i with
  | .int k => if l.length < sizeLine ∧ 0 ≤ k ∧ k < 2 ^ 63 then some (l.take k.toNat ++ [d] ++ l.drop k.toNat) else none
  | _ => none
def sInsert (i : Nat) (a f : E) : S := fun ρ => mb (a ρ) fun x => mb (f ρ) fun d => ml ((olAt ρ i).bind fun l => (insD2 l x d).map fun l' => Fl.nx (ρ.set i (some (.ol l'))))
@[simp] theorem sInsert_ap (i : Nat) (a f : E) {ρ : Rho} {g : G} : sInsert i a f ρ g = (a ρ g).bind fun p => (f ρ p.2).bind fun q => ((olAt ρ i).bind fun l => (insD2 l p.1 q.1).map fun l' => Fl.nx (ρ.set i (some (.ol l')))).map fun fl => (fl, q.2) := by simp [sInsert]
section
variable {X : Cx} {a e : Expr} {fa f : E} {x : Str} {p ap cp pos : Pos}
theorem pds_insert (i : Nat) (ha : PD X a fa) (h : PD X e f) (hN : X.N[i]? = some x := by rfl) (hv : Vis X.env.scope x := by first | exact Or.inl rfl | exact Or.inr (Or.inl rfl) | exact Or.inr (Or.inr rfl))
    (hd : (x == ("__debug__" : Str)) = false := by decide) (hcd : (x == ("__classdict__" : Str)) = false := by decide)
    (hbase : attributeBase (.Name x p) "insert" X.env (eval (.Name x p) X.env) = eval (.Name x p) X.env := by rfl)
    (hfew : ((backTo cp (starEach [a, e] X.env)).all (fun x => !x.1) && (backToKw cp (keywordEach [] X.env)).all (fun x => x.1.isSome)
      && decide ([a, e].length + ([] : List Keyword).length + (if ([] : List Keyword).isEmpty then 0 else 1) < 30)) = true := by rfl)
    (hline : (ap.endLine == cp.line) = true := by rfl) (hs : starEach [a, e] X.env = (false, eval a X.env) :: starEach [e] X.env := by rfl) (hs2 : starEach [e] X.env = (false, eval e X.env) :: starEach [] X.env := by rfl)
    (hpl : (backTo cp (starEach [e] X.env)).any (·.1) = false := by rfl)
    (hsw : swapsWith (.Call (.Attribute (.Name x p) "insert" ap) [a, e] [] cp) none pos.line X.env = pure false := by rfl) :
    PDS X (.Expr (.Call (.Attribute (.Name x p) "insert" ap) [a, e] [] cp) pos) (sInsert i fa f) := by
  obtain ⟨ta, pa, ka⟩ := ha
  obtain ⟨t, ht, k⟩ := h
  refine ⟨_, ps_expr (pe_bm PySem.F.plainAttrs_list PySem.F.slot_list_insert PySem.F.type_list_insert mt_insert (pe_var hN hv hd hcd) (pa_cons pa (pa_cons ht pa_nil hs2) hs) hbase hfew hline hs hpl) hsw, fun en σ H F ρ g pre fl g' ev De post => ?_⟩
  obtain ⟨dx, g1, e1, ev⟩ := mb_inv ev
  obtain ⟨d, g2, e2, ev⟩ := mb_inv ev
  obtain ⟨ev2, rfl⟩ := ml_inv ev
  obtain ⟨l, hl0, ev3⟩ := Option.bind_eq_some_iff.mp ev2
  obtain ⟨l', hl', rfl⟩ := Option.map_eq_some_iff.mp ev3
  have hl := olAt_inv hl0
  cases dx with
  | int kk =>
    have hl2 : (if l.length < sizeLine ∧ 0 ≤ kk ∧ kk < 2 ^ 63 then some (l.take kk.toNat ++ [d] ++ l.drop kk.toNat) else none) = some l' := hl'
    split at hl2
    · rename_i hz
      cases hl2
      obtain ⟨hz, k0, k1⟩ := hz
      obtain ⟨q, vs, h1, h2, h3, h4, h5, h6⟩ := ol_inv pre.e hl
      refine ⟨_, h1, .inl ⟨rfl, vs, .of h4⟩, ka σ H F ρ g pre.e _ g1 e1 _ fun x1 H1 F1 s1 r1 => k σ H1 F1 ρ g1 (pre.e.step s1) d _ e2 _ fun v H2 F2 s2 r2 => ?_⟩
      have s := s1.trans s2
      have pre1 := pre.step s
      have h4' : H2 q = some (.lst vs) := s.same _ _ h3 h4
      have hlen : vs.length = l.length := h6.length
      have h6' := h6.mono s.ext
      rw [rp_int r1]
      refine ⟨q, vs, kk, v, rfl, rfl, h4', by omega, k0, k1, post σ _ F2 (pre1.mut hl rfl h1 rfl (s.keepN h2 h4) (s.keepM h3 h4) ⟨q, vs.take kk.toNat ++ [v] ++ vs.drop kk.toNat, rfl, s.keepN h2 h4, s.keepM h3 h4, upd_same, ?_, ((h6'.take _).append (.cons r2 .nil)).append (h6'.drop _)⟩)⟩
      rw [List.length_append, List.length_append, List.length_take, List.length_drop]
      simp only [List.length_cons, List.length_nil]
      omega
    · cases hl2
  | _ => cases hl'
end
/-! ### list(range(a, b)) -/
def fromTo (a b : Int) : List Int := (List.range (b - a).toNat).map fun (i : Nat) => a + (i : Int)
def upD2 (x y : D) : Option (List D) := match x, y with
  | .int a, .int b => if 0 ≤ a ∧ a ≤ 16777216 ∧ 0 ≤ b ∧ b ≤ 16777216 then some ((fromTo a b).map .int) else none
  | _, _ => none
def aLstRg2 (a b : E) : EA := fun ρ => mb (a ρ) fun x => mb (b ρ) fun y => ml (upD2 x y)
@[simp] theorem aLstRg2_ap (a b : E) (ρ : Rho) (g : G) : aLstRg2 a b ρ g = (a ρ g).bind fun p => (b ρ p.2).bind fun q => (upD2 p.1 q.1).map fun d => (d, q.2) := by simp [aLstRg2]
section
variable {X : Cx} {a b : Expr} {fa fb : E} {p q zp pos : Pos}
end
/-! ### a def that calls itself: never deeper than said -/
end PD
end
section
set_option Elab.async false
set_option linter.all false
set_option maxRecDepth 100000
set_option maxHeartbeats 4000000
set_option autoImplicit false
/-! Pd108: e.replace(y, z) of written texts, in a list whose first item draws a token. -/
namespace PD
open PySem PySem.Spec L2
open PyProof.Rows hiding St
variable [Live]
section
variable {X : Cx}
/-- behind it a token is out -/
def PEO (X : Cx) (e : Expr) (t : TE) : Prop :=
  ∀ (pins : List (Addr × Obj)) (s : Shared) (σ : St) (H : Hp) (Q : VK), Inv X pins σ H s → t σ H Q → wpAny (model X.prog X.w) X.A (eval e X.env) (fun v s' => 1 ≤ s'.toks ∧ EP X pins σ Q v s') X.xe s
/-- a op 'text' -/
theorem peo_opR {op : Operator} {r : R2} {a : Expr} {ta : TE} {x : Str} {j : Nat} {cpos pos : Pos} (ho : OpR X (binaryOp op) r) (ha : PE X a ta) : PEO X (.BinOp a op (.Constant (.str x) j cpos) pos) (tOp r ta (tC (.str x))) := by
  intro pins s σ H Q I h
  refine wpAny_BinOp ?_
  refine thn (ha.run pins s σ H _ I h) fun v s1 ⟨xv, H1, I1, r1, q1⟩ => Calls.Constant_str ?_
  refine wpAny_mono (PySem.wpAny_toks_of (n := 1) (show 1 ≤ s1.toks + 1 by omega) (ho pins { s1 with toks := s1.toks + 1 } σ H1 xv (.str x) v (.str x s1.toks) Q (I1.tok _) r1 ⟨s1.toks, rfl⟩ q1)) (fun _ _ z => z) fun _ _ z => z.2
theorem pe_lstO {e : Expr} {es : List Expr} {te : TE} {ta : TA} {pos : Pos} (h1 : PEO X e te) (h2 : PAT X es ta) (hs : starEach (e :: es) X.env = (false, eval e X.env) :: starEach es X.env := by rfl) : PE X (.List (e :: es) pos) (tLst (tCons te ta)) := by
  refine ⟨fun pins s σ H Q I hq => ?_⟩
  refine wpAny_List_spliced ?_
  rw [hs]
  show wpAny _ _ (spliced ((false, eval e X.env) :: backTo pos (starEach es X.env))) _ _ s
  refine Calls.spliced_cons (wpAny_mono (h1 pins s σ H _ I hq) (fun v s1 q => ?_) fun _ _ z => z)
  obtain ⟨hk, x, H1, I1, r1, q1⟩ := q
  refine thn (h2 pos pins s1 σ H1 _ hk I1 q1) fun us s2 ⟨xs, H2, I2, r, z, q⟩ => ?_
  have rr : Vals (x :: xs) (v :: us) := .cons r1 r
  refine ⟨by rw [← rr.length]; exact z, ?_⟩
  have hf : H2 s2.heap.objs.size = none := I2.hok.fresh (Nat.le_refl _)
  refine ⟨.ref s2.heap.objs.size, upd H2 s2.heap.objs.size (.lst (x :: xs)), I2.laid (t' := s2.toks) (fun b u e => Heap.get?_push_of_some _ e) (Nat.le_refl _) ?_, rfl, q _ hf⟩
  exact ⟨z, v :: us, 0, rr, Heap.get?_push_size _ rfl⟩
def tRepl (y z : Str) (te : TE) : TE := fun σ H Q => te σ H fun v H1 => ∃ x, v = .str x ∧ x.length + (x.length + 1) * z.length ≤ 16777216 ∧ Q (.str (Txt.replace x y z)) H1
theorem pet_repl {e : Expr} {te : TE} {y z : Str} {j0 j1 : Nat} {c0 c1 apos pos : Pos} (he : PE X e te) (hyz : (y == z) = false)
    (hst : starEach [.Constant (.str y) j0 c0, .Constant (.str z) j1 c1] X.env = [(false, eval (.Constant (.str y) j0 c0) X.env), (false, eval (.Constant (.str z) j1 c1) X.env)] := by rfl)
    (hbase : attributeBase e "replace" X.env (eval e X.env) = eval e X.env := by rfl) (hline : (apos.endLine == pos.line) = true := by rfl) :
    PET X (.Call (.Attribute e "replace" apos) [.Constant (.str y) j0 c0, .Constant (.str z) j1 c1] [] pos) (tRepl y z te) := by
  intro pins s σ H Q h0 I h
  refine PySem.Call_method2 hbase hst hline (wpAny_mono (PySem.wpAny_toks (he.run pins s σ H _ I h)) (fun v s1 q => ?_) fun _ _ z => z.2)
  obtain ⟨hk, xv, H1, I1, r1, x, ex, hb, q⟩ := q
  subst ex
  obtain ⟨tx, ev⟩ := r1
  subst ev
  refine ⟨"str", _, F.plainAttrs_str, F.slot_str_replace, F.type_str_replace, typeIs_str _ _ _, (fun _ e => nomatch e), Calls.callWith_builtin rfl (Calls.evalArgs_plain (Calls.spliced_cons (Calls.Constant_str ?_)))⟩
  refine Calls.spliced_cons (Calls.Constant_str (Calls.spliced_nil ?_))
  exact PySem.SC.replace (show s1.toks ≠ 0 by omega) (show s1.toks + 1 ≠ 0 by omega) (show s1.toks ≠ s1.toks + 1 by omega) hyz hb fun t' k => ⟨.str (Txt.replace x y z), H1, I1.tok k, ⟨t', rfl⟩, q⟩
/-! #### by data -/
def PDO (X : Cx) (e : Expr) (f : E) : Prop := ∃ t, PEO X e t ∧ ∀ σ H F ρ g, PreE X.K F H g ρ σ → ∀ d g', f ρ g = some (d, g') → ∀ Q : VK, (∀ v H' F', Stp X.K g g' F F' H H' → Rp X.K F' v d → Q v H') → t σ H Q
def PDZ (X : Cx) (e : Expr) (f : E) : Prop := ∃ t, PET X e t ∧ ∀ σ H F ρ g, PreE X.K F H g ρ σ → ∀ d g', f ρ g = some (d, g') → ∀ Q : VK, (∀ v H' F', Stp X.K g g' F F' H H' → Rp X.K F' v d → Q v H') → t σ H Q
def PDAZ (X : Cx) (es : List Expr) (f : EA) : Prop := ∃ t, PAT X es t ∧ ∀ σ H F ρ g, PreE X.K F H g ρ σ → ∀ ds g', f ρ g = some (ds, g') → ∀ Q : List V → Hp → Prop, (∀ vs H' F', Stp X.K g g' F F' H H' → RpA X.K F' vs ds → Q vs H') → t σ H Q
theorem pdz_of {e : Expr} {f : E} (h : PD X e f) : PDZ X e f := by
  obtain ⟨t, p, k⟩ := h
  exact ⟨t, fun pins s σ H Q _ I q => p.run pins s σ H Q I q, k⟩
theorem pdaz_nil : PDAZ X [] aNil := ⟨_, pat_nil, fun σ H F ρ g pre d g' e Q q => by
  obtain ⟨rfl, rfl⟩ := mr_inv e
  exact q _ H F pre.refl .nil⟩
theorem pdaz_cons {e : Expr} {es : List Expr} {f : E} {fs : EA} (h : PDZ X e f) (hr : PDAZ X es fs) (hs : starEach (e :: es) X.env = (false, eval e X.env) :: starEach es X.env := by rfl) : PDAZ X (e :: es) (aCons f fs) := by
  obtain ⟨t, ht, k⟩ := h
  obtain ⟨t2, ht2, k2⟩ := hr
  refine ⟨_, pat_cons ht ht2 hs, fun σ H F ρ g pre d g' e Q q => ?_⟩
  obtain ⟨x, g1, e1, e⟩ := mb_inv e
  obtain ⟨xs, g2, e2, e⟩ := mb_inv e
  obtain ⟨rfl, rfl⟩ := mr_inv e
  refine k σ H F ρ g pre x g1 e1 _ fun v H1 F1 s1 r1 => ?_
  exact k2 σ H1 F1 ρ g1 (pre.step s1) xs _ e2 _ fun vs H2 F2 s2 r2 => q _ H2 F2 (s1.trans s2) (.cons (r1.mono s2.ext) r2)
theorem pdo_opR {op : Operator} {r : R2} {h : D → D → Option D} {a : Expr} {fa : E} {x : Str} {j : Nat} {cpos pos : Pos} (ho : OpR X (binaryOp op) r) (hh : OpD X.K r h) (ha : PD X a fa) (hx : sOk x = true := by decide +kernel) :
    PDO X (.BinOp a op (.Constant (.str x) j cpos) pos) (eOp h fa (eC (.str x))) := by
  obtain ⟨ta, pa, ka⟩ := ha
  refine ⟨_, peo_opR ho pa, fun σ H F ρ g pre d g' e Q q => ?_⟩
  obtain ⟨dx, g1, e1, e⟩ := mb_inv e
  obtain ⟨dy, g2, e2, e⟩ := mb_inv e
  obtain ⟨e3, rfl⟩ := ml_inv e
  obtain ⟨rfl, rfl⟩ := mr_inv e2
  refine ka σ H F ρ g pre dx _ e1 _ fun x1 H1 F1 s1 r1 => ?_
  exact hh F1 H1 _ x1 _ dx _ d s1.sub s1.rep r1 (.str x hx) e3 Q fun v H3 F3 s3 r3 => q v H3 F3 (s1.trans s3) r3
theorem pd_lstO {e : Expr} {es : List Expr} {f : E} {fs : EA} {pos : Pos} (h : PDO X e f) (hr : PDAZ X es fs) (hs : starEach (e :: es) X.env = (false, eval e X.env) :: starEach es X.env := by rfl) : PD X (.List (e :: es) pos) (eLst (aCons f fs)) := by
  obtain ⟨t, ht, k1⟩ := h
  obtain ⟨t2, ht2, k2⟩ := hr
  refine ⟨_, pe_lstO ht ht2 hs, fun σ H F ρ g pre d g' e Q q => ?_⟩
  obtain ⟨xs, g1, e1, e⟩ := mb_inv e
  obtain ⟨e2, rfl⟩ := ml_inv e
  obtain ⟨hz, rfl⟩ := szD_inv e2
  obtain ⟨x, g2, e3, e1⟩ := mb_inv e1
  obtain ⟨ys, g3, e4, e1⟩ := mb_inv e1
  obtain ⟨rfl, rfl⟩ := mr_inv e1
  refine k1 σ H F ρ g pre x g2 e3 _ fun v H1 F1 s1 r1 => ?_
  refine k2 σ H1 F1 ρ g2 (pre.step s1) ys _ e4 _ fun vs H2 F2 s2 r2 => ?_
  have rr : RpA X.K F2 (v :: vs) (x :: ys) := .cons (r1.mono s2.ext) r2
  refine ⟨by rw [rr.length]; exact hz, fun p hp => ?_⟩
  exact q _ _ _ ((s1.trans s2).trans (.alloc s2.sub s2.rep hp)) (rp_new_lst (s2.sub.free hp) hz rr)
def replD (y z : Str) : D → Option D
  | .str x => if x.length + (x.length + 1) * z.length ≤ 16777216 ∧ sOk (Txt.replace x y z) = true then some (.str (Txt.replace x y z)) else none
  | _ => none
def eRepl (y z : Str) (f : E) : E := fun ρ => mb (f ρ) fun d => ml (replD y z d)
@[simp] theorem eRepl_ap (y z : Str) (f : E) (ρ : Rho) (g : G) : eRepl y z f ρ g = (f ρ g).bind fun p => (replD y z p.1).map fun d => (d, p.2) := by
  refine (mb_ap _ _ _).trans ?_
  congr 1
  funext p
  exact ml_ap _ _
theorem pdz_repl {e : Expr} {f : E} {y z : Str} {j0 j1 : Nat} {c0 c1 apos pos : Pos} (he : PD X e f) (hyz : (y == z) = false := by decide +kernel)
    (hst : starEach [.Constant (.str y) j0 c0, .Constant (.str z) j1 c1] X.env = [(false, eval (.Constant (.str y) j0 c0) X.env), (false, eval (.Constant (.str z) j1 c1) X.env)] := by rfl)
    (hbase : attributeBase e "replace" X.env (eval e X.env) = eval e X.env := by rfl) (hline : (apos.endLine == pos.line) = true := by rfl) :
    PDZ X (.Call (.Attribute e "replace" apos) [.Constant (.str y) j0 c0, .Constant (.str z) j1 c1] [] pos) (eRepl y z f) := by
  obtain ⟨t, p, k⟩ := he
  refine ⟨_, pet_repl p hyz hst hbase hline, fun σ H F ρ g pre d g' ev Q q => ?_⟩
  obtain ⟨dx, g1, e1, ev⟩ := mb_inv ev
  obtain ⟨e3, rfl⟩ := ml_inv ev
  refine k σ H F ρ g pre dx _ e1 _ fun v H1 F1 s1 r1 => ?_
  match dx, e3, r1 with
  | .str x, e3, r1 =>
    have e3 : (if x.length + (x.length + 1) * z.length ≤ 16777216 ∧ sOk (Txt.replace x y z) = true then some (D.str (Txt.replace x y z)) else none) = some d := e3
    by_cases hz : x.length + (x.length + 1) * z.length ≤ 16777216 ∧ sOk (Txt.replace x y z) = true
    · rw [if_pos hz] at e3
      cases e3
      obtain ⟨rfl, _⟩ := rp_str r1
      exact ⟨x, rfl, hz.1, q _ H1 F1 s1 (.str _ hz.2)⟩
    · rw [if_neg hz] at e3
      cases e3
end
end PD
end
section
set_option Elab.async false
set_option linter.all false
set_option maxRecDepth 100000
set_option maxHeartbeats 4000000
set_option autoImplicit false
/-! Pd109: x.pop(e) of a list of one's own, its value dropped. -/
namespace PD
open PySem PySem.Spec L2
open PyProof.Rows hiding St
variable [Live]
def popL2 (l : List D) (i : D) : Option (List D) := match i with
  | .int k => (L2.ixN l.length k).map fun j => l.eraseIdx j
  | _ => none
def sPopL (i : Nat) (f : E) : S := fun ρ => mb (f ρ) fun d => ml ((olAt ρ i).bind fun l => (popL2 l d).map fun l' => Fl.nx (ρ.set i (some (.ol l'))))
@[simp] theorem sPopL_ap (i : Nat) (f : E) {ρ : Rho} {g : G} : sPopL i f ρ g = (f ρ g).bind fun p => ((olAt ρ i).bind fun l => (popL2 l p.1).map fun l' => Fl.nx (ρ.set i (some (.ol l')))).map fun fl => (fl, p.2) := by simp [sPopL]
section
variable {X : Cx} {e : Expr} {f : E} {x : Str} {p ap cp pos : Pos}
theorem pds_popL (i : Nat) (h : PD X e f) (hN : X.N[i]? = some x := by rfl) (hv : Vis X.env.scope x := by first | exact Or.inl rfl | exact Or.inr (Or.inl rfl) | exact Or.inr (Or.inr rfl))
    (hd : (x == ("__debug__" : Str)) = false := by decide) (hcd : (x == ("__classdict__" : Str)) = false := by decide)
    (hbase : attributeBase (.Name x p) "pop" X.env (eval (.Name x p) X.env) = eval (.Name x p) X.env := by rfl)
    (hfew : ((backTo cp (starEach [e] X.env)).all (fun x => !x.1) && (backToKw cp (keywordEach [] X.env)).all (fun x => x.1.isSome)
      && decide ([e].length + ([] : List Keyword).length + (if ([] : List Keyword).isEmpty then 0 else 1) < 30)) = true := by rfl)
    (hline : (ap.endLine == cp.line) = true := by rfl) (hs : starEach [e] X.env = (false, eval e X.env) :: starEach [] X.env := by rfl)
    (hsw : swapsWith (.Call (.Attribute (.Name x p) "pop" ap) [e] [] cp) none pos.line X.env = pure false := by rfl) :
    PDS X (.Expr (.Call (.Attribute (.Name x p) "pop" ap) [e] [] cp) pos) (sPopL i f) := by
  obtain ⟨t, ht, k⟩ := h
  refine ⟨_, ps_expr (pe_bm PySem.F.plainAttrs_list PySem.F.slot_list_pop PySem.F.type_list_pop mt_popAt (pe_var hN hv hd hcd) (pa_cons ht pa_nil hs) hbase hfew hline hs (by rfl)) hsw, fun en σ H F ρ g pre fl g' ev De post => ?_⟩
  obtain ⟨d, g1, e1, ev⟩ := mb_inv ev
  obtain ⟨ev2, rfl⟩ := ml_inv ev
  obtain ⟨l, hl0, ev3⟩ := Option.bind_eq_some_iff.mp ev2
  obtain ⟨l', hl', rfl⟩ := Option.map_eq_some_iff.mp ev3
  have hl := olAt_inv hl0
  cases d with
  | int kk =>
    obtain ⟨j, hj, rfl⟩ := Option.map_eq_some_iff.mp (show (L2.ixN l.length kk).map (fun j => l.eraseIdx j) = some l' from hl')
    obtain ⟨q, vs, h1, h2, h3, h4, h5, h6⟩ := ol_inv pre.e hl
    refine ⟨_, h1, .inl ⟨rfl, vs, .of h4⟩, k σ H F ρ g pre.e _ _ e1 _ fun w H1 F1 s r1 => ?_⟩
    have pre1 := pre.step s
    have h4' : H1 q = some (.lst vs) := s.same _ _ h3 h4
    have hlen : vs.length = l.length := h6.length
    have h6' := h6.mono s.ext
    have sz := sizeLine_eq
    obtain ⟨q1, q2, q3, q4⟩ := ixN_seq hj
    have hjl : j < l.length := by first | exact q2 | omega
    obtain ⟨u, hu1, hu2⟩ := h6'.get (List.getElem?_eq_getElem hjl)
    refine ⟨q, vs, kk, j, u, rfl, by rw [rp_int r1], h4', by omega, by omega, by rw [hlen]; exact q1, hu1, post σ _ F1 (pre1.mut hl rfl h1 rfl (s.keepN h2 h4) (s.keepM h3 h4) ⟨q, vs.eraseIdx j, rfl, s.keepN h2 h4, s.keepM h3 h4, upd_same, ?_, h6'.eraseIdx j⟩)⟩
    have := List.length_eraseIdx_le vs j
    omega
  | _ => cases hl'
end
end PD
end
section
set_option Elab.async false
set_option linter.all false
set_option maxRecDepth 100000
set_option maxHeartbeats 4000000
set_option autoImplicit false
/-! Pd110: calls that may raise, inside: tuple(f(..)), [.. for x in f(..)], a, b = f(..), a, b = [f(..)], e. -/
namespace PD
open PySem PySem.Spec L2 PySem.W PySem.Calls
open PyProof.Rows hiding St
variable [Live]
/-- its value, where it doesn't raise -/
def fOk (c : CM) : E := fun ρ g => (c ρ g).bind fun p => match p.1 with
  | .ok d => some (d, p.2)
  | .xc _ _ _ => none
theorem fOk_ok {c : CM} {ρ : Rho} {g g' : G} {d : D} (h : c ρ g = some (.ok d, g')) : fOk c ρ g = some (d, g') := by
  unfold fOk
  rw [h]
  rfl
theorem fOk_inv {c : CM} {ρ : Rho} {g g' : G} {d : D} (h : fOk c ρ g = some (d, g')) : c ρ g = some (.ok d, g') := by
  unfold fOk at h
  obtain ⟨⟨r, g1⟩, e1, e2⟩ := Option.bind_eq_some_iff.mp h
  cases r with
  | ok d1 => cases e2; exact e1
  | xc nm f d1 => cases e2
/-- a raising part first: h of its value, or its exception -/
def cTh (c : CM) (f : E) : CM := fun ρ g => (c ρ g).bind fun p => match p.1 with
  | .ok _ => (f ρ g).map fun q => (.ok q.1, q.2)
  | .xc nm fl d => some (.xc nm fl d, p.2)
theorem cTh_ok {c : CM} {f : E} {ρ : Rho} {g g1 : G} {d : D} (h : c ρ g = some (.ok d, g1)) : cTh c f ρ g = (f ρ g).map fun q => (.ok q.1, q.2) := by
  unfold cTh
  rw [h]
  rfl
theorem cTh_xc {c : CM} {f : E} {ρ : Rho} {g g1 : G} {nm fl : Str} {d : D} (h : c ρ g = some (.xc nm fl d, g1)) : cTh c f ρ g = some (.xc nm fl d, g1) := by
  unfold cTh
  rw [h]
  rfl
/-- what a part's reading gives where it raises -/
def XcSem (X : Cx) (t : TE) (c : CM) : Prop := ∀ σ H F ρ g, PreE X.K F H g ρ σ → ∀ nm fl d g', c ρ g = some (.xc nm fl d, g') → ∀ Q : VK, RxPost X.K g g' F H Q (WE (Wx X) σ) (.xc nm fl d) → t σ H Q
theorem px_th {X : Cx} {e : Expr} {c : CM} {f : E} {t : TE} (p : PE X e t) (h1 : XcSem X t c)
    (h2 : ∀ σ H F ρ g, PreE X.K F H g ρ σ → ∀ d g', f ρ g = some (d, g') → ∀ Q : VK, (∀ v H' F', Stp X.K g g' F F' H H' → Rp X.K F' v d → Q v H') → t σ H Q) : PX X e (cTh c f) := by
  refine ⟨t, p, fun σ H F ρ g pre r g' ev Q q => ?_⟩
  unfold cTh at ev
  obtain ⟨⟨r1, g1⟩, e1, ev⟩ := Option.bind_eq_some_iff.mp ev
  cases r1 with
  | ok d0 =>
    obtain ⟨⟨d, g2⟩, e2, ev⟩ := Option.map_eq_some_iff.mp ev
    cases ev
    exact h2 σ H F ρ g pre d _ e2 Q q
  | xc nm fl d0 =>
    cases ev
    exact h1 σ H F ρ g pre nm fl d0 _ e1 Q q
theorem RxPost.xcQ {K : PySem.W.Frag} {g g' : G} {F : Fz} {H : Hp} {Q Q' : VK} {E : XK} {nm fl : Str} {d : D} (q : RxPost K g g' F H Q E (.xc nm fl d)) : RxPost K g g' F H Q' E (.xc nm fl d) := q
section
variable {X : Cx} {e : Expr} {c : CM} {p pos : Pos}
theorem px_tuple (hm : X.mg "tuple" = none) (ha : PX X e c) (hg : Gl X "tuple" := by rfl) (he : starEach [e] X.env = (false, eval e X.env) :: starEach [] X.env := by rfl) : PX X (.Call (.Name "tuple" p) [e] [] pos) (cTh c (eBi tupleD (aCons (fOk c) aNil))) := by
  obtain ⟨t, ht, k⟩ := ha
  refine px_th (t := _) (pe_callTy call_tuple_of hg hm (by decide +kernel) (pa_cons ht pa_nil he) (by decide) (by decide) he (by rfl)) (fun σ H F ρ g pre nm fl d g' ev Q q => ?_) fun σ H F ρ g pre d g' ev Q q => ?_
  · exact k σ H F ρ g pre _ g' ev _ (RxPost.xcQ q)
  · obtain ⟨ds, g1, e1, ev⟩ := mb_inv ev
    obtain ⟨e2, rfl⟩ := ml_inv ev
    obtain ⟨x, g2, e3, e1⟩ := mb_inv e1
    obtain ⟨xs, g3, e4, e1⟩ := mb_inv e1
    obtain ⟨rfl, rfl⟩ := mr_inv e4
    obtain ⟨rfl, rfl⟩ := mr_inv e1
    refine k σ H F ρ g pre (.ok x) _ (fOk_inv e3) _ fun v H1 F1 s1 r1 => ?_
    exact tupleD_ok F1 H1 _ [v] [x] d s1.sub s1.rep (.cons r1 .nil) e2 Q fun v H2 F2 s2 r2 => q v H2 F2 (s1.trans s2) r2
/-! ### [.. for x in f(..)] -/
theorem pdi_ok {tg : Expr} (h : PX X e c) : ∃ wi, PI X tg e wi ∧ (∀ σ H F ρ g, PreE X.K F H g ρ σ → ∀ ds g', aItem (fOk c) ρ g = some (ds, g') → ∀ R : It → Hp → Prop, (∀ J H' F', Stp X.K g g' F F' H H' → ItS X.K J F'.h F' ds → R J H') → wi σ H R) ∧
    (∀ σ H F ρ g, PreE X.K F H g ρ σ → ∀ nm fl d g', c ρ g = some (.xc nm fl d, g') → ∀ (R : It → Hp → Prop) (Q : VK), RxPost X.K g g' F H Q (WE (Wx X) σ) (.xc nm fl d) → wi σ H R) := by
  obtain ⟨t, ht, k⟩ := h
  refine ⟨_, pi_or (pi_list ht) (pi_or (pi_tup ht) (pi_str ht)), fun σ H F ρ g pre ds g' ev R q => ?_, fun σ H F ρ g pre nm fl d g' ev R Q q => .inl (k σ H F ρ g pre _ g' ev _ (RxPost.xcQ q))⟩
  obtain ⟨d, g1, e1, ev⟩ := mb_inv ev
  obtain ⟨e2, rfl⟩ := ml_inv ev
  have e1 := fOk_inv e1
  match d, e2, e1 with
  | .tup l, e2, e1 =>
    have e2 := Option.some.inj e2
    subst e2
    refine .inr (.inl (k σ H F ρ g pre _ _ e1 _ fun v H1 F1 s1 r1 => ?_))
    obtain ⟨a, xs, rfl, h1, h2, h3⟩ := rp_tup r1
    exact ⟨a, rfl, ⟨xs, sqT_mono s1.sub h1⟩, q _ H1 F1 s1 (its_tup h1 h3)⟩
  | .lst l, e2, e1 =>
    have e2 := Option.some.inj e2
    subst e2
    refine .inl (k σ H F ρ g pre _ _ e1 _ fun v H1 F1 s1 r1 => ?_)
    obtain ⟨a, xs, rfl, h1, h2, h3⟩ := rp_lst r1
    refine ⟨a, rfl, ⟨xs, sqL_mono s1.sub h1⟩, q _ H1 F1 s1 fun H2 s2 => ?_⟩
    refine ⟨fun i d e => ?_, fun i hi => ⟨xs, sqL_mono s2 h1, by rw [h3.length]; exact hi⟩⟩
    obtain ⟨v, h4, h5⟩ := h3.get e
    refine ⟨⟨xs, v, sqL_mono s2 h1, h4⟩, fun x H' ⟨y1, y2⟩ => .inl ⟨y1, ?_⟩⟩
    have y3 := y2 xs (sqL_mono s2 h1)
    rw [h4] at y3
    cases y3
    exact h5
  | .str x, e2, e1 =>
    have e2 := Option.some.inj e2
    subst e2
    refine .inr (.inr (k σ H F ρ g pre _ _ e1 _ fun v H1 F1 s1 r1 => ?_))
    obtain ⟨rfl, h⟩ := rp_str r1
    exact ⟨_, rfl, q _ H1 F1 s1 (its_str h)⟩
variable {elt tg iter : Expr} {ifs : List Expr} {scope : Scope} {bd : B} {t : T} {f : E} {sl : List Nat}
end
/-! ### statements -/
/-- a raising part first, then st -/
def sTh (c : CM) (st : S) : S := fun ρ g => (c ρ g).bind fun p => match p.1 with
  | .ok _ => st ρ g
  | .xc nm fl d => some (.xc nm fl d ρ, p.2)
theorem sTh_ok {c : CM} {st : S} {ρ : Rho} {g g1 : G} {d : D} (h : c ρ g = some (.ok d, g1)) : sTh c st ρ g = st ρ g := by
  unfold sTh
  rw [h]
  rfl
theorem sTh_xc {c : CM} {st : S} {ρ : Rho} {g g1 : G} {nm fl : Str} {d : D} (h : c ρ g = some (.xc nm fl d, g1)) : sTh c st ρ g = some (.xc nm fl d ρ, g1) := by
  unfold sTh
  rw [h]
  rfl
section
variable {X : Cx} {e : Expr} {c : CM} {p pos : Pos}
/-- a, b = f(..) -/
theorem pds_asgR {tg : Expr} {sl : List Nat} {bd : B} (h : PX X e c) (hg : PDG X tg sl bd) (hs : swapsWithSole [tg] e pos.line X.env = pure false := by rfl) (hw : swappedStores [tg] e X.env = pure none := by rfl)
    (h1 : (assignEach [tg] X.env).map (·.2) = [assign tg X.env] := by rfl) : PDS X (.Assign [tg] e pos) (sTh c (sAsg bd (fOk c))) := by
  obtain ⟨t, p, k⟩ := h
  obtain ⟨tg', pg, kg⟩ := hg
  refine ⟨_, ps_asg p pg hs hw h1, fun en σ H F ρ g pre fl g' ev De post => ?_⟩
  unfold sTh at ev
  obtain ⟨⟨r, g1⟩, e1, ev⟩ := Option.bind_eq_some_iff.mp ev
  cases r with
  | ok d0 =>
    obtain ⟨d, g2, e2, ev⟩ := mb_inv ev
    obtain ⟨e3, rfl⟩ := ml_inv ev
    obtain ⟨ρ', e4, rfl⟩ := Option.map_eq_some_iff.mp e3
    have e2 := fOk_inv e2
    refine k σ H F ρ g pre.e (.ok d) _ e2 _ fun v H1 F1 s1 r1 => ?_
    exact kg σ H1 F1 ρ _ v d ρ' (pre.e.step s1) r1 e4 _ fun σ' pre' o _ => post σ' H1 F1 ⟨pre', pre.st.trans s1, fun i q z => pre.fr i q (o i q z)⟩
  | xc nm f d =>
    cases ev
    exact k σ H F ρ g pre.e (.xc nm f d) _ e1 _ fun dd v H1 F1 s1 a b => post σ H1 F1 dd v (pre.step s1) a b
/-- a, b = [f(..)], e -/
theorem pds_par2L (i j : Nat) {x y : Str} {b : Expr} {f : E} {px py pt lpos : Pos} {kt k2 : Nat} {pt2 : Pos} (hc : X.calm = true) (hN : X.N.Nodup) (h : PX X e c) (hb : PD X b f) (hi : X.N[i]? = some x := by rfl) (hj : X.N[j]? = some y := by rfl) (hij : i ≠ j := by decide)
    (hx : X.env.scope.names.lookup x = some .local := by rfl) (hy : X.env.scope.names.lookup y = some .local := by rfl)
    (hw : swappedStores [.Tuple [.Name x px, .Name y py] kt pt] (.Tuple [.List [e] lpos, b] k2 pt2) X.env = pure (some [x, y]) := by rfl)
    (hs : swapsWithSole [.Tuple [.Name x px, .Name y py] kt pt] (.Tuple [.List [e] lpos, b] k2 pt2) pos.line X.env = pure false := by rfl)
    (he : starEach [e] X.env = (false, eval e X.env) :: starEach [] X.env := by rfl) (h1 : starEach [.List [e] lpos, b] X.env = (false, eval (.List [e] lpos) X.env) :: starEach [b] X.env := by rfl) (h2 : starEach [b] X.env = (false, eval b X.env) :: starEach [] X.env := by rfl) :
    PDS X (.Assign [.Tuple [.Name x px, .Name y py] kt pt] (.Tuple [.List [e] lpos, b] k2 pt2) pos) (sTh c (sParV [i, j] (vCons (vL (aSz (aCons (fOk c) aNil))) (vCons (vD f) vNil)))) := by
  obtain ⟨t, p, k⟩ := h
  obtain ⟨tb, pb, kb⟩ := hb
  refine ⟨_, ps_par hc hN hi hj hij hx hy (pa_cons (pe_lst (pa_cons p pa_nil he)) (pa_cons pb pa_nil h2) h1) hw hs, fun en σ H F ρ g pre fl g' ev De post => ?_⟩
  unfold sTh at ev
  obtain ⟨⟨r, g1⟩, e1, ev⟩ := Option.bind_eq_some_iff.mp ev
  cases r with
  | xc nm f d =>
    cases ev
    exact k σ H F ρ g pre.e (.xc nm f d) _ e1 _ fun dd v H1 F1 s1 a b => post σ H1 F1 dd v (pre.step s1) a b
  | ok d0 =>
    obtain ⟨lvs, g2, e2, ev⟩ := mb_inv ev
    split at ev
    · rename_i hl
      obtain ⟨rfl, rfl⟩ := mr_inv ev
      obtain ⟨lv1, g3, e3, e2⟩ := mb_inv e2
      obtain ⟨lvr, g4, e4, e2⟩ := mb_inv e2
      obtain ⟨rfl, rfl⟩ := mr_inv e2
      obtain ⟨l1, g5, e5, e3⟩ := mb_inv e3
      obtain ⟨rfl, rfl⟩ := mr_inv e3
      obtain ⟨l2, g6, e6, e5⟩ := mb_inv e5
      obtain ⟨dd, g7, e7, e6⟩ := mb_inv e6
      obtain ⟨z, g8, e8, e6⟩ := mb_inv e6
      obtain ⟨rfl, rfl⟩ := mr_inv e8
      obtain ⟨rfl, rfl⟩ := mr_inv e6
      split at e5
      · obtain ⟨rfl, rfl⟩ := mr_inv e5
        obtain ⟨lv2, g9, e9, e4⟩ := mb_inv e4
        obtain ⟨z2, g10, e10, e4⟩ := mb_inv e4
        obtain ⟨rfl, rfl⟩ := mr_inv e10
        obtain ⟨rfl, rfl⟩ := mr_inv e4
        obtain ⟨d2, g11, e11, e9⟩ := mb_inv e9
        obtain ⟨rfl, rfl⟩ := mr_inv e9
        have e7 := fOk_inv e7
        refine k σ H F ρ g pre.e (.ok dd) _ e7 _ fun v H1 F1 s1 r1 => ⟨by simp only [List.length_cons, List.length_nil]; rw [sizeLine_eq]; omega, fun q hq => ?_⟩
        have sA := s1.trans (Stp.allocO (o := .lst [v]) s1.sub s1.rep hq)
        refine kb σ _ F1 ρ _ (pre.e.step sA) d2 _ e11 _ fun w H2 F2 s2 r2 => ?_
        have la : LvA X.K F2 H2 g' H [V.ref q, w] [.ol [dd], .d d2] := by
          have ok1 : SlotOk X.K F1 (upd H1 q (.lst [v])) g3 (V.ref q) (.ol [dd]) := ⟨q, [v], rfl, s1.sub.free hq, s1.rep.out hq, upd_same, by simp only [List.length_cons, List.length_nil]; rw [sizeLine_eq]; omega, .cons r1 .nil⟩
          have ok2 := ok1.step s2
          exact .cons ok2 (fun _ p ep => by cases ep; exact s1.mono q hq) (fun o p ep => by cases ep; rw [upd_same]; simp) (fun a h => sA.mono a h) (.cons r2 (fun o => by cases o) (fun o => by cases o) (fun a h => s2.mono a h) .nil)
        have fin := par_sem pre (sA.trans s2) la [i, j]
        exact ⟨V.ref q, w, rfl, post _ H2 F2 fin⟩
      · cases e5
    · cases ev
end
section
variable {X : Cx} {c : CM} {pos : Pos} {elt tg iter : Expr} {ifs : List Expr} {scope : Scope} {bd : B} {t : T} {f : E} {sl : List Nat}
/-- y = [.. for .. in f(..)] -/
theorem pds_setLcR (i : Nat) {y : Str} {py lpos : Pos} (own : List (Str × Nat)) (hc : X.calm = true) (hN : X.N.Nodup) (hi : PX X iter c) (ok : BlkOk X.N X.env.scope scope own)
    (hg : ∀ (s : Shared) (H : Hp) (C : Addr) (cl : List (Str × Addr)) (fp : List Addr), PDG (X.blk s H scope (compEnvC scope cl C X.env) fp) tg sl bd)
    (ht : ∀ (s : Shared) (H : Hp) (C : Addr) (cl : List (Str × Addr)) (fp : List Addr), PDTs (X.blk s H scope (compEnvC scope cl C X.env) fp) ifs t)
    (he : ∀ (s : Shared) (H : Hp) (C : Addr) (cl : List (Str × Addr)) (fp : List Addr), PD (X.blk s H scope (compEnvC scope cl C X.env) fp) elt f)
    (hsw : swapsWith (.ListComp elt [⟨tg, iter, ifs, 0⟩] scope lpos) (some (.Name y py)) pos.line X.env = pure true)
    (hsl : ∀ i ∈ sl, i ∈ own.map (·.2) := by decide) (hs : ∀ x, foldedSetIterable iter X.env x = pure x := by intro _; rfl) (hy : X.N[i]? = some y := by rfl) (hyl : X.env.scope.names.lookup y = some .local := by rfl) :
    PDS X (.Assign [.Name y py] (.ListComp elt [⟨tg, iter, ifs, 0⟩] scope lpos) pos) (sTh c (sSet i (eO (eLcA (own.map (·.2)) (aItem (fOk c)) bd t f)))) := by
  obtain ⟨wi, hw, kI, kX⟩ := pdi_ok (tg := tg) hi
  refine ⟨_, ps_setLc (g := gB X.K sl bd) (tt := tTT X.K t) (te := tD X.K f) hc hN hy hyl hsw hw ok (fun s H C cl fp => (hg s H C cl fp).can) ht (fun s H C cl fp => (he s H C cl fp).can) hs, fun en σ H F ρ g pre fl g' ev De post => ?_⟩
  unfold sTh at ev
  obtain ⟨⟨r, g1⟩, e1, ev⟩ := Option.bind_eq_some_iff.mp ev
  cases r with
  | xc nm fl d =>
    cases ev
    exact kX σ H F ρ g pre.e nm fl d _ e1 _ (fun _ _ => True) fun dd v H1 F1 s1 a b => post σ H1 F1 dd v (pre.step s1) a b
  | ok d0 =>
    obtain ⟨d, g1, e1, ev⟩ := mb_inv ev
    obtain ⟨xs, g2, e2, e3⟩ := mb_inv e1
    obtain ⟨rfl, rfl⟩ := mr_inv e3
    obtain ⟨rfl, rfl⟩ := mr_inv ev
    exact lc_sem (fun σ H F ρ g pre ds g' e R q => kI σ H F ρ g pre ds g' e R fun J H' F' s i => q J H' F' s (i.weak s.offF.h)) hsl pre.e e2 (.frz fun v H1 F1 s1 r1 => post _ H1 F1 ((pre.step s1).set r1))
end
end PD
end
section
set_option Elab.async false
set_option linter.all false
set_option maxRecDepth 100000
set_option maxHeartbeats 4000000
set_option autoImplicit false
/-! Pd111: text * k, k from one on. -/
namespace PD
open PySem PySem.Spec L2
open PyProof.Rows hiding St
variable [Live]
def rMulS1 : R2 := fun x y H Q => ∃ a : Str, x = .str a ∧ y = .int 1 ∧ Q (.str a) H
theorem op_mulS1 {X : Cx} : OpR X (binaryOp .Mult) rMulS1 := by
  intro pins s σ H x y v u Q I rx ry h
  obtain ⟨a, rfl, rfl, q⟩ := h
  obtain ⟨t, rfl⟩ := rx
  obtain ⟨t2, rfl⟩ := ry
  refine PySem.P.mul_str (by decide) (fun _ h => ?_) (fun _ h => ?_) ?_
  · simp at h
  · simp at h
  · rw [if_neg (by decide), if_pos (by simp)]
    exact ⟨.str a, H, I, ⟨_, rfl⟩, q⟩
def mulS1D (x y : D) : Option D := match x, y with
  | .str a, .int n => if n = 1 then some (.str a) else mulSD (.str a) (.int n)
  | _, _ => none
theorem pd_mulS1 {X : Cx} {a b : Expr} {fa fb : E} {pos : Pos} (ha : PD X a fa) (hb : PD X b fb) : PD X (.BinOp a .Mult b pos) (eOp mulS1D fa fb) := by
  refine pd_op (op_mulS1.or op_repS) (fun F H g x y dx dy d s r rx ry e Q q => ?_) ha hb
  unfold mulS1D at e
  split at e
  · rename_i a n
    by_cases hn : n = 1
    · rw [if_pos hn] at e
      cases e
      subst hn
      obtain ⟨rfl, _⟩ := rp_str rx
      have := rp_int ry
      subst this
      exact .inl ⟨a, rfl, rfl, q _ H F (Stp.refl s r) rx⟩
    · rw [if_neg hn] at e
      unfold mulSD at e
      simp only at e
      split at e
      · rename_i hz
        cases e
        obtain ⟨rfl, _⟩ := rp_str rx
        have := rp_int ry
        subst this
        exact .inr ⟨_, _, rfl, rfl, hz.1, hz.2.1, hz.2.2.1, hz.2.2.2.1, q _ H F (Stp.refl s r) (.str _ hz.2.2.2.2)⟩
      · cases e
  · cases e
/-- a call that may raise, where it doesn't -/
theorem pd_fOk {X : Cx} {e : Expr} {c : CM} (h : PX X e c) : PD X e (fOk c) := by
  obtain ⟨t, p, k⟩ := h
  exact ⟨t, p, fun σ H F ρ g pre d g' ev Q q => k σ H F ρ g pre (.ok d) g' (fOk_inv ev) Q q⟩
end PD
end
section
set_option Elab.async false
set_option linter.all false
set_option maxRecDepth 100000
set_option maxHeartbeats 4000000
set_option autoImplicit false
namespace PD
open PySem PySem.Spec L2
open PyProof.Rows hiding St
variable [Live]
/-! ### the new forms, reckoned -/
section
variable {ρ : Rho} {g : G}
@[simp] theorem sAug_ap (i : Nat) (f : E) : sAug i f ρ g = (eVar i ρ g).bind fun p => (f ρ p.2).bind fun q => match p.1, q.1 with
    | .int a, .int b => some (.nx (setR ρ i (.int (a + b))), q.2)
    | _, _ => none := by
  unfold sAug
  rw [mb_ap]
  congr 1
  funext p
  rw [mb_ap]
  congr 1
  funext q
  cases p.1 <;> cases q.1 <;> rfl
@[simp] theorem eGet_ap (a b : E) : eGet a b ρ g = (a ρ g).bind fun p => (b ρ p.2).bind fun q => (getD1 p.1 q.1 .non).map fun d => (d, q.2) := by simp [eGet]
@[simp] theorem eGet2_ap (a b c : E) : eGet2 a b c ρ g = (a ρ g).bind fun p => (b ρ p.2).bind fun q => (c ρ q.2).bind fun r => (getD1 p.1 q.1 r.1).map fun d => (d, r.2) := by simp [eGet2]
@[simp] theorem eCallB_ap (F : List D → M D) (as : EA) : eCallB F as ρ g = (as ρ g).bind fun p => if noHA p.1 = true then (match F p.1 [] with
    | some (d, []) => some (d, p.2)
    | _ => none) else none := by
  unfold eCallB
  exact mb_ap _ _ _
@[simp] theorem eFl_ap (f : E) : eFl f ρ g = (f ρ g).bind fun p => if flatD p.1 = true then some p else none := by
  unfold eFl
  rw [mb_ap]
  congr 1
  funext p
  by_cases h : flatD p.1 = true
  · rw [if_pos h, if_pos h]; rfl
  · rw [if_neg h, if_neg h]; rfl
@[simp] theorem aCopy_ap (i : Nat) : aCopy i ρ g = (olAt ρ i).map fun l => (l, g) := by
  unfold aCopy
  exact ml_ap _ _
@[simp] theorem sStar_ap (n i : Nat) (bd : Bs) (f : E) : sStar n i bd f ρ g = (f ρ g).bind fun p => (match p.1 with
    | .tup l => (starD n i l).bind fun ds => (bd ds ρ).map Fl.nx
    | _ => none).map fun fl => (fl, p.2) := by
  unfold sStar
  rw [mb_ap]
  congr 1
  funext p
  exact ml_ap _ _
@[simp] theorem inG_ap (t : List (Str × Int)) (neg : Bool) (f : E) : inG t neg f ρ g = (f ρ g).bind fun p => match p.1 with
    | .str z => some (.bl (if neg = true then !(tblAt t z).isSome else (tblAt t z).isSome), p.2)
    | _ => none := by
  unfold inG
  rw [mb_ap]
  congr 1
  funext p
  cases p.1 <;> rfl
@[simp] theorem ixG_ap (t : List (Str × Int)) (f : E) : ixG t f ρ g = (f ρ g).bind fun p => match p.1 with
    | .str z => (tblAt t z).map fun i => (.int i, p.2)
    | _ => none := by
  unfold ixG
  rw [mb_ap]
  congr 1
  funext p
  cases p.1 <;> try rfl
  simp only [ml_ap, Option.map_map]
  rfl
@[simp] theorem qSet_ap (i : Nat) (f : E) : qSet i f ρ g = (f ρ g).map fun p => (setR ρ i p.1, p.2) := by
  refine (mb_ap _ _ _).trans ?_
  cases f ρ g <;> rfl
@[simp] theorem gFin_ap (a b : E) : gFin a b ρ g = (a ρ g).bind fun p => (b ρ p.2).map fun q => ((ρ, p.1, q.1), q.2) := by
  refine (mb_ap _ _ _).trans ?_
  congr 1
  funext p
  refine (mb_ap _ _ _).trans ?_
  cases b ρ p.2 <;> rfl
@[simp] theorem gSeq_ap (q : Rho → M Rho) (f : Rho → M (Rho × D × D)) : gSeq q f ρ g = (q ρ g).bind fun p => f p.1 p.2 := mb_ap _ _ _
@[simp] theorem sForG_ap (i : Nat) (it : EA) (bd : B) (b : Rho → M (Rho × D × D)) : sForG i it bd b ρ g = (it ρ g).bind fun p => if isOk0 ρ[i]? = true then (forG bd b p.1 (ρ.set i none) [] p.2).bind fun r => if r.1.2 = [] then none else some (.nx (setR r.1.1 i (dtG r.1.2)), r.2) else none := by
  unfold sForG
  rw [mb_ap]
  congr 1
  funext p
  by_cases h : isOk0 ρ[i]? = true
  · rw [if_pos h, if_pos h, mb_ap]
    congr 1
    funext r
    by_cases h2 : r.1.2 = []
    · rw [if_pos h2, if_pos h2]; rfl
    · rw [if_neg h2, if_neg h2]; rfl
  · rw [if_neg h, if_neg h]; rfl
end
end PD
end
section
set_option Elab.async false
set_option linter.all false
set_option maxRecDepth 100000
set_option maxHeartbeats 0
namespace L_k76
open PySem PySem.Spec PyProof.Rows L2
def top (i : Nat) : Stmt := PySem.Challenge.pw_whocan_k76_whole_texts_of_no_arena.main.body.getD i (.Pass ⟨0, 0, 0, 0⟩)
def d_is_whole : He.DefD := ⟨("is_whole", none), "is_whole", "is_whole", defArgs (top 10), defBody (top 10), defScope (top 10), [], []⟩
def d_is_of : He.DefD := ⟨("is_of", none), "is_of", "is_of", defArgs (top 11), defBody (top 11), defScope (top 11), [], []⟩
def d_is_name : He.DefD := ⟨("is_name", none), "is_name", "is_name", defArgs (top 12), defBody (top 12), defScope (top 12), [], []⟩
def d_is_rising : He.DefD := ⟨("is_rising", none), "is_rising", "is_rising", defArgs (top 13), defBody (top 13), defScope (top 13), [], []⟩
def d_number_in : He.DefD := ⟨("number_in", none), "number_in", "number_in", defArgs (top 14), defBody (top 14), defScope (top 14), [], []⟩
def d_rows_of : He.DefD := ⟨("rows_of", none), "rows_of", "rows_of", defArgs (top 15), defBody (top 15), defScope (top 15), [], []⟩
def d_words_at : He.DefD := ⟨("words_at", none), "words_at", "words_at", defArgs (top 22), defBody (top 22), defScope (top 22), [], []⟩
def d_numbers_at : He.DefD := ⟨("numbers_at", none), "numbers_at", "numbers_at", defArgs (top 23), defBody (top 23), defScope (top 23), [], []⟩
def d_place_at : He.DefD := ⟨("place_at", none), "place_at", "place_at", defArgs (top 24), defBody (top 24), defScope (top 24), [], []⟩
def d_arena_of : He.DefD := ⟨("arena_of", none), "arena_of", "arena_of", defArgs (top 25), defBody (top 25), defScope (top 25), [], []⟩
def d_need_nexts : He.DefD := ⟨("need_nexts", none), "need_nexts", "need_nexts", defArgs (top 26), defBody (top 26), defScope (top 26), [], []⟩
def d_all_rows : He.DefD := ⟨("all_rows", none), "all_rows", "all_rows", defArgs (top 27), defBody (top 27), defScope (top 27), [], []⟩
def d_arena_in : He.DefD := ⟨("arena_in", none), "arena_in", "arena_in", defArgs (top 28), defBody (top 28), defScope (top 28), [], []⟩
def d__law_begun : He.DefD := ⟨("_law_begun", none), "_law_begun", "_law_begun", defArgs (top 30), defBody (top 30), defScope (top 30), [], []⟩
def d__law_draw : He.DefD := ⟨("_law_draw", none), "_law_draw", "_law_draw", defArgs (top 31), defBody (top 31), defScope (top 31), [], []⟩
def d__law_names : He.DefD := ⟨("_law_names", none), "_law_names", "_law_names", defArgs (top 32), defBody (top 32), defScope (top 32), [], []⟩
def d__law_arena : He.DefD := ⟨("_law_arena", none), "_law_arena", "_law_arena", defArgs (top 33), defBody (top 33), defScope (top 33), [], []⟩
def d__law_lines : He.DefD := ⟨("_law_lines", none), "_law_lines", "_law_lines", defArgs (top 34), defBody (top 34), defScope (top 34), [], []⟩
def d__law_is_rising : He.DefD := ⟨("_law_is_rising", none), "_law_is_rising", "_law_is_rising", defArgs (top 35), defBody (top 35), defScope (top 35), [], []⟩
def d__law_is_name : He.DefD := ⟨("_law_is_name", none), "_law_is_name", "_law_is_name", defArgs (top 36), defBody (top 36), defScope (top 36), [], []⟩
def d__law_number : He.DefD := ⟨("_law_number", none), "_law_number", "_law_number", defArgs (top 37), defBody (top 37), defScope (top 37), [], []⟩
def d__law_rows : He.DefD := ⟨("_law_rows", none), "_law_rows", "_law_rows", defArgs (top 38), defBody (top 38), defScope (top 38), [], []⟩
def d__law_behind : He.DefD := ⟨("_law_behind", none), "_law_behind", "_law_behind", defArgs (top 39), defBody (top 39), defScope (top 39), [], []⟩
def d__law_numbers : He.DefD := ⟨("_law_numbers", none), "_law_numbers", "_law_numbers", defArgs (top 40), defBody (top 40), defScope (top 40), [], []⟩
def d__law_ground_told : He.DefD := ⟨("_law_ground_told", none), "_law_ground_told", "_law_ground_told", defArgs (top 41), defBody (top 41), defScope (top 41), [], []⟩
def d__law_late : He.DefD := ⟨("_law_late", none), "_law_late", "_law_late", defArgs (top 42), defBody (top 42), defScope (top 42), [], []⟩
def d__law_bent : He.DefD := ⟨("_law_bent", none), "_law_bent", "_law_bent", defArgs (top 43), defBody (top 43), defScope (top 43), [], []⟩
def d__law_error : He.DefD := ⟨("_law_error", none), "_law_error", "_law_error", defArgs (top 44), defBody (top 44), defScope (top 44), [], []⟩
def d__law_line : He.DefD := ⟨("_law_line", none), "_law_line", "_law_line", defArgs (top 45), defBody (top 45), defScope (top 45), [], []⟩
def d__law_read_right : He.DefD := ⟨("_law_read_right", none), "_law_read_right", "_law_read_right", defArgs (top 46), defBody (top 46), defScope (top 46), [], []⟩
def d__law_beyond : He.DefD := ⟨("_law_beyond", none), "_law_beyond", "_law_beyond", defArgs (top 47), defBody (top 47), defScope (top 47), [], []⟩
def d_law : He.DefD := ⟨("law", none), "law", "law", defArgs (top 48), defBody (top 48), defScope (top 48), [], []⟩
def ini (i : Nat) : Stmt := match top i with
  | .ClassDef _ _ _ b _ _ _ _ _ _ _ => b.getD 0 (.Pass ⟨0, 0, 0, 0⟩)
  | _ => .Pass ⟨0, 0, 0, 0⟩
def di_BadLine : He.DefD := ⟨("BadLine", some "__init__"), "__init__", "BadLine.__init__", defArgs (ini 4), defBody (ini 4), defScope (ini 4), [], []⟩
def xt : PD.XT := ⟨([("BadLine", "line", 0)] : List (PySem.Str × PySem.Str × Nat)), (["Refused", "Barred", "Beyond", "BadLine"] : List PySem.Str), [("ValueError", "ValueError")], ["Refused", "Barred", "Beyond"]⟩
def fn : List He.DefD := ([d_is_whole, d_is_of, d_is_name, d_is_rising, d_number_in, d_rows_of, d_words_at, d_numbers_at, d_place_at, d_arena_of, d_need_nexts, d_all_rows, d_arena_in, d__law_begun, d__law_draw, d__law_names, d__law_arena, d__law_lines] : List He.DefD) ++ ([d__law_is_rising, d__law_is_name, d__law_number, d__law_rows, d__law_behind, d__law_numbers, d__law_ground_told, d__law_late, d__law_bent, d__law_error, d__law_line, d__law_read_right, d__law_beyond, d_law, di_BadLine] : List He.DefD)
def fa : List He.Fa := ([.glo "is_whole", .glo "is_of", .glo "is_name", .glo "is_rising", .glo "number_in", .glo "rows_of", .glo "words_at", .glo "numbers_at", .glo "place_at", .glo "arena_of", .glo "need_nexts", .glo "all_rows", .glo "arena_in", .glo "_law_begun", .glo "_law_draw", .glo "_law_names", .glo "_law_arena", .glo "_law_lines"] : List He.Fa) ++ ([.glo "_law_is_rising", .glo "_law_is_name", .glo "_law_number", .glo "_law_rows", .glo "_law_behind", .glo "_law_numbers", .glo "_law_ground_told", .glo "_law_late", .glo "_law_bent", .glo "_law_error", .glo "_law_line", .glo "_law_read_right", .glo "_law_beyond", .glo "law", .free "ArithmeticError", .free "LookupError", .free "ValueError", .free "all"] : List He.Fa) ++ ([.free "bool", .free "enumerate", .free "int", .free "isinstance", .free "len", .free "list", .free "max", .free "range", .free "repr", .free "sorted", .free "str", .free "tuple", .free "zip", .str "SMALL" "abcdefghijklmnopqrstuvwxyz", .str "FIGURES" "0123456789", .int "LONGEST" 8, .int "MOST_FIGURES" 6, .int "MOST_PLAYERS" 4] : List He.Fa) ++ ([.int "MOST_PLACES" 10, .int "MOST_MARKS" 4, .int "MOST_MOVES" 3, .int "MOST_JOINTS" 36, .glo "Refused", .glo "Barred", .glo "Beyond", .glo "BadLine"] : List He.Fa)
abbrev R : PySem.W.OpenRow := PySem.W.OpenLaw.row PySem.Challenge.rw_whocan_k76_whole_texts_of_no_arena
def tabs : List PySem.Str := ["_law_read_right"]
abbrev hk : PySem.W.Hook := PD.hookT 5 fa fn xt tabs
def ob (s : PySem.W.SharedT) : He.AlD × Bool := PD.obT 5 fa fn xt tabs (HandSHeadRun.getT s)
theorem ob_eq (s : PySem.W.SharedT) : ob s = hk.obs s.abs := PD.obT_eq (HandSHeadRun.getT_eq s)
def loose : List PySem.Str := (["Refused", "Barred", "Beyond", "BadLine", "SMALL", "FIGURES", "LONGEST", "MOST_FIGURES", "is_whole", "is_of", "is_name", "is_rising", "number_in", "rows_of", "MOST_PLAYERS", "MOST_PLACES", "MOST_MARKS", "MOST_MOVES"] : List PySem.Str) ++ (["MOST_JOINTS", "words_at", "numbers_at", "place_at", "arena_of", "need_nexts", "all_rows", "arena_in", "_law_begun", "_law_draw", "_law_names", "_law_arena", "_law_lines", "_law_is_rising", "_law_is_name", "_law_number", "_law_rows", "_law_behind"] : List PySem.Str) ++ (["_law_numbers", "_law_ground_told", "_law_late", "_law_bent", "_law_error", "_law_line", "_law_read_right", "_law_beyond"] : List PySem.Str)
theorem run (w : World) : HandSHeadRun.RunEq R (PySem.W.view R.prog [48]) hk ob 6000 loose w := by
  intro os
  kernel_rfl
end L_k76
end
section
set_option Elab.async false
set_option linter.all false
set_option maxRecDepth 100000
set_option maxHeartbeats 0
set_option autoImplicit false
namespace L_k76
open PySem PySem.Spec L2 PD
open PyProof.Rows hiding St
structure Vn (K : PySem.W.Frag) (mg : Str → Option Value) (base : Heap) : Prop where
  kb : K.In base
  nb : base.Ns mainGlobals mg
  tb : TabsB K mg base tabs
  b_ArithmeticError : mg "ArithmeticError" = none
  b_LookupError : mg "LookupError" = none
  b_ValueError : mg "ValueError" = none
  b_all : mg "all" = none
  b_bool : mg "bool" = none
  b_enumerate : mg "enumerate" = none
  b_int : mg "int" = none
  b_isinstance : mg "isinstance" = none
  b_len : mg "len" = none
  b_list : mg "list" = none
  b_max : mg "max" = none
  b_range : mg "range" = none
  b_repr : mg "repr" = none
  b_sorted : mg "sorted" = none
  b_str : mg "str" = none
  b_tuple : mg "tuple" = none
  b_zip : mg "zip" = none
  c_SMALL : ∃ t, mg "SMALL" = some (.str "abcdefghijklmnopqrstuvwxyz" t)
  c_FIGURES : ∃ t, mg "FIGURES" = some (.str "0123456789" t)
  c_LONGEST : ∃ t, mg "LONGEST" = some (.int 8 t)
  c_MOST_FIGURES : ∃ t, mg "MOST_FIGURES" = some (.int 6 t)
  c_MOST_PLAYERS : ∃ t, mg "MOST_PLAYERS" = some (.int 4 t)
  c_MOST_PLACES : ∃ t, mg "MOST_PLACES" = some (.int 10 t)
  c_MOST_MARKS : ∃ t, mg "MOST_MARKS" = some (.int 4 t)
  c_MOST_MOVES : ∃ t, mg "MOST_MOVES" = some (.int 3 t)
  c_MOST_JOINTS : ∃ t, mg "MOST_JOINTS" = some (.int 36 t)
  f_is_whole : ∃ a fd, mg "is_whole" = some (.ref a) ∧ FunD K "is_whole" "is_whole" (defArgs (top 10)) (defBody (top 10)) (defScope (top 10)) [] [] a fd
  f_is_of : ∃ a fd, mg "is_of" = some (.ref a) ∧ FunD K "is_of" "is_of" (defArgs (top 11)) (defBody (top 11)) (defScope (top 11)) [] [] a fd
  f_is_name : ∃ a fd, mg "is_name" = some (.ref a) ∧ FunD K "is_name" "is_name" (defArgs (top 12)) (defBody (top 12)) (defScope (top 12)) [] [] a fd
  f_is_rising : ∃ a fd, mg "is_rising" = some (.ref a) ∧ FunD K "is_rising" "is_rising" (defArgs (top 13)) (defBody (top 13)) (defScope (top 13)) [] [] a fd
  f_number_in : ∃ a fd, mg "number_in" = some (.ref a) ∧ FunD K "number_in" "number_in" (defArgs (top 14)) (defBody (top 14)) (defScope (top 14)) [] [] a fd
  f_rows_of : ∃ a fd, mg "rows_of" = some (.ref a) ∧ FunD K "rows_of" "rows_of" (defArgs (top 15)) (defBody (top 15)) (defScope (top 15)) [] [] a fd
  f_words_at : ∃ a fd, mg "words_at" = some (.ref a) ∧ FunD K "words_at" "words_at" (defArgs (top 22)) (defBody (top 22)) (defScope (top 22)) [] [] a fd
  f_numbers_at : ∃ a fd, mg "numbers_at" = some (.ref a) ∧ FunD K "numbers_at" "numbers_at" (defArgs (top 23)) (defBody (top 23)) (defScope (top 23)) [] [] a fd
  f_place_at : ∃ a fd, mg "place_at" = some (.ref a) ∧ FunD K "place_at" "place_at" (defArgs (top 24)) (defBody (top 24)) (defScope (top 24)) [] [] a fd
  f_arena_of : ∃ a fd, mg "arena_of" = some (.ref a) ∧ FunD K "arena_of" "arena_of" (defArgs (top 25)) (defBody (top 25)) (defScope (top 25)) [] [] a fd
  f_need_nexts : ∃ a fd, mg "need_nexts" = some (.ref a) ∧ FunD K "need_nexts" "need_nexts" (defArgs (top 26)) (defBody (top 26)) (defScope (top 26)) [] [] a fd
  f_all_rows : ∃ a fd, mg "all_rows" = some (.ref a) ∧ FunD K "all_rows" "all_rows" (defArgs (top 27)) (defBody (top 27)) (defScope (top 27)) [] [] a fd
  f_arena_in : ∃ a fd, mg "arena_in" = some (.ref a) ∧ FunD K "arena_in" "arena_in" (defArgs (top 28)) (defBody (top 28)) (defScope (top 28)) [] [] a fd
  f__law_begun : ∃ a fd, mg "_law_begun" = some (.ref a) ∧ FunD K "_law_begun" "_law_begun" (defArgs (top 30)) (defBody (top 30)) (defScope (top 30)) [] [] a fd
  f__law_draw : ∃ a fd, mg "_law_draw" = some (.ref a) ∧ FunD K "_law_draw" "_law_draw" (defArgs (top 31)) (defBody (top 31)) (defScope (top 31)) [] [] a fd
  f__law_names : ∃ a fd, mg "_law_names" = some (.ref a) ∧ FunD K "_law_names" "_law_names" (defArgs (top 32)) (defBody (top 32)) (defScope (top 32)) [] [] a fd
  f__law_arena : ∃ a fd, mg "_law_arena" = some (.ref a) ∧ FunD K "_law_arena" "_law_arena" (defArgs (top 33)) (defBody (top 33)) (defScope (top 33)) [] [] a fd
  f__law_lines : ∃ a fd, mg "_law_lines" = some (.ref a) ∧ FunD K "_law_lines" "_law_lines" (defArgs (top 34)) (defBody (top 34)) (defScope (top 34)) [] [] a fd
  f__law_is_rising : ∃ a fd, mg "_law_is_rising" = some (.ref a) ∧ FunD K "_law_is_rising" "_law_is_rising" (defArgs (top 35)) (defBody (top 35)) (defScope (top 35)) [] [] a fd
  f__law_is_name : ∃ a fd, mg "_law_is_name" = some (.ref a) ∧ FunD K "_law_is_name" "_law_is_name" (defArgs (top 36)) (defBody (top 36)) (defScope (top 36)) [] [] a fd
  f__law_number : ∃ a fd, mg "_law_number" = some (.ref a) ∧ FunD K "_law_number" "_law_number" (defArgs (top 37)) (defBody (top 37)) (defScope (top 37)) [] [] a fd
  f__law_rows : ∃ a fd, mg "_law_rows" = some (.ref a) ∧ FunD K "_law_rows" "_law_rows" (defArgs (top 38)) (defBody (top 38)) (defScope (top 38)) [] [] a fd
  f__law_behind : ∃ a fd, mg "_law_behind" = some (.ref a) ∧ FunD K "_law_behind" "_law_behind" (defArgs (top 39)) (defBody (top 39)) (defScope (top 39)) [] [] a fd
  f__law_numbers : ∃ a fd, mg "_law_numbers" = some (.ref a) ∧ FunD K "_law_numbers" "_law_numbers" (defArgs (top 40)) (defBody (top 40)) (defScope (top 40)) [] [] a fd
  f__law_ground_told : ∃ a fd, mg "_law_ground_told" = some (.ref a) ∧ FunD K "_law_ground_told" "_law_ground_told" (defArgs (top 41)) (defBody (top 41)) (defScope (top 41)) [] [] a fd
  f__law_late : ∃ a fd, mg "_law_late" = some (.ref a) ∧ FunD K "_law_late" "_law_late" (defArgs (top 42)) (defBody (top 42)) (defScope (top 42)) [] [] a fd
  f__law_bent : ∃ a fd, mg "_law_bent" = some (.ref a) ∧ FunD K "_law_bent" "_law_bent" (defArgs (top 43)) (defBody (top 43)) (defScope (top 43)) [] [] a fd
  f__law_error : ∃ a fd, mg "_law_error" = some (.ref a) ∧ FunD K "_law_error" "_law_error" (defArgs (top 44)) (defBody (top 44)) (defScope (top 44)) [] [] a fd
  f__law_line : ∃ a fd, mg "_law_line" = some (.ref a) ∧ FunD K "_law_line" "_law_line" (defArgs (top 45)) (defBody (top 45)) (defScope (top 45)) [] [] a fd
  f__law_read_right : ∃ a fd, mg "_law_read_right" = some (.ref a) ∧ FunD K "_law_read_right" "_law_read_right" (defArgs (top 46)) (defBody (top 46)) (defScope (top 46)) [] [] a fd
  f__law_beyond : ∃ a fd, mg "_law_beyond" = some (.ref a) ∧ FunD K "_law_beyond" "_law_beyond" (defArgs (top 47)) (defBody (top 47)) (defScope (top 47)) [] [] a fd
  f_law : ∃ a fd, mg "law" = some (.ref a) ∧ FunD K "law" "law" (defArgs (top 48)) (defBody (top 48)) (defScope (top 48)) [] [] a fd
  k_Refused : mg "Refused" = some (.ref (He.ga K "Refused"))
  k_Barred : mg "Barred" = some (.ref (He.ga K "Barred"))
  k_Beyond : mg "Beyond" = some (.ref (He.ga K "Beyond"))
  k_BadLine : mg "BadLine" = some (.ref (He.ga K "BadLine"))
  i_BadLine : ∃ fd, FunD K "__init__" "BadLine.__init__" (defArgs (ini 4)) (defBody (ini 4)) (defScope (ini 4)) [] [] (He.fAd K ("BadLine", some "__init__")) fd
  xb : xbK xt K = true
  sm : smOk K = true
theorem xc_BadLine {P : Program} {w : World} {K : PySem.W.Frag} {mg : Str → Option Value} {base : Heap} (V : Vn K mg base) : XCls P w K mg base "BadLine" "line" "line" := by
  obtain ⟨fd, FF⟩ := V.i_BadLine
  have bd : Binds K fd ["self", "line"] [] := binds_of (FunD.bindsA (ps := ["self", "line"]) FF fun _ _ _ _ _ _ us hl => match us, hl with | [_, _], _ => rfl)
  refine xcls_of (k := 0) V.xb (by decide +kernel) V.k_BadLine FF rfl ⟨rfl, rfl, rfl, by decide +kernel, rfl, by decide +kernel, by decide +kernel⟩ (by decide) (by decide) (Or.inl rfl) (Or.inl rfl) (fun _ _ => rfl) bd ?_
  obtain ⟨oc, od, dV, kV, doc, pm, an, cdv, ct, osl, rfl, lk, hcd, hD, hK⟩ := FF.ex
  rcases hD with ⟨_, rfl⟩ | ⟨e, _⟩
  · exact fun s u v => .of_eq rfl
  · exact absurd rfl e
def s_is_whole : S := (sRet (eAnd (eIsi .int (eVar 0)) (eAnd (eNot (eIsi .bool (eVar 0))) (eChain leD leD (eVar 1) (eVar 0) (eVar 2)))))
def F_is_whole : List D → M D := runF 3 s_is_whole
theorem sc_is_whole : FnScope ["thing", "least", "most"] ["thing", "least", "most"] (defScope (top 10)) := ⟨rfl, rfl, rfl, by decide +kernel, rfl, by decide +kernel, by decide +kernel⟩
theorem g_is_whole {P : Program} {w : World} {K : PySem.W.Frag} {mg : Str → Option Value} {base : Heap} {a : Addr} {fd : FuncData} (V : Vn K mg base) (FF : FunD K "is_whole" "is_whole" (defArgs (top 10)) (defBody (top 10)) (defScope (top 10)) [] [] a fd) : FnG P w K mg base CX0 1 a fd ["thing", "least", "most"] (spD K 3 F_is_whole) := by
  have sc := sc_is_whole
  refine fn_dG (k := 0) FF sc fun cdv A outer s H E hr gd => ?_
  exact (pdss_one (pds_ret (pd_and (pd_isi .int rfl V.b_isinstance V.b_int (pd_var 0).weak) (pd_and (pd_not (pd_isi .bool rfl V.b_isinstance V.b_bool (pd_var 0).weak)) (pd_one (pd_chain op_leA op_leA leD_ok leD_ok (pd_var 1).weak (pd_var 0).weak (pd_var 2).weak))))))
theorem w_is_whole {P : Program} {w : World} {K : PySem.W.Frag} {mg : Str → Option Value} {base : Heap} (V : Vn K mg base) : FnD P w K mg base 1 "is_whole" 3 F_is_whole := by
  obtain ⟨a, fd, hm, FF⟩ := V.f_is_whole
  exact ⟨a, fd, ["thing", "least", "most"], hm, FF.kp, binds_of (FunD.bindsA (ps := ["thing", "least", "most"]) FF fun _ _ _ _ _ _ us hl => match us, hl with | [_, _, _], _ => rfl), g_is_whole V FF⟩
def s_is_of : S := (sRet (eAnd (eIsi .str (eVar 0)) (eAnd (eChain leD leD (eC (.int 1)) (eBi lenD (aCons (eVar 0) aNil)) (eVar 2)) (eBi allD (aCons (eO (eLcA [3] (aItem (eVar 0)) (bName 3) tYesD (eCmp inD (eVar 3) (eVar 1)))) aNil)))))
def F_is_of : List D → M D := runF 4 s_is_of
theorem sc_is_of : FnScope ["thing", "signs", "most", "sign"] ["thing", "signs", "most"] (defScope (top 11)) := ⟨rfl, rfl, rfl, by decide +kernel, rfl, by decide +kernel, by decide +kernel⟩
theorem g_is_of {P : Program} {w : World} {K : PySem.W.Frag} {mg : Str → Option Value} {base : Heap} {a : Addr} {fd : FuncData} (V : Vn K mg base) (FF : FunD K "is_of" "is_of" (defArgs (top 11)) (defBody (top 11)) (defScope (top 11)) [] [] a fd) : FnG P w K mg base CX0 1 a fd ["thing", "signs", "most"] (spD K 3 F_is_of) := by
  have sc := sc_is_of
  refine fn_dG (k := 0) FF sc fun cdv A outer s H E hr gd => ?_
  exact (pdss_one (pds_ret (pd_and (pd_isi .str rfl V.b_isinstance V.b_str (pd_var 0).weak) (pd_and (pd_chain op_leA op_leA leD_ok leD_ok (pd_int).weak (pd_len V.b_len (pba_cons (pd_var 0).weak pba_nil)).weak (pd_var 2).weak) (pd_one (pd_all rfl V.b_all (pba_cons (pd_new (po_lc [("sign", 3)] rfl sc.nd (pdi_val (pd_var 0)).weak (blk_of (by rfl)) (fun _ _ _ _ _ => (pdg_name 3 sc.nd)) (fun _ _ _ _ _ => pdts_nil) (fun _ _ _ _ _ => (pd_cmp (op_inA (hu65 hr)) inD_ok (pd_var 3).weak (pd_var 1).weak)))).weak pba_nil)))))))
theorem w_is_of {P : Program} {w : World} {K : PySem.W.Frag} {mg : Str → Option Value} {base : Heap} (V : Vn K mg base) : FnD P w K mg base 1 "is_of" 3 F_is_of := by
  obtain ⟨a, fd, hm, FF⟩ := V.f_is_of
  exact ⟨a, fd, ["thing", "signs", "most"], hm, FF.kp, binds_of (FunD.bindsA (ps := ["thing", "signs", "most"]) FF fun _ _ _ _ _ _ us hl => match us, hl with | [_, _, _], _ => rfl), g_is_of V FF⟩
def s_is_name : S := (sRet (eCall F_is_of (aCons (eVar 0) (aCons (eC (.str "abcdefghijklmnopqrstuvwxyz")) (aCons (eC (.int 8)) aNil)))))
def F_is_name : List D → M D := runF 1 s_is_name
theorem sc_is_name : FnScope ["thing"] ["thing"] (defScope (top 12)) := ⟨rfl, rfl, rfl, by decide +kernel, rfl, by decide +kernel, by decide +kernel⟩
theorem g_is_name {P : Program} {w : World} {K : PySem.W.Frag} {mg : Str → Option Value} {base : Heap} {a : Addr} {fd : FuncData} (V : Vn K mg base) (FF : FunD K "is_name" "is_name" (defArgs (top 12)) (defBody (top 12)) (defScope (top 12)) [] [] a fd) : FnG P w K mg base CX0 2 a fd ["thing"] (spD K 1 F_is_name) := by
  have sc := sc_is_name
  refine fn_dG (k := 1) FF sc fun cdv A outer s H E hr gd => ?_
  exact (pdss_one (pds_ret (pd_call (w_is_of V) (hr.mono (by decide)) gd (pda_cons (pd_var 0) (pda_cons (pd_gstr V.c_SMALL) (pda_cons (pd_gint V.c_LONGEST) pda_nil))) (aCons_len (aCons_len (aCons_len aNil_len))))))
theorem w_is_name {P : Program} {w : World} {K : PySem.W.Frag} {mg : Str → Option Value} {base : Heap} (V : Vn K mg base) : FnD P w K mg base 2 "is_name" 1 F_is_name := by
  obtain ⟨a, fd, hm, FF⟩ := V.f_is_name
  exact ⟨a, fd, ["thing"], hm, FF.kp, binds_of (FunD.bindsA (ps := ["thing"]) FF fun _ _ _ _ _ _ us hl => match us, hl with | [_], _ => rfl), g_is_name V FF⟩
def s_is_rising : S := (sSeq (sIf (tOr (tNot (tE (eIsi .tup (eVar 0)))) (tNot (tE (eBi allD (aCons (eO (eLcA [1] (aItem (eVar 0)) (bName 1) tYesD (eCall F_is_name (aCons (eVar 1) aNil)))) aNil))))) (sRet (eC (.bl false))) sNil)
  (sRet (eBi allD (aCons (eO (eLcA [1, 2] (aIt zipM (aCons (eVar 0) (aCons (eSl (eVar 0) (pSome (eC (.int 1))) pNone) aNil))) (bTup (bsCons (bName 1) (bsCons (bName 2) bsNil))) tYesD (eCmp ltD (eVar 1) (eVar 2)))) aNil))))
def F_is_rising : List D → M D := runF 3 s_is_rising
theorem sc_is_rising : FnScope ["thing", "one", "other"] ["thing"] (defScope (top 13)) := ⟨rfl, rfl, rfl, by decide +kernel, rfl, by decide +kernel, by decide +kernel⟩
theorem g_is_rising {P : Program} {w : World} {K : PySem.W.Frag} {mg : Str → Option Value} {base : Heap} {a : Addr} {fd : FuncData} (V : Vn K mg base) (FF : FunD K "is_rising" "is_rising" (defArgs (top 13)) (defBody (top 13)) (defScope (top 13)) [] [] a fd) : FnG P w K mg base CX0 3 a fd ["thing"] (spD K 1 F_is_rising) := by
  have sc := sc_is_rising
  refine fn_dG (k := 2) FF sc fun cdv A outer s H E hr gd => ?_
  exact (pdss_cons (pds_if (pdw_or (pdt_not (pdt_val (pd_isi .tup rfl V.b_isinstance V.b_tuple (pd_var 0).weak))) (pdw_or1 (pdt_not (pdt_val (pd_all rfl V.b_all (pba_cons (pd_new (po_lc [("one", 1)] rfl sc.nd (pdi_val (pd_var 0)).weak (blk_of (by rfl)) (fun _ _ _ _ _ => (pdg_name 1 sc.nd)) (fun _ _ _ _ _ => pdts_nil) (fun _ _ _ _ _ => (pd_call (w_is_name V) (hr.mono (by decide)) gd (pda_cons (pd_var 1) pda_nil) (aCons_len aNil_len))))).weak pba_nil)))))).pt (pdss_one (pds_ret pd_bl)) pdss_nil)
  (pdss_one (pds_ret (pd_all rfl V.b_all (pba_cons (pd_new (po_lc [("one", 1), ("other", 2)] rfl sc.nd (pdi_zip V.b_zip (pda_cons (pd_var 0) (pda_cons (pd_slice (pd_var 0) (pdp_some pd_int) pdp_none) pda_nil))).weak (blk_of (by rfl)) (fun _ _ _ _ _ => (pdg_tup rfl (pdgs_cons (pdg_name 1 sc.nd) (pdgs_cons (pdg_name 2 sc.nd) pdgs_nil)))) (fun _ _ _ _ _ => pdts_nil) (fun _ _ _ _ _ => (pd_cmp (op_ltA (hu0 hr)) ltD_ok (pd_var 1).weak (pd_var 2).weak)))).weak pba_nil)))))
theorem w_is_rising {P : Program} {w : World} {K : PySem.W.Frag} {mg : Str → Option Value} {base : Heap} (V : Vn K mg base) : FnD P w K mg base 3 "is_rising" 1 F_is_rising := by
  obtain ⟨a, fd, hm, FF⟩ := V.f_is_rising
  exact ⟨a, fd, ["thing"], hm, FF.kp, binds_of (FunD.bindsA (ps := ["thing"]) FF fun _ _ _ _ _ _ us hl => match us, hl with | [_], _ => rfl), g_is_rising V FF⟩
def s_number_in : S := (sSeq (sIf (tOr (tNot (tE (eCall F_is_of (aCons (eVar 0) (aCons (eC (.str "0123456789")) (aCons (eC (.int 6)) aNil)))))) (tAnd (tCmp eqD (eIx (eVar 0) (eC (.int 0))) (eC (.str "0"))) (tCmp neD (eVar 0) (eC (.str "0"))))) (sRet (eC .non)) sNil)
  (sRet (eUn intTD (eVar 0))))
def F_number_in : List D → M D := runF 1 s_number_in
theorem sc_number_in : FnScope ["word"] ["word"] (defScope (top 14)) := ⟨rfl, rfl, rfl, by decide +kernel, rfl, by decide +kernel, by decide +kernel⟩
theorem g_number_in {P : Program} {w : World} {K : PySem.W.Frag} {mg : Str → Option Value} {base : Heap} {a : Addr} {fd : FuncData} (V : Vn K mg base) (FF : FunD K "number_in" "number_in" (defArgs (top 14)) (defBody (top 14)) (defScope (top 14)) [] [] a fd) : FnG P w K mg base CX0 2 a fd ["word"] (spD K 1 F_number_in) := by
  have sc := sc_number_in
  refine fn_dG (k := 1) FF sc fun cdv A outer s H E hr gd => ?_
  exact (pdss_cons (pds_if (pdw_or (pdt_not (pdt_val (pd_call (w_is_of V) (hr.mono (by decide)) gd (pda_cons (pd_var 0) (pda_cons (pd_gstr V.c_FIGURES) (pda_cons (pd_gint V.c_MOST_FIGURES) pda_nil))) (aCons_len (aCons_len (aCons_len aNil_len)))))) (pdw_or1 (pdw_and (pdt_cmp (op_eqD (hu64 hr)) eqD_ok (pd_ix hr (pd_var 0) pd_int).weak (pd_str).weak) (pdw_and1 (pdt_cmp (op_neD (hu64 hr)) neD_ok (pd_var 0).weak (pd_str).weak))).pt)).pt (pdss_one (pds_ret pd_non)) pdss_nil)
  (pdss_one (pds_ret (pd_intT V.b_int (pd_var 0)))))
theorem w_number_in {P : Program} {w : World} {K : PySem.W.Frag} {mg : Str → Option Value} {base : Heap} (V : Vn K mg base) : FnD P w K mg base 2 "number_in" 1 F_number_in := by
  obtain ⟨a, fd, hm, FF⟩ := V.f_number_in
  exact ⟨a, fd, ["word"], hm, FF.kp, binds_of (FunD.bindsA (ps := ["word"]) FF fun _ _ _ _ _ _ us hl => match us, hl with | [_], _ => rfl), g_number_in V FF⟩
def s_rows_of : S := (sSeq (sSetV 1 (vL (aSz aNil)))
  (sSeq (sFor (aItem (eO (aSplit 10 (eVar 0)))) (bName 2) (sSeq (sSet 3 (eO (aSplit 32 (eVar 2))))
  (sAppend 1 (eIf (tCmp inD (eC (.str "")) (eVar 3)) (eC .non) (eVar 3)))))
  (sFrz 1 (sRet (eVar 1)))))
def F_rows_of : List D → M D := runF 4 s_rows_of
theorem sc_rows_of : FnScope ["text", "found", "line", "words"] ["text"] (defScope (top 15)) := ⟨rfl, rfl, rfl, by decide +kernel, rfl, by decide +kernel, by decide +kernel⟩
theorem g_rows_of {P : Program} {w : World} {K : PySem.W.Frag} {mg : Str → Option Value} {base : Heap} {a : Addr} {fd : FuncData} (V : Vn K mg base) (FF : FunD K "rows_of" "rows_of" (defArgs (top 15)) (defBody (top 15)) (defScope (top 15)) [] [] a fd) : FnG P w K mg base CX0 1 a fd ["text"] (spD K 1 F_rows_of) := by
  have sc := sc_rows_of
  refine fn_dG (k := 0) FF sc fun cdv A outer s H E hr gd => ?_
  exact (pdss_cons (pds_setV 1 sc.nd (pv_ol (po_lst pda_nil)))
  (pdss_cons (pds_for rfl (pdi_val (pd_new (po_split 10 (by rfl) (by decide) (pd_var 0)))) (pdg_name 2 sc.nd) (pdss_cons (pds_set 3 sc.nd (pd_new (po_split 32 (by rfl) (by decide) (pd_var 2))))
  (pdss_one (pds_append 1 (pd_if (pdt_cmp (op_inA (hu65 hr)) inD_ok (pd_str).weak (pd_var 3).weak) pd_non (pd_var 3))))))
  (pdss_frz 1 (pdss_one (pds_ret (pd_var 1))))))
theorem w_rows_of {P : Program} {w : World} {K : PySem.W.Frag} {mg : Str → Option Value} {base : Heap} (V : Vn K mg base) : FnD P w K mg base 1 "rows_of" 1 F_rows_of := by
  obtain ⟨a, fd, hm, FF⟩ := V.f_rows_of
  exact ⟨a, fd, ["text"], hm, FF.kp, binds_of (FunD.bindsA (ps := ["text"]) FF fun _ _ _ _ _ _ us hl => match us, hl with | [_], _ => rfl), g_rows_of V FF⟩
def s_words_at : S := (sSeq (sIf (tOr (tCmp geD (eVar 1) (eBi lenD (aCons (eVar 0) aNil))) (tOr (tCmp isND (eIx (eVar 0) (eVar 1)) (eC .non)) (tCmp neD (eIx (eIx (eVar 0) (eVar 1)) (eC (.int 0))) (eVar 2)))) (sRaise "BadLine" "line" (eOp addD (eVar 1) (eC (.int 1)))) sNil)
  (sRet (eSl (eIx (eVar 0) (eVar 1)) (pSome (eC (.int 1))) pNone)))
theorem sc_words_at : FnScope ["rows", "at", "word"] ["rows", "at", "word"] (defScope (top 22)) := ⟨rfl, rfl, rfl, by decide +kernel, rfl, by decide +kernel, by decide +kernel⟩
def X_words_at : List D → M Rx := runX 3 s_words_at
theorem gx_words_at {P : Program} {w : World} {K : PySem.W.Frag} {mg : Str → Option Value} {base : Heap} {a : Addr} {fd : FuncData} (V : Vn K mg base) (FF : FunD K "words_at" "words_at" (defArgs (top 22)) (defBody (top 22)) (defScope (top 22)) [] [] a fd) : FnG P w K mg base (L2N.CX P w) 3 a fd ["rows", "at", "word"] (spX K 3 X_words_at) := by
  have sc := sc_words_at
  refine fn_dX (k := 2) FF sc fun cdv A outer s H E hr gd => ?_
  exact (pdss_cons (pds_if (pdw_or (pdt_cmp op_geA geD_ok (pd_var 1).weak (pd_len V.b_len (pba_cons (pd_var 0).weak pba_nil)).weak) (pdw_or (pdt_cmp op_isN isND_ok (pd_ix hr (pd_var 0) (pd_var 1)).weak (pd_non).weak) (pdw_or1 (pdt_cmp (op_neD (hu64 hr)) neD_ok (pd_ix hr (pd_ix hr (pd_var 0) (pd_var 1)) pd_int).weak (pd_var 2).weak)))).pt (pdss_one (pds_raise (k := 0) (xc_BadLine V) rfl (hr.mono (by decide)) (pd_add (pd_var 1) pd_int))) pdss_nil)
  (pdss_one (pds_ret (pd_slice (pd_ix hr (pd_var 0) (pd_var 1)) (pdp_some pd_int) pdp_none))))
theorem wx_words_at {P : Program} {w : World} {K : PySem.W.Frag} {mg : Str → Option Value} {base : Heap} (V : Vn K mg base) : FnX P w K mg base 3 "words_at" 3 X_words_at := by
  obtain ⟨a, fd, hm, FF⟩ := V.f_words_at
  exact ⟨a, fd, ["rows", "at", "word"], hm, FF.kp, binds_of (FunD.bindsA (ps := ["rows", "at", "word"]) FF fun _ _ _ _ _ _ us hl => match us, hl with | [_, _, _], _ => rfl), gx_words_at V FF⟩
def s_numbers_at : S := (sSeq (sTh (cCall X_words_at (aCons (eVar 0) (aCons (eVar 1) (aCons (eVar 2) aNil)))) (sSet 5 (eO (eLcA [6] (aItem (fOk (cCall X_words_at (aCons (eVar 0) (aCons (eVar 1) (aCons (eVar 2) aNil)))))) (bName 6) tYesD (eCall F_number_in (aCons (eVar 6) aNil))))))
  (sSeq (sIf (tNot (tE (eBi allD (aCons (eO (eLcA [7] (aItem (eVar 5)) (bName 7) tYesD (eCall F_is_whole (aCons (eVar 7) (aCons (eVar 3) (aCons (eVar 4) aNil)))))) aNil)))) (sRaise "BadLine" "line" (eOp addD (eVar 1) (eC (.int 1)))) sNil)
  (sRet (eBi tupleD (aCons (eVar 5) aNil)))))
theorem sc_numbers_at : FnScope ["rows", "at", "word", "least", "most", "found", "one", "number"] ["rows", "at", "word", "least", "most"] (defScope (top 23)) := ⟨rfl, rfl, rfl, by decide +kernel, rfl, by decide +kernel, by decide +kernel⟩
def X_numbers_at : List D → M Rx := runX 8 s_numbers_at
theorem gx_numbers_at {P : Program} {w : World} {K : PySem.W.Frag} {mg : Str → Option Value} {base : Heap} {a : Addr} {fd : FuncData} (V : Vn K mg base) (FF : FunD K "numbers_at" "numbers_at" (defArgs (top 23)) (defBody (top 23)) (defScope (top 23)) [] [] a fd) : FnG P w K mg base (L2N.CX P w) 4 a fd ["rows", "at", "word", "least", "most"] (spX K 5 X_numbers_at) := by
  have sc := sc_numbers_at
  refine fn_dX (k := 3) FF sc fun cdv A outer s H E hr gd => ?_
  exact (pdss_cons (pds_setLcR 5 [("one", 6)] rfl sc.nd (px_call (wx_words_at V) (hr.mono (by decide)) gd (pda_cons (pd_var 0) (pda_cons (pd_var 1) (pda_cons (pd_var 2) pda_nil))) (aCons_len (aCons_len (aCons_len aNil_len)))) (blk_of (by rfl)) (fun _ _ _ _ _ => (pdg_name 6 sc.nd)) (fun _ _ _ _ _ => pdts_nil) (fun _ _ _ _ _ => (pd_call (w_number_in V) (hr.mono (by decide)) gd (pda_cons (pd_var 6) pda_nil) (aCons_len aNil_len))) (sw_true rfl rfl rfl (by decide +kernel)))
  (pdss_cons (pds_if (pdt_not (pdt_val (pd_all rfl V.b_all (pba_cons (pd_new (po_lc [("number", 7)] rfl sc.nd (pdi_val (pd_var 5)).weak (blk_of (by rfl)) (fun _ _ _ _ _ => (pdg_name 7 sc.nd)) (fun _ _ _ _ _ => pdts_nil) (fun _ _ _ _ _ => (pd_call (w_is_whole V) (hr.mono (by decide)) gd (pda_cons (pd_var 7) (pda_cons (pd_var 3) (pda_cons (pd_var 4) pda_nil))) (aCons_len (aCons_len (aCons_len aNil_len))))))).weak pba_nil)))) (pdss_one (pds_raise (k := 0) (xc_BadLine V) rfl (hr.mono (by decide)) (pd_add (pd_var 1) pd_int))) pdss_nil)
  (pdss_one (pds_ret (pd_tuple V.b_tuple (pda_cons (pd_var 5) pda_nil))))))
theorem wx_numbers_at {P : Program} {w : World} {K : PySem.W.Frag} {mg : Str → Option Value} {base : Heap} (V : Vn K mg base) : FnX P w K mg base 4 "numbers_at" 5 X_numbers_at := by
  obtain ⟨a, fd, hm, FF⟩ := V.f_numbers_at
  exact ⟨a, fd, ["rows", "at", "word", "least", "most"], hm, FF.kp, binds_of (FunD.bindsA (ps := ["rows", "at", "word", "least", "most"]) FF fun _ _ _ _ _ _ us hl => match us, hl with | [_, _, _, _, _], _ => rfl), gx_numbers_at V FF⟩
def s_place_at : S := (sSeq (sSetR 3 (cTh (cCall X_words_at (aCons (eVar 0) (aCons (eVar 1) (aCons (eC (.str "place")) aNil)))) (eBi tupleD (aCons (fOk (cCall X_words_at (aCons (eVar 0) (aCons (eVar 1) (aCons (eC (.str "place")) aNil))))) aNil))))
  (sSeq (sIf (tOr (tCmp gtD (eBi lenD (aCons (eVar 3) aNil)) (eC (.int 4))) (tNot (tE (eCall F_is_rising (aCons (eVar 3) aNil))))) (sRaise "BadLine" "line" (eOp addD (eVar 1) (eC (.int 1)))) sNil)
  (sSeq (sSetR 4 (cCall X_numbers_at (aCons (eVar 0) (aCons (eOp addD (eVar 1) (eC (.int 1))) (aCons (eC (.str "moves")) (aCons (eC (.int 1)) (aCons (eC (.int 3)) aNil)))))))
  (sSeq (sSet 5 (eC (.int 1)))
  (sSeq (sFor (aItem (eVar 4)) (bName 6) (sMul 5 (eVar 6)))
  (sSeq (sIf (tOr (tCmp neD (eBi lenD (aCons (eVar 4) aNil)) (eBi lenD (aCons (eVar 2) aNil))) (tCmp gtD (eVar 5) (eC (.int 36)))) (sRaise "BadLine" "line" (eOp addD (eVar 1) (eC (.int 2)))) sNil)
  (sSeq (sSetR 7 (cCall X_numbers_at (aCons (eVar 0) (aCons (eOp addD (eVar 1) (eC (.int 2))) (aCons (eC (.str "next")) (aCons (eC (.int 0)) (aCons (eC (.int 999999)) aNil)))))))
  (sSeq (sIf (tCmp neD (eBi lenD (aCons (eVar 7) aNil)) (eVar 5)) (sRaise "BadLine" "line" (eOp addD (eVar 1) (eC (.int 3)))) sNil)
  (sRet (eTup (aCons (eVar 3) (aCons (eVar 4) (aCons (eVar 7) aNil)))))))))))))
theorem sc_place_at : FnScope ["rows", "at", "players", "marks", "counts", "many", "count", "nexts"] ["rows", "at", "players"] (defScope (top 24)) := ⟨rfl, rfl, rfl, by decide +kernel, rfl, by decide +kernel, by decide +kernel⟩
def X_place_at : List D → M Rx := runX 8 s_place_at
theorem gx_place_at {P : Program} {w : World} {K : PySem.W.Frag} {mg : Str → Option Value} {base : Heap} {a : Addr} {fd : FuncData} (V : Vn K mg base) (FF : FunD K "place_at" "place_at" (defArgs (top 24)) (defBody (top 24)) (defScope (top 24)) [] [] a fd) : FnG P w K mg base (L2N.CX P w) 5 a fd ["rows", "at", "players"] (spX K 3 X_place_at) := by
  have sc := sc_place_at
  refine fn_dX (k := 4) FF sc fun cdv A outer s H E hr gd => ?_
  exact (pdss_cons (pds_setR 3 sc.nd (px_tuple V.b_tuple (px_call (wx_words_at V) (hr.mono (by decide)) gd (pda_cons (pd_var 0) (pda_cons (pd_var 1) (pda_cons (pd_str) pda_nil))) (aCons_len (aCons_len (aCons_len aNil_len))))))
  (pdss_cons (pds_if (pdw_or (pdt_cmp op_gtA gtD_ok (pd_len V.b_len (pba_cons (pd_var 3).weak pba_nil)).weak (pd_gint V.c_MOST_MARKS).weak) (pdw_or1 (pdt_not (pdt_val (pd_call (w_is_rising V) (hr.mono (by decide)) gd (pda_cons (pd_var 3) pda_nil) (aCons_len aNil_len)))))).pt (pdss_one (pds_raise (k := 0) (xc_BadLine V) rfl (hr.mono (by decide)) (pd_add (pd_var 1) pd_int))) pdss_nil)
  (pdss_cons (pds_setR 4 sc.nd (px_call (wx_numbers_at V) (hr.mono (by decide)) gd (pda_cons (pd_var 0) (pda_cons (pd_add (pd_var 1) pd_int) (pda_cons (pd_str) (pda_cons pd_int (pda_cons (pd_gint V.c_MOST_MOVES) pda_nil))))) (aCons_len (aCons_len (aCons_len (aCons_len (aCons_len aNil_len)))))))
  (pdss_cons (pds_set 5 sc.nd pd_int)
  (pdss_cons (pds_for rfl (pdi_val (pd_var 4)) (pdg_name 6 sc.nd) (pdss_one (pds_mul 5 sc.nd (pd_var 6))) (passes_of rfl))
  (pdss_cons (pds_if (pdw_or (pdt_cmp (op_neD (hu64 hr)) neD_ok (pd_len V.b_len (pba_cons (pd_var 4).weak pba_nil)).weak (pd_len V.b_len (pba_cons (pd_var 2).weak pba_nil)).weak) (pdw_or1 (pdt_cmp op_gtA gtD_ok (pd_var 5).weak (pd_gint V.c_MOST_JOINTS).weak))).pt (pdss_one (pds_raise (k := 0) (xc_BadLine V) rfl (hr.mono (by decide)) (pd_add (pd_var 1) pd_int))) pdss_nil)
  (pdss_cons (pds_setR 7 sc.nd (px_call (wx_numbers_at V) (hr.mono (by decide)) gd (pda_cons (pd_var 0) (pda_cons (pd_add (pd_var 1) pd_int) (pda_cons (pd_str) (pda_cons pd_int (pda_cons pd_int pda_nil))))) (aCons_len (aCons_len (aCons_len (aCons_len (aCons_len aNil_len)))))))
  (pdss_cons (pds_if (pdt_cmp (op_neD (hu64 hr)) neD_ok (pd_len V.b_len (pba_cons (pd_var 7).weak pba_nil)).weak (pd_var 5).weak) (pdss_one (pds_raise (k := 0) (xc_BadLine V) rfl (hr.mono (by decide)) (pd_add (pd_var 1) pd_int))) pdss_nil)
  (pdss_one (pds_ret (pd_tup (pda_cons (pd_var 3) (pda_cons (pd_var 4) (pda_cons (pd_var 7) pda_nil))))))))))))))
theorem wx_place_at {P : Program} {w : World} {K : PySem.W.Frag} {mg : Str → Option Value} {base : Heap} (V : Vn K mg base) : FnX P w K mg base 5 "place_at" 3 X_place_at := by
  obtain ⟨a, fd, hm, FF⟩ := V.f_place_at
  exact ⟨a, fd, ["rows", "at", "players"], hm, FF.kp, binds_of (FunD.bindsA (ps := ["rows", "at", "players"]) FF fun _ _ _ _ _ _ us hl => match us, hl with | [_, _, _], _ => rfl), gx_place_at V FF⟩
def s_arena_of : S := (sSeq (sSetR 1 (cTh (cCall X_words_at (aCons (eVar 0) (aCons (eC (.int 0)) (aCons (eC (.str "players")) aNil)))) (eBi tupleD (aCons (fOk (cCall X_words_at (aCons (eVar 0) (aCons (eC (.int 0)) (aCons (eC (.str "players")) aNil))))) aNil))))
  (sSeq (sIf (tOr (tNot (tE (eChain leD leD (eC (.int 1)) (eBi lenD (aCons (eVar 1) aNil)) (eC (.int 4))))) (tNot (tE (eCall F_is_rising (aCons (eVar 1) aNil))))) (sRaise "BadLine" "line" (eC (.int 1))) sNil)
  (sSeq (sTh (cCall X_place_at (aCons (eVar 0) (aCons (eC (.int 1)) (aCons (eVar 1) aNil)))) (sParV [2, 3] (vCons (vL (aSz (aCons (fOk (cCall X_place_at (aCons (eVar 0) (aCons (eC (.int 1)) (aCons (eVar 1) aNil))))) aNil))) (vCons (vD (eC (.int 4))) vNil))))
  (sSeq (sWhile 12 (tAnd (tCmp ltD (eVar 3) (eBi lenD (aCons (eVar 0) aNil))) (tAnd (tCmp notND (eIx (eVar 0) (eVar 3)) (eC .non)) (tAnd (tCmp eqD (eIx (eIx (eVar 0) (eVar 3)) (eC (.int 0))) (eC (.str "place"))) (tCmp ltD (eBi lenD (aCons (eOwn 2) aNil)) (eC (.int 10)))))) (sSeq (sAppX 2 X_place_at (aCons (eVar 0) (aCons (eVar 3) (aCons (eVar 1) aNil))))
  (sAug 3 (eC (.int 3)))))
  (sFrz 2 (sRet (eTup (aCons (eTup (aCons (eVar 1) (aCons (eBi tupleD (aCons (eVar 2) aNil)) aNil))) (aCons (eVar 3) aNil)))))))))
theorem sc_arena_of : FnScope ["rows", "players", "places", "at"] ["rows"] (defScope (top 25)) := ⟨rfl, rfl, rfl, by decide +kernel, rfl, by decide +kernel, by decide +kernel⟩
def X_arena_of : List D → M Rx := runX 4 s_arena_of
theorem gx_arena_of {P : Program} {w : World} {K : PySem.W.Frag} {mg : Str → Option Value} {base : Heap} {a : Addr} {fd : FuncData} (V : Vn K mg base) (FF : FunD K "arena_of" "arena_of" (defArgs (top 25)) (defBody (top 25)) (defScope (top 25)) [] [] a fd) : FnG P w K mg base (L2N.CX P w) 6 a fd ["rows"] (spX K 1 X_arena_of) := by
  have sc := sc_arena_of
  refine fn_dX (k := 5) FF sc fun cdv A outer s H E hr gd => ?_
  exact (pdss_cons (pds_setR 1 sc.nd (px_tuple V.b_tuple (px_call (wx_words_at V) (hr.mono (by decide)) gd (pda_cons (pd_var 0) (pda_cons pd_int (pda_cons (pd_str) pda_nil))) (aCons_len (aCons_len (aCons_len aNil_len))))))
  (pdss_cons (pds_if (pdw_or (pdt_not (pdt_chain op_leA op_leA leD_ok leD_ok (pd_int).weak (pd_len V.b_len (pba_cons (pd_var 1).weak pba_nil)).weak (pd_gint V.c_MOST_PLAYERS).weak)) (pdw_or1 (pdt_not (pdt_val (pd_call (w_is_rising V) (hr.mono (by decide)) gd (pda_cons (pd_var 1) pda_nil) (aCons_len aNil_len)))))).pt (pdss_one (pds_raise (k := 0) (xc_BadLine V) rfl (hr.mono (by decide)) pd_int)) pdss_nil)
  (pdss_cons (pds_par2L 2 3 rfl sc.nd (px_call (wx_place_at V) (hr.mono (by decide)) gd (pda_cons (pd_var 0) (pda_cons pd_int (pda_cons (pd_var 1) pda_nil))) (aCons_len (aCons_len (aCons_len aNil_len)))) pd_int)
  (pdss_cons (pds_while 12 (pdw_and (pdt_cmp (op_ltA (hu0 hr)) ltD_ok (pd_var 3).weak (pd_len V.b_len (pba_cons (pd_var 0).weak pba_nil)).weak) (pdw_and (pdt_cmp op_notN notND_ok (pd_ix hr (pd_var 0) (pd_var 3)).weak (pd_non).weak) (pdw_and (pdt_cmp (op_eqD (hu64 hr)) eqD_ok (pd_ix hr (pd_ix hr (pd_var 0) (pd_var 3)) pd_int).weak (pd_str).weak) (pdw_and1 (pdt_cmp (op_ltA (hu0 hr)) ltD_ok (pd_len V.b_len (pba_cons (pb_own 2) pba_nil)).weak (pd_gint V.c_MOST_PLACES).weak))))).pt (pdss_cons (pds_appX 2 (wx_place_at V) (hr.mono (by decide)) gd (pda_cons (pd_var 0) (pda_cons (pd_var 3) (pda_cons (pd_var 1) pda_nil))) (aCons_len (aCons_len (aCons_len aNil_len))))
  (pdss_one (pds_aug 3 sc.nd pd_int))) (passes_of rfl))
  (pdss_frz 2 (pdss_one (pds_ret (pd_tup (pda_cons (pd_tup (pda_cons (pd_var 1) (pda_cons (pd_tuple V.b_tuple (pda_cons (pd_var 2) pda_nil)) pda_nil))) (pda_cons (pd_var 3) pda_nil))))))))))
theorem wx_arena_of {P : Program} {w : World} {K : PySem.W.Frag} {mg : Str → Option Value} {base : Heap} (V : Vn K mg base) : FnX P w K mg base 6 "arena_of" 1 X_arena_of := by
  obtain ⟨a, fd, hm, FF⟩ := V.f_arena_of
  exact ⟨a, fd, ["rows"], hm, FF.kp, binds_of (FunD.bindsA (ps := ["rows"]) FF fun _ _ _ _ _ _ us hl => match us, hl with | [_], _ => rfl), gx_arena_of V FF⟩
def s_need_nexts : S := (sFor (aIt enumM (aCons (eIx (eVar 0) (eC (.int 1))) aNil)) (bTup (bsCons (bName 1) (bsCons (bTup (bsCons (bName 2) (bsCons (bName 3) (bsCons (bName 4) bsNil)))) bsNil))) (sIf (tCmp geD (eBi maxLD (aCons (eVar 4) aNil)) (eBi lenD (aCons (eIx (eVar 0) (eC (.int 1))) aNil))) (sRaise "BadLine" "line" (eOp addD (eOp dMul (eC (.int 3)) (eVar 1)) (eC (.int 4)))) sNil))
theorem sc_need_nexts : FnScope ["arena", "number", "marks", "counts", "nexts"] ["arena"] (defScope (top 26)) := ⟨rfl, rfl, rfl, by decide +kernel, rfl, by decide +kernel, by decide +kernel⟩
def X_need_nexts : List D → M Rx := runX 5 s_need_nexts
theorem gx_need_nexts {P : Program} {w : World} {K : PySem.W.Frag} {mg : Str → Option Value} {base : Heap} {a : Addr} {fd : FuncData} (V : Vn K mg base) (FF : FunD K "need_nexts" "need_nexts" (defArgs (top 26)) (defBody (top 26)) (defScope (top 26)) [] [] a fd) : FnG P w K mg base (L2N.CX P w) 3 a fd ["arena"] (spX K 1 X_need_nexts) := by
  have sc := sc_need_nexts
  refine fn_dX (k := 2) FF sc fun cdv A outer s H E hr gd => ?_
  exact (pdss_one (pds_for rfl (pdi_enum V.b_enumerate (pda_cons (pd_ix hr (pd_var 0) pd_int) pda_nil)) (pdg_tup rfl (pdgs_cons (pdg_name 1 sc.nd) (pdgs_cons (pdg_tup rfl (pdgs_cons (pdg_name 2 sc.nd) (pdgs_cons (pdg_name 3 sc.nd) (pdgs_cons (pdg_name 4 sc.nd) pdgs_nil)))) pdgs_nil))) (pdss_one (pds_if (pdt_cmp op_geA geD_ok (pd_maxL rfl V.b_max (pba_cons (pd_var 4).weak pba_nil)).weak (pd_len V.b_len (pba_cons (pd_ix hr (pd_var 0) pd_int).weak pba_nil)).weak) (pdss_one (pds_raise (k := 0) (xc_BadLine V) rfl (hr.mono (by decide)) (pd_add (pd_mul pd_int (pd_var 1)) pd_int))) pdss_nil)) (passes_of rfl)))
theorem wx_need_nexts {P : Program} {w : World} {K : PySem.W.Frag} {mg : Str → Option Value} {base : Heap} (V : Vn K mg base) : FnX P w K mg base 3 "need_nexts" 1 X_need_nexts := by
  obtain ⟨a, fd, hm, FF⟩ := V.f_need_nexts
  exact ⟨a, fd, ["arena"], hm, FF.kp, binds_of (FunD.bindsA (ps := ["arena"]) FF fun _ _ _ _ _ _ us hl => match us, hl with | [_], _ => rfl), gx_need_nexts V FF⟩
def s_all_rows : S := (sSeq (sIf (tNot (tE (eIsi .str (eVar 0)))) (sRaise "BadLine" "line" (eC (.int 0))) sNil)
  (sRet (eCall F_rows_of (aCons (eVar 0) aNil))))
theorem sc_all_rows : FnScope ["text"] ["text"] (defScope (top 27)) := ⟨rfl, rfl, rfl, by decide +kernel, rfl, by decide +kernel, by decide +kernel⟩
def X_all_rows : List D → M Rx := runX 1 s_all_rows
theorem gx_all_rows {P : Program} {w : World} {K : PySem.W.Frag} {mg : Str → Option Value} {base : Heap} {a : Addr} {fd : FuncData} (V : Vn K mg base) (FF : FunD K "all_rows" "all_rows" (defArgs (top 27)) (defBody (top 27)) (defScope (top 27)) [] [] a fd) : FnG P w K mg base (L2N.CX P w) 3 a fd ["text"] (spX K 1 X_all_rows) := by
  have sc := sc_all_rows
  refine fn_dX (k := 2) FF sc fun cdv A outer s H E hr gd => ?_
  exact (pdss_cons (pds_if (pdt_not (pdt_val (pd_isi .str rfl V.b_isinstance V.b_str (pd_var 0).weak))) (pdss_one (pds_raise (k := 0) (xc_BadLine V) rfl (hr.mono (by decide)) pd_int)) pdss_nil)
  (pdss_one (pds_ret (pd_call (w_rows_of V) (hr.mono (by decide)) gd (pda_cons (pd_var 0) pda_nil) (aCons_len aNil_len)))))
theorem wx_all_rows {P : Program} {w : World} {K : PySem.W.Frag} {mg : Str → Option Value} {base : Heap} (V : Vn K mg base) : FnX P w K mg base 3 "all_rows" 1 X_all_rows := by
  obtain ⟨a, fd, hm, FF⟩ := V.f_all_rows
  exact ⟨a, fd, ["text"], hm, FF.kp, binds_of (FunD.bindsA (ps := ["text"]) FF fun _ _ _ _ _ _ us hl => match us, hl with | [_], _ => rfl), gx_all_rows V FF⟩
def s_arena_in : S := (sSeq (sSetR 1 (cCall X_all_rows (aCons (eVar 0) aNil)))
  (sSeq (sTh (cCall X_arena_of (aCons (eVar 1) aNil)) (sAsg (bTup (bsCons (bName 2) (bsCons (bName 3) bsNil))) (fOk (cCall X_arena_of (aCons (eVar 1) aNil)))))
  (sSeq (sIf (tCmp ltD (eVar 3) (eBi lenD (aCons (eVar 1) aNil))) (sRaise "BadLine" "line" (eOp addD (eVar 3) (eC (.int 1)))) sNil)
  (sSeq (sExprX X_need_nexts (aCons (eVar 2) aNil))
  (sRet (eVar 2))))))
theorem sc_arena_in : FnScope ["text", "rows", "found", "at"] ["text"] (defScope (top 28)) := ⟨rfl, rfl, rfl, by decide +kernel, rfl, by decide +kernel, by decide +kernel⟩
def X_arena_in : List D → M Rx := runX 4 s_arena_in
theorem gx_arena_in {P : Program} {w : World} {K : PySem.W.Frag} {mg : Str → Option Value} {base : Heap} {a : Addr} {fd : FuncData} (V : Vn K mg base) (FF : FunD K "arena_in" "arena_in" (defArgs (top 28)) (defBody (top 28)) (defScope (top 28)) [] [] a fd) : FnG P w K mg base (L2N.CX P w) 7 a fd ["text"] (spX K 1 X_arena_in) := by
  have sc := sc_arena_in
  refine fn_dX (k := 6) FF sc fun cdv A outer s H E hr gd => ?_
  exact (pdss_cons (pds_setR 1 sc.nd (px_call (wx_all_rows V) (hr.mono (by decide)) gd (pda_cons (pd_var 0) pda_nil) (aCons_len aNil_len)))
  (pdss_cons (pds_asgR (px_call (wx_arena_of V) (hr.mono (by decide)) gd (pda_cons (pd_var 1) pda_nil) (aCons_len aNil_len)) (pdg_tup rfl (pdgs_cons (pdg_name 2 sc.nd) (pdgs_cons (pdg_name 3 sc.nd) pdgs_nil))))
  (pdss_cons (pds_if (pdt_cmp (op_ltA (hu0 hr)) ltD_ok (pd_var 3).weak (pd_len V.b_len (pba_cons (pd_var 1).weak pba_nil)).weak) (pdss_one (pds_raise (k := 0) (xc_BadLine V) rfl (hr.mono (by decide)) (pd_add (pd_var 3) pd_int))) pdss_nil)
  (pdss_cons (pds_exprX (wx_need_nexts V) (hr.mono (by decide)) gd (pda_cons (pd_var 2) pda_nil) (aCons_len aNil_len))
  (pdss_one (pds_ret (pd_var 2)))))))
theorem wx_arena_in {P : Program} {w : World} {K : PySem.W.Frag} {mg : Str → Option Value} {base : Heap} (V : Vn K mg base) : FnX P w K mg base 7 "arena_in" 1 X_arena_in := by
  obtain ⟨a, fd, hm, FF⟩ := V.f_arena_in
  exact ⟨a, fd, ["text"], hm, FF.kp, binds_of (FunD.bindsA (ps := ["text"]) FF fun _ _ _ _ _ _ us hl => match us, hl with | [_], _ => rfl), gx_arena_in V FF⟩
def s__law_begun : S := (sSeq (sSet 1 (eMk (eDisp (pCons (eC (.str "great")) (eMl (eLcA [2] (aItem (eVar 0)) (bName 2) (tCmp geD (eVar 2) (eOp dPow (eC (.int 10)) (eC (.int 18)))) (eVar 2))) (pCons (eC (.str "small")) (eC (.int 0)) (pCons (eC (.str "at")) (eC (.int 0)) pNil))))))
  (sSeq (sFor (aItem (eVar 0)) (bName 2) (sIf (tCmp ltD (eVar 2) (eOp dPow (eC (.int 10)) (eC (.int 18)))) (sStore (eVar 1) (eC (.str "small")) (eOp addD (eOp addD (eOp dMul (eIx (eVar 1) (eC (.str "small"))) (eOp dPow (eC (.int 10)) (eC (.int 18)))) (eOp dMod (eVar 2) (eOp dPow (eC (.int 10)) (eC (.int 18))))) (eC (.int 1)))) sNil))
  (sRet (eVar 1))))
def F__law_begun : List D → M D := runF 3 s__law_begun
theorem sc__law_begun : FnScope ["_law_script", "_law_m", "_law_cell"] ["_law_script"] (defScope (top 30)) := ⟨rfl, rfl, rfl, by decide +kernel, rfl, by decide +kernel, by decide +kernel⟩
theorem g__law_begun {P : Program} {w : World} {K : PySem.W.Frag} {mg : Str → Option Value} {base : Heap} {a : Addr} {fd : FuncData} (V : Vn K mg base) (FF : FunD K "_law_begun" "_law_begun" (defArgs (top 30)) (defBody (top 30)) (defScope (top 30)) [] [] a fd) : FnG P w K mg base CX0 1 a fd ["_law_script"] (spD K 1 F__law_begun) := by
  have sc := sc__law_begun
  refine fn_dG (k := 0) FF sc fun cdv A outer s H E hr gd => ?_
  exact (pdss_cons (pds_set 1 sc.nd (pd_mk (pk_disp (ppd_cons (pd_str) (pd_ml (po_lc [("_law_cell", 2)] rfl sc.nd (pdi_val (pd_var 0)).weak (blk_of (by rfl)) (fun _ _ _ _ _ => (pdg_name 2 sc.nd)) (fun _ _ _ _ _ => (pdts_one (pdt_cmp op_geA geD_ok (pd_var 2).weak (pd_pow pd_int pd_int).weak))) (fun _ _ _ _ _ => (pd_var 2)))) (ppd_cons (pd_str) pd_int (ppd_cons (pd_str) pd_int ppd_nil))))))
  (pdss_cons (pds_for rfl (pdi_val (pd_var 0)) (pdg_name 2 sc.nd) (pdss_one (pds_if (pdt_cmp (op_ltA (hu0 hr)) ltD_ok (pd_var 2).weak (pd_pow pd_int pd_int).weak) (pdss_one (pds_store hr (pd_var 1) (pd_str) (pd_add (pd_add (pd_mul (pd_ix hr (pd_var 1) (pd_str)) (pd_pow pd_int pd_int)) (pd_mod (pd_var 2) (pd_pow pd_int pd_int))) pd_int))) pdss_nil)))
  (pdss_one (pds_ret (pd_var 1)))))
theorem w__law_begun {P : Program} {w : World} {K : PySem.W.Frag} {mg : Str → Option Value} {base : Heap} (V : Vn K mg base) : FnD P w K mg base 1 "_law_begun" 1 F__law_begun := by
  obtain ⟨a, fd, hm, FF⟩ := V.f__law_begun
  exact ⟨a, fd, ["_law_script"], hm, FF.kp, binds_of (FunD.bindsA (ps := ["_law_script"]) FF fun _ _ _ _ _ _ us hl => match us, hl with | [_], _ => rfl), g__law_begun V FF⟩
def s__law_draw : S := (sSeq (sSet 2 (eIx (eVar 0) (eC (.str "at"))))
  (sSeq (sStore (eVar 0) (eC (.str "at")) (eOp addD (eVar 2) (eC (.int 1))))
  (sSeq (sIf (tCmpR neD (eIx (eVar 0) (eC (.str "great"))) (eLst aNil)) (sSeq (sSet 3 (eOp dMod (eVar 2) (eBiR lenD (aCons (eIx (eVar 0) (eC (.str "great"))) aNil))))
  (sSeq (sSet 4 (eIx (eIx (eVar 0) (eC (.str "great"))) (eVar 3)))
  (sIf (tCmp gtD (eVar 4) (eC (.int 0))) (sSeq (sStore (eIx (eVar 0) (eC (.str "great"))) (eVar 3) (eOp dFdiv (eVar 4) (eVar 1)))
  (sRet (eOp dMod (eVar 4) (eVar 1)))) sNil))) sNil)
  (sSeq (sSet 5 (eLst (aCons (eC (.int 2147483647)) (aCons (eC (.int 2147483629)) (aCons (eC (.int 2147483587)) (aCons (eC (.int 2147483579)) (aCons (eC (.int 2147483563)) (aCons (eC (.int 2147483549)) (aCons (eC (.int 2147483543)) (aCons (eC (.int 2147483497)) aNil))))))))))
  (sSeq (sSet 6 (eOp dMod (eOp addD (eOp addD (eIx (eVar 0) (eC (.str "small"))) (eOp dMul (eC (.int 7919)) (eVar 2))) (eC (.int 17))) (eIx (eVar 5) (eOp dMod (eVar 2) (eC (.int 8))))))
  (sSeq (sSet 6 (eOp dMod (eOp addD (eOp dMul (eVar 6) (eOp addD (eC (.int 48271)) (eOp dMul (eC (.int 2)) (eVar 2)))) (eOp dMul (eC (.int 104729)) (eVar 2))) (eIx (eVar 5) (eOp dMod (eVar 2) (eC (.int 8))))))
  (sRet (eOp dMod (eOp dFdiv (eOp dMod (eOp dMul (eOp dMul (eVar 6) (eVar 6)) (eVar 6)) (eIx (eVar 5) (eOp dMod (eVar 2) (eC (.int 8))))) (eC (.int 7))) (eVar 1)))))))))
def F__law_draw : List D → M D := runF 7 s__law_draw
theorem sc__law_draw : FnScope ["_law_m", "_law_many", "_law_k", "_law_at", "_law_cell", "_law_primes", "_law_number_here"] ["_law_m", "_law_many"] (defScope (top 31)) := ⟨rfl, rfl, rfl, by decide +kernel, rfl, by decide +kernel, by decide +kernel⟩
theorem g__law_draw {P : Program} {w : World} {K : PySem.W.Frag} {mg : Str → Option Value} {base : Heap} {a : Addr} {fd : FuncData} (V : Vn K mg base) (FF : FunD K "_law_draw" "_law_draw" (defArgs (top 31)) (defBody (top 31)) (defScope (top 31)) [] [] a fd) : FnG P w K mg base CX0 1 a fd ["_law_m", "_law_many"] (spD K 2 F__law_draw) := by
  have sc := sc__law_draw
  refine fn_dG (k := 0) FF sc fun cdv A outer s H E hr gd => ?_
  exact (pdss_cons (pds_set 2 sc.nd (pd_ix hr (pd_var 0) (pd_str)))
  (pdss_cons (pds_store hr (pd_var 0) (pd_str) (pd_add (pd_var 2) pd_int))
  (pdss_cons (pds_if (pdt_cmpR (op_neD (hu64 hr)) neD_ok (pd_ix hr (pd_var 0) (pd_str)) (pd_lst pda_nil)) (pdss_cons (pds_set 3 sc.nd (pd_mod (pd_var 2) (pd_lenR V.b_len (pda_cons (pd_ix hr (pd_var 0) (pd_str)) pda_nil))))
  (pdss_cons (pds_set 4 sc.nd (pd_ix hr (pd_ix hr (pd_var 0) (pd_str)) (pd_var 3)))
  (pdss_one (pds_if (pdt_cmp op_gtA gtD_ok (pd_var 4).weak (pd_int).weak) (pdss_cons (pds_store hr (pd_ix hr (pd_var 0) (pd_str)) (pd_var 3) (pd_fdiv (pd_var 4) (pd_var 1)))
  (pdss_one (pds_ret (pd_mod (pd_var 4) (pd_var 1))))) pdss_nil)))) pdss_nil)
  (pdss_cons (pds_set 5 sc.nd (pd_lst (pda_cons pd_int (pda_cons pd_int (pda_cons pd_int (pda_cons pd_int (pda_cons pd_int (pda_cons pd_int (pda_cons pd_int (pda_cons pd_int pda_nil))))))))))
  (pdss_cons (pds_set 6 sc.nd (pd_mod (pd_add (pd_add (pd_ix hr (pd_var 0) (pd_str)) (pd_mul pd_int (pd_var 2))) pd_int) (pd_ix hr (pd_var 5) (pd_mod (pd_var 2) pd_int))))
  (pdss_cons (pds_set 6 sc.nd (pd_mod (pd_add (pd_mul (pd_var 6) (pd_add pd_int (pd_mul pd_int (pd_var 2)))) (pd_mul pd_int (pd_var 2))) (pd_ix hr (pd_var 5) (pd_mod (pd_var 2) pd_int))))
  (pdss_one (pds_ret (pd_mod (pd_fdiv (pd_mod (pd_mul (pd_mul (pd_var 6) (pd_var 6)) (pd_var 6)) (pd_ix hr (pd_var 5) (pd_mod (pd_var 2) pd_int))) pd_int) (pd_var 1))))))))))
theorem w__law_draw {P : Program} {w : World} {K : PySem.W.Frag} {mg : Str → Option Value} {base : Heap} (V : Vn K mg base) : FnD P w K mg base 1 "_law_draw" 2 F__law_draw := by
  obtain ⟨a, fd, hm, FF⟩ := V.f__law_draw
  exact ⟨a, fd, ["_law_m", "_law_many"], hm, FF.kp, binds_of (FunD.bindsA (ps := ["_law_m", "_law_many"]) FF fun _ _ _ _ _ _ us hl => match us, hl with | [_, _], _ => rfl), g__law_draw V FF⟩
def s__law_names : S := (sSeq (sParV [2, 3, 4] (vCons (vD (eCall F__law_draw (aCons (eVar 0) (aCons (eC (.int 4)) aNil)))) (vCons (vD (eCall F__law_draw (aCons (eVar 0) (aCons (eC (.int 26)) aNil)))) (vCons (vD (eC (.str "abcdefghijklmnopqrstuvwxyz"))) vNil))))
  (sSeq (sSet 5 (eO (aSplit 32 (eC (.str "place moves next players keep can till each yes mark not and or bound rooms")))))
  (sSeq (sSet 5 (eOp addD (eVar 5) (eLst (aCons (eC (.str "at")) (aCons (eC (.str "again")) (aCons (eC (.str "atlast")) (aCons (eC (.str "when")) aNil)))))))
  (sSeq (sSet 6 (eJoin (eC (.str "")) (eO (eLcA [8] (aIt range1M (aCons (eC (.int 8)) aNil)) (bName 8) tYesD (eIx (eVar 4) (eCall F__law_draw (aCons (eVar 0) (aCons (eC (.int 26)) aNil))))))))
  (sSeq (sIf (tCmp eqD (eVar 2) (eC (.int 0))) (sRet (eBi sortedM (aCons (eO (eLcA [8] (aIt range1M (aCons (eVar 1) aNil)) (bName 8) tYesD (eIx (eVar 5) (eOp dMod (eOp addD (eVar 3) (eOp dMul (eC (.int 4)) (eVar 8))) (eC (.int 19)))))) aNil))) sNil)
  (sSeq (sIf (tCmp eqD (eVar 2) (eC (.int 1))) (sRet (eBi sortedM (aCons (eO (eLcA [8] (aIt range1M (aCons (eVar 1) aNil)) (bName 8) tYesD (eSl (eVar 6) pNone (pSome (eOp addD (eC (.int 1)) (eOp dMod (eOp addD (eVar 3) (eOp dMul (eC (.int 3)) (eVar 8))) (eC (.int 8)))))))) aNil))) sNil)
  (sSeq (sSet 7 (eO (eLcA [8] (aIt range1M (aCons (eVar 1) aNil)) (bName 8) tYesD (eIx (eVar 4) (eOp dMod (eOp addD (eVar 3) (eOp dMul (eC (.int 5)) (eVar 8))) (eC (.int 26)))))))
  (sRet (eBi sortedM (aCons (eO (eLcA [9] (aItem (eVar 7)) (bName 9) tYesD (eOp addD (eSl (eVar 6) pNone (pSome (eOp dMul (eCall F__law_draw (aCons (eVar 0) (aCons (eC (.int 8)) aNil))) (eOp subD (eVar 2) (eC (.int 2)))))) (eVar 9)))) aNil))))))))))
def F__law_names : List D → M D := runF 10 s__law_names
theorem sc__law_names : FnScope ["_law_m", "_law_many", "_law_way", "_law_first", "_law_small", "_law_own", "_law_base", "_law_ends", "_law_k", "_law_end"] ["_law_m", "_law_many"] (defScope (top 32)) := ⟨rfl, rfl, rfl, by decide +kernel, rfl, by decide +kernel, by decide +kernel⟩
theorem g__law_names {P : Program} {w : World} {K : PySem.W.Frag} {mg : Str → Option Value} {base : Heap} {a : Addr} {fd : FuncData} (V : Vn K mg base) (FF : FunD K "_law_names" "_law_names" (defArgs (top 32)) (defBody (top 32)) (defScope (top 32)) [] [] a fd) : FnG P w K mg base CX0 2 a fd ["_law_m", "_law_many"] (spD K 2 F__law_names) := by
  have sc := sc__law_names
  refine fn_dG (k := 1) FF sc fun cdv A outer s H E hr gd => ?_
  exact (pdss_cons (pds_parN rfl (pgn_cons 2 sc.nd (pgn_cons 3 sc.nd (pgn_cons 4 sc.nd pgn_nil))) (pva_cons (pv_d (pd_call (w__law_draw V) (hr.mono (by decide)) gd (pda_cons (pd_var 0) (pda_cons pd_int pda_nil)) (aCons_len (aCons_len aNil_len)))) (pva_cons (pv_d (pd_call (w__law_draw V) (hr.mono (by decide)) gd (pda_cons (pd_var 0) (pda_cons pd_int pda_nil)) (aCons_len (aCons_len aNil_len)))) (pva_cons (pv_d (pd_str)) pva_nil))))
  (pdss_cons (pds_set 5 sc.nd (pd_new (po_split 32 (by rfl) (by decide) (pd_str))))
  (pdss_cons (pds_set 5 sc.nd (pd_add (pd_var 5) (pd_lst (pda_cons (pd_str) (pda_cons (pd_str) (pda_cons (pd_str) (pda_cons (pd_str) pda_nil)))))))
  (pdss_cons (pds_set 6 sc.nd (pd_join (pd_str) (pd_new (po_lc [("_law_k", 8)] rfl sc.nd (pdi_range1 V.b_range (pda_cons pd_int pda_nil)).weak (blk_of (by rfl)) (fun _ _ _ _ _ => (pdg_name 8 sc.nd)) (fun _ _ _ _ _ => pdts_nil) (fun _ _ _ _ _ => (pd_ix hr (pd_var 4) (pd_call (w__law_draw V) (hr.mono (by decide)) gd (pda_cons (pd_var 0) (pda_cons pd_int pda_nil)) (aCons_len (aCons_len aNil_len)))))))))
  (pdss_cons (pds_if (pdt_cmp (op_eqD (hu64 hr)) eqD_ok (pd_var 2).weak (pd_int).weak) (pdss_one (pds_ret (pd_sorted V.b_sorted (pda_cons (pd_new (po_lc [("_law_k", 8)] rfl sc.nd (pdi_range1 V.b_range (pda_cons (pd_var 1) pda_nil)).weak (blk_of (by rfl)) (fun _ _ _ _ _ => (pdg_name 8 sc.nd)) (fun _ _ _ _ _ => pdts_nil) (fun _ _ _ _ _ => (pd_ix hr (pd_var 5) (pd_mod (pd_add (pd_var 3) (pd_mul pd_int (pd_var 8))) pd_int))))) pda_nil)))) pdss_nil)
  (pdss_cons (pds_if (pdt_cmp (op_eqD (hu64 hr)) eqD_ok (pd_var 2).weak (pd_int).weak) (pdss_one (pds_ret (pd_sorted V.b_sorted (pda_cons (pd_new (po_lc [("_law_k", 8)] rfl sc.nd (pdi_range1 V.b_range (pda_cons (pd_var 1) pda_nil)).weak (blk_of (by rfl)) (fun _ _ _ _ _ => (pdg_name 8 sc.nd)) (fun _ _ _ _ _ => pdts_nil) (fun _ _ _ _ _ => (pd_slice (pd_var 6) pdp_none (pdp_some (pd_add pd_int (pd_mod (pd_add (pd_var 3) (pd_mul pd_int (pd_var 8))) pd_int))))))) pda_nil)))) pdss_nil)
  (pdss_cons (pds_setLc 7 [("_law_k", 8)] rfl sc.nd (pdi_range1 V.b_range (pda_cons (pd_var 1) pda_nil)).weak (blk_of (by rfl)) (fun _ _ _ _ _ => (pdg_name 8 sc.nd)) (fun _ _ _ _ _ => pdts_nil) (fun _ _ _ _ _ => (pd_ix hr (pd_var 4) (pd_mod (pd_add (pd_var 3) (pd_mul pd_int (pd_var 8))) pd_int))) (sw_true rfl rfl rfl (by decide +kernel)))
  (pdss_one (pds_ret (pd_sorted V.b_sorted (pda_cons (pd_new (po_lc [("_law_end", 9)] rfl sc.nd (pdi_val (pd_var 7)).weak (blk_of (by rfl)) (fun _ _ _ _ _ => (pdg_name 9 sc.nd)) (fun _ _ _ _ _ => pdts_nil) (fun _ _ _ _ _ => (pd_add (pd_slice (pd_var 6) pdp_none (pdp_some (pd_mul (pd_call (w__law_draw V) (hr.mono (by decide)) gd (pda_cons (pd_var 0) (pda_cons pd_int pda_nil)) (aCons_len (aCons_len aNil_len))) (pd_sub (pd_var 2) pd_int)))) (pd_var 9))))) pda_nil)))))))))))
theorem w__law_names {P : Program} {w : World} {K : PySem.W.Frag} {mg : Str → Option Value} {base : Heap} (V : Vn K mg base) : FnD P w K mg base 2 "_law_names" 2 F__law_names := by
  obtain ⟨a, fd, hm, FF⟩ := V.f__law_names
  exact ⟨a, fd, ["_law_m", "_law_many"], hm, FF.kp, binds_of (FunD.bindsA (ps := ["_law_m", "_law_many"]) FF fun _ _ _ _ _ _ us hl => match us, hl with | [_, _], _ => rfl), g__law_names V FF⟩
def s__law_arena : S := (sSeq (sParV [4, 5] (vCons (vD (eOp addD (eC (.int 1)) (eCall F__law_draw (aCons (eVar 0) (aCons (eVar 3) aNil))))) (vCons (vL (aSz aNil)) vNil)))
  (sSeq (sFor (aIt range1M (aCons (eVar 4) aNil)) (bName 6) (sSeq (sParV [7, 8] (vCons (vL (aSz aNil)) (vCons (vD (eC (.int 1))) vNil)))
  (sSeq (sFor (aItem (eVar 1)) (bName 9) (sSeq (sSet 10 (eOp addD (eC (.int 1)) (eCall F__law_draw (aCons (eVar 0) (aCons (eC (.int 3)) aNil)))))
  (sSeq (sAppend 7 (eIf (tCmp leD (eOp dMul (eVar 8) (eVar 10)) (eC (.int 36))) (eVar 10) (eC (.int 1))))
  (sSet 8 (eOp dMul (eVar 8) (eIxO 7 (eNeg (eC (.int 1)))))))))
  (sSeq (sSet 11 (eSl (eO (eLcA [13] (aItem (eVar 2)) (bName 13) (tCmp eqD (eCall F__law_draw (aCons (eVar 0) (aCons (eC (.int 2)) aNil))) (eC (.int 0))) (eVar 13))) pNone (pSome (eC (.int 4)))))
  (sSeq (sSet 12 (eO (eLcA [14] (aIt range1M (aCons (eVar 8) aNil)) (bName 14) tYesD (eCall F__law_draw (aCons (eVar 0) (aCons (eVar 4) aNil))))))
  (sFrz 7 (sAppend 5 (eTup (aCons (eBi tupleD (aCons (eVar 11) aNil)) (aCons (eBi tupleD (aCons (eVar 7) aNil)) (aCons (eBi tupleD (aCons (eVar 12) aNil)) aNil)))))))))))
  (sFrz 5 (sRet (eTup (aCons (eBi tupleD (aCons (eVar 1) aNil)) (aCons (eBi tupleD (aCons (eVar 5) aNil)) aNil)))))))
def F__law_arena : List D → M D := runF 15 s__law_arena
theorem sc__law_arena : FnScope ["_law_m", "_law_players", "_law_pool", "_law_top", "_law_many", "_law_places", "_law_place", "_law_counts", "_law_ways", "_law_player", "_law_moves", "_law_marks", "_law_nexts", "_law_one", "_law_joint"] ["_law_m", "_law_players", "_law_pool", "_law_top"] (defScope (top 33)) := ⟨rfl, rfl, rfl, by decide +kernel, rfl, by decide +kernel, by decide +kernel⟩
theorem g__law_arena {P : Program} {w : World} {K : PySem.W.Frag} {mg : Str → Option Value} {base : Heap} {a : Addr} {fd : FuncData} (V : Vn K mg base) (FF : FunD K "_law_arena" "_law_arena" (defArgs (top 33)) (defBody (top 33)) (defScope (top 33)) [] [] a fd) : FnG P w K mg base CX0 2 a fd ["_law_m", "_law_players", "_law_pool", "_law_top"] (spD K 4 F__law_arena) := by
  have sc := sc__law_arena
  refine fn_dG (k := 1) FF sc fun cdv A outer s H E hr gd => ?_
  exact (pdss_cons (pds_parN rfl (pgn_cons 4 sc.nd (pgn_cons 5 sc.nd pgn_nil)) (pva_cons (pv_d (pd_add pd_int (pd_call (w__law_draw V) (hr.mono (by decide)) gd (pda_cons (pd_var 0) (pda_cons (pd_var 3) pda_nil)) (aCons_len (aCons_len aNil_len))))) (pva_cons (pv_ol (po_lst pda_nil)) pva_nil)))
  (pdss_cons (pds_for rfl (pdi_range1 V.b_range (pda_cons (pd_var 4) pda_nil)) (pdg_name 6 sc.nd) (pdss_cons (pds_par2 7 8 rfl sc.nd (pva_cons (pv_ol (po_lst pda_nil)) (pva_cons (pv_d pd_int) pva_nil)))
  (pdss_cons (pds_for rfl (pdi_val (pd_var 1)) (pdg_name 9 sc.nd) (pdss_cons (pds_set 10 sc.nd (pd_add pd_int (pd_call (w__law_draw V) (hr.mono (by decide)) gd (pda_cons (pd_var 0) (pda_cons pd_int pda_nil)) (aCons_len (aCons_len aNil_len)))))
  (pdss_cons (pds_append 7 (pd_if (pdt_cmp op_leA leD_ok (pd_mul (pd_var 8) (pd_var 10)).weak (pd_int).weak) (pd_var 10) pd_int))
  (pdss_one (pds_set 8 sc.nd (pd_mul (pd_var 8) (pd_ixo hr 7 (pd_neg pd_int))))))))
  (pdss_cons (pds_set 11 sc.nd (pd_slice (pd_new (po_lc [("_law_one", 13)] rfl sc.nd (pdi_val (pd_var 2)).weak (blk_of (by rfl)) (fun _ _ _ _ _ => (pdg_name 13 sc.nd)) (fun _ _ _ _ _ => (pdts_one (pdt_cmp (op_eqD (hu64 hr)) eqD_ok (pd_call (w__law_draw V) (hr.mono (by decide)) gd (pda_cons (pd_var 0) (pda_cons pd_int pda_nil)) (aCons_len (aCons_len aNil_len))).weak (pd_int).weak))) (fun _ _ _ _ _ => (pd_var 13)))) pdp_none (pdp_some pd_int)))
  (pdss_cons (pds_setLc 12 [("_law_joint", 14)] rfl sc.nd (pdi_range1 V.b_range (pda_cons (pd_var 8) pda_nil)).weak (blk_of (by rfl)) (fun _ _ _ _ _ => (pdg_name 14 sc.nd)) (fun _ _ _ _ _ => pdts_nil) (fun _ _ _ _ _ => (pd_call (w__law_draw V) (hr.mono (by decide)) gd (pda_cons (pd_var 0) (pda_cons (pd_var 4) pda_nil)) (aCons_len (aCons_len aNil_len)))) (sw_true rfl rfl rfl (by decide +kernel)))
  (pdss_frz 7 (pdss_one (pds_append 5 (pd_tup (pda_cons (pd_tuple V.b_tuple (pda_cons (pd_var 11) pda_nil)) (pda_cons (pd_tuple V.b_tuple (pda_cons (pd_var 7) pda_nil)) (pda_cons (pd_tuple V.b_tuple (pda_cons (pd_var 12) pda_nil)) pda_nil))))))))))))
  (pdss_frz 5 (pdss_one (pds_ret (pd_tup (pda_cons (pd_tuple V.b_tuple (pda_cons (pd_var 1) pda_nil)) (pda_cons (pd_tuple V.b_tuple (pda_cons (pd_var 5) pda_nil)) pda_nil))))))))
theorem w__law_arena {P : Program} {w : World} {K : PySem.W.Frag} {mg : Str → Option Value} {base : Heap} (V : Vn K mg base) : FnD P w K mg base 2 "_law_arena" 4 F__law_arena := by
  obtain ⟨a, fd, hm, FF⟩ := V.f__law_arena
  exact ⟨a, fd, ["_law_m", "_law_players", "_law_pool", "_law_top"], hm, FF.kp, binds_of (FunD.bindsA (ps := ["_law_m", "_law_players", "_law_pool", "_law_top"]) FF fun _ _ _ _ _ _ us hl => match us, hl with | [_, _, _, _], _ => rfl), g__law_arena V FF⟩
def s__law_lines : S := (sSeq (sSetV 1 (vL (aSz (aCons (eJoin (eC (.str " ")) (eOp addD (eLst (aCons (eC (.str "players")) aNil)) (eBi listD (aCons (eIx (eVar 0) (eC (.int 0))) aNil)))) aNil))))
  (sSeq (sFor (aItem (eIx (eVar 0) (eC (.int 1)))) (bTup (bsCons (bName 2) (bsCons (bName 3) (bsCons (bName 4) bsNil)))) (sSeq (sAppend 1 (eJoin (eC (.str " ")) (eOp addD (eLst (aCons (eC (.str "place")) aNil)) (eBi listD (aCons (eVar 2) aNil)))))
  (sSeq (sAppend 1 (eJoin (eC (.str " ")) (eOp addD (eLst (aCons (eC (.str "moves")) aNil)) (eO (eLcA [5] (aItem (eVar 3)) (bName 5) tYesD (eUn strTD (eVar 5)))))))
  (sAppend 1 (eJoin (eC (.str " ")) (eOp addD (eLst (aCons (eC (.str "next")) aNil)) (eO (eLcA [5] (aItem (eVar 4)) (bName 5) tYesD (eUn strTD (eVar 5))))))))))
  (sFrz 1 (sRet (eVar 1)))))
def F__law_lines : List D → M D := runF 6 s__law_lines
theorem sc__law_lines : FnScope ["_law_ground", "_law_found", "_law_marks", "_law_counts", "_law_nexts", "_law_number_here"] ["_law_ground"] (defScope (top 34)) := ⟨rfl, rfl, rfl, by decide +kernel, rfl, by decide +kernel, by decide +kernel⟩
theorem g__law_lines {P : Program} {w : World} {K : PySem.W.Frag} {mg : Str → Option Value} {base : Heap} {a : Addr} {fd : FuncData} (V : Vn K mg base) (FF : FunD K "_law_lines" "_law_lines" (defArgs (top 34)) (defBody (top 34)) (defScope (top 34)) [] [] a fd) : FnG P w K mg base CX0 1 a fd ["_law_ground"] (spD K 1 F__law_lines) := by
  have sc := sc__law_lines
  refine fn_dG (k := 0) FF sc fun cdv A outer s H E hr gd => ?_
  exact (pdss_cons (pds_setV 1 sc.nd (pv_ol (po_lst (pda_cons (pd_join (pd_str) (pd_add (pd_lst (pda_cons (pd_str) pda_nil)) (pd_list V.b_list (pda_cons (pd_ix hr (pd_var 0) pd_int) pda_nil)))) pda_nil))))
  (pdss_cons (pds_for rfl (pdi_val (pd_ix hr (pd_var 0) pd_int)) (pdg_tup rfl (pdgs_cons (pdg_name 2 sc.nd) (pdgs_cons (pdg_name 3 sc.nd) (pdgs_cons (pdg_name 4 sc.nd) pdgs_nil)))) (pdss_cons (pds_append 1 (pd_join (pd_str) (pd_add (pd_lst (pda_cons (pd_str) pda_nil)) (pd_list V.b_list (pda_cons (pd_var 2) pda_nil)))))
  (pdss_cons (pds_append 1 (pd_join (pd_str) (pd_add (pd_lst (pda_cons (pd_str) pda_nil)) (pd_new (po_lc [("_law_number_here", 5)] rfl sc.nd (pdi_val (pd_var 3)).weak (blk_of (by rfl)) (fun _ _ _ _ _ => (pdg_name 5 sc.nd)) (fun _ _ _ _ _ => pdts_nil) (fun _ _ _ _ _ => (pd_strT V.b_str (pd_var 5))))))))
  (pdss_one (pds_append 1 (pd_join (pd_str) (pd_add (pd_lst (pda_cons (pd_str) pda_nil)) (pd_new (po_lc [("_law_number_here", 5)] rfl sc.nd (pdi_val (pd_var 4)).weak (blk_of (by rfl)) (fun _ _ _ _ _ => (pdg_name 5 sc.nd)) (fun _ _ _ _ _ => pdts_nil) (fun _ _ _ _ _ => (pd_strT V.b_str (pd_var 5))))))))))))
  (pdss_frz 1 (pdss_one (pds_ret (pd_var 1))))))
theorem w__law_lines {P : Program} {w : World} {K : PySem.W.Frag} {mg : Str → Option Value} {base : Heap} (V : Vn K mg base) : FnD P w K mg base 1 "_law_lines" 1 F__law_lines := by
  obtain ⟨a, fd, hm, FF⟩ := V.f__law_lines
  exact ⟨a, fd, ["_law_ground"], hm, FF.kp, binds_of (FunD.bindsA (ps := ["_law_ground"]) FF fun _ _ _ _ _ _ us hl => match us, hl with | [_], _ => rfl), g__law_lines V FF⟩
def s__law_is_name : S := (sRet (eAnd (eChain leD leD (eC (.int 1)) (eBi lenD (aCons (eVar 0) aNil)) (eC (.int 8))) (eCmp eqD (eO (eLcA [1] (aItem (eVar 0)) (bName 1) (tNot (tE (eChain leD leD (eC (.str "a")) (eVar 1) (eC (.str "z"))))) (eVar 1))) (eLst aNil))))
def F__law_is_name : List D → M D := runF 2 s__law_is_name
theorem sc__law_is_name : FnScope ["_law_spelt", "_law_sign"] ["_law_spelt"] (defScope (top 36)) := ⟨rfl, rfl, rfl, by decide +kernel, rfl, by decide +kernel, by decide +kernel⟩
theorem g__law_is_name {P : Program} {w : World} {K : PySem.W.Frag} {mg : Str → Option Value} {base : Heap} {a : Addr} {fd : FuncData} (V : Vn K mg base) (FF : FunD K "_law_is_name" "_law_is_name" (defArgs (top 36)) (defBody (top 36)) (defScope (top 36)) [] [] a fd) : FnG P w K mg base CX0 1 a fd ["_law_spelt"] (spD K 1 F__law_is_name) := by
  have sc := sc__law_is_name
  refine fn_dG (k := 0) FF sc fun cdv A outer s H E hr gd => ?_
  exact (pdss_one (pds_ret (pd_and (pd_chain op_leA op_leA leD_ok leD_ok (pd_int).weak (pd_len V.b_len (pba_cons (pd_var 0).weak pba_nil)).weak (pd_int).weak) (pd_one (pd_cmp (op_eqD (hu64 hr)) eqD_ok (pd_new (po_lc [("_law_sign", 1)] rfl sc.nd (pdi_val (pd_var 0)).weak (blk_of (by rfl)) (fun _ _ _ _ _ => (pdg_name 1 sc.nd)) (fun _ _ _ _ _ => (pdts_one (pdt_not (pdt_chain op_leA op_leA leD_ok leD_ok (pd_str).weak (pd_var 1).weak (pd_str).weak)))) (fun _ _ _ _ _ => (pd_var 1)))).weak (pd_lst pda_nil).weak)))))
theorem w__law_is_name {P : Program} {w : World} {K : PySem.W.Frag} {mg : Str → Option Value} {base : Heap} (V : Vn K mg base) : FnD P w K mg base 1 "_law_is_name" 1 F__law_is_name := by
  obtain ⟨a, fd, hm, FF⟩ := V.f__law_is_name
  exact ⟨a, fd, ["_law_spelt"], hm, FF.kp, binds_of (FunD.bindsA (ps := ["_law_spelt"]) FF fun _ _ _ _ _ _ us hl => match us, hl with | [_], _ => rfl), g__law_is_name V FF⟩
def s__law_is_rising : S := (sSeq (sIf (tCmp neD (eO (eLcA [1] (aItem (eVar 0)) (bName 1) (tNot (tE (eCall F__law_is_name (aCons (eVar 1) aNil)))) (eVar 1))) (eLst aNil)) (sRet (eC (.bl false))) sNil)
  (sRet (eCmp eqD (eO (eLcA [1, 2] (aIt zipM (aCons (eVar 0) (aCons (eSl (eVar 0) (pSome (eC (.int 1))) pNone) aNil))) (bTup (bsCons (bName 1) (bsCons (bName 2) bsNil))) (tNot (tCmp ltD (eVar 1) (eVar 2))) (eC (.int 1)))) (eLst aNil))))
def F__law_is_rising : List D → M D := runF 3 s__law_is_rising
theorem sc__law_is_rising : FnScope ["_law_some", "_law_one", "_law_other"] ["_law_some"] (defScope (top 35)) := ⟨rfl, rfl, rfl, by decide +kernel, rfl, by decide +kernel, by decide +kernel⟩
theorem g__law_is_rising {P : Program} {w : World} {K : PySem.W.Frag} {mg : Str → Option Value} {base : Heap} {a : Addr} {fd : FuncData} (V : Vn K mg base) (FF : FunD K "_law_is_rising" "_law_is_rising" (defArgs (top 35)) (defBody (top 35)) (defScope (top 35)) [] [] a fd) : FnG P w K mg base CX0 2 a fd ["_law_some"] (spD K 1 F__law_is_rising) := by
  have sc := sc__law_is_rising
  refine fn_dG (k := 1) FF sc fun cdv A outer s H E hr gd => ?_
  exact (pdss_cons (pds_if (pdt_cmp (op_neD (hu64 hr)) neD_ok (pd_new (po_lc [("_law_one", 1)] rfl sc.nd (pdi_val (pd_var 0)).weak (blk_of (by rfl)) (fun _ _ _ _ _ => (pdg_name 1 sc.nd)) (fun _ _ _ _ _ => (pdts_one (pdt_not (pdt_val (pd_call (w__law_is_name V) (hr.mono (by decide)) gd (pda_cons (pd_var 1) pda_nil) (aCons_len aNil_len)))))) (fun _ _ _ _ _ => (pd_var 1)))).weak (pd_lst pda_nil).weak) (pdss_one (pds_ret pd_bl)) pdss_nil)
  (pdss_one (pds_ret (pd_cmp (op_eqD (hu64 hr)) eqD_ok (pd_new (po_lc [("_law_one", 1), ("_law_other", 2)] rfl sc.nd (pdi_zip V.b_zip (pda_cons (pd_var 0) (pda_cons (pd_slice (pd_var 0) (pdp_some pd_int) pdp_none) pda_nil))).weak (blk_of (by rfl)) (fun _ _ _ _ _ => (pdg_tup rfl (pdgs_cons (pdg_name 1 sc.nd) (pdgs_cons (pdg_name 2 sc.nd) pdgs_nil)))) (fun _ _ _ _ _ => (pdts_one (pdt_not (pdt_cmp (op_ltA (hu0 hr)) ltD_ok (pd_var 1).weak (pd_var 2).weak)))) (fun _ _ _ _ _ => pd_int))).weak (pd_lst pda_nil).weak))))
theorem w__law_is_rising {P : Program} {w : World} {K : PySem.W.Frag} {mg : Str → Option Value} {base : Heap} (V : Vn K mg base) : FnD P w K mg base 2 "_law_is_rising" 1 F__law_is_rising := by
  obtain ⟨a, fd, hm, FF⟩ := V.f__law_is_rising
  exact ⟨a, fd, ["_law_some"], hm, FF.kp, binds_of (FunD.bindsA (ps := ["_law_some"]) FF fun _ _ _ _ _ _ us hl => match us, hl with | [_], _ => rfl), g__law_is_rising V FF⟩
def s__law_number : S := (sSeq (sIf (tOr (tCmp eqD (eVar 0) (eC (.str ""))) (tOr (tCmp gtD (eBi lenD (aCons (eVar 0) aNil)) (eC (.int 6))) (tCmp neD (eO (eLcA [1] (aItem (eVar 0)) (bName 1) (tCmp notInD (eVar 1) (eC (.str "0123456789"))) (eVar 1))) (eLst aNil)))) (sRet (eLst aNil)) sNil)
  (sRet (eIf (tAnd (tCmp eqD (eIx (eVar 0) (eC (.int 0))) (eC (.str "0"))) (tCmp neD (eVar 0) (eC (.str "0")))) (eLst aNil) (eLst (aCons (eUn intTD (eVar 0)) aNil)))))
def F__law_number : List D → M D := runF 2 s__law_number
theorem sc__law_number : FnScope ["_law_spelt", "_law_sign"] ["_law_spelt"] (defScope (top 37)) := ⟨rfl, rfl, rfl, by decide +kernel, rfl, by decide +kernel, by decide +kernel⟩
theorem g__law_number {P : Program} {w : World} {K : PySem.W.Frag} {mg : Str → Option Value} {base : Heap} {a : Addr} {fd : FuncData} (V : Vn K mg base) (FF : FunD K "_law_number" "_law_number" (defArgs (top 37)) (defBody (top 37)) (defScope (top 37)) [] [] a fd) : FnG P w K mg base CX0 1 a fd ["_law_spelt"] (spD K 1 F__law_number) := by
  have sc := sc__law_number
  refine fn_dG (k := 0) FF sc fun cdv A outer s H E hr gd => ?_
  exact (pdss_cons (pds_if (pdw_or (pdt_cmp (op_eqD (hu64 hr)) eqD_ok (pd_var 0).weak (pd_str).weak) (pdw_or (pdt_cmp op_gtA gtD_ok (pd_len V.b_len (pba_cons (pd_var 0).weak pba_nil)).weak (pd_int).weak) (pdw_or1 (pdt_cmp (op_neD (hu64 hr)) neD_ok (pd_new (po_lc [("_law_sign", 1)] rfl sc.nd (pdi_val (pd_var 0)).weak (blk_of (by rfl)) (fun _ _ _ _ _ => (pdg_name 1 sc.nd)) (fun _ _ _ _ _ => (pdts_one (pdt_cmp (op_notInA (hu65 hr)) notInD_ok (pd_var 1).weak (pd_str).weak))) (fun _ _ _ _ _ => (pd_var 1)))).weak (pd_lst pda_nil).weak)))).pt (pdss_one (pds_ret (pd_lst pda_nil))) pdss_nil)
  (pdss_one (pds_ret (pd_if (pdw_and (pdt_cmp (op_eqD (hu64 hr)) eqD_ok (pd_ix hr (pd_var 0) pd_int).weak (pd_str).weak) (pdw_and1 (pdt_cmp (op_neD (hu64 hr)) neD_ok (pd_var 0).weak (pd_str).weak))).pt (pd_lst pda_nil) (pd_lst (pda_cons (pd_intT V.b_int (pd_var 0)) pda_nil))))))
theorem w__law_number {P : Program} {w : World} {K : PySem.W.Frag} {mg : Str → Option Value} {base : Heap} (V : Vn K mg base) : FnD P w K mg base 1 "_law_number" 1 F__law_number := by
  obtain ⟨a, fd, hm, FF⟩ := V.f__law_number
  exact ⟨a, fd, ["_law_spelt"], hm, FF.kp, binds_of (FunD.bindsA (ps := ["_law_spelt"]) FF fun _ _ _ _ _ _ us hl => match us, hl with | [_], _ => rfl), g__law_number V FF⟩
def s__law_rows : S := (sSeq (sSet 1 (eO (eLcA [2] (aItem (eO (aSplit 10 (eVar 0)))) (bName 2) tYesD (eO (aSplit 32 (eVar 2))))))
  (sRet (eO (eLcA [3] (aItem (eVar 1)) (bName 3) tYesD (eIf (tCmp inD (eC (.str "")) (eVar 3)) (eC .non) (eVar 3))))))
def F__law_rows : List D → M D := runF 4 s__law_rows
theorem sc__law_rows : FnScope ["_law_spelt", "_law_rows_here", "_law_line_here", "_law_row"] ["_law_spelt"] (defScope (top 38)) := ⟨rfl, rfl, rfl, by decide +kernel, rfl, by decide +kernel, by decide +kernel⟩
theorem g__law_rows {P : Program} {w : World} {K : PySem.W.Frag} {mg : Str → Option Value} {base : Heap} {a : Addr} {fd : FuncData} (V : Vn K mg base) (FF : FunD K "_law_rows" "_law_rows" (defArgs (top 38)) (defBody (top 38)) (defScope (top 38)) [] [] a fd) : FnG P w K mg base CX0 1 a fd ["_law_spelt"] (spD K 1 F__law_rows) := by
  have sc := sc__law_rows
  refine fn_dG (k := 0) FF sc fun cdv A outer s H E hr gd => ?_
  exact (pdss_cons (pds_setLc 1 [("_law_line_here", 2)] rfl sc.nd (pdi_val (pd_new (po_split 10 (by rfl) (by decide) (pd_var 0)))).weak (blk_of (by rfl)) (fun _ _ _ _ _ => (pdg_name 2 sc.nd)) (fun _ _ _ _ _ => pdts_nil) (fun _ _ _ _ _ => (pd_new (po_split 32 (by rfl) (by decide) (pd_var 2)))) (sw_true rfl rfl rfl (by decide +kernel)))
  (pdss_one (pds_ret (pd_new (po_lc [("_law_row", 3)] rfl sc.nd (pdi_val (pd_var 1)).weak (blk_of (by rfl)) (fun _ _ _ _ _ => (pdg_name 3 sc.nd)) (fun _ _ _ _ _ => pdts_nil) (fun _ _ _ _ _ => (pd_if (pdt_cmp (op_inA (hu65 hr)) inD_ok (pd_str).weak (pd_var 3).weak) pd_non (pd_var 3))))))))
theorem w__law_rows {P : Program} {w : World} {K : PySem.W.Frag} {mg : Str → Option Value} {base : Heap} (V : Vn K mg base) : FnD P w K mg base 1 "_law_rows" 1 F__law_rows := by
  obtain ⟨a, fd, hm, FF⟩ := V.f__law_rows
  exact ⟨a, fd, ["_law_spelt"], hm, FF.kp, binds_of (FunD.bindsA (ps := ["_law_spelt"]) FF fun _ _ _ _ _ _ us hl => match us, hl with | [_], _ => rfl), g__law_rows V FF⟩
def s__law_behind : S := (sSeq (sIf (tOr (tCmp geD (eVar 1) (eBi lenD (aCons (eVar 0) aNil))) (tOr (tCmp isND (eIx (eVar 0) (eVar 1)) (eC .non)) (tCmp neD (eIx (eIx (eVar 0) (eVar 1)) (eC (.int 0))) (eVar 2)))) (sRet (eLst aNil)) sNil)
  (sRet (eLst (aCons (eSl (eIx (eVar 0) (eVar 1)) (pSome (eC (.int 1))) pNone) aNil))))
def F__law_behind : List D → M D := runF 3 s__law_behind
theorem sc__law_behind : FnScope ["_law_rows_here", "_law_at", "_law_said"] ["_law_rows_here", "_law_at", "_law_said"] (defScope (top 39)) := ⟨rfl, rfl, rfl, by decide +kernel, rfl, by decide +kernel, by decide +kernel⟩
theorem g__law_behind {P : Program} {w : World} {K : PySem.W.Frag} {mg : Str → Option Value} {base : Heap} {a : Addr} {fd : FuncData} (V : Vn K mg base) (FF : FunD K "_law_behind" "_law_behind" (defArgs (top 39)) (defBody (top 39)) (defScope (top 39)) [] [] a fd) : FnG P w K mg base CX0 1 a fd ["_law_rows_here", "_law_at", "_law_said"] (spD K 3 F__law_behind) := by
  have sc := sc__law_behind
  refine fn_dG (k := 0) FF sc fun cdv A outer s H E hr gd => ?_
  exact (pdss_cons (pds_if (pdw_or (pdt_cmp op_geA geD_ok (pd_var 1).weak (pd_len V.b_len (pba_cons (pd_var 0).weak pba_nil)).weak) (pdw_or (pdt_cmp op_isN isND_ok (pd_ix hr (pd_var 0) (pd_var 1)).weak (pd_non).weak) (pdw_or1 (pdt_cmp (op_neD (hu64 hr)) neD_ok (pd_ix hr (pd_ix hr (pd_var 0) (pd_var 1)) pd_int).weak (pd_var 2).weak)))).pt (pdss_one (pds_ret (pd_lst pda_nil))) pdss_nil)
  (pdss_one (pds_ret (pd_lst (pda_cons (pd_slice (pd_ix hr (pd_var 0) (pd_var 1)) (pdp_some pd_int) pdp_none) pda_nil)))))
theorem w__law_behind {P : Program} {w : World} {K : PySem.W.Frag} {mg : Str → Option Value} {base : Heap} (V : Vn K mg base) : FnD P w K mg base 1 "_law_behind" 3 F__law_behind := by
  obtain ⟨a, fd, hm, FF⟩ := V.f__law_behind
  exact ⟨a, fd, ["_law_rows_here", "_law_at", "_law_said"], hm, FF.kp, binds_of (FunD.bindsA (ps := ["_law_rows_here", "_law_at", "_law_said"]) FF fun _ _ _ _ _ _ us hl => match us, hl with | [_, _, _], _ => rfl), g__law_behind V FF⟩
def s__law_numbers : S := (sSeq (sSet 6 (eCall F__law_behind (aCons (eVar 0) (aCons (eVar 1) (aCons (eVar 2) aNil)))))
  (sSeq (sIf (tOr (tCmp eqD (eVar 6) (eLst aNil)) (tCmp neD (eBi lenD (aCons (eIx (eVar 6) (eC (.int 0))) aNil)) (eVar 5))) (sRet (eLst aNil)) sNil)
  (sSeq (sSet 7 (eO (eLcA [8] (aItem (eIx (eVar 6) (eC (.int 0)))) (bName 8) tYesD (eCall F__law_number (aCons (eVar 8) aNil)))))
  (sSeq (sIf (tCmp neD (eO (eLcA [8] (aItem (eVar 7)) (bName 8) (tOr (tCmp eqD (eVar 8) (eLst aNil)) (tNot (tE (eChain leD leD (eVar 3) (eIx (eVar 8) (eC (.int 0))) (eVar 4))))) (eVar 8))) (eLst aNil)) (sRet (eLst aNil)) sNil)
  (sRet (eLst (aCons (eO (eLcA [8] (aItem (eVar 7)) (bName 8) tYesD (eIx (eVar 8) (eC (.int 0))))) aNil)))))))
def F__law_numbers : List D → M D := runF 9 s__law_numbers
theorem sc__law_numbers : FnScope ["_law_rows_here", "_law_at", "_law_said", "_law_low", "_law_top", "_law_many", "_law_words", "_law_found", "_law_one"] ["_law_rows_here", "_law_at", "_law_said", "_law_low", "_law_top", "_law_many"] (defScope (top 40)) := ⟨rfl, rfl, rfl, by decide +kernel, rfl, by decide +kernel, by decide +kernel⟩
theorem g__law_numbers {P : Program} {w : World} {K : PySem.W.Frag} {mg : Str → Option Value} {base : Heap} {a : Addr} {fd : FuncData} (V : Vn K mg base) (FF : FunD K "_law_numbers" "_law_numbers" (defArgs (top 40)) (defBody (top 40)) (defScope (top 40)) [] [] a fd) : FnG P w K mg base CX0 2 a fd ["_law_rows_here", "_law_at", "_law_said", "_law_low", "_law_top", "_law_many"] (spD K 6 F__law_numbers) := by
  have sc := sc__law_numbers
  refine fn_dG (k := 1) FF sc fun cdv A outer s H E hr gd => ?_
  exact (pdss_cons (pds_set 6 sc.nd (pd_call (w__law_behind V) (hr.mono (by decide)) gd (pda_cons (pd_var 0) (pda_cons (pd_var 1) (pda_cons (pd_var 2) pda_nil))) (aCons_len (aCons_len (aCons_len aNil_len)))))
  (pdss_cons (pds_if (pdw_or (pdt_cmp (op_eqD (hu64 hr)) eqD_ok (pd_var 6).weak (pd_lst pda_nil).weak) (pdw_or1 (pdt_cmp (op_neD (hu64 hr)) neD_ok (pd_len V.b_len (pba_cons (pd_ix hr (pd_var 6) pd_int).weak pba_nil)).weak (pd_var 5).weak))).pt (pdss_one (pds_ret (pd_lst pda_nil))) pdss_nil)
  (pdss_cons (pds_setLc 7 [("_law_one", 8)] rfl sc.nd (pdi_val (pd_ix hr (pd_var 6) pd_int)).weak (blk_of (by rfl)) (fun _ _ _ _ _ => (pdg_name 8 sc.nd)) (fun _ _ _ _ _ => pdts_nil) (fun _ _ _ _ _ => (pd_call (w__law_number V) (hr.mono (by decide)) gd (pda_cons (pd_var 8) pda_nil) (aCons_len aNil_len))) (sw_true rfl rfl rfl (by decide +kernel)))
  (pdss_cons (pds_if (pdt_cmp (op_neD (hu64 hr)) neD_ok (pd_new (po_lc [("_law_one", 8)] rfl sc.nd (pdi_val (pd_var 7)).weak (blk_of (by rfl)) (fun _ _ _ _ _ => (pdg_name 8 sc.nd)) (fun _ _ _ _ _ => (pdts_one (pdw_or (pdt_cmp (op_eqD (hu64 hr)) eqD_ok (pd_var 8).weak (pd_lst pda_nil).weak) (pdw_or1 (pdt_not (pdt_chain op_leA op_leA leD_ok leD_ok (pd_var 3).weak (pd_ix hr (pd_var 8) pd_int).weak (pd_var 4).weak)))).pt)) (fun _ _ _ _ _ => (pd_var 8)))).weak (pd_lst pda_nil).weak) (pdss_one (pds_ret (pd_lst pda_nil))) pdss_nil)
  (pdss_one (pds_ret (pd_lst (pda_cons (pd_new (po_lc [("_law_one", 8)] rfl sc.nd (pdi_val (pd_var 7)).weak (blk_of (by rfl)) (fun _ _ _ _ _ => (pdg_name 8 sc.nd)) (fun _ _ _ _ _ => pdts_nil) (fun _ _ _ _ _ => (pd_ix hr (pd_var 8) pd_int)))) pda_nil))))))))
theorem w__law_numbers {P : Program} {w : World} {K : PySem.W.Frag} {mg : Str → Option Value} {base : Heap} (V : Vn K mg base) : FnD P w K mg base 2 "_law_numbers" 6 F__law_numbers := by
  obtain ⟨a, fd, hm, FF⟩ := V.f__law_numbers
  exact ⟨a, fd, ["_law_rows_here", "_law_at", "_law_said", "_law_low", "_law_top", "_law_many"], hm, FF.kp, binds_of (FunD.bindsA (ps := ["_law_rows_here", "_law_at", "_law_said", "_law_low", "_law_top", "_law_many"]) FF fun _ _ _ _ _ _ us hl => match us, hl with | [_, _, _, _, _, _], _ => rfl), g__law_numbers V FF⟩
def s__law_ground_told : S := (sSeq (sSet 1 (eCall F__law_behind (aCons (eVar 0) (aCons (eC (.int 0)) (aCons (eC (.str "players")) aNil)))))
  (sSeq (sIf (tOr (tCmp eqD (eVar 1) (eLst aNil)) (tOr (tNot (tE (eChain ltD ltD (eC (.int 0)) (eBi lenD (aCons (eIx (eVar 1) (eC (.int 0))) aNil)) (eC (.int 5))))) (tNot (tE (eCall F__law_is_rising (aCons (eIx (eVar 1) (eC (.int 0))) aNil)))))) (sRet (eTup (aCons (eC .non) (aCons (eC (.int 0)) (aCons (eC (.int 1)) aNil))))) sNil)
  (sSeq (sParV [2, 3] (vCons (vL (aSz aNil)) (vCons (vD (eC (.int 1))) vNil)))
  (sSeq (sWhile 100 (tOr (tCmp eqD (eVar 3) (eC (.int 1))) (tAnd (tCmp ltD (eBi lenD (aCons (eOwn 2) aNil)) (eC (.int 10))) (tCmp neD (eCall F__law_behind (aCons (eVar 0) (aCons (eVar 3) (aCons (eC (.str "place")) aNil)))) (eLst aNil)))) (sSeq (sSet 4 (eCall F__law_behind (aCons (eVar 0) (aCons (eVar 3) (aCons (eC (.str "place")) aNil)))))
  (sSeq (sIf (tOr (tCmp eqD (eVar 4) (eLst aNil)) (tOr (tCmp gtD (eBi lenD (aCons (eIx (eVar 4) (eC (.int 0))) aNil)) (eC (.int 4))) (tNot (tE (eCall F__law_is_rising (aCons (eIx (eVar 4) (eC (.int 0))) aNil)))))) (sRet (eTup (aCons (eC .non) (aCons (eC (.int 0)) (aCons (eOp addD (eVar 3) (eC (.int 1))) aNil))))) sNil)
  (sSeq (sParV [5, 6] (vCons (vD (eCall F__law_numbers (aCons (eVar 0) (aCons (eOp addD (eVar 3) (eC (.int 1))) (aCons (eC (.str "moves")) (aCons (eC (.int 1)) (aCons (eC (.int 3)) (aCons (eBi lenD (aCons (eIx (eVar 1) (eC (.int 0))) aNil)) aNil)))))))) (vCons (vD (eC (.int 1))) vNil)))
  (sSeq (sFor (aItem (eIf (tCmp neD (eVar 5) (eLst aNil)) (eIx (eVar 5) (eC (.int 0))) (eLst (aCons (eC (.int 37)) aNil)))) (bName 7) (sSet 6 (eOp dMul (eVar 6) (eVar 7))))
  (sSeq (sIf (tCmp gtD (eVar 6) (eC (.int 36))) (sRet (eTup (aCons (eC .non) (aCons (eC (.int 0)) (aCons (eOp addD (eVar 3) (eC (.int 2))) aNil))))) sNil)
  (sSeq (sSet 8 (eCall F__law_numbers (aCons (eVar 0) (aCons (eOp addD (eVar 3) (eC (.int 2))) (aCons (eC (.str "next")) (aCons (eC (.int 0)) (aCons (eC (.int 999999)) (aCons (eVar 6) aNil))))))))
  (sSeq (sIf (tCmp eqD (eVar 8) (eLst aNil)) (sRet (eTup (aCons (eC .non) (aCons (eC (.int 0)) (aCons (eOp addD (eVar 3) (eC (.int 3))) aNil))))) sNil)
  (sSeq (sAppend 2 (eTup (aCons (eBi tupleD (aCons (eIx (eVar 4) (eC (.int 0))) aNil)) (aCons (eBi tupleD (aCons (eIx (eVar 5) (eC (.int 0))) aNil)) (aCons (eBi tupleD (aCons (eIx (eVar 8) (eC (.int 0))) aNil)) aNil)))))
  (sSet 3 (eOp addD (eVar 3) (eC (.int 3)))))))))))))
  (sFrz 2 (sRet (eTup (aCons (eTup (aCons (eBi tupleD (aCons (eIx (eVar 1) (eC (.int 0))) aNil)) (aCons (eBi tupleD (aCons (eVar 2) aNil)) aNil))) (aCons (eVar 3) (aCons (eC (.int 0)) aNil))))))))))
def F__law_ground_told : List D → M D := runF 9 s__law_ground_told
theorem sc__law_ground_told : FnScope ["_law_rows_here", "_law_first", "_law_places", "_law_at", "_law_marks", "_law_counts", "_law_ways", "_law_count", "_law_nexts"] ["_law_rows_here"] (defScope (top 41)) := ⟨rfl, rfl, rfl, by decide +kernel, rfl, by decide +kernel, by decide +kernel⟩
theorem g__law_ground_told {P : Program} {w : World} {K : PySem.W.Frag} {mg : Str → Option Value} {base : Heap} {a : Addr} {fd : FuncData} (V : Vn K mg base) (FF : FunD K "_law_ground_told" "_law_ground_told" (defArgs (top 41)) (defBody (top 41)) (defScope (top 41)) [] [] a fd) : FnG P w K mg base CX0 3 a fd ["_law_rows_here"] (spD K 1 F__law_ground_told) := by
  have sc := sc__law_ground_told
  refine fn_dG (k := 2) FF sc fun cdv A outer s H E hr gd => ?_
  exact (pdss_cons (pds_set 1 sc.nd (pd_call (w__law_behind V) (hr.mono (by decide)) gd (pda_cons (pd_var 0) (pda_cons pd_int (pda_cons (pd_str) pda_nil))) (aCons_len (aCons_len (aCons_len aNil_len)))))
  (pdss_cons (pds_if (pdw_or (pdt_cmp (op_eqD (hu64 hr)) eqD_ok (pd_var 1).weak (pd_lst pda_nil).weak) (pdw_or (pdt_not (pdt_chain (op_ltA (hu0 hr)) (op_ltA (hu0 hr)) ltD_ok ltD_ok (pd_int).weak (pd_len V.b_len (pba_cons (pd_ix hr (pd_var 1) pd_int).weak pba_nil)).weak (pd_int).weak)) (pdw_or1 (pdt_not (pdt_val (pd_call (w__law_is_rising V) (hr.mono (by decide)) gd (pda_cons (pd_ix hr (pd_var 1) pd_int) pda_nil) (aCons_len aNil_len))))))).pt (pdss_one (pds_ret (pd_tup (pda_cons pd_non (pda_cons pd_int (pda_cons pd_int pda_nil)))))) pdss_nil)
  (pdss_cons (pds_par2 2 3 rfl sc.nd (pva_cons (pv_ol (po_lst pda_nil)) (pva_cons (pv_d pd_int) pva_nil)))
  (pdss_cons (pds_while 100 (pdw_or (pdt_cmp (op_eqD (hu64 hr)) eqD_ok (pd_var 3).weak (pd_int).weak) (pdw_or1 (pdw_and (pdt_cmp (op_ltA (hu0 hr)) ltD_ok (pd_len V.b_len (pba_cons (pb_own 2) pba_nil)).weak (pd_int).weak) (pdw_and1 (pdt_cmp (op_neD (hu64 hr)) neD_ok (pd_call (w__law_behind V) (hr.mono (by decide)) gd (pda_cons (pd_var 0) (pda_cons (pd_var 3) (pda_cons (pd_str) pda_nil))) (aCons_len (aCons_len (aCons_len aNil_len)))).weak (pd_lst pda_nil).weak))).pt)).pt (pdss_cons (pds_set 4 sc.nd (pd_call (w__law_behind V) (hr.mono (by decide)) gd (pda_cons (pd_var 0) (pda_cons (pd_var 3) (pda_cons (pd_str) pda_nil))) (aCons_len (aCons_len (aCons_len aNil_len)))))
  (pdss_cons (pds_if (pdw_or (pdt_cmp (op_eqD (hu64 hr)) eqD_ok (pd_var 4).weak (pd_lst pda_nil).weak) (pdw_or (pdt_cmp op_gtA gtD_ok (pd_len V.b_len (pba_cons (pd_ix hr (pd_var 4) pd_int).weak pba_nil)).weak (pd_int).weak) (pdw_or1 (pdt_not (pdt_val (pd_call (w__law_is_rising V) (hr.mono (by decide)) gd (pda_cons (pd_ix hr (pd_var 4) pd_int) pda_nil) (aCons_len aNil_len))))))).pt (pdss_one (pds_ret (pd_tup (pda_cons pd_non (pda_cons pd_int (pda_cons (pd_add (pd_var 3) pd_int) pda_nil)))))) pdss_nil)
  (pdss_cons (pds_par2 5 6 rfl sc.nd (pva_cons (pv_d (pd_call (w__law_numbers V) (hr.mono (by decide)) gd (pda_cons (pd_var 0) (pda_cons (pd_add (pd_var 3) pd_int) (pda_cons (pd_str) (pda_cons pd_int (pda_cons pd_int (pda_cons (pd_len V.b_len (pba_cons (pd_ix hr (pd_var 1) pd_int).weak pba_nil)) pda_nil)))))) (aCons_len (aCons_len (aCons_len (aCons_len (aCons_len (aCons_len aNil_len)))))))) (pva_cons (pv_d pd_int) pva_nil)))
  (pdss_cons (pds_for rfl (pdi_val (pd_if (pdt_cmp (op_neD (hu64 hr)) neD_ok (pd_var 5).weak (pd_lst pda_nil).weak) (pd_ix hr (pd_var 5) pd_int) (pd_lst (pda_cons pd_int pda_nil)))) (pdg_name 7 sc.nd) (pdss_one (pds_set 6 sc.nd (pd_mul (pd_var 6) (pd_var 7)))))
  (pdss_cons (pds_if (pdt_cmp op_gtA gtD_ok (pd_var 6).weak (pd_int).weak) (pdss_one (pds_ret (pd_tup (pda_cons pd_non (pda_cons pd_int (pda_cons (pd_add (pd_var 3) pd_int) pda_nil)))))) pdss_nil)
  (pdss_cons (pds_set 8 sc.nd (pd_call (w__law_numbers V) (hr.mono (by decide)) gd (pda_cons (pd_var 0) (pda_cons (pd_add (pd_var 3) pd_int) (pda_cons (pd_str) (pda_cons pd_int (pda_cons pd_int (pda_cons (pd_var 6) pda_nil)))))) (aCons_len (aCons_len (aCons_len (aCons_len (aCons_len (aCons_len aNil_len))))))))
  (pdss_cons (pds_if (pdt_cmp (op_eqD (hu64 hr)) eqD_ok (pd_var 8).weak (pd_lst pda_nil).weak) (pdss_one (pds_ret (pd_tup (pda_cons pd_non (pda_cons pd_int (pda_cons (pd_add (pd_var 3) pd_int) pda_nil)))))) pdss_nil)
  (pdss_cons (pds_append 2 (pd_tup (pda_cons (pd_tuple V.b_tuple (pda_cons (pd_ix hr (pd_var 4) pd_int) pda_nil)) (pda_cons (pd_tuple V.b_tuple (pda_cons (pd_ix hr (pd_var 5) pd_int) pda_nil)) (pda_cons (pd_tuple V.b_tuple (pda_cons (pd_ix hr (pd_var 8) pd_int) pda_nil)) pda_nil)))))
  (pdss_one (pds_set 3 sc.nd (pd_add (pd_var 3) pd_int))))))))))))
  (pdss_frz 2 (pdss_one (pds_ret (pd_tup (pda_cons (pd_tup (pda_cons (pd_tuple V.b_tuple (pda_cons (pd_ix hr (pd_var 1) pd_int) pda_nil)) (pda_cons (pd_tuple V.b_tuple (pda_cons (pd_var 2) pda_nil)) pda_nil))) (pda_cons (pd_var 3) (pda_cons pd_int pda_nil)))))))))))
theorem w__law_ground_told {P : Program} {w : World} {K : PySem.W.Frag} {mg : Str → Option Value} {base : Heap} (V : Vn K mg base) : FnD P w K mg base 3 "_law_ground_told" 1 F__law_ground_told := by
  obtain ⟨a, fd, hm, FF⟩ := V.f__law_ground_told
  exact ⟨a, fd, ["_law_rows_here"], hm, FF.kp, binds_of (FunD.bindsA (ps := ["_law_rows_here"]) FF fun _ _ _ _ _ _ us hl => match us, hl with | [_], _ => rfl), g__law_ground_told V FF⟩
def s__law_late : S := (sSeq (sSet 1 (eO (eLcA [2, 3] (aIt enumM (aCons (eIx (eVar 0) (eC (.int 1))) aNil)) (bTup (bsCons (bName 2) (bsCons (bName 3) bsNil))) (tCmp geD (eBi maxLD (aCons (eIx (eVar 3) (eC (.int 2))) aNil)) (eBi lenD (aCons (eIx (eVar 0) (eC (.int 1))) aNil))) (eVar 2))))
  (sRet (eIf (tCmp neD (eVar 1) (eLst aNil)) (eOp addD (eOp dMul (eC (.int 3)) (eIx (eVar 1) (eC (.int 0)))) (eC (.int 4))) (eC (.int 0)))))
def F__law_late : List D → M D := runF 4 s__law_late
theorem sc__law_late : FnScope ["_law_ground", "_law_far", "_law_k", "_law_place"] ["_law_ground"] (defScope (top 42)) := ⟨rfl, rfl, rfl, by decide +kernel, rfl, by decide +kernel, by decide +kernel⟩
theorem g__law_late {P : Program} {w : World} {K : PySem.W.Frag} {mg : Str → Option Value} {base : Heap} {a : Addr} {fd : FuncData} (V : Vn K mg base) (FF : FunD K "_law_late" "_law_late" (defArgs (top 42)) (defBody (top 42)) (defScope (top 42)) [] [] a fd) : FnG P w K mg base CX0 1 a fd ["_law_ground"] (spD K 1 F__law_late) := by
  have sc := sc__law_late
  refine fn_dG (k := 0) FF sc fun cdv A outer s H E hr gd => ?_
  exact (pdss_cons (pds_setLc 1 [("_law_k", 2), ("_law_place", 3)] rfl sc.nd (pdi_enum V.b_enumerate (pda_cons (pd_ix hr (pd_var 0) pd_int) pda_nil)).weak (blk_of (by rfl)) (fun _ _ _ _ _ => (pdg_tup rfl (pdgs_cons (pdg_name 2 sc.nd) (pdgs_cons (pdg_name 3 sc.nd) pdgs_nil)))) (fun _ _ _ _ _ => (pdts_one (pdt_cmp op_geA geD_ok (pd_maxL rfl V.b_max (pba_cons (pd_ix hr (pd_var 3) pd_int).weak pba_nil)).weak (pd_len V.b_len (pba_cons (pd_ix hr (pd_var 0) pd_int).weak pba_nil)).weak))) (fun _ _ _ _ _ => (pd_var 2)) (sw_true rfl rfl rfl (by decide +kernel)))
  (pdss_one (pds_ret (pd_if (pdt_cmp (op_neD (hu64 hr)) neD_ok (pd_var 1).weak (pd_lst pda_nil).weak) (pd_add (pd_mul pd_int (pd_ix hr (pd_var 1) pd_int)) pd_int) pd_int))))
theorem w__law_late {P : Program} {w : World} {K : PySem.W.Frag} {mg : Str → Option Value} {base : Heap} (V : Vn K mg base) : FnD P w K mg base 1 "_law_late" 1 F__law_late := by
  obtain ⟨a, fd, hm, FF⟩ := V.f__law_late
  exact ⟨a, fd, ["_law_ground"], hm, FF.kp, binds_of (FunD.bindsA (ps := ["_law_ground"]) FF fun _ _ _ _ _ _ us hl => match us, hl with | [_], _ => rfl), g__law_late V FF⟩
def s__law_bent : S := (sSeq (sParV [3, 4, 5] (vCons (vD (eCall F__law_draw (aCons (eVar 0) (aCons (eC (.int 12)) aNil)))) (vCons (vD (eOp dMod (eCall F__law_draw (aCons (eVar 0) (aCons (eC (.int 1000)) aNil))) (eBi lenD (aCons (eVar 1) aNil)))) (vCons (vD (eOp dMod (eCall F__law_draw (aCons (eVar 0) (aCons (eC (.int 1000)) aNil))) (eBi lenD (aCons (eVar 1) aNil)))) vNil))))
  (sSeq (sParV [6, 7] (vCons (vL (aSplit 32 (eIx (eVar 1) (eVar 4)))) (vCons (vD (eIx (eVar 2) (eCall F__law_draw (aCons (eVar 0) (aCons (eBi lenD (aCons (eVar 2) aNil)) aNil))))) vNil)))
  (sSeq (sSet 8 (eOp dMod (eCall F__law_draw (aCons (eVar 0) (aCons (eC (.int 1000)) aNil))) (eBi lenD (aCons (eOwn 6) aNil))))
  (sSeq (sIf (tCmp eqD (eVar 3) (eC (.int 0))) (sRet (eOp addD (eSl (eVar 1) pNone (pSome (eVar 4))) (eSl (eVar 1) (pSome (eOp addD (eVar 4) (eC (.int 1)))) pNone))) sNil)
  (sSeq (sIf (tCmp eqD (eVar 3) (eC (.int 1))) (sRet (eOp addD (eOp addD (eSl (eVar 1) pNone (pSome (eVar 4))) (eLst (aCons (eIx (eVar 1) (eVar 5)) aNil))) (eSl (eVar 1) (pSome (eVar 4)) pNone))) sNil)
  (sSeq (sIf (tCmp eqD (eVar 3) (eC (.int 2))) (sRet (eOp addD (eOp addD (eSl (eVar 1) pNone (pSome (eVar 4))) (eLst (aCons (eIx (eVar 1) (eVar 5)) aNil))) (eSl (eVar 1) (pSome (eOp addD (eVar 4) (eC (.int 1)))) pNone))) sNil)
  (sSeq (sIf (tCmp eqD (eVar 3) (eC (.int 3))) (sSeq (sSet 9 (eIx (eLst (aCons (eOp addD (eIx (eVar 1) (eVar 4)) (eC (.str " "))) (aCons (eOp addD (eC (.str " ")) (eIx (eVar 1) (eVar 4))) (aCons (eRepl " " "  " (eIx (eVar 1) (eVar 4))) (aCons (eC (.str "")) aNil))))) (eOp dMod (eVar 5) (eC (.int 4)))))
  (sRet (eOp addD (eOp addD (eSl (eVar 1) pNone (pSome (eVar 4))) (eLst (aCons (eVar 9) aNil))) (eSl (eVar 1) (pSome (eOp addD (eVar 4) (eC (.int 1)))) pNone)))) sNil)
  (sSeq (sIf (tCmp eqD (eVar 3) (eC (.int 4))) (sRet (eIx (eLst (aCons (eOp addD (eVar 1) (eLst (aCons (eC (.str "")) aNil))) (aCons (eOp addD (eLst (aCons (eC (.str "")) aNil)) (eVar 1)) (aCons (eOp addD (eVar 1) (eVar 1)) (aCons (eSl (eVar 1) pNone (pSome (eVar 4))) aNil))))) (eOp dMod (eVar 5) (eC (.int 4))))) sNil)
  (sSeq (sIf (tCmp ltD (eVar 3) (eC (.int 8))) (sSetO 6 (eVar 8) (eVar 7)) (sIf (tCmp eqD (eVar 3) (eC (.int 8))) (sInsert 6 (eVar 8) (eVar 7)) (sIf (tCmp eqD (eVar 3) (eC (.int 9))) (sPopL 6 (eVar 8)) (sIf (tCmp eqD (eVar 3) (eC (.int 10))) (sInsert 6 (eVar 8) (eIxO 6 (eVar 8))) (sFrz 6 (sSetV 6 (vD (eOp addD (eSl (eVar 6) pNone (pSome (eVar 8))) (eO (aRev (eSl (eVar 6) (pSome (eVar 8)) pNone)))))))))))
  (sFrz 6 (sRet (eOp addD (eOp addD (eSl (eVar 1) pNone (pSome (eVar 4))) (eLst (aCons (eJoin (eC (.str " ")) (eVar 6)) aNil))) (eSl (eVar 1) (pSome (eOp addD (eVar 4) (eC (.int 1)))) pNone)))))))))))))
def F__law_bent : List D → M D := runF 10 s__law_bent
theorem sc__law_bent : FnScope ["_law_m", "_law_lines_here", "_law_near", "_law_way", "_law_at", "_law_to", "_law_words", "_law_word", "_law_place", "_law_line_here"] ["_law_m", "_law_lines_here", "_law_near"] (defScope (top 43)) := ⟨rfl, rfl, rfl, by decide +kernel, rfl, by decide +kernel, by decide +kernel⟩
theorem g__law_bent {P : Program} {w : World} {K : PySem.W.Frag} {mg : Str → Option Value} {base : Heap} {a : Addr} {fd : FuncData} (V : Vn K mg base) (FF : FunD K "_law_bent" "_law_bent" (defArgs (top 43)) (defBody (top 43)) (defScope (top 43)) [] [] a fd) : FnG P w K mg base CX0 2 a fd ["_law_m", "_law_lines_here", "_law_near"] (spD K 3 F__law_bent) := by
  have sc := sc__law_bent
  refine fn_dG (k := 1) FF sc fun cdv A outer s H E hr gd => ?_
  exact (pdss_cons (pds_par3 3 4 5 rfl sc.nd (pva_cons (pv_d (pd_call (w__law_draw V) (hr.mono (by decide)) gd (pda_cons (pd_var 0) (pda_cons pd_int pda_nil)) (aCons_len (aCons_len aNil_len)))) (pva_cons (pv_d (pd_mod (pd_call (w__law_draw V) (hr.mono (by decide)) gd (pda_cons (pd_var 0) (pda_cons pd_int pda_nil)) (aCons_len (aCons_len aNil_len))) (pd_len V.b_len (pba_cons (pd_var 1).weak pba_nil)))) (pva_cons (pv_d (pd_mod (pd_call (w__law_draw V) (hr.mono (by decide)) gd (pda_cons (pd_var 0) (pda_cons pd_int pda_nil)) (aCons_len (aCons_len aNil_len))) (pd_len V.b_len (pba_cons (pd_var 1).weak pba_nil)))) pva_nil))))
  (pdss_cons (pds_par2 6 7 rfl sc.nd (pva_cons (pv_ol (po_split 32 (by rfl) (by decide) (pd_ix hr (pd_var 1) (pd_var 4)))) (pva_cons (pv_d (pd_ix hr (pd_var 2) (pd_call (w__law_draw V) (hr.mono (by decide)) gd (pda_cons (pd_var 0) (pda_cons (pd_len V.b_len (pba_cons (pd_var 2).weak pba_nil)) pda_nil)) (aCons_len (aCons_len aNil_len))))) pva_nil)))
  (pdss_cons (pds_set 8 sc.nd (pd_mod (pd_call (w__law_draw V) (hr.mono (by decide)) gd (pda_cons (pd_var 0) (pda_cons pd_int pda_nil)) (aCons_len (aCons_len aNil_len))) (pd_len V.b_len (pba_cons (pb_own 6) pba_nil))))
  (pdss_cons (pds_if (pdt_cmp (op_eqD (hu64 hr)) eqD_ok (pd_var 3).weak (pd_int).weak) (pdss_one (pds_ret (pd_add (pd_slice (pd_var 1) pdp_none (pdp_some (pd_var 4))) (pd_slice (pd_var 1) (pdp_some (pd_add (pd_var 4) pd_int)) pdp_none)))) pdss_nil)
  (pdss_cons (pds_if (pdt_cmp (op_eqD (hu64 hr)) eqD_ok (pd_var 3).weak (pd_int).weak) (pdss_one (pds_ret (pd_add (pd_add (pd_slice (pd_var 1) pdp_none (pdp_some (pd_var 4))) (pd_lst (pda_cons (pd_ix hr (pd_var 1) (pd_var 5)) pda_nil))) (pd_slice (pd_var 1) (pdp_some (pd_var 4)) pdp_none)))) pdss_nil)
  (pdss_cons (pds_if (pdt_cmp (op_eqD (hu64 hr)) eqD_ok (pd_var 3).weak (pd_int).weak) (pdss_one (pds_ret (pd_add (pd_add (pd_slice (pd_var 1) pdp_none (pdp_some (pd_var 4))) (pd_lst (pda_cons (pd_ix hr (pd_var 1) (pd_var 5)) pda_nil))) (pd_slice (pd_var 1) (pdp_some (pd_add (pd_var 4) pd_int)) pdp_none)))) pdss_nil)
  (pdss_cons (pds_if (pdt_cmp (op_eqD (hu64 hr)) eqD_ok (pd_var 3).weak (pd_int).weak) (pdss_cons (pds_set 9 sc.nd (pd_ix hr (pd_lstO (pdo_opR op_addA addD_ok (pd_ix hr (pd_var 1) (pd_var 4))) (pdaz_cons (pdz_of (pd_add (pd_str) (pd_ix hr (pd_var 1) (pd_var 4)))) (pdaz_cons (pdz_repl (pd_ix hr (pd_var 1) (pd_var 4))) (pdaz_cons (pdz_of (pd_str)) pdaz_nil)))) (pd_mod (pd_var 5) pd_int)))
  (pdss_one (pds_ret (pd_add (pd_add (pd_slice (pd_var 1) pdp_none (pdp_some (pd_var 4))) (pd_lst (pda_cons (pd_var 9) pda_nil))) (pd_slice (pd_var 1) (pdp_some (pd_add (pd_var 4) pd_int)) pdp_none))))) pdss_nil)
  (pdss_cons (pds_if (pdt_cmp (op_eqD (hu64 hr)) eqD_ok (pd_var 3).weak (pd_int).weak) (pdss_one (pds_ret (pd_ix hr (pd_lst (pda_cons (pd_add (pd_var 1) (pd_lst (pda_cons (pd_str) pda_nil))) (pda_cons (pd_add (pd_lst (pda_cons (pd_str) pda_nil)) (pd_var 1)) (pda_cons (pd_add (pd_var 1) (pd_var 1)) (pda_cons (pd_slice (pd_var 1) pdp_none (pdp_some (pd_var 4))) pda_nil))))) (pd_mod (pd_var 5) pd_int)))) pdss_nil)
  (pdss_cons (pds_if (pdt_cmp (op_ltA (hu0 hr)) ltD_ok (pd_var 3).weak (pd_int).weak) (pdss_one (pds_setO 6 (pd_var 8) (pd_var 7))) (pdss_one (pds_if (pdt_cmp (op_eqD (hu64 hr)) eqD_ok (pd_var 3).weak (pd_int).weak) (pdss_one (pds_insert 6 (pd_var 8) (pd_var 7))) (pdss_one (pds_if (pdt_cmp (op_eqD (hu64 hr)) eqD_ok (pd_var 3).weak (pd_int).weak) (pdss_one (pds_popL 6 (pd_var 8))) (pdss_one (pds_if (pdt_cmp (op_eqD (hu64 hr)) eqD_ok (pd_var 3).weak (pd_int).weak) (pdss_one (pds_insert 6 (pd_var 8) (pd_ixo hr 6 (pd_var 8)))) (pdss_frz 6 (pdss_one (pds_setV 6 sc.nd (pv_d (pd_add (pd_slice (pd_var 6) pdp_none (pdp_some (pd_var 8))) (pd_new (po_rev (pd_slice (pd_var 6) (pdp_some (pd_var 8)) pdp_none)))))))))))))))
  (pdss_frz 6 (pdss_one (pds_ret (pd_add (pd_add (pd_slice (pd_var 1) pdp_none (pdp_some (pd_var 4))) (pd_lst (pda_cons (pd_join (pd_str) (pd_var 6)) pda_nil))) (pd_slice (pd_var 1) (pdp_some (pd_add (pd_var 4) pd_int)) pdp_none))))))))))))))
theorem w__law_bent {P : Program} {w : World} {K : PySem.W.Frag} {mg : Str → Option Value} {base : Heap} (V : Vn K mg base) : FnD P w K mg base 2 "_law_bent" 3 F__law_bent := by
  obtain ⟨a, fd, hm, FF⟩ := V.f__law_bent
  exact ⟨a, fd, ["_law_m", "_law_lines_here", "_law_near"], hm, FF.kp, binds_of (FunD.bindsA (ps := ["_law_m", "_law_lines_here", "_law_near"]) FF fun _ _ _ _ _ _ us hl => match us, hl with | [_, _, _], _ => rfl), g__law_bent V FF⟩
theorem sc__law_error : FnScope ["_law_deed", "_law_found", "_law_e"] ["_law_deed"] (defScope (top 44)) := ⟨rfl, rfl, rfl, by decide +kernel, rfl, by decide +kernel, by decide +kernel⟩
def s__law_error (c : M Rx) : S := (sSeq (sSet 1 (eC .non))
  (sSeq (sTry (sExprR (cFn 0 c)) [⟨fun nm => subXs xt nm ["Refused", "Barred", "Beyond"], 2, (sSet 1 (eVar 2))⟩])
  (sRet (eVar 1))))
def F__law_error : M Rx → M D := runT 3 s__law_error
theorem t__law_error {P : Program} {w : World} {K : PySem.W.Frag} {mg : Str → Option Value} {base : Heap} (V : Vn K mg base) : FnT P w K mg base 9 8 "_law_error" F__law_error := by
  obtain ⟨a, fd, hm, FF⟩ := V.f__law_error
  refine fn_dT (k := 8) (kt := 8) hm FF sc__law_error (fun s u => L2.FunD.bindsA (ps := ["_law_deed"]) FF (fun _ _ _ _ _ _ us hl => match us, hl with | [_], _ => rfl) s [u] rfl) fun Li c cdv A outer s H E hr gd TH => ?_
  letI := Li
  have sc := sc__law_error
  exact (pdss_cons (pds_set 1 sc.nd pd_non)
  (pdss_cons (pds_tryT rfl rfl sc.nd (fun _ _ _ => (pdss_one (pds_exprR (px_fn (i := 0) TH.tr (hr.mono (by decide)) gd)))) (cl := ⟨fun nm => subXs xt nm ["Refused", "Barred", "Beyond"], 2, (sSet 1 (eVar 2))⟩) ⟨⟨_, _, _, _, _, _, _, _, _, _, _, _, _, _, _, rfl, rfl, ⟨rfl, by decide, .inl V.k_Refused⟩, ⟨rfl, by decide, .inl V.k_Barred⟩, ⟨rfl, by decide, .inl V.k_Beyond⟩, xb_exmAny (ys := ["Refused", "Barred", "Beyond"]) V.xb (by decide +kernel), rfl, rfl, fun _ _ => (pdsa_of (pdss_one (pds_set 1 sc.nd (pd_var 2))))⟩⟩)
  (pdss_one (pds_ret (pd_var 1)))))
def s__law_line : S := (sSeq (sIf (tCmp isND (eVar 0) (eC .non)) (sRet (eC .non)) sNil)
  (sRet (eIf (tAnd (tE (eIsX (fun nm => subX xt nm "BadLine") (eVar 0))) (tE (eIsX (fun nm => subX xt nm "ValueError") (eVar 0)))) (eAtX (hasF xt "line") "line" (eVar 0)) (eOp subD (eC (.int 0)) (eC (.int 1))))))
def F__law_line : List D → M D := runF 1 s__law_line
theorem sc__law_line : FnScope ["_law_e"] ["_law_e"] (defScope (top 45)) := ⟨rfl, rfl, rfl, by decide +kernel, rfl, by decide +kernel, by decide +kernel⟩
theorem g__law_line {P : Program} {w : World} {K : PySem.W.Frag} {mg : Str → Option Value} {base : Heap} {a : Addr} {fd : FuncData} (V : Vn K mg base) (FF : FunD K "_law_line" "_law_line" (defArgs (top 45)) (defBody (top 45)) (defScope (top 45)) [] [] a fd) : FnG P w K mg base CX0 1 a fd ["_law_e"] (spD K 1 F__law_line) := by
  have sc := sc__law_line
  refine fn_dG (k := 0) FF sc fun cdv A outer s H E hr gd => ?_
  exact (pdss_cons (pds_if (pdt_cmp op_isN isND_ok (pd_var 0).weak (pd_non).weak) (pdss_one (pds_ret pd_non)) pdss_nil)
  (pdss_one (pds_ret (pd_if (pdw_and (pdt_val (pd_isXo V.b_isinstance V.k_BadLine (xb_own V.xb (by decide +kernel)) (pd_var 0))) (pdw_and1 (pdt_val (pd_isXb "ValueError" V.b_isinstance V.b_ValueError (xb_blt (y := ("ValueError", "ValueError")) V.xb (by decide +kernel)) (pd_var 0))))).pt (pd_atX (xb_at V.xb "line") (pd_var 0)) (pd_sub pd_int pd_int)))))
theorem w__law_line {P : Program} {w : World} {K : PySem.W.Frag} {mg : Str → Option Value} {base : Heap} (V : Vn K mg base) : FnD P w K mg base 1 "_law_line" 1 F__law_line := by
  obtain ⟨a, fd, hm, FF⟩ := V.f__law_line
  exact ⟨a, fd, ["_law_e"], hm, FF.kp, binds_of (FunD.bindsA (ps := ["_law_e"]) FF fun _ _ _ _ _ _ us hl => match us, hl with | [_], _ => rfl), g__law_line V FF⟩
def s__law_read_right : S := (sSeq (sSet 1 (eCall F__law_rows (aCons (eVar 0) aNil)))
  (sSeq (sAsg (bTup (bsCons (bName 2) (bsCons (bName 3) (bsCons (bName 4) bsNil)))) (eCall F__law_ground_told (aCons (eVar 1) aNil)))
  (sSeq (sIf (tCmp eqD (eVar 4) (eC (.int 0))) (sSet 4 (eIf (tCmp ltD (eVar 3) (eBi lenD (aCons (eVar 1) aNil))) (eOp addD (eVar 3) (eC (.int 1))) (eCall F__law_late (aCons (eVar 2) aNil)))) sNil)
  (sSeq (sSet 5 (eLam 0 "_law_read_right" F__law_error (cCall X_arena_in (aCons (eVar 0) aNil))))
  (sSeq (sIf (tCmp gtD (eVar 4) (eC (.int 0))) (sRet (eCmp eqD (eCall F__law_line (aCons (eVar 5) aNil)) (eVar 4))) sNil)
  (sRet (eAnd (eCmp isND (eVar 5) (eC .non)) (eCmp eqD (eBi reprD (aCons (fOk (cCall X_arena_in (aCons (eVar 0) aNil))) aNil)) (eBi reprD (aCons (eVar 2) aNil))))))))))
def F__law_read_right : List D → M D := runF 6 s__law_read_right
theorem sc__law_read_right : FnScope ["_law_spelt", "_law_rows_here", "_law_due", "_law_many", "_law_line_here", "_law_caught"] ["_law_spelt"] (defScope (top 46)) := ⟨rfl, rfl, rfl, by decide +kernel, rfl, by decide +kernel, by decide +kernel⟩
theorem g__law_read_right {P : Program} {w : World} {K : PySem.W.Frag} {mg : Str → Option Value} {base : Heap} {a : Addr} {fd : FuncData} (V : Vn K mg base) (hm : mg "_law_read_right" = some (.ref a)) (FF : FunD K "_law_read_right" "_law_read_right" (defArgs (top 46)) (defBody (top 46)) (defScope (top 46)) [] [] a fd) : FnG P w K mg base CX0 10 a fd ["_law_spelt"] (spD K 1 F__law_read_right) := by
  have sc := sc__law_read_right
  refine fn_dGL (k := 9) hm V.kb V.nb (V.tb "_law_read_right" (by decide)) FF sc fun cdv A outer s H E hr gd TO => ?_
  exact (pdss_cons (pds_set 1 sc.nd (pd_call (w__law_rows V) (hr.mono (by decide)) gd (pda_cons (pd_var 0) pda_nil) (aCons_len aNil_len)))
  (pdss_cons (pds_asg (pd_call (w__law_ground_told V) (hr.mono (by decide)) gd (pda_cons (pd_var 1) pda_nil) (aCons_len aNil_len)) (pdg_tup rfl (pdgs_cons (pdg_name 2 sc.nd) (pdgs_cons (pdg_name 3 sc.nd) (pdgs_cons (pdg_name 4 sc.nd) pdgs_nil)))))
  (pdss_cons (pds_if (pdt_cmp (op_eqD (hu64 hr)) eqD_ok (pd_var 4).weak (pd_int).weak) (pdss_one (pds_set 4 sc.nd (pd_if (pdt_cmp (op_ltA (hu0 hr)) ltD_ok (pd_var 3).weak (pd_len V.b_len (pba_cons (pd_var 1).weak pba_nil)).weak) (pd_add (pd_var 3) pd_int) (pd_call (w__law_late V) (hr.mono (by decide)) gd (pda_cons (pd_var 2) pda_nil) (aCons_len aNil_len))))) pdss_nil)
  (pdss_cons (pds_set 5 sc.nd (pd_lamT (kt := 7) (t__law_error V) TO (hr.mono (by decide)) gd (by rfl) (fun _ _ _ _ _ _ _ hr gd => (px_call (wx_arena_in V) (hr.mono (by decide)) gd (pda_cons (pd_var 0) pda_nil) (aCons_len aNil_len)))))
  (pdss_cons (pds_if (pdt_cmp op_gtA gtD_ok (pd_var 4).weak (pd_int).weak) (pdss_one (pds_ret (pd_cmp (op_eqD (hu64 hr)) eqD_ok (pd_call (w__law_line V) (hr.mono (by decide)) gd (pda_cons (pd_var 5) pda_nil) (aCons_len aNil_len)).weak (pd_var 4).weak))) pdss_nil)
  (pdss_one (pds_ret (pd_and (pd_cmp op_isN isND_ok (pd_var 5).weak (pd_non).weak) (pd_one (pd_cmp (op_eqD (hu64 hr)) eqD_ok (pd_repr hr gd V.b_repr (pba_cons (pd_fOk (px_call (wx_arena_in V) (hr.mono (by decide)) gd (pda_cons (pd_var 0) pda_nil) (aCons_len aNil_len))).weak pba_nil)).weak (pd_repr hr gd V.b_repr (pba_cons (pd_var 2).weak pba_nil)).weak))))))))))
theorem w__law_read_right {P : Program} {w : World} {K : PySem.W.Frag} {mg : Str → Option Value} {base : Heap} (V : Vn K mg base) : FnD P w K mg base 10 "_law_read_right" 1 F__law_read_right := by
  obtain ⟨a, fd, hm, FF⟩ := V.f__law_read_right
  exact ⟨a, fd, ["_law_spelt"], hm, FF.kp, binds_of (FunD.bindsA (ps := ["_law_spelt"]) FF fun _ _ _ _ _ _ us hl => match us, hl with | [_], _ => rfl), g__law_read_right V hm FF⟩
def s__law_beyond : S := (sSeq (sSet 3 (eOp addD (eC (.int 3)) (eOp dMul (eC (.int 3)) (eOp dMod (eVar 1) (eOp dFdiv (eBi lenD (aCons (eVar 0) aNil)) (eC (.int 3)))))))
  (sSeq (sSetV 4 (vL (aSplit 32 (eIx (eVar 0) (eVar 3)))))
  (sSeq (sSetO 4 (eOp addD (eC (.int 1)) (eOp dMod (eVar 2) (eOp subD (eBi lenD (aCons (eOwn 4) aNil)) (eC (.int 1))))) (eIx (eLst (aCons (eC (.str "10")) (aCons (eC (.str "999999")) (aCons (eUn strTD (eOp dFdiv (eBi lenD (aCons (eVar 0) aNil)) (eC (.int 3)))) aNil)))) (eOp dMod (eVar 2) (eC (.int 3)))))
  (sFrz 4 (sRet (eOp addD (eOp addD (eSl (eVar 0) pNone (pSome (eVar 3))) (eLst (aCons (eJoin (eC (.str " ")) (eVar 4)) aNil))) (eSl (eVar 0) (pSome (eOp addD (eVar 3) (eC (.int 1)))) pNone)))))))
def F__law_beyond : List D → M D := runF 5 s__law_beyond
theorem sc__law_beyond : FnScope ["_law_lines_here", "_law_at", "_law_far", "_law_spot", "_law_words"] ["_law_lines_here", "_law_at", "_law_far"] (defScope (top 47)) := ⟨rfl, rfl, rfl, by decide +kernel, rfl, by decide +kernel, by decide +kernel⟩
theorem g__law_beyond {P : Program} {w : World} {K : PySem.W.Frag} {mg : Str → Option Value} {base : Heap} {a : Addr} {fd : FuncData} (V : Vn K mg base) (FF : FunD K "_law_beyond" "_law_beyond" (defArgs (top 47)) (defBody (top 47)) (defScope (top 47)) [] [] a fd) : FnG P w K mg base CX0 1 a fd ["_law_lines_here", "_law_at", "_law_far"] (spD K 3 F__law_beyond) := by
  have sc := sc__law_beyond
  refine fn_dG (k := 0) FF sc fun cdv A outer s H E hr gd => ?_
  exact (pdss_cons (pds_set 3 sc.nd (pd_add pd_int (pd_mul pd_int (pd_mod (pd_var 1) (pd_fdiv (pd_len V.b_len (pba_cons (pd_var 0).weak pba_nil)) pd_int)))))
  (pdss_cons (pds_setV 4 sc.nd (pv_ol (po_split 32 (by rfl) (by decide) (pd_ix hr (pd_var 0) (pd_var 3)))))
  (pdss_cons (pds_setO 4 (pd_add pd_int (pd_mod (pd_var 2) (pd_sub (pd_len V.b_len (pba_cons (pb_own 4) pba_nil)) pd_int))) (pd_ix hr (pd_lst (pda_cons (pd_str) (pda_cons (pd_str) (pda_cons (pd_strT V.b_str (pd_fdiv (pd_len V.b_len (pba_cons (pd_var 0).weak pba_nil)) pd_int)) pda_nil)))) (pd_mod (pd_var 2) pd_int)))
  (pdss_frz 4 (pdss_one (pds_ret (pd_add (pd_add (pd_slice (pd_var 0) pdp_none (pdp_some (pd_var 3))) (pd_lst (pda_cons (pd_join (pd_str) (pd_var 4)) pda_nil))) (pd_slice (pd_var 0) (pdp_some (pd_add (pd_var 3) pd_int)) pdp_none))))))))
theorem w__law_beyond {P : Program} {w : World} {K : PySem.W.Frag} {mg : Str → Option Value} {base : Heap} (V : Vn K mg base) : FnD P w K mg base 1 "_law_beyond" 3 F__law_beyond := by
  obtain ⟨a, fd, hm, FF⟩ := V.f__law_beyond
  exact ⟨a, fd, ["_law_lines_here", "_law_at", "_law_far"], hm, FF.kp, binds_of (FunD.bindsA (ps := ["_law_lines_here", "_law_at", "_law_far"]) FF fun _ _ _ _ _ _ us hl => match us, hl with | [_, _, _], _ => rfl), g__law_beyond V FF⟩
def s_law : S := (sSeq (sSet 1 (eCall F__law_begun (aCons (eVar 0) aNil)))
  (sSeq (sFor (aIt range1M (aCons (eC (.int 4)) aNil)) (bName 2) (sSeq (sParV [3, 4, 5] (vCons (vD (eCall F__law_draw (aCons (eVar 1) (aCons (eC (.int 99)) aNil)))) (vCons (vD (eCall F__law_draw (aCons (eVar 1) (aCons (eC (.int 99)) aNil)))) (vCons (vD (eCall F__law_names (aCons (eVar 1) (aCons (eOp addD (eC (.int 1)) (eCall F__law_draw (aCons (eVar 1) (aCons (eC (.int 4)) aNil)))) aNil)))) vNil))))
  (sSeq (sSet 6 (eCall F__law_names (aCons (eVar 1) (aCons (eC (.int 5)) aNil))))
  (sSeq (sSet 7 (eCall F__law_lines (aCons (eCall F__law_arena (aCons (eVar 1) (aCons (eVar 5) (aCons (eVar 6) (aCons (eIx (eLst (aCons (eC (.int 4)) (aCons (eC (.int 4)) (aCons (eC (.int 4)) (aCons (eC (.int 10)) aNil))))) (eCall F__law_draw (aCons (eVar 1) (aCons (eC (.int 4)) aNil)))) aNil))))) aNil)))
  (sSeq (sSet 8 (eO (aSplit 32 (eC (.str "players place moves next 0 1 2 3 4 9 10 11 01 -1 999999 1000000 A keep")))))
  (sSeq (sSet 8 (eOp addD (eOp addD (eOp addD (eVar 8) (eVar 5)) (eVar 6)) (eLst (aCons (eC (.str "zz")) (aCons (eC (.str "toolongname")) aNil)))))
  (sSeq (sSet 9 (eCall F__law_beyond (aCons (eVar 7) (aCons (eVar 3) (aCons (eVar 4) aNil)))))
  (sSeq (sSet 10 (eOp addD (eSl (eVar 7) pNone (pSome (eC (.int 1)))) (eOp repLD (eLst (aCons (eC (.str "place")) (aCons (eOp addD (eC (.str "moves")) (eOp mulS1D (eC (.str " 1")) (eBi lenD (aCons (eVar 5) aNil)))) (aCons (eC (.str "next 9")) aNil)))) (eOp addD (eC (.int 10)) (eOp dMod (eVar 3) (eC (.int 2)))))))
  (sSeq (sSet 11 (eCall F__law_bent (aCons (eVar 1) (aCons (eVar 7) (aCons (eVar 8) aNil)))))
  (sSeq (sSet 12 (eCall F__law_bent (aCons (eVar 1) (aCons (eIf (tCmp neD (eVar 11) (eLst aNil)) (eVar 11) (eLst (aCons (eC (.str "")) aNil))) (aCons (eVar 8) aNil)))))
  (sFor (aItem (eTup (aCons (eVar 7) (aCons (eVar 11) (aCons (eVar 12) (aCons (eCall F__law_bent (aCons (eVar 1) (aCons (eVar 9) (aCons (eVar 8) aNil)))) (aCons (eVar 9) (aCons (eVar 10) (aCons (eCall F__law_bent (aCons (eVar 1) (aCons (eVar 7) (aCons (eVar 8) aNil)))) aNil))))))))) (bName 13) (sIf (tNot (tE (eCall F__law_read_right (aCons (eJoin (eC (.str "\n")) (eVar 13)) aNil)))) (sRet (eC (.bl false))) sNil))))))))))))
  (sSeq (sSet 14 (eOp addD (eSl (eO (aSplit 32 (eIx (eVar 7) (eC (.int 3))))) pNone (pSome (eNeg (eC (.int 1))))) (eLst (aCons (eOp mulS1D (eC (.str "9")) (eC (.int 5000))) aNil))))
  (sRet (eCall F__law_read_right (aCons (eJoin (eC (.str "\n")) (eOp addD (eOp addD (eSl (eVar 7) pNone (pSome (eC (.int 3)))) (eLst (aCons (eJoin (eC (.str " ")) (eVar 14)) aNil))) (eSl (eVar 7) (pSome (eC (.int 4))) pNone))) aNil))))))
def F_law : List D → M D := runF 15 s_law
theorem sc_law : FnScope ["_law_script", "_law_m", "_law_turn", "_law_at", "_law_far", "_law_players", "_law_pool", "_law_lines_here", "_law_near", "_law_late_here", "_law_eleven", "_law_once", "_law_twice", "_law_rows_here", "_law_words"] ["_law_script"] (defScope (top 48)) := ⟨rfl, rfl, rfl, by decide +kernel, rfl, by decide +kernel, by decide +kernel⟩
theorem g_law {P : Program} {w : World} {K : PySem.W.Frag} {mg : Str → Option Value} {base : Heap} {a : Addr} {fd : FuncData} (V : Vn K mg base) (FF : FunD K "law" "law" (defArgs (top 48)) (defBody (top 48)) (defScope (top 48)) [] [] a fd) : FnG P w K mg base CX0 11 a fd ["_law_script"] (spD K 1 F_law) := by
  have sc := sc_law
  refine fn_dG (k := 10) FF sc fun cdv A outer s H E hr gd => ?_
  exact (pdss_cons (pds_set 1 sc.nd (pd_call (w__law_begun V) (hr.mono (by decide)) gd (pda_cons (pd_var 0) pda_nil) (aCons_len aNil_len)))
  (pdss_cons (pds_for rfl (pdi_range1 V.b_range (pda_cons pd_int pda_nil)) (pdg_name 2 sc.nd) (pdss_cons (pds_par3 3 4 5 rfl sc.nd (pva_cons (pv_d (pd_call (w__law_draw V) (hr.mono (by decide)) gd (pda_cons (pd_var 1) (pda_cons pd_int pda_nil)) (aCons_len (aCons_len aNil_len)))) (pva_cons (pv_d (pd_call (w__law_draw V) (hr.mono (by decide)) gd (pda_cons (pd_var 1) (pda_cons pd_int pda_nil)) (aCons_len (aCons_len aNil_len)))) (pva_cons (pv_d (pd_call (w__law_names V) (hr.mono (by decide)) gd (pda_cons (pd_var 1) (pda_cons (pd_add pd_int (pd_call (w__law_draw V) (hr.mono (by decide)) gd (pda_cons (pd_var 1) (pda_cons pd_int pda_nil)) (aCons_len (aCons_len aNil_len)))) pda_nil)) (aCons_len (aCons_len aNil_len)))) pva_nil))))
  (pdss_cons (pds_set 6 sc.nd (pd_call (w__law_names V) (hr.mono (by decide)) gd (pda_cons (pd_var 1) (pda_cons pd_int pda_nil)) (aCons_len (aCons_len aNil_len))))
  (pdss_cons (pds_set 7 sc.nd (pd_call (w__law_lines V) (hr.mono (by decide)) gd (pda_cons (pd_call (w__law_arena V) (hr.mono (by decide)) gd (pda_cons (pd_var 1) (pda_cons (pd_var 5) (pda_cons (pd_var 6) (pda_cons (pd_ix hr (pd_lst (pda_cons pd_int (pda_cons pd_int (pda_cons pd_int (pda_cons pd_int pda_nil))))) (pd_call (w__law_draw V) (hr.mono (by decide)) gd (pda_cons (pd_var 1) (pda_cons pd_int pda_nil)) (aCons_len (aCons_len aNil_len)))) pda_nil)))) (aCons_len (aCons_len (aCons_len (aCons_len aNil_len))))) pda_nil) (aCons_len aNil_len)))
  (pdss_cons (pds_set 8 sc.nd (pd_new (po_split 32 (by rfl) (by decide) (pd_str))))
  (pdss_cons (pds_set 8 sc.nd (pd_add (pd_add (pd_add (pd_var 8) (pd_var 5)) (pd_var 6)) (pd_lst (pda_cons (pd_str) (pda_cons (pd_str) pda_nil)))))
  (pdss_cons (pds_set 9 sc.nd (pd_call (w__law_beyond V) (hr.mono (by decide)) gd (pda_cons (pd_var 7) (pda_cons (pd_var 3) (pda_cons (pd_var 4) pda_nil))) (aCons_len (aCons_len (aCons_len aNil_len)))))
  (pdss_cons (pds_set 10 sc.nd (pd_add (pd_slice (pd_var 7) pdp_none (pdp_some pd_int)) (pd_repL (pd_lst (pda_cons (pd_str) (pda_cons (pd_add (pd_str) (pd_mulS1 (pd_str) (pd_len V.b_len (pba_cons (pd_var 5).weak pba_nil)))) (pda_cons (pd_str) pda_nil)))) (pd_add pd_int (pd_mod (pd_var 3) pd_int)))))
  (pdss_cons (pds_set 11 sc.nd (pd_call (w__law_bent V) (hr.mono (by decide)) gd (pda_cons (pd_var 1) (pda_cons (pd_var 7) (pda_cons (pd_var 8) pda_nil))) (aCons_len (aCons_len (aCons_len aNil_len)))))
  (pdss_cons (pds_set 12 sc.nd (pd_call (w__law_bent V) (hr.mono (by decide)) gd (pda_cons (pd_var 1) (pda_cons (pd_if (pdt_cmp (op_neD (hu64 hr)) neD_ok (pd_var 11).weak (pd_lst pda_nil).weak) (pd_var 11) (pd_lst (pda_cons (pd_str) pda_nil))) (pda_cons (pd_var 8) pda_nil))) (aCons_len (aCons_len (aCons_len aNil_len)))))
  (pdss_one (pds_for rfl (pdi_val (pd_tup (pda_cons (pd_var 7) (pda_cons (pd_var 11) (pda_cons (pd_var 12) (pda_cons (pd_call (w__law_bent V) (hr.mono (by decide)) gd (pda_cons (pd_var 1) (pda_cons (pd_var 9) (pda_cons (pd_var 8) pda_nil))) (aCons_len (aCons_len (aCons_len aNil_len)))) (pda_cons (pd_var 9) (pda_cons (pd_var 10) (pda_cons (pd_call (w__law_bent V) (hr.mono (by decide)) gd (pda_cons (pd_var 1) (pda_cons (pd_var 7) (pda_cons (pd_var 8) pda_nil))) (aCons_len (aCons_len (aCons_len aNil_len)))) pda_nil))))))))) (pdg_name 13 sc.nd) (pdss_one (pds_if (pdt_not (pdt_val (pd_call (w__law_read_right V) (hr.mono (by decide)) gd (pda_cons (pd_join (pd_str) (pd_var 13)) pda_nil) (aCons_len aNil_len)))) (pdss_one (pds_ret pd_bl)) pdss_nil))))))))))))))
  (pdss_cons (pds_set 14 sc.nd (pd_add (pd_slice (pd_new (po_split 32 (by rfl) (by decide) (pd_ix hr (pd_var 7) pd_int))) pdp_none (pdp_some (pd_neg pd_int))) (pd_lst (pda_cons (pd_mulS1 (pd_str) pd_int) pda_nil))))
  (pdss_one (pds_ret (pd_call (w__law_read_right V) (hr.mono (by decide)) gd (pda_cons (pd_join (pd_str) (pd_add (pd_add (pd_slice (pd_var 7) pdp_none (pdp_some pd_int)) (pd_lst (pda_cons (pd_join (pd_str) (pd_var 14)) pda_nil))) (pd_slice (pd_var 7) (pdp_some pd_int) pdp_none))) pda_nil) (aCons_len aNil_len)))))))
theorem vn {K : PySem.W.Frag} {h : Heap} {mg : Str → Option Value} (X : K.In h) (Gl : h.Ns mainGlobals mg) (c : He.SaysD fa fn K)(xb : (xbK xt K && smOk K) = true) {base : Heap} (kb : K.In base) (nb : base.Ns mainGlobals mg) (tb : TabsB K mg base tabs) : Vn K mg base := by
  have q0 := He.glo_ok X Gl (c.fact 0 (f := .glo "is_whole") rfl)
  have q1 := He.glo_ok X Gl (c.fact 1 (f := .glo "is_of") rfl)
  have q2 := He.glo_ok X Gl (c.fact 2 (f := .glo "is_name") rfl)
  have q3 := He.glo_ok X Gl (c.fact 3 (f := .glo "is_rising") rfl)
  have q4 := He.glo_ok X Gl (c.fact 4 (f := .glo "number_in") rfl)
  have q5 := He.glo_ok X Gl (c.fact 5 (f := .glo "rows_of") rfl)
  have q6 := He.glo_ok X Gl (c.fact 6 (f := .glo "words_at") rfl)
  have q7 := He.glo_ok X Gl (c.fact 7 (f := .glo "numbers_at") rfl)
  have q8 := He.glo_ok X Gl (c.fact 8 (f := .glo "place_at") rfl)
  have q9 := He.glo_ok X Gl (c.fact 9 (f := .glo "arena_of") rfl)
  have q10 := He.glo_ok X Gl (c.fact 10 (f := .glo "need_nexts") rfl)
  have q11 := He.glo_ok X Gl (c.fact 11 (f := .glo "all_rows") rfl)
  have q12 := He.glo_ok X Gl (c.fact 12 (f := .glo "arena_in") rfl)
  have q13 := He.glo_ok X Gl (c.fact 13 (f := .glo "_law_begun") rfl)
  have q14 := He.glo_ok X Gl (c.fact 14 (f := .glo "_law_draw") rfl)
  have q15 := He.glo_ok X Gl (c.fact 15 (f := .glo "_law_names") rfl)
  have q16 := He.glo_ok X Gl (c.fact 16 (f := .glo "_law_arena") rfl)
  have q17 := He.glo_ok X Gl (c.fact 17 (f := .glo "_law_lines") rfl)
  have q18 := He.glo_ok X Gl (c.fact 18 (f := .glo "_law_is_rising") rfl)
  have q19 := He.glo_ok X Gl (c.fact 19 (f := .glo "_law_is_name") rfl)
  have q20 := He.glo_ok X Gl (c.fact 20 (f := .glo "_law_number") rfl)
  have q21 := He.glo_ok X Gl (c.fact 21 (f := .glo "_law_rows") rfl)
  have q22 := He.glo_ok X Gl (c.fact 22 (f := .glo "_law_behind") rfl)
  have q23 := He.glo_ok X Gl (c.fact 23 (f := .glo "_law_numbers") rfl)
  have q24 := He.glo_ok X Gl (c.fact 24 (f := .glo "_law_ground_told") rfl)
  have q25 := He.glo_ok X Gl (c.fact 25 (f := .glo "_law_late") rfl)
  have q26 := He.glo_ok X Gl (c.fact 26 (f := .glo "_law_bent") rfl)
  have q27 := He.glo_ok X Gl (c.fact 27 (f := .glo "_law_error") rfl)
  have q28 := He.glo_ok X Gl (c.fact 28 (f := .glo "_law_line") rfl)
  have q29 := He.glo_ok X Gl (c.fact 29 (f := .glo "_law_read_right") rfl)
  have q30 := He.glo_ok X Gl (c.fact 30 (f := .glo "_law_beyond") rfl)
  have q31 := He.glo_ok X Gl (c.fact 31 (f := .glo "law") rfl)
  obtain ⟨fd0, F0⟩ := c.def_ 0 (d := d_is_whole) rfl
  obtain ⟨fd1, F1⟩ := c.def_ 1 (d := d_is_of) rfl
  obtain ⟨fd2, F2⟩ := c.def_ 2 (d := d_is_name) rfl
  obtain ⟨fd3, F3⟩ := c.def_ 3 (d := d_is_rising) rfl
  obtain ⟨fd4, F4⟩ := c.def_ 4 (d := d_number_in) rfl
  obtain ⟨fd5, F5⟩ := c.def_ 5 (d := d_rows_of) rfl
  obtain ⟨fd6, F6⟩ := c.def_ 6 (d := d_words_at) rfl
  obtain ⟨fd7, F7⟩ := c.def_ 7 (d := d_numbers_at) rfl
  obtain ⟨fd8, F8⟩ := c.def_ 8 (d := d_place_at) rfl
  obtain ⟨fd9, F9⟩ := c.def_ 9 (d := d_arena_of) rfl
  obtain ⟨fd10, F10⟩ := c.def_ 10 (d := d_need_nexts) rfl
  obtain ⟨fd11, F11⟩ := c.def_ 11 (d := d_all_rows) rfl
  obtain ⟨fd12, F12⟩ := c.def_ 12 (d := d_arena_in) rfl
  obtain ⟨fd13, F13⟩ := c.def_ 13 (d := d__law_begun) rfl
  obtain ⟨fd14, F14⟩ := c.def_ 14 (d := d__law_draw) rfl
  obtain ⟨fd15, F15⟩ := c.def_ 15 (d := d__law_names) rfl
  obtain ⟨fd16, F16⟩ := c.def_ 16 (d := d__law_arena) rfl
  obtain ⟨fd17, F17⟩ := c.def_ 17 (d := d__law_lines) rfl
  obtain ⟨fd18, F18⟩ := c.def_ 18 (d := d__law_is_rising) rfl
  obtain ⟨fd19, F19⟩ := c.def_ 19 (d := d__law_is_name) rfl
  obtain ⟨fd20, F20⟩ := c.def_ 20 (d := d__law_number) rfl
  obtain ⟨fd21, F21⟩ := c.def_ 21 (d := d__law_rows) rfl
  obtain ⟨fd22, F22⟩ := c.def_ 22 (d := d__law_behind) rfl
  obtain ⟨fd23, F23⟩ := c.def_ 23 (d := d__law_numbers) rfl
  obtain ⟨fd24, F24⟩ := c.def_ 24 (d := d__law_ground_told) rfl
  obtain ⟨fd25, F25⟩ := c.def_ 25 (d := d__law_late) rfl
  obtain ⟨fd26, F26⟩ := c.def_ 26 (d := d__law_bent) rfl
  obtain ⟨fd27, F27⟩ := c.def_ 27 (d := d__law_error) rfl
  obtain ⟨fd28, F28⟩ := c.def_ 28 (d := d__law_line) rfl
  obtain ⟨fd29, F29⟩ := c.def_ 29 (d := d__law_read_right) rfl
  obtain ⟨fd30, F30⟩ := c.def_ 30 (d := d__law_beyond) rfl
  obtain ⟨fd31, F31⟩ := c.def_ 31 (d := d_law) rfl
  exact { b_ArithmeticError := He.free_ok X Gl (c.fact 32 (f := .free "ArithmeticError") rfl), b_LookupError := He.free_ok X Gl (c.fact 33 (f := .free "LookupError") rfl), b_ValueError := He.free_ok X Gl (c.fact 34 (f := .free "ValueError") rfl), b_all := He.free_ok X Gl (c.fact 35 (f := .free "all") rfl), b_bool := He.free_ok X Gl (c.fact 36 (f := .free "bool") rfl), b_enumerate := He.free_ok X Gl (c.fact 37 (f := .free "enumerate") rfl), b_int := He.free_ok X Gl (c.fact 38 (f := .free "int") rfl), b_isinstance := He.free_ok X Gl (c.fact 39 (f := .free "isinstance") rfl), b_len := He.free_ok X Gl (c.fact 40 (f := .free "len") rfl), b_list := He.free_ok X Gl (c.fact 41 (f := .free "list") rfl), b_max := He.free_ok X Gl (c.fact 42 (f := .free "max") rfl), b_range := He.free_ok X Gl (c.fact 43 (f := .free "range") rfl), b_repr := He.free_ok X Gl (c.fact 44 (f := .free "repr") rfl), b_sorted := He.free_ok X Gl (c.fact 45 (f := .free "sorted") rfl), b_str := He.free_ok X Gl (c.fact 46 (f := .free "str") rfl), b_tuple := He.free_ok X Gl (c.fact 47 (f := .free "tuple") rfl), b_zip := He.free_ok X Gl (c.fact 48 (f := .free "zip") rfl), c_SMALL := He.str_ok X Gl (c.fact 49 (f := .str "SMALL" "abcdefghijklmnopqrstuvwxyz") rfl), c_FIGURES := He.str_ok X Gl (c.fact 50 (f := .str "FIGURES" "0123456789") rfl), c_LONGEST := He.int_ok X Gl (c.fact 51 (f := .int "LONGEST" 8) rfl), c_MOST_FIGURES := He.int_ok X Gl (c.fact 52 (f := .int "MOST_FIGURES" 6) rfl), c_MOST_PLAYERS := He.int_ok X Gl (c.fact 53 (f := .int "MOST_PLAYERS" 4) rfl), c_MOST_PLACES := He.int_ok X Gl (c.fact 54 (f := .int "MOST_PLACES" 10) rfl), c_MOST_MARKS := He.int_ok X Gl (c.fact 55 (f := .int "MOST_MARKS" 4) rfl), c_MOST_MOVES := He.int_ok X Gl (c.fact 56 (f := .int "MOST_MOVES" 3) rfl), c_MOST_JOINTS := He.int_ok X Gl (c.fact 57 (f := .int "MOST_JOINTS" 36) rfl), f_is_whole := ⟨_, fd0, q0, F0⟩, f_is_of := ⟨_, fd1, q1, F1⟩, f_is_name := ⟨_, fd2, q2, F2⟩, f_is_rising := ⟨_, fd3, q3, F3⟩, f_number_in := ⟨_, fd4, q4, F4⟩, f_rows_of := ⟨_, fd5, q5, F5⟩, f_words_at := ⟨_, fd6, q6, F6⟩, f_numbers_at := ⟨_, fd7, q7, F7⟩, f_place_at := ⟨_, fd8, q8, F8⟩, f_arena_of := ⟨_, fd9, q9, F9⟩, f_need_nexts := ⟨_, fd10, q10, F10⟩, f_all_rows := ⟨_, fd11, q11, F11⟩, f_arena_in := ⟨_, fd12, q12, F12⟩, f__law_begun := ⟨_, fd13, q13, F13⟩, f__law_draw := ⟨_, fd14, q14, F14⟩, f__law_names := ⟨_, fd15, q15, F15⟩, f__law_arena := ⟨_, fd16, q16, F16⟩, f__law_lines := ⟨_, fd17, q17, F17⟩, f__law_is_rising := ⟨_, fd18, q18, F18⟩, f__law_is_name := ⟨_, fd19, q19, F19⟩, f__law_number := ⟨_, fd20, q20, F20⟩, f__law_rows := ⟨_, fd21, q21, F21⟩, f__law_behind := ⟨_, fd22, q22, F22⟩, f__law_numbers := ⟨_, fd23, q23, F23⟩, f__law_ground_told := ⟨_, fd24, q24, F24⟩, f__law_late := ⟨_, fd25, q25, F25⟩, f__law_bent := ⟨_, fd26, q26, F26⟩, f__law_error := ⟨_, fd27, q27, F27⟩, f__law_line := ⟨_, fd28, q28, F28⟩, f__law_read_right := ⟨_, fd29, q29, F29⟩, f__law_beyond := ⟨_, fd30, q30, F30⟩, f_law := ⟨_, fd31, q31, F31⟩, k_Refused := He.glo_ok X Gl (c.fact 58 (f := .glo "Refused") rfl), k_Barred := He.glo_ok X Gl (c.fact 59 (f := .glo "Barred") rfl), k_Beyond := He.glo_ok X Gl (c.fact 60 (f := .glo "Beyond") rfl), k_BadLine := He.glo_ok X Gl (c.fact 61 (f := .glo "BadLine") rfl), i_BadLine := c.def_ 32 (d := di_BadLine) rfl, kb := kb, nb := nb, tb := tb, xb := (Bool.and_eq_true_iff.mp xb).1, sm := (Bool.and_eq_true_iff.mp xb).2 }
theorem fl_law {K : PySem.W.Frag} {h : Heap} {mg : Str → Option Value} (X : K.In h) (Gl : h.Ns mainGlobals mg) (c : He.SaysD fa fn K) : ∃ a fd, mg "law" = some (.ref a) ∧ FunD K "law" "law" (defArgs (top 48)) (defBody (top 48)) (defScope (top 48)) [] [] a fd := by
  obtain ⟨fd, F⟩ := c.def_ 31 (d := d_law) rfl
  exact ⟨_, fd, He.glo_ok X Gl (c.fact 31 (f := .glo "law") rfl), F⟩
end L_k76
end
section
set_option Elab.async false
set_option linter.all false
set_option maxRecDepth 100000
set_option maxHeartbeats 4000000
set_option autoImplicit false
namespace PD
open PySem
theorem optA_id {f : D → Option D} : ∀ {l : List D}, (∀ d ∈ l, f d = some d) → optA f l = some l
  | [], _ => rfl
  | d :: l, h => by
    show (f d).bind _ = _
    rw [h d List.mem_cons_self, Option.bind_some, optA_id fun x hx => h x (List.mem_cons_of_mem _ hx)]
    rfl
theorem rsv_int (k : Nat) (g : G) (i : Int) : rsv k g (.int i) = some (.int i) := by cases k <;> rfl
theorem optA_ints (k : Nat) (g : G) (ns : List Int) : optA (rsv k g) (ns.map .int) = some (ns.map .int) := optA_id fun d hd => by
  obtain ⟨n, _, rfl⟩ := List.mem_map.mp hd
  exact rsv_int k g n
end PD
namespace L_k76
open PySem PD
structure Dr where
  great : List Int
  small : Int
  spot : Int
  rest : G
def Dr.g (s : Dr) : G := .mt "_law_read_right" :: .ml (s.great.map .int) :: .mk [.inr "great", .inr "small", .inr "at"] [.hd 1, .int s.small, .int s.spot] :: s.rest
structure Dr.Ok (s : Dr) (b : Nat) : Prop where
  len : s.great.length ≤ 64
  lo : 0 ≤ s.spot
  hi : s.spot + b ≤ 1000000000
theorem Dr.Ok.mono {s : Dr} {a b : Nat} (h : s.Ok a) (hb : b ≤ a) : s.Ok b := ⟨h.len, h.lo, by have := h.hi; omega⟩
theorem look_great (s : Dr) : ixD s.g (.hd 2) (.str "great") = some (.hd 1) := by rfl
theorem look_small (s : Dr) : ixD s.g (.hd 2) (.str "small") = some (.int s.small) := by rfl
theorem look_at (s : Dr) : ixD s.g (.hd 2) (.str "at") = some (.int s.spot) := by rfl
theorem put_at (s : Dr) (i : Int) : storeD s.g (.hd 2) (.str "at") (.int i) = some ({ s with spot := i } : Dr).g := by rfl
theorem put_small (s : Dr) (i : Int) : storeD s.g (.hd 2) (.str "small") (.int i) = some ({ s with small := i } : Dr).g := by rfl
theorem rs_great (s : Dr) (k : Nat) : rsv (k + 1) s.g (.hd 1) = some (.lst (s.great.map .int)) := by
  show (optA (rsv k s.g) (s.great.map .int)).map D.lst = _
  rw [optA_ints]
  rfl
theorem ne_great (s : Dr) : rs2 neD s.g (.hd 1) (.lst []) = some (!decide (s.great = [])) := by
  unfold rs2
  rw [rs_great, Option.bind_some]
  show neD (.lst (s.great.map .int)) (.lst []) = _
  rw [neD_of (kdI.lst.ok (by decide) s.great) (by decide), eqq_lst]
  have := eqqA_map eqq_int s.great []
  rw [List.map_nil] at this
  rw [this]
theorem len_great (s : Dr) : optA (rsv 4 s.g) [.hd 1] = some [.lst (s.great.map .int)] := by
  show (rsv 4 s.g (.hd 1)).bind (fun x => some [x]) = _
  rw [rs_great]
  rfl
theorem len_ints (ns : List Int) : lenD [.lst (ns.map .int)] = some (.int ns.length) := by
  show some (D.int ((ns.map D.int).length : Int)) = _
  rw [List.length_map]
theorem ix_great (s : Dr) (i : Int) : ixD s.g (.hd 1) (.int i) = L2.atI (s.great.map .int) i := by rfl
theorem put_great (s : Dr) {j : Nat} (i v : Int) (h : L2.ixN s.great.length i = some j) : storeD s.g (.hd 1) (.int i) (.int v) = some ({ s with great := s.great.set j v } : Dr).g := by
  show (L2.ixN (s.great.map D.int).length i).map _ = _
  rw [List.length_map, h]
  show some (updG s.g 1 (.ml ((s.great.map D.int).set j (.int v)))) = _
  unfold Dr.g updG
  rw [List.set_cons_succ, List.set_cons_zero, List.map_set]
def primes : List D := [.int 2147483647, .int 2147483629, .int 2147483587, .int 2147483579, .int 2147483563, .int 2147483549, .int 2147483543, .int 2147483497]
theorem prime_at {i : Int} (h1 : 0 ≤ i) (h2 : i < 8) : ∃ P : Int, L2.atI primes i = some (.int P) ∧ 0 < P ∧ P < 2147483648 := by
  have : i = 0 ∨ i = 1 ∨ i = 2 ∨ i = 3 ∨ i = 4 ∨ i = 5 ∨ i = 6 ∨ i = 7 := by omega
  rcases this with rfl | rfl | rfl | rfl | rfl | rfl | rfl | rfl <;> exact ⟨_, rfl, by decide, by decide⟩
def mixBody : S := (sSeq (sSet 5 (eLst (aCons (eC (.int 2147483647)) (aCons (eC (.int 2147483629)) (aCons (eC (.int 2147483587)) (aCons (eC (.int 2147483579)) (aCons (eC (.int 2147483563)) (aCons (eC (.int 2147483549)) (aCons (eC (.int 2147483543)) (aCons (eC (.int 2147483497)) aNil))))))))))
  (sSeq (sSet 6 (eOp dMod (eOp addD (eOp addD (eIx (eVar 0) (eC (.str "small"))) (eOp dMul (eC (.int 7919)) (eVar 2))) (eC (.int 17))) (eIx (eVar 5) (eOp dMod (eVar 2) (eC (.int 8))))))
  (sSeq (sSet 6 (eOp dMod (eOp addD (eOp dMul (eVar 6) (eOp addD (eC (.int 48271)) (eOp dMul (eC (.int 2)) (eVar 2)))) (eOp dMul (eC (.int 104729)) (eVar 2))) (eIx (eVar 5) (eOp dMod (eVar 2) (eC (.int 8))))))
  (sRet (eOp dMod (eOp dFdiv (eOp dMod (eOp dMul (eOp dMul (eVar 6) (eVar 6)) (eVar 6)) (eIx (eVar 5) (eOp dMod (eVar 2) (eC (.int 8))))) (eC (.int 7))) (eVar 1))))))
theorem mix_ok (s : Dr) {m k : Int} (h1 : 0 < m) (k0 : 0 ≤ k) (k1 : k < 1000000000) (o3 o4 o5 o6 : Option LV) : ∃ r : Int, mixBody [some (.d (.hd 2)), some (.d (.int m)), some (.d (.int k)), o3, o4, o5, o6] s.g = some (.rt (.int r), s.g) ∧ 0 ≤ r ∧ r < m := by
  have sz := sizeLine_eq
  have z8 : (8 : Nat) ≤ sizeLine := by omega
  obtain ⟨P, hP, p0, p1⟩ := prime_at (i := k % 8) (Int.emod_nonneg _ (by decide)) (Int.emod_lt_of_pos _ (by decide))
  generalize hA : (s.small + 7919 * k + 17) % P = A
  have a1 : 0 ≤ A ∧ A < P := by rw [← hA]; exact ⟨Int.emod_nonneg _ (by omega), Int.emod_lt_of_pos _ p0⟩
  generalize hB : (A * (48271 + 2 * k) + 104729 * k) % P = B
  have b1 : 0 ≤ B ∧ B < P := by rw [← hB]; exact ⟨Int.emod_nonneg _ (by omega), Int.emod_lt_of_pos _ p0⟩
  refine ⟨B * B * B % P / 7 % m, ?_, Int.emod_nonneg _ (by omega), Int.emod_lt_of_pos _ h1⟩
  have m1 : dMul (.int 7919) (.int k) = some (.int (7919 * k)) := dMul_ok _ _ (by decide)
  have m2 : dMul (.int 2) (.int k) = some (.int (2 * k)) := dMul_ok _ _ (by decide)
  have m3 : dMul (.int A) (.int (48271 + 2 * k)) = some (.int (A * (48271 + 2 * k))) := dMul_ok _ _ (by omega)
  have m4 : dMul (.int 104729) (.int k) = some (.int (104729 * k)) := dMul_ok _ _ (by decide)
  have m5 : dMul (.int B) (.int B) = some (.int (B * B)) := dMul_ok _ _ (by omega)
  have m6 : dMul (.int (B * B)) (.int B) = some (.int (B * B * B)) := dMul_ok2 _ _ (by omega)
  have q1 := dMod_ok k 8 (by decide)
  have q2 := dMod_ok (s.small + 7919 * k + 17) P p0
  have q3 := dMod_ok (A * (48271 + 2 * k) + 104729 * k) P p0
  have q4 := dMod_ok (B * B * B) P p0
  have q5 := dMod_ok (B * B * B % P / 7) m h1
  have f1 := dFdiv_ok (B * B * B % P) 7 (by decide) (by decide)
  have ls := look_small s
  rw [hA] at q2
  rw [hB] at q3
  unfold primes at hP
  unfold mixBody
  simp -implicitDefEqProofs [z8, ls, m1, q1, hP, q2, m2, m3, m4, q3, m5, m6, q4, f1, q5]
theorem draw_ok {s : Dr} {b : Nat} (h : s.Ok (b + 1)) {m : Int} (h1 : 0 < m) (h2 : m < 18446744073709551616) : ∃ (r : Int) (s' : Dr), F__law_draw [.hd 2, .int m] s.g = some (.int r, s'.g) ∧ 0 ≤ r ∧ r < m ∧ s'.Ok b ∧ s'.rest = s.rest := by
  have k0 := h.lo
  have k1 := h.hi
  have MX := fun (o3 o4 : Option LV) => mix_ok { s with spot := s.spot + 1 } h1 k0 (by omega) o3 o4 none none
  have l1 := look_at s
  have p1 := put_at s (s.spot + 1)
  have okb : ({ s with spot := s.spot + 1 } : Dr).Ok b := ⟨h.len, by show 0 ≤ s.spot + 1; omega, by show s.spot + 1 + (b : Int) ≤ _; omega⟩
  generalize hs1 : ({ s with spot := s.spot + 1 } : Dr) = s1 at *
  have ec : s1.great = s.great := by rw [← hs1]
  have er : s1.rest = s.rest := by rw [← hs1]
  have lg := look_great s1
  have ng := ne_great s1
  unfold mixBody at MX
  by_cases hg : s1.great = []
  · obtain ⟨r, e, r1, r2⟩ := MX none none
    refine ⟨r, s1, runF_rt ?_, r1, r2, okb, er⟩
    rw [decide_eq_true hg] at ng
    simp -implicitDefEqProofs [s__law_draw, slots0, l1, p1, lg, ng]
    exact e
  · have hl : 0 < (s1.great.length : Int) := by
      have := List.length_pos_iff.mpr hg
      omega
    rw [decide_eq_false hg] at ng
    have ln := len_great s1
    have ln2 := len_ints s1.great
    generalize s1.great.map D.int = GG at ln ln2
    have q1 := dMod_ok s.spot s1.great.length hl
    have i0 := Int.emod_nonneg s.spot (b := s1.great.length) (by omega)
    have i1 := Int.emod_lt_of_pos s.spot hl
    generalize s.spot % s1.great.length = i at *
    obtain ⟨j, rfl⟩ : ∃ j : Nat, i = j := ⟨i.toNat, by omega⟩
    have hj : j < s1.great.length := by omega
    have ix : ixD s1.g (.hd 1) (.int (j : Int)) = some (.int s1.great[j]) := by
      rw [ix_great, atI_of (by omega) (by rw [List.length_map]; omega), List.getElem?_map]
      simp [List.getElem?_eq_getElem hj]
    have hn : L2.ixN s1.great.length (j : Int) = some j := by
      unfold L2.ixN
      rw [if_pos (by omega), if_pos (by omega)]
      simp
    generalize s1.great[j] = c at *
    by_cases hc : 0 < c
    · have pg := put_great s1 (j : Int) (c / m) hn
      have f1 := dFdiv_ok c m h1 h2
      have q2 := dMod_ok c m h1
      refine ⟨c % m, { s1 with great := s1.great.set j (c / m) }, runF_rt ?_, Int.emod_nonneg _ (by omega), Int.emod_lt_of_pos _ h1, ⟨by show (s1.great.set j (c / m)).length ≤ 64; rw [List.length_set]; exact okb.len, okb.lo, okb.hi⟩, er⟩
      simp -implicitDefEqProofs [s__law_draw, slots0, l1, p1, lg, ng, ln, ln2, q1, ix, hc, f1, pg, q2]
    · obtain ⟨r, e, r1, r2⟩ := MX (some (.d (.int (j : Int)))) (some (.d (.int c)))
      refine ⟨r, s1, runF_rt ?_, r1, r2, okb, er⟩
      simp -implicitDefEqProofs [s__law_draw, slots0, l1, p1, lg, ng, ln, ln2, q1, ix, hc]
      exact e
end L_k76
end
section
set_option Elab.async false
set_option linter.all false
set_option maxRecDepth 100000
set_option maxHeartbeats 4000000
set_option autoImplicit false
namespace L_k76
open PySem PD
theorem begun_ok {ns : List Int} (h : ns.length ≤ 63) : ∃ s : Dr, F__law_begun [.lst (ns.map .int)] [.mt "_law_read_right"] = some (.hd 2, s.g) ∧ s.Ok 1000000000 ∧ s.rest = [] := by
  have sz := sizeLine_eq
  have key : Wp (F__law_begun [.lst (ns.map .int)] [.mt "_law_read_right"]) fun d g' => ∃ s : Dr, d = .hd 2 ∧ g' = s.g ∧ s.Ok 1000000000 ∧ s.rest = [] := by
    refine wp_runF ?_
    have q : itemsD (.lst (ns.map D.int)) = some (ns.map D.int) := rfl
    have l1 : lcL (bName 2) (tCmp geD (eVar 2) (eOp dPow (eC (.int 10)) (eC (.int 18)))) (eVar 2) [some (.d (.lst (ns.map .int))), none, none] (ns.map .int) [.mt "_law_read_right"] = some ((ns.filter fun c => decide (1000000000000000000 ≤ c)).map .int, [.mt "_law_read_right"]) := by
      generalize D.lst (ns.map D.int) = SC
      have := lc_typedF (f := D.int) (f' := D.int) (bd := bName 2) (t := tCmp geD (eVar 2) (eOp dPow (eC (.int 10)) (eC (.int 18)))) (e := eVar 2) (ρ := [some (.d SC), none, none]) (g := [.mt "_law_read_right"]) (p := fun c => decide (1000000000000000000 ≤ c)) (q := id) ns fun c _ => ⟨_, rfl, by simp -implicitDefEqProofs [setR], fun _ => by simp -implicitDefEqProofs [setR]⟩
      rw [List.map_id] at this
      exact this
    have hl : (ns.filter fun c => decide (1000000000000000000 ≤ c)).length ≤ 64 := by have := List.length_filter_le (fun c => decide (1000000000000000000 ≤ c)) ns; omega
    have z1 : ((ns.filter fun c => decide (1000000000000000000 ≤ c)).map D.int).length ≤ sizeLine := by rw [List.length_map]; omega
    generalize hG : (ns.filter fun c => decide (1000000000000000000 ≤ c)) = GR at *
    generalize hS : D.lst (ns.map D.int) = SC at *
    refine wp_hide fun Q hQ => ?_
    generalize hN : ns.map D.int = NS at *
    have g0 : ∀ X : List D, ([.mt "_law_read_right", .ml X, .mk (mergeD ([], []) [.inr "great", .inr "small", .inr "at"] [.hd 1, .int 0, .int 0]).1 (mergeD ([], []) [.inr "great", .inr "small", .inr "at"] [.hd 1, .int 0, .int 0]).2] : G) = [.mt "_law_read_right", .ml X, .mk [.inr "great", .inr "small", .inr "at"] [.hd 1, .int 0, .int 0]] := fun X => rfl
    have kd : keysD [.str "great", .str "small", .str "at"] = some [.inr "great", .inr "small", .inr "at"] := rfl
    generalize hGM : GR.map D.int = GM at *
    simp -implicitDefEqProofs [s__law_begun, slots0, q, l1, z1, kd, g0]
    rw [← hN]
    refine wp_bind (wp_for ns (fun _ ρ g' => ∃ (o2 : Option LV) (s : Dr), ρ = [some (.d SC), some (.d (.hd 2)), o2] ∧ g' = s.g ∧ s.great = GR ∧ s.spot = 0 ∧ s.rest = []) ⟨none, ⟨GR, 0, 0, []⟩, rfl, by rw [← hGM]; rfl, rfl, rfl, rfl⟩ ?_ ?_)
    · rintro done c todo ρ g' e ⟨o2, s, rfl, rfl, e1, e2, e3⟩
      refine ⟨_, rfl, ?_⟩
      refine wp_hide fun Q hQ => ?_
      by_cases hc : c < 1000000000000000000
      · have ls := look_small s
        have m1 : dMul (.int s.small) (.int 1000000000000000000) = some (.int (s.small * 1000000000000000000)) := dMul_ok2 _ _ (by decide)
        have m2 := dMod_ok c 1000000000000000000 (by decide)
        have pp := put_small s (s.small * 1000000000000000000 + c % 1000000000000000000 + 1)
        simp -implicitDefEqProofs [hc, ls, m1, m2, pp]
        exact hQ _ _ ⟨_, { s with small := _ }, rfl, rfl, e1, e2, e3⟩
      · simp -implicitDefEqProofs [hc]
        exact hQ _ _ ⟨_, s, rfl, rfl, e1, e2, e3⟩
    · rintro ρ g' ⟨o2, s, rfl, rfl, e1, e2, e3⟩
      simp -implicitDefEqProofs
      exact hQ _ _ ⟨s, rfl, rfl, ⟨by rw [e1]; exact hl, by rw [e2]; decide, by rw [e2]; decide⟩, e3⟩
  obtain ⟨d, g', e, s, rfl, rfl, h1, h2⟩ := key
  exact ⟨s, e, h1, h2⟩
end L_k76
end
section
set_option Elab.async false
set_option linter.all false
set_option maxRecDepth 100000
set_option maxHeartbeats 4000000
set_option autoImplicit false
namespace L_k76
open PySem PD
def abc : Str := "abcdefghijklmnopqrstuvwxyz"
theorem abc_cs : abc.cps.toList = [97, 98, 99, 100, 101, 102, 103, 104, 105, 106, 107, 108, 109, 110, 111, 112, 113, 114, 115, 116, 117, 118, 119, 120, 121, 122] := by rfl
def Letter (c : Nat) : Prop := 97 ≤ c ∧ c ≤ 122
theorem abc_letter {c : Nat} : c ∈ abc.cps.toList ↔ Letter c := by
  rw [abc_cs]
  unfold Letter
  constructor
  · intro h
    simp only [List.mem_cons, List.not_mem_nil, or_false] at h
    omega
  · intro h
    simp only [List.mem_cons, List.not_mem_nil, or_false]
    omega
structure NameOk (x : Str) : Prop where
  lo : 1 ≤ (cs x).length
  hi : (cs x).length ≤ 8
  ch : ∀ c ∈ cs x, Letter c
theorem range1_ok {n : Int} (h1 : 0 ≤ n) (h2 : n < 1000000) : range1M [.int n] = some (rangeD 0 n.toNat) := by
  show (if -(2 ^ 62) ≤ n ∧ n < 2 ^ 62 then some (rangeD 0 n.toNat) else none) = _
  rw [if_pos ⟨by omega, by omega⟩]
structure Names (xs : List Str) : Prop where
  nm : ∀ x ∈ xs, NameOk x
  up : xs.Pairwise fun x y => x.cps.toList < y.cps.toList
/-! ### words -/
/-! ### rows of counts -/
def tupI (r : List Int) : D := .tup (r.map .int)
def rowsE (found : List (List Int)) (c : Int) : List (List Int) := found.flatMap fun row => (upto c).map fun m => row ++ [m]
def rowsC (counts : List Int) : List (List Int) := counts.foldl rowsE [[]]
theorem rowsE_len (found : List (List Int)) (c : Int) : (rowsE found c).length = found.length * c.toNat := by
  unfold rowsE
  rw [List.length_flatMap]
  simp only [List.length_map, upto_len]
  induction found with
  | nil => simp
  | cons x xs ih => simp only [List.map_cons, List.sum_cons, List.length_cons, Nat.add_mul, Nat.one_mul, ih]; omega
/-! ### arenas -/
structure Place where
  marks : List Str
  counts : List Int
  nexts : List Int
def Place.d (p : Place) : D := .tup [.tup (p.marks.map .str), tupI p.counts, tupI p.nexts]
structure Arena where
  names : List Str
  places : List Place
def Arena.d (a : Arena) : D := .tup [.tup (a.names.map .str), .tup (a.places.map Place.d)]
structure PlaceOk (n k : Nat) (p : Place) : Prop where
  mks : Names p.marks
  ml : p.marks.length ≤ 4
  cl : p.counts.length = n
  cn : ∀ c ∈ p.counts, 1 ≤ c ∧ c ≤ 3
  nl : p.nexts.length = (rowsC p.counts).length
  n36 : (rowsC p.counts).length ≤ 36
  nx : ∀ x ∈ p.nexts, 0 ≤ x ∧ x < k
structure ArenaOk (a : Arena) : Prop where
  nm : Names a.names
  n1 : 1 ≤ a.names.length
  n4 : a.names.length ≤ 4
  p1 : 1 ≤ a.places.length
  p10 : a.places.length ≤ 10
  pl : ∀ p ∈ a.places, PlaceOk a.names.length a.places.length p
def tupS (xs : List Str) : D := .tup (xs.map .str)
def prodZ : List Int → Int
  | [] => 1
  | c :: cs => c * prodZ cs
theorem foldl_len : ∀ (cs : List Int) (found : List (List Int)), (∀ c ∈ cs, 0 ≤ c) → ((cs.foldl rowsE found).length : Int) = found.length * prodZ cs
  | [], found, _ => by simp [prodZ]
  | c :: cs, found, h => by
    rw [List.foldl_cons, foldl_len cs _ fun y hy => h y (List.mem_cons_of_mem _ hy), rowsE_len]
    have := h c List.mem_cons_self
    simp only [prodZ]
    rw [Int.natCast_mul, Int.toNat_of_nonneg this, Int.mul_assoc]
theorem rowsC_len {cs : List Int} (h : ∀ c ∈ cs, 0 ≤ c) : ((rowsC cs).length : Int) = prodZ cs := by
  unfold rowsC
  rw [foldl_len cs _ h]
  simp
/-! ### the place to which a joint leads -/
end L_k76
end
section
set_option Elab.async false
set_option linter.all false
set_option maxRecDepth 100000
set_option maxHeartbeats 4000000
set_option autoImplicit false
namespace L_k76
open PySem PD
/-! ### the law's names -/
theorem nodup_map {α β : Type} {f : α → β} {l : List α} (h : l.Nodup) (hf : ∀ x ∈ l, ∀ y ∈ l, x ≠ y → f x ≠ f y) : (l.map f).Nodup := by
  unfold List.Nodup
  rw [List.pairwise_map]
  exact List.Pairwise.imp_of_mem (fun hx hy hne => hf _ hx _ hy hne) h
theorem upto_nd (k : Int) : (upto k).Nodup := by
  unfold upto
  refine List.pairwise_map.mpr (List.nodup_range.imp fun {x y} h e => h (by omega))
def own19 : List Str := ["place", "moves", "next", "players", "keep", "can", "till", "each", "yes", "mark", "not", "and", "or", "bound", "rooms", "at", "again", "atlast", "when"]
theorem own_ok : ∀ x ∈ own19, NameOk x := fun x hx => by
  have h : ∀ x ∈ own19, 1 ≤ (cs x).length ∧ (cs x).length ≤ 8 ∧ ∀ c ∈ cs x, 97 ≤ c ∧ c ≤ 122 := by decide +kernel
  obtain ⟨h1, h2, h3⟩ := h x hx
  exact ⟨h1, h2, h3⟩
theorem own_nd : own19.Nodup := by decide +kernel
theorem own_len : own19.length = 19 := rfl
theorem own_split : splD 32 (.str "place moves next players keep can till each yes mark not and or bound rooms") = some ((own19.take 15).map .str) := by
  have h : splD 32 (.str "place moves next players keep can till each yes mark not and or bound rooms") = if ("place moves next players keep can till each yes mark not and or bound rooms" : Str).length + 2 ≤ sizeLine then some ((splC 32 [] (cs "place moves next players keep can till each yes mark not and or bound rooms")).map fun l => D.str (ofCs l)) else none := rfl
  rw [h, if_pos (by rw [sizeLine_eq]; decide +kernel)]
  rfl
def pick {α : Type} [Inhabited α] (l : List α) (i : Int) : α := (l[i.toNat]?).getD default
theorem pick_at {l : List Str} {i : Int} (h0 : 0 ≤ i) (h1 : i < l.length) (g : G) : ixD g (.lst (l.map .str)) (.int i) = some (.str (pick l i)) := by
  show L2.atI (l.map D.str) i = _
  rw [atI_of h0 (by rw [List.length_map]; exact h1), List.getElem?_map]
  unfold pick
  rw [List.getElem?_eq_getElem (show i.toNat < l.length by omega)]
  rfl
theorem pick_mem {α : Type} [Inhabited α] {l : List α} {i : Int} (h0 : 0 ≤ i) (h1 : i < l.length) : pick l i ∈ l := by
  unfold pick
  rw [List.getElem?_eq_getElem (show i.toNat < l.length by omega)]
  exact List.getElem_mem _
theorem pick_inj {α : Type} [Inhabited α] {l : List α} (hn : l.Nodup) {i j : Int} (i0 : 0 ≤ i) (i1 : i < l.length) (j0 : 0 ≤ j) (j1 : j < l.length) (h : pick l i = pick l j) : i = j := by
  unfold pick at h
  rw [List.getElem?_eq_getElem (show i.toNat < l.length by omega), List.getElem?_eq_getElem (show j.toNat < l.length by omega)] at h
  have := (List.getElem_inj hn).mp (show l[i.toNat] = l[j.toNat] from h)
  omega
theorem cutS_to (x : Str) (n : Nat) : L2.cutS x none (some (n : Int)) = ofCs ((cs x).take n) := by
  unfold L2.cutS
  rw [HT.sIx_none]
  have h1 : HT.sIx x.length x.length (some (n : Int)) = min n x.length := HT.sIx_nat _ _ n
  have hl : x.cps.toList.length = x.length := by rw [Array.length_toList]; rfl
  rw [h1, List.drop_zero, Nat.sub_zero]
  show ofCs (List.take (min n x.length) (cs x)) = _
  congr 1
  have hl : (cs x).length = x.length := hl
  by_cases h : n ≤ x.length
  · rw [Nat.min_eq_left h]
  · rw [Nat.min_eq_right (by omega), List.take_of_length_le (by omega), List.take_of_length_le (by omega)]
theorem cs_of (l : List Nat) : cs (ofCs l) = l := rfl
theorem addS (x y : Str) (h : x.length + y.length ≤ 100000) : addD (.str x) (.str y) = some (.str (x ++ y)) := szD_ok (by rw [sizeLine_eq]; omega)
theorem cs_app (x y : Str) : cs (x ++ y) = cs x ++ cs y := by
  show ((x ++ y : Str)).cps.toList = _
  have : (x ++ y : Str).cps = x.cps ++ y.cps := rfl
  rw [this, Array.toList_append]
  rfl
/-- [small[draw(26)] for ..] -/
theorem signs_lc {o1 o2 o3 o5 o6 o7 o8 o9 : Option LV} : ∀ (ds : List D) {s : Dr} {b : Nat}, s.Ok (b + ds.length) → ∃ (xs : List Nat) (s' : Dr),
    lcL (bName 8) tYesD (eIx (eVar 4) (eCall F__law_draw (aCons (eVar 0) (aCons (eC (.int 26)) aNil)))) [some (.d (.hd 2)), o1, o2, o3, some (.d (.str abc)), o5, o6, o7, o8, o9] ds s.g = some (xs.map fun c => .str ⟨#[c]⟩, s'.g) ∧
      xs.length = ds.length ∧ (∀ c ∈ xs, Letter c) ∧ s'.Ok b ∧ s'.rest = s.rest
  | [], s, b, h => ⟨[], s, rfl, rfl, fun _ h => absurd h (by simp), h, rfl⟩
  | d :: ds, s, b, h => by
    obtain ⟨r, s1, e, r1, r2, ok, ec⟩ := draw_ok (b := b + ds.length) (by simpa [Nat.add_assoc] using h) (m := 26) (by decide) (by decide)
    obtain ⟨c, hc, hm⟩ := atI_mem (l := abc.cps.toList) (i := r) r1 (by rw [abc_cs]; simp; omega)
    obtain ⟨xs, s2, e2, l2, m2, ok2, ec2⟩ := signs_lc (o1 := o1) (o2 := o2) (o3 := o3) (o5 := o5) (o6 := o6) (o7 := o7) (o8 := o8) (o9 := o9) ds ok
    refine ⟨c :: xs, s2, ?_, by simp [l2], fun c' h' => ?_, ok2, ec2.trans ec⟩
    · rw [lcL_cons]
      simp [bName, setR, e, hc, e2]
    · rcases List.mem_cons.mp h' with rfl | h'
      · exact abc_letter.mp hm
      · exact m2 c' h'
/-- beginnings of a text, and a sign -/
theorem ends_lc {o1 o3 o4 o5 o7 o8 : Option LV} {w : Int} (hw : w = 2 ∨ w = 3) {B : List Nat} (hB : B.length = 8) (hBl : ∀ c ∈ B, Letter c) : ∀ (es : List Nat) {s : Dr} {b : Nat} {o9 : Option LV}, (∀ c ∈ es, Letter c) → s.Ok (b + es.length) → ∃ (xs : List Str) (s' : Dr),
    lcL (bName 9) tYesD (eOp addD (eSl (eVar 6) pNone (pSome (eOp dMul (eCall F__law_draw (aCons (eVar 0) (aCons (eC (.int 8)) aNil))) (eOp subD (eVar 2) (eC (.int 2)))))) (eVar 9)) [some (.d (.hd 2)), o1, some (.d (.int w)), o3, o4, o5, some (.d (.str (ofCs B))), o7, o8, o9] (es.map fun c => .str ⟨#[c]⟩) s.g = some (xs.map .str, s'.g) ∧
      xs.length = es.length ∧ (∀ x ∈ xs, NameOk x) ∧ (es.Nodup → xs.Nodup) ∧ (∀ x ∈ xs, ∃ c ∈ es, ∃ l, cs x = l ++ [c]) ∧ s'.Ok b ∧ s'.rest = s.rest
  | [], s, b, o9, _, h => ⟨[], s, rfl, rfl, fun _ h => absurd h (by simp), fun _ => List.nodup_nil, fun _ h => absurd h (by simp), h, rfl⟩
  | c :: es, s, b, o9, hc, h => by
    obtain ⟨r, s1, e, r1, r2, ok, ec⟩ := draw_ok (b := b + es.length) (by simpa [Nat.add_assoc] using h) (m := 8) (by decide) (by decide)
    obtain ⟨xs, s2, e2, l2, m2, nd2, t2, ok2, ec2⟩ := ends_lc (o1 := o1) (o3 := o3) (o4 := o4) (o5 := o5) (o7 := o7) (o8 := o8) hw hB hBl es (s := s1) (b := b) (o9 := o9) (fun x hx => hc x (List.mem_cons_of_mem _ hx)) ok
    have hn : 0 ≤ r * (w - 2) ∧ r * (w - 2) ≤ 7 := by rcases hw with rfl | rfl <;> omega
    obtain ⟨n, hnn⟩ : ∃ n : Nat, r * (w - 2) = (n : Int) := ⟨(r * (w - 2)).toNat, by omega⟩
    have sb : subD (.int w) (.int 2) = some (.int (w - 2)) := rfl
    have mu : dMul (.int r) (.int (w - 2)) = some (.int (n : Int)) := by rw [dMul_ok _ _ (by omega), hnn]
    have sl : slD (.str (ofCs B)) none (some (n : Int)) = some (.str (ofCs (B.take n))) := by
      show some (D.str (L2.cutS (ofCs B) none (some (n : Int)))) = _
      rw [cutS_to, cs_of]
    have tk : (B.take n).length ≤ 7 := by rw [List.length_take]; omega
    have ad := addS (ofCs (B.take n)) ⟨#[c]⟩ (by
      show (B.take n).toArray.size + 1 ≤ 100000
      rw [List.size_toArray]; omega)
    have cx : cs (ofCs (B.take n) ++ ⟨#[c]⟩) = B.take n ++ [c] := by rw [cs_app]; rfl
    refine ⟨(ofCs (B.take n) ++ ⟨#[c]⟩) :: xs, s2, ?_, by simp [l2], fun x hx => ?_, fun nd => ?_, fun x hx => ?_, ok2, ec2.trans ec⟩
    · rw [List.map_cons, lcL_cons]
      generalize (es.map fun c => D.str ⟨#[c]⟩) = ES at *
      generalize ofCs B = SB at *
      simp -implicitDefEqProofs [bName, setR, e, sb, mu, sl, ad, e2]
    · rcases List.mem_cons.mp hx with rfl | hx
      · refine ⟨by rw [cx]; simp, by rw [cx, List.length_append]; simp; omega, fun y hy => ?_⟩
        rw [cx] at hy
        rcases List.mem_append.mp hy with hy | hy
        · exact hBl y (List.mem_of_mem_take hy)
        · rw [List.mem_singleton.mp hy]; exact hc c List.mem_cons_self
      · exact m2 x hx
    · obtain ⟨n1, n2⟩ := List.nodup_cons.mp nd
      refine List.nodup_cons.mpr ⟨fun hm => ?_, nd2 n2⟩
      obtain ⟨c', hc', l, hl⟩ := t2 _ hm
      rw [cx] at hl
      have : c = c' := by
        have := congrArg List.getLast? hl
        simpa using this
      rw [this] at n1
      exact n1 hc'
    · rcases List.mem_cons.mp hx with rfl | hx
      · exact ⟨c, List.mem_cons_self, B.take n, cx⟩
      · obtain ⟨c', hc', l, hl⟩ := t2 x hx
        exact ⟨c', List.mem_cons_of_mem _ hc', l, hl⟩
theorem names_ok {n : Int} (h0 : 0 ≤ n) (h5 : n ≤ 5) {s : Dr} {b : Nat} (ok : s.Ok (b + 20)) : ∃ (xs : List Str) (s' : Dr), F__law_names [.hd 2, .int n] s.g = some (.lst (xs.map .str), s'.g) ∧ (xs.length : Int) = n ∧ Names xs ∧ s'.Ok b ∧ s'.rest = s.rest := by
  have sz := sizeLine_eq
  obtain ⟨w, s1, e1, w1, w2, ok1, q1⟩ := draw_ok (b := b + 19) ok (m := 4) (by decide) (by decide)
  obtain ⟨f, s2, e2, f1, f2, ok2, q2⟩ := draw_ok (b := b + 18) ok1 (m := 26) (by decide) (by decide)
  obtain ⟨B, s3, e3, l3, B3, ok3, q3⟩ := signs_lc (o1 := some (.d (.int n))) (o2 := some (.d (.int w))) (o3 := some (.d (.int f))) (o5 := some (.d (.lst (own19.map .str)))) (o6 := none) (o7 := none) (o8 := none) (o9 := none) ((upto 8).map .int) (s := s2) (b := b + 10) (by rw [List.length_map, upto_len]; exact ok2)
  have l3 : B.length = 8 := by rw [l3, List.length_map, upto_len]; rfl
  have r8 := range1_ok (n := 8) (by decide) (by decide)
  rw [rangeD_upto] at r8
  have rn := range1_ok (n := n) h0 (by omega)
  rw [rangeD_upto] at rn
  have sp := own_split
  have zs : ((own19.take 15).map D.str).length ≤ sizeLine := by rw [List.length_map, sz]; decide
  have z4 : (4 : Nat) ≤ sizeLine := by omega
  have ad : addD (.lst ((own19.take 15).map .str)) (.lst [.str "at", .str "again", .str "atlast", .str "when"]) = some (.lst (own19.map .str)) := by
    show szD _ _ = _
    exact szD_ok (by rw [sz]; decide)
  have jn := joinD_signs B (by omega)
  have zB : (B.map fun c => D.str ⟨#[c]⟩).length ≤ sizeLine := by rw [List.length_map]; omega
  have upl : (upto n).length ≤ 5 := by rw [upto_len]; omega
  have fin : ∀ xs : List Str, (∀ x ∈ xs, NameOk x) → xs.Nodup → Names (sortS xs) := fun xs h1 h2 => ⟨fun x hx => h1 x ((sortS_perm xs).mem_iff.mp hx), sortS_lt h2⟩
  have finl : ∀ xs : List Str, (sortS xs).length = xs.length := fun xs => (sortS_perm xs).length_eq
  have ez : ∀ c : Int, eqD (.int w) (.int c) = some (decide (w = c)) := fun c => by rw [eqD_of rfl rfl, eqq_int]
  rcases (by omega : w = 0 ∨ w = 1 ∨ (w = 2 ∨ w = 3)) with rfl | rfl | hw
  · let q : Int → Str := fun k => pick own19 ((f + 4 * k) % 19)
    have e4 : lcL (bName 8) tYesD (eIx (eVar 5) (eOp dMod (eOp addD (eVar 3) (eOp dMul (eC (.int 4)) (eVar 8))) (eC (.int 19)))) [some (.d (.hd 2)), some (.d (.int n)), some (.d (.int 0)), some (.d (.int f)), some (.d (.str abc)), some (.d (.lst (own19.map .str))), some (.d (.str (ofCs B))), none, none, none] ((upto n).map .int) s3.g = some (((upto n).map q).map .str, s3.g) := by
      refine lc_typed (f := D.int) (f' := D.str) (q := q) (upto n) fun k hk => ⟨[some (.d (.hd 2)), some (.d (.int n)), some (.d (.int 0)), some (.d (.int f)), some (.d (.str abc)), some (.d (.lst (own19.map .str))), some (.d (.str (ofCs B))), none, some (.d (.int k)), none], rfl, ?_⟩
      have hk := upto_mem.mp hk
      have m1 : dMul (.int 4) (.int k) = some (.int (4 * k)) := dMul_ok _ _ (by decide)
      have m2 := dMod_ok (f + 4 * k) 19 (by decide)
      have ix := pick_at (l := own19) (i := (f + 4 * k) % 19) (by omega) (by rw [own_len]; omega) s3.g
      have qk : q k = pick own19 ((f + 4 * k) % 19) := rfl
      rw [qk]
      generalize D.lst (own19.map .str) = OL at *
      generalize ofCs B = SB at *
      simp -implicitDefEqProofs [m1, m2, ix]
    have hq : ∀ k ∈ upto n, 0 ≤ (f + 4 * k) % 19 ∧ (f + 4 * k) % 19 < (own19.length : Int) := fun k hk => by rw [own_len]; omega
    refine ⟨sortS ((upto n).map q), s3, runF_rt ?_, ?_, fin _ (fun x hx => ?_) (nodup_map (upto_nd n) fun k hk k' hk' hne he => ?_), ok3.mono (by omega), q3.trans (q2.trans q1)⟩
    · have so := sortedM_strs ((upto n).map q)
      have zq : (((upto n).map q).map D.str).length ≤ sizeLine := by rw [List.length_map, List.length_map]; omega
      generalize ((upto n).map q).map D.str = QL at *
      generalize (upto n).map D.int = UN at *
      generalize (upto 8).map D.int = U8 at *
      generalize (own19.take 15).map D.str = OS at *
      generalize D.lst (own19.map .str) = OL at *
      generalize (B.map fun c => D.str ⟨#[c]⟩) = BL at *
      generalize ofCs B = SB at *
      unfold abc at e3 e4
      have sp : splD 32 (.str "place moves next players keep can till each yes mark not and or bound rooms") = some OS := sp
      simp -implicitDefEqProofs [s__law_names, slots0, setLs, e1, e2, sp, zs, z4, ad, r8, e3, zB, jn, ez, rn, e4, zq, so]
    · rw [finl, List.length_map, upto_len]; omega
    · obtain ⟨k, hk, rfl⟩ := List.mem_map.mp hx
      exact own_ok _ (pick_mem (hq k hk).1 (hq k hk).2)
    · have := pick_inj own_nd (hq k hk).1 (hq k hk).2 (hq k' hk').1 (hq k' hk').2 he
      have h1 := upto_mem.mp hk
      have h2 := upto_mem.mp hk'
      omega
  · let q : Int → Str := fun k => ofCs (B.take (1 + (f + 3 * k) % 8).toNat)
    have e4 : lcL (bName 8) tYesD (eSl (eVar 6) pNone (pSome (eOp addD (eC (.int 1)) (eOp dMod (eOp addD (eVar 3) (eOp dMul (eC (.int 3)) (eVar 8))) (eC (.int 8)))))) [some (.d (.hd 2)), some (.d (.int n)), some (.d (.int 1)), some (.d (.int f)), some (.d (.str abc)), some (.d (.lst (own19.map .str))), some (.d (.str (ofCs B))), none, none, none] ((upto n).map .int) s3.g = some (((upto n).map q).map .str, s3.g) := by
      refine lc_typed (f := D.int) (f' := D.str) (q := q) (upto n) fun k hk => ⟨[some (.d (.hd 2)), some (.d (.int n)), some (.d (.int 1)), some (.d (.int f)), some (.d (.str abc)), some (.d (.lst (own19.map .str))), some (.d (.str (ofCs B))), none, some (.d (.int k)), none], rfl, ?_⟩
      have hk := upto_mem.mp hk
      have m1 : dMul (.int 3) (.int k) = some (.int (3 * k)) := dMul_ok _ _ (by decide)
      have m2 := dMod_ok (f + 3 * k) 8 (by decide)
      have sl : slD (.str (ofCs B)) none (some (1 + (f + 3 * k) % 8)) = some (.str (q k)) := by
        have e : (1 + (f + 3 * k) % 8 : Int) = (((1 + (f + 3 * k) % 8).toNat : Nat) : Int) := by omega
        show some (D.str (L2.cutS (ofCs B) none (some (1 + (f + 3 * k) % 8)))) = _
        conv => lhs; rw [e]
        rw [cutS_to, cs_of]
      generalize q k = QK at *
      generalize D.lst (own19.map .str) = OL at *
      generalize ofCs B = SB at *
      simp -implicitDefEqProofs [m1, m2, sl]
    refine ⟨sortS ((upto n).map q), s3, runF_rt ?_, ?_, fin _ (fun x hx => ?_) (nodup_map (upto_nd n) fun k hk k' hk' hne he => ?_), ok3.mono (by omega), q3.trans (q2.trans q1)⟩
    · have so := sortedM_strs ((upto n).map q)
      have zq : (((upto n).map q).map D.str).length ≤ sizeLine := by rw [List.length_map, List.length_map]; omega
      generalize ((upto n).map q).map D.str = QL at *
      generalize (upto n).map D.int = UN at *
      generalize (upto 8).map D.int = U8 at *
      generalize (own19.take 15).map D.str = OS at *
      generalize D.lst (own19.map .str) = OL at *
      generalize (B.map fun c => D.str ⟨#[c]⟩) = BL at *
      generalize ofCs B = SB at *
      unfold abc at e3 e4
      have sp : splD 32 (.str "place moves next players keep can till each yes mark not and or bound rooms") = some OS := sp
      simp -implicitDefEqProofs [s__law_names, slots0, setLs, e1, e2, sp, zs, z4, ad, r8, e3, zB, jn, ez, rn, e4, zq, so]
    · rw [finl, List.length_map, upto_len]; omega
    · obtain ⟨k, hk, rfl⟩ := List.mem_map.mp hx
      refine ⟨?_, ?_, fun c hc => B3 c (List.mem_of_mem_take hc)⟩
      · show 1 ≤ (B.take (1 + (f + 3 * k) % 8).toNat).length
        rw [List.length_take]; omega
      · show (B.take (1 + (f + 3 * k) % 8).toNat).length ≤ 8
        rw [List.length_take]; omega
    · have h1 := upto_mem.mp hk
      have h2 := upto_mem.mp hk'
      have := congrArg (fun x : Str => (cs x).length) he
      have : (B.take (1 + (f + 3 * k) % 8).toNat).length = (B.take (1 + (f + 3 * k') % 8).toNat).length := this
      rw [List.length_take, List.length_take] at this
      omega
  · let q : Int → Nat := fun k => pick abc.cps.toList ((f + 5 * k) % 26)
    have al : abc.cps.toList.length = 26 := rfl
    have and_ : abc.cps.toList.Nodup := by rw [abc_cs]; decide
    have hq : ∀ k ∈ upto n, 0 ≤ (f + 5 * k) % 26 ∧ (f + 5 * k) % 26 < (abc.cps.toList.length : Int) := fun k hk => by rw [al]; omega
    have e4 : lcL (bName 8) tYesD (eIx (eVar 4) (eOp dMod (eOp addD (eVar 3) (eOp dMul (eC (.int 5)) (eVar 8))) (eC (.int 26)))) [some (.d (.hd 2)), some (.d (.int n)), some (.d (.int w)), some (.d (.int f)), some (.d (.str abc)), some (.d (.lst (own19.map .str))), some (.d (.str (ofCs B))), none, none, none] ((upto n).map .int) s3.g = some (((upto n).map q).map fun c => .str ⟨#[c]⟩, s3.g) := by
      refine lc_typed (f := D.int) (f' := fun c : Nat => D.str ⟨#[c]⟩) (q := q) (upto n) fun k hk => ⟨[some (.d (.hd 2)), some (.d (.int n)), some (.d (.int w)), some (.d (.int f)), some (.d (.str abc)), some (.d (.lst (own19.map .str))), some (.d (.str (ofCs B))), none, some (.d (.int k)), none], rfl, ?_⟩
      have hk0 := upto_mem.mp hk
      have m1 : dMul (.int 5) (.int k) = some (.int (5 * k)) := dMul_ok _ _ (by decide)
      have m2 := dMod_ok (f + 5 * k) 26 (by decide)
      have ix : L2.atI abc.cps.toList ((f + 5 * k) % 26) = some (q k) := by
        rw [atI_of (hq k hk).1 (hq k hk).2]
        show _ = some ((abc.cps.toList[((f + 5 * k) % 26).toNat]?).getD default)
        rw [List.getElem?_eq_getElem (by have := hq k hk; omega)]
        rfl
      generalize q k = QK at *
      generalize D.lst (own19.map .str) = OL at *
      generalize ofCs B = SB at *
      simp -implicitDefEqProofs [m1, m2, ix]
    have hE : ∀ c ∈ (upto n).map q, Letter c := fun c hc => by
      obtain ⟨k, hk, rfl⟩ := List.mem_map.mp hc
      exact abc_letter.mp (pick_mem (hq k hk).1 (hq k hk).2)
    have nE : ((upto n).map q).Nodup := nodup_map (upto_nd n) fun k hk k' hk' hne he => by
      have := pick_inj and_ (hq k hk).1 (hq k hk).2 (hq k' hk').1 (hq k' hk').2 he
      have h1 := upto_mem.mp hk
      have h2 := upto_mem.mp hk'
      omega
    have lE : ((upto n).map q).length ≤ 5 := by rw [List.length_map]; exact upl
    obtain ⟨xs, s4, e5, l5, n5, d5, _, ok5, q5⟩ := ends_lc (o1 := some (.d (.int n))) (o3 := some (.d (.int f))) (o4 := some (.d (.str abc))) (o5 := some (.d (.lst (own19.map .str)))) (o7 := some (.d (.lst (((upto n).map q).map fun c => .str ⟨#[c]⟩)))) (o8 := none) (o9 := none) hw l3 B3 ((upto n).map q) (s := s3) (b := b) hE (ok3.mono (by omega))
    refine ⟨sortS xs, s4, runF_rt ?_, ?_, fin _ n5 (d5 nE), ok5, q5.trans (q3.trans (q2.trans q1))⟩
    · have so := sortedM_strs xs
      have zx : (xs.map D.str).length ≤ sizeLine := by rw [List.length_map, l5]; omega
      have zq : (((upto n).map q).map fun c => D.str ⟨#[c]⟩).length ≤ sizeLine := by rw [List.length_map]; omega
      have iq : itemsD (.lst (((upto n).map q).map fun c => D.str ⟨#[c]⟩)) = some (((upto n).map q).map fun c => D.str ⟨#[c]⟩) := rfl
      have w0 : ¬ w = 0 := by omega
      have w1' : ¬ w = 1 := by omega
      have ez0 := ez 0
      have ez1 := ez 1
      rw [decide_eq_false w0] at ez0
      rw [decide_eq_false w1'] at ez1
      clear hE nE lE hq
      generalize (((upto n).map q).map fun c => D.str ⟨#[c]⟩) = QL at *
      generalize xs.map D.str = XL at *
      generalize (upto n).map D.int = UN at *
      generalize (upto 8).map D.int = U8 at *
      generalize (own19.take 15).map D.str = OS at *
      generalize D.lst (own19.map .str) = OL at *
      generalize (B.map fun c => D.str ⟨#[c]⟩) = BL at *
      generalize ofCs B = SB at *
      unfold abc at e3 e4 e5
      have sp : splD 32 (.str "place moves next players keep can till each yes mark not and or bound rooms") = some OS := sp
      simp -implicitDefEqProofs [s__law_names, slots0, setLs, e1, e2, sp, zs, z4, ad, r8, e3, zB, jn, ez0, ez1, rn, e4, zq, iq, e5, zx, so]
    · rw [finl, l5, List.length_map, upto_len]; omega
end L_k76
end
section
set_option Elab.async false
set_option linter.all false
set_option maxRecDepth 100000
set_option maxHeartbeats 4000000
set_option autoImplicit false
namespace L_k76
open PySem PD
/-! ### drawn arenas -/
theorem prodZ_app : ∀ (cs : List Int) (c : Int), prodZ (cs ++ [c]) = prodZ cs * c
  | [], c => by simp [prodZ]
  | d :: cs, c => by
    rw [List.cons_append]
    show d * prodZ (cs ++ [c]) = d * prodZ cs * c
    rw [prodZ_app cs c, Int.mul_assoc]
theorem prodZ_pos : ∀ {cs : List Int}, (∀ c ∈ cs, 1 ≤ c) → 1 ≤ prodZ cs
  | [], _ => by simp [prodZ]
  | c :: cs, h => by
    have h1 := h c List.mem_cons_self
    have h2 := prodZ_pos (cs := cs) fun y hy => h y (List.mem_cons_of_mem _ hy)
    show 1 ≤ c * prodZ cs
    have := Int.mul_le_mul h1 h2 (by omega) (by omega)
    omega
theorem atI_last {l : List D} {x : D} : L2.atI (l ++ [x]) (-1) = some x := by
  unfold L2.atI L2.ixN
  have e : (-1 + ((l ++ [x]).length : Int)).toNat = l.length := by simp; omega
  rw [if_neg (by omega), if_pos (by simp; omega), e]
  simp
theorem rowsC_le {cs : List Int} (hc : ∀ c ∈ cs, 1 ≤ c ∧ c ≤ 3) (hp : prodZ cs ≤ 36) : (rowsC cs).length ≤ 36 := by
  have := rowsC_len (cs := cs) fun c h => by have := hc c h; omega
  omega
theorem eqD_int (i j : Int) : eqD (.int i) (.int j) = some (decide (i = j)) := by rw [eqD_of rfl rfl, eqq_int]
theorem cut_to (l : List D) (n : Nat) : slD (.lst l) none (some (n : Int)) = some (.lst (l.take n)) := by
  show some (D.lst (cutL l none (some (n : Int)))) = _
  unfold cutL
  rw [HT.sIx_none]
  have : HT.sIx l.length l.length (some (n : Int)) = min n l.length := HT.sIx_nat _ _ n
  rw [this, List.drop_zero, Nat.sub_zero]
  congr 2
  by_cases h : n ≤ l.length
  · rw [Nat.min_eq_left h]
  · rw [Nat.min_eq_right (by omega), List.take_of_length_le (Nat.le_refl _), List.take_of_length_le (by omega)]
def cnBody : S := (sSeq (sSet 10 (eOp addD (eC (.int 1)) (eCall F__law_draw (aCons (eVar 0) (aCons (eC (.int 3)) aNil)))))
  (sSeq (sAppend 7 (eIf (tCmp leD (eOp dMul (eVar 8) (eVar 10)) (eC (.int 36))) (eVar 10) (eC (.int 1))))
  (sSet 8 (eOp dMul (eVar 8) (eIxO 7 (eNeg (eC (.int 1))))))))
theorem counts_for {x1 x2 x3 x4 x5 x6 o11 o12 o13 o14 : Option LV} {ns : List Str} (hn : ns.length ≤ 4) {s : Dr} {b : Nat} (ok : s.Ok (b + 4)) {o9 o10 : Option LV} :
    Wp (forL (bName 9) cnBody (ns.map .str) [some (.d (.hd 2)), x1, x2, x3, x4, x5, x6, some (.ol []), some (.d (.int 1)), o9, o10, o11, o12, o13, o14] s.g)
      fun fl g' => ∃ (cs : List Int) (o9' o10' : Option LV) (s' : Dr), fl = .nx [some (.d (.hd 2)), x1, x2, x3, x4, x5, x6, some (.ol (cs.map .int)), some (.d (.int (prodZ cs))), o9', o10', o11, o12, o13, o14] ∧ g' = s'.g ∧ s'.Ok b ∧ s'.rest = s.rest ∧ cs.length = ns.length ∧ (∀ c ∈ cs, 1 ≤ c ∧ c ≤ 3) ∧ prodZ cs ≤ 36 := by
  have sz := sizeLine_eq
  refine wp_for ns (fun done ρ g' => ∃ (cs : List Int) (o9' o10' : Option LV) (s' : Dr), ρ = [some (.d (.hd 2)), x1, x2, x3, x4, x5, x6, some (.ol (cs.map .int)), some (.d (.int (prodZ cs))), o9', o10', o11, o12, o13, o14] ∧ g' = s'.g ∧ s'.Ok (b + (4 - done.length)) ∧ s'.rest = s.rest ∧ cs.length = done.length ∧ (∀ c ∈ cs, 1 ≤ c ∧ c ≤ 3) ∧ prodZ cs ≤ 36) ?_ ?_ ?_
  · exact ⟨[], o9, o10, s, rfl, rfl, ok, rfl, rfl, by simp, by simp [prodZ]⟩
  · rintro done x todo ρ g' e ⟨cs, o9', o10', s', rfl, rfl, ok', lk, hl, hc, hp⟩
    refine ⟨_, rfl, ?_⟩
    have hd : done.length ≤ 3 := by rw [e] at hn; simp at hn; omega
    obtain ⟨r, s2, e2, d1, d2, ok2, l2⟩ := draw_ok (s := s') (b := b + (4 - (done.length + 1))) (ok'.mono (by omega)) (m := 3) (by decide) (by decide)
    generalize hw : 1 + r = w at *
    have pp := prodZ_pos (cs := cs) fun c hc' => (hc c hc').1
    have m1 : dMul (.int (prodZ cs)) (.int w) = some (.int (prodZ cs * w)) := dMul_ok _ _ (by omega)
    have z1 : (cs.map D.int).length < sizeLine := by rw [List.length_map]; omega
    by_cases hle : prodZ cs * w ≤ 36
    · have a1 : L2.atI (cs.map D.int ++ [.int w]) (-1) = some (.int w) := atI_last
      refine wp_mono (P := fun fl g' => fl = .nx [some (.d (.hd 2)), x1, x2, x3, x4, x5, x6, some (.ol (cs.map D.int ++ [.int w])), some (.d (.int (prodZ cs * w))), some (.d (.str x)), some (.d (.int w)), o11, o12, o13, o14] ∧ g' = s2.g) ?_ ?_
      · unfold cnBody
        generalize cs.map D.int = CC at *
        generalize prodZ cs = P at *
        simp [setR, e2, hw, m1, hle, z1, ixO, a1]
      · rintro fl g' ⟨rfl, rfl⟩
        refine ⟨cs ++ [w], some (.d (.str x)), some (.d (.int w)), s2, by simp [prodZ_app], rfl, by rw [List.length_append]; exact ok2, l2.trans lk, by simp [hl], ?_, by rw [prodZ_app]; exact hle⟩
        intro y hy
        rcases List.mem_append.mp hy with hy | hy
        · exact hc y hy
        · rw [List.mem_singleton.mp hy]
          omega
    · have a1 : L2.atI (cs.map D.int ++ [.int 1]) (-1) = some (.int 1) := atI_last
      have m2 : dMul (.int (prodZ cs)) (.int 1) = some (.int (prodZ cs)) := by rw [dMul_ok _ _ (by omega), Int.mul_one]
      refine wp_mono (P := fun fl g' => fl = .nx [some (.d (.hd 2)), x1, x2, x3, x4, x5, x6, some (.ol (cs.map D.int ++ [.int 1])), some (.d (.int (prodZ cs))), some (.d (.str x)), some (.d (.int w)), o11, o12, o13, o14] ∧ g' = s2.g) ?_ ?_
      · unfold cnBody
        generalize cs.map D.int = CC at *
        generalize prodZ cs = P at *
        simp [setR, e2, hw, m1, hle, z1, ixO, a1, m2]
      · rintro fl g' ⟨rfl, rfl⟩
        refine ⟨cs ++ [1], some (.d (.str x)), some (.d (.int w)), s2, by simp [prodZ_app], rfl, by rw [List.length_append]; exact ok2, l2.trans lk, by simp [hl], ?_, by rw [prodZ_app, Int.mul_one]; exact hp⟩
        intro y hy
        rcases List.mem_append.mp hy with hy | hy
        · exact hc y hy
        · rw [List.mem_singleton.mp hy]
          omega
  · rintro ρ g' ⟨cs, o9', o10', s', rfl, rfl, ok', lk, hl, hc, hp⟩
    exact ⟨cs, o9', o10', s', rfl, rfl, ok'.mono (by omega), lk, hl, hc, hp⟩
theorem nexts_lc {o1 o2 o3 o5 o6 o7 o8 o9 o10 o11 o12 o13 o14 : Option LV} {n : Int} (hn : 1 ≤ n) (hn2 : n ≤ 10) {m : Nat} {s : Dr} {b : Nat} (ok : s.Ok (b + m)) :
    Wp (lcL (bName 14) tYesD (eCall F__law_draw (aCons (eVar 0) (aCons (eVar 4) aNil))) [some (.d (.hd 2)), o1, o2, o3, some (.d (.int n)), o5, o6, o7, o8, o9, o10, o11, o12, o13, o14] ((upto m).map .int) s.g)
      fun r g' => ∃ (xs : List Int) (s' : Dr), r = xs.map .int ∧ g' = s'.g ∧ s'.Ok b ∧ s'.rest = s.rest ∧ xs.length = m ∧ ∀ x ∈ xs, 0 ≤ x ∧ x < n := by
  have hul : (upto m).length = m := by rw [upto_len]; omega
  refine wp_lcY (upto m) (fun done r g' => ∃ (xs : List Int) (s' : Dr), r = xs.map .int ∧ g' = s'.g ∧ s'.Ok (b + (m - done.length)) ∧ s'.rest = s.rest ∧ xs.length = done.length ∧ ∀ x ∈ xs, 0 ≤ x ∧ x < n) ⟨[], s, rfl, rfl, by simpa using ok, rfl, rfl, by simp⟩ ?_ ?_
  · rintro done x todo r g' e ⟨xs, s', rfl, rfl, ok', lk, hl, hx⟩
    refine ⟨_, rfl, ?_⟩
    have hd : done.length < m := by
      have : (upto m).length = done.length + (todo.length + 1) := by rw [e]; simp
      omega
    obtain ⟨d, s2, e2, d1, d2, ok2, l2⟩ := draw_ok (s := s') (b := b + (m - (done.length + 1))) (ok'.mono (by omega)) (m := n) (by omega) (by omega)
    refine wp_hide fun Q hQ => ?_
    simp [setR, e2]
    refine hQ _ _ ⟨xs ++ [d], s2, by simp, rfl, by rw [List.length_append]; exact ok2, l2.trans lk, by simp [hl], ?_⟩
    intro y hy
    rcases List.mem_append.mp hy with hy | hy
    · exact hx y hy
    · rw [List.mem_singleton.mp hy]
      omega
  · rintro r g' ⟨xs, s', rfl, rfl, ok', lk, hl, hx⟩
    exact ⟨xs, s', rfl, rfl, ok'.mono (by omega), lk, by omega, hx⟩
theorem marks_lc {o1 o2 o3 o4 o5 o6 o7 o8 o9 o10 o11 o12 o13 o14 : Option LV} {ps : List Str} (hp : ps.length ≤ 5) {s : Dr} {b : Nat} (ok : s.Ok (b + 5)) :
    Wp (lcL (bName 13) (tCmp eqD (eCall F__law_draw (aCons (eVar 0) (aCons (eC (.int 2)) aNil))) (eC (.int 0))) (eVar 13) [some (.d (.hd 2)), o1, o2, o3, o4, o5, o6, o7, o8, o9, o10, o11, o12, o13, o14] (ps.map .str) s.g)
      fun r g' => ∃ (ms : List Str) (s' : Dr), r = ms.map .str ∧ g' = s'.g ∧ ms.Sublist ps ∧ s'.Ok b ∧ s'.rest = s.rest := by
  refine wp_lc ps (fun done r g' => ∃ (gr : List Str) (s' : Dr), r = gr.map .str ∧ g' = s'.g ∧ gr.Sublist done ∧ s'.Ok (b + (5 - done.length)) ∧ s'.rest = s.rest) ⟨[], s, rfl, rfl, .slnil, ok, rfl⟩ ?_ ?_
  · rintro done x todo r g' e ⟨gr, s', rfl, rfl, sb, ok', lk⟩
    have hd : done.length + 1 ≤ 5 := by
      have := congrArg List.length e
      simp at this; omega
    refine ⟨_, rfl, ?_⟩
    obtain ⟨d, s2, e2, d1, d2, ok2, l2⟩ := draw_ok (s := s') (b := b + (5 - (done.length + 1))) (ok'.mono (by omega)) (m := 2) (by decide) (by decide)
    refine wp_mono (P := fun t g1 => t = decide (d = 0) ∧ g1 = s2.g) (by simp -implicitDefEqProofs [setR, e2, eqD_int]) ?_
    rintro t g1 ⟨rfl, rfl⟩
    by_cases hz : d = 0
    · rw [if_pos (by simpa using hz)]
      refine wp_hide fun Q hQ => ?_
      simp -implicitDefEqProofs [setR]
      exact hQ _ _ ⟨gr ++ [x], s2, by simp, rfl, sb.append (List.Sublist.refl _), by rw [List.length_append]; exact ok2, l2.trans lk⟩
    · rw [if_neg (by simpa using hz)]
      exact ⟨gr, s2, rfl, rfl, sb.trans (List.sublist_append_left _ _), by rw [List.length_append]; exact ok2, l2.trans lk⟩
  · rintro r g' ⟨gr, s', rfl, rfl, sb, ok', lk⟩
    exact ⟨gr, s', rfl, rfl, sb, ok'.mono (by omega), lk⟩
theorem Names.sub {xs ys : List Str} (h : Names ys) (s : xs.Sublist ys) : Names xs := ⟨fun x hx => h.nm x (s.subset hx), h.up.sublist s⟩
theorem arena_ok {ns ps : List Str} (hns : Names ns) (n1 : 1 ≤ ns.length) (n4 : ns.length ≤ 4) (hps : Names ps) (p5 : ps.length ≤ 5) {top : Int} (h1 : 1 ≤ top) (h2 : top ≤ 10) {s : Dr} {b : Nat} (ok : s.Ok (b + 600)) :
    ∃ (a : Arena) (s' : Dr), F__law_arena [.hd 2, .lst (ns.map .str), .lst (ps.map .str), .int top] s.g = some (a.d, s'.g) ∧ ArenaOk a ∧ s'.Ok b ∧ s'.rest = s.rest := by
  have sz := sizeLine_eq
  obtain ⟨r3, s2, e2, r4, r5, ok2, l2⟩ := draw_ok (s := s) (b := b + 460) (ok.mono (by omega)) (m := top) (by omega) (by omega)
  generalize hn : 1 + r3 = n at *
  have rg := range1_ok (n := n) (by omega) (by omega)
  rw [rangeD_upto] at rg
  have kl : (upto n).length = n.toNat := upto_len n
  have key : Wp (F__law_arena [.hd 2, .lst (ns.map .str), .lst (ps.map .str), .int top] s.g) fun d g' => ∃ (a : Arena) (s' : Dr), d = a.d ∧ g' = s'.g ∧ ArenaOk a ∧ s'.Ok b ∧ s'.rest = s.rest := by
    refine wp_runF ?_
    have z0 : (0 : Nat) ≤ sizeLine := by omega
    have z3 : (3 : Nat) ≤ sizeLine := by omega
    have z2 : (2 : Nat) ≤ sizeLine := by omega
    have q : itemsD (.lst (ns.map .str)) = some (ns.map .str) := rfl
    have qp : itemsD (.lst (ps.map .str)) = some (ps.map .str) := rfl
    have tn : tupleD [.lst (ns.map D.str)] = some (tupS ns) := rfl
    generalize hLN : D.lst (ns.map D.str) = LN at *
    generalize hLP : D.lst (ps.map D.str) = LP at *
    refine wp_hide fun QQ hQQ => ?_
    simp -implicitDefEqProofs [s__law_arena, slots0, setLs, e2, hn, z0, rg]
    refine wp_bind (wp_for (upto n) (fun done ρ g' => ∃ (pl : List Place) (o6 o7 o8 o9 o10 o11 o12 : Option LV) (s' : Dr), ρ = [some (.d (.hd 2)), some (.d LN), some (.d LP), some (.d (.int top)), some (.d (.int n)), some (.ol (pl.map Place.d)), o6, o7, o8, o9, o10, o11, o12, none, none] ∧ g' = s'.g ∧ s'.Ok (b + 46 * (10 - done.length)) ∧ s'.rest = s.rest ∧ pl.length = done.length ∧ ∀ p ∈ pl, PlaceOk ns.length n.toNat p) ?_ ?_ ?_)
    · exact ⟨[], none, none, none, none, none, none, none, s2, rfl, rfl, ok2.mono (by simp), l2, rfl, by simp⟩
    · rintro done x todo ρ g' e ⟨pl, o6, o7, o8, o9, o10, o11, o12, s', rfl, rfl, ok', lk, hl, hpl⟩
      have hd : done.length ≤ 9 := by
        have : (upto n).length = done.length + (todo.length + 1) := by rw [e]; simp
        omega
      refine ⟨_, rfl, ?_⟩
      have hz : (pl.map Place.d).length < sizeLine := by rw [List.length_map]; omega
      have hpd : ∀ p : Place, (pl ++ [p]).map Place.d = pl.map Place.d ++ [p.d] := fun p => by simp
      generalize pl.map Place.d = PS at *
      refine wp_hide fun Q hQ => ?_
      simp -implicitDefEqProofs [z0, q, setLs]
      refine wp_bind (wp_mono (counts_for (ns := ns) (by omega) (s := s') (b := b + 46 * (10 - (done.length + 1)) + 41) (ok'.mono (by omega))) ?_)
      rintro fl g2 ⟨cs, o9', o10', s3, rfl, rfl, ok3, lk3, hcl, hc, hp⟩
      have jl := rowsC_le hc hp
      have pp := prodZ_pos (cs := cs) fun c hc' => (hc c hc').1
      have rl := rowsC_len (cs := cs) fun c h => by have := hc c h; omega
      generalize hm : (rowsC cs).length = m at *
      have r2 := range1_ok (n := prodZ cs) (by omega) (by omega)
      rw [rangeD_upto] at r2
      have tc : tupleD [.lst (cs.map D.int)] = some (tupI cs) := rfl
      generalize cs.map D.int = CC at *
      generalize prodZ cs = P at *
      subst rl
      simp -implicitDefEqProofs [qp, Option.bind_assoc]
      refine wp_bind (wp_mono (marks_lc (ps := ps) p5 (s := s3) (b := b + 46 * (10 - (done.length + 1)) + 36) ok3) ?_)
      rintro rr g4 ⟨ms, s4, rfl, rfl, sb, ok4, lk4⟩
      have ml := sb.length_le
      have zm : (ms.map D.str).length ≤ sizeLine := by rw [List.length_map]; omega
      have ct := cut_to (ms.map D.str) 4
      have ct : slD (.lst (ms.map D.str)) none (some 4) = some (.lst ((ms.take 4).map D.str)) := by rw [← List.map_take] at ct; exact ct
      have tm : tupleD [.lst ((ms.take 4).map D.str)] = some (tupS (ms.take 4)) := rfl
      generalize (ms.take 4).map D.str = MT at *
      generalize ms.map D.str = MS at *
      simp -implicitDefEqProofs [zm, ct, r2, Option.bind_assoc]
      refine wp_bind (wp_mono (nexts_lc (n := n) (by omega) (by omega) (m := m) (s := s4) (b := b + 46 * (10 - (done.length + 1))) (ok4.mono (by omega))) ?_)
      rintro rr g5 ⟨xs, s5, rfl, rfl, ok5, lk5, hxl, hx⟩
      have zx : (xs.map D.int).length ≤ sizeLine := by rw [List.length_map]; omega
      have tx : tupleD [.lst (xs.map D.int)] = some (tupI xs) := rfl
      generalize xs.map D.int = XX at *
      simp -implicitDefEqProofs [zx, tx, tc, tm, z3, z0, hz]
      refine hQ _ _ ⟨pl ++ [⟨ms.take 4, cs, xs⟩], _, _, _, _, _, _, _, s5, by rw [hpd]; rfl, rfl, by rw [List.length_append]; exact ok5, lk5.trans (lk4.trans (lk3.trans lk)), by simp [hl], ?_⟩
      intro p hp'
      rcases List.mem_append.mp hp' with hp' | hp'
      · exact hpl p hp'
      · rw [List.mem_singleton.mp hp']
        exact ⟨hps.sub ((List.take_sublist 4 ms).trans sb), by simp only [List.length_take]; omega, by simp only; omega, hc, by simp only; omega, by simp only; omega, fun x hx' => ⟨(hx x hx').1, by have := (hx x hx').2; omega⟩⟩
    · rintro ρ g' ⟨pl, o6, o7, o8, o9, o10, o11, o12, s', rfl, rfl, ok', lk, hl, hpl⟩
      have tc : tupleD [.lst (pl.map Place.d)] = some (.tup (pl.map Place.d)) := rfl
      have ea : Arena.d ⟨ns, pl⟩ = .tup [tupS ns, .tup (pl.map Place.d)] := rfl
      have hpl2 : pl.length = n.toNat := by omega
      have fin : ∃ (a : Arena) (s'' : Dr), D.tup [tupS ns, .tup (pl.map Place.d)] = a.d ∧ s'.g = s''.g ∧ ArenaOk a ∧ s''.Ok b ∧ s''.rest = s.rest :=
        ⟨⟨ns, pl⟩, s', ea.symm, rfl, ⟨hns, n1, n4, by simp only; omega, by simp only; omega, fun p hp => by simp only; rw [hpl2]; exact hpl p hp⟩, ok'.mono (by omega), lk⟩
      generalize pl.map Place.d = PS at *
      simp -implicitDefEqProofs [tc, tn, z2]
      exact hQQ _ _ fin
  obtain ⟨d, g', e, a, s', rfl, rfl, h1, h2, h3⟩ := key
  exact ⟨a, s', e, h1, h2, h3⟩
end L_k76
end
section
set_option Elab.async false
set_option linter.all false
set_option maxRecDepth 100000
set_option maxHeartbeats 4000000
set_option autoImplicit false
namespace L_k76
open PySem PD
/-! ### lines and words, plain -/
theorem splC_app {c : Nat} : ∀ {p r : List Nat} (acc : List Nat), (∀ x ∈ p, x ≠ c) → splC c acc (p ++ c :: r) = (acc ++ p) :: splC c [] r
  | [], r, acc, _ => by
    show splC c acc (c :: r) = _
    rw [show splC c acc (c :: r) = (if c = c then acc :: splC c [] r else splC c (acc ++ [c]) r) from by conv => lhs; unfold splC, if_pos rfl, List.append_nil]
  | x :: p, r, acc, h => by
    show splC c acc (x :: (p ++ c :: r)) = _
    rw [show splC c acc (x :: (p ++ c :: r)) = (if x = c then acc :: splC c [] (p ++ c :: r) else splC c (acc ++ [x]) (p ++ c :: r)) from by conv => lhs; unfold splC, if_neg (h x List.mem_cons_self), splC_app (acc ++ [x]) fun y hy => h y (List.mem_cons_of_mem _ hy)]
    simp
theorem splC_end {c : Nat} : ∀ {p : List Nat} (acc : List Nat), (∀ x ∈ p, x ≠ c) → splC c acc p = [acc ++ p]
  | [], acc, _ => by unfold splC; rw [List.append_nil]
  | x :: p, acc, h => by
    rw [show splC c acc (x :: p) = (if x = c then acc :: splC c [] p else splC c (acc ++ [x]) p) from by conv => lhs; unfold splC, if_neg (h x List.mem_cons_self), splC_end (acc ++ [x]) fun y hy => h y (List.mem_cons_of_mem _ hy)]
    simp
theorem splC_join {c : Nat} : ∀ {l : List (List Nat)}, l ≠ [] → (∀ p ∈ l, ∀ x ∈ p, x ≠ c) → splC c [] (joinC [c] l) = l
  | [p], _, h => by
    show splC c [] p = [p]
    rw [splC_end [] (h p List.mem_cons_self), List.nil_append]
  | p :: q :: l, _, h => by
    show splC c [] (p ++ ([c] ++ joinC [c] (q :: l))) = _
    rw [List.singleton_append, splC_app [] (h p List.mem_cons_self), List.nil_append, splC_join (by simp) fun y hy => h y (List.mem_cons_of_mem _ hy)]
theorem joinC_len {s : List Nat} {m : Nat} : ∀ {l : List (List Nat)}, (∀ p ∈ l, p.length ≤ m) → (joinC s l).length ≤ l.length * (m + s.length)
  | [], _ => by simp [joinC]
  | [p], h => by
    have := h p List.mem_cons_self
    show p.length ≤ _
    simp
    omega
  | p :: q :: l, h => by
    have h1 := h p List.mem_cons_self
    have h2 := joinC_len (s := s) (l := q :: l) fun y hy => h y (List.mem_cons_of_mem _ hy)
    show (p ++ (s ++ joinC s (q :: l))).length ≤ _
    rw [List.length_append, List.length_append]
    simp only [List.length_cons, Nat.add_mul, Nat.one_mul] at h2 ⊢
    omega
theorem sum_len {m : Nat} : ∀ {l : List Str}, (∀ p ∈ l, (cs p).length ≤ m) → (l.map (·.length)).sum ≤ l.length * m
  | [], _ => by simp
  | p :: l, h => by
    have h1 := h p List.mem_cons_self
    have h2 := sum_len (l := l) fun y hy => h y (List.mem_cons_of_mem _ hy)
    have h3 : p.length = (cs p).length := by rw [cs_len]
    simp only [List.map_cons, List.sum_cons, List.length_cons, Nat.add_mul, Nat.one_mul]
    omega
/-- a word: short, without blanks -/
def Word (x : Str) : Prop := 1 ≤ (cs x).length ∧ (cs x).length ≤ 8 ∧ ∀ c ∈ cs x, c ≠ 10 ∧ c ≠ 32
def lineC (ws : List Str) : List Nat := joinC [32] (ws.map cs)
theorem join_line {ws : List Str} (h : ∀ w ∈ ws, Word w) (hl : ws.length ≤ 40) : joinD (.str " ") (.lst (ws.map .str)) = some (.str (ofCs (lineC ws))) := by
  show (strsD (ws.map D.str)).bind _ = _
  rw [strsD_map, Option.bind_some]
  have h1 := sum_len (m := 8) fun w hw => (h w hw).2.1
  have h2 : (" " : Str).length = 1 := by rfl
  have h3 : cs " " = [32] := by rfl
  rw [if_pos (by rw [sizeLine_eq, h2]; omega), h3]
  rfl
/-- rows of words -/
structure RowsW (R : List (List Str)) : Prop where
  ln : R.length ≤ 40
  ne : R ≠ []
  row : ∀ ws ∈ R, ws ≠ [] ∧ ws.length ≤ 40 ∧ ∀ w ∈ ws, Word w
theorem line_len {ws : List Str} (h : ∀ w ∈ ws, Word w) (hl : ws.length ≤ 40) : (lineC ws).length ≤ 360 := by
  unfold lineC
  have := joinC_len (s := [32]) (m := 8) (l := ws.map cs) fun p hp => by
    obtain ⟨w, hw, rfl⟩ := List.mem_map.mp hp
    exact (h w hw).2.1
  rw [List.length_map] at this
  simp at this
  omega
theorem split_line {ws : List Str} (hne : ws ≠ []) (h : ∀ w ∈ ws, Word w) (hl : ws.length ≤ 40) : splD 32 (.str (ofCs (lineC ws))) = some (ws.map .str) := by
  have h1 := line_len h hl
  show (if (ofCs (lineC ws)).length + 2 ≤ sizeLine then some ((splC 32 [] (lineC ws)).map fun l => D.str (ofCs l)) else none) = _
  have h2 : (ofCs (lineC ws)).length = (lineC ws).length := by rw [← cs_len, cs_of]
  rw [if_pos (by rw [sizeLine_eq, h2]; omega)]
  unfold lineC
  rw [splC_join (by simpa using hne) (fun p hp c hc => by
    obtain ⟨w, hw, rfl⟩ := List.mem_map.mp hp
    exact ((h w hw).2.2 c hc).2), List.map_map]
  exact congrArg some (List.map_congr_left fun w _ => congrArg D.str (ofCs_cs w))
/-! ### rows_of -/
end L_k76
end
section
set_option Elab.async false
set_option linter.all false
set_option maxRecDepth 100000
set_option maxHeartbeats 4000000
set_option autoImplicit false
namespace L_k76
open PySem PD
/-! ### digits -/
theorem strT_ok {n : Nat} (h : n < 1000000) : ∃ y : Str, strTD (.int (n : Int)) = some (.str y) ∧ cs y = TL.numL n := by
  refine ⟨_, ?_, TL.tl_num n⟩
  have hb : shB (.int (n : Int)) = true := by
    simp only [shB]
    refine decide_eq_true ?_
    have : ((n : Int).natAbs) = n := by omega
    rw [this]
    by_cases h0 : n = 0
    · subst h0; decide
    · have : n.log2 < 20 := (Nat.log2_lt h0).2 (by omega)
      omega
  have hr := reprD_of (d := .int (n : Int)) rfl hb (by
    obtain ⟨_, h5⟩ := shown_le (.int (n : Int)) hb
    have h1 : shW (.int (n : Int)) ≤ 10000 := by
      simp only [shW]
      first | omega | skip
    omega)
  have h1 : (n : Int).natAbs.log2 < 1920 := by simpa [shB] using hb
  have hs : showOk (.int (n : Int)) = true := by
    by_cases hs : showOk (.int (n : Int)) = true
    · exact hs
    · have hr : (if showOk (.int (n : Int)) = true then some (D.str (shows (.int (n : Int)))) else none) = some (.str (shows (.int (n : Int)))) := hr
      rw [if_neg hs] at hr
      cases hr
  unfold strTD
  simp only
  rw [if_pos ⟨h1, hs⟩]
def dig (n : Int) : Str := ofCs [48 + n.toNat]
def Dig (n : Int) : Prop := 0 ≤ n ∧ n ≤ 9
theorem dig_ten {n : Int} (h : Dig n) : n = 0 ∨ n = 1 ∨ n = 2 ∨ n = 3 ∨ n = 4 ∨ n = 5 ∨ n = 6 ∨ n = 7 ∨ n = 8 ∨ n = 9 := by
  obtain ⟨h0, h1⟩ := h
  omega
theorem numL_dig {n : Int} (h : Dig n) : TL.numL n.toNat = [48 + n.toNat] := by
  rcases dig_ten h with rfl | rfl | rfl | rfl | rfl | rfl | rfl | rfl | rfl | rfl <;> rfl
theorem strT_dig {n : Int} (h : Dig n) : strTD (.int n) = some (.str (dig n)) := by
  obtain ⟨y, e, hy⟩ := strT_ok (n := n.toNat) (by have := h.2; omega)
  rw [Int.toNat_of_nonneg h.1] at e
  rw [e]
  rw [numL_dig h] at hy
  exact congrArg (fun y => some (D.str y)) (cs_inj hy)
def figs : Str := "0123456789"
theorem figs_cs : figs.cps.toList = [48, 49, 50, 51, 52, 53, 54, 55, 56, 57] := by rfl
/-! ### the rows of an arena -/
def rowsP (p : Place) : List (List Str) := ["place" :: p.marks, "moves" :: p.counts.map dig, "next" :: p.nexts.map dig]
def rowsA (a : Arena) : List (List Str) := ("players" :: a.names) :: a.places.flatMap rowsP
theorem word_name {x : Str} (h : NameOk x) : Word x := ⟨h.lo, h.hi, fun c hc => by
  have := h.ch c hc
  unfold Letter at this
  omega⟩
theorem word_dig {n : Int} : Word (dig n) := ⟨by show 1 ≤ 1; decide, by show 1 ≤ 8; decide, fun c hc => by
  have : c = 48 + n.toNat := List.mem_singleton.mp hc
  omega⟩
theorem word_four : Word "players" ∧ Word "place" ∧ Word "moves" ∧ Word "next" := by
  have key : ∀ x ∈ own19, Word x := fun x hx => word_name (own_ok x hx)
  exact ⟨key _ (by decide +kernel), key _ (by decide +kernel), key _ (by decide +kernel), key _ (by decide +kernel)⟩
theorem rowsP_len : ∀ ps : List Place, (ps.flatMap rowsP).length = 3 * ps.length
  | [] => rfl
  | p :: ps => by
    rw [List.flatMap_cons, List.length_append, rowsP_len ps, List.length_cons]
    show 3 + _ = _
    omega
theorem dig_count {n k : Nat} {p : Place} (h : PlaceOk n k p) : ∀ c ∈ p.counts, Dig c := fun c hc => by
  have := h.cn c hc
  exact ⟨by omega, by omega⟩
theorem dig_next {n k : Nat} {p : Place} (h : PlaceOk n k p) (hk : k ≤ 10) : ∀ c ∈ p.nexts, Dig c := fun c hc => by
  have := h.nx c hc
  exact ⟨by omega, by omega⟩
theorem word_row {w : Str} {ws : List Str} (h : Word w) (h2 : ∀ x ∈ ws, Word x) : ∀ x ∈ w :: ws, Word x := fun x hx => by
  rcases List.mem_cons.mp hx with rfl | hx
  · exact h
  · exact h2 x hx
theorem word_names {ws : List Str} (h : Names ws) : ∀ x ∈ ws, Word x := fun x hx => word_name (h.nm x hx)
theorem word_digs {ns : List Int} : ∀ x ∈ ns.map dig, Word x := fun x hx => by
  obtain ⟨n, _, rfl⟩ := List.mem_map.mp hx
  exact word_dig
theorem rowsP_ok {n k : Nat} {p : Place} (h : PlaceOk n k p) (hn : n ≤ 4) : ∀ ws ∈ rowsP p, ws ≠ [] ∧ ws.length ≤ 40 ∧ ∀ w ∈ ws, Word w := fun ws hws => by
  have h36 := h.n36
  have hml := h.ml
  have hcl := h.cl
  have hnl := h.nl
  obtain ⟨_, w2, w3, w4⟩ := word_four
  simp only [rowsP, List.mem_cons, List.not_mem_nil, or_false] at hws
  rcases hws with rfl | rfl | rfl
  · exact ⟨by simp, by simp; omega, word_row w2 (word_names h.mks)⟩
  · exact ⟨by simp, by simp; omega, word_row w3 word_digs⟩
  · exact ⟨by simp, by simp; omega, word_row w4 word_digs⟩
theorem rowsA_ok {a : Arena} (h : ArenaOk a) : RowsW (rowsA a) where
  ln := by
    have := h.p10
    show (a.places.flatMap rowsP).length + 1 ≤ 40
    rw [rowsP_len]
    omega
  ne := by simp [rowsA]
  row := fun ws hws => by
    rcases List.mem_cons.mp hws with rfl | hws
    · exact ⟨by simp, by have := h.n4; simp; omega, word_row word_four.1 (word_names h.nm)⟩
    · obtain ⟨p, hp, hws⟩ := List.mem_flatMap.mp hws
      exact rowsP_ok (h.pl p hp) h.n4 ws hws
end L_k76
end
section
set_option Elab.async false
set_option linter.all false
set_option maxRecDepth 100000
set_option maxHeartbeats 4000000
set_option autoImplicit false
namespace L_k76
open PySem PD
def lnD (ws : List Str) : D := .str (ofCs (lineC ws))
theorem join_ln {ws : List Str} (h : ∀ w ∈ ws, Word w) (hl : ws.length ≤ 40) : joinD (.str " ") (.lst (ws.map .str)) = some (lnD ws) := join_line h hl
theorem add_word (w : Str) (ws : List Str) (hl : ws.length ≤ 39) : addD (.lst [.str w]) (.lst (ws.map .str)) = some (.lst ((w :: ws).map .str)) := by
  show szD (1 + (ws.map D.str).length) (.lst ([D.str w] ++ ws.map D.str)) = _
  rw [szD_ok (by rw [sizeLine_eq, List.length_map]; omega)]
  rfl
theorem digs_lc {ρ : Rho} {i : Nat} {j : Nat} {g : G} (ns : List Int) (h : ∀ n ∈ ns, Dig n) (hb : ∀ d, ∃ ρ', bName i d ρ = some ρ' ∧ eVar j ρ' g = some (d, g)) : lcL (bName i) tYesD (eUn strTD (eVar j)) ρ (ns.map .int) g = some ((ns.map dig).map .str, g) := by
  refine lc_typed ns fun n hn => ?_
  obtain ⟨ρ', h1, h2⟩ := hb (.int n)
  refine ⟨ρ', h1, ?_⟩
  rw [eUn_ap, h2]
  simp -implicitDefEqProofs [strT_dig (h n hn)]
/-! ### line_of -/
/-! ### the lines of an arena, both ways -/
def llBody : S := (sSeq (sAppend 1 (eJoin (eC (.str " ")) (eOp addD (eLst (aCons (eC (.str "place")) aNil)) (eBi listD (aCons (eVar 2) aNil)))))
  (sSeq (sAppend 1 (eJoin (eC (.str " ")) (eOp addD (eLst (aCons (eC (.str "moves")) aNil)) (eO (eLcA [5] (aItem (eVar 3)) (bName 5) tYesD (eUn strTD (eVar 5)))))))
  (sAppend 1 (eJoin (eC (.str " ")) (eOp addD (eLst (aCons (eC (.str "next")) aNil)) (eO (eLcA [5] (aItem (eVar 4)) (bName 5) tYesD (eUn strTD (eVar 5)))))))))
theorem list_tup (l : List D) : listD [.tup l] = some (.lst l) := rfl
theorem lawLines_ok {a : Arena} (h : ArenaOk a) (g : G) : F__law_lines [a.d] g = some (.lst ((rowsA a).map lnD), g) := by
  have sz := sizeLine_eq
  obtain ⟨w1, w2, w3, w4⟩ := word_four
  have z1 : (1 : Nat) ≤ sizeLine := by omega
  have n4 := h.n4
  have key : Wp (F__law_lines [a.d] g) fun d g' => d = .lst ((rowsA a).map lnD) ∧ g' = g := by
    refine wp_runF ?_
    have loop : Wp (forL (bTup (bsCons (bName 2) (bsCons (bName 3) (bsCons (bName 4) bsNil)))) llBody (a.places.map Place.d) [some (.d a.d), some (.ol [lnD ("players" :: a.names)]), none, none, none, none] g) fun fl g' => ∃ o2 o3 o4 o5, fl = .nx [some (.d a.d), some (.ol ((rowsA a).map lnD)), o2, o3, o4, o5] ∧ g' = g := by
      refine wp_for a.places (fun done ρ g' => ∃ o2 o3 o4 o5, ρ = [some (.d a.d), some (.ol (lnD ("players" :: a.names) :: (done.flatMap rowsP).map lnD)), o2, o3, o4, o5] ∧ g' = g) ⟨none, none, none, none, rfl, rfl⟩ ?_ ?_
      · rintro done p todo ρ g' e ⟨o2, o3, o4, o5, rfl, rfl⟩
        have hp : p ∈ a.places := by rw [e]; simp
        have ok := h.pl p hp
        have p10 := h.p10
        have hdl : done.length ≤ 9 := by
          have := congrArg List.length e
          simp at this
          omega
        refine ⟨[some (.d a.d), some (.ol (lnD ("players" :: a.names) :: (done.flatMap rowsP).map lnD)), some (.d (.tup (p.marks.map .str))), some (.d (tupI p.counts)), some (.d (tupI p.nexts)), o5], rfl, ?_⟩
        have hml := ok.ml
        have hcl := ok.cl
        have hnl := ok.nl
        have h36 := ok.n36
        have a1 := add_word "place" p.marks (by omega)
        have j1 := join_ln (word_row w2 (word_names ok.mks)) (by simp; omega)
        have l1 := list_tup (p.marks.map .str)
        have a2 := add_word "moves" (p.counts.map dig) (by rw [List.length_map]; omega)
        have j2 := join_ln (word_row w3 (word_digs (ns := p.counts))) (by simp; omega)
        have a3 := add_word "next" (p.nexts.map dig) (by rw [List.length_map]; omega)
        have j3 := join_ln (word_row w4 (word_digs (ns := p.nexts))) (by simp; omega)
        have zc : ((p.counts.map dig).map D.str).length ≤ sizeLine := by rw [List.length_map, List.length_map]; omega
        have zn : ((p.nexts.map dig).map D.str).length ≤ sizeLine := by rw [List.length_map, List.length_map]; omega
        have it2 : itemsD (tupI p.counts) = some (p.counts.map .int) := rfl
        have it3 : itemsD (tupI p.nexts) = some (p.nexts.map .int) := rfl
        have lc2 := fun (x1 x2 x3 x4 x5 x0 : Option LV) => digs_lc (ρ := [x0, x1, x2, x3, x4, x5]) (i := 5) (j := 5) (g := g') p.counts (dig_count ok) fun d => ⟨_, rfl, rfl⟩
        have lc3 := fun (x1 x2 x3 x4 x5 x0 : Option LV) => digs_lc (ρ := [x0, x1, x2, x3, x4, x5]) (i := 5) (j := 5) (g := g') p.nexts (dig_next ok p10) fun d => ⟨_, rfl, rfl⟩
        have zd : ((done.flatMap rowsP).map lnD).length + 6 ≤ sizeLine := by rw [List.length_map, rowsP_len]; omega
        refine wp_hide fun Q hQ => ?_
        have fin := hQ _ _ (show Goes _ (.nx [some (.d a.d), some (.ol (lnD ("players" :: a.names) :: ((done.flatMap rowsP).map lnD ++ [lnD ("place" :: p.marks), lnD ("moves" :: p.counts.map dig), lnD ("next" :: p.nexts.map dig)]))), some (.d (.tup (p.marks.map .str))), some (.d (tupI p.counts)), some (.d (tupI p.nexts)), o5]) g' from ⟨_, _, _, _, by rw [List.flatMap_append, List.map_append]; rfl, rfl⟩)
        unfold llBody
        generalize (done.flatMap rowsP).map lnD = DR at *
        generalize lnD ("players" :: a.names) = L0 at *
        generalize lnD ("place" :: p.marks) = L1 at *
        generalize lnD ("moves" :: p.counts.map dig) = L2 at *
        generalize lnD ("next" :: p.nexts.map dig) = L3 at *
        generalize hW1 : D.lst ((("place" : Str) :: p.marks).map D.str) = W1 at *
        generalize hW2 : D.lst ((("moves" : Str) :: p.counts.map dig).map D.str) = W2 at *
        generalize hW3 : D.lst ((("next" : Str) :: p.nexts.map dig).map D.str) = W3 at *
        generalize hT1 : D.tup (p.marks.map D.str) = T1 at *
        generalize p.marks.map D.str = M1 at *
        generalize (p.counts.map dig).map D.str = M2 at *
        generalize (p.nexts.map dig).map D.str = M3 at *
        generalize tupI p.counts = T2 at *
        generalize tupI p.nexts = T3 at *
        generalize p.counts.map D.int = I2 at *
        generalize p.nexts.map D.int = I3 at *
        generalize a.d = AD at *
        have y1 : DR.length + 1 < sizeLine := by omega
        have y2 : DR.length + 1 + 1 < sizeLine := by omega
        have y3 : DR.length + 1 + 1 + 1 < sizeLine := by omega
        simp -implicitDefEqProofs [z1, a1, j1, l1, a2, j2, a3, j3, zc, zn, it2, it3, lc2, lc3, y1, y2, y3]
        exact fin
      · rintro ρ g' ⟨o2, o3, o4, o5, rfl, rfl⟩
        exact ⟨o2, o3, o4, o5, rfl, rfl⟩
    obtain ⟨fl, g', ef, o2, o3, o4, o5, rfl, rfl⟩ := loop
    unfold llBody at ef
    have a1 := add_word "players" a.names (by omega)
    have j1 := join_ln (word_row w1 (word_names h.nm)) (by simp; omega)
    have l1 := list_tup (a.names.map .str)
    have i0 : ixD g' a.d (.int 0) = some (.tup (a.names.map .str)) := rfl
    have i1 : ixD g' a.d (.int 1) = some (.tup (a.places.map Place.d)) := rfl
    have it : itemsD (.tup (a.places.map Place.d)) = some (a.places.map Place.d) := rfl
    generalize hR : (rowsA a).map lnD = RR at *
    generalize a.d = AD at *
    generalize lnD ("players" :: a.names) = L0 at *
    generalize hT1 : D.tup (a.names.map D.str) = T1 at *
    generalize hW1 : D.lst ((("players" : Str) :: a.names).map D.str) = W1 at *
    generalize hT2 : D.tup (a.places.map Place.d) = T2 at *
    generalize a.names.map D.str = M1 at *
    generalize a.places.map Place.d = M2 at *
    refine wp_hide fun Q hQ => ?_
    simp -implicitDefEqProofs [s__law_lines, slots0, z1, i0, i1, it, l1, a1, j1, ef]
    exact hQ _ _ ⟨rfl, rfl⟩
  obtain ⟨d, g', e, rfl, rfl⟩ := key
  exact e
end L_k76
end
section
set_option Elab.async false
set_option linter.all false
set_option maxRecDepth 100000
set_option maxHeartbeats 4000000
set_option autoImplicit false
namespace L_k76
open PySem PD
/-! ### any text, by lines and words -/
theorem lcL_on {α : Type} {bd : B} {e : E} {ρ : Rho} {g : G} {f h : α → D} : ∀ {xs : List α}, (∀ x ∈ xs, ∃ ρ', bd (f x) ρ = some ρ' ∧ e ρ' g = some (h x, g)) → lcL bd tYesD e ρ (xs.map f) g = some (xs.map h, g)
  | [], _ => rfl
  | x :: xs, hx => by
    obtain ⟨ρ', h1, h2⟩ := hx x List.mem_cons_self
    rw [List.map_cons, lcL_cons, h1]
    simp [h2, lcL_on fun y hy => hx y (List.mem_cons_of_mem _ hy)]
def splitS (c : Nat) (x : Str) : List Str := (splC c [] (cs x)).map ofCs
theorem splC_len (c : Nat) : ∀ (l acc : List Nat), (splC c acc l).length ≤ l.length + 1
  | [], acc => by simp [splC]
  | d :: l, acc => by
    unfold splC
    split
    · have := splC_len c l []
      simp only [List.length_cons]; omega
    · have := splC_len c l (acc ++ [d])
      simp only [List.length_cons]; omega
theorem splC_ne (c : Nat) : ∀ (l acc : List Nat), splC c acc l ≠ []
  | [], acc => by simp [splC]
  | d :: l, acc => by
    unfold splC
    split
    · simp
    · exact splC_ne c l _
theorem splC_mem (c : Nat) : ∀ (l acc : List Nat) (p : List Nat), p ∈ splC c acc l → p.length ≤ acc.length + l.length ∧ ∀ z ∈ p, z ∈ acc ∨ z ∈ l
  | [], acc, p, h => by
    rw [show splC c acc [] = [acc] from rfl, List.mem_singleton] at h
    subst h
    exact ⟨by simp, fun z hz => .inl hz⟩
  | d :: l, acc, p, h => by
    unfold splC at h
    split at h
    · rcases List.mem_cons.mp h with rfl | h
      · exact ⟨by simp, fun z hz => .inl hz⟩
      · obtain ⟨h1, h2⟩ := splC_mem c l [] p h
        refine ⟨by simp only [List.length_cons, List.length_nil] at *; omega, fun z hz => ?_⟩
        rcases h2 z hz with h | h
        · cases h
        · exact .inr (List.mem_cons_of_mem _ h)
    · obtain ⟨h1, h2⟩ := splC_mem c l (acc ++ [d]) p h
      refine ⟨by simp only [List.length_cons, List.length_append, List.length_nil] at *; omega, fun z hz => ?_⟩
      rcases h2 z hz with h | h
      · rcases List.mem_append.mp h with h | h
        · exact .inl h
        · rw [List.mem_singleton.mp h]; exact .inr List.mem_cons_self
      · exact .inr (List.mem_cons_of_mem _ h)
theorem ofCs_len (l : List Nat) : (ofCs l).length = l.length := by rw [← cs_len, cs_of]
theorem splitS_len (c : Nat) (x : Str) : (splitS c x).length ≤ x.length + 1 := by
  unfold splitS
  rw [List.length_map]
  have := splC_len c (cs x) []
  rw [cs_len] at this
  exact this
theorem splitS_ne (c : Nat) (x : Str) : splitS c x ≠ [] := by
  unfold splitS
  rw [ne_eq, List.map_eq_nil_iff]
  exact splC_ne c (cs x) []
theorem splitS_mem {c : Nat} {x p : Str} (h : p ∈ splitS c x) : p.length ≤ x.length ∧ ∀ z ∈ cs p, z ∈ cs x := by
  obtain ⟨q, hq, rfl⟩ := List.mem_map.mp h
  obtain ⟨h1, h2⟩ := splC_mem c (cs x) [] q hq
  rw [ofCs_len, ← cs_len]
  refine ⟨by simpa using h1, fun z hz => ?_⟩
  rcases h2 z hz with h | h
  · cases h
  · exact h
theorem split_any (c : Nat) {x : Str} (h : x.length ≤ 1000000) : splD c (.str x) = some ((splitS c x).map .str) := by
  show (if x.length + 2 ≤ sizeLine then some ((splC c [] (cs x)).map fun l => D.str (ofCs l)) else none) = _
  rw [if_pos (by rw [sizeLine_eq]; omega)]
  unfold splitS
  rw [List.map_map]
  rfl
/-- a line by its words, none where a word is empty -/
def wordsL (l : Str) : Option (List Str) := if (Str.ofString "") ∈ splitS 32 l then none else some (splitS 32 l)
def rowsT (x : Str) : List (Option (List Str)) := (splitS 10 x).map wordsL
def rowO : Option (List Str) → D
  | none => .non
  | some ws => .lst (ws.map .str)
def RL (R : List (Option (List Str))) : D := .lst (R.map rowO)
def rwB : S := (sSeq (sSet 3 (eO (aSplit 32 (eVar 2))))
  (sAppend 1 (eIf (tCmp inD (eC (.str "")) (eVar 3)) (eC .non) (eVar 3))))
theorem rowO_words (l : Str) : rowO (wordsL l) = if (Str.ofString "") ∈ splitS 32 l then .non else .lst ((splitS 32 l).map .str) := by
  unfold wordsL
  split <;> rfl
theorem rw_for {x0 : Option LV} {g : G} : ∀ (ls : List Str) (acc : List D) (o2 o3 : Option LV), (∀ l ∈ ls, l.length ≤ 1000000) → acc.length + ls.length ≤ 2000000 → ∃ o2' o3',
    forL (bName 2) rwB (ls.map .str) [x0, some (.ol acc), o2, o3] g = some (.nx [x0, some (.ol (acc ++ ls.map fun l => rowO (wordsL l))), o2', o3'], g)
  | [], acc, o2, o3, _, _ => ⟨o2, o3, by rw [List.map_nil, List.map_nil, List.append_nil]; rfl⟩
  | l :: ls, acc, o2, o3, h, hl => by
    have sz := sizeLine_eq
    rw [List.length_cons] at hl
    have h0 := h l List.mem_cons_self
    obtain ⟨q2, q3, e⟩ := rw_for (x0 := x0) (g := g) ls (acc ++ [rowO (wordsL l)]) (some (.d (.str l))) (some (.d (.lst ((splitS 32 l).map .str)))) (fun y hy => h y (List.mem_cons_of_mem _ hy)) (by simp; omega)
    refine ⟨q2, q3, ?_⟩
    have sp := split_any 32 h0
    have zl : ((splitS 32 l).map D.str).length ≤ sizeLine := by rw [List.length_map]; have := splitS_len 32 l; omega
    have i1 := inD_strs (Str.ofString "") (splitS 32 l)
    have i1 : inD (.str "") (.lst ((splitS 32 l).map .str)) = some (decide ((Str.ofString "") ∈ splitS 32 l)) := i1
    have za : acc.length < sizeLine := by omega
    have rw_ := rowO_words l
    have hb : rwB [x0, some (.ol acc), some (.d (.str l)), o3] g = some (.nx [x0, some (.ol (acc ++ [rowO (wordsL l)])), some (.d (.str l)), some (.d (.lst ((splitS 32 l).map .str)))], g) := by
      rw [rw_]
      clear e
      by_cases q : (Str.ofString "") ∈ splitS 32 l
      · rw [decide_eq_true q] at i1
        rw [if_pos q]
        generalize (splitS 32 l).map D.str = SM at *
        unfold rwB
        simp -implicitDefEqProofs [sp, zl, i1, za]
      · rw [decide_eq_false q] at i1
        rw [if_neg q]
        generalize (splitS 32 l).map D.str = SM at *
        unfold rwB
        simp -implicitDefEqProofs [sp, zl, i1, za]
    have bn : bName 2 (.str l) [x0, some (.ol acc), o2, o3] = some [x0, some (.ol acc), some (.d (.str l)), o3] := rfl
    rw [List.map_cons, forL_cons, bn, Option.bind_some, hb, List.map_cons]
    rw [List.append_assoc, List.singleton_append] at e
    exact e
theorem rowsOf_any {x : Str} (h : x.length ≤ 1000000) (g : G) : F_rows_of [.str x] g = some (RL (rowsT x), g) := by
  have sz := sizeLine_eq
  have sp := split_any 10 h
  have sl := splitS_len 10 x
  obtain ⟨q2, q3, e⟩ := rw_for (x0 := some (.d (.str x))) (g := g) (splitS 10 x) [] none none (fun l hl => by have := (splitS_mem hl).1; omega) (by simp only [List.length_nil]; omega)
  rw [List.nil_append] at e
  have er : RL (rowsT x) = .lst ((splitS 10 x).map fun l => rowO (wordsL l)) := by
    unfold RL rowsT
    rw [List.map_map]
    rfl
  have zl : ((splitS 10 x).map D.str).length ≤ sizeLine := by rw [List.length_map]; omega
  have z0 : (0 : Nat) ≤ sizeLine := by omega
  have se : s_rows_of = (sSeq (sSetV 1 (vL (aSz aNil))) (sSeq (sFor (aItem (eO (aSplit 10 (eVar 0)))) (bName 2) rwB) (sFrz 1 (sRet (eVar 1))))) := rfl
  refine runF_rt ?_
  rw [se, er]
  generalize (splitS 10 x).map (fun l => rowO (wordsL l)) = RM at *
  generalize (splitS 10 x).map D.str = SM at *
  generalize rwB = RB at *
  simp -implicitDefEqProofs [slots0, z0, sp, e]
theorem lawRows_any {x : Str} (h : x.length ≤ 1000000) (g : G) : F__law_rows [.str x] g = some (RL (rowsT x), g) := by
  have sz := sizeLine_eq
  have sp := split_any 10 h
  have sl := splitS_len 10 x
  have e1 : lcL (bName 2) tYesD (eO (aSplit 32 (eVar 2))) [some (.d (.str x)), none, none, none] ((splitS 10 x).map .str) g = some ((splitS 10 x).map fun l => .lst ((splitS 32 l).map .str), g) :=
    lcL_on fun l hl => ⟨_, rfl, by
      have hl := (splitS_mem hl).1
      have sp := split_any 32 (x := l) (by omega)
      generalize (splitS 32 l).map D.str = SM at *
      simp -implicitDefEqProofs [setR, sp]⟩
  have e2 : lcL (bName 3) tYesD (eIf (tCmp inD (eC (.str "")) (eVar 3)) (eC .non) (eVar 3)) [some (.d (.str x)), some (.d (.lst ((splitS 10 x).map fun l => .lst ((splitS 32 l).map .str)))), none, none] ((splitS 10 x).map fun l => .lst ((splitS 32 l).map .str)) g = some ((splitS 10 x).map fun l => rowO (wordsL l), g) :=
    lcL_on fun l hl => ⟨_, rfl, by
      have i1 : inD (.str "") (.lst ((splitS 32 l).map .str)) = some (decide ((Str.ofString "") ∈ splitS 32 l)) := inD_strs (Str.ofString "") (splitS 32 l)
      have rw_ := rowO_words l
      rw [rw_]
      generalize ((splitS 10 x).map fun l => D.lst ((splitS 32 l).map .str)) = BM at *
      by_cases q : (Str.ofString "") ∈ splitS 32 l
      · rw [decide_eq_true q] at i1
        rw [if_pos q]
        generalize (splitS 32 l).map D.str = SM at *
        simp -implicitDefEqProofs [setR, i1]
      · rw [decide_eq_false q] at i1
        rw [if_neg q]
        generalize (splitS 32 l).map D.str = SM at *
        simp -implicitDefEqProofs [setR, i1]⟩
  have er : RL (rowsT x) = .lst ((splitS 10 x).map fun l => rowO (wordsL l)) := by
    unfold RL rowsT
    rw [List.map_map]
    rfl
  have z1 : ((splitS 10 x).map fun l => D.lst ((splitS 32 l).map .str)).length ≤ sizeLine := by rw [List.length_map]; omega
  have z2 : ((splitS 10 x).map fun l => rowO (wordsL l)).length ≤ sizeLine := by rw [List.length_map]; omega
  refine runF_rt ?_
  rw [er]
  generalize ((splitS 10 x).map fun l => rowO (wordsL l)) = RM at *
  generalize ((splitS 10 x).map fun l => D.lst ((splitS 32 l).map .str)) = BM at *
  generalize (splitS 10 x).map D.str = SM at *
  simp -implicitDefEqProofs [s__law_rows, slots0, sp, wipeR, e1, z1, e2, z2]
/-- what is known of the lines of a text -/
structure RT (R : List (Option (List Str))) : Prop where
  ln : R.length ≤ 1000001
  ws : ∀ w, some w ∈ R → w ≠ [] ∧ w.length ≤ 1000001 ∧ ∀ z ∈ w, z ≠ Str.ofString "" ∧ z.length ≤ 1000000
theorem rowsT_rt {x : Str} (h : x.length ≤ 1000000) : RT (rowsT x) := by
  refine ⟨?_, fun w hw => ?_⟩
  · unfold rowsT
    rw [List.length_map]
    have := splitS_len 10 x
    omega
  · obtain ⟨l, hl, e⟩ := List.mem_map.mp hw
    have h1 := (splitS_mem hl).1
    unfold wordsL at e
    split at e
    · cases e
    · rename_i hn
      cases e
      refine ⟨splitS_ne 32 l, by have := splitS_len 32 l; omega, fun z hz => ⟨fun q => hn (by rw [← q]; exact hz), ?_⟩⟩
      have := (splitS_mem hz).1
      omega
end L_k76
end
section
set_option Elab.async false
set_option linter.all false
set_option maxRecDepth 100000
set_option maxHeartbeats 4000000
set_option autoImplicit false
namespace L_k76
open PySem PD
/-! ### names, of any words -/
def ofB (signs : List Nat) (top : Nat) (w : Str) : Bool := decide (1 ≤ w.length) && decide (w.length ≤ top) && (cs w).all fun c => decide (c ∈ signs)
theorem inD_sign (c : Nat) (s : Str) : inD (.str ⟨#[c]⟩) (.str s) = some (decide (c ∈ cs s)) := by
  show some (inStr ⟨#[c]⟩ s) = _
  have : inStr ⟨#[c]⟩ s = decide (c ∈ cs s) := by
    unfold inStr
    rw [if_pos (by simp)]
    rfl
  rw [this]
theorem items_str (w : Str) : itemsD (.str w) = some ((cs w).map fun c => .str ⟨#[c]⟩) := rfl
theorem isOf_any {w : Str} {s : Str} {top : Nat} (h : w.length ≤ 1000000) (ht : top ≤ 1000) (g : G) : F_is_of [.str w, .str s, .int top] g = some (.bl (ofB (cs s) top w), g) := by
  have sz := sizeLine_eq
  have e1 : lcL (bName 3) tYesD (eCmp inD (eVar 3) (eVar 1)) [some (.d (.str w)), some (.d (.str s)), some (.d (.int top)), none] ((cs w).map fun c => .str ⟨#[c]⟩) g = some (((cs w).map fun c => decide (c ∈ cs s)).map .bl, g) := by
    refine lc_bools (cs w) fun c hc => ⟨_, rfl, ?_⟩
    have i := inD_sign c s
    generalize D.str ⟨#[c]⟩ = DC at *
    simp -implicitDefEqProofs [setR, i]
  have ha := allD_lst ((cs w).map fun c => decide (c ∈ cs s))
  have ea : ((cs w).map fun c => decide (c ∈ cs s)).all id = (cs w).all fun c => decide (c ∈ cs s) := by
    rw [List.all_map]
    rfl
  rw [ea] at ha
  have it := items_str w
  have ln : lenD [.str w] = some (.int w.length) := rfl
  have zl : (((cs w).map fun c => decide (c ∈ cs s)).map D.bl).length ≤ sizeLine := by rw [List.length_map, List.length_map, cs_len]; omega
  have is1 : isiD .str (.str w) = some true := rfl
  have l1 : leD (.int 1) (.int w.length) = some (decide (1 ≤ w.length)) := by
    show some (decide ((1 : Int) ≤ (w.length : Int))) = _
    congr 1
    exact decide_eq_decide.mpr (by omega)
  have l2 : leD (.int w.length) (.int top) = some (decide (w.length ≤ top)) := by
    show some (decide ((w.length : Int) ≤ (top : Int))) = _
    congr 1
    exact decide_eq_decide.mpr (by omega)
  refine runF_rt ?_
  unfold ofB
  generalize ((cs w).all fun c => decide (c ∈ cs s)) = B3 at *
  generalize ((cs w).map fun c => decide (c ∈ cs s)).map D.bl = BL at *
  generalize ((cs w).map fun c => D.str ⟨#[c]⟩) = CW at *
  generalize decide (1 ≤ w.length) = B1 at *
  generalize decide (w.length ≤ top) = B2 at *
  generalize (w.length : Int) = WL at *
  cases B1 <;> cases B2 <;> simp -implicitDefEqProofs [s_is_of, slots0, is1, ln, l1, l2, it, wipeR, e1, zl, ha]
def nameB (w : Str) : Bool := ofB (cs abc) 8 w
theorem isName_any {w : Str} (h : w.length ≤ 1000000) (g : G) : F_is_name [.str w] g = some (.bl (nameB w), g) := by
  have e := isOf_any (w := w) (s := abc) (top := 8) h (by decide) g
  have e : F_is_of [.str w, .str "abcdefghijklmnopqrstuvwxyz", .int 8] g = some (.bl (nameB w), g) := e
  refine runF_rt ?_
  generalize nameB w = NB at *
  simp -implicitDefEqProofs [s_is_name, slots0, e]
theorem nameB_iff {w : Str} : nameB w = true ↔ NameOk w := by
  unfold nameB ofB
  rw [Bool.and_eq_true, Bool.and_eq_true, decide_eq_true_eq, decide_eq_true_eq, List.all_eq_true]
  constructor
  · rintro ⟨⟨h1, h2⟩, h3⟩
    refine ⟨by rw [cs_len]; exact h1, by rw [cs_len]; exact h2, fun c hc => abc_letter.mp (of_decide_eq_true (h3 c hc))⟩
  · intro h
    have h1 := h.lo
    have h2 := h.hi
    rw [cs_len] at h1 h2
    exact ⟨⟨h1, h2⟩, fun c hc => decide_eq_true (abc_letter.mpr (h.ch c hc))⟩
theorem leD_str (x y : Str) : leD (.str x) (.str y) = some (!decide (y.cps.toList < x.cps.toList)) := rfl
theorem lt_one {c d : Nat} : ([c] : List Nat) < [d] ↔ c < d := by
  constructor
  · intro h
    cases h with
    | rel h => exact h
    | cons h => cases h
  · exact fun h => List.Lex.rel h
/-- [x for x in l if not p x] == [] -/
theorem none_left {α : Type} {f : α → D} (l : List α) (p : α → Bool) (hf : Kd f 0) (hE : ∀ x y : α, eqq (f x) (f y) = true ∨ eqq (f x) (f y) = false) : eqD (.lst ((l.filter fun x => !p x).map f)) (.lst []) = some (l.all p) := by
  rw [eqD_of (hf.lst.ok (by decide) _) (by decide), eqq_lst]
  congr 1
  induction l with
  | nil => rfl
  | cons x l ih =>
    rw [List.filter_cons, List.all_cons]
    cases hp : p x with
    | true => simpa using ih
    | false => simp [eqqA]
theorem none_left' {α : Type} {f : α → D} (l : List α) (p : α → Bool) (hf : Kd f 0) : neD (.lst ((l.filter fun x => !p x).map f)) (.lst []) = some (!l.all p) := by
  rw [neD_of (hf.lst.ok (by decide) _) (by decide), eqq_lst]
  congr 1
  congr 1
  induction l with
  | nil => rfl
  | cons x l ih =>
    rw [List.filter_cons, List.all_cons]
    cases hp : p x with
    | true => simpa using ih
    | false => simp [eqqA]
theorem kdC : Kd (fun c : Nat => D.str ⟨#[c]⟩) 0 := ⟨fun _ => rfl, fun _ => Nat.le_refl _⟩
theorem lawName_any {w : Str} (h : w.length ≤ 1000000) (g : G) : F__law_is_name [.str w] g = some (.bl (nameB w), g) := by
  have sz := sizeLine_eq
  have e1 : lcL (bName 1) (tNot (tE (eChain leD leD (eC (.str "a")) (eVar 1) (eC (.str "z"))))) (eVar 1) [some (.d (.str w)), none] ((cs w).map fun c => .str ⟨#[c]⟩) g = some ((((cs w).filter fun c => !decide (c ∈ cs abc)).map id).map fun c => .str ⟨#[c]⟩, g) := by
    refine lc_typedF (cs w) fun c hc => ⟨_, rfl, ?_, fun _ => by simp -implicitDefEqProofs [setR]⟩
    have l1 : leD (.str "a") (.str ⟨#[c]⟩) = some (!decide (c < 97)) := by
      rw [leD_str]
      congr 2
      exact decide_eq_decide.mpr (lt_one (c := c) (d := 97))
    have l2 : leD (.str ⟨#[c]⟩) (.str "z") = some (!decide (122 < c)) := by
      rw [leD_str]
      congr 2
      exact decide_eq_decide.mpr (lt_one (c := 122) (d := c))
    have hc2 : decide (c ∈ cs abc) = (!decide (c < 97) && !decide (122 < c)) := by
      rw [Bool.eq_iff_iff]
      simp only [decide_eq_true_eq, Bool.and_eq_true, Bool.not_eq_true', decide_eq_false_iff_not]
      rw [show (c ∈ cs abc) ↔ Letter c from abc_letter]
      unfold Letter
      omega
    rw [hc2]
    generalize decide (c < 97) = B1 at *
    generalize decide (122 < c) = B2 at *
    generalize D.str ⟨#[c]⟩ = DC at *
    cases B1 <;> cases B2 <;> simp -implicitDefEqProofs [setR, l1, l2]
  rw [List.map_id] at e1
  have nl := none_left (f := fun c : Nat => D.str ⟨#[c]⟩) (cs w) (fun c => decide (c ∈ cs abc)) kdC (fun _ _ => by cases h : eqq _ _ <;> simp)
  have it := items_str w
  have ln : lenD [.str w] = some (.int w.length) := rfl
  have zl : (((cs w).filter fun c => !decide (c ∈ cs abc)).map fun c => D.str ⟨#[c]⟩).length ≤ sizeLine := by
    rw [List.length_map]
    have := List.length_filter_le (fun c => !decide (c ∈ cs abc)) (cs w)
    rw [cs_len] at this
    omega
  have l1 : leD (.int 1) (.int w.length) = some (decide (1 ≤ w.length)) := by
    show some (decide ((1 : Int) ≤ (w.length : Int))) = _
    congr 1
    exact decide_eq_decide.mpr (by omega)
  have l2 : leD (.int w.length) (.int 8) = some (decide (w.length ≤ 8)) := by
    show some (decide ((w.length : Int) ≤ (8 : Int))) = _
    congr 1
    exact decide_eq_decide.mpr (by omega)
  refine runF_rt ?_
  unfold nameB ofB
  generalize ((cs w).all fun c => decide (c ∈ cs abc)) = B3 at *
  generalize (((cs w).filter fun c => !decide (c ∈ cs abc)).map fun c => D.str ⟨#[c]⟩) = FL at *
  generalize ((cs w).map fun c => D.str ⟨#[c]⟩) = CW at *
  generalize decide (1 ≤ w.length) = B1 at *
  generalize decide (w.length ≤ 8) = B2 at *
  generalize (w.length : Int) = WL at *
  have z0 : ∀ x : D, szD 0 x = some x := fun x => if_pos (by omega)
  cases B1 <;> cases B2 <;> simp -implicitDefEqProofs [s__law_is_name, slots0, ln, l1, l2, it, wipeR, e1, zl, nl, z0]
/-! ### rising -/
def ltP (q : Str × Str) : Bool := decide (q.1.cps.toList < q.2.cps.toList)
def risB (ws : List Str) : Bool := ws.all nameB && (ws.zip (ws.drop 1)).all ltP
theorem zip_drop (ws : List Str) : zip2L (ws.map .str) ((ws.drop 1).map .str) = (ws.zip (ws.drop 1)).map fun p => .tup [.str p.1, .str p.2] := zip2L_map ws (ws.drop 1)
theorem ltD_strs (x y : Str) : ltD (.str x) (.str y) = some (decide (x.cps.toList < y.cps.toList)) := rfl
theorem isRising_any {ws : List Str} (hl : ws.length ≤ 1000001) (h : ∀ w ∈ ws, w.length ≤ 1000000) (g : G) : F_is_rising [.tup (ws.map .str)] g = some (.bl (risB ws), g) := by
  have sz := sizeLine_eq
  have e1 : lcL (bName 1) tYesD (eCall F_is_name (aCons (eVar 1) aNil)) [some (.d (.tup (ws.map .str))), none, none] (ws.map .str) g = some ((ws.map nameB).map .bl, g) := by
    refine lc_bools ws fun w hw => ⟨_, rfl, ?_⟩
    have i := isName_any (h w hw) g
    generalize D.tup (ws.map .str) = TW at *
    simp -implicitDefEqProofs [setR, i]
  have e2 : lcL (bTup (bsCons (bName 1) (bsCons (bName 2) bsNil))) tYesD (eCmp ltD (eVar 1) (eVar 2)) [some (.d (.tup (ws.map .str))), none, none] ((ws.zip (ws.drop 1)).map fun p => .tup [.str p.1, .str p.2]) g = some (((ws.zip (ws.drop 1)).map ltP).map .bl, g) := by
    refine lc_bools (ws.zip (ws.drop 1)) fun p hp => ⟨_, rfl, ?_⟩
    have i := ltD_strs p.1 p.2
    unfold ltP
    generalize D.tup (ws.map .str) = TW at *
    simp -implicitDefEqProofs [setR, i]
  have a1 := allD_lst (ws.map nameB)
  have a2 := allD_lst ((ws.zip (ws.drop 1)).map ltP)
  rw [List.all_map] at a1 a2
  have a1 : allD [.lst ((ws.map nameB).map .bl)] = some (.bl (ws.all nameB)) := a1
  have a2 : allD [.lst (((ws.zip (ws.drop 1)).map ltP).map .bl)] = some (.bl ((ws.zip (ws.drop 1)).all ltP)) := a2
  have it : itemsD (.tup (ws.map .str)) = some (ws.map .str) := rfl
  have sl : slD (.tup (ws.map .str)) (some 1) none = some (.tup ((ws.drop 1).map .str)) := by
    show some (D.tup (cutL (ws.map D.str) (some 1) none)) = _
    rw [cutL_one, List.map_drop]
  have zp : zipM [.tup (ws.map .str), .tup ((ws.drop 1).map .str)] = some ((ws.zip (ws.drop 1)).map fun p => .tup [.str p.1, .str p.2]) := by
    show some (zip2L _ _) = _
    rw [zip_drop]
  have zl : ((ws.map nameB).map D.bl).length ≤ sizeLine := by rw [List.length_map, List.length_map]; omega
  have zl2 : (((ws.zip (ws.drop 1)).map ltP).map D.bl).length ≤ sizeLine := by rw [List.length_map, List.length_map, List.length_zip]; omega
  have is1 : isiD .tup (.tup (ws.map .str)) = some true := rfl
  refine runF_rt ?_
  unfold risB
  generalize (ws.all nameB) = B1 at *
  generalize ((ws.zip (ws.drop 1)).all ltP) = B2 at *
  generalize (ws.map nameB).map D.bl = L1 at *
  generalize ((ws.zip (ws.drop 1)).map ltP).map D.bl = L2' at *
  generalize ((ws.zip (ws.drop 1)).map fun p => D.tup [.str p.1, .str p.2]) = L3 at *
  generalize (ws.drop 1).map D.str = L4 at *
  generalize D.tup (ws.map .str) = TW at *
  generalize ws.map D.str = L5 at *
  cases B1 <;> simp -implicitDefEqProofs [s_is_rising, slots0, is1, it, wipeR, e1, zl, a1, sl, zp, e2, zl2, a2]
theorem lawRising_any {ws : List Str} (hl : ws.length ≤ 1000001) (h : ∀ w ∈ ws, w.length ≤ 1000000) (g : G) : F__law_is_rising [.lst (ws.map .str)] g = some (.bl (risB ws), g) := by
  have sz := sizeLine_eq
  have e1 : lcL (bName 1) (tNot (tE (eCall F__law_is_name (aCons (eVar 1) aNil)))) (eVar 1) [some (.d (.lst (ws.map .str))), none, none] (ws.map .str) g = some (((ws.filter fun w => !nameB w).map id).map .str, g) := by
    refine lc_typedF ws fun w hw => ⟨_, rfl, ?_, fun _ => ?_⟩
    · have i := lawName_any (h w hw) g
      generalize D.lst (ws.map .str) = TW at *
      generalize nameB w = NB at *
      cases NB <;> simp -implicitDefEqProofs [setR, i]
    · generalize D.lst (ws.map .str) = TW at *
      simp -implicitDefEqProofs [setR]
  rw [List.map_id] at e1
  have e2 : lcL (bTup (bsCons (bName 1) (bsCons (bName 2) bsNil))) (tNot (tCmp ltD (eVar 1) (eVar 2))) (eC (.int 1)) [some (.d (.lst (ws.map .str))), none, none] ((ws.zip (ws.drop 1)).map fun p => .tup [.str p.1, .str p.2]) g = some ((((ws.zip (ws.drop 1)).filter fun q => !ltP q).map fun _ => (1 : Int)).map .int, g) := by
    refine lc_typedF (ws.zip (ws.drop 1)) fun p hp => ⟨_, rfl, ?_, fun _ => ?_⟩
    · have i := ltD_strs p.1 p.2
      unfold ltP
      generalize D.lst (ws.map .str) = TW at *
      generalize decide (p.1.cps.toList < p.2.cps.toList) = NB at *
      cases NB <;> simp -implicitDefEqProofs [setR, i]
    · generalize D.lst (ws.map .str) = TW at *
      simp -implicitDefEqProofs [setR]
  have n1 := none_left' (f := D.str) ws nameB kdS
  have n2 := none_left (f := fun _ : Str × Str => D.int 1) (ws.zip (ws.drop 1)) ltP ⟨fun _ => rfl, fun _ => Nat.le_refl _⟩ (fun _ _ => by cases h : eqq _ _ <;> simp)
  have em : ((((ws.zip (ws.drop 1)).filter fun q => !ltP q).map fun _ => (1 : Int)).map D.int) = ((ws.zip (ws.drop 1)).filter fun q => !ltP q).map fun _ => D.int 1 := by rw [List.map_map]; rfl
  rw [em] at e2
  have it : itemsD (.lst (ws.map .str)) = some (ws.map .str) := rfl
  have sl : slD (.lst (ws.map .str)) (some 1) none = some (.lst ((ws.drop 1).map .str)) := by
    show some (D.lst (cutL (ws.map D.str) (some 1) none)) = _
    rw [cutL_one, List.map_drop]
  have zp : zipM [.lst (ws.map .str), .lst ((ws.drop 1).map .str)] = some ((ws.zip (ws.drop 1)).map fun p => .tup [.str p.1, .str p.2]) := by
    show some (zip2L _ _) = _
    rw [zip_drop]
  have zl : ((ws.filter fun w => !nameB w).map D.str).length ≤ sizeLine := by rw [List.length_map]; have := List.length_filter_le (fun w => !nameB w) ws; omega
  have zl2 : (((ws.zip (ws.drop 1)).filter fun q => !ltP q).map fun _ => D.int 1).length ≤ sizeLine := by
    rw [List.length_map]
    have := List.length_filter_le (fun q => !ltP q) (ws.zip (ws.drop 1))
    rw [List.length_zip] at this
    omega
  have z0 : ∀ x : D, szD 0 x = some x := fun x => if_pos (by omega)
  refine runF_rt ?_
  unfold risB
  generalize (ws.all nameB) = B1 at *
  generalize ((ws.zip (ws.drop 1)).all ltP) = B2 at *
  generalize ((ws.filter fun w => !nameB w).map D.str) = L1 at *
  generalize (((ws.zip (ws.drop 1)).filter fun q => !ltP q).map fun _ => D.int 1) = L2' at *
  generalize ((ws.zip (ws.drop 1)).map fun p => D.tup [.str p.1, .str p.2]) = L3 at *
  generalize (ws.drop 1).map D.str = L4 at *
  generalize D.lst (ws.map .str) = TW at *
  generalize ws.map D.str = L5 at *
  cases B1 <;> simp -implicitDefEqProofs [s__law_is_rising, slots0, it, wipeR, e1, zl, n1, sl, zp, e2, zl2, n2, z0]
end L_k76
end
section
set_option Elab.async false
set_option linter.all false
set_option maxRecDepth 100000
set_option maxHeartbeats 4000000
set_option autoImplicit false
namespace L_k76
open PySem PD
/-! ### numbers, of any words -/
theorem figs_mem {c : Nat} : c ∈ cs figs ↔ 48 ≤ c ∧ c ≤ 57 := by
  show c ∈ figs.cps.toList ↔ _
  rw [figs_cs]
  constructor
  · intro h
    simp only [List.mem_cons, List.not_mem_nil, or_false] at h
    omega
  · intro h
    simp only [List.mem_cons, List.not_mem_nil, or_false]
    omega
def head0 (w : Str) : Bool := decide ((cs w).head? = some 48)
def numB (w : Str) : Bool := ofB (cs figs) 6 w && !(head0 w && !decide (w = Str.ofString "0"))
def valI (w : Str) : Int := ((PySem.NumText.digitsVal (cs w) : Nat) : Int)
def numD (w : Str) : D := if numB w = true then .int (valI w) else .non
theorem int_val {w : Str} (h : ofB (cs figs) 6 w = true) : intTD (.str w) = some (.int (valI w)) := by
  unfold ofB at h
  rw [Bool.and_eq_true, Bool.and_eq_true, decide_eq_true_eq, decide_eq_true_eq, List.all_eq_true] at h
  obtain ⟨⟨h1, h2⟩, h3⟩ := h
  have e : PySem.intText? w = some (valI w) := PySem.intText_digits (fun c hc => figs_mem.mp (of_decide_eq_true (h3 c hc))) (fun z => by
    have : (cs w).length = 0 := by rw [show cs w = [] from z]; rfl
    rw [cs_len] at this
    omega) (by omega)
  show (if w.length ≤ 640 then (PySem.intText? w).map D.int else none) = _
  rw [if_pos (by omega), e]
  rfl
theorem ix_head {w : Str} (h : 1 ≤ w.length) (g : G) : ∃ c, L2.atI w.cps.toList 0 = some c ∧ (cs w).head? = some c := by
  obtain ⟨arr⟩ := w
  have h : 1 ≤ arr.size := h
  obtain ⟨l⟩ := arr
  cases l with
  | nil => simp at h
  | cons c r =>
    refine ⟨c, ?_, rfl⟩
    show L2.atI (c :: r) 0 = some c
    rw [atI_of (by omega) (by simp only [List.length_cons]; omega)]
    rfl
theorem eq_zero (c : Nat) : eqD (.str ⟨#[c]⟩) (.str "0") = some (decide (c = 48)) := by
  have e : eqD (.str ⟨#[c]⟩) (.str (Str.ofString "0")) = some (decide ((⟨#[c]⟩ : Str) = Str.ofString "0")) := by rw [eqD_of rfl rfl, eqq_str]
  have e : eqD (.str ⟨#[c]⟩) (.str "0") = some (decide ((⟨#[c]⟩ : Str) = Str.ofString "0")) := e
  rw [e]
  congr 1
  refine decide_eq_decide.mpr ⟨fun h => ?_, fun h => by subst h; rfl⟩
  have : cs (⟨#[c]⟩ : Str) = cs (Str.ofString "0") := by rw [h]
  have : [c] = [48] := this
  simpa using this
theorem neD_strs (x y : Str) : neD (.str x) (.str y) = some (!decide (x = y)) := by rw [neD_of rfl rfl, eqq_str]
theorem eqD_strs (x y : Str) : eqD (.str x) (.str y) = some (decide (x = y)) := by rw [eqD_of rfl rfl, eqq_str]
theorem number_any {w : Str} (h : w.length ≤ 1000000) (g : G) : F_number_in [.str w] g = some (numD w, g) := by
  have e0 := isOf_any (w := w) (s := figs) (top := 6) h (by decide) g
  have e0 : F_is_of [.str w, .str "0123456789", .int 6] g = some (.bl (ofB (cs figs) 6 w), g) := e0
  refine runF_rt ?_
  unfold numD numB
  by_cases q : ofB (cs figs) 6 w = true
  · have hl : 1 ≤ w.length := by
      unfold ofB at q
      rw [Bool.and_eq_true, Bool.and_eq_true, decide_eq_true_eq] at q
      exact q.1.1
    obtain ⟨c, i1, hc⟩ := ix_head hl g
    have z := eq_zero c
    have hh : head0 w = decide (c = 48) := by
      unfold head0
      rw [hc]
      exact decide_eq_decide.mpr ⟨fun h => Option.some.inj h, fun h => by rw [h]⟩
    have n1 : neD (.str w) (.str "0") = some (!decide (w = Str.ofString "0")) := neD_strs w (Str.ofString "0")
    have iv := int_val q
    rw [hh, q]
    rw [q] at e0
    generalize decide (w = Str.ofString "0") = B2 at *
    generalize decide (c = 48) = B1 at *
    generalize valI w = V at *
    cases B1 <;> cases B2 <;> simp -implicitDefEqProofs [s_number_in, slots0, e0, i1, z, n1, iv]
  · have q : ofB (cs figs) 6 w = false := by simpa using q
    rw [q]
    rw [q] at e0
    simp -implicitDefEqProofs [s_number_in, slots0, e0]
theorem lawNumber_any {w : Str} (h : w.length ≤ 1000000) (g : G) : F__law_number [.str w] g = some (if numB w = true then .lst [.int (valI w)] else .lst [], g) := by
  have sz := sizeLine_eq
  have e1 : lcL (bName 1) (tCmp notInD (eVar 1) (eC (.str "0123456789"))) (eVar 1) [some (.d (.str w)), none] ((cs w).map fun c => .str ⟨#[c]⟩) g = some ((((cs w).filter fun c => !decide (c ∈ cs figs)).map id).map fun c => .str ⟨#[c]⟩, g) := by
    refine lc_typedF (cs w) fun c hc => ⟨_, rfl, ?_, fun _ => by simp -implicitDefEqProofs [setR]⟩
    have i := inD_sign c figs
    have i : notInD (.str ⟨#[c]⟩) (.str "0123456789") = some (!decide (c ∈ cs figs)) := by
      show (inD (.str ⟨#[c]⟩) (.str figs)).map (!·) = _
      rw [i]
      rfl
    generalize D.str ⟨#[c]⟩ = DC at *
    simp -implicitDefEqProofs [setR, i]
  rw [List.map_id] at e1
  have nl := none_left' (f := fun c : Nat => D.str ⟨#[c]⟩) (cs w) (fun c => decide (c ∈ cs figs)) kdC
  have it := items_str w
  have ln : lenD [.str w] = some (.int w.length) := rfl
  have zl : (((cs w).filter fun c => !decide (c ∈ cs figs)).map fun c => D.str ⟨#[c]⟩).length ≤ sizeLine := by
    rw [List.length_map]
    have := List.length_filter_le (fun c => !decide (c ∈ cs figs)) (cs w)
    rw [cs_len] at this
    omega
  have g6 : gtD (.int w.length) (.int 6) = some (!decide (w.length ≤ 6)) := by
    show some (decide ((6 : Int) < (w.length : Int))) = _
    congr 1
    rw [Bool.eq_iff_iff]
    simp
    omega
  have en : eqD (.str w) (.str "") = some (!decide (1 ≤ w.length)) := by
    have e : eqD (.str w) (.str "") = some (decide (w = Str.ofString "")) := eqD_strs w (Str.ofString "")
    rw [e]
    congr 1
    rw [Bool.eq_iff_iff]
    simp only [decide_eq_true_eq, Bool.not_eq_true', decide_eq_false_iff_not]
    constructor
    · intro q; subst q; decide
    · intro q
      refine cs_inj ?_
      have : (cs w).length = 0 := by rw [cs_len]; omega
      rw [List.eq_nil_of_length_eq_zero this]
      rfl
  have z0 : ∀ x : D, szD 0 x = some x := fun x => if_pos (by omega)
  have z1 : ∀ x : D, szD 1 x = some x := fun x => if_pos (by omega)
  refine runF_rt ?_
  unfold numB
  by_cases q : ofB (cs figs) 6 w = true
  · have iv := int_val q
    have q0 := q
    unfold ofB at q
    rw [Bool.and_eq_true, Bool.and_eq_true, decide_eq_true_eq, decide_eq_true_eq] at q
    obtain ⟨⟨h1, h2⟩, h3⟩ := q
    obtain ⟨c, i1, hc⟩ := ix_head h1 g
    have z := eq_zero c
    have hh : head0 w = decide (c = 48) := by
      unfold head0
      rw [hc]
      exact decide_eq_decide.mpr ⟨fun h => Option.some.inj h, fun h => by rw [h]⟩
    have n1 : neD (.str w) (.str "0") = some (!decide (w = Str.ofString "0")) := neD_strs w (Str.ofString "0")
    rw [hh, q0]
    rw [h3] at nl
    rw [decide_eq_true h1] at en
    rw [decide_eq_true h2] at g6
    generalize (((cs w).filter fun c => !decide (c ∈ cs figs)).map fun c => D.str ⟨#[c]⟩) = FL at *
    generalize ((cs w).map fun c => D.str ⟨#[c]⟩) = CW at *
    generalize (w.length : Int) = WL at *
    generalize decide (w = Str.ofString "0") = B2 at *
    generalize decide (c = 48) = B1 at *
    generalize valI w = V at *
    cases B1 <;> cases B2 <;> simp -implicitDefEqProofs [s__law_number, slots0, en, ln, g6, it, wipeR, e1, zl, nl, z0, z1, i1, z, n1, iv]
  · have q : ofB (cs figs) 6 w = false := by simpa using q
    rw [q]
    unfold ofB at q
    generalize ((cs w).all fun c => decide (c ∈ cs figs)) = B3 at *
    generalize (((cs w).filter fun c => !decide (c ∈ cs figs)).map fun c => D.str ⟨#[c]⟩) = FL at *
    generalize ((cs w).map fun c => D.str ⟨#[c]⟩) = CW at *
    generalize decide (1 ≤ w.length) = B1 at *
    generalize decide (w.length ≤ 6) = B2 at *
    generalize (w.length : Int) = WL at *
    cases B1 <;> cases B2 <;> cases B3 <;> first | (simp at q; done) | simp -implicitDefEqProofs [s__law_number, slots0, en, ln, g6, it, wipeR, e1, zl, nl, z0, z1]
end L_k76
end
section
set_option Elab.async false
set_option linter.all false
set_option maxRecDepth 100000
set_option maxHeartbeats 4000000
set_option autoImplicit false
namespace L_k76
open PySem PD
/-! ### the program's reading -/
abbrev Rw := List (Option (List Str))
def behP (R : Rw) (i : Nat) (w : Str) : Option (List Str) := match R[i]? with
  | some (some (v :: ws)) => if v = w then some ws else none
  | _ => none
def okN (lo hi : Int) (z : Str) : Bool := numB z && (decide (lo ≤ valI z) && decide (valI z ≤ hi))
def numsP (R : Rw) (i : Nat) (w : Str) (lo hi : Int) : Option (List Int) := (behP R i w).bind fun ws => if ws.all (okN lo hi) = true then some (ws.map valI) else none
theorem row_ixO {R : Rw} {i : Nat} {o : Option (List Str)} (h : R[i]? = some o) (g : G) : ixD g (RL R) (.int (i : Int)) = some (rowO o) := by
  have hl := (List.getElem?_eq_some_iff.mp h).1
  show L2.atI (R.map rowO) (i : Int) = _
  rw [atI_of (by omega) (by rw [List.length_map]; omega), List.getElem?_map, Int.toNat_natCast, h]
  rfl
theorem len_R (R : Rw) : lenD [RL R] = some (.int R.length) := by
  show some (D.int ((R.map rowO).length : Int)) = _
  rw [List.length_map]
theorem geD_nat (i n : Nat) : geD (.int (i : Int)) (.int (n : Int)) = some (decide (n ≤ i)) := by
  show some (decide ((n : Int) ≤ (i : Int))) = _
  congr 1
  exact decide_eq_decide.mpr (by omega)
theorem row_hd (v : Str) (ws : List Str) (g : G) : ixD g (.lst ((v :: ws).map .str)) (.int 0) = some (.str v) := by
  show L2.atI (D.str v :: ws.map .str) 0 = _
  rw [atI_of (by omega) (by simp only [List.length_cons]; omega)]
  rfl
theorem row_tl (v : Str) (ws : List Str) : slD (.lst ((v :: ws).map .str)) (some 1) none = some (.lst (ws.map .str)) := by
  show some (D.lst (cutL ((v :: ws).map D.str) (some 1) none)) = _
  rw [cutL_one]
  rfl
def wdX (R : Rw) (i : Nat) (w : Str) : Rx := match behP R i w with
  | none => .xc "BadLine" "line" (.int ((i : Int) + 1))
  | some ws => .ok (.lst (ws.map .str))
theorem wordsAt_any {R : Rw} (hR : RT R) (i : Nat) (w : Str) (g : G) : X_words_at [RL R, .int (i : Int), .str w] g = some (wdX R i w, g) := by
  have ln := len_R R
  have ge := geD_nat i R.length
  unfold wdX behP X_words_at
  by_cases hi : i < R.length
  · have hi2 : R[i]? = some R[i] := List.getElem?_eq_getElem hi
    have ix := row_ixO hi2 g
    rw [decide_eq_false (by omega)] at ge
    rw [hi2]
    cases hr : R[i] with
    | none =>
      rw [hr] at ix
      have ix : ixD g (RL R) (.int (i : Int)) = some .non := ix
      have n1 : isND .non .non = some true := rfl
      generalize RL R = RD at *
      generalize (R.length : Int) = LN at *
      simp -implicitDefEqProofs [runX, s_words_at, slots0, ln, ge, ix, n1]
    | some ws =>
      rw [hr] at ix
      have hm : some ws ∈ R := by rw [← hr]; exact List.getElem_mem hi
      cases ws with
      | nil => exact absurd rfl (hR.ws [] hm).1
      | cons v ws =>
        have ix : ixD g (RL R) (.int (i : Int)) = some (.lst ((v :: ws).map .str)) := ix
        have hd := row_hd v ws g
        have tl := row_tl v ws
        have n1 : isND (.lst ((v :: ws).map .str)) .non = some false := rfl
        have ne := neD_strs v w
        show _ = some ((match (if v = w then some ws else none) with
          | none => Rx.xc "BadLine" "line" (.int ((i : Int) + 1))
          | some ws => .ok (.lst (ws.map .str))), g)
        generalize D.lst ((v :: ws).map .str) = RW at *
        generalize RL R = RD at *
        generalize (R.length : Int) = LN at *
        by_cases q : v = w
        · rw [decide_eq_true q] at ne
          rw [if_pos q]
          simp -implicitDefEqProofs [runX, s_words_at, slots0, ln, ge, ix, n1, hd, tl, ne]
        · rw [decide_eq_false q] at ne
          rw [if_neg q]
          simp -implicitDefEqProofs [runX, s_words_at, slots0, ln, ge, ix, n1, hd, tl, ne]
  · rw [decide_eq_true (by omega)] at ge
    rw [List.getElem?_eq_none (by omega)]
    generalize RL R = RD at *
    generalize (R.length : Int) = LN at *
    simp -implicitDefEqProofs [runX, s_words_at, slots0, ln, ge]
theorem behP_mem {R : Rw} {i : Nat} {w : Str} {ws : List Str} (h : behP R i w = some ws) : ∃ v, some (v :: ws) ∈ R ∧ i < R.length := by
  unfold behP at h
  split at h
  · rename_i v ws2 e
    split at h
    · cases h
      exact ⟨v, List.mem_of_getElem? e, (List.getElem?_eq_some_iff.mp e).1⟩
    · cases h
  · cases h
theorem behP_rt {R : Rw} (hR : RT R) {i : Nat} {w : Str} {ws : List Str} (h : behP R i w = some ws) : ws.length ≤ 1000000 ∧ ∀ z ∈ ws, z.length ≤ 1000000 := by
  obtain ⟨v, hv, _⟩ := behP_mem h
  obtain ⟨_, h2, h3⟩ := hR.ws _ hv
  rw [List.length_cons] at h2
  exact ⟨by omega, fun z hz => (h3 z (List.mem_cons_of_mem _ hz)).2⟩
/-! ### numbers of a line -/
theorem isWhole_any (z : Str) (lo hi : Int) (g : G) : F_is_whole [numD z, .int lo, .int hi] g = some (.bl (okN lo hi z), g) := by
  unfold numD okN
  refine runF_rt ?_
  cases hb : numB z with
  | false =>
    have i1 : isiD .int .non = some false := rfl
    rw [if_neg Bool.false_ne_true]
    simp -implicitDefEqProofs [s_is_whole, slots0, i1]
  | true =>
    have i1 : isiD .int (.int (valI z)) = some true := rfl
    have i2 : isiD .bool (.int (valI z)) = some false := rfl
    have l1 : leD (.int lo) (.int (valI z)) = some (decide (lo ≤ valI z)) := rfl
    have l2 : leD (.int (valI z)) (.int hi) = some (decide (valI z ≤ hi)) := rfl
    rw [if_pos rfl]
    generalize decide (lo ≤ valI z) = B1 at *
    generalize decide (valI z ≤ hi) = B2 at *
    generalize valI z = V at *
    cases B1 <;> cases B2 <;> simp -implicitDefEqProofs [s_is_whole, slots0, i1, i2, l1, l2]
def nmX (R : Rw) (i : Nat) (w : Str) (lo hi : Int) : Rx := match numsP R i w lo hi with
  | none => .xc "BadLine" "line" (.int ((i : Int) + 1))
  | some ns => .ok (tupI ns)
theorem numbersAt_any {R : Rw} (hR : RT R) (i : Nat) (w : Str) (lo hi : Int) (g : G) : X_numbers_at [RL R, .int (i : Int), .str w, .int lo, .int hi] g = some (nmX R i w lo hi, g) := by
  have sz := sizeLine_eq
  have wa := wordsAt_any hR i w g
  unfold nmX numsP X_numbers_at
  unfold wdX at wa
  cases hb : behP R i w with
  | none =>
    rw [hb] at wa
    have wa : X_words_at [RL R, .int (i : Int), .str w] g = some (.xc "BadLine" "line" (.int ((i : Int) + 1)), g) := wa
    have st : sTh (cCall X_words_at (aCons (eVar 0) (aCons (eVar 1) (aCons (eVar 2) aNil)))) (sSet 5 (eO (eLcA [6] (aItem (fOk (cCall X_words_at (aCons (eVar 0) (aCons (eVar 1) (aCons (eVar 2) aNil)))))) (bName 6) tYesD (eCall F_number_in (aCons (eVar 6) aNil))))) [some (.d (RL R)), some (.d (.int (i : Int))), some (.d (.str w)), some (.d (.int lo)), some (.d (.int hi)), none, none, none] g = some (.xc "BadLine" "line" (.int ((i : Int) + 1)) [some (.d (RL R)), some (.d (.int (i : Int))), some (.d (.str w)), some (.d (.int lo)), some (.d (.int hi)), none, none, none], g) := by
      refine sTh_xc ?_
      generalize RL R = RD at *
      simp -implicitDefEqProofs [wa]
    show runX 8 s_numbers_at _ g = some (.xc "BadLine" "line" (.int ((i : Int) + 1)), g)
    unfold s_numbers_at
    generalize (sTh (cCall X_words_at (aCons (eVar 0) (aCons (eVar 1) (aCons (eVar 2) aNil)))) (sSet 5 (eO (eLcA [6] (aItem (fOk (cCall X_words_at (aCons (eVar 0) (aCons (eVar 1) (aCons (eVar 2) aNil)))))) (bName 6) tYesD (eCall F_number_in (aCons (eVar 6) aNil)))))) = ST at *
    generalize RL R = RD at *
    simp -implicitDefEqProofs [runX, slots0, st]
  | some ws =>
    rw [hb] at wa
    have wa : X_words_at [RL R, .int (i : Int), .str w] g = some (.ok (.lst (ws.map .str)), g) := wa
    obtain ⟨hl, hz⟩ := behP_rt hR hb
    have e1 : ∀ x5 x7, lcL (bName 6) tYesD (eCall F_number_in (aCons (eVar 6) aNil)) [some (.d (RL R)), some (.d (.int (i : Int))), some (.d (.str w)), some (.d (.int lo)), some (.d (.int hi)), x5, none, x7] (ws.map .str) g = some (ws.map numD, g) := fun x5 x7 =>
      lcL_on fun z hzm => ⟨_, rfl, by
        have n := number_any (hz z hzm) g
        generalize RL R = RD at *
        simp -implicitDefEqProofs [setR, n]⟩
    have zl : (ws.map numD).length ≤ sizeLine := by rw [List.length_map]; omega
    have cc : cCall X_words_at (aCons (eVar 0) (aCons (eVar 1) (aCons (eVar 2) aNil))) [some (.d (RL R)), some (.d (.int (i : Int))), some (.d (.str w)), some (.d (.int lo)), some (.d (.int hi)), none, none, none] g = some (.ok (.lst (ws.map .str)), g) := by
      generalize RL R = RD at *
      simp -implicitDefEqProofs [wa]
    have cf := fOk_ok cc
    have st : sTh (cCall X_words_at (aCons (eVar 0) (aCons (eVar 1) (aCons (eVar 2) aNil)))) (sSet 5 (eO (eLcA [6] (aItem (fOk (cCall X_words_at (aCons (eVar 0) (aCons (eVar 1) (aCons (eVar 2) aNil)))))) (bName 6) tYesD (eCall F_number_in (aCons (eVar 6) aNil))))) [some (.d (RL R)), some (.d (.int (i : Int))), some (.d (.str w)), some (.d (.int lo)), some (.d (.int hi)), none, none, none] g = some (.nx [some (.d (RL R)), some (.d (.int (i : Int))), some (.d (.str w)), some (.d (.int lo)), some (.d (.int hi)), some (.d (.lst (ws.map numD))), none, none], g) := by
      rw [sTh_ok cc]
      have it : itemsD (.lst (ws.map .str)) = some (ws.map .str) := rfl
      generalize fOk (cCall X_words_at (aCons (eVar 0) (aCons (eVar 1) (aCons (eVar 2) aNil)))) = FO at *
      generalize ws.map numD = NM at *
      generalize ws.map D.str = WM at *
      generalize RL R = RD at *
      simp -implicitDefEqProofs [cf, it, wipeR, e1, zl]
    have e2 : lcL (bName 7) tYesD (eCall F_is_whole (aCons (eVar 7) (aCons (eVar 3) (aCons (eVar 4) aNil)))) [some (.d (RL R)), some (.d (.int (i : Int))), some (.d (.str w)), some (.d (.int lo)), some (.d (.int hi)), some (.d (.lst (ws.map numD))), none, none] (ws.map numD) g = some ((ws.map (okN lo hi)).map .bl, g) :=
      lc_bools ws fun z hzm => ⟨_, rfl, by
        have n := isWhole_any z lo hi g
        generalize RL R = RD at *
        generalize D.lst (ws.map numD) = LM at *
        generalize numD z = NZ at *
        simp -implicitDefEqProofs [setR, n]⟩
    have ha := allD_lst (ws.map (okN lo hi))
    rw [List.all_map] at ha
    have ha : allD [.lst ((ws.map (okN lo hi)).map .bl)] = some (.bl (ws.all (okN lo hi))) := ha
    have zl2 : ((ws.map (okN lo hi)).map D.bl).length ≤ sizeLine := by rw [List.length_map, List.length_map]; omega
    have it2 : itemsD (.lst (ws.map numD)) = some (ws.map numD) := rfl
    have ts : tupleD [.lst (ws.map numD)] = some (.tup (ws.map numD)) := rfl
    show runX 8 s_numbers_at _ g = some ((match (if ws.all (okN lo hi) = true then some (ws.map valI) else none) with
      | none => Rx.xc "BadLine" "line" (.int ((i : Int) + 1))
      | some ns => .ok (tupI ns)), g)
    by_cases q : ws.all (okN lo hi) = true
    · have eT : D.tup (ws.map numD) = tupI (ws.map valI) := by
        show D.tup (ws.map numD) = D.tup ((ws.map valI).map .int)
        rw [List.map_map]
        congr 1
        refine List.map_congr_left fun z hzm => ?_
        have := List.all_eq_true.mp q z hzm
        unfold okN at this
        rw [Bool.and_eq_true] at this
        unfold numD
        rw [if_pos this.1]
        rfl
      rw [if_pos q]
      rw [q] at ha
      show runX 8 s_numbers_at _ g = some (Rx.ok (tupI (ws.map valI)), g)
      rw [← eT]
      unfold s_numbers_at
      generalize (sTh (cCall X_words_at (aCons (eVar 0) (aCons (eVar 1) (aCons (eVar 2) aNil)))) (sSet 5 (eO (eLcA [6] (aItem (fOk (cCall X_words_at (aCons (eVar 0) (aCons (eVar 1) (aCons (eVar 2) aNil)))))) (bName 6) tYesD (eCall F_number_in (aCons (eVar 6) aNil)))))) = ST at *
      clear e1 eT q
      generalize (ws.map (okN lo hi)).map D.bl = BM at *
      generalize D.tup (ws.map numD) = TM at *
      generalize ws.map numD = NM at *
      generalize RL R = RD at *
      simp -implicitDefEqProofs [runX, slots0, st, it2, wipeR, e2, zl2, ha, ts]
    · rw [if_neg q]
      have q : ws.all (okN lo hi) = false := by simpa using q
      rw [q] at ha
      show runX 8 s_numbers_at _ g = some (Rx.xc "BadLine" "line" (.int ((i : Int) + 1)), g)
      unfold s_numbers_at
      generalize (sTh (cCall X_words_at (aCons (eVar 0) (aCons (eVar 1) (aCons (eVar 2) aNil)))) (sSet 5 (eO (eLcA [6] (aItem (fOk (cCall X_words_at (aCons (eVar 0) (aCons (eVar 1) (aCons (eVar 2) aNil)))))) (bName 6) tYesD (eCall F_number_in (aCons (eVar 6) aNil)))))) = ST at *
      clear e1 q
      generalize (ws.map (okN lo hi)).map D.bl = BM at *
      generalize ws.map numD = NM at *
      generalize RL R = RD at *
      simp -implicitDefEqProofs [runX, slots0, st, it2, wipeR, e2, zl2, ha]
end L_k76
end
section
set_option Elab.async false
set_option linter.all false
set_option maxRecDepth 100000
set_option maxHeartbeats 4000000
set_option autoImplicit false
namespace L_k76
open PySem PD
/-! ### a place by three lines -/
def placeP (R : Rw) (i n : Nat) : Except Nat Place := match behP R i "place" with
  | none => .error (i + 1)
  | some ms => if 4 < ms.length ∨ risB ms = false then .error (i + 1) else match numsP R (i + 1) "moves" 1 3 with
    | none => .error (i + 2)
    | some cs => if cs.length ≠ n ∨ 36 < prodZ cs then .error (i + 2) else match numsP R (i + 2) "next" 0 999999 with
      | none => .error (i + 3)
      | some xs => if (xs.length : Int) ≠ prodZ cs then .error (i + 3) else .ok ⟨ms, cs, xs⟩
def exX (r : Except Nat Place) : Rx := match r with
  | .error l => .xc "BadLine" "line" (.int (l : Int))
  | .ok p => .ok p.d
theorem many_for {x0 x1 x2 x3 x4 x7 : Option LV} {g : G} : ∀ (cs : List Int) (m : Int) {o6 : Option LV}, (∀ c ∈ cs, 1 ≤ c ∧ c ≤ 3) → ∃ o6',
    forL (bName 6) (sMul 5 (eVar 6)) (cs.map .int) [x0, x1, x2, x3, x4, some (.d (.int m)), o6, x7] g = some (.nx [x0, x1, x2, x3, x4, some (.d (.int (m * prodZ cs))), o6', x7], g)
  | [], m, o6, _ => ⟨o6, by rw [show prodZ [] = 1 from rfl, Int.mul_one]; rfl⟩
  | c :: cs, m, o6, h => by
    have hc := h c List.mem_cons_self
    obtain ⟨q6, e⟩ := many_for (x0 := x0) (x1 := x1) (x2 := x2) (x3 := x3) (x4 := x4) (x7 := x7) (g := g) cs (m * c) (o6 := some (.d (.int c))) fun y hy => h y (List.mem_cons_of_mem _ hy)
    refine ⟨q6, ?_⟩
    have mm := dMul_ok2 m c (by omega)
    have hb : sMul 5 (eVar 6) [x0, x1, x2, x3, x4, some (.d (.int m)), some (.d (.int c)), x7] g = some (.nx [x0, x1, x2, x3, x4, some (.d (.int (m * c))), some (.d (.int c)), x7], g) := by
      simp -implicitDefEqProofs [mm, setR]
    have bn : bName 6 (.int c) [x0, x1, x2, x3, x4, some (.d (.int m)), o6, x7] = some [x0, x1, x2, x3, x4, some (.d (.int m)), some (.d (.int c)), x7] := rfl
    have ep : m * prodZ (c :: cs) = m * c * prodZ cs := by
      show m * (c * prodZ cs) = _
      rw [Int.mul_assoc]
    rw [ep, List.map_cons, forL_cons, bn, Option.bind_some, hb]
    exact e
theorem numsP_in {R : Rw} {i : Nat} {w : Str} {lo hi : Int} {ns : List Int} (h : numsP R i w lo hi = some ns) : ∀ x ∈ ns, lo ≤ x ∧ x ≤ hi := by
  unfold numsP at h
  obtain ⟨ws, _, h2⟩ := Option.bind_eq_some_iff.mp h
  split at h2
  · rename_i q
    cases h2
    intro x hx
    obtain ⟨z, hz, rfl⟩ := List.mem_map.mp hx
    have := List.all_eq_true.mp q z hz
    unfold okN at this
    rw [Bool.and_eq_true, Bool.and_eq_true, decide_eq_true_eq, decide_eq_true_eq] at this
    exact this.2
  · cases h2
theorem gtD_int (i j : Int) : gtD (.int i) (.int j) = some (decide (j < i)) := rfl
theorem neD_int (i j : Int) : neD (.int i) (.int j) = some (!decide (i = j)) := by rw [neD_of rfl rfl, eqq_int]
theorem placeAt_any {R : Rw} (hR : RT R) (i : Nat) (ns : List Str) (g : G) : X_place_at [RL R, .int (i : Int), tupS ns] g = some (exX (placeP R i ns.length), g) := by
  have sz := sizeLine_eq
  have wa := wordsAt_any hR i "place" g
  have n1 := numbersAt_any hR (i + 1) "moves" 1 3 g
  have n2 := numbersAt_any hR (i + 2) "next" 0 999999 g
  have c1 : ((i + 1 : Nat) : Int) = (i : Int) + 1 := by omega
  have c2 : ((i + 2 : Nat) : Int) = (i : Int) + 2 := by omega
  have c3 : ((i + 3 : Nat) : Int) = (i : Int) + 3 := by omega
  rw [c1] at n1
  rw [c2] at n2
  unfold nmX at n1 n2
  unfold wdX at wa
  unfold exX placeP X_place_at
  have ad1 : addD (.int (i : Int)) (.int 1) = some (.int ((i : Int) + 1)) := rfl
  have ad2 : addD (.int (i : Int)) (.int 2) = some (.int ((i : Int) + 2)) := rfl
  have ad3 : addD (.int (i : Int)) (.int 3) = some (.int ((i : Int) + 3)) := rfl
  have lnS : lenD [tupS ns] = some (.int ns.length) := by
    show some (D.int ((ns.map D.str).length : Int)) = _
    rw [List.length_map]
  have hsr : s_place_at = (sSeq (sSetR 3 (cTh (cCall X_words_at (aCons (eVar 0) (aCons (eVar 1) (aCons (eC (.str "place")) aNil)))) (eBi tupleD (aCons (fOk (cCall X_words_at (aCons (eVar 0) (aCons (eVar 1) (aCons (eC (.str "place")) aNil))))) aNil))))
  (sSeq (sIf (tOr (tCmp gtD (eBi lenD (aCons (eVar 3) aNil)) (eC (.int 4))) (tNot (tE (eCall F_is_rising (aCons (eVar 3) aNil))))) (sRaise "BadLine" "line" (eOp addD (eVar 1) (eC (.int 1)))) sNil)
  (sSeq (sSetR 4 (cCall X_numbers_at (aCons (eVar 0) (aCons (eOp addD (eVar 1) (eC (.int 1))) (aCons (eC (.str "moves")) (aCons (eC (.int 1)) (aCons (eC (.int 3)) aNil)))))))
  (sSeq (sSet 5 (eC (.int 1)))
  (sSeq (sFor (aItem (eVar 4)) (bName 6) (sMul 5 (eVar 6)))
  (sSeq (sIf (tOr (tCmp neD (eBi lenD (aCons (eVar 4) aNil)) (eBi lenD (aCons (eVar 2) aNil))) (tCmp gtD (eVar 5) (eC (.int 36)))) (sRaise "BadLine" "line" (eOp addD (eVar 1) (eC (.int 2)))) sNil)
  (sSeq (sSetR 7 (cCall X_numbers_at (aCons (eVar 0) (aCons (eOp addD (eVar 1) (eC (.int 2))) (aCons (eC (.str "next")) (aCons (eC (.int 0)) (aCons (eC (.int 999999)) aNil)))))))
  (sSeq (sIf (tCmp neD (eBi lenD (aCons (eVar 7) aNil)) (eVar 5)) (sRaise "BadLine" "line" (eOp addD (eVar 1) (eC (.int 3)))) sNil)
  (sRet (eTup (aCons (eVar 3) (aCons (eVar 4) (aCons (eVar 7) aNil))))))))))))) := rfl
  rw [hsr]
  cases hb : behP R i "place" with
  | none =>
    rw [hb] at wa
    have wa : X_words_at [RL R, .int (i : Int), .str "place"] g = some (.xc "BadLine" "line" (.int ((i : Int) + 1)), g) := wa
    have cc : cCall X_words_at (aCons (eVar 0) (aCons (eVar 1) (aCons (eC (.str "place")) aNil))) [some (.d (RL R)), some (.d (.int (i : Int))), some (.d (tupS ns)), none, none, none, none, none] g = some (.xc "BadLine" "line" (.int ((i : Int) + 1)), g) := by
      generalize RL R = RD at *
      generalize tupS ns = TN at *
      simp -implicitDefEqProofs [wa]
    have ct := cTh_xc (f := eBi tupleD (aCons (fOk (cCall X_words_at (aCons (eVar 0) (aCons (eVar 1) (aCons (eC (.str "place")) aNil))))) aNil)) cc
    show runX 8 _ _ g = some (Rx.xc "BadLine" "line" (.int ((i + 1 : Nat) : Int)), g)
    rw [c1]
    generalize cTh (cCall X_words_at (aCons (eVar 0) (aCons (eVar 1) (aCons (eC (.str "place")) aNil)))) (eBi tupleD (aCons (fOk (cCall X_words_at (aCons (eVar 0) (aCons (eVar 1) (aCons (eC (.str "place")) aNil))))) aNil)) = CT at *
    generalize RL R = RD at *
    generalize tupS ns = TN at *
    simp -implicitDefEqProofs [runX, slots0, ct]
  | some ms =>
    rw [hb] at wa
    have wa : X_words_at [RL R, .int (i : Int), .str "place"] g = some (.ok (.lst (ms.map .str)), g) := wa
    obtain ⟨hl, hz⟩ := behP_rt hR hb
    have cc : cCall X_words_at (aCons (eVar 0) (aCons (eVar 1) (aCons (eC (.str "place")) aNil))) [some (.d (RL R)), some (.d (.int (i : Int))), some (.d (tupS ns)), none, none, none, none, none] g = some (.ok (.lst (ms.map .str)), g) := by
      generalize RL R = RD at *
      generalize tupS ns = TN at *
      simp -implicitDefEqProofs [wa]
    have ts : tupleD [.lst (ms.map .str)] = some (tupS ms) := rfl
    have ct : cTh (cCall X_words_at (aCons (eVar 0) (aCons (eVar 1) (aCons (eC (.str "place")) aNil)))) (eBi tupleD (aCons (fOk (cCall X_words_at (aCons (eVar 0) (aCons (eVar 1) (aCons (eC (.str "place")) aNil))))) aNil)) [some (.d (RL R)), some (.d (.int (i : Int))), some (.d (tupS ns)), none, none, none, none, none] g = some (.ok (tupS ms), g) := by
      rw [cTh_ok cc]
      have cf := fOk_ok cc
      generalize fOk (cCall X_words_at (aCons (eVar 0) (aCons (eVar 1) (aCons (eC (.str "place")) aNil)))) = FO at *
      generalize RL R = RD at *
      generalize tupS ns = TN at *
      simp -implicitDefEqProofs [cf, ts]
    have lm : lenD [tupS ms] = some (.int ms.length) := by
      show some (D.int ((ms.map D.str).length : Int)) = _
      rw [List.length_map]
    have g4 : gtD (.int ms.length) (.int 4) = some (decide (4 < ms.length)) := by
      rw [gtD_int]
      congr 1
      exact decide_eq_decide.mpr (by omega)
    have ri : F_is_rising [tupS ms] g = some (.bl (risB ms), g) := isRising_any (by omega) hz g
    generalize cTh (cCall X_words_at (aCons (eVar 0) (aCons (eVar 1) (aCons (eC (.str "place")) aNil)))) (eBi tupleD (aCons (fOk (cCall X_words_at (aCons (eVar 0) (aCons (eVar 1) (aCons (eC (.str "place")) aNil))))) aNil)) = CT at *
    show runX 8 _ _ g = some ((match (if 4 < ms.length ∨ risB ms = false then Except.error (i + 1) else match numsP R (i + 1) "moves" 1 3 with
      | none => .error (i + 2)
      | some cs => if cs.length ≠ ns.length ∨ 36 < prodZ cs then .error (i + 2) else match numsP R (i + 2) "next" 0 999999 with
        | none => .error (i + 3)
        | some xs => if (xs.length : Int) ≠ prodZ cs then .error (i + 3) else .ok (⟨ms, cs, xs⟩ : Place)) with
      | .error l => Rx.xc "BadLine" "line" (.int (l : Int))
      | .ok p => .ok p.d), g)
    by_cases q : 4 < ms.length ∨ risB ms = false
    · rw [if_pos q]
      show runX 8 _ _ g = some (Rx.xc "BadLine" "line" (.int ((i + 1 : Nat) : Int)), g)
      rw [c1]
      clear n1 n2 c2 c3 cc hz hl wa
      generalize RL R = RD at *
      generalize tupS ns = TN at *
      generalize tupS ms = TM at *
      generalize (ms.length : Int) = ML at *
      by_cases q1 : 4 < ms.length
      · rw [decide_eq_true q1] at g4
        simp -implicitDefEqProofs [runX, slots0, ct, lm, g4]
      · rw [decide_eq_false q1] at g4
        rw [q.resolve_left q1] at ri
        simp -implicitDefEqProofs [runX, slots0, ct, lm, g4, ri]
    · rw [if_neg q]
      have q1 : ¬ 4 < ms.length := fun h => q (.inl h)
      have q2 : risB ms = true := by simpa using fun h => q (.inr h)
      rw [decide_eq_false q1] at g4
      rw [q2] at ri
      cases hc : numsP R (i + 1) "moves" 1 3 with
      | none =>
        rw [hc] at n1
        have n1 : X_numbers_at [RL R, .int ((i : Int) + 1), .str "moves", .int 1, .int 3] g = some (.xc "BadLine" "line" (.int ((i : Int) + 1 + 1)), g) := n1
        show runX 8 _ _ g = some (Rx.xc "BadLine" "line" (.int ((i + 2 : Nat) : Int)), g)
        rw [c2]
        have e2 : (i : Int) + 1 + 1 = (i : Int) + 2 := by omega
        rw [e2] at n1
        clear n2 c1 c2 c3 cc hz hl wa q hc
        generalize RL R = RD at *
        generalize tupS ns = TN at *
        generalize tupS ms = TM at *
        generalize (ms.length : Int) = ML at *
        generalize (i : Int) + 1 = I1 at *
        simp -implicitDefEqProofs [runX, slots0, ct, lm, g4, ri, ad1, n1]
      | some cs =>
        rw [hc] at n1
        have n1 : X_numbers_at [RL R, .int ((i : Int) + 1), .str "moves", .int 1, .int 3] g = some (.ok (tupI cs), g) := n1
        have hcs := numsP_in hc
        have it : itemsD (tupI cs) = some (cs.map .int) := rfl
        have lc : lenD [tupI cs] = some (.int cs.length) := by
          show some (D.int ((cs.map D.int).length : Int)) = _
          rw [List.length_map]
        have ne1 : neD (.int cs.length) (.int ns.length) = some (!decide (cs.length = ns.length)) := by
          rw [neD_int]
          congr 2
          exact decide_eq_decide.mpr (by omega)
        have g36 := gtD_int (prodZ cs) 36
        obtain ⟨q6, mf⟩ := many_for (x0 := some (.d (RL R))) (x1 := some (.d (.int (i : Int)))) (x2 := some (.d (tupS ns))) (x3 := some (.d (tupS ms))) (x4 := some (.d (tupI cs))) (x7 := none) (g := g) cs 1 (o6 := none) hcs
        rw [Int.one_mul] at mf
        show runX 8 _ _ g = some ((match (if cs.length ≠ ns.length ∨ 36 < prodZ cs then Except.error (i + 2) else match numsP R (i + 2) "next" 0 999999 with
          | none => .error (i + 3)
          | some xs => if (xs.length : Int) ≠ prodZ cs then .error (i + 3) else .ok (⟨ms, cs, xs⟩ : Place)) with
          | .error l => Rx.xc "BadLine" "line" (.int (l : Int))
          | .ok p => .ok p.d), g)
        by_cases q : cs.length ≠ ns.length ∨ 36 < prodZ cs
        · rw [if_pos q]
          show runX 8 _ _ g = some (Rx.xc "BadLine" "line" (.int ((i + 2 : Nat) : Int)), g)
          rw [c2]
          clear n2 c1 c2 c3 cc hz hl wa hc hcs
          generalize RL R = RD at *
          generalize tupS ns = TN at *
          generalize tupS ms = TM at *
          generalize (ms.length : Int) = ML at *
          generalize (i : Int) + 1 = I1 at *
          generalize cs.map D.int = CM at *
          generalize tupI cs = TC at *
          generalize (cs.length : Int) = CL at *
          generalize (ns.length : Int) = NL at *
          generalize prodZ cs = PZ at *
          by_cases qa : cs.length = ns.length
          · rw [decide_eq_true qa] at ne1
            rw [decide_eq_true (q.resolve_left fun h => h qa)] at g36
            simp -implicitDefEqProofs [runX, slots0, ct, lm, g4, ri, ad1, n1, it, mf, lc, lnS, ne1, g36, ad2]
          · rw [decide_eq_false qa] at ne1
            simp -implicitDefEqProofs [runX, slots0, ct, lm, g4, ri, ad1, n1, it, mf, lc, lnS, ne1, ad2]
        · rw [if_neg q]
          have qa : cs.length = ns.length := Classical.byContradiction fun h => q (.inl h)
          have qb : ¬ 36 < prodZ cs := fun h => q (.inr h)
          rw [decide_eq_true qa] at ne1
          rw [decide_eq_false qb] at g36
          cases hx : numsP R (i + 2) "next" 0 999999 with
          | none =>
            rw [hx] at n2
            have n2 : X_numbers_at [RL R, .int ((i : Int) + 2), .str "next", .int 0, .int 999999] g = some (.xc "BadLine" "line" (.int ((i : Int) + 2 + 1)), g) := n2
            show runX 8 _ _ g = some (Rx.xc "BadLine" "line" (.int ((i + 3 : Nat) : Int)), g)
            rw [c3]
            have e2 : (i : Int) + 2 + 1 = (i : Int) + 3 := by omega
            rw [e2] at n2
            clear c1 c2 c3 cc hz hl wa q hc hx hcs
            generalize RL R = RD at *
            generalize tupS ns = TN at *
            generalize tupS ms = TM at *
            generalize (ms.length : Int) = ML at *
            generalize (i : Int) + 1 = I1 at *
            generalize (i : Int) + 2 = I2 at *
            generalize cs.map D.int = CM at *
            generalize tupI cs = TC at *
            generalize (cs.length : Int) = CL at *
            generalize (ns.length : Int) = NL at *
            generalize prodZ cs = PZ at *
            simp -implicitDefEqProofs [runX, slots0, ct, lm, g4, ri, ad1, n1, it, mf, lc, lnS, ne1, g36, ad2, n2]
          | some xs =>
            rw [hx] at n2
            have n2 : X_numbers_at [RL R, .int ((i : Int) + 2), .str "next", .int 0, .int 999999] g = some (.ok (tupI xs), g) := n2
            have lx : lenD [tupI xs] = some (.int xs.length) := by
              show some (D.int ((xs.map D.int).length : Int)) = _
              rw [List.length_map]
            have ne2 := neD_int xs.length (prodZ cs)
            have z3 : ∀ x : D, szD 3 x = some x := fun x => if_pos (by omega)
            have pd : D.tup [tupS ms, tupI cs, tupI xs] = (⟨ms, cs, xs⟩ : Place).d := rfl
            show runX 8 _ _ g = some ((match (if (xs.length : Int) ≠ prodZ cs then Except.error (i + 3) else .ok (⟨ms, cs, xs⟩ : Place)) with
              | .error l => Rx.xc "BadLine" "line" (.int (l : Int))
              | .ok p => .ok p.d), g)
            by_cases qx : (xs.length : Int) = prodZ cs
            · rw [if_neg (fun h => h qx)]
              rw [decide_eq_true qx] at ne2
              show runX 8 _ _ g = some (Rx.ok (⟨ms, cs, xs⟩ : Place).d, g)
              rw [← pd]
              clear c1 c2 c3 cc hz hl wa q hc hx hcs pd qx
              generalize RL R = RD at *
              generalize tupS ns = TN at *
              generalize tupS ms = TM at *
              generalize (ms.length : Int) = ML at *
              generalize (i : Int) + 1 = I1 at *
              generalize (i : Int) + 2 = I2 at *
              generalize cs.map D.int = CM at *
              generalize tupI cs = TC at *
              generalize tupI xs = TX at *
              generalize (cs.length : Int) = CL at *
              generalize (xs.length : Int) = XL at *
              generalize (ns.length : Int) = NL at *
              generalize prodZ cs = PZ at *
              simp -implicitDefEqProofs [runX, slots0, ct, lm, g4, ri, ad1, n1, it, mf, lc, lnS, ne1, g36, ad2, n2, lx, ne2, z3]
            · rw [if_pos qx]
              rw [decide_eq_false qx] at ne2
              show runX 8 _ _ g = some (Rx.xc "BadLine" "line" (.int ((i + 3 : Nat) : Int)), g)
              rw [c3]
              clear c1 c2 c3 cc hz hl wa q hc hx hcs pd qx
              generalize RL R = RD at *
              generalize tupS ns = TN at *
              generalize tupS ms = TM at *
              generalize (ms.length : Int) = ML at *
              generalize (i : Int) + 1 = I1 at *
              generalize (i : Int) + 2 = I2 at *
              generalize cs.map D.int = CM at *
              generalize tupI cs = TC at *
              generalize tupI xs = TX at *
              generalize (cs.length : Int) = CL at *
              generalize (xs.length : Int) = XL at *
              generalize (ns.length : Int) = NL at *
              generalize prodZ cs = PZ at *
              simp -implicitDefEqProofs [runX, slots0, ct, lm, g4, ri, ad1, n1, it, mf, lc, lnS, ne1, g36, ad2, n2, lx, ne2, ad3]
end L_k76
end
section
set_option Elab.async false
set_option linter.all false
set_option maxRecDepth 100000
set_option maxHeartbeats 4000000
set_option autoImplicit false
namespace L_k76
open PySem PD
/-! ### all places -/
def loopP (R : Rw) (n : Nat) : Nat → Nat → List Place → Except Nat (List Place × Nat)
  | 0, i, ps => .ok (ps, i)
  | f + 1, i, ps => if (behP R i "place").isSome = true ∧ ps.length < 10 then match placeP R i n with
      | .error l => .error l
      | .ok p => loopP R n f (i + 3) (ps ++ [p])
    else .ok (ps, i)
def cdA : T := (tAnd (tCmp ltD (eVar 3) (eBi lenD (aCons (eVar 0) aNil))) (tAnd (tCmp notND (eIx (eVar 0) (eVar 3)) (eC .non)) (tAnd (tCmp eqD (eIx (eIx (eVar 0) (eVar 3)) (eC (.int 0))) (eC (.str "place"))) (tCmp ltD (eBi lenD (aCons (eOwn 2) aNil)) (eC (.int 10))))))
def bdA : S := (sSeq (sAppX 2 X_place_at (aCons (eVar 0) (aCons (eVar 3) (aCons (eVar 1) aNil)))) (sAug 3 (eC (.int 3))))
theorem eqD_strs' (x y : Str) : eqD (.str x) (.str y) = some (decide (x = y)) := by rw [eqD_of rfl rfl, eqq_str]
theorem cd_any {R : Rw} (hR : RT R) (i : Nat) (x1 : Option LV) (P : List D) (g : G) : cdA [some (.d (RL R)), x1, some (.ol P), some (.d (.int (i : Int)))] g = some ((behP R i "place").isSome && decide (P.length < 10), g) := by
  have ln := len_R R
  have lt : ltD (.int (i : Int)) (.int (R.length : Int)) = some (decide (i < R.length)) := by
    show some (decide ((i : Int) < (R.length : Int))) = _
    congr 1
    exact decide_eq_decide.mpr (by omega)
  have lo : lenD [.lst P] = some (.int P.length) := rfl
  have l10 : ltD (.int (P.length : Int)) (.int 10) = some (decide (P.length < 10)) := by
    show some (decide ((P.length : Int) < 10)) = _
    congr 1
    exact decide_eq_decide.mpr (by omega)
  unfold behP
  by_cases hi : i < R.length
  · have hi2 : R[i]? = some R[i] := List.getElem?_eq_getElem hi
    have ix := row_ixO hi2 g
    rw [decide_eq_true hi] at lt
    rw [hi2]
    cases hr : R[i] with
    | none =>
      rw [hr] at ix
      have ix : ixD g (RL R) (.int (i : Int)) = some .non := ix
      have n1 : notND .non .non = some false := rfl
      show _ = some (false && decide (P.length < 10), g)
      generalize RL R = RD at *
      generalize (R.length : Int) = LN at *
      simp -implicitDefEqProofs [cdA, ln, lt, ix, n1]
    | some ws =>
      rw [hr] at ix
      have hm : some ws ∈ R := by rw [← hr]; exact List.getElem_mem hi
      cases ws with
      | nil => exact absurd rfl (hR.ws [] hm).1
      | cons v ws =>
        have ix : ixD g (RL R) (.int (i : Int)) = some (.lst ((v :: ws).map .str)) := ix
        have hd := row_hd v ws g
        have n1 : notND (.lst ((v :: ws).map .str)) .non = some true := rfl
        have ne := eqD_strs' v "place"
        show _ = some ((if v = "place" then some ws else none).isSome && decide (P.length < 10), g)
        generalize D.lst ((v :: ws).map .str) = RW at *
        generalize RL R = RD at *
        generalize (R.length : Int) = LN at *
        generalize decide (P.length < 10) = B10 at *
        generalize (P.length : Int) = PL at *
        by_cases q : v = "place"
        · rw [decide_eq_true q] at ne
          rw [if_pos q]
          simp -implicitDefEqProofs [cdA, ln, lt, ix, n1, hd, ne, lo, l10, lAt]
        · rw [decide_eq_false q] at ne
          rw [if_neg q]
          simp -implicitDefEqProofs [cdA, ln, lt, ix, n1, hd, ne]
  · rw [decide_eq_false hi] at lt
    rw [List.getElem?_eq_none (by omega)]
    show _ = some (false && decide (P.length < 10), g)
    generalize RL R = RD at *
    generalize (R.length : Int) = LN at *
    simp -implicitDefEqProofs [cdA, ln, lt]
theorem while_any {R : Rw} (hR : RT R) {ns : List Str} {g : G} : ∀ (m i : Nat) (ps : List Place), 10 - ps.length < m → ps.length ≤ 10 → ∃ ρ',
    whileL cdA bdA m [some (.d (RL R)), some (.d (tupS ns)), some (.ol (ps.map Place.d)), some (.d (.int (i : Int)))] g
      = some (match loopP R ns.length m i ps with
        | .error l => .xc "BadLine" "line" (.int (l : Int)) ρ'
        | .ok q => .nx [some (.d (RL R)), some (.d (tupS ns)), some (.ol (q.1.map Place.d)), some (.d (.int (q.2 : Int)))], g)
  | 0, i, ps, h, _ => absurd h (by omega)
  | m + 1, i, ps, h, hl => by
    have sz := sizeLine_eq
    have cd := cd_any hR i (some (.d (tupS ns))) (ps.map Place.d) g
    rw [List.length_map] at cd
    unfold loopP
    by_cases q : (behP R i "place").isSome = true ∧ ps.length < 10
    · rw [if_pos q]
      rw [q.1, decide_eq_true q.2] at cd
      have pa := placeAt_any hR i ns g
      unfold exX at pa
      cases hp : placeP R i ns.length with
      | error l =>
        rw [hp] at pa
        have pa : X_place_at [RL R, .int (i : Int), tupS ns] g = some (.xc "BadLine" "line" (.int (l : Int)), g) := pa
        refine ⟨[some (.d (RL R)), some (.d (tupS ns)), some (.ol (ps.map Place.d)), some (.d (.int (i : Int)))], ?_⟩
        rw [whileL_succ, cd]
        have hb : bdA [some (.d (RL R)), some (.d (tupS ns)), some (.ol (ps.map Place.d)), some (.d (.int (i : Int)))] g = some (.xc "BadLine" "line" (.int (l : Int)) [some (.d (RL R)), some (.d (tupS ns)), some (.ol (ps.map Place.d)), some (.d (.int (i : Int)))], g) := by
          generalize ps.map Place.d = PM at *
          generalize RL R = RD at *
          generalize tupS ns = TN at *
          simp -implicitDefEqProofs [bdA, pa, olAt]
        show ((bdA _ g).bind (weK cdA bdA m)) = _
        rw [hb]
        rfl
      | ok p =>
        rw [hp] at pa
        have pa : X_place_at [RL R, .int (i : Int), tupS ns] g = some (.ok p.d, g) := pa
        obtain ⟨ρ', e⟩ := while_any hR (ns := ns) (g := g) m (i + 3) (ps ++ [p]) (by simp only [List.length_append, List.length_singleton]; omega) (by simp only [List.length_append, List.length_singleton]; omega)
        refine ⟨ρ', ?_⟩
        rw [whileL_succ, cd]
        have zp : (ps.map Place.d).length < sizeLine := by rw [List.length_map]; omega
        have c3 : ((i + 3 : Nat) : Int) = (i : Int) + 3 := by omega
        have hb : bdA [some (.d (RL R)), some (.d (tupS ns)), some (.ol (ps.map Place.d)), some (.d (.int (i : Int)))] g = some (.nx [some (.d (RL R)), some (.d (tupS ns)), some (.ol ((ps ++ [p]).map Place.d)), some (.d (.int ((i + 3 : Nat) : Int)))], g) := by
          rw [c3, List.map_append, List.map_singleton]
          clear e
          generalize ps.map Place.d = PM at *
          generalize RL R = RD at *
          generalize tupS ns = TN at *
          generalize p.d = PD' at *
          simp -implicitDefEqProofs [bdA, pa, olAt, zp, setR]
        show ((bdA _ g).bind (weK cdA bdA m)) = _
        rw [hb]
        exact e
    · rw [if_neg q]
      refine ⟨[], ?_⟩
      have : ((behP R i "place").isSome && decide (ps.length < 10)) = false := by
        cases h1 : (behP R i "place").isSome with
        | false => rfl
        | true =>
          rw [Bool.true_and]
          exact decide_eq_false fun h2 => q ⟨h1, h2⟩
      rw [this] at cd
      rw [whileL_succ, cd]
      rfl
end L_k76
end
section
set_option Elab.async false
set_option linter.all false
set_option maxRecDepth 100000
set_option maxHeartbeats 4000000
set_option autoImplicit false
namespace L_k76
open PySem PD
def arenaP (R : Rw) : Except Nat (Arena × Nat) := match behP R 0 "players" with
  | none => .error 1
  | some ns => if ¬ (1 ≤ ns.length ∧ ns.length ≤ 4) ∨ risB ns = false then .error 1 else match placeP R 1 ns.length with
    | .error l => .error l
    | .ok p => match loopP R ns.length 12 4 [p] with
      | .error l => .error l
      | .ok q => .ok (⟨ns, q.1⟩, q.2)
def aoX (r : Except Nat (Arena × Nat)) : Rx := match r with
  | .error l => .xc "BadLine" "line" (.int (l : Int))
  | .ok q => .ok (.tup [q.1.d, .int (q.2 : Int)])
def cW0 : CM := cCall X_words_at (aCons (eVar 0) (aCons (eC (.int 0)) (aCons (eC (.str "players")) aNil)))
def cP1 : CM := cCall X_place_at (aCons (eVar 0) (aCons (eC (.int 1)) (aCons (eVar 1) aNil)))
theorem ao_eq : s_arena_of = (sSeq (sSetR 1 (cTh cW0 (eBi tupleD (aCons (fOk cW0) aNil))))
  (sSeq (sIf (tOr (tNot (tE (eChain leD leD (eC (.int 1)) (eBi lenD (aCons (eVar 1) aNil)) (eC (.int 4))))) (tNot (tE (eCall F_is_rising (aCons (eVar 1) aNil))))) (sRaise "BadLine" "line" (eC (.int 1))) sNil)
  (sSeq (sTh cP1 (sParV [2, 3] (vCons (vL (aSz (aCons (fOk cP1) aNil))) (vCons (vD (eC (.int 4))) vNil))))
  (sSeq (sWhile 12 cdA bdA)
  (sFrz 2 (sRet (eTup (aCons (eTup (aCons (eVar 1) (aCons (eBi tupleD (aCons (eVar 2) aNil)) aNil))) (aCons (eVar 3) aNil))))))))) := rfl
theorem arenaOf_any {R : Rw} (hR : RT R) (g : G) : X_arena_of [RL R] g = some (aoX (arenaP R), g) := by
  have sz := sizeLine_eq
  have wa := wordsAt_any hR 0 "players" g
  unfold wdX at wa
  unfold X_arena_of aoX arenaP
  rw [ao_eq]
  cases hb : behP R 0 "players" with
  | none =>
    rw [hb] at wa
    have wa : X_words_at [RL R, .int 0, .str "players"] g = some (.xc "BadLine" "line" (.int 1), g) := wa
    have cc : cW0 [some (.d (RL R)), none, none, none] g = some (.xc "BadLine" "line" (.int 1), g) := by
      unfold cW0
      generalize RL R = RD at *
      simp -implicitDefEqProofs [wa]
    have ct := cTh_xc (f := eBi tupleD (aCons (fOk cW0) aNil)) cc
    show runX 4 _ _ g = some (Rx.xc "BadLine" "line" (.int 1), g)
    generalize cTh cW0 (eBi tupleD (aCons (fOk cW0) aNil)) = CT at *
    generalize RL R = RD at *
    simp -implicitDefEqProofs [runX, slots0, ct]
  | some ns =>
    rw [hb] at wa
    have wa : X_words_at [RL R, .int 0, .str "players"] g = some (.ok (.lst (ns.map .str)), g) := wa
    obtain ⟨hl, hz⟩ := behP_rt hR hb
    have cc : cW0 [some (.d (RL R)), none, none, none] g = some (.ok (.lst (ns.map .str)), g) := by
      unfold cW0
      generalize RL R = RD at *
      simp -implicitDefEqProofs [wa]
    have ts : tupleD [.lst (ns.map .str)] = some (tupS ns) := rfl
    have ct : cTh cW0 (eBi tupleD (aCons (fOk cW0) aNil)) [some (.d (RL R)), none, none, none] g = some (.ok (tupS ns), g) := by
      rw [cTh_ok cc]
      have cf := fOk_ok cc
      generalize fOk cW0 = FO at *
      generalize RL R = RD at *
      simp -implicitDefEqProofs [cf, ts]
    have ln : lenD [tupS ns] = some (.int ns.length) := by
      show some (D.int ((ns.map D.str).length : Int)) = _
      rw [List.length_map]
    have l1 : leD (.int 1) (.int ns.length) = some (decide (1 ≤ ns.length)) := by
      show some (decide ((1 : Int) ≤ (ns.length : Int))) = _
      congr 1
      exact decide_eq_decide.mpr (by omega)
    have l2 : leD (.int ns.length) (.int 4) = some (decide (ns.length ≤ 4)) := by
      show some (decide ((ns.length : Int) ≤ (4 : Int))) = _
      congr 1
      exact decide_eq_decide.mpr (by omega)
    have ri : F_is_rising [tupS ns] g = some (.bl (risB ns), g) := isRising_any (by omega) hz g
    generalize cTh cW0 (eBi tupleD (aCons (fOk cW0) aNil)) = CT at *
    show runX 4 _ _ g = some ((match (if ¬ (1 ≤ ns.length ∧ ns.length ≤ 4) ∨ risB ns = false then Except.error 1 else match placeP R 1 ns.length with
      | .error l => .error l
      | .ok p => match loopP R ns.length 12 4 [p] with
        | .error l => .error l
        | .ok q => .ok ((⟨ns, q.1⟩ : Arena), q.2)) with
      | .error l => Rx.xc "BadLine" "line" (.int (l : Int))
      | .ok q => .ok (.tup [q.1.d, .int (q.2 : Int)])), g)
    by_cases q : ¬ (1 ≤ ns.length ∧ ns.length ≤ 4) ∨ risB ns = false
    · rw [if_pos q]
      show runX 4 _ _ g = some (Rx.xc "BadLine" "line" (.int 1), g)
      have q' : (decide (1 ≤ ns.length) && decide (ns.length ≤ 4) && risB ns) = false := by
        rcases q with q | q
        · by_cases h1 : 1 ≤ ns.length
          · rw [decide_eq_false (fun h2 => q ⟨h1, h2⟩), Bool.and_false, Bool.false_and]
          · rw [decide_eq_false h1, Bool.false_and, Bool.false_and]
        · rw [q, Bool.and_false]
      clear q hz hl cc wa
      generalize RL R = RD at *
      generalize tupS ns = TN at *
      generalize decide (1 ≤ ns.length) = B1 at *
      generalize decide (ns.length ≤ 4) = B2 at *
      generalize risB ns = B3 at *
      generalize (ns.length : Int) = NL at *
      generalize cdA = CD at *
      generalize bdA = BD at *
      cases B1 <;> cases B2 <;> cases B3 <;> first | (simp at q'; done) | simp -implicitDefEqProofs [runX, slots0, ct, ln, l1, l2, ri]
    · rw [if_neg q]
      have h1 : 1 ≤ ns.length ∧ ns.length ≤ 4 := Classical.byContradiction fun h => q (.inl h)
      have h3 : risB ns = true := by simpa using fun h => q (.inr h)
      rw [decide_eq_true h1.1] at l1
      rw [decide_eq_true h1.2] at l2
      rw [h3] at ri
      have pa := placeAt_any hR 1 ns g
      unfold exX at pa
      cases hp : placeP R 1 ns.length with
      | error l =>
        rw [hp] at pa
        have pa : X_place_at [RL R, .int 1, tupS ns] g = some (.xc "BadLine" "line" (.int (l : Int)), g) := pa
        have c1 : cP1 [some (.d (RL R)), some (.d (tupS ns)), none, none] g = some (.xc "BadLine" "line" (.int (l : Int)), g) := by
          unfold cP1
          generalize RL R = RD at *
          generalize tupS ns = TN at *
          simp -implicitDefEqProofs [pa]
        have st := sTh_xc (st := sParV [2, 3] (vCons (vL (aSz (aCons (fOk cP1) aNil))) (vCons (vD (eC (.int 4))) vNil))) c1
        show runX 4 _ _ g = some (Rx.xc "BadLine" "line" (.int (l : Int)), g)
        generalize sTh cP1 (sParV [2, 3] (vCons (vL (aSz (aCons (fOk cP1) aNil))) (vCons (vD (eC (.int 4))) vNil))) = ST at *
        clear q hz hl cc wa hp
        generalize RL R = RD at *
        generalize tupS ns = TN at *
        generalize (ns.length : Int) = NL at *
        generalize cdA = CD at *
        generalize bdA = BD at *
        simp -implicitDefEqProofs [runX, slots0, ct, ln, l1, l2, ri, st]
      | ok p =>
        rw [hp] at pa
        have pa : X_place_at [RL R, .int 1, tupS ns] g = some (.ok p.d, g) := pa
        have c1 : cP1 [some (.d (RL R)), some (.d (tupS ns)), none, none] g = some (.ok p.d, g) := by
          unfold cP1
          generalize RL R = RD at *
          generalize tupS ns = TN at *
          simp -implicitDefEqProofs [pa]
        have st : sTh cP1 (sParV [2, 3] (vCons (vL (aSz (aCons (fOk cP1) aNil))) (vCons (vD (eC (.int 4))) vNil))) [some (.d (RL R)), some (.d (tupS ns)), none, none] g = some (.nx [some (.d (RL R)), some (.d (tupS ns)), some (.ol [p.d]), some (.d (.int 4))], g) := by
          rw [sTh_ok c1]
          have cf := fOk_ok c1
          have z1 : (1 : Nat) ≤ sizeLine := by omega
          generalize fOk cP1 = FO at *
          generalize RL R = RD at *
          generalize tupS ns = TN at *
          simp -implicitDefEqProofs [cf, z1, setLs]
        generalize sTh cP1 (sParV [2, 3] (vCons (vL (aSz (aCons (fOk cP1) aNil))) (vCons (vD (eC (.int 4))) vNil))) = ST at *
        obtain ⟨ρ', wh⟩ := while_any hR (ns := ns) (g := g) 12 4 [p] (by simp) (by simp)
        have wh : whileL cdA bdA 12 [some (.d (RL R)), some (.d (tupS ns)), some (.ol [p.d]), some (.d (.int 4))] g = _ := wh
        show runX 4 _ _ g = some ((match (match loopP R ns.length 12 4 [p] with
          | .error l => Except.error l
          | .ok q => .ok ((⟨ns, q.1⟩ : Arena), q.2)) with
          | .error l => Rx.xc "BadLine" "line" (.int (l : Int))
          | .ok q => .ok (.tup [q.1.d, .int (q.2 : Int)])), g)
        cases hq : loopP R ns.length 12 4 [p] with
        | error l =>
          rw [hq] at wh
          have wh : whileL cdA bdA 12 [some (.d (RL R)), some (.d (tupS ns)), some (.ol [p.d]), some (.d (.int 4))] g = some (.xc "BadLine" "line" (.int (l : Int)) ρ', g) := wh
          show runX 4 _ _ g = some (Rx.xc "BadLine" "line" (.int (l : Int)), g)
          clear q hz hl cc wa hp c1 pa
          generalize RL R = RD at *
          generalize tupS ns = TN at *
          generalize (ns.length : Int) = NL at *
          generalize cdA = CD at *
          generalize bdA = BD at *
          simp -implicitDefEqProofs [runX, slots0, ct, ln, l1, l2, ri, st, wh]
        | ok r =>
          rw [hq] at wh
          have wh : whileL cdA bdA 12 [some (.d (RL R)), some (.d (tupS ns)), some (.ol [p.d]), some (.d (.int 4))] g = some (.nx [some (.d (RL R)), some (.d (tupS ns)), some (.ol (r.1.map Place.d)), some (.d (.int (r.2 : Int)))], g) := wh
          show runX 4 _ _ g = some (Rx.ok (.tup [(⟨ns, r.1⟩ : Arena).d, .int (r.2 : Int)]), g)
          have ea : D.tup [tupS ns, .tup (r.1.map Place.d)] = (⟨ns, r.1⟩ : Arena).d := rfl
          have tp : tupleD [.lst (r.1.map Place.d)] = some (.tup (r.1.map Place.d)) := rfl
          have z2 : ∀ x : D, szD 2 x = some x := fun x => if_pos (by omega)
          rw [← ea]
          clear q hz hl cc wa hp c1 pa ea hq
          generalize r.1.map Place.d = PM at *
          generalize RL R = RD at *
          generalize tupS ns = TN at *
          generalize (ns.length : Int) = NL at *
          generalize cdA = CD at *
          generalize bdA = BD at *
          simp -implicitDefEqProofs [runX, slots0, ct, ln, l1, l2, ri, st, wh, tp, z2]
/-! ### next places that aren't there -/
def lateP (n : Nat) : Nat → List Place → Option Nat
  | _, [] => none
  | k, p :: ps => if (n : Int) ≤ maxI p.nexts then some (3 * k + 4) else lateP n (k + 1) ps
theorem maxL_tup {xs : List Int} (h : xs ≠ []) : maxLD [tupI xs] = some (.int (maxI xs)) := by
  show (intsD (xs.map D.int)).bind (fun ns => if ns = [] then none else some (D.int (maxI ns))) = _
  rw [intsD_map, Option.bind_some, if_neg h]
noncomputable def nnB : S := (sIf (tCmp geD (eBi maxLD (aCons (eVar 4) aNil)) (eBi lenD (aCons (eIx (eVar 0) (eC (.int 1))) aNil))) (sRaise "BadLine" "line" (eOp addD (eOp dMul (eC (.int 3)) (eVar 1)) (eC (.int 4)))) sNil)
theorem a_ix1 (a : Arena) (g : G) : ixD g a.d (.int 1) = some (.tup (a.places.map Place.d)) := rfl
theorem nn_for {a : Arena} {g : G} : ∀ (ps : List Place) (k : Nat) (o1 o2 o3 o4 : Option LV), (∀ p ∈ ps, p.nexts ≠ []) → ∃ ρ',
    forL (bTup (bsCons (bName 1) (bsCons (bTup (bsCons (bName 2) (bsCons (bName 3) (bsCons (bName 4) bsNil)))) bsNil))) nnB (enumL k (ps.map Place.d)) [some (.d a.d), o1, o2, o3, o4] g
      = some (match lateP a.places.length k ps with
        | some l => .xc "BadLine" "line" (.int (l : Int)) ρ'
        | none => .nx ρ', g)
  | [], k, o1, o2, o3, o4, _ => ⟨_, rfl⟩
  | p :: ps, k, o1, o2, o3, o4, h => by
    have hp := h p List.mem_cons_self
    have bt : bTup (bsCons (bName 1) (bsCons (bTup (bsCons (bName 2) (bsCons (bName 3) (bsCons (bName 4) bsNil)))) bsNil)) (D.tup [D.int k, p.d]) [some (.d a.d), o1, o2, o3, o4] = some [some (.d a.d), some (.d (.int k)), some (.d (tupS p.marks)), some (.d (tupI p.counts)), some (.d (tupI p.nexts))] := rfl
    have mx := maxL_tup hp
    have i1 := a_ix1 a g
    have ln : lenD [.tup (a.places.map Place.d)] = some (.int a.places.length) := by
      show some (D.int ((a.places.map Place.d).length : Int)) = _
      rw [List.length_map]
    have ge : geD (.int (maxI p.nexts)) (.int a.places.length) = some (decide ((a.places.length : Int) ≤ maxI p.nexts)) := rfl
    show ∃ ρ', forL _ nnB (D.tup [.int k, p.d] :: enumL (k + 1) (ps.map Place.d)) _ g = _
    unfold lateP
    rw [forL_cons, bt, Option.bind_some]
    by_cases q : (a.places.length : Int) ≤ maxI p.nexts
    · rw [decide_eq_true q] at ge
      rw [if_pos q]
      refine ⟨[some (.d a.d), some (.d (.int k)), some (.d (tupS p.marks)), some (.d (tupI p.counts)), some (.d (tupI p.nexts))], ?_⟩
      have c4 : (((3 * k + 4 : Nat)) : Int) = 3 * (k : Int) + 4 := by omega
      have mm : dMul (.int 3) (.int (k : Int)) = some (.int (3 * (k : Int))) := by
        have : mulC 3 (k : Int) = true := by simp [mulC]
        simp [dMul, intD, this]
      have hb : nnB [some (.d a.d), some (.d (.int k)), some (.d (tupS p.marks)), some (.d (tupI p.counts)), some (.d (tupI p.nexts))] g = some (.xc "BadLine" "line" (.int ((3 * k + 4 : Nat) : Int)) [some (.d a.d), some (.d (.int k)), some (.d (tupS p.marks)), some (.d (tupI p.counts)), some (.d (tupI p.nexts))], g) := by
        rw [c4]
        generalize D.tup (a.places.map Place.d) = TP at *
        generalize tupI p.nexts = TX at *
        generalize tupI p.counts = TC at *
        generalize tupS p.marks = TM at *
        generalize a.d = AD at *
        generalize (a.places.length : Int) = AL at *
        unfold nnB
        simp -implicitDefEqProofs [mx, i1, ln, ge, mm]
      rw [hb]
      rfl
    · rw [decide_eq_false q] at ge
      rw [if_neg q]
      obtain ⟨ρ', e⟩ := nn_for (a := a) (g := g) ps (k + 1) (some (.d (.int k))) (some (.d (tupS p.marks))) (some (.d (tupI p.counts))) (some (.d (tupI p.nexts))) fun y hy => h y (List.mem_cons_of_mem _ hy)
      refine ⟨ρ', ?_⟩
      have hb : nnB [some (.d a.d), some (.d (.int k)), some (.d (tupS p.marks)), some (.d (tupI p.counts)), some (.d (tupI p.nexts))] g = some (.nx [some (.d a.d), some (.d (.int k)), some (.d (tupS p.marks)), some (.d (tupI p.counts)), some (.d (tupI p.nexts))], g) := by
        clear e
        generalize D.tup (a.places.map Place.d) = TP at *
        generalize tupI p.nexts = TX at *
        generalize tupI p.counts = TC at *
        generalize tupS p.marks = TM at *
        generalize a.d = AD at *
        generalize (a.places.length : Int) = AL at *
        unfold nnB
        simp -implicitDefEqProofs [mx, i1, ln, ge]
      rw [hb]
      exact e
theorem needNexts_any {a : Arena} (h : ∀ p ∈ a.places, p.nexts ≠ []) (g : G) : X_need_nexts [a.d] g = some (match lateP a.places.length 0 a.places with
    | some l => .xc "BadLine" "line" (.int (l : Int))
    | none => .ok .non, g) := by
  obtain ⟨ρ', e⟩ := nn_for (a := a) (g := g) a.places 0 none none none none h
  have i1 := a_ix1 a g
  have en : enumM [.tup (a.places.map Place.d)] = some (enumL 0 (a.places.map Place.d)) := rfl
  have se : s_need_nexts = (sFor (aIt enumM (aCons (eIx (eVar 0) (eC (.int 1))) aNil)) (bTup (bsCons (bName 1) (bsCons (bTup (bsCons (bName 2) (bsCons (bName 3) (bsCons (bName 4) bsNil)))) bsNil))) nnB) := rfl
  unfold X_need_nexts
  rw [se]
  generalize nnB = NB at *
  generalize enumL 0 (a.places.map Place.d) = EL at *
  generalize D.tup (a.places.map Place.d) = TP at *
  generalize a.d = AD at *
  generalize lateP a.places.length 0 a.places = LP at *
  cases LP with
  | none =>
    have e : forL (bTup (bsCons (bName 1) (bsCons (bTup (bsCons (bName 2) (bsCons (bName 3) (bsCons (bName 4) bsNil)))) bsNil))) NB EL [some (.d AD), none, none, none, none] g = some (.nx ρ', g) := e
    simp -implicitDefEqProofs [runX, slots0, i1, en, e]
  | some l =>
    have e : forL (bTup (bsCons (bName 1) (bsCons (bTup (bsCons (bName 2) (bsCons (bName 3) (bsCons (bName 4) bsNil)))) bsNil))) NB EL [some (.d AD), none, none, none, none] g = some (.xc "BadLine" "line" (.int (l : Int)) ρ', g) := e
    simp -implicitDefEqProofs [runX, slots0, i1, en, e]
/-! ### what is read -/
structure PlQ (n : Nat) (p : Place) : Prop where
  mr : risB p.marks = true
  ml : p.marks.length ≤ 4
  cl : p.counts.length = n
  cn : ∀ c ∈ p.counts, 1 ≤ c ∧ c ≤ 3
  pz : prodZ p.counts ≤ 36
  nl : (p.nexts.length : Int) = prodZ p.counts
  nx : ∀ x ∈ p.nexts, 0 ≤ x ∧ x ≤ 999999
theorem placeP_ok {R : Rw} {i n : Nat} {p : Place} (h : placeP R i n = .ok p) : PlQ n p := by
  unfold placeP at h
  cases hb : behP R i "place" with
  | none => rw [hb] at h; cases h
  | some ms =>
    rw [hb] at h
    have h : (if 4 < ms.length ∨ risB ms = false then Except.error (i + 1) else match numsP R (i + 1) "moves" 1 3 with
      | none => .error (i + 2)
      | some cs => if cs.length ≠ n ∨ 36 < prodZ cs then .error (i + 2) else match numsP R (i + 2) "next" 0 999999 with
        | none => .error (i + 3)
        | some xs => if (xs.length : Int) ≠ prodZ cs then .error (i + 3) else .ok (⟨ms, cs, xs⟩ : Place)) = .ok p := h
    by_cases q : 4 < ms.length ∨ risB ms = false
    · rw [if_pos q] at h; cases h
    · rw [if_neg q] at h
      cases hc : numsP R (i + 1) "moves" 1 3 with
      | none => rw [hc] at h; cases h
      | some cs =>
        rw [hc] at h
        have h : (if cs.length ≠ n ∨ 36 < prodZ cs then Except.error (i + 2) else match numsP R (i + 2) "next" 0 999999 with
          | none => .error (i + 3)
          | some xs => if (xs.length : Int) ≠ prodZ cs then .error (i + 3) else .ok (⟨ms, cs, xs⟩ : Place)) = .ok p := h
        by_cases q2 : cs.length ≠ n ∨ 36 < prodZ cs
        · rw [if_pos q2] at h; cases h
        · rw [if_neg q2] at h
          cases hx : numsP R (i + 2) "next" 0 999999 with
          | none => rw [hx] at h; cases h
          | some xs =>
            rw [hx] at h
            have h : (if (xs.length : Int) ≠ prodZ cs then Except.error (i + 3) else .ok (⟨ms, cs, xs⟩ : Place)) = .ok p := h
            by_cases q3 : (xs.length : Int) = prodZ cs
            · rw [if_neg (fun z => z q3)] at h
              cases h
              exact ⟨by simpa using fun z => q (.inr z), by show ms.length ≤ 4; have := fun z => q (.inl z); omega, by show cs.length = n; exact Classical.byContradiction fun z => q2 (.inl z), numsP_in hc, by show prodZ cs ≤ 36; have := fun z => q2 (.inr z); omega, q3, numsP_in hx⟩
            · rw [if_pos q3] at h; cases h
theorem PlQ.ne {n : Nat} {p : Place} (h : PlQ n p) : p.nexts ≠ [] := fun z => by
  have h1 := h.nl
  rw [z] at h1
  have := prodZ_pos (cs := p.counts) fun c hc => (h.cn c hc).1
  simp at h1
  omega
theorem loopP_ok {R : Rw} {n : Nat} : ∀ (m i : Nat) (ps : List Place) {qs : List Place} {j : Nat}, loopP R n m i ps = .ok (qs, j) → (∀ p ∈ ps, PlQ n p) → ps.length ≤ 10 → (∀ p ∈ qs, PlQ n p) ∧ qs.length ≤ 10 ∧ ps.length ≤ qs.length
  | 0, i, ps, qs, j, h, hp, hl => by cases h; exact ⟨hp, hl, Nat.le_refl _⟩
  | m + 1, i, ps, qs, j, h, hp, hl => by
    unfold loopP at h
    by_cases q : (behP R i "place").isSome = true ∧ ps.length < 10
    · rw [if_pos q] at h
      cases hq : placeP R i n with
      | error l => rw [hq] at h; cases h
      | ok p =>
        rw [hq] at h
        obtain ⟨h1, h2, h3⟩ := loopP_ok m (i + 3) (ps ++ [p]) h (fun y hy => by
          rcases List.mem_append.mp hy with hy | hy
          · exact hp y hy
          · rw [List.mem_singleton.mp hy]; exact placeP_ok hq) (by simp only [List.length_append, List.length_singleton]; omega)
        refine ⟨h1, h2, ?_⟩
        simp only [List.length_append, List.length_singleton] at h3
        omega
    · rw [if_neg q] at h
      cases h
      exact ⟨hp, hl, Nat.le_refl _⟩
structure ArQ (a : Arena) : Prop where
  nm : risB a.names = true
  n1 : 1 ≤ a.names.length
  n4 : a.names.length ≤ 4
  p1 : 1 ≤ a.places.length
  p10 : a.places.length ≤ 10
  pl : ∀ p ∈ a.places, PlQ a.names.length p
theorem arenaP_ok {R : Rw} {q : Arena × Nat} (h : arenaP R = .ok q) : ArQ q.1 := by
  unfold arenaP at h
  cases hb : behP R 0 "players" with
  | none => rw [hb] at h; cases h
  | some ns =>
    rw [hb] at h
    have h : (if ¬ (1 ≤ ns.length ∧ ns.length ≤ 4) ∨ risB ns = false then Except.error 1 else match placeP R 1 ns.length with
      | .error l => .error l
      | .ok p => match loopP R ns.length 12 4 [p] with
        | .error l => .error l
        | .ok q => .ok ((⟨ns, q.1⟩ : Arena), q.2)) = .ok q := h
    by_cases c : ¬ (1 ≤ ns.length ∧ ns.length ≤ 4) ∨ risB ns = false
    · rw [if_pos c] at h; cases h
    · rw [if_neg c] at h
      have h1 : 1 ≤ ns.length ∧ ns.length ≤ 4 := Classical.byContradiction fun z => c (.inl z)
      have h3 : risB ns = true := by simpa using fun z => c (.inr z)
      cases hp : placeP R 1 ns.length with
      | error l => rw [hp] at h; cases h
      | ok p =>
        rw [hp] at h
        have h : (match loopP R ns.length 12 4 [p] with
          | .error l => Except.error l
          | .ok q => .ok ((⟨ns, q.1⟩ : Arena), q.2)) = .ok q := h
        cases hq : loopP R ns.length 12 4 [p] with
        | error l => rw [hq] at h; cases h
        | ok r =>
          rw [hq] at h
          cases h
          obtain ⟨a1, a2, a3⟩ := loopP_ok 12 4 [p] (qs := r.1) (j := r.2) hq (fun y hy => by rw [List.mem_singleton.mp hy]; exact placeP_ok hp) (by simp)
          exact ⟨h3, h1.1, h1.2, by simpa using a3, a2, a1⟩
def readP (x : Str) : Except Nat Arena := match arenaP (rowsT x) with
  | .error l => .error l
  | .ok q => if q.2 < (rowsT x).length then .error (q.2 + 1) else match lateP q.1.places.length 0 q.1.places with
    | some l => .error l
    | none => .ok q.1
def rdX (r : Except Nat Arena) : Rx := match r with
  | .error l => .xc "BadLine" "line" (.int (l : Int))
  | .ok a => .ok a.d
def cAo : CM := cCall X_arena_of (aCons (eVar 1) aNil)
theorem arenaIn_any {x : Str} (hx : x.length ≤ 1000000) (g : G) : X_arena_in [.str x] g = some (rdX (readP x), g) := by
  have hR := rowsT_rt hx
  have ro := rowsOf_any hx g
  have ar : X_all_rows [.str x] g = some (.ok (RL (rowsT x)), g) := by
    have i1 : isiD .str (.str x) = some true := rfl
    unfold X_all_rows
    generalize RL (rowsT x) = RD at *
    simp -implicitDefEqProofs [runX, s_all_rows, slots0, i1, ro]
  have ao := arenaOf_any hR g
  have ln := len_R (rowsT x)
  have hA : ∀ q, arenaP (rowsT x) = .ok q → ∀ p ∈ q.1.places, p.nexts ≠ [] := fun q hq p hp => ((arenaP_ok hq).pl p hp).ne
  have se : s_arena_in = (sSeq (sSetR 1 (cCall X_all_rows (aCons (eVar 0) aNil)))
  (sSeq (sTh cAo (sAsg (bTup (bsCons (bName 2) (bsCons (bName 3) bsNil))) (fOk cAo)))
  (sSeq (sIf (tCmp ltD (eVar 3) (eBi lenD (aCons (eVar 1) aNil))) (sRaise "BadLine" "line" (eOp addD (eVar 3) (eC (.int 1)))) sNil)
  (sSeq (sExprX X_need_nexts (aCons (eVar 2) aNil))
  (sRet (eVar 2)))))) := rfl
  unfold rdX readP X_arena_in
  rw [se]
  unfold aoX at ao
  generalize rowsT x = R at *
  generalize arenaP R = AP at *
  cases AP with
  | error l =>
    have ao : X_arena_of [RL R] g = some (.xc "BadLine" "line" (.int (l : Int)), g) := ao
    have cc : cAo [some (.d (.str x)), some (.d (RL R)), none, none] g = some (.xc "BadLine" "line" (.int (l : Int)), g) := by
      unfold cAo
      generalize RL R = RD at *
      simp -implicitDefEqProofs [ao]
    have st := sTh_xc (st := sAsg (bTup (bsCons (bName 2) (bsCons (bName 3) bsNil))) (fOk cAo)) cc
    show runX 4 _ _ g = some (Rx.xc "BadLine" "line" (.int (l : Int)), g)
    generalize sTh cAo (sAsg (bTup (bsCons (bName 2) (bsCons (bName 3) bsNil))) (fOk cAo)) = ST at *
    generalize RL R = RD at *
    simp -implicitDefEqProofs [runX, slots0, ar, st]
  | ok q =>
    have ao : X_arena_of [RL R] g = some (.ok (.tup [q.1.d, .int (q.2 : Int)]), g) := ao
    have cc : cAo [some (.d (.str x)), some (.d (RL R)), none, none] g = some (.ok (.tup [q.1.d, .int (q.2 : Int)]), g) := by
      unfold cAo
      generalize RL R = RD at *
      simp -implicitDefEqProofs [ao]
    have st : sTh cAo (sAsg (bTup (bsCons (bName 2) (bsCons (bName 3) bsNil))) (fOk cAo)) [some (.d (.str x)), some (.d (RL R)), none, none] g = some (.nx [some (.d (.str x)), some (.d (RL R)), some (.d q.1.d), some (.d (.int (q.2 : Int)))], g) := by
      rw [sTh_ok cc]
      have cf := fOk_ok cc
      have bt : bTup (bsCons (bName 2) (bsCons (bName 3) bsNil)) (D.tup [q.1.d, D.int (q.2 : Int)]) [some (.d (.str x)), some (.d (RL R)), none, none] = some [some (.d (.str x)), some (.d (RL R)), some (.d q.1.d), some (.d (.int (q.2 : Int)))] := rfl
      generalize fOk cAo = FO at *
      generalize RL R = RD at *
      generalize q.1.d = AD at *
      simp -implicitDefEqProofs [cf, bt]
    generalize sTh cAo (sAsg (bTup (bsCons (bName 2) (bsCons (bName 3) bsNil))) (fOk cAo)) = ST at *
    have lt : ltD (.int (q.2 : Int)) (.int (R.length : Int)) = some (decide (q.2 < R.length)) := by
      show some (decide ((q.2 : Int) < (R.length : Int))) = _
      congr 1
      exact decide_eq_decide.mpr (by omega)
    show runX 4 _ _ g = some ((match (if q.2 < R.length then Except.error (q.2 + 1) else match lateP q.1.places.length 0 q.1.places with
      | some l => .error l
      | none => .ok q.1) with
      | .error l => Rx.xc "BadLine" "line" (.int (l : Int))
      | .ok a => .ok a.d), g)
    by_cases c : q.2 < R.length
    · rw [decide_eq_true c] at lt
      rw [if_pos c]
      have c1 : ((q.2 + 1 : Nat) : Int) = (q.2 : Int) + 1 := by omega
      show runX 4 _ _ g = some (Rx.xc "BadLine" "line" (.int ((q.2 + 1 : Nat) : Int)), g)
      rw [c1]
      generalize RL R = RD at *
      generalize q.1.d = AD at *
      generalize (R.length : Int) = LN at *
      simp -implicitDefEqProofs [runX, slots0, ar, st, ln, lt]
    · rw [decide_eq_false c] at lt
      rw [if_neg c]
      have nn := needNexts_any (a := q.1) (hA q rfl) g
      generalize lateP q.1.places.length 0 q.1.places = LP at *
      cases LP with
      | some l =>
        have nn : X_need_nexts [q.1.d] g = some (.xc "BadLine" "line" (.int (l : Int)), g) := nn
        show runX 4 _ _ g = some (Rx.xc "BadLine" "line" (.int (l : Int)), g)
        generalize RL R = RD at *
        generalize q.1.d = AD at *
        generalize (R.length : Int) = LN at *
        simp -implicitDefEqProofs [runX, slots0, ar, st, ln, lt, nn]
      | none =>
        have nn : X_need_nexts [q.1.d] g = some (.ok .non, g) := nn
        show runX 4 _ _ g = some (Rx.ok q.1.d, g)
        generalize RL R = RD at *
        generalize q.1.d = AD at *
        generalize (R.length : Int) = LN at *
        simp -implicitDefEqProofs [runX, slots0, ar, st, ln, lt, nn]
end L_k76
end
section
set_option Elab.async false
set_option linter.all false
set_option maxRecDepth 100000
set_option maxHeartbeats 4000000
set_option autoImplicit false
namespace L_k76
open PySem PD
/-! ### the law's reading -/
def bhO (R : Rw) (i : Nat) (w : Str) : List (List Str) := match behP R i w with
  | none => []
  | some ws => [ws]
def llD (l : List (List Str)) : D := .lst (l.map fun ws => .lst (ws.map .str))
theorem lawBehind_any {R : Rw} (hR : RT R) (i : Nat) (w : Str) (g : G) : F__law_behind [RL R, .int (i : Int), .str w] g = some (llD (bhO R i w), g) := by
  have sz := sizeLine_eq
  have ln := len_R R
  have ge := geD_nat i R.length
  have z0 : ∀ x : D, szD 0 x = some x := fun x => if_pos (by omega)
  have z1 : ∀ x : D, szD 1 x = some x := fun x => if_pos (by omega)
  refine runF_rt ?_
  unfold bhO behP
  by_cases hi : i < R.length
  · have hi2 : R[i]? = some R[i] := List.getElem?_eq_getElem hi
    have ix := row_ixO hi2 g
    rw [decide_eq_false (by omega)] at ge
    rw [hi2]
    cases hr : R[i] with
    | none =>
      rw [hr] at ix
      have ix : ixD g (RL R) (.int (i : Int)) = some .non := ix
      have n1 : isND .non .non = some true := rfl
      show _ = some (Fl.rt (.lst []), g)
      generalize RL R = RD at *
      generalize (R.length : Int) = LN at *
      simp -implicitDefEqProofs [s__law_behind, slots0, ln, ge, ix, n1, z0]
    | some ws =>
      rw [hr] at ix
      have hm : some ws ∈ R := by rw [← hr]; exact List.getElem_mem hi
      cases ws with
      | nil => exact absurd rfl (hR.ws [] hm).1
      | cons v ws =>
        have ix : ixD g (RL R) (.int (i : Int)) = some (.lst ((v :: ws).map .str)) := ix
        have hd := row_hd v ws g
        have tl := row_tl v ws
        have n1 : isND (.lst ((v :: ws).map .str)) .non = some false := rfl
        have ne := neD_strs v w
        show _ = some (Fl.rt (llD (match (if v = w then some ws else none) with
          | none => []
          | some ws => [ws])), g)
        by_cases q : v = w
        · rw [decide_eq_true q] at ne
          rw [if_pos q]
          show _ = some (Fl.rt (.lst [.lst (ws.map .str)]), g)
          generalize D.lst ((v :: ws).map .str) = RW at *
          generalize D.lst (ws.map .str) = RT' at *
          generalize RL R = RD at *
          generalize (R.length : Int) = LN at *
          simp -implicitDefEqProofs [s__law_behind, slots0, ln, ge, ix, n1, hd, tl, ne, z1]
        · rw [decide_eq_false q] at ne
          rw [if_neg q]
          show _ = some (Fl.rt (.lst []), g)
          generalize D.lst ((v :: ws).map .str) = RW at *
          generalize RL R = RD at *
          generalize (R.length : Int) = LN at *
          simp -implicitDefEqProofs [s__law_behind, slots0, ln, ge, ix, n1, hd, tl, ne, z0]
  · rw [decide_eq_true (by omega)] at ge
    rw [List.getElem?_eq_none (by omega)]
    show _ = some (Fl.rt (.lst []), g)
    generalize RL R = RD at *
    generalize (R.length : Int) = LN at *
    simp -implicitDefEqProofs [s__law_behind, slots0, ln, ge, z0]
theorem ll_eq (l : List (List Str)) : eqD (llD l) (.lst []) = some (decide (l = [])) := by
  have c : cmpOk (llD l) = true := kdS.lst.lst.ok (by decide) l
  unfold llD at c ⊢
  rw [eqD_of c rfl, eqq_lst]
  cases l with
  | nil => rfl
  | cons x l => simp [eqqA]
theorem ll_ne (l : List (List Str)) : neD (llD l) (.lst []) = some (!decide (l = [])) := by
  have c : cmpOk (llD l) = true := kdS.lst.lst.ok (by decide) l
  unfold llD at c ⊢
  rw [neD_of c rfl, eqq_lst]
  cases l with
  | nil => rfl
  | cons x l => simp [eqqA]
/-! numbers -/
def niO (z : Str) : List Int := if numB z = true then [valI z] else []
def niD (z : Str) : D := .lst ((niO z).map .int)
theorem lawNumber_ni {w : Str} (h : w.length ≤ 1000000) (g : G) : F__law_number [.str w] g = some (niD w, g) := by
  rw [lawNumber_any h]
  unfold niD niO
  split <;> rfl
theorem kdN : Kd niD 1 := ⟨fun z => (kdI.lst).pu (niO z), fun z => (kdI.lst).de (niO z)⟩
theorem ni_eq (z : Str) : eqD (niD z) (.lst []) = some (!numB z) := by
  have c : cmpOk (niD z) = true := kdN.ok (by decide) z
  unfold niD at c ⊢
  rw [eqD_of c rfl, eqq_lst]
  unfold niO
  cases numB z <;> simp [eqqA]
theorem none_left1 {α : Type} {f : α → D} (l : List α) (p : α → Bool) (hf : Kd f 1) : neD (.lst ((l.filter fun x => !p x).map f)) (.lst []) = some (!l.all p) := by
  rw [neD_of (hf.lst.ok (by decide) _) (by decide), eqq_lst]
  congr 1
  congr 1
  induction l with
  | nil => rfl
  | cons x l ih =>
    rw [List.filter_cons, List.all_cons]
    cases hp : p x with
    | true => simpa using ih
    | false => simp [eqqA]
def lnO (R : Rw) (i : Nat) (w : Str) (lo hi many : Int) : List (List Int) := match numsP R i w lo hi with
  | none => []
  | some ns => if (ns.length : Int) = many then [ns] else []
def liD (l : List (List Int)) : D := .lst (l.map fun ns => .lst (ns.map .int))
theorem lawNumbers_any {R : Rw} (hR : RT R) (i : Nat) (w : Str) (lo hi many : Int) (g : G) : F__law_numbers [RL R, .int (i : Int), .str w, .int lo, .int hi, .int many] g = some (liD (lnO R i w lo hi many), g) := by
  have sz := sizeLine_eq
  have z0 : ∀ x : D, szD 0 x = some x := fun x => if_pos (by omega)
  have z1 : ∀ x : D, szD 1 x = some x := fun x => if_pos (by omega)
  have lb := lawBehind_any hR i w g
  have le := ll_eq (bhO R i w)
  unfold lnO numsP
  refine runF_rt ?_
  cases hb : behP R i w with
  | none =>
    have eb : bhO R i w = [] := by unfold bhO; rw [hb]
    rw [eb] at lb le
    rw [decide_eq_true rfl] at le
    show _ = some (Fl.rt (.lst []), g)
    generalize llD [] = L0 at *
    generalize RL R = RD at *
    simp -implicitDefEqProofs [s__law_numbers, slots0, lb, le, z0]
  | some ws =>
    have eb : bhO R i w = [ws] := by unfold bhO; rw [hb]
    rw [eb] at lb le
    rw [decide_eq_false (by simp)] at le
    obtain ⟨hl, hz⟩ := behP_rt hR hb
    have ix : ixD g (llD [ws]) (.int 0) = some (.lst (ws.map .str)) := rfl
    have ln : lenD [.lst (ws.map .str)] = some (.int ws.length) := by
      show some (D.int ((ws.map D.str).length : Int)) = _
      rw [List.length_map]
    have ne := neD_int ws.length many
    have it : itemsD (.lst (ws.map .str)) = some (ws.map .str) := rfl
    have e1 : ∀ x7, lcL (bName 8) tYesD (eCall F__law_number (aCons (eVar 8) aNil)) [some (.d (RL R)), some (.d (.int (i : Int))), some (.d (.str w)), some (.d (.int lo)), some (.d (.int hi)), some (.d (.int many)), some (.d (llD [ws])), x7, none] (ws.map .str) g = some (ws.map niD, g) := fun x7 =>
      lcL_on fun z hzm => ⟨_, rfl, by
        have n := lawNumber_ni (hz z hzm) g
        generalize RL R = RD at *
        generalize llD [ws] = LW at *
        simp -implicitDefEqProofs [setR, n]⟩
    have zl : (ws.map niD).length ≤ sizeLine := by rw [List.length_map]; omega
    have e2 : lcL (bName 8) (tOr (tCmp eqD (eVar 8) (eLst aNil)) (tNot (tE (eChain leD leD (eVar 3) (eIx (eVar 8) (eC (.int 0))) (eVar 4))))) (eVar 8) [some (.d (RL R)), some (.d (.int (i : Int))), some (.d (.str w)), some (.d (.int lo)), some (.d (.int hi)), some (.d (.int many)), some (.d (llD [ws])), some (.d (.lst (ws.map niD))), none] (ws.map niD) g = some (((ws.filter fun z => !okN lo hi z).map id).map niD, g) := by
      refine lc_typedF ws fun z hzm => ⟨_, rfl, ?_, fun _ => ?_⟩
      · have n := ni_eq z
        unfold okN
        cases hb : numB z with
        | false =>
          rw [hb] at n
          generalize RL R = RD at *
          generalize llD [ws] = LW at *
          generalize D.lst (ws.map niD) = LM at *
          generalize niD z = NZ at *
          simp -implicitDefEqProofs [setR, n, z0]
        | true =>
          rw [hb] at n
          have ixz : ixD g (niD z) (.int 0) = some (.int (valI z)) := by
            unfold niD niO
            rw [if_pos hb]
            rfl
          have l1 : leD (.int lo) (.int (valI z)) = some (decide (lo ≤ valI z)) := rfl
          have l2 : leD (.int (valI z)) (.int hi) = some (decide (valI z ≤ hi)) := rfl
          generalize RL R = RD at *
          generalize llD [ws] = LW at *
          generalize D.lst (ws.map niD) = LM at *
          generalize niD z = NZ at *
          generalize decide (lo ≤ valI z) = B1 at *
          generalize decide (valI z ≤ hi) = B2 at *
          generalize valI z = V at *
          cases B1 <;> cases B2 <;> simp -implicitDefEqProofs [setR, n, z0, ixz, l1, l2]
      · show _ = some (niD z, g)
        generalize RL R = RD at *
        generalize llD [ws] = LW at *
        generalize D.lst (ws.map niD) = LM at *
        generalize niD z = NZ at *
        simp -implicitDefEqProofs [setR]
    rw [List.map_id] at e2
    have nl := none_left1 ws (okN lo hi) kdN
    have zl2 : ((ws.filter fun z => !okN lo hi z).map niD).length ≤ sizeLine := by rw [List.length_map]; have := List.length_filter_le (fun z => !okN lo hi z) ws; omega
    have it2 : itemsD (.lst (ws.map niD)) = some (ws.map niD) := rfl
    show _ = some (Fl.rt (liD (match (if ws.all (okN lo hi) = true then some (ws.map valI) else none) with
      | none => []
      | some ns => if (ns.length : Int) = many then [ns] else [])), g)
    by_cases qm : (ws.length : Int) = many
    · rw [decide_eq_true qm] at ne
      by_cases q : ws.all (okN lo hi) = true
      · rw [if_pos q]
        rw [q] at nl
        show _ = some (Fl.rt (liD (if ((ws.map valI).length : Int) = many then [ws.map valI] else [])), g)
        rw [List.length_map, if_pos qm]
        show _ = some (Fl.rt (.lst [.lst ((ws.map valI).map .int)]), g)
        have e3 : lcL (bName 8) tYesD (eIx (eVar 8) (eC (.int 0))) [some (.d (RL R)), some (.d (.int (i : Int))), some (.d (.str w)), some (.d (.int lo)), some (.d (.int hi)), some (.d (.int many)), some (.d (llD [ws])), some (.d (.lst (ws.map niD))), none] (ws.map niD) g = some (ws.map fun z => .int (valI z), g) :=
          lcL_on fun z hzm => ⟨_, rfl, by
            have hb : numB z = true := by
              have := List.all_eq_true.mp q z hzm
              unfold okN at this
              rw [Bool.and_eq_true] at this
              exact this.1
            have ixz : ixD g (niD z) (.int 0) = some (.int (valI z)) := by
              unfold niD niO
              rw [if_pos hb]
              rfl
            generalize RL R = RD at *
            generalize llD [ws] = LW at *
            generalize D.lst (ws.map niD) = LM at *
            generalize niD z = NZ at *
            simp -implicitDefEqProofs [setR, ixz]⟩
        have em : (ws.map valI).map D.int = ws.map fun z => D.int (valI z) := by rw [List.map_map]; rfl
        rw [em]
        have zl3 : (ws.map fun z => D.int (valI z)).length ≤ sizeLine := by rw [List.length_map]; omega
        clear qm q em
        generalize (ws.map fun z => D.int (valI z)) = VM at *
        generalize ((ws.filter fun z => !okN lo hi z).map niD) = FM at *
        generalize ws.map niD = NM at *
        generalize D.lst (ws.map .str) = LWS at *
        generalize ws.map D.str = WM at *
        generalize llD [ws] = LW at *
        generalize RL R = RD at *
        generalize (ws.length : Int) = WL at *
        simp -implicitDefEqProofs [s__law_numbers, slots0, lb, le, z0, z1, ix, ln, ne, it, wipeR, e1, zl, it2, e2, zl2, nl, e3, zl3]
      · rw [if_neg q]
        have q : ws.all (okN lo hi) = false := by simpa using q
        rw [q] at nl
        show _ = some (Fl.rt (.lst []), g)
        clear qm q
        generalize ((ws.filter fun z => !okN lo hi z).map niD) = FM at *
        generalize ws.map niD = NM at *
        generalize D.lst (ws.map .str) = LWS at *
        generalize ws.map D.str = WM at *
        generalize llD [ws] = LW at *
        generalize RL R = RD at *
        generalize (ws.length : Int) = WL at *
        simp -implicitDefEqProofs [s__law_numbers, slots0, lb, le, z0, z1, ix, ln, ne, it, wipeR, e1, zl, it2, e2, zl2, nl]
    · rw [decide_eq_false qm] at ne
      have er : liD (match (if ws.all (okN lo hi) = true then some (ws.map valI) else none) with
        | none => []
        | some ns => if (ns.length : Int) = many then [ns] else []) = .lst [] := by
        by_cases q : ws.all (okN lo hi) = true
        · rw [if_pos q]
          show liD (if ((ws.map valI).length : Int) = many then [ws.map valI] else []) = _
          rw [List.length_map, if_neg qm]
          rfl
        · rw [if_neg q]
          rfl
      rw [er]
      clear qm er e1 e2 nl
      generalize D.lst (ws.map .str) = LWS at *
      generalize llD [ws] = LW at *
      generalize RL R = RD at *
      generalize (ws.length : Int) = WL at *
      simp -implicitDefEqProofs [s__law_numbers, slots0, lb, le, z0, ix, ln, ne]
theorem li_eq (l : List (List Int)) : eqD (liD l) (.lst []) = some (decide (l = [])) := by
  have c : cmpOk (liD l) = true := kdI.lst.lst.ok (by decide) l
  unfold liD at c ⊢
  rw [eqD_of c rfl, eqq_lst]
  cases l with
  | nil => rfl
  | cons x l => simp [eqqA]
theorem li_ne (l : List (List Int)) : neD (liD l) (.lst []) = some (!decide (l = [])) := by
  have c : cmpOk (liD l) = true := kdI.lst.lst.ok (by decide) l
  unfold liD at c ⊢
  rw [neD_of c rfl, eqq_lst]
  cases l with
  | nil => rfl
  | cons x l => simp [eqqA]
end L_k76
end
section
set_option Elab.async false
set_option linter.all false
set_option maxRecDepth 100000
set_option maxHeartbeats 4000000
set_option autoImplicit false
namespace L_k76
open PySem PD
theorem loop_fuel {R : Rw} {n : Nat} : ∀ (m m' i : Nat) (ps : List Place), 10 - ps.length < m → 10 - ps.length < m' → loopP R n m i ps = loopP R n m' i ps
  | 0, _, _, _, h, _ => absurd h (by omega)
  | _, 0, _, _, _, h => absurd h (by omega)
  | m + 1, m' + 1, i, ps, h1, h2 => by
    unfold loopP
    by_cases q : (behP R i "place").isSome = true ∧ ps.length < 10
    · rw [if_pos q, if_pos q]
      cases placeP R i n with
      | error l => rfl
      | ok p => exact loop_fuel m m' (i + 3) (ps ++ [p]) (by simp only [List.length_append, List.length_singleton]; omega) (by simp only [List.length_append, List.length_singleton]; omega)
    · rw [if_neg q, if_neg q]
def cdL : T := (tOr (tCmp eqD (eVar 3) (eC (.int 1))) (tAnd (tCmp ltD (eBi lenD (aCons (eOwn 2) aNil)) (eC (.int 10))) (tCmp neD (eCall F__law_behind (aCons (eVar 0) (aCons (eVar 3) (aCons (eC (.str "place")) aNil)))) (eLst aNil))))
noncomputable def bdL : S := (sSeq (sSet 4 (eCall F__law_behind (aCons (eVar 0) (aCons (eVar 3) (aCons (eC (.str "place")) aNil)))))
  (sSeq (sIf (tOr (tCmp eqD (eVar 4) (eLst aNil)) (tOr (tCmp gtD (eBi lenD (aCons (eIx (eVar 4) (eC (.int 0))) aNil)) (eC (.int 4))) (tNot (tE (eCall F__law_is_rising (aCons (eIx (eVar 4) (eC (.int 0))) aNil)))))) (sRet (eTup (aCons (eC .non) (aCons (eC (.int 0)) (aCons (eOp addD (eVar 3) (eC (.int 1))) aNil))))) sNil)
  (sSeq (sParV [5, 6] (vCons (vD (eCall F__law_numbers (aCons (eVar 0) (aCons (eOp addD (eVar 3) (eC (.int 1))) (aCons (eC (.str "moves")) (aCons (eC (.int 1)) (aCons (eC (.int 3)) (aCons (eBi lenD (aCons (eIx (eVar 1) (eC (.int 0))) aNil)) aNil)))))))) (vCons (vD (eC (.int 1))) vNil)))
  (sSeq (sFor (aItem (eIf (tCmp neD (eVar 5) (eLst aNil)) (eIx (eVar 5) (eC (.int 0))) (eLst (aCons (eC (.int 37)) aNil)))) (bName 7) (sSet 6 (eOp dMul (eVar 6) (eVar 7))))
  (sSeq (sIf (tCmp gtD (eVar 6) (eC (.int 36))) (sRet (eTup (aCons (eC .non) (aCons (eC (.int 0)) (aCons (eOp addD (eVar 3) (eC (.int 2))) aNil))))) sNil)
  (sSeq (sSet 8 (eCall F__law_numbers (aCons (eVar 0) (aCons (eOp addD (eVar 3) (eC (.int 2))) (aCons (eC (.str "next")) (aCons (eC (.int 0)) (aCons (eC (.int 999999)) (aCons (eVar 6) aNil))))))))
  (sSeq (sIf (tCmp eqD (eVar 8) (eLst aNil)) (sRet (eTup (aCons (eC .non) (aCons (eC (.int 0)) (aCons (eOp addD (eVar 3) (eC (.int 3))) aNil))))) sNil)
  (sSeq (sAppend 2 (eTup (aCons (eBi tupleD (aCons (eIx (eVar 4) (eC (.int 0))) aNil)) (aCons (eBi tupleD (aCons (eIx (eVar 5) (eC (.int 0))) aNil)) (aCons (eBi tupleD (aCons (eIx (eVar 8) (eC (.int 0))) aNil)) aNil)))))
  (sSet 3 (eOp addD (eVar 3) (eC (.int 3))))))))))))
theorem ways_for {x0 x1 x2 x3 x4 x5 x8 : Option LV} {g : G} : ∀ (cs : List Int) (m : Int) (o7 : Option LV), (∀ c ∈ cs, 1 ≤ c ∧ c ≤ 37) → ∃ o7',
    forL (bName 7) (sSet 6 (eOp dMul (eVar 6) (eVar 7))) (cs.map .int) [x0, x1, x2, x3, x4, x5, some (.d (.int m)), o7, x8] g = some (.nx [x0, x1, x2, x3, x4, x5, some (.d (.int (m * prodZ cs))), o7', x8], g)
  | [], m, o7, _ => ⟨o7, by rw [show prodZ [] = 1 from rfl, Int.mul_one]; rfl⟩
  | c :: cs, m, o7, h => by
    have hc := h c List.mem_cons_self
    obtain ⟨q7, e⟩ := ways_for (x0 := x0) (x1 := x1) (x2 := x2) (x3 := x3) (x4 := x4) (x5 := x5) (x8 := x8) (g := g) cs (m * c) (some (.d (.int c))) fun y hy => h y (List.mem_cons_of_mem _ hy)
    refine ⟨q7, ?_⟩
    have mm := dMul_ok2 m c (by omega)
    have hb : sSet 6 (eOp dMul (eVar 6) (eVar 7)) [x0, x1, x2, x3, x4, x5, some (.d (.int m)), some (.d (.int c)), x8] g = some (.nx [x0, x1, x2, x3, x4, x5, some (.d (.int (m * c))), some (.d (.int c)), x8], g) := by
      simp -implicitDefEqProofs [mm, setR]
    have bn : bName 7 (.int c) [x0, x1, x2, x3, x4, x5, some (.d (.int m)), o7, x8] = some [x0, x1, x2, x3, x4, x5, some (.d (.int m)), some (.d (.int c)), x8] := rfl
    have ep : m * prodZ (c :: cs) = m * c * prodZ cs := by
      show m * (c * prodZ cs) = _
      rw [Int.mul_assoc]
    rw [ep, List.map_cons, forL_cons, bn, Option.bind_some, hb]
    exact e
theorem bdL_any {R : Rw} (hR : RT R) {ns : List Str} (i : Nat) (ps : List Place) (hp : ps.length ≤ 10) (o4 o5 o6 o7 o8 : Option LV) (g : G) : ∃ o4' o5' o6' o7' o8',
    bdL [some (.d (RL R)), some (.d (llD [ns])), some (.ol (ps.map Place.d)), some (.d (.int (i : Int))), o4, o5, o6, o7, o8] g
      = some (match placeP R i ns.length with
        | .error l => .rt (.tup [.non, .int 0, .int (l : Int)])
        | .ok p => .nx [some (.d (RL R)), some (.d (llD [ns])), some (.ol ((ps ++ [p]).map Place.d)), some (.d (.int ((i + 3 : Nat) : Int))), o4', o5', o6', o7', o8'], g) := by
  have sz := sizeLine_eq
  have z3 : ∀ x : D, szD 3 x = some x := fun x => if_pos (by omega)
  have z0 : ∀ x : D, szD 0 x = some x := fun x => if_pos (by omega)
  have z1 : ∀ x : D, szD 1 x = some x := fun x => if_pos (by omega)
  have c1 : ((i + 1 : Nat) : Int) = (i : Int) + 1 := by omega
  have c2 : ((i + 2 : Nat) : Int) = (i : Int) + 2 := by omega
  have c3 : ((i + 3 : Nat) : Int) = (i : Int) + 3 := by omega
  have lb := lawBehind_any hR i "place" g
  have le := ll_eq (bhO R i "place")
  have n1 := lawNumbers_any hR (i + 1) "moves" 1 3 ns.length g
  rw [c1] at n1
  have i0 : ixD g (llD [ns]) (.int 0) = some (.lst (ns.map .str)) := rfl
  have lnS : lenD [.lst (ns.map .str)] = some (.int ns.length) := by
    show some (D.int ((ns.map D.str).length : Int)) = _
    rw [List.length_map]
  have ad1 : addD (.int (i : Int)) (.int 1) = some (.int ((i : Int) + 1)) := rfl
  have ad2 : addD (.int (i : Int)) (.int 2) = some (.int ((i : Int) + 2)) := rfl
  have ad3 : addD (.int (i : Int)) (.int 3) = some (.int ((i : Int) + 3)) := rfl
  unfold placeP
  cases hb : behP R i "place" with
  | none =>
    have eb : bhO R i "place" = [] := by unfold bhO; rw [hb]
    rw [eb] at lb le
    rw [decide_eq_true rfl] at le
    refine ⟨none, none, none, none, none, ?_⟩
    show _ = some (Fl.rt (.tup [.non, .int 0, .int ((i + 1 : Nat) : Int)]), g)
    rw [c1]
    clear n1
    generalize llD [] = L0 at *
    generalize llD [ns] = LN' at *
    generalize ps.map Place.d = PM at *
    generalize RL R = RD at *
    unfold bdL
    simp -implicitDefEqProofs [lb, le, z0, z3, ad1]
  | some ms =>
    have eb : bhO R i "place" = [ms] := by unfold bhO; rw [hb]
    rw [eb] at lb le
    rw [decide_eq_false (by simp)] at le
    obtain ⟨hl, hz⟩ := behP_rt hR hb
    have ix : ixD g (llD [ms]) (.int 0) = some (.lst (ms.map .str)) := rfl
    have lm : lenD [.lst (ms.map .str)] = some (.int ms.length) := by
      show some (D.int ((ms.map D.str).length : Int)) = _
      rw [List.length_map]
    have g4 : gtD (.int ms.length) (.int 4) = some (decide (4 < ms.length)) := by
      rw [gtD_int]
      congr 1
      exact decide_eq_decide.mpr (by omega)
    have ri := lawRising_any (ws := ms) (by omega) hz g
    have tm : tupleD [.lst (ms.map .str)] = some (tupS ms) := rfl
    show ∃ o4' o5' o6' o7' o8', _ = some (match (if 4 < ms.length ∨ risB ms = false then Except.error (i + 1) else match numsP R (i + 1) "moves" 1 3 with
      | none => .error (i + 2)
      | some cs => if cs.length ≠ ns.length ∨ 36 < prodZ cs then .error (i + 2) else match numsP R (i + 2) "next" 0 999999 with
        | none => .error (i + 3)
        | some xs => if (xs.length : Int) ≠ prodZ cs then .error (i + 3) else .ok (⟨ms, cs, xs⟩ : Place)) with
      | .error l => Fl.rt (.tup [.non, .int 0, .int (l : Int)])
      | .ok p => .nx [some (.d (RL R)), some (.d (llD [ns])), some (.ol ((ps ++ [p]).map Place.d)), some (.d (.int ((i + 3 : Nat) : Int))), o4', o5', o6', o7', o8'], g)
    by_cases q : 4 < ms.length ∨ risB ms = false
    · rw [if_pos q]
      refine ⟨none, none, none, none, none, ?_⟩
      show _ = some (Fl.rt (.tup [.non, .int 0, .int ((i + 1 : Nat) : Int)]), g)
      rw [c1]
      clear n1 hz hl
      generalize llD [ms] = LM at *
      generalize D.lst (ms.map .str) = MS at *
      generalize llD [ns] = LN' at *
      generalize ps.map Place.d = PM at *
      generalize RL R = RD at *
      generalize (ms.length : Int) = ML at *
      by_cases q1 : 4 < ms.length
      · rw [decide_eq_true q1] at g4
        unfold bdL
        simp -implicitDefEqProofs [lb, le, z0, z3, ad1, ix, lm, g4]
      · rw [decide_eq_false q1] at g4
        rw [q.resolve_left q1] at ri
        unfold bdL
        simp -implicitDefEqProofs [lb, le, z0, z3, ad1, ix, lm, g4, ri]
    · rw [if_neg q]
      have q1 : ¬ 4 < ms.length := fun h => q (.inl h)
      have q2 : risB ms = true := by simpa using fun h => q (.inr h)
      rw [decide_eq_false q1] at g4
      rw [q2] at ri
      -- the moves
      have key : ∀ cs : List Int, numsP R (i + 1) "moves" 1 3 = some cs → cs.length = ns.length → lnO R (i + 1) "moves" 1 3 ns.length = [cs] := fun cs h1 h2 => by
        unfold lnO
        rw [h1]
        show (if (cs.length : Int) = (ns.length : Int) then [cs] else []) = _
        rw [if_pos (by omega)]
      have key0 : ∀ o, numsP R (i + 1) "moves" 1 3 = o → (∀ cs, o = some cs → cs.length ≠ ns.length) → lnO R (i + 1) "moves" 1 3 ns.length = [] := fun o h1 h2 => by
        unfold lnO
        rw [h1]
        cases o with
        | none => rfl
        | some cs =>
          show (if (cs.length : Int) = (ns.length : Int) then [cs] else []) = _
          rw [if_neg (fun z => h2 cs rfl (by omega))]
      have bad : ∀ o, numsP R (i + 1) "moves" 1 3 = o → (∀ cs, o = some cs → cs.length ≠ ns.length) → bdL [some (.d (RL R)), some (.d (llD [ns])), some (.ol (ps.map Place.d)), some (.d (.int (i : Int))), o4, o5, o6, o7, o8] g = some (Fl.rt (.tup [.non, .int 0, .int ((i + 2 : Nat) : Int)]), g) := fun o h1 h2 => by
        rw [key0 o h1 h2] at n1
        have ne := li_ne []
        rw [decide_eq_true rfl] at ne
        obtain ⟨q7, wf⟩ := ways_for (x0 := some (.d (RL R))) (x1 := some (.d (llD [ns]))) (x2 := some (.ol (ps.map Place.d))) (x3 := some (.d (.int (i : Int)))) (x4 := some (.d (llD [ms]))) (x5 := some (.d (liD []))) (x8 := o8) (g := g) [37] 1 o7 (by simp)
        have g36 : gtD (.int (1 * prodZ [37])) (.int 36) = some true := by decide
        have wf : forL (bName 7) (sSet 6 (eOp dMul (eVar 6) (eVar 7))) [D.int 37] [some (.d (RL R)), some (.d (llD [ns])), some (.ol (ps.map Place.d)), some (.d (.int (i : Int))), some (.d (llD [ms])), some (.d (liD [])), some (.d (.int 1)), o7, o8] g = _ := wf
        rw [c2]
        clear hz hl key key0 h1 h2
        generalize (1 * prodZ [37]) = P37 at *
        generalize llD [ms] = LM at *
        generalize D.lst (ms.map .str) = MS at *
        generalize D.lst (ns.map .str) = NS at *
        generalize llD [ns] = LN' at *
        generalize liD [] = LI at *
        generalize ps.map Place.d = PM at *
        generalize RL R = RD at *
        generalize (ms.length : Int) = ML at *
        generalize (ns.length : Int) = NL at *
        generalize (i : Int) + 1 = I1 at *
        unfold bdL
        generalize (sSet 6 (eOp dMul (eVar 6) (eVar 7))) = SM at *
        simp -implicitDefEqProofs [lb, le, z0, z1, z3, ad1, ix, lm, g4, ri, i0, lnS, n1, setLs, ne, wf, g36, ad2]
      cases hc : numsP R (i + 1) "moves" 1 3 with
      | none => exact ⟨none, none, none, none, none, bad none hc fun cs h => by cases h⟩
      | some cs =>
        show ∃ o4' o5' o6' o7' o8', _ = some (match (if cs.length ≠ ns.length ∨ 36 < prodZ cs then Except.error (i + 2) else match numsP R (i + 2) "next" 0 999999 with
          | none => .error (i + 3)
          | some xs => if (xs.length : Int) ≠ prodZ cs then .error (i + 3) else .ok (⟨ms, cs, xs⟩ : Place)) with
          | .error l => Fl.rt (.tup [.non, .int 0, .int (l : Int)])
          | .ok p => .nx [some (.d (RL R)), some (.d (llD [ns])), some (.ol ((ps ++ [p]).map Place.d)), some (.d (.int ((i + 3 : Nat) : Int))), o4', o5', o6', o7', o8'], g)
        by_cases ql : cs.length = ns.length
        · have hcs := numsP_in hc
          rw [key cs hc ql] at n1
          have ne := li_ne [cs]
          rw [decide_eq_false (by simp)] at ne
          have ixc : ixD g (liD [cs]) (.int 0) = some (.lst (cs.map .int)) := rfl
          have itc : itemsD (.lst (cs.map .int)) = some (cs.map .int) := rfl
          have tc : tupleD [.lst (cs.map .int)] = some (tupI cs) := rfl
          obtain ⟨q7, wf⟩ := ways_for (x0 := some (.d (RL R))) (x1 := some (.d (llD [ns]))) (x2 := some (.ol (ps.map Place.d))) (x3 := some (.d (.int (i : Int)))) (x4 := some (.d (llD [ms]))) (x5 := some (.d (liD [cs]))) (x8 := o8) (g := g) cs 1 o7 (fun c hc => by have := hcs c hc; omega)
          rw [Int.one_mul] at wf
          have g36 := gtD_int (prodZ cs) 36
          by_cases qz : 36 < prodZ cs
          · rw [if_pos (.inr qz)]
            rw [decide_eq_true qz] at g36
            refine ⟨none, none, none, none, none, ?_⟩
            show _ = some (Fl.rt (.tup [.non, .int 0, .int ((i + 2 : Nat) : Int)]), g)
            rw [c2]
            clear hz hl key key0 bad hc hcs
            generalize llD [ms] = LM at *
            generalize D.lst (ms.map .str) = MS at *
            generalize D.lst (ns.map .str) = NS at *
            generalize llD [ns] = LN' at *
            generalize liD [cs] = LI at *
            generalize D.lst (cs.map .int) = CL at *
            generalize cs.map D.int = CM at *
            generalize ps.map Place.d = PM at *
            generalize RL R = RD at *
            generalize (ms.length : Int) = ML at *
            generalize (ns.length : Int) = NL at *
            generalize (i : Int) + 1 = I1 at *
            generalize prodZ cs = PZ at *
            unfold bdL
            generalize (sSet 6 (eOp dMul (eVar 6) (eVar 7))) = SM at *
            simp -implicitDefEqProofs [lb, le, z0, z1, z3, ad1, ix, lm, g4, ri, i0, lnS, n1, setLs, ne, ixc, itc, wf, g36, ad2]
          · rw [if_neg (fun z => z.elim (fun z => z ql) qz)]
            rw [decide_eq_false qz] at g36
            have n2 := lawNumbers_any hR (i + 2) "next" 0 999999 (prodZ cs) g
            rw [c2] at n2
            have le2 := li_eq (lnO R (i + 2) "next" 0 999999 (prodZ cs))
            have bad2 : lnO R (i + 2) "next" 0 999999 (prodZ cs) = [] → bdL [some (.d (RL R)), some (.d (llD [ns])), some (.ol (ps.map Place.d)), some (.d (.int (i : Int))), o4, o5, o6, o7, o8] g = some (Fl.rt (.tup [.non, .int 0, .int ((i + 3 : Nat) : Int)]), g) := fun h0 => by
              rw [h0] at n2 le2
              rw [decide_eq_true rfl] at le2
              rw [c3]
              clear hz hl key key0 bad hc hcs h0
              generalize llD [ms] = LM at *
              generalize D.lst (ms.map .str) = MS at *
              generalize D.lst (ns.map .str) = NS at *
              generalize llD [ns] = LN' at *
              generalize liD [cs] = LI at *
              generalize liD [] = L0 at *
              generalize D.lst (cs.map .int) = CL at *
              generalize cs.map D.int = CM at *
              generalize ps.map Place.d = PM at *
              generalize RL R = RD at *
              generalize (ms.length : Int) = ML at *
              generalize (ns.length : Int) = NL at *
              generalize (i : Int) + 1 = I1 at *
              generalize (i : Int) + 2 = I2 at *
              generalize prodZ cs = PZ at *
              unfold bdL
              generalize (sSet 6 (eOp dMul (eVar 6) (eVar 7))) = SM at *
              simp -implicitDefEqProofs [lb, le, z0, z1, z3, ad1, ix, lm, g4, ri, i0, lnS, n1, setLs, ne, ixc, itc, wf, g36, ad2, n2, le2, ad3]
            cases hx : numsP R (i + 2) "next" 0 999999 with
            | none =>
              refine ⟨none, none, none, none, none, bad2 ?_⟩
              unfold lnO
              rw [hx]
            | some xs =>
              show ∃ o4' o5' o6' o7' o8', _ = some (match (if (xs.length : Int) ≠ prodZ cs then Except.error (i + 3) else .ok (⟨ms, cs, xs⟩ : Place)) with
                | .error l => Fl.rt (.tup [.non, .int 0, .int (l : Int)])
                | .ok p => .nx [some (.d (RL R)), some (.d (llD [ns])), some (.ol ((ps ++ [p]).map Place.d)), some (.d (.int ((i + 3 : Nat) : Int))), o4', o5', o6', o7', o8'], g)
              by_cases qx : (xs.length : Int) = prodZ cs
              · rw [if_neg (fun z => z qx)]
                have el : lnO R (i + 2) "next" 0 999999 (prodZ cs) = [xs] := by
                  unfold lnO
                  rw [hx]
                  show (if (xs.length : Int) = prodZ cs then [xs] else []) = _
                  rw [if_pos qx]
                rw [el] at n2 le2
                rw [decide_eq_false (by simp)] at le2
                have ixx : ixD g (liD [xs]) (.int 0) = some (.lst (xs.map .int)) := rfl
                have tx : tupleD [.lst (xs.map .int)] = some (tupI xs) := rfl
                have pd : D.tup [tupS ms, tupI cs, tupI xs] = (⟨ms, cs, xs⟩ : Place).d := rfl
                have zp : (ps.map Place.d).length < sizeLine := by rw [List.length_map]; omega
                refine ⟨some (.d (llD [ms])), some (.d (liD [cs])), some (.d (.int (prodZ cs))), q7, some (.d (liD [xs])), ?_⟩
                show _ = some (Fl.nx [some (.d (RL R)), some (.d (llD [ns])), some (.ol ((ps ++ [(⟨ms, cs, xs⟩ : Place)]).map Place.d)), some (.d (.int ((i + 3 : Nat) : Int))), some (.d (llD [ms])), some (.d (liD [cs])), some (.d (.int (prodZ cs))), q7, some (.d (liD [xs]))], g)
                rw [c3, List.map_append, List.map_singleton, ← pd]
                clear hz hl key key0 bad hc hcs bad2 hx el pd
                generalize llD [ms] = LM at *
                generalize D.lst (ms.map .str) = MS at *
                generalize D.lst (ns.map .str) = NS at *
                generalize llD [ns] = LN' at *
                generalize liD [cs] = LI at *
                generalize liD [xs] = LX at *
                generalize tupS ms = TM at *
                generalize tupI cs = TC at *
                generalize tupI xs = TX at *
                generalize D.lst (xs.map .int) = XL at *
                generalize D.lst (cs.map .int) = CL at *
                generalize cs.map D.int = CM at *
                generalize ps.map Place.d = PM at *
                generalize RL R = RD at *
                generalize (ms.length : Int) = ML at *
                generalize (ns.length : Int) = NL at *
                generalize (i : Int) + 1 = I1 at *
                generalize (i : Int) + 2 = I2 at *
                generalize prodZ cs = PZ at *
                unfold bdL
                generalize (sSet 6 (eOp dMul (eVar 6) (eVar 7))) = SM at *
                simp -implicitDefEqProofs [lb, le, z0, z1, z3, ad1, ix, lm, g4, ri, i0, lnS, n1, setLs, ne, ixc, itc, wf, g36, ad2, n2, le2, ad3, ixx, tx, tm, tc, zp]
              · rw [if_pos qx]
                refine ⟨none, none, none, none, none, bad2 ?_⟩
                unfold lnO
                rw [hx]
                show (if (xs.length : Int) = prodZ cs then [xs] else []) = _
                rw [if_neg qx]
        · rw [if_pos (.inl ql)]
          exact ⟨none, none, none, none, none, bad (some cs) hc fun cs' h => by cases h; exact ql⟩
end L_k76
end
section
set_option Elab.async false
set_option linter.all false
set_option maxRecDepth 100000
set_option maxHeartbeats 4000000
set_option autoImplicit false
namespace L_k76
open PySem PD
/-! ### the law's whole reading -/
theorem cdL_any {R : Rw} (hR : RT R) (i : Nat) (x1 o4 o5 o6 o7 o8 : Option LV) (ps : List Place) (g : G) : cdL [some (.d (RL R)), x1, some (.ol (ps.map Place.d)), some (.d (.int (i : Int))), o4, o5, o6, o7, o8] g = some (decide (i = 1) || (decide (ps.length < 10) && (behP R i "place").isSome), g) := by
  have sz := sizeLine_eq
  have z0 : ∀ x : D, szD 0 x = some x := fun x => if_pos (by omega)
  have e1 : eqD (.int (i : Int)) (.int 1) = some (decide (i = 1)) := by
    rw [eqD_of rfl rfl, eqq_int]
    congr 1
    exact decide_eq_decide.mpr (by omega)
  have lo : lenD [.lst (ps.map Place.d)] = some (.int ps.length) := by
    show some (D.int ((ps.map Place.d).length : Int)) = _
    rw [List.length_map]
  have l10 : ltD (.int (ps.length : Int)) (.int 10) = some (decide (ps.length < 10)) := by
    show some (decide ((ps.length : Int) < 10)) = _
    congr 1
    exact decide_eq_decide.mpr (by omega)
  have lb := lawBehind_any hR i "place" g
  have ne := ll_ne (bhO R i "place")
  have hb : (!decide (bhO R i "place" = [])) = (behP R i "place").isSome := by
    unfold bhO
    cases behP R i "place" <;> rfl
  rw [hb] at ne
  generalize (behP R i "place").isSome = B3 at *
  generalize llD (bhO R i "place") = LB at *
  generalize ps.map Place.d = PM at *
  generalize RL R = RD at *
  generalize decide (i = 1) = B1 at *
  generalize decide (ps.length < 10) = B2 at *
  generalize (ps.length : Int) = PL at *
  unfold cdL
  cases B1 <;> cases B2 <;> cases B3 <;> simp -implicitDefEqProofs [e1, lo, l10, lb, ne, z0, lAt]
theorem whL_any {R : Rw} (hR : RT R) {ns : List Str} {g : G} : ∀ (m i : Nat) (ps : List Place) (o4 o5 o6 o7 o8 : Option LV), i ≠ 1 → 10 - ps.length < m → ps.length ≤ 10 → ∃ o4' o5' o6' o7' o8',
    whileL cdL bdL m [some (.d (RL R)), some (.d (llD [ns])), some (.ol (ps.map Place.d)), some (.d (.int (i : Int))), o4, o5, o6, o7, o8] g
      = some (match loopP R ns.length m i ps with
        | .error l => .rt (.tup [.non, .int 0, .int (l : Int)])
        | .ok q => .nx [some (.d (RL R)), some (.d (llD [ns])), some (.ol (q.1.map Place.d)), some (.d (.int (q.2 : Int))), o4', o5', o6', o7', o8'], g)
  | 0, i, ps, _, _, _, _, _, _, h, _ => absurd h (by omega)
  | m + 1, i, ps, o4, o5, o6, o7, o8, hi, h, hl => by
    have cd := cdL_any hR i (some (.d (llD [ns]))) o4 o5 o6 o7 o8 ps g
    rw [decide_eq_false hi, Bool.false_or] at cd
    unfold loopP
    by_cases q : (behP R i "place").isSome = true ∧ ps.length < 10
    · rw [if_pos q]
      rw [q.1, decide_eq_true q.2] at cd
      obtain ⟨p4, p5, p6, p7, p8, hb⟩ := bdL_any hR (ns := ns) i ps hl o4 o5 o6 o7 o8 g
      rw [whileL_succ, cd]
      cases hp : placeP R i ns.length with
      | error l =>
        rw [hp] at hb
        refine ⟨none, none, none, none, none, ?_⟩
        show ((bdL _ g).bind (weK cdL bdL m)) = _
        rw [hb]
        rfl
      | ok p =>
        rw [hp] at hb
        obtain ⟨r4, r5, r6, r7, r8, e⟩ := whL_any hR (ns := ns) (g := g) m (i + 3) (ps ++ [p]) p4 p5 p6 p7 p8 (by omega) (by simp only [List.length_append, List.length_singleton]; omega) (by simp only [List.length_append, List.length_singleton]; omega)
        refine ⟨r4, r5, r6, r7, r8, ?_⟩
        show ((bdL _ g).bind (weK cdL bdL m)) = _
        rw [hb]
        exact e
    · rw [if_neg q]
      refine ⟨o4, o5, o6, o7, o8, ?_⟩
      have : (decide (ps.length < 10) && (behP R i "place").isSome) = false := by
        cases h1 : (behP R i "place").isSome with
        | false => rw [Bool.and_false]
        | true =>
          rw [Bool.and_true]
          exact decide_eq_false fun h2 => q ⟨h1, h2⟩
      rw [this] at cd
      rw [whileL_succ, cd]
      rfl
def gdX (r : Except Nat (Arena × Nat)) : D := match r with
  | .error l => .tup [.non, .int 0, .int (l : Int)]
  | .ok q => .tup [q.1.d, .int (q.2 : Int), .int 0]
theorem ground_any {R : Rw} (hR : RT R) (g : G) : F__law_ground_told [RL R] g = some (gdX (arenaP R), g) := by
  have sz := sizeLine_eq
  have z0 : ∀ x : D, szD 0 x = some x := fun x => if_pos (by omega)
  have z2 : ∀ x : D, szD 2 x = some x := fun x => if_pos (by omega)
  have z3 : ∀ x : D, szD 3 x = some x := fun x => if_pos (by omega)
  have zz : (0 : Nat) ≤ sizeLine := by omega
  have lb := lawBehind_any hR 0 "players" g
  have lb : F__law_behind [RL R, .int 0, .str "players"] g = some (llD (bhO R 0 "players"), g) := lb
  have le := ll_eq (bhO R 0 "players")
  have se : s__law_ground_told = (sSeq (sSet 1 (eCall F__law_behind (aCons (eVar 0) (aCons (eC (.int 0)) (aCons (eC (.str "players")) aNil)))))
  (sSeq (sIf (tOr (tCmp eqD (eVar 1) (eLst aNil)) (tOr (tNot (tE (eChain ltD ltD (eC (.int 0)) (eBi lenD (aCons (eIx (eVar 1) (eC (.int 0))) aNil)) (eC (.int 5))))) (tNot (tE (eCall F__law_is_rising (aCons (eIx (eVar 1) (eC (.int 0))) aNil)))))) (sRet (eTup (aCons (eC .non) (aCons (eC (.int 0)) (aCons (eC (.int 1)) aNil))))) sNil)
  (sSeq (sParV [2, 3] (vCons (vL (aSz aNil)) (vCons (vD (eC (.int 1))) vNil)))
  (sSeq (sWhile 100 cdL bdL)
  (sFrz 2 (sRet (eTup (aCons (eTup (aCons (eBi tupleD (aCons (eIx (eVar 1) (eC (.int 0))) aNil)) (aCons (eBi tupleD (aCons (eVar 2) aNil)) aNil))) (aCons (eVar 3) (aCons (eC (.int 0)) aNil)))))))))) := rfl
  refine runF_rt ?_
  rw [se]
  unfold gdX arenaP
  cases hb : behP R 0 "players" with
  | none =>
    have eb : bhO R 0 "players" = [] := by unfold bhO; rw [hb]
    rw [eb] at lb le
    rw [decide_eq_true rfl] at le
    show _ = some (Fl.rt (.tup [.non, .int 0, .int 1]), g)
    generalize llD [] = L0 at *
    generalize RL R = RD at *
    generalize cdL = CD at *
    generalize bdL = BD at *
    simp -implicitDefEqProofs [slots0, lb, le, z0, z3]
  | some ns =>
    have eb : bhO R 0 "players" = [ns] := by unfold bhO; rw [hb]
    rw [eb] at lb le
    rw [decide_eq_false (by simp)] at le
    obtain ⟨hl, hz⟩ := behP_rt hR hb
    have i0 : ixD g (llD [ns]) (.int 0) = some (.lst (ns.map .str)) := rfl
    have ln : lenD [.lst (ns.map .str)] = some (.int ns.length) := by
      show some (D.int ((ns.map D.str).length : Int)) = _
      rw [List.length_map]
    have l1 : ltD (.int 0) (.int ns.length) = some (decide (1 ≤ ns.length)) := by
      show some (decide ((0 : Int) < (ns.length : Int))) = _
      congr 1
      exact decide_eq_decide.mpr (by omega)
    have l2 : ltD (.int ns.length) (.int 5) = some (decide (ns.length ≤ 4)) := by
      show some (decide ((ns.length : Int) < (5 : Int))) = _
      congr 1
      exact decide_eq_decide.mpr (by omega)
    have ri := lawRising_any (ws := ns) (by omega) hz g
    have tn : tupleD [.lst (ns.map .str)] = some (tupS ns) := rfl
    show _ = some (Fl.rt (match (if ¬ (1 ≤ ns.length ∧ ns.length ≤ 4) ∨ risB ns = false then Except.error 1 else match placeP R 1 ns.length with
      | .error l => .error l
      | .ok p => match loopP R ns.length 12 4 [p] with
        | .error l => .error l
        | .ok q => .ok ((⟨ns, q.1⟩ : Arena), q.2)) with
      | .error l => .tup [.non, .int 0, .int (l : Int)]
      | .ok q => .tup [q.1.d, .int (q.2 : Int), .int 0]), g)
    by_cases q : ¬ (1 ≤ ns.length ∧ ns.length ≤ 4) ∨ risB ns = false
    · rw [if_pos q]
      show _ = some (Fl.rt (.tup [.non, .int 0, .int 1]), g)
      have q' : (decide (1 ≤ ns.length) && decide (ns.length ≤ 4) && risB ns) = false := by
        rcases q with q | q
        · by_cases h1 : 1 ≤ ns.length
          · rw [decide_eq_false (fun h2 => q ⟨h1, h2⟩), Bool.and_false, Bool.false_and]
          · rw [decide_eq_false h1, Bool.false_and, Bool.false_and]
        · rw [q, Bool.and_false]
      clear q hz hl
      generalize D.lst (ns.map .str) = NS at *
      generalize llD [ns] = LN' at *
      generalize RL R = RD at *
      generalize decide (1 ≤ ns.length) = B1 at *
      generalize decide (ns.length ≤ 4) = B2 at *
      generalize risB ns = B3 at *
      generalize (ns.length : Int) = NL at *
      generalize cdL = CD at *
      generalize bdL = BD at *
      cases B1 <;> cases B2 <;> cases B3 <;> first | (simp at q'; done) | simp -implicitDefEqProofs [slots0, lb, le, z0, z3, i0, ln, l1, l2, ri]
    · rw [if_neg q]
      have h1 : 1 ≤ ns.length ∧ ns.length ≤ 4 := Classical.byContradiction fun h => q (.inl h)
      have h3 : risB ns = true := by simpa using fun h => q (.inr h)
      rw [decide_eq_true h1.1] at l1
      rw [decide_eq_true h1.2] at l2
      rw [h3] at ri
      obtain ⟨p4, p5, p6, p7, p8, hb1⟩ := bdL_any hR (ns := ns) 1 [] (by simp) none none none none none g
      have cd := cdL_any hR 1 (some (.d (llD [ns]))) none none none none none [] g
      rw [decide_eq_true rfl, Bool.true_or] at cd
      have w0 : whileL cdL bdL 100 [some (.d (RL R)), some (.d (llD [ns])), some (.ol []), some (.d (.int 1)), none, none, none, none, none] g = (bdL [some (.d (RL R)), some (.d (llD [ns])), some (.ol []), some (.d (.int 1)), none, none, none, none, none] g).bind (weK cdL bdL 99) := by
        rw [whileL_succ]
        have cd : cdL [some (.d (RL R)), some (.d (llD [ns])), some (.ol []), some (.d (.int 1)), none, none, none, none, none] g = some (true, g) := cd
        rw [cd]
        rfl
      have hb1 : bdL [some (.d (RL R)), some (.d (llD [ns])), some (.ol []), some (.d (.int 1)), none, none, none, none, none] g = _ := hb1
      rw [hb1] at w0
      cases hp : placeP R 1 ns.length with
      | error l =>
        rw [hp] at w0
        have w0 : whileL cdL bdL 100 [some (.d (RL R)), some (.d (llD [ns])), some (.ol []), some (.d (.int 1)), none, none, none, none, none] g = some (.rt (.tup [.non, .int 0, .int (l : Int)]), g) := w0
        show _ = some (Fl.rt (.tup [.non, .int 0, .int (l : Int)]), g)
        clear q hz hl hb1 cd
        generalize D.lst (ns.map .str) = NS at *
        generalize llD [ns] = LN' at *
        generalize RL R = RD at *
        generalize (ns.length : Int) = NL at *
        generalize cdL = CD at *
        generalize bdL = BD at *
        simp -implicitDefEqProofs [slots0, lb, le, z0, z3, zz, i0, ln, l1, l2, ri, setLs, w0]
      | ok p =>
        rw [hp] at w0
        obtain ⟨r4, r5, r6, r7, r8, e⟩ := whL_any hR (ns := ns) (g := g) 99 4 [p] p4 p5 p6 p7 p8 (by decide) (by simp) (by simp)
        rw [loop_fuel 99 12 4 [p] (by simp) (by simp)] at e
        have w1 : whileL cdL bdL 100 [some (.d (RL R)), some (.d (llD [ns])), some (.ol []), some (.d (.int 1)), none, none, none, none, none] g = whileL cdL bdL 99 [some (.d (RL R)), some (.d (llD [ns])), some (.ol ([p].map Place.d)), some (.d (.int ((4 : Nat) : Int))), p4, p5, p6, p7, p8] g := w0
        rw [e] at w1
        show _ = some (Fl.rt (match (match loopP R ns.length 12 4 [p] with
          | .error l => Except.error l
          | .ok q => .ok ((⟨ns, q.1⟩ : Arena), q.2)) with
          | .error l => .tup [.non, .int 0, .int (l : Int)]
          | .ok q => .tup [q.1.d, .int (q.2 : Int), .int 0]), g)
        cases hq : loopP R ns.length 12 4 [p] with
        | error l =>
          rw [hq] at w1
          have w1 : whileL cdL bdL 100 [some (.d (RL R)), some (.d (llD [ns])), some (.ol []), some (.d (.int 1)), none, none, none, none, none] g = some (.rt (.tup [.non, .int 0, .int (l : Int)]), g) := w1
          show _ = some (Fl.rt (.tup [.non, .int 0, .int (l : Int)]), g)
          clear q hz hl hb1 cd w0 e hq hp
          generalize D.lst (ns.map .str) = NS at *
          generalize llD [ns] = LN' at *
          generalize RL R = RD at *
          generalize (ns.length : Int) = NL at *
          generalize cdL = CD at *
          generalize bdL = BD at *
          simp -implicitDefEqProofs [slots0, lb, le, z0, z3, zz, i0, ln, l1, l2, ri, setLs, w1]
        | ok r =>
          rw [hq] at w1
          have w1 : whileL cdL bdL 100 [some (.d (RL R)), some (.d (llD [ns])), some (.ol []), some (.d (.int 1)), none, none, none, none, none] g = some (.nx [some (.d (RL R)), some (.d (llD [ns])), some (.ol (r.1.map Place.d)), some (.d (.int (r.2 : Int))), r4, r5, r6, r7, r8], g) := w1
          show _ = some (Fl.rt (.tup [(⟨ns, r.1⟩ : Arena).d, .int (r.2 : Int), .int 0]), g)
          have ea : D.tup [tupS ns, .tup (r.1.map Place.d)] = (⟨ns, r.1⟩ : Arena).d := rfl
          have tp : tupleD [.lst (r.1.map Place.d)] = some (.tup (r.1.map Place.d)) := rfl
          rw [← ea]
          clear q hz hl hb1 cd w0 e hq hp ea
          generalize r.1.map Place.d = PM at *
          generalize D.lst (ns.map .str) = NS at *
          generalize llD [ns] = LN' at *
          generalize RL R = RD at *
          generalize tupS ns = TN at *
          generalize (ns.length : Int) = NL at *
          generalize cdL = CD at *
          generalize bdL = BD at *
          simp -implicitDefEqProofs [slots0, lb, le, z0, z2, z3, zz, i0, ln, l1, l2, ri, setLs, w1, tn, tp]
/-! ### late -/
def lateL (n : Nat) : Nat → List Place → List Nat
  | _, [] => []
  | k, p :: ps => if (n : Int) ≤ maxI p.nexts then k :: lateL n (k + 1) ps else lateL n (k + 1) ps
theorem late_head (n : Nat) : ∀ (k : Nat) (ps : List Place), lateP n k ps = (lateL n k ps).head?.map fun j => 3 * j + 4
  | _, [] => rfl
  | k, p :: ps => by
    unfold lateP lateL
    split
    · rfl
    · exact late_head n (k + 1) ps
theorem lateL_len (n : Nat) : ∀ (k : Nat) (ps : List Place), (lateL n k ps).length ≤ ps.length
  | _, [] => Nat.le_refl _
  | k, p :: ps => by
    have := lateL_len n (k + 1) ps
    unfold lateL
    split <;> simp only [List.length_cons] <;> omega
theorem late_lc {a : Arena} {g : G} : ∀ (ps : List Place) (k : Nat), (∀ p ∈ ps, p.nexts ≠ []) → lcL (bTup (bsCons (bName 2) (bsCons (bName 3) bsNil))) (tCmp geD (eBi maxLD (aCons (eIx (eVar 3) (eC (.int 2))) aNil)) (eBi lenD (aCons (eIx (eVar 0) (eC (.int 1))) aNil))) (eVar 2) [some (.d a.d), none, none, none] (enumL k (ps.map Place.d)) g
    = some ((lateL a.places.length k ps).map fun j : Nat => .int (j : Int), g)
  | [], k, _ => rfl
  | p :: ps, k, h => by
    have ih := late_lc (a := a) (g := g) ps (k + 1) fun y hy => h y (List.mem_cons_of_mem _ hy)
    have mx := maxL_tup (h p List.mem_cons_self)
    have i1 := a_ix1 a g
    have i2 : ixD g p.d (.int 2) = some (tupI p.nexts) := rfl
    have ln : lenD [.tup (a.places.map Place.d)] = some (.int a.places.length) := by
      show some (D.int ((a.places.map Place.d).length : Int)) = _
      rw [List.length_map]
    have ge : geD (.int (maxI p.nexts)) (.int a.places.length) = some (decide ((a.places.length : Int) ≤ maxI p.nexts)) := rfl
    have bt : bTup (bsCons (bName 2) (bsCons (bName 3) bsNil)) (D.tup [D.int (k : Int), p.d]) [some (.d a.d), none, none, none] = some [some (.d a.d), none, some (.d (.int (k : Int))), some (.d p.d)] := rfl
    show lcL _ _ _ _ (D.tup [D.int (k : Int), p.d] :: enumL (k + 1) (ps.map Place.d)) g = _
    rw [lcL_cons]
    unfold lateL
    by_cases q : (a.places.length : Int) ≤ maxI p.nexts
    · rw [decide_eq_true q] at ge
      rw [if_pos q, List.map_cons]
      generalize (lateL a.places.length (k + 1) ps).map (fun j : Nat => D.int (j : Int)) = LL at *
      generalize enumL (k + 1) (ps.map Place.d) = EL at *
      generalize D.tup (a.places.map Place.d) = TP at *
      generalize tupI p.nexts = TX at *
      generalize p.d = PD' at *
      generalize a.d = AD at *
      generalize (a.places.length : Int) = AL at *
      simp -implicitDefEqProofs [bt, i2, mx, i1, ln, ge, ih]
    · rw [decide_eq_false q] at ge
      rw [if_neg q]
      generalize (lateL a.places.length (k + 1) ps).map (fun j : Nat => D.int (j : Int)) = LL at *
      generalize enumL (k + 1) (ps.map Place.d) = EL at *
      generalize D.tup (a.places.map Place.d) = TP at *
      generalize tupI p.nexts = TX at *
      generalize p.d = PD' at *
      generalize a.d = AD at *
      generalize (a.places.length : Int) = AL at *
      simp -implicitDefEqProofs [bt, i2, mx, i1, ln, ge, ih]
theorem lawLate_any {a : Arena} (h : ∀ p ∈ a.places, p.nexts ≠ []) (hl : a.places.length ≤ 10) (g : G) : F__law_late [a.d] g = some (.int (((lateP a.places.length 0 a.places).getD 0 : Nat) : Int), g) := by
  have sz := sizeLine_eq
  have z0 : ∀ x : D, szD 0 x = some x := fun x => if_pos (by omega)
  have lc := late_lc (a := a) (g := g) a.places 0 h
  have i1 := a_ix1 a g
  have en : enumM [.tup (a.places.map Place.d)] = some (enumL 0 (a.places.map Place.d)) := rfl
  have ll := lateL_len a.places.length 0 a.places
  have zl : ((lateL a.places.length 0 a.places).map fun j : Nat => D.int (j : Int)).length ≤ sizeLine := by rw [List.length_map]; omega
  rw [late_head]
  refine runF_rt ?_
  generalize lateL a.places.length 0 a.places = LL at *
  cases LL with
  | nil =>
    have ne : neD (.lst []) (.lst []) = some false := rfl
    have lc : lcL (bTup (bsCons (bName 2) (bsCons (bName 3) bsNil))) (tCmp geD (eBi maxLD (aCons (eIx (eVar 3) (eC (.int 2))) aNil)) (eBi lenD (aCons (eIx (eVar 0) (eC (.int 1))) aNil))) (eVar 2) [some (.d a.d), none, none, none] (enumL 0 (a.places.map Place.d)) g = some ([], g) := lc
    have zz : (0 : Nat) ≤ sizeLine := by omega
    show _ = some (Fl.rt (.int 0), g)
    generalize enumL 0 (a.places.map Place.d) = EL at *
    generalize D.tup (a.places.map Place.d) = TP at *
    generalize a.d = AD at *
    simp -implicitDefEqProofs [s__law_late, slots0, i1, en, wipeR, lc, z0, zz, ne]
  | cons j r =>
    have ne : neD (.lst ((j :: r).map fun j : Nat => D.int (j : Int))) (.lst []) = some true := by
      have hk : Kd (fun j : Nat => D.int (j : Int)) 0 := ⟨fun _ => rfl, fun _ => Nat.le_refl _⟩
      rw [neD_of (hk.lst.ok (by decide) (j :: r)) (by decide), eqq_lst]
      simp [eqqA]
    have ix : L2.atI ((j :: r).map fun j : Nat => D.int (j : Int)) 0 = some (.int (j : Int)) := by
      show L2.atI (D.int (j : Int) :: r.map fun j : Nat => D.int (j : Int)) 0 = _
      rw [atI_of (by omega) (by simp only [List.length_cons]; omega)]
      rfl
    have mm : dMul (.int 3) (.int (j : Int)) = some (.int (3 * (j : Int))) := by
      have : mulC 3 (j : Int) = true := by simp [mulC]
      simp [dMul, intD, this]
    have c4 : ((((j :: r).head?.map fun j => 3 * j + 4).getD 0 : Nat) : Int) = 3 * (j : Int) + 4 := by
      show ((3 * j + 4 : Nat) : Int) = _
      omega
    rw [c4]
    generalize (j :: r).map (fun j : Nat => D.int (j : Int)) = JL at *
    generalize enumL 0 (a.places.map Place.d) = EL at *
    generalize D.tup (a.places.map Place.d) = TP at *
    generalize a.d = AD at *
    simp -implicitDefEqProofs [s__law_late, slots0, i1, en, wipeR, lc, z0, zl, ne, ix, mm]
/-! ### what can be shown -/
structure Sd (n k : Nat) (d : D) : Prop where
  sb : shB d = true
  sw : shW d ≤ n
  pu : pur d = true
  de : dep d ≤ k
theorem Sd.mono {n k n' k' : Nat} {d : D} (h : Sd n k d) (hn : n ≤ n') (hk : k ≤ k') : Sd n' k' d := ⟨h.sb, Nat.le_trans h.sw hn, h.pu, Nat.le_trans h.de hk⟩
theorem sdA {n k : Nat} : ∀ {l : List D}, (∀ d ∈ l, Sd n k d) → shBA l = true ∧ shWA l ≤ l.length * (n + 2) ∧ purA l = true ∧ depA l ≤ k
  | [], _ => ⟨rfl, by simp [shWA], rfl, by simp [depA]⟩
  | d :: l, h => by
    have h1 := h d List.mem_cons_self
    obtain ⟨a, b, c, e⟩ := sdA fun x hx => h x (List.mem_cons_of_mem _ hx)
    refine ⟨?_, ?_, ?_, ?_⟩
    · simp only [shBA, h1.sb, a, Bool.and_self]
    · have := h1.sw
      simp only [shWA, List.length_cons, Nat.add_mul, Nat.one_mul]
      omega
    · simp only [purA, h1.pu, c, Bool.and_self]
    · have := h1.de
      simp only [depA]
      omega
theorem Sd.tup {n k C m : Nat} {l : List D} (h : ∀ d ∈ l, Sd n k d) (hl : l.length ≤ C) (hm : C * (n + 2) + 4 ≤ m) : Sd m (k + 1) (.tup l) := by
  obtain ⟨a, b, c, e⟩ := sdA h
  have := Nat.mul_le_mul_right (n + 2) hl
  exact ⟨by simpa only [shB] using a, by simp only [shW]; omega, by simpa only [pur] using c, by simp only [dep]; omega⟩
theorem Sd.lst {n k C m : Nat} {l : List D} (h : ∀ d ∈ l, Sd n k d) (hl : l.length ≤ C) (hm : C * (n + 2) + 4 ≤ m) : Sd m (k + 1) (.lst l) := by
  obtain ⟨a, b, c, e⟩ := sdA h
  have := Nat.mul_le_mul_right (n + 2) hl
  exact ⟨by simpa only [shB] using a, by simp only [shW]; omega, by simpa only [pur] using c, by simp only [dep]; omega⟩
theorem Sd.rep {n k : Nat} {d : D} (h : Sd n k d) (hn : n ≤ 16777216) (hk : k ≤ 64) : ∃ x : Str, reprD [d] = some (.str x) := by
  refine ⟨_, reprD_of ?_ h.sb (Nat.le_trans h.sw hn)⟩
  unfold cmpOk
  rw [h.pu, Bool.true_and]
  exact decide_eq_true (Nat.le_trans h.de hk)
theorem log_small {i : Int} (h1 : 0 ≤ i) (h2 : i < 1000000) : i.natAbs.log2 < 1920 := by
  have : i.natAbs < 2 ^ 1920 := Nat.lt_of_lt_of_le (by omega : i.natAbs < 2 ^ 20) (Nat.pow_le_pow_right (by omega) (by omega))
  by_cases h0 : i.natAbs = 0
  · rw [h0]; decide
  · exact (Nat.log2_lt h0).mpr this
theorem sd_int {i : Int} (h1 : 0 ≤ i) (h2 : i < 1000000) : Sd 1921 0 (.int i) := ⟨decide_eq_true (log_small h1 h2), by simp [shW], rfl, by simp [dep]⟩
theorem sd_name {x : Str} (h : NameOk x) : Sd 82 0 (.str x) := ⟨by
    simp only [shB]
    refine List.all_eq_true.mpr fun c hc => decide_eq_true ?_
    have := h.ch c hc
    unfold Letter at this
    omega, by
    simp only [shW]
    have := h.hi
    have e : (cs x).length = x.length := by
      show x.cps.toList.length = x.cps.size
      simp
    omega, rfl, by simp [dep]⟩
theorem sd_ints {xs : List Int} {C m : Nat} (h : ∀ x ∈ xs, 0 ≤ x ∧ x < 1000000) (hl : xs.length ≤ C) (hm : C * 1923 + 4 ≤ m) : Sd m 1 (tupI xs) := by
  refine Sd.tup (n := 1921) (C := C) (fun d hd => ?_) (by rw [List.length_map]; exact hl) hm
  obtain ⟨x, hx, rfl⟩ := List.mem_map.mp hd
  exact sd_int (h x hx).1 (h x hx).2
theorem sd_names {xs : List Str} (h : ∀ x ∈ xs, NameOk x) (hl : xs.length ≤ 4) : Sd 340 1 (tupS xs) := by
  refine Sd.tup (n := 82) (C := 4) (fun d hd => ?_) (by rw [List.length_map]; exact hl) (by decide)
  obtain ⟨x, hx, rfl⟩ := List.mem_map.mp hd
  exact sd_name (h x hx)
theorem three {P : D → Prop} {x y z : D} (hx : P x) (hy : P y) (hz : P z) : ∀ d ∈ [x, y, z], P d := fun d hd => by
  simp only [List.mem_cons, List.not_mem_nil, or_false] at hd
  rcases hd with rfl | rfl | rfl <;> assumption
theorem two {P : D → Prop} {x y : D} (hx : P x) (hy : P y) : ∀ d ∈ [x, y], P d := fun d hd => by
  simp only [List.mem_cons, List.not_mem_nil, or_false] at hd
  rcases hd with rfl | rfl <;> assumption
theorem one {P : D → Prop} {x : D} (hx : P x) : ∀ d ∈ [x], P d := fun d hd => by
  simp only [List.mem_cons, List.not_mem_nil, or_false] at hd
  rcases hd with rfl; assumption

theorem sd_place {n : Nat} {p : Place} (h : PlQ n p) (hn : n ≤ 4) : Sd 207706 2 p.d := by
  have hm : ∀ x ∈ p.marks, NameOk x := fun x hx => by
    have h1 := h.mr
    unfold risB at h1
    rw [Bool.and_eq_true] at h1
    exact nameB_iff.mp (List.all_eq_true.mp h1.1 x hx)
  have h36 : p.nexts.length ≤ 36 := by have := h.nl; have := h.pz; omega
  refine Sd.tup (n := 69232) (C := 3) (three ((sd_names hm h.ml).mono (by decide) (Nat.le_refl _)) ((sd_ints (C := 4) (m := 7696) (fun c hc => by have := h.cn c hc; omega) (by have := h.cl; omega) (by decide)).mono (by decide) (Nat.le_refl _)) (sd_ints (C := 36) (fun c hc => by have := h.nx c hc; omega) h36 (by decide))) (Nat.le_refl _) (by decide)
theorem repr_arena {a : Arena} (h : ArQ a) : ∃ x : Str, reprD [a.d] = some (.str x) := by
  have hm : ∀ x ∈ a.names, NameOk x := fun x hx => by
    have h1 := h.nm
    unfold risB at h1
    rw [Bool.and_eq_true] at h1
    exact nameB_iff.mp (List.all_eq_true.mp h1.1 x hx)
  refine Sd.rep (n := 4154180) (k := 4) (Sd.tup (n := 2077084) (C := 2) (two ((sd_names hm h.n4).mono (by decide) (by decide)) (Sd.tup (n := 207706) (C := 10) (fun d hd => ?_) (by rw [List.length_map]; exact h.p10) (by decide))) (Nat.le_refl _) (by decide)) (by decide) (by decide)
  obtain ⟨p, hp, rfl⟩ := List.mem_map.mp hd
  exact sd_place (h.pl p hp) h.n4
end L_k76
end
section
set_option Elab.async false
set_option linter.all false
set_option maxRecDepth 100000
set_option maxHeartbeats 4000000
set_option autoImplicit false
namespace L_k76
open PySem PD
theorem runT_rt {n : Nat} {f : M Rx → S} {c : M Rx} {g g' : G} {d : D} (h : f c (slotsT n) g = some (.rt d, g')) : runT n f c g = some (d, g') := by
  unfold runT
  rw [h]
theorem cFn0 (c : M Rx) (ρ : Rho) : cFn 0 c (some .fn :: ρ) = c := rfl
/-! ### _law_error -/
theorem error_xc {c : M Rx} {g g1 : G} {nm fl : Str} {d : D} (K : subXs xt nm ["Refused", "Barred", "Beyond"] = some true) (h : c g = some (.xc nm fl d, g1)) : F__law_error c g = some (.hd g1.length, g1 ++ [.mx nm fl d]) := by
  have hx : ∀ ρ, hX nm fl d [⟨fun nm => subXs xt nm ["Refused", "Barred", "Beyond"], 2, sSet 1 (eVar 2)⟩] ρ g1 = (sSet 1 (eVar 2) (setR ρ 2 (.hd g1.length)) (g1 ++ [.mx nm fl d])).bind fun q => (goneF 2 q.1).map fun fl => (fl, q.2) := fun ρ => hX_t K
  refine runT_rt ?_
  simp -implicitDefEqProofs [s__law_error, slotsT, cFn0, h, hx, setR]
theorem is_at {tab : Str → Option Bool} {g : G} {n : Nat} {nm f : Str} {v : D} (h : g[n]? = some (.mx nm f v)) : isX tab g (.hd n) = (tab nm).map .bl := by
  show (match g[n]? with
    | some (.mx nm _ _) => (tab nm).map D.bl
    | _ => none) = _
  rw [h]
theorem at_at {ok : Str → Bool} {g : G} {n : Nat} {nm f f' : Str} {v : D} (h : g[n]? = some (.mx nm f' v)) (h1 : f' = f) (h2 : ok nm = true) : atX ok f g (.hd n) = some v := by
  show (match g[n]? with
    | some (.mx nm f' v) => if f' = f ∧ ok nm = true then some v else none
    | _ => none) = _
  rw [h]
  exact if_pos ⟨h1, h2⟩
theorem kL1 : subXs xt "BadLine" ["Refused", "Barred", "Beyond"] = some true := by decide +kernel
theorem kL2 : subX xt "BadLine" "BadLine" = some true := by decide +kernel
theorem kL3 : subX xt "BadLine" "ValueError" = some true := by decide +kernel
theorem kL4 : hasF xt "line" "BadLine" = true := by decide +kernel
theorem line_ok {g : G} {n : Nat} {v : D} (h : g[n]? = some (.mx "BadLine" "line" v)) : F__law_line [.hd n] g = some (v, g) := by
  refine runF_rt ?_
  have i1 : isX (fun nm => subX xt nm "BadLine") g (.hd n) = some (.bl true) := by rw [is_at h, kL2]; rfl
  have i2 : isX (fun nm => subX xt nm "ValueError") g (.hd n) = some (.bl true) := by rw [is_at h, kL3]; rfl
  have i3 := at_at (ok := hasF xt "line") h rfl kL4
  have n1 : isND (.hd n) .non = some false := rfl
  simp -implicitDefEqProofs [s__law_line, slots0, n1, i1, i2, i3]

theorem error_ok {c : M Rx} {g g1 : G} {d : D} (h : c g = some (.ok d, g1)) : F__law_error c g = some (.non, g1) := by
  refine runT_rt ?_
  simp -implicitDefEqProofs [s__law_error, slotsT, cFn0, h, setR]
/-! ### the lines of the errors are above zero -/
theorem placeP_pos {R : Rw} {i n l : Nat} (h : placeP R i n = .error l) : 1 ≤ l := by
  unfold placeP at h
  cases hb : behP R i "place" with
  | none => rw [hb] at h; cases h; omega
  | some ms =>
    rw [hb] at h
    have h : (if 4 < ms.length ∨ risB ms = false then Except.error (i + 1) else match numsP R (i + 1) "moves" 1 3 with
      | none => .error (i + 2)
      | some cs => if cs.length ≠ n ∨ 36 < prodZ cs then .error (i + 2) else match numsP R (i + 2) "next" 0 999999 with
        | none => .error (i + 3)
        | some xs => if (xs.length : Int) ≠ prodZ cs then .error (i + 3) else .ok (⟨ms, cs, xs⟩ : Place)) = .error l := h
    by_cases q : 4 < ms.length ∨ risB ms = false
    · rw [if_pos q] at h; cases h; omega
    · rw [if_neg q] at h
      cases hc : numsP R (i + 1) "moves" 1 3 with
      | none => rw [hc] at h; cases h; omega
      | some cs =>
        rw [hc] at h
        have h : (if cs.length ≠ n ∨ 36 < prodZ cs then Except.error (i + 2) else match numsP R (i + 2) "next" 0 999999 with
          | none => .error (i + 3)
          | some xs => if (xs.length : Int) ≠ prodZ cs then .error (i + 3) else .ok (⟨ms, cs, xs⟩ : Place)) = .error l := h
        by_cases q2 : cs.length ≠ n ∨ 36 < prodZ cs
        · rw [if_pos q2] at h; cases h; omega
        · rw [if_neg q2] at h
          cases hx : numsP R (i + 2) "next" 0 999999 with
          | none => rw [hx] at h; cases h; omega
          | some xs =>
            rw [hx] at h
            have h : (if (xs.length : Int) ≠ prodZ cs then Except.error (i + 3) else .ok (⟨ms, cs, xs⟩ : Place)) = .error l := h
            by_cases q3 : (xs.length : Int) = prodZ cs
            · rw [if_neg (fun z => z q3)] at h; cases h
            · rw [if_pos q3] at h; cases h; omega
theorem loopP_pos {R : Rw} {n : Nat} : ∀ (m i : Nat) (ps : List Place) {l : Nat}, loopP R n m i ps = .error l → 1 ≤ l
  | 0, i, ps, l, h => by cases h
  | m + 1, i, ps, l, h => by
    unfold loopP at h
    by_cases q : (behP R i "place").isSome = true ∧ ps.length < 10
    · rw [if_pos q] at h
      cases hq : placeP R i n with
      | error l => rw [hq] at h; cases h; exact placeP_pos hq
      | ok p => rw [hq] at h; exact loopP_pos m (i + 3) (ps ++ [p]) h
    · rw [if_neg q] at h; cases h
theorem arenaP_pos {R : Rw} {l : Nat} (h : arenaP R = .error l) : 1 ≤ l := by
  unfold arenaP at h
  cases hb : behP R 0 "players" with
  | none => rw [hb] at h; cases h; omega
  | some ns =>
    rw [hb] at h
    have h : (if ¬ (1 ≤ ns.length ∧ ns.length ≤ 4) ∨ risB ns = false then Except.error 1 else match placeP R 1 ns.length with
      | .error l => .error l
      | .ok p => match loopP R ns.length 12 4 [p] with
        | .error l => .error l
        | .ok q => .ok ((⟨ns, q.1⟩ : Arena), q.2)) = .error l := h
    by_cases c : ¬ (1 ≤ ns.length ∧ ns.length ≤ 4) ∨ risB ns = false
    · rw [if_pos c] at h; cases h; omega
    · rw [if_neg c] at h
      cases hp : placeP R 1 ns.length with
      | error l => rw [hp] at h; cases h; exact placeP_pos hp
      | ok p =>
        rw [hp] at h
        have h : (match loopP R ns.length 12 4 [p] with
          | .error l => Except.error l
          | .ok q => .ok ((⟨ns, q.1⟩ : Arena), q.2)) = .error l := h
        cases hq : loopP R ns.length 12 4 [p] with
        | error l => rw [hq] at h; cases h; exact loopP_pos 12 4 [p] hq
        | ok r => rw [hq] at h; cases h
theorem lateP_pos {n : Nat} : ∀ {k : Nat} {ps : List Place} {l : Nat}, lateP n k ps = some l → 1 ≤ l
  | k, [], l, h => by cases h
  | k, p :: ps, l, h => by
    unfold lateP at h
    split at h
    · cases h; omega
    · exact lateP_pos h
/-! ### a text is read right -/
def cIn : CM := cCall X_arena_in (aCons (eVar 0) aNil)
theorem lam_any {x : Str} (hx : x.length ≤ 1000000) {ρ : Rho} {g : G} (hv : dAt (onlyD ρ) 0 = some (.str x)) (ht : tabAt g 0 "_law_read_right" = true) :
    eLam 0 "_law_read_right" F__law_error cIn ρ g = some (match readP x with
      | .error l => (.hd g.length, g ++ [.mx "BadLine" "line" (.int (l : Int))])
      | .ok _ => (.non, g)) := by
  have e := arenaIn_any hx g
  rw [eLam_at ht]
  have c : cIn (onlyD ρ) g = some (rdX (readP x), g) := by
    unfold cIn
    rw [cCall_ap]
    simp -implicitDefEqProofs [hv, e]
  unfold rdX at c
  generalize readP x = RP at *
  cases RP with
  | error l => exact error_xc kL1 c
  | ok a => exact error_ok c
theorem rr_eq : s__law_read_right = (sSeq (sSet 1 (eCall F__law_rows (aCons (eVar 0) aNil)))
  (sSeq (sAsg (bTup (bsCons (bName 2) (bsCons (bName 3) (bsCons (bName 4) bsNil)))) (eCall F__law_ground_told (aCons (eVar 1) aNil)))
  (sSeq (sIf (tCmp eqD (eVar 4) (eC (.int 0))) (sSet 4 (eIf (tCmp ltD (eVar 3) (eBi lenD (aCons (eVar 1) aNil))) (eOp addD (eVar 3) (eC (.int 1))) (eCall F__law_late (aCons (eVar 2) aNil)))) sNil)
  (sSeq (sSet 5 (eLam 0 "_law_read_right" F__law_error cIn))
  (sSeq (sIf (tCmp gtD (eVar 4) (eC (.int 0))) (sRet (eCmp eqD (eCall F__law_line (aCons (eVar 5) aNil)) (eVar 4))) sNil)
  (sRet (eAnd (eCmp isND (eVar 5) (eC .non)) (eCmp eqD (eBi reprD (aCons (fOk cIn) aNil)) (eBi reprD (aCons (eVar 2) aNil)))))))))) := rfl
theorem readRight_any {x : Str} (hx : x.length ≤ 1000000) {g : G} (ht : tabAt g 0 "_law_read_right" = true) : ∃ r : G, F__law_read_right [.str x] g = some (.bl true, g ++ r) := by
  have hR := rowsT_rt hx
  have lr := lawRows_any hx g
  have gr := ground_any hR g
  have ln := len_R (rowsT x)
  have ar := arenaIn_any hx g
  -- where an error is due
  have bad : ∀ (l : Nat), readP x = .error l → 1 ≤ l → ∀ (y1 y2 y3 : D), ((sSeq (sSet 5 (eLam 0 "_law_read_right" F__law_error cIn))
      (sSeq (sIf (tCmp gtD (eVar 4) (eC (.int 0))) (sRet (eCmp eqD (eCall F__law_line (aCons (eVar 5) aNil)) (eVar 4))) sNil)
      (sRet (eAnd (eCmp isND (eVar 5) (eC .non)) (eCmp eqD (eBi reprD (aCons (fOk cIn) aNil)) (eBi reprD (aCons (eVar 2) aNil))))))) : S) [some (.d (.str x)), some (.d y1), some (.d y2), some (.d y3), some (.d (.int (l : Int))), none] g = some (.rt (.bl true), g ++ [.mx "BadLine" "line" (.int (l : Int))]) := fun l hl h1 y1 y2 y3 => by
    have la := lam_any hx (ρ := [some (.d (.str x)), some (.d y1), some (.d y2), some (.d y3), some (.d (.int (l : Int))), none]) (g := g) rfl ht
    rw [hl] at la
    have la : eLam 0 "_law_read_right" F__law_error cIn [some (.d (.str x)), some (.d y1), some (.d y2), some (.d y3), some (.d (.int (l : Int))), none] g = some (.hd g.length, g ++ [.mx "BadLine" "line" (.int (l : Int))]) := la
    have gt : gtD (.int (l : Int)) (.int 0) = some true := by
      rw [gtD_int, decide_eq_true (by omega)]
    have li := line_ok (g := g ++ [MO.mx "BadLine" "line" (.int (l : Int))]) (n := g.length) (v := .int (l : Int)) (by simp)
    have eq := eqD_int (l : Int) (l : Int)
    rw [decide_eq_true rfl] at eq
    generalize eLam 0 "_law_read_right" F__law_error cIn = EL at *
    generalize g ++ [MO.mx "BadLine" "line" (.int (l : Int))] = G2 at *
    generalize g.length = GL at *
    simp -implicitDefEqProofs [la, gt, li, eq]
  have hrd : readP x = (match arenaP (rowsT x) with
    | .error l => .error l
    | .ok q => if q.2 < (rowsT x).length then .error (q.2 + 1) else match lateP q.1.places.length 0 q.1.places with
      | some l => .error l
      | none => .ok q.1) := rfl
  unfold gdX at gr
  cases hA : arenaP (rowsT x) with
  | error l =>
    rw [hA] at gr hrd
    have gr : F__law_ground_told [RL (rowsT x)] g = some (.tup [.non, .int 0, .int (l : Int)], g) := gr
    have h1 := arenaP_pos hA
    have b := bad l hrd h1 (RL (rowsT x)) .non (.int 0)
    have e0 := eqD_int (l : Int) 0
    rw [decide_eq_false (by omega)] at e0
    refine ⟨[.mx "BadLine" "line" (.int (l : Int))], runF_rt ?_⟩
    rw [rr_eq]
    have bt : bTup (bsCons (bName 2) (bsCons (bName 3) (bsCons (bName 4) bsNil))) (D.tup [.non, .int 0, .int (l : Int)]) [some (.d (.str x)), some (.d (RL (rowsT x))), none, none, none, none] = some [some (.d (.str x)), some (.d (RL (rowsT x))), some (.d .non), some (.d (.int 0)), some (.d (.int (l : Int))), none] := rfl
    clear bad
    generalize (sSeq (sSet 5 (eLam 0 "_law_read_right" F__law_error cIn)) (sSeq (sIf (tCmp gtD (eVar 4) (eC (.int 0))) (sRet (eCmp eqD (eCall F__law_line (aCons (eVar 5) aNil)) (eVar 4))) sNil) (sRet (eAnd (eCmp isND (eVar 5) (eC .non)) (eCmp eqD (eBi reprD (aCons (fOk cIn) aNil)) (eBi reprD (aCons (eVar 2) aNil))))))) = SS at *
    generalize RL (rowsT x) = RD at *
    simp -implicitDefEqProofs [slots0, lr, gr, bt, e0, b]
  | ok q =>
    rw [hA] at gr hrd
    have gr : F__law_ground_told [RL (rowsT x)] g = some (.tup [q.1.d, .int (q.2 : Int), .int 0], g) := gr
    have hQ := arenaP_ok hA
    have e0 : eqD (.int 0) (.int 0) = some true := by rw [eqD_int]; rfl
    have bt : bTup (bsCons (bName 2) (bsCons (bName 3) (bsCons (bName 4) bsNil))) (D.tup [q.1.d, .int (q.2 : Int), .int 0]) [some (.d (.str x)), some (.d (RL (rowsT x))), none, none, none, none] = some [some (.d (.str x)), some (.d (RL (rowsT x))), some (.d q.1.d), some (.d (.int (q.2 : Int))), some (.d (.int 0)), none] := rfl
    have lt : ltD (.int (q.2 : Int)) (.int ((rowsT x).length : Int)) = some (decide (q.2 < (rowsT x).length)) := by
      show some (decide ((q.2 : Int) < ((rowsT x).length : Int))) = _
      congr 1
      exact decide_eq_decide.mpr (by omega)
    have hrd : readP x = (if q.2 < (rowsT x).length then .error (q.2 + 1) else match lateP q.1.places.length 0 q.1.places with
      | some l => .error l
      | none => .ok q.1) := hrd
    by_cases c : q.2 < (rowsT x).length
    · rw [if_pos c] at hrd
      rw [decide_eq_true c] at lt
      have b := bad (q.2 + 1) hrd (by omega) (RL (rowsT x)) q.1.d (.int (q.2 : Int))
      have c1 : ((q.2 + 1 : Nat) : Int) = (q.2 : Int) + 1 := by omega
      rw [c1] at b
      refine ⟨[.mx "BadLine" "line" (.int ((q.2 : Int) + 1))], runF_rt ?_⟩
      rw [rr_eq]
      clear bad c hrd
      generalize (sSeq (sSet 5 (eLam 0 "_law_read_right" F__law_error cIn)) (sSeq (sIf (tCmp gtD (eVar 4) (eC (.int 0))) (sRet (eCmp eqD (eCall F__law_line (aCons (eVar 5) aNil)) (eVar 4))) sNil) (sRet (eAnd (eCmp isND (eVar 5) (eC .non)) (eCmp eqD (eBi reprD (aCons (fOk cIn) aNil)) (eBi reprD (aCons (eVar 2) aNil))))))) = SS at *
      generalize RL (rowsT x) = RD at *
      generalize q.1.d = AD at *
      generalize ((rowsT x).length : Int) = LN at *
      simp -implicitDefEqProofs [slots0, lr, gr, bt, e0, ln, lt, setR, b]
    · rw [if_neg c] at hrd
      rw [decide_eq_false c] at lt
      have la := lawLate_any (a := q.1) (fun p hp => (hQ.pl p hp).ne) hQ.p10 g
      cases hL : lateP q.1.places.length 0 q.1.places with
      | some l =>
        rw [hL] at hrd la
        have la : F__law_late [q.1.d] g = some (.int (l : Int), g) := la
        have b := bad l hrd (lateP_pos hL) (RL (rowsT x)) q.1.d (.int (q.2 : Int))
        refine ⟨[.mx "BadLine" "line" (.int (l : Int))], runF_rt ?_⟩
        rw [rr_eq]
        clear bad c hrd hL
        generalize (sSeq (sSet 5 (eLam 0 "_law_read_right" F__law_error cIn)) (sSeq (sIf (tCmp gtD (eVar 4) (eC (.int 0))) (sRet (eCmp eqD (eCall F__law_line (aCons (eVar 5) aNil)) (eVar 4))) sNil) (sRet (eAnd (eCmp isND (eVar 5) (eC .non)) (eCmp eqD (eBi reprD (aCons (fOk cIn) aNil)) (eBi reprD (aCons (eVar 2) aNil))))))) = SS at *
        generalize RL (rowsT x) = RD at *
        generalize q.1.d = AD at *
        generalize ((rowsT x).length : Int) = LN at *
        simp -implicitDefEqProofs [slots0, lr, gr, bt, e0, ln, lt, la, setR, b]
      | none =>
        rw [hL] at hrd la
        have la : F__law_late [q.1.d] g = some (.int 0, g) := la
        have hrd : readP x = .ok q.1 := hrd
        have lm := lam_any hx (ρ := [some (.d (.str x)), some (.d (RL (rowsT x))), some (.d q.1.d), some (.d (.int (q.2 : Int))), some (.d (.int 0)), none]) (g := g) rfl ht
        rw [hrd] at lm ar
        have lm : eLam 0 "_law_read_right" F__law_error cIn [some (.d (.str x)), some (.d (RL (rowsT x))), some (.d q.1.d), some (.d (.int (q.2 : Int))), some (.d (.int 0)), none] g = some (.non, g) := lm
        have ar : X_arena_in [.str x] g = some (.ok q.1.d, g) := ar
        obtain ⟨X, rx⟩ := repr_arena hQ
        have gt : gtD (.int 0) (.int 0) = some false := rfl
        have n1 : isND .non .non = some true := rfl
        have eq : eqD (.str X) (.str X) = some true := by rw [eqD_strs, decide_eq_true rfl]
        have cc : cIn [some (.d (.str x)), some (.d (RL (rowsT x))), some (.d q.1.d), some (.d (.int (q.2 : Int))), some (.d (.int 0)), some (.d .non)] g = some (.ok q.1.d, g) := by
          unfold cIn
          generalize RL (rowsT x) = RD at *
          generalize q.1.d = AD at *
          simp -implicitDefEqProofs [ar]
        have cf := fOk_ok cc
        refine ⟨[], runF_rt ?_⟩
        rw [rr_eq, List.append_nil]
        clear bad c hrd hL cc
        generalize eLam 0 "_law_read_right" F__law_error cIn = EL at *
        generalize fOk cIn = FO at *
        generalize RL (rowsT x) = RD at *
        generalize q.1.d = AD at *
        generalize ((rowsT x).length : Int) = LN at *
        simp -implicitDefEqProofs [slots0, lr, gr, bt, e0, ln, lt, la, setR, lm, gt, n1, cf, rx, eq]
end L_k76
end
section
set_option Elab.async false
set_option linter.all false
set_option maxRecDepth 100000
set_option maxHeartbeats 4000000
set_option autoImplicit false
namespace L_k76
open PySem PD
/-! ### lines that are bent -/
structure Lq (m : Nat) (l : Str) : Prop where
  len : l.length ≤ m
  ch : ∀ c ∈ cs l, c < 1000
theorem Lq.mono {m n : Nat} {l : Str} (h : Lq m l) (hn : m ≤ n) : Lq n l := ⟨Nat.le_trans h.len hn, h.ch⟩
structure Lns (n m : Nat) (ls : List Str) : Prop where
  ln : ls.length ≤ n
  li : ∀ l ∈ ls, Lq m l
def SL (ls : List Str) : D := .lst (ls.map .str)
def WS : List Str → Nat
  | [] => 0
  | w :: ws => w.length + 1 + WS ws
theorem WS_app : ∀ a b : List Str, WS (a ++ b) = WS a + WS b
  | [], b => by simp [WS]
  | w :: a, b => by
    have := WS_app a b
    simp only [List.cons_append, WS]
    omega
theorem WS_td (ws : List Str) (i : Nat) : WS (ws.take i) + WS (ws.drop i) = WS ws := by
  rw [← WS_app, List.take_append_drop]
theorem WS_rev : ∀ ws : List Str, WS ws.reverse = WS ws
  | [] => rfl
  | w :: ws => by
    rw [List.reverse_cons, WS_app, WS_rev ws]
    simp only [WS]
    omega
theorem WS_set : ∀ (ws : List Str) (i : Nat) (w : Str), WS (ws.set i w) ≤ WS ws + (w.length + 1)
  | [], i, w => by simp [WS]
  | v :: ws, 0, w => by simp only [List.set_cons_zero, WS]; omega
  | v :: ws, i + 1, w => by
    have := WS_set ws i w
    simp only [List.set_cons_succ, WS]
    omega
theorem WS_erase : ∀ (ws : List Str) (i : Nat), WS (ws.eraseIdx i) ≤ WS ws
  | [], i => by simp [WS]
  | v :: ws, 0 => by simp only [List.eraseIdx_cons_zero, WS]; omega
  | v :: ws, i + 1 => by
    have := WS_erase ws i
    simp only [List.eraseIdx_cons_succ, WS]
    omega
theorem WS_len : ∀ ws : List Str, ws.length ≤ WS ws
  | [] => Nat.le_refl _
  | w :: ws => by
    have := WS_len ws
    simp only [WS, List.length_cons]
    omega
theorem WS_spl (c : Nat) : ∀ (r acc : List Nat), WS ((splC c acc r).map ofCs) = acc.length + r.length + 1
  | [], acc => by
    show (ofCs acc).length + 1 + 0 = _
    rw [ofCs_len]
    simp
  | d :: r, acc => by
    unfold splC
    by_cases h : d = c
    · rw [if_pos h, List.map_cons]
      have := WS_spl c r []
      simp only [WS, ofCs_len, List.length_cons, List.length_nil] at this ⊢
      omega
    · rw [if_neg h, WS_spl c r (acc ++ [d])]
      simp only [List.length_append, List.length_cons, List.length_nil]
      omega
theorem WS_split (c : Nat) (l : Str) : WS (splitS c l) = l.length + 1 := by
  unfold splitS
  rw [WS_spl, cs_len]
  simp
def joinS (ws : List Str) : Str := ofCs (joinC [32] (ws.map cs))
theorem joinC_ws : ∀ ws : List Str, (joinC [32] (ws.map cs)).length ≤ WS ws
  | [] => Nat.le_refl _
  | [w] => by
    show (cs w).length ≤ _
    rw [cs_len]
    simp only [WS]
    omega
  | w :: v :: ws => by
    have := joinC_ws (v :: ws)
    show (cs w ++ ([32] ++ joinC [32] ((v :: ws).map cs))).length ≤ _
    rw [List.length_append, List.length_append, cs_len]
    simp only [WS, List.length_cons, List.length_nil] at this ⊢
    omega
theorem joinS_lq {ws : List Str} (h : ∀ w ∈ ws, ∀ c ∈ cs w, c < 1000) : Lq (WS ws) (joinS ws) := by
  refine ⟨?_, fun c hc => ?_⟩
  · unfold joinS
    rw [ofCs_len]
    exact joinC_ws ws
  · rcases joinC_mem (show c ∈ joinC [32] (ws.map cs) from hc) with h1 | ⟨p, hp, h1⟩
    · rw [List.mem_singleton.mp h1]; decide
    · obtain ⟨w, hw, rfl⟩ := List.mem_map.mp hp
      exact h w hw c h1
theorem sum_ws : ∀ ws : List Str, (ws.map (·.length)).sum + ws.length = WS ws
  | [] => rfl
  | w :: ws => by
    have := sum_ws ws
    simp only [List.map_cons, List.sum_cons, List.length_cons, WS]
    omega
theorem join_sp {ws : List Str} (h : WS ws ≤ 1000000) : joinD (.str " ") (SL ws) = some (.str (joinS ws)) := by
  show ((strsD (ws.map .str)).bind fun xs => if (xs.map (·.length)).sum + xs.length * (Str.ofString " ").length ≤ sizeLine then some (D.str (ofCs (joinC (cs (Str.ofString " ")) (xs.map cs)))) else none) = _
  rw [strsD_map, Option.bind_some]
  have h2 : (Str.ofString " ").length = 1 := by rfl
  have h3 : cs (Str.ofString " ") = [32] := by rfl
  have hs := sum_ws ws
  rw [if_pos (by rw [sizeLine_eq, h2]; omega), h3]
  rfl
theorem sl_at {ls : List Str} {i : Nat} (h : i < ls.length) (g : G) : ixD g (SL ls) (.int (i : Int)) = some (.str ls[i]) := by
  show L2.atI (ls.map D.str) (i : Int) = _
  rw [atI_of (by omega) (by rw [List.length_map]; omega), List.getElem?_map, Int.toNat_natCast, List.getElem?_eq_getElem h]
  rfl
theorem sl_take (ls : List Str) (i : Nat) : slD (SL ls) none (some (i : Int)) = some (SL (ls.take i)) := by
  have := cut_to (ls.map D.str) i
  rw [← List.map_take] at this
  exact this
theorem sl_drop (ls : List Str) (i : Nat) : slD (SL ls) (some (i : Int)) none = some (SL (ls.drop i)) := by
  show some (D.lst (cutL (ls.map D.str) (some (i : Int)) none)) = _
  have : cutL (ls.map D.str) (some (i : Int)) none = (ls.drop i).map D.str := by
    unfold cutL
    rw [HT.sIx_none, HT.sIx_nat, List.map_drop]
    by_cases h : i ≤ (ls.map D.str).length
    · rw [Nat.min_eq_left h]
      exact List.take_of_length_le (by rw [List.length_drop]; exact Nat.le_refl _)
    · rw [Nat.min_eq_right (by omega), List.drop_length, List.take_nil, List.drop_eq_nil_of_le (by omega)]
  rw [this]
  rfl
theorem sl_add {a b : List Str} (h : a.length + b.length ≤ 1000000) : addD (SL a) (SL b) = some (SL (a ++ b)) := by
  have : addD (.lst (a.map D.str)) (.lst (b.map D.str)) = some (.lst (a.map D.str ++ b.map D.str)) := if_pos (by rw [List.length_map, List.length_map, sizeLine_eq]; omega)
  rw [← List.map_append] at this
  exact this
theorem take_li {P : Str → Prop} {ls : List Str} (h : ∀ l ∈ ls, P l) (i : Nat) : ∀ l ∈ ls.take i, P l := fun l hl => h l (List.mem_of_mem_take hl)
theorem drop_li {P : Str → Prop} {ls : List Str} (h : ∀ l ∈ ls, P l) (i : Nat) : ∀ l ∈ ls.drop i, P l := fun l hl => h l (List.mem_of_mem_drop hl)
theorem app_li {P : Str → Prop} {a b : List Str} (ha : ∀ l ∈ a, P l) (hb : ∀ l ∈ b, P l) : ∀ l ∈ a ++ b, P l := fun l hl => (List.mem_append.mp hl).elim (ha l) (hb l)
theorem one_li {P : Str → Prop} {x : Str} (h : P x) : ∀ l ∈ [x], P l := fun l hl => by rw [List.mem_singleton.mp hl]; exact h
/-! str.replace -/
theorem dbl_sub {c k : Nat} : ∀ {l : List Nat}, c ∈ PySem.StrLaws.dbl k l → c ∈ l
  | [], h => by cases h
  | d :: l, h => by
    unfold PySem.StrLaws.dbl at h
    split at h
    · rcases List.mem_cons.mp h with rfl | h
      · exact List.mem_cons_self
      · rcases List.mem_cons.mp h with rfl | h
        · exact List.mem_cons_self
        · exact List.mem_cons_of_mem _ (dbl_sub h)
    · rcases List.mem_cons.mp h with rfl | h
      · exact List.mem_cons_self
      · exact List.mem_cons_of_mem _ (dbl_sub h)
theorem repl_lq {m : Nat} {l : Str} (h : Lq m l) (hm : m ≤ 100000) : replD " " "  " (.str l) = some (.str (Txt.replace l " " "  ")) ∧ Lq (3 * m + 3) (Txt.replace l " " "  ") := by
  have hl := TK.replace_len l " " "  "
  have h2 : (Str.ofString "  ").length = 2 := by rfl
  have h2' : ("  " : Str).length = 2 := h2
  have hr : ∀ c ∈ cs (Txt.replace l " " "  "), c < 1000 := fun c hc => by
    have e : (Txt.replace l " " "  ").cps.toList = PySem.StrLaws.dbl 32 l.cps.toList := PySem.StrLaws.replace_double l 32
    have hc : c ∈ PySem.StrLaws.dbl 32 l.cps.toList := by rw [← e]; exact hc
    exact h.ch c (dbl_sub hc)
  have hlen : (Txt.replace l " " "  ").length ≤ 3 * m + 3 := by
    have := h.len
    rw [h2'] at hl
    omega
  refine ⟨?_, hlen, hr⟩
  have so : sOk (Txt.replace l " " "  ") = true := by
    unfold sOk PyData.strOk
    rw [Bool.and_eq_true]
    refine ⟨?_, decide_eq_true (by rw [sizeLine_eq]; omega)⟩
    rw [← Array.all_toList]
    exact List.all_eq_true.mpr fun c hc => decide_eq_true (by have := hr c hc; omega)
  show (if l.length + (l.length + 1) * ("  " : Str).length ≤ 16777216 ∧ sOk (Txt.replace l " " "  ") = true then some (D.str (Txt.replace l " " "  ")) else none) = _
  rw [if_pos ⟨by rw [h2']; have := h.len; omega, so⟩]
@[simp] theorem sSetO_ap (i : Nat) (b f : E) {ρ : Rho} {g : G} : sSetO i b f ρ g = (f ρ g).bind fun p => (b ρ p.2).bind fun q => ((match q.1 with
  | .int k => (olAt ρ i).bind fun l => (L2.ixN l.length k).map fun j => Fl.nx (ρ.set i (some (.ol (l.set j p.1))))
  | _ => none : Option Fl)).map fun fl => (fl, q.2) := by
  unfold sSetO
  rw [mb_ap]
  congr 1
  funext p
  rw [mb_ap]
  congr 1
  funext q
  exact ml_ap _ _
/-! ### what is done with a line -/
noncomputable def bnF : S := (sFrz 6 (sRet (eOp addD (eOp addD (eSl (eVar 1) pNone (pSome (eVar 4))) (eLst (aCons (eJoin (eC (.str " ")) (eVar 6)) aNil))) (eSl (eVar 1) (pSome (eOp addD (eVar 4) (eC (.int 1)))) pNone))))
theorem put_line {ls : List Str} {x : Str} {n m k : Nat} (h : Lns n m ls) (hk : Lq k x) (i : Nat) (hmk : m ≤ k) (hn : 1 ≤ n) (hi : i < ls.length) : Lns n k (ls.take i ++ [x] ++ ls.drop (i + 1)) := by
  refine ⟨?_, app_li (app_li (fun l hl => (take_li h.li i l hl).mono hmk) (one_li hk)) fun l hl => (drop_li h.li (i + 1) l hl).mono hmk⟩
  have := h.ln
  simp only [List.length_append, List.length_take, List.length_drop, List.length_singleton]
  omega
theorem bnF_ok {ls ws : List Str} {n m k i : Nat} (h : Lns n m ls) (hi : i < ls.length) (hn : n ≤ 400000) (hw : WS ws ≤ k) (hk : k ≤ 1000000) (hmk : m ≤ k) (hc : ∀ w ∈ ws, ∀ c ∈ cs w, c < 1000) {x0 x2 x3 x5 x7 x8 x9 : Option LV} {lv : LV} (hl : lv = .ol (ws.map .str) ∨ lv = .d (SL ws)) (g : G) :
    ∃ ls', bnF [x0, some (.d (SL ls)), x2, x3, some (.d (.int (i : Int))), x5, some lv, x7, x8, x9] g = some (.rt (SL ls'), g) ∧ Lns n k ls' := by
  have sz := sizeLine_eq
  have hln := h.ln
  have jl := joinS_lq hc
  have js := join_sp (ws := ws) (by omega)
  have tk := sl_take ls i
  have dp := sl_drop ls (i + 1)
  have c1 : ((i + 1 : Nat) : Int) = (i : Int) + 1 := by omega
  rw [c1] at dp
  have e1 : D.lst [D.str (joinS ws)] = SL [joinS ws] := rfl
  have a1 := sl_add (a := ls.take i) (b := [joinS ws]) (by rw [List.length_take, List.length_singleton]; omega)
  have a2 := sl_add (a := ls.take i ++ [joinS ws]) (b := ls.drop (i + 1)) (by rw [List.length_append, List.length_take, List.length_drop, List.length_singleton]; omega)
  have z1 : ∀ x : D, szD 1 x = some x := fun x => if_pos (by omega)
  refine ⟨ls.take i ++ [joinS ws] ++ ls.drop (i + 1), ?_, put_line h (jl.mono hw) i hmk (by omega) hi⟩
  generalize SL (ls.take i ++ [joinS ws] ++ ls.drop (i + 1)) = R3 at *
  generalize SL (ls.take i ++ [joinS ws]) = R2 at *
  generalize SL (ls.take i) = R1 at *
  generalize SL (ls.drop (i + 1)) = R4 at *
  generalize SL [joinS ws] = R5 at *
  have eo : D.lst (ws.map .str) = SL ws := rfl
  rcases hl with rfl | rfl
  · generalize ws.map D.str = WM at *
    generalize SL ws = SW at *
    generalize SL ls = LS at *
    unfold bnF
    simp -implicitDefEqProofs [tk, dp, eo, js, e1, z1, a1, a2]
  · generalize SL ws = SW at *
    generalize SL ls = LS at *
    unfold bnF
    simp -implicitDefEqProofs [tk, dp, js, e1, z1, a1, a2]
end L_k76
end
section
set_option Elab.async false
set_option linter.all false
set_option maxRecDepth 100000
set_option maxHeartbeats 4000000
set_option autoImplicit false
namespace L_k76
open PySem PD
noncomputable def bnR : S := (sSeq (sIf (tCmp eqD (eVar 3) (eC (.int 0))) (sRet (eOp addD (eSl (eVar 1) pNone (pSome (eVar 4))) (eSl (eVar 1) (pSome (eOp addD (eVar 4) (eC (.int 1)))) pNone))) sNil)
  (sSeq (sIf (tCmp eqD (eVar 3) (eC (.int 1))) (sRet (eOp addD (eOp addD (eSl (eVar 1) pNone (pSome (eVar 4))) (eLst (aCons (eIx (eVar 1) (eVar 5)) aNil))) (eSl (eVar 1) (pSome (eVar 4)) pNone))) sNil)
  (sSeq (sIf (tCmp eqD (eVar 3) (eC (.int 2))) (sRet (eOp addD (eOp addD (eSl (eVar 1) pNone (pSome (eVar 4))) (eLst (aCons (eIx (eVar 1) (eVar 5)) aNil))) (eSl (eVar 1) (pSome (eOp addD (eVar 4) (eC (.int 1)))) pNone))) sNil)
  (sSeq (sIf (tCmp eqD (eVar 3) (eC (.int 3))) (sSeq (sSet 9 (eIx (eLst (aCons (eOp addD (eIx (eVar 1) (eVar 4)) (eC (.str " "))) (aCons (eOp addD (eC (.str " ")) (eIx (eVar 1) (eVar 4))) (aCons (eRepl " " "  " (eIx (eVar 1) (eVar 4))) (aCons (eC (.str "")) aNil))))) (eOp dMod (eVar 5) (eC (.int 4)))))
  (sRet (eOp addD (eOp addD (eSl (eVar 1) pNone (pSome (eVar 4))) (eLst (aCons (eVar 9) aNil))) (eSl (eVar 1) (pSome (eOp addD (eVar 4) (eC (.int 1)))) pNone)))) sNil)
  (sSeq (sIf (tCmp eqD (eVar 3) (eC (.int 4))) (sRet (eIx (eLst (aCons (eOp addD (eVar 1) (eLst (aCons (eC (.str "")) aNil))) (aCons (eOp addD (eLst (aCons (eC (.str "")) aNil)) (eVar 1)) (aCons (eOp addD (eVar 1) (eVar 1)) (aCons (eSl (eVar 1) pNone (pSome (eVar 4))) aNil))))) (eOp dMod (eVar 5) (eC (.int 4))))) sNil)
  (sSeq (sIf (tCmp ltD (eVar 3) (eC (.int 8))) (sSetO 6 (eVar 8) (eVar 7)) (sIf (tCmp eqD (eVar 3) (eC (.int 8))) (sInsert 6 (eVar 8) (eVar 7)) (sIf (tCmp eqD (eVar 3) (eC (.int 9))) (sPopL 6 (eVar 8)) (sIf (tCmp eqD (eVar 3) (eC (.int 10))) (sInsert 6 (eVar 8) (eIxO 6 (eVar 8))) (sFrz 6 (sSetV 6 (vD (eOp addD (eSl (eVar 6) pNone (pSome (eVar 8))) (eO (aRev (eSl (eVar 6) (pSome (eVar 8)) pNone)))))))))))
  bnF))))))
theorem ltD_int' (i j : Int) : ltD (.int i) (.int j) = some (decide (i < j)) := rfl
theorem four {P : Prop} {r : Int} (h0 : 0 ≤ r) (h4 : r < 4) (a : r = 0 → P) (b : r = 1 → P) (c : r = 2 → P) (d : r = 3 → P) : P := by
  have h : r = 0 ∨ r = 1 ∨ r = 2 ∨ r = 3 := by omega
  rcases h with h | h | h | h
  · exact a h
  · exact b h
  · exact c h
  · exact d h
theorem sp_lq : Lq 1 (Str.ofString " ") := ⟨by decide, by decide⟩
theorem nil_lq : Lq 0 (Str.ofString "") := ⟨by decide, by decide⟩
theorem add_lq {a b : Str} {m n : Nat} (ha : Lq m a) (hb : Lq n b) : Lq (m + n) (a ++ b) := by
  refine ⟨?_, fun c hc => ?_⟩
  · have h1 := ha.len
    have h2 := hb.len
    have : (cs (a ++ b)).length = (cs a).length + (cs b).length := by rw [cs_app, List.length_append]
    rw [cs_len, cs_len, cs_len] at this
    omega
  · rw [cs_app] at hc
    exact (List.mem_append.mp hc).elim (ha.ch c) (hb.ch c)
section
variable {ls ws : List Str} {n m i t pl : Nat} {wd : Str}
theorem bnR_ok (h : Lns n m ls) (hi : i < ls.length) (ht : t < ls.length) (hn : n ≤ 1000) (hm : m ≤ 90000) (hw : WS ws ≤ m + 1) (hc : ∀ w ∈ ws, ∀ c ∈ cs w, c < 1000) (hp : pl < ws.length) (hd : Lq 20 wd) {x0 x2 : Option LV} {w : Int} (w0 : 0 ≤ w) (w12 : w < 12) (g : G) :
    ∃ ls', bnR [x0, some (.d (SL ls)), x2, some (.d (.int w)), some (.d (.int (i : Int))), some (.d (.int (t : Int))), some (.ol (ws.map .str)), some (.d (.str wd)), some (.d (.int (pl : Int))), none] g = some (.rt (SL ls'), g) ∧ Lns (2 * n + 2) (3 * m + 40) ls' := by
  have sz := sizeLine_eq
  have hln := h.ln
  have z1 : ∀ x : D, szD 1 x = some x := fun x => if_pos (by omega)
  have z4 : ∀ x : D, szD 4 x = some x := fun x => if_pos (by omega)
  have tk := sl_take ls i
  have dp0 := sl_drop ls i
  have dp := sl_drop ls (i + 1)
  have c1 : ((i + 1 : Nat) : Int) = (i : Int) + 1 := by omega
  rw [c1] at dp
  have xi := sl_at hi g
  have xt := sl_at ht g
  have hL : Lq m ls[i] := h.li _ (List.getElem_mem hi)
  have hT : Lq m ls[t] := h.li _ (List.getElem_mem ht)
  have big : ∀ l ∈ ls, Lq (3 * m + 40) l := fun l hl => (h.li l hl).mono (by omega)
  have tl : (ls.take i).length ≤ n := by rw [List.length_take]; omega
  have dl : ∀ j, (ls.drop j).length ≤ n := fun j => by rw [List.length_drop]; omega
  have h12 : w = 0 ∨ w = 1 ∨ w = 2 ∨ w = 3 ∨ w = 4 ∨ (w = 5 ∨ w = 6 ∨ w = 7) ∨ w = 8 ∨ w = 9 ∨ w = 10 ∨ w = 11 := by omega
  have wl := WS_len ws
  have hcw : ∀ z ∈ [wd], ∀ c ∈ cs z, c < 1000 := fun z hz => by rw [List.mem_singleton.mp hz]; exact hd.ch
  have hdl := hd.len
  have m4 := dMod_ok (t : Int) 4 (by decide)
  have r0 : 0 ≤ (t : Int) % 4 := by omega
  have r4 : (t : Int) % 4 < 4 := by omega
  rcases h12 with rfl | rfl | rfl | rfl | rfl | h567 | rfl | rfl | rfl | rfl
  · -- a line less
    have a1 := sl_add (a := ls.take i) (b := ls.drop (i + 1)) (by have := dl (i + 1); omega)
    refine ⟨ls.take i ++ ls.drop (i + 1), ?_, ⟨by have := dl (i + 1); rw [List.length_append]; omega, app_li (take_li big i) (drop_li big (i + 1))⟩⟩
    generalize SL (ls.take i ++ ls.drop (i + 1)) = R3 at *
    generalize SL (ls.take i) = R1 at *
    generalize SL (ls.drop (i + 1)) = R4 at *
    generalize SL ls = LS at *
    unfold bnR
    generalize bnF = BN at *
    simp -implicitDefEqProofs [eqD_int, tk, dp, a1]
  · have e1 : D.lst [D.str ls[t]] = SL [ls[t]] := rfl
    have a1 := sl_add (a := ls.take i) (b := [ls[t]]) (by rw [List.length_singleton]; omega)
    have a2 := sl_add (a := ls.take i ++ [ls[t]]) (b := ls.drop i) (by have := dl i; rw [List.length_append, List.length_singleton]; omega)
    refine ⟨ls.take i ++ [ls[t]] ++ ls.drop i, ?_, ⟨by have := dl i; rw [List.length_append, List.length_append, List.length_singleton]; omega, app_li (app_li (take_li big i) (one_li (hT.mono (by omega)))) (drop_li big i)⟩⟩
    generalize SL (ls.take i ++ [ls[t]] ++ ls.drop i) = R3 at *
    generalize SL (ls.take i ++ [ls[t]]) = R2 at *
    generalize SL (ls.take i) = R1 at *
    generalize SL (ls.drop i) = R4 at *
    generalize SL [ls[t]] = R5 at *
    generalize D.str ls[t] = LT at *
    generalize SL ls = LS at *
    unfold bnR
    generalize bnF = BN at *
    simp -implicitDefEqProofs [eqD_int, tk, dp0, xt, z1, e1, a1, a2]
  · have e1 : D.lst [D.str ls[t]] = SL [ls[t]] := rfl
    have a1 := sl_add (a := ls.take i) (b := [ls[t]]) (by rw [List.length_singleton]; omega)
    have a2 := sl_add (a := ls.take i ++ [ls[t]]) (b := ls.drop (i + 1)) (by have := dl (i + 1); rw [List.length_append, List.length_singleton]; omega)
    refine ⟨ls.take i ++ [ls[t]] ++ ls.drop (i + 1), ?_, ⟨by have := dl (i + 1); rw [List.length_append, List.length_append, List.length_singleton]; omega, app_li (app_li (take_li big i) (one_li (hT.mono (by omega)))) (drop_li big (i + 1))⟩⟩
    generalize SL (ls.take i ++ [ls[t]] ++ ls.drop (i + 1)) = R3 at *
    generalize SL (ls.take i ++ [ls[t]]) = R2 at *
    generalize SL (ls.take i) = R1 at *
    generalize SL (ls.drop (i + 1)) = R4 at *
    generalize SL [ls[t]] = R5 at *
    generalize D.str ls[t] = LT at *
    generalize SL ls = LS at *
    unfold bnR
    generalize bnF = BN at *
    simp -implicitDefEqProofs [eqD_int, tk, dp, xt, z1, e1, a1, a2]
  · -- blanks
    have b1 : addD (.str ls[i]) (.str " ") = some (.str (ls[i] ++ Str.ofString " ")) := addS ls[i] (Str.ofString " ") (by have := hL.len; have : (Str.ofString " ").length = 1 := rfl; omega)
    have b2 : addD (.str " ") (.str ls[i]) = some (.str (Str.ofString " " ++ ls[i])) := addS (Str.ofString " ") ls[i] (by have := hL.len; have : (Str.ofString " ").length = 1 := rfl; omega)
    obtain ⟨b3, q3⟩ := repl_lq hL (by omega)
    have key : ∀ (L : Str), Lq (3 * m + 40) L → L2.atI [D.str (ls[i] ++ Str.ofString " "), D.str (Str.ofString " " ++ ls[i]), D.str (Txt.replace ls[i] " " "  "), D.str (Str.ofString "")] ((t : Int) % 4) = some (.str L) → ∃ ls', bnR [x0, some (.d (SL ls)), x2, some (.d (.int 3)), some (.d (.int (i : Int))), some (.d (.int (t : Int))), some (.ol (ws.map .str)), some (.d (.str wd)), some (.d (.int (pl : Int))), none] g = some (.rt (SL ls'), g) ∧ Lns (2 * n + 2) (3 * m + 40) ls' := fun L hq hx => by
      have e1 : D.lst [D.str L] = SL [L] := rfl
      have a1 := sl_add (a := ls.take i) (b := [L]) (by rw [List.length_singleton]; omega)
      have a2 := sl_add (a := ls.take i ++ [L]) (b := ls.drop (i + 1)) (by have := dl (i + 1); rw [List.length_append, List.length_singleton]; omega)
      refine ⟨ls.take i ++ [L] ++ ls.drop (i + 1), ?_, ⟨by have := dl (i + 1); rw [List.length_append, List.length_append, List.length_singleton]; omega, app_li (app_li (take_li big i) (one_li hq)) (drop_li big (i + 1))⟩⟩
      clear q3 hL hT big
      generalize SL (ls.take i ++ [L] ++ ls.drop (i + 1)) = R3 at *
      generalize SL (ls.take i ++ [L]) = R2 at *
      generalize SL (ls.take i) = R1 at *
      generalize SL (ls.drop (i + 1)) = R4 at *
      generalize SL [L] = R5 at *
      generalize (ls[i] ++ Str.ofString " ") = S1 at *
      generalize (Str.ofString " " ++ ls[i]) = S2 at *
      generalize Txt.replace ls[i] " " "  " = S3 at *
      generalize D.str ls[i] = LI at *
      generalize SL ls = LS at *
      generalize (t : Int) % 4 = T4 at *
      unfold bnR
      generalize bnF = BN at *
      have hx : L2.atI [D.str S1, D.str S2, D.str S3, D.str ""] T4 = some (.str L) := hx
      simp -implicitDefEqProofs [eqD_int, xi, b1, b2, b3, z4, m4, hx, tk, dp, z1, e1, a1, a2, setR]
    refine four r0 r4 (fun e => key _ ((add_lq hL sp_lq).mono (by omega)) (by rw [e]; rfl)) (fun e => key _ ((add_lq sp_lq hL).mono (by omega)) (by rw [e]; rfl)) (fun e => key _ (q3.mono (by omega)) (by rw [e]; rfl)) (fun e => key _ (nil_lq.mono (by omega)) (by rw [e]; rfl))
  · -- lines more or less
    have e0 : D.lst [D.str ""] = SL [Str.ofString ""] := rfl
    have a1 := sl_add (a := ls) (b := [Str.ofString ""]) (by rw [List.length_singleton]; omega)
    have a2 := sl_add (a := [Str.ofString ""]) (b := ls) (by rw [List.length_singleton]; omega)
    have a3 := sl_add (a := ls) (b := ls) (by omega)
    have key : ∀ (L : List Str), Lns (2 * n + 2) (3 * m + 40) L → L2.atI [SL (ls ++ [Str.ofString ""]), SL ([Str.ofString ""] ++ ls), SL (ls ++ ls), SL (ls.take i)] ((t : Int) % 4) = some (SL L) → ∃ ls', bnR [x0, some (.d (SL ls)), x2, some (.d (.int 4)), some (.d (.int (i : Int))), some (.d (.int (t : Int))), some (.ol (ws.map .str)), some (.d (.str wd)), some (.d (.int (pl : Int))), none] g = some (.rt (SL ls'), g) ∧ Lns (2 * n + 2) (3 * m + 40) ls' := fun L hq hx => by
      refine ⟨L, ?_, hq⟩
      clear hL hT big hq
      generalize SL L = R9 at *
      generalize SL (ls ++ [Str.ofString ""]) = R1 at *
      generalize SL ([Str.ofString ""] ++ ls) = R2 at *
      generalize SL (ls ++ ls) = R3 at *
      generalize SL (ls.take i) = R4 at *
      generalize SL [Str.ofString ""] = R5 at *
      generalize SL ls = LS at *
      generalize (t : Int) % 4 = T4 at *
      unfold bnR
      generalize bnF = BN at *
      simp -implicitDefEqProofs [eqD_int, z1, e0, a1, a2, a3, tk, z4, m4, hx]
    have nl : Lq (3 * m + 40) (Str.ofString "") := nil_lq.mono (by omega)
    refine four r0 r4 (fun e => key (ls ++ [Str.ofString ""]) ⟨by rw [List.length_append, List.length_singleton]; omega, app_li big (one_li nl)⟩ (by rw [e]; rfl)) (fun e => key ([Str.ofString ""] ++ ls) ⟨by rw [List.length_append, List.length_singleton]; omega, app_li (one_li nl) big⟩ (by rw [e]; rfl)) (fun e => key (ls ++ ls) ⟨by rw [List.length_append]; omega, app_li big big⟩ (by rw [e]; rfl)) (fun e => key (ls.take i) ⟨by omega, take_li big i⟩ (by rw [e]; rfl))
  · -- another word
    have hws := WS_set ws pl wd
    obtain ⟨ls', e, q⟩ := bnF_ok (ws := ws.set pl wd) (k := 3 * m + 40) h hi (by omega) (by omega) (by omega) (by omega) (fun z hz => by
      rcases List.mem_or_eq_of_mem_set hz with hz | rfl
      · exact hc z hz
      · exact hd.ch) (x0 := x0) (x2 := x2) (x3 := some (.d (.int w))) (x5 := some (.d (.int (t : Int)))) (x7 := some (.d (.str wd))) (x8 := some (.d (.int (pl : Int)))) (x9 := none) (.inl rfl) g
    refine ⟨ls', ?_, ⟨by have := q.ln; omega, q.li⟩⟩
    have ixn : L2.ixN (ws.map D.str).length (pl : Int) = some pl := by
      have := ixN_of (n := (ws.map D.str).length) (i := (pl : Int)) (by omega) (by rw [List.length_map]; omega)
      rw [this, Int.toNat_natCast]
    have em : (ws.set pl wd).map D.str = (ws.map D.str).set pl (.str wd) := List.map_set
    rw [em] at e
    clear q hws
    unfold bnR
    generalize bnF = BN at *
    generalize ws.map D.str = WM at *
    generalize SL ls = LS at *
    generalize SL ls' = R at *
    rcases h567 with rfl | rfl | rfl <;> simp -implicitDefEqProofs [eqD_int, ltD_int', olAt, ixn, e]
  · -- a word more
    have hws : WS (ws.take pl ++ [wd] ++ ws.drop pl) = WS ws + (wd.length + 1) := by
      have := WS_td ws pl
      rw [WS_app, WS_app]
      simp only [WS]
      omega
    obtain ⟨ls', e, q⟩ := bnF_ok (ws := ws.take pl ++ [wd] ++ ws.drop pl) (k := 3 * m + 40) h hi (by omega) (by omega) (by omega) (by omega) (app_li (app_li (take_li hc pl) hcw) (drop_li hc pl)) (x0 := x0) (x2 := x2) (x3 := some (.d (.int 8))) (x5 := some (.d (.int (t : Int)))) (x7 := some (.d (.str wd))) (x8 := some (.d (.int (pl : Int)))) (x9 := none) (.inl rfl) g
    refine ⟨ls', ?_, ⟨by have := q.ln; omega, q.li⟩⟩
    have ins : insD2 (ws.map D.str) (.int (pl : Int)) (.str wd) = some ((ws.take pl ++ [wd] ++ ws.drop pl).map .str) := by
      show (if (ws.map D.str).length < sizeLine ∧ (0 : Int) ≤ (pl : Int) ∧ (pl : Int) < 2 ^ 63 then some ((ws.map D.str).take (pl : Int).toNat ++ [D.str wd] ++ (ws.map D.str).drop (pl : Int).toNat) else none) = _
      rw [if_pos ⟨by rw [List.length_map]; omega, by omega, by omega⟩, Int.toNat_natCast, List.map_append, List.map_append, List.map_take, List.map_drop]
      rfl
    clear q hws
    generalize (ws.take pl ++ [wd] ++ ws.drop pl).map D.str = WN at *
    unfold bnR
    generalize bnF = BN at *
    generalize ws.map D.str = WM at *
    generalize SL ls = LS at *
    generalize SL ls' = R at *
    simp -implicitDefEqProofs [eqD_int, ltD_int', olAt, ins, e]
  · -- a word less
    have hws := WS_erase ws pl
    obtain ⟨ls', e, q⟩ := bnF_ok (ws := ws.eraseIdx pl) (k := 3 * m + 40) h hi (by omega) (by omega) (by omega) (by omega) (fun z hz => hc z (List.mem_of_mem_eraseIdx hz)) (x0 := x0) (x2 := x2) (x3 := some (.d (.int 9))) (x5 := some (.d (.int (t : Int)))) (x7 := some (.d (.str wd))) (x8 := some (.d (.int (pl : Int)))) (x9 := none) (.inl rfl) g
    refine ⟨ls', ?_, ⟨by have := q.ln; omega, q.li⟩⟩
    have ixn : L2.ixN (ws.map D.str).length (pl : Int) = some pl := by
      have := ixN_of (n := (ws.map D.str).length) (i := (pl : Int)) (by omega) (by rw [List.length_map]; omega)
      rw [this, Int.toNat_natCast]
    have em : ∀ (l : List Str) (j : Nat), (l.map D.str).eraseIdx j = (l.eraseIdx j).map D.str := by
      intro l
      induction l with
      | nil => intro j; rfl
      | cons a l ih =>
        intro j
        cases j with
        | zero => rfl
        | succ j => simp [ih]
    have pp : popL2 (ws.map D.str) (.int (pl : Int)) = some ((ws.eraseIdx pl).map .str) := by
      show (L2.ixN (ws.map D.str).length (pl : Int)).map (fun j => (ws.map D.str).eraseIdx j) = _
      rw [ixn, Option.map_some, em]
    clear q hws em
    generalize (ws.eraseIdx pl).map D.str = WN at *
    unfold bnR
    generalize bnF = BN at *
    generalize ws.map D.str = WM at *
    generalize SL ls = LS at *
    generalize SL ls' = R at *
    simp -implicitDefEqProofs [eqD_int, ltD_int', olAt, pp, e]
  · -- a word twice
    have hx : ws[pl].length + 1 ≤ WS ws := by
      have h1 := WS_td ws pl
      rw [List.drop_eq_getElem_cons hp] at h1
      simp only [WS] at h1
      omega
    have hws : WS (ws.take pl ++ [ws[pl]] ++ ws.drop pl) = WS ws + (ws[pl].length + 1) := by
      have := WS_td ws pl
      rw [WS_app, WS_app]
      simp only [WS]
      omega
    obtain ⟨ls', e, q⟩ := bnF_ok (ws := ws.take pl ++ [ws[pl]] ++ ws.drop pl) (k := 3 * m + 40) h hi (by omega) (by omega) (by omega) (by omega) (app_li (app_li (take_li hc pl) (one_li (hc _ (List.getElem_mem hp)))) (drop_li hc pl)) (x0 := x0) (x2 := x2) (x3 := some (.d (.int 10))) (x5 := some (.d (.int (t : Int)))) (x7 := some (.d (.str wd))) (x8 := some (.d (.int (pl : Int)))) (x9 := none) (.inl rfl) g
    refine ⟨ls', ?_, ⟨by have := q.ln; omega, q.li⟩⟩
    have ixo : L2.atI (ws.map D.str) (pl : Int) = some (.str ws[pl]) := by
      rw [atI_of (by omega) (by rw [List.length_map]; omega), List.getElem?_map, Int.toNat_natCast, List.getElem?_eq_getElem hp]
      rfl
    have ins : insD2 (ws.map D.str) (.int (pl : Int)) (.str ws[pl]) = some ((ws.take pl ++ [ws[pl]] ++ ws.drop pl).map .str) := by
      show (if (ws.map D.str).length < sizeLine ∧ (0 : Int) ≤ (pl : Int) ∧ (pl : Int) < 2 ^ 63 then some ((ws.map D.str).take (pl : Int).toNat ++ [D.str ws[pl]] ++ (ws.map D.str).drop (pl : Int).toNat) else none) = _
      rw [if_pos ⟨by rw [List.length_map]; omega, by omega, by omega⟩, Int.toNat_natCast, List.map_append, List.map_append, List.map_take, List.map_drop]
      rfl
    clear q hws hx
    generalize (ws.take pl ++ [ws[pl]] ++ ws.drop pl).map D.str = WN at *
    generalize D.str ws[pl] = WP at *
    unfold bnR
    generalize bnF = BN at *
    generalize ws.map D.str = WM at *
    generalize SL ls = LS at *
    generalize SL ls' = R at *
    simp -implicitDefEqProofs [eqD_int, ltD_int', olAt, ixO, ixo, ins, e]
  · -- words turned about
    have hws : WS (ws.take pl ++ (ws.drop pl).reverse) = WS ws := by
      rw [WS_app, WS_rev, WS_td]
    obtain ⟨ls', e, q⟩ := bnF_ok (ws := ws.take pl ++ (ws.drop pl).reverse) (k := 3 * m + 40) h hi (by omega) (by omega) (by omega) (by omega) (app_li (take_li hc pl) (fun z hz => drop_li hc pl z (List.mem_reverse.mp hz))) (x0 := x0) (x2 := x2) (x3 := some (.d (.int 11))) (x5 := some (.d (.int (t : Int)))) (x7 := some (.d (.str wd))) (x8 := some (.d (.int (pl : Int)))) (x9 := none) (.inr rfl) g
    refine ⟨ls', ?_, ⟨by have := q.ln; omega, q.li⟩⟩
    have wtk := sl_take ws pl
    have wdp := sl_drop ws pl
    have rv : revD (SL (ws.drop pl)) = some ((ws.drop pl).reverse.map .str) := by
      show some (((ws.drop pl).map D.str).reverse) = _
      rw [List.map_reverse]
    have er : D.lst ((ws.drop pl).reverse.map .str) = SL (ws.drop pl).reverse := rfl
    have a1 := sl_add (a := ws.take pl) (b := (ws.drop pl).reverse) (by rw [List.length_take, List.length_reverse, List.length_drop]; omega)
    have eo : D.lst (ws.map .str) = SL ws := rfl
    clear q hws
    generalize SL (ws.take pl ++ (ws.drop pl).reverse) = R1 at *
    generalize SL (ws.drop pl).reverse = R2 at *
    generalize (ws.drop pl).reverse.map D.str = R3 at *
    generalize SL (ws.drop pl) = R4 at *
    generalize SL (ws.take pl) = R5 at *
    unfold bnR
    generalize bnF = BN at *
    generalize ws.map D.str = WM at *
    generalize SL ws = SW at *
    generalize SL ls = LS at *
    generalize SL ls' = R at *
    simp -implicitDefEqProofs [eqD_int, ltD_int', eo, wtk, wdp, rv, er, a1, e]
end
end L_k76
end
section
set_option Elab.async false
set_option linter.all false
set_option maxRecDepth 100000
set_option maxHeartbeats 4000000
set_option autoImplicit false
namespace L_k76
open PySem PD
theorem bent_eq : s__law_bent = (sSeq (sParV [3, 4, 5] (vCons (vD (eCall F__law_draw (aCons (eVar 0) (aCons (eC (.int 12)) aNil)))) (vCons (vD (eOp dMod (eCall F__law_draw (aCons (eVar 0) (aCons (eC (.int 1000)) aNil))) (eBi lenD (aCons (eVar 1) aNil)))) (vCons (vD (eOp dMod (eCall F__law_draw (aCons (eVar 0) (aCons (eC (.int 1000)) aNil))) (eBi lenD (aCons (eVar 1) aNil)))) vNil))))
  (sSeq (sParV [6, 7] (vCons (vL (aSplit 32 (eIx (eVar 1) (eVar 4)))) (vCons (vD (eIx (eVar 2) (eCall F__law_draw (aCons (eVar 0) (aCons (eBi lenD (aCons (eVar 2) aNil)) aNil))))) vNil)))
  (sSeq (sSet 8 (eOp dMod (eCall F__law_draw (aCons (eVar 0) (aCons (eC (.int 1000)) aNil))) (eBi lenD (aCons (eOwn 6) aNil))))
  bnR))) := rfl
theorem mod_nat {r : Int} {n : Nat} (h0 : 0 ≤ r) (hn : 1 ≤ n) : ∃ i : Nat, r % (n : Int) = (i : Int) ∧ i < n := by
  have h1 : 0 ≤ r % (n : Int) := Int.emod_nonneg r (by omega)
  have h2 : r % (n : Int) < (n : Int) := Int.emod_lt_of_pos r (by omega)
  exact ⟨(r % (n : Int)).toNat, by omega, by omega⟩
theorem sl_len (ls : List Str) : lenD [SL ls] = some (.int ls.length) := by
  show some (D.int ((ls.map D.str).length : Int)) = _
  rw [List.length_map]
theorem bent_ok {ls near : List Str} {n m : Nat} (h : Lns n m ls) (h1 : 1 ≤ ls.length) (hn : n ≤ 1000) (hm : m ≤ 90000) (hN : ∀ w ∈ near, Lq 20 w) (n1 : 1 ≤ near.length) (n2 : near.length ≤ 1000) {s : Dr} {b : Nat} (ok : s.Ok (b + 5)) :
    ∃ (ls' : List Str) (s' : Dr), F__law_bent [.hd 2, SL ls, SL near] s.g = some (SL ls', s'.g) ∧ Lns (2 * n + 2) (3 * m + 40) ls' ∧ s'.Ok b := by
  have sz := sizeLine_eq
  obtain ⟨w, s1, e1, w0, w1, ok1, q1⟩ := draw_ok (b := b + 4) ok (m := 12) (by decide) (by decide)
  obtain ⟨r2, s2, e2, a2, b2, ok2, q2⟩ := draw_ok (b := b + 3) ok1 (m := 1000) (by decide) (by decide)
  obtain ⟨r3, s3, e3, a3, b3, ok3, q3⟩ := draw_ok (b := b + 2) ok2 (m := 1000) (by decide) (by decide)
  obtain ⟨r4, s4, e4, a4, b4, ok4, q4⟩ := draw_ok (b := b + 1) ok3 (m := (near.length : Int)) (by omega) (by omega)
  obtain ⟨r5, s5, e5, a5, b5, ok5, q5⟩ := draw_ok (b := b) ok4 (m := 1000) (by decide) (by decide)
  obtain ⟨i, ei, hi⟩ := mod_nat (n := ls.length) a2 h1
  obtain ⟨t, et, ht⟩ := mod_nat (n := ls.length) a3 h1
  have hL := h.li _ (List.getElem_mem hi)
  have sp := split_any 32 (x := ls[i]) (by have := hL.len; omega)
  have hw1 : 1 ≤ (splitS 32 ls[i]).length := by
    have := splitS_ne 32 ls[i]
    cases hs : splitS 32 ls[i] with
    | nil => exact absurd hs this
    | cons a r => simp
  obtain ⟨pl, ep, hp⟩ := mod_nat (n := (splitS 32 ls[i]).length) a5 hw1
  obtain ⟨j, rfl⟩ : ∃ j : Nat, r4 = j := ⟨r4.toNat, by omega⟩
  have hj : j < near.length := by omega
  have wsl := WS_split 32 ls[i]
  obtain ⟨ls', eb, q⟩ := bnR_ok (ws := splitS 32 ls[i]) (wd := near[j]) h hi ht hn hm (by have := hL.len; omega) (fun z hz c hc => hL.ch c ((splitS_mem hz).2 c hc)) hp (hN _ (List.getElem_mem hj)) (x0 := some (.d (.hd 2))) (x2 := some (.d (SL near))) w0 w1 s5.g
  refine ⟨ls', s5, runF_rt ?_, q, ok5⟩
  have ln := sl_len ls
  have lnn := sl_len near
  have m2 := dMod_ok r2 (ls.length : Int) (by omega)
  have m3 := dMod_ok r3 (ls.length : Int) (by omega)
  have m5 := dMod_ok r5 ((splitS 32 ls[i]).length : Int) (by omega)
  rw [ei] at m2
  rw [et] at m3
  rw [ep] at m5
  have xi := sl_at hi s3.g
  have xj := sl_at hj s4.g
  have lw : lenD [.lst ((splitS 32 ls[i]).map .str)] = some (.int (splitS 32 ls[i]).length) := by
    show some (D.int (((splitS 32 ls[i]).map D.str).length : Int)) = _
    rw [List.length_map]
  rw [bent_eq]
  clear wsl hL q ok ok1 ok2 ok3 ok4 ok5
  generalize bnR = BR at *
  generalize SL ls' = R' at *
  generalize (splitS 32 ls[i]).map D.str = WM at *
  generalize ((splitS 32 ls[i]).length : Int) = WL at *
  generalize near[j] = WD at *
  generalize ls[i] = LI at *
  generalize SL ls = LS at *
  generalize SL near = NS at *
  generalize (ls.length : Int) = LL at *
  generalize (near.length : Int) = NL at *
  generalize s.g = G0 at *
  generalize s1.g = G1 at *
  generalize s2.g = G2 at *
  generalize s3.g = G3 at *
  generalize s4.g = G4 at *
  generalize s5.g = G5 at *
  simp -implicitDefEqProofs [slots0, e1, e2, ln, m2, e3, m3, setLs, xi, sp, lnn, e4, xj, e5, lw, m5, lAt, eb]
/-! ### the arena's lines -/
def lnS (ws : List Str) : Str := ofCs (lineC ws)
def arL (a : Arena) : List Str := (rowsA a).map lnS
theorem arL_d (a : Arena) : SL (arL a) = .lst ((rowsA a).map lnD) := by
  unfold SL arL
  rw [List.map_map]
  rfl
theorem word_lq {w : Str} (h : NameOk w) : Lq 20 w := ⟨by have := h.hi; rw [cs_len] at this; omega, fun c hc => by have := h.ch c hc; unfold Letter at this; omega⟩
theorem dig_lq {n : Int} (h : Dig n) : Lq 20 (dig n) := by
  rcases dig_ten h with rfl | rfl | rfl | rfl | rfl | rfl | rfl | rfl | rfl | rfl <;> exact ⟨by decide, by decide⟩
theorem four_lq : Lq 20 (Str.ofString "players") ∧ Lq 20 (Str.ofString "place") ∧ Lq 20 (Str.ofString "moves") ∧ Lq 20 (Str.ofString "next") := ⟨⟨by decide, by decide⟩, ⟨by decide, by decide⟩, ⟨by decide, by decide⟩, ⟨by decide, by decide⟩⟩
theorem row_lq {a : Arena} (h : ArenaOk a) : ∀ ws ∈ rowsA a, ∀ w ∈ ws, Lq 20 w := fun ws hws => by
  rcases List.mem_cons.mp hws with rfl | hws
  · intro w hw
    rcases List.mem_cons.mp hw with rfl | hw
    · exact four_lq.1
    · exact word_lq (h.nm.nm w hw)
  · obtain ⟨p, hp, hws⟩ := List.mem_flatMap.mp hws
    have ok := h.pl p hp
    simp only [rowsP, List.mem_cons, List.not_mem_nil, or_false] at hws
    rcases hws with rfl | rfl | rfl
    · intro w hw
      rcases List.mem_cons.mp hw with rfl | hw
      · exact four_lq.2.1
      · exact word_lq (ok.mks.nm w hw)
    · intro w hw
      rcases List.mem_cons.mp hw with rfl | hw
      · exact four_lq.2.2.1
      · obtain ⟨c, hc, rfl⟩ := List.mem_map.mp hw
        exact dig_lq (dig_count ok c hc)
    · intro w hw
      rcases List.mem_cons.mp hw with rfl | hw
      · exact four_lq.2.2.2
      · obtain ⟨c, hc, rfl⟩ := List.mem_map.mp hw
        exact dig_lq (dig_next ok h.p10 c hc)
theorem arL_lns {a : Arena} (h : ArenaOk a) : Lns 31 400 (arL a) := by
  have hp := h.p10
  have hr := rowsA_ok h
  refine ⟨?_, fun l hl => ?_⟩
  · unfold arL rowsA
    rw [List.length_map, List.length_cons, rowsP_len]
    omega
  · obtain ⟨ws, hws, rfl⟩ := List.mem_map.mp hl
    obtain ⟨_, h2, h3⟩ := hr.row ws hws
    refine ⟨?_, fun c hc => ?_⟩
    · unfold lnS
      rw [ofCs_len]
      have := line_len h3 h2
      omega
    · rcases joinC_mem (show c ∈ joinC [32] (ws.map cs) from hc) with h1 | ⟨p, hp, h1⟩
      · rw [List.mem_singleton.mp h1]; decide
      · obtain ⟨w, hw, rfl⟩ := List.mem_map.mp hp
        exact (row_lq h ws hws w hw).ch c h1
theorem rows_third : ∀ (ps : List Place) (j : Nat) (p : Place), ps[j]? = some p → (ps.flatMap rowsP)[3 * j + 2]? = some (Str.ofString "next" :: p.nexts.map dig)
  | [], j, p, h => by cases h
  | q :: ps, 0, p, h => by
    cases h
    rfl
  | q :: ps, j + 1, p, h => by
    have ih := rows_third ps j p (by simpa using h)
    rw [List.flatMap_cons, List.getElem?_append_right (by show 3 ≤ _; omega)]
    show (ps.flatMap rowsP)[3 * (j + 1) + 2 - 3]? = _
    rw [show 3 * (j + 1) + 2 - 3 = 3 * j + 2 by omega]
    exact ih
theorem arL_len (a : Arena) : (arL a).length = 1 + 3 * a.places.length := by
  unfold arL rowsA
  rw [List.length_map, List.length_cons, rowsP_len]
  omega
theorem arL_next {a : Arena} {j : Nat} {p : Place} (h : a.places[j]? = some p) : (arL a)[3 + 3 * j]? = some (lnS (Str.ofString "next" :: p.nexts.map dig)) := by
  have := rows_third a.places j p h
  unfold arL rowsA
  rw [List.getElem?_map, show 3 + 3 * j = 3 * j + 2 + 1 by omega, List.getElem?_cons_succ, this]
  rfl
theorem small_num : ∀ k : Fin 11, (TL.numL (k : Nat)).length ≤ 20 ∧ ∀ c ∈ TL.numL (k : Nat), c < 1000 := by decide +kernel
end L_k76
end
section
set_option Elab.async false
set_option linter.all false
set_option maxRecDepth 100000
set_option maxHeartbeats 4000000
set_option autoImplicit false
namespace L_k76
open PySem PD
theorem num10 {n : Nat} (h : n ≤ 10) : ∃ y : Str, strTD (.int (n : Int)) = some (.str y) ∧ Lq 20 y := by
  obtain ⟨y, e, hy⟩ := strT_ok (n := n) (by omega)
  have := small_num ⟨n, by omega⟩
  exact ⟨y, e, by rw [← cs_len, hy]; exact this.1, by rw [hy]; exact this.2⟩
theorem third {P : Prop} {r : Int} (h0 : 0 ≤ r) (h4 : r < 3) (a : r = 0 → P) (b : r = 1 → P) (c : r = 2 → P) : P := by
  have h : r = 0 ∨ r = 1 ∨ r = 2 := by omega
  rcases h with h | h | h
  · exact a h
  · exact b h
  · exact c h
theorem beyond_ok {a : Arena} (h : ArenaOk a) {t far : Int} (t0 : 0 ≤ t) (f0 : 0 ≤ far) (g : G) : ∃ ls', F__law_beyond [SL (arL a), .int t, .int far] g = some (SL ls', g) ∧ Lns 31 450 ls' ∧ 1 ≤ ls'.length := by
  have sz := sizeLine_eq
  have p1 := h.p1
  have p10 := h.p10
  have al := arL_len a
  have hL := arL_lns h
  obtain ⟨j, ej, hj⟩ := mod_nat (r := t) (n := a.places.length) t0 p1
  have hp : a.places[j]? = some a.places[j] := List.getElem?_eq_getElem hj
  have hm : a.places[j] ∈ a.places := List.getElem_mem hj
  have ok := h.pl _ hm
  have ln := arL_next hp
  have hi : 3 + 3 * j < (arL a).length := by omega
  rw [List.getElem?_eq_getElem hi] at ln
  have ln := Option.some.inj ln
  have hl := hL.li _ (List.getElem_mem hi)
  have sp := split_any 32 (x := (arL a)[3 + 3 * j]) (by have := hl.len; omega)
  have hr := rowsA_ok h
  have hws : (Str.ofString "next" :: a.places[j].nexts.map dig) ∈ rowsA a := by
    have := rows_third a.places j _ hp
    exact List.mem_cons_of_mem _ (List.mem_of_getElem? this)
  obtain ⟨_, h2, h3⟩ := hr.row _ hws
  have sl := split_line (ws := Str.ofString "next" :: a.places[j].nexts.map dig) (by simp) h3 h2
  have s2 : 2 ≤ (splitS 32 (arL a)[3 + 3 * j]).length := by
    have e : splD 32 (.str (arL a)[3 + 3 * j]) = splD 32 (.str (ofCs (lineC (Str.ofString "next" :: a.places[j].nexts.map dig)))) := by rw [ln]; rfl
    rw [sp, sl] at e
    have e := congrArg List.length (Option.some.inj e)
    rw [List.length_map, List.length_map, List.length_cons, List.length_map] at e
    have n0 : 1 ≤ a.places[j].nexts.length := by
      have pp := prodZ_pos (cs := a.places[j].counts) fun c hc => (ok.cn c hc).1
      have nl := ok.nl
      rcases hx : a.places[j].nexts with _ | ⟨x, xs⟩
      · rw [hx] at nl
        have r := rowsC_len (cs := a.places[j].counts) fun c hc => by have := (ok.cn c hc).1; omega
        simp at nl
        omega
      · simp
    omega
  have wsl := WS_split 32 (arL a)[3 + 3 * j]
  have wch : ∀ w ∈ splitS 32 (arL a)[3 + 3 * j], ∀ c ∈ cs w, c < 1000 := fun z hz c hc => hl.ch c ((splitS_mem hz).2 c hc)
  have hll := hl.len
  have xi := sl_at hi g
  generalize hLI : (arL a)[3 + 3 * j] = LI at *
  generalize hWS : splitS 32 LI = ws at *
  obtain ⟨q, eq, hq⟩ := mod_nat (r := far) (n := ws.length - 1) f0 (by omega)
  obtain ⟨y, ey, hy⟩ := num10 p10
  have fd := dFdiv_ok ((arL a).length : Int) 3 (by decide) (by decide)
  have e3 : ((arL a).length : Int) / 3 = (a.places.length : Int) := by omega
  rw [e3] at fd
  have m1 := dMod_ok t (a.places.length : Int) (by omega)
  rw [ej] at m1
  have m2 := dMod_ok far ((ws.length : Int) - 1) (by omega)
  have ew : ((ws.length : Int) - 1) = ((ws.length - 1 : Nat) : Int) := by omega
  rw [ew, eq, ← ew] at m2
  have m3 := dMod_ok far 3 (by decide)
  have mu := dMul_ok2 3 (j : Int) (by omega)
  have cw : (3 : Int) + 3 * (j : Int) = ((3 + 3 * j : Nat) : Int) := by omega
  have lnD' := sl_len (arL a)
  have lw : lenD [.lst (ws.map .str)] = some (.int ws.length) := by
    show some (D.int ((ws.map D.str).length : Int)) = _
    rw [List.length_map]
  have z3 : ∀ x : D, szD 3 x = some x := fun x => if_pos (by omega)
  have x3 : ∃ w : Str, Lq 20 w ∧ ixD g (.lst [.str (Str.ofString "10"), .str (Str.ofString "999999"), .str y]) (.int (far % 3)) = some (.str w) := by
    refine third (r := far % 3) (by omega) (by omega) (fun e => ?_) (fun e => ?_) fun e => ?_ <;> rw [e]
    · exact ⟨_, ⟨by decide, by decide⟩, rfl⟩
    · exact ⟨_, ⟨by decide, by decide⟩, rfl⟩
    · exact ⟨_, hy, rfl⟩
  obtain ⟨w, hw, x3⟩ := x3
  have sx : L2.ixN (ws.map D.str).length (1 + (q : Int)) = some (1 + q) := by
    rw [List.length_map]
    have : (1 : Int) + (q : Int) = ((1 + q : Nat) : Int) := by omega
    rw [this]
    have := ixN_of (n := ws.length) (i := ((1 + q : Nat) : Int)) (by omega) (by omega)
    rwa [Int.toNat_natCast] at this
  have st : (ws.map D.str).set (1 + q) (.str w) = (ws.set (1 + q) w).map D.str := by rw [List.map_set]
  have wss := WS_set ws (1 + q) w
  have hwl := hw.len
  have jc : ∀ z ∈ ws.set (1 + q) w, ∀ c ∈ cs z, c < 1000 := fun z hz => (List.mem_or_eq_of_mem_set hz).elim (wch z) fun e => by rw [e]; exact hw.ch
  have jl := joinS_lq jc
  have js := join_sp (ws := ws.set (1 + q) w) (by omega)
  have tk := sl_take (arL a) (3 + 3 * j)
  have dp := sl_drop (arL a) (3 + 3 * j + 1)
  have c1 : ((3 + 3 * j + 1 : Nat) : Int) = ((3 + 3 * j : Nat) : Int) + 1 := by omega
  rw [c1] at dp
  have e1 : D.lst [D.str (joinS (ws.set (1 + q) w))] = SL [joinS (ws.set (1 + q) w)] := rfl
  have a1 := sl_add (a := (arL a).take (3 + 3 * j)) (b := [joinS (ws.set (1 + q) w)]) (by rw [List.length_take, List.length_singleton]; omega)
  have a2 := sl_add (a := (arL a).take (3 + 3 * j) ++ [joinS (ws.set (1 + q) w)]) (b := (arL a).drop (3 + 3 * j + 1)) (by rw [List.length_append, List.length_take, List.length_drop, List.length_singleton]; omega)
  have z1 : ∀ x : D, szD 1 x = some x := fun x => if_pos (by omega)
  refine ⟨(arL a).take (3 + 3 * j) ++ [joinS (ws.set (1 + q) w)] ++ (arL a).drop (3 + 3 * j + 1), runF_rt ?_, put_line hL (jl.mono (by omega)) _ (by omega) (by omega) hi, by simp only [List.length_append, List.length_singleton]; omega⟩
  have eo : D.lst ((ws.set (1 + q) w).map .str) = SL (ws.set (1 + q) w) := rfl
  clear wsl hWS hLI ln hl jc jl wch hL hws h3 h2 hr sl wss hw hy h ok hp hm
  generalize SL ((arL a).take (3 + 3 * j) ++ [joinS (ws.set (1 + q) w)] ++ (arL a).drop (3 + 3 * j + 1)) = R3 at *
  generalize SL ((arL a).take (3 + 3 * j) ++ [joinS (ws.set (1 + q) w)]) = R2 at *
  generalize SL ((arL a).take (3 + 3 * j)) = R1 at *
  generalize SL ((arL a).drop (3 + 3 * j + 1)) = R4 at *
  generalize SL [joinS (ws.set (1 + q) w)] = R5 at *
  generalize hWN : (ws.set (1 + q) w).map D.str = WN at *
  generalize SL (ws.set (1 + q) w) = SW at *
  generalize ws.map D.str = WM at *
  generalize (ws.length : Int) = WL at *
  generalize SL (arL a) = LS at *
  generalize ((arL a).length : Int) = LL at *
  generalize (a.places.length : Int) = PL at *
  generalize ((3 + 3 * j : Nat) : Int) = IJ at *
  simp -implicitDefEqProofs [s__law_beyond, slots0, lnD', fd, m1, mu, cw, xi, sp, lw, m2, m3, ey, z3, x3, olAt, sx, st, tk, dp, eo, js, e1, z1, a1, a2]
end L_k76
end
section
set_option Elab.async false
set_option linter.all false
set_option maxRecDepth 100000
set_option maxHeartbeats 4000000
set_option autoImplicit false
namespace L_k76
open PySem PD
/-! ### lines joined -/
theorem joinC_ws1 (k : Nat) : ∀ ws : List Str, (joinC [k] (ws.map cs)).length ≤ WS ws
  | [] => Nat.le_refl _
  | [w] => by
    show (cs w).length ≤ _
    rw [cs_len]
    simp only [WS]
    omega
  | w :: v :: ws => by
    have := joinC_ws1 k (v :: ws)
    show (cs w ++ ([k] ++ joinC [k] ((v :: ws).map cs))).length ≤ _
    rw [List.length_append, List.length_append, cs_len]
    simp only [WS, List.length_cons, List.length_nil] at this ⊢
    omega
theorem WS_le {m : Nat} : ∀ {ls : List Str}, (∀ l ∈ ls, Lq m l) → WS ls ≤ ls.length * (m + 1)
  | [], _ => Nat.zero_le _
  | l :: ls, h => by
    have := WS_le (ls := ls) fun x hx => h x (List.mem_cons_of_mem _ hx)
    have h1 := (h l List.mem_cons_self).len
    simp only [WS, List.length_cons]
    rw [Nat.succ_mul]
    omega
theorem join_nl {ls : List Str} {n m : Nat} (h : Lns n m ls) (hb : n * (m + 1) ≤ 1000000) : ∃ x : Str, joinD (.str "\n") (SL ls) = some (.str x) ∧ x.length ≤ 1000000 := by
  have h1 := WS_le h.li
  have h2 : ls.length * (m + 1) ≤ n * (m + 1) := Nat.mul_le_mul_right _ h.ln
  have h3 : WS ls ≤ 1000000 := by omega
  refine ⟨ofCs (joinC [10] (ls.map cs)), ?_, ?_⟩
  · show ((strsD (ls.map .str)).bind fun xs => if (xs.map (·.length)).sum + xs.length * (Str.ofString "\n").length ≤ sizeLine then some (D.str (ofCs (joinC (cs (Str.ofString "\n")) (xs.map cs)))) else none) = _
    rw [strsD_map, Option.bind_some]
    have h2 : (Str.ofString "\n").length = 1 := by rfl
    have h3 : cs (Str.ofString "\n") = [10] := by rfl
    have hs := sum_ws ls
    rw [if_pos (by rw [sizeLine_eq, h2]; omega), h3]
  · rw [ofCs_len]
    have := joinC_ws1 10 ls
    omega
/-! ### what lies near -/
def near18 : List Str := ["players", "place", "moves", "next", "0", "1", "2", "3", "4", "9", "10", "11", "01", "-1", "999999", "1000000", "A", "keep"]
theorem near_split : splD 32 (.str "players place moves next 0 1 2 3 4 9 10 11 01 -1 999999 1000000 A keep") = some (near18.map .str) := by
  have h : splD 32 (.str "players place moves next 0 1 2 3 4 9 10 11 01 -1 999999 1000000 A keep") = if ("players place moves next 0 1 2 3 4 9 10 11 01 -1 999999 1000000 A keep" : Str).length + 2 ≤ sizeLine then some ((splC 32 [] (cs "players place moves next 0 1 2 3 4 9 10 11 01 -1 999999 1000000 A keep")).map fun l => D.str (ofCs l)) else none := rfl
  rw [h, if_pos (by rw [sizeLine_eq]; decide +kernel)]
  rfl
theorem near_lq : ∀ w ∈ near18, Lq 20 w := fun w hw => by
  have h : ∀ x ∈ near18, x.length ≤ 20 ∧ ∀ c ∈ cs x, c < 1000 := by decide +kernel
  exact ⟨(h w hw).1, (h w hw).2⟩
def odd2 : List Str := ["zz", "toolongname"]
theorem odd_lq : ∀ w ∈ odd2, Lq 20 w := fun w hw => by
  have h : ∀ x ∈ odd2, x.length ≤ 20 ∧ ∀ c ∈ cs x, c < 1000 := by decide +kernel
  exact ⟨(h w hw).1, (h w hw).2⟩
theorem names_lq {xs : List Str} (h : Names xs) : ∀ w ∈ xs, Lq 20 w := fun w hw => word_lq (h.nm w hw)
def nearL (ns ps : List Str) : List Str := near18 ++ ns ++ ps ++ odd2
theorem nearL_ok {ns ps : List Str} (h1 : Names ns) (h2 : Names ps) (l1 : ns.length ≤ 4) (l2 : ps.length ≤ 5) : (∀ w ∈ nearL ns ps, Lq 20 w) ∧ 1 ≤ (nearL ns ps).length ∧ (nearL ns ps).length ≤ 1000 := by
  refine ⟨app_li (app_li (app_li near_lq (names_lq h1)) (names_lq h2)) odd_lq, ?_, ?_⟩
  all_goals
    unfold nearL
    simp only [List.length_append, show near18.length = 18 from rfl, show odd2.length = 2 from rfl]
    omega
theorem near_adds {ns ps : List Str} (l1 : ns.length ≤ 4) (l2 : ps.length ≤ 5) : addD (SL near18) (SL ns) = some (SL (near18 ++ ns)) ∧ addD (SL (near18 ++ ns)) (SL ps) = some (SL (near18 ++ ns ++ ps)) ∧ addD (SL (near18 ++ ns ++ ps)) (SL odd2) = some (SL (nearL ns ps)) := by
  refine ⟨sl_add ?_, sl_add ?_, sl_add ?_⟩
  all_goals
    simp only [List.length_append, show near18.length = 18 from rfl, show odd2.length = 2 from rfl]
    omega
/-! ### eleven places -/
theorem fold_mem (a : Array Nat) {c : Nat} : ∀ (n : Nat) (acc : Array Nat), c ∈ ((List.replicate n a).foldl (· ++ ·) acc).toList → c ∈ acc.toList ∨ c ∈ a.toList
  | 0, acc, h => .inl h
  | n + 1, acc, h => by
    rw [List.replicate_succ, List.foldl_cons] at h
    rcases fold_mem a n (acc ++ a) h with h | h
    · rw [Array.toList_append, List.mem_append] at h
      exact h
    · exact .inr h
theorem rep_lq {a : Str} {m : Nat} (h : Lq m a) (n : Int) : Lq (n.toNat * m) (repS a n) := by
  refine ⟨?_, fun c hc => ?_⟩
  · rw [repS_len]
    exact Nat.mul_le_mul_left _ h.len
  · rcases fold_mem a.cps (c := c) n.toNat #[] hc with h1 | h1
    · exact absurd h1 (by simp)
    · exact h.ch c h1
theorem mulS1_ok {a : Str} {m : Nat} (h : Lq m a) (h1 : 1 ≤ a.length) (hm : m ≤ 100) {n : Int} (n1 : 1 ≤ n) (n2 : n ≤ 10000) : ∃ y, mulS1D (.str a) (.int n) = some (.str y) ∧ Lq (n.toNat * m) y := by
  show ∃ y, (if n = 1 then some (D.str a) else mulSD (.str a) (.int n)) = _ ∧ _
  by_cases c : n = 1
  · rw [if_pos c]
    exact ⟨a, rfl, h.mono (by rw [c]; show m ≤ 1 * m; omega)⟩
  · rw [if_neg c]
    have r := rep_lq h n
    have hl := h.len
    have rl := r.len
    have k : n.toNat * m ≤ 10000 * 100 := Nat.mul_le_mul (by omega) hm
    refine ⟨_, if_pos ⟨by omega, n2, h1, by omega, ?_⟩, r⟩
    unfold sOk PyData.strOk
    rw [Bool.and_eq_true]
    refine ⟨?_, decide_eq_true (by rw [sizeLine_eq]; omega)⟩
    rw [← Array.all_toList]
    exact List.all_eq_true.mpr fun c hc => decide_eq_true (by have := r.ch c hc; omega)
theorem one_lq : Lq 2 (Str.ofString " 1") := ⟨by decide, by decide⟩
theorem nine_lq : Lq 1 (Str.ofString "9") := ⟨by decide, by decide⟩
theorem nx9_lq : Lq 400 (Str.ofString "next 9") := ⟨by decide, by decide⟩
theorem moves_ok {n : Nat} (h1 : 1 ≤ n) (h4 : n ≤ 4) : ∃ y z, mulS1D (.str " 1") (.int (n : Int)) = some (.str y) ∧ addD (.str "moves") (.str y) = some (.str z) ∧ Lq 400 z := by
  obtain ⟨y, e, hy⟩ := mulS1_ok one_lq (by decide) (by omega) (n := (n : Int)) (by omega) (by omega)
  have hl := hy.len
  have ml : (Str.ofString "moves").length = 5 := rfl
  exact ⟨y, _, e, addS (Str.ofString "moves") y (by rw [ml]; omega), (add_lq four_lq.2.2.1 hy).mono (by omega)⟩
theorem rep_sl {l : List Str} {k : Nat} (hl : l.length = 3) (hk : k ≤ 1000) : repLD (SL l) (.int (k : Int)) = some (SL (List.replicate k l).flatten) := by
  show (if (l.map D.str).length * (k : Int).toNat ≤ sizeLine ∧ -(2 ^ 63) ≤ (k : Int) ∧ (k : Int) < 2 ^ 63 then some (D.lst (List.replicate (k : Int).toNat (l.map D.str)).flatten) else none) = _
  rw [if_pos ⟨by rw [List.length_map, hl, sizeLine_eq, Int.toNat_natCast]; omega, by omega, by omega⟩, Int.toNat_natCast]
  unfold SL
  rw [List.map_flatten, List.map_replicate]
theorem rep_len (l : List Str) (k : Nat) : (List.replicate k l).flatten.length = k * l.length := by
  rw [List.length_flatten, List.map_replicate, List.sum_replicate_nat]
/-! ### the last line of all -/
theorem sIx_m1 (n d : Nat) : HT.sIx (n + 1) d (some (-1)) = n := by
  show (if (-1 : Int) < 0 then (-1 + ((n + 1 : Nat) : Int)).toNat else min (-1 : Int).toNat (n + 1)) = n
  rw [if_pos (by decide)]
  omega
theorem sl_init {ws : List Str} (h : ws ≠ []) : slD (SL ws) none (some (-1)) = some (SL (ws.take (ws.length - 1))) := by
  obtain ⟨n, hn⟩ : ∃ n, ws.length = n + 1 := ⟨ws.length - 1, by have := List.length_pos_iff.mpr h; omega⟩
  show some (D.lst (cutL (ws.map D.str) none (some (-1)))) = _
  unfold cutL
  rw [List.length_map, hn, HT.sIx_none, sIx_m1, List.drop_zero, Nat.sub_zero, Nat.add_sub_cancel, ← List.map_take]
  rfl
theorem ne_nil (ls : List Str) : neD (SL ls) (.lst []) = some (!decide (ls = [])) := by
  unfold SL
  rw [neD_of (kdS.lst.ok (by decide) ls) (by decide), eqq_lst]
  have := eqqA_map eqq_str ls []
  rw [List.map_nil] at this
  rw [this]
end L_k76
end
section
set_option Elab.async false
set_option linter.all false
set_option maxRecDepth 100000
set_option maxHeartbeats 4000000
set_option autoImplicit false
namespace L_k76
open PySem PD
noncomputable def lpB : S := (sIf (tNot (tE (eCall F__law_read_right (aCons (eJoin (eC (.str "\n")) (eVar 13)) aNil)))) (sRet (eC (.bl false))) sNil)
noncomputable def tnB : S := (sSeq (sParV [3, 4, 5] (vCons (vD (eCall F__law_draw (aCons (eVar 1) (aCons (eC (.int 99)) aNil)))) (vCons (vD (eCall F__law_draw (aCons (eVar 1) (aCons (eC (.int 99)) aNil)))) (vCons (vD (eCall F__law_names (aCons (eVar 1) (aCons (eOp addD (eC (.int 1)) (eCall F__law_draw (aCons (eVar 1) (aCons (eC (.int 4)) aNil)))) aNil)))) vNil))))
  (sSeq (sSet 6 (eCall F__law_names (aCons (eVar 1) (aCons (eC (.int 5)) aNil))))
  (sSeq (sSet 7 (eCall F__law_lines (aCons (eCall F__law_arena (aCons (eVar 1) (aCons (eVar 5) (aCons (eVar 6) (aCons (eIx (eLst (aCons (eC (.int 4)) (aCons (eC (.int 4)) (aCons (eC (.int 4)) (aCons (eC (.int 10)) aNil))))) (eCall F__law_draw (aCons (eVar 1) (aCons (eC (.int 4)) aNil)))) aNil))))) aNil)))
  (sSeq (sSet 8 (eO (aSplit 32 (eC (.str "players place moves next 0 1 2 3 4 9 10 11 01 -1 999999 1000000 A keep")))))
  (sSeq (sSet 8 (eOp addD (eOp addD (eOp addD (eVar 8) (eVar 5)) (eVar 6)) (eLst (aCons (eC (.str "zz")) (aCons (eC (.str "toolongname")) aNil)))))
  (sSeq (sSet 9 (eCall F__law_beyond (aCons (eVar 7) (aCons (eVar 3) (aCons (eVar 4) aNil)))))
  (sSeq (sSet 10 (eOp addD (eSl (eVar 7) pNone (pSome (eC (.int 1)))) (eOp repLD (eLst (aCons (eC (.str "place")) (aCons (eOp addD (eC (.str "moves")) (eOp mulS1D (eC (.str " 1")) (eBi lenD (aCons (eVar 5) aNil)))) (aCons (eC (.str "next 9")) aNil)))) (eOp addD (eC (.int 10)) (eOp dMod (eVar 3) (eC (.int 2)))))))
  (sSeq (sSet 11 (eCall F__law_bent (aCons (eVar 1) (aCons (eVar 7) (aCons (eVar 8) aNil)))))
  (sSeq (sSet 12 (eCall F__law_bent (aCons (eVar 1) (aCons (eIf (tCmp neD (eVar 11) (eLst aNil)) (eVar 11) (eLst (aCons (eC (.str "")) aNil))) (aCons (eVar 8) aNil)))))
  (sFor (aItem (eTup (aCons (eVar 7) (aCons (eVar 11) (aCons (eVar 12) (aCons (eCall F__law_bent (aCons (eVar 1) (aCons (eVar 9) (aCons (eVar 8) aNil)))) (aCons (eVar 9) (aCons (eVar 10) (aCons (eCall F__law_bent (aCons (eVar 1) (aCons (eVar 7) (aCons (eVar 8) aNil)))) aNil))))))))) (bName 13) lpB))))))))))
noncomputable def lsF : S := (sSeq (sSet 14 (eOp addD (eSl (eO (aSplit 32 (eIx (eVar 7) (eC (.int 3))))) pNone (pSome (eNeg (eC (.int 1))))) (eLst (aCons (eOp mulS1D (eC (.str "9")) (eC (.int 5000))) aNil))))
  (sRet (eCall F__law_read_right (aCons (eJoin (eC (.str "\n")) (eOp addD (eOp addD (eSl (eVar 7) pNone (pSome (eC (.int 3)))) (eLst (aCons (eJoin (eC (.str " ")) (eVar 14)) aNil))) (eSl (eVar 7) (pSome (eC (.int 4))) pNone))) aNil))))
theorem law_eq : s_law = sSeq (sSet 1 (eCall F__law_begun (aCons (eVar 0) aNil))) (sSeq (sFor (aIt range1M (aCons (eC (.int 4)) aNil)) (bName 2) tnB) lsF) := rfl
theorem Dr.put (s : Dr) (r : G) : s.g ++ r = ({ s with rest := s.rest ++ r } : Dr).g := rfl
theorem tab_g (s : Dr) : tabAt s.g 0 "_law_read_right" = true := rfl
def Fit (ls : List Str) : Prop := ∃ n m, Lns n m ls ∧ n * (m + 1) ≤ 1000000
theorem read_fit {ls : List Str} (h : Fit ls) : ∃ x : Str, joinD (.str "\n") (SL ls) = some (.str x) ∧ ∀ s : Dr, ∃ s' : Dr, F__law_read_right [.str x] s.g = some (.bl true, s'.g) ∧ ∀ b, s.Ok b → s'.Ok b := by
  obtain ⟨n, m, h1, h2⟩ := h
  obtain ⟨x, e, hx⟩ := join_nl h1 h2
  refine ⟨x, e, fun s => ?_⟩
  obtain ⟨r, er⟩ := readRight_any hx (tab_g s)
  rw [Dr.put] at er
  exact ⟨_, er, fun b ok => ⟨ok.len, ok.lo, ok.hi⟩⟩
theorem all_read (LL : List (List Str)) (hF : ∀ ls ∈ LL, Fit ls) {x0 x1 x2 x3 x4 x5 x6 x7 x8 x9 x10 x11 x12 x13 x14 : Option LV} {s : Dr} {b : Nat} (ok : s.Ok b) : Wp (forL (bName 13) lpB (LL.map SL) [x0, x1, x2, x3, x4, x5, x6, x7, x8, x9, x10, x11, x12, x13, x14] s.g) fun fl g' => ∃ (o13 : Option LV) (s' : Dr), fl = .nx [x0, x1, x2, x3, x4, x5, x6, x7, x8, x9, x10, x11, x12, o13, x14] ∧ g' = s'.g ∧ s'.Ok b := by
  refine wp_for LL (fun done ρ g' => ∃ (o13 : Option LV) (s' : Dr), ρ = [x0, x1, x2, x3, x4, x5, x6, x7, x8, x9, x10, x11, x12, o13, x14] ∧ g' = s'.g ∧ s'.Ok b) ⟨_, s, rfl, rfl, ok⟩ ?_ ?_
  · rintro done ls todo ρ g' e ⟨o13, s', rfl, rfl, ok'⟩
    refine ⟨_, rfl, ?_⟩
    obtain ⟨x, ej, hr⟩ := read_fit (hF ls (by rw [e]; simp))
    obtain ⟨s'', er, hs⟩ := hr s'
    have hs := hs b ok'
    refine wp_hide fun Q hQ => ?_
    unfold lpB
    generalize SL ls = LS at *
    simp -implicitDefEqProofs [setR, ej, er]
    exact hQ _ _ ⟨_, s'', rfl, rfl, hs⟩
  · rintro ρ g' ⟨o13, s', rfl, rfl, ok'⟩
    exact ⟨o13, s', rfl, rfl, ok'⟩
end L_k76
end
section
set_option Elab.async false
set_option linter.all false
set_option maxRecDepth 100000
set_option maxHeartbeats 4000000
set_option autoImplicit false
namespace L_k76
open PySem PD
theorem fitB {a : Arena} (h : ArenaOk a) {z : Str} (hz : Lq 400 z) {k : Nat} (hk : k ≤ 11) : ((arL a).take 1).length + ((List.replicate k [Str.ofString "place", z, Str.ofString "next 9"]).flatten).length ≤ 1000000 ∧ Lns 34 400 ((arL a).take 1 ++ (List.replicate k [Str.ofString "place", z, Str.ofString "next 9"]).flatten) := by
  have rl := rep_len [Str.ofString "place", z, Str.ofString "next 9"] k
  have rl : (List.replicate k [Str.ofString "place", z, Str.ofString "next 9"]).flatten.length = k * 3 := rl
  refine ⟨by rw [List.length_take, rl]; omega, by rw [List.length_append, List.length_take, rl]; omega, app_li (take_li (arL_lns h).li 1) fun w hw => ?_⟩
  obtain ⟨l, hl, hw⟩ := List.mem_flatten.mp hw
  rw [(List.mem_replicate.mp hl).2] at hw
  simp only [List.mem_cons, List.not_mem_nil, or_false] at hw
  rcases hw with rfl | rfl | rfl
  · exact four_lq.2.1.mono (by omega)
  · exact hz
  · exact nx9_lq
theorem once_or {once : List Str} (h : Lns 64 1240 once) : ∃ (tw : List Str) (b : Bool), neD (SL once) (.lst []) = some b ∧ (b = true ∧ tw = once ∨ b = false ∧ tw = [Str.ofString ""]) ∧ Lns 64 1240 tw ∧ 1 ≤ tw.length := by
  have ne := ne_nil once
  by_cases c : once = []
  · rw [decide_eq_true c] at ne
    exact ⟨_, _, ne, .inr ⟨rfl, rfl⟩, ⟨by decide, one_li (nil_lq.mono (by omega))⟩, by decide⟩
  · rw [decide_eq_false c] at ne
    exact ⟨_, _, ne, .inl ⟨rfl, rfl⟩, h, List.length_pos_iff.mpr c⟩
theorem tn_ok {x0 x2 x3 x4 x5 x6 x7 x8 x9 x10 x11 x12 x13 x14 : Option LV} {s : Dr} {b : Nat} (ok : s.Ok (b + 800)) :
    Wp (tnB [x0, some (.d (.hd 2)), x2, x3, x4, x5, x6, x7, x8, x9, x10, x11, x12, x13, x14] s.g) fun fl g' => ∃ (o3 o4 o5 o6 o8 o9 o10 o11 o12 o13 : Option LV) (a : Arena) (s' : Dr), fl = .nx [x0, some (.d (.hd 2)), x2, o3, o4, o5, o6, some (.d (SL (arL a))), o8, o9, o10, o11, o12, o13, x14] ∧ g' = s'.g ∧ ArenaOk a ∧ s'.Ok b := by
  have sz := sizeLine_eq
  have z1 : ∀ x : D, szD 1 x = some x := fun x => if_pos (by omega)
  obtain ⟨t, s1, e1, t0, t1, ok1, _⟩ := draw_ok (b := b + 790) (ok.mono (by omega)) (m := 99) (by decide) (by decide)
  obtain ⟨f, s2, e2, f0, f1, ok2, _⟩ := draw_ok (b := b + 780) (ok1.mono (by omega)) (m := 99) (by decide) (by decide)
  obtain ⟨r, s3, e3, r0, r4, ok3, _⟩ := draw_ok (b := b + 770) (ok2.mono (by omega)) (m := 4) (by decide) (by decide)
  obtain ⟨ns, s4, e4, nl, nm, ok4, _⟩ := names_ok (n := 1 + r) (by omega) (by omega) (s := s3) (b := b + 740) (ok3.mono (by omega))
  obtain ⟨ps, s5, e5, pl, pm, ok5, _⟩ := names_ok (n := 5) (by omega) (by omega) (s := s4) (b := b + 710) (ok4.mono (by omega))
  obtain ⟨q, s6, e6, q0, q3, ok6, _⟩ := draw_ok (b := b + 700) (ok5.mono (by omega)) (m := 4) (by decide) (by decide)
  obtain ⟨top, et, u1, u10⟩ : ∃ top : Int, L2.atI [D.int 4, D.int 4, D.int 4, D.int 10] q = some (.int top) ∧ 1 ≤ top ∧ top ≤ 10 := by
    obtain rfl | rfl | rfl | rfl : q = 0 ∨ q = 1 ∨ q = 2 ∨ q = 3 := by omega
    · exact ⟨4, rfl, by omega, by omega⟩
    · exact ⟨4, rfl, by omega, by omega⟩
    · exact ⟨4, rfl, by omega, by omega⟩
    · exact ⟨10, rfl, by omega, by omega⟩
  obtain ⟨a, s7, e7, ha, ok7, _⟩ := arena_ok nm (by omega) (by omega) pm (by omega) u1 u10 (s := s6) (b := b + 100) (ok6.mono (by omega))
  have e4 : F__law_names [.hd 2, .int (1 + r)] s3.g = some (SL ns, s4.g) := e4
  have e5 : F__law_names [.hd 2, .int 5] s4.g = some (SL ps, s5.g) := e5
  have e7 : F__law_arena [.hd 2, SL ns, SL ps, .int top] s6.g = some (a.d, s7.g) := e7
  have l1 := lawLines_ok ha s7.g
  rw [← arL_d] at l1
  obtain ⟨n1, n2, n3⟩ := near_adds (ns := ns) (ps := ps) (by omega) (by omega)
  obtain ⟨hN, nN1, nN2⟩ := nearL_ok nm pm (by omega) (by omega)
  obtain ⟨late, eL, hL, lL⟩ := beyond_ok ha t0 f0 s7.g
  have tk1 : slD (SL (arL a)) none (some 1) = some (SL ((arL a).take 1)) := sl_take (arL a) 1
  obtain ⟨y, z, em, ez, hz⟩ := moves_ok (n := ns.length) (by omega) (by omega)
  have ln := sl_len ns
  have m2 := dMod_ok t 2 (by decide)
  obtain ⟨k, ek, hk⟩ : ∃ k : Nat, 10 + t % 2 = (k : Int) ∧ k ≤ 11 := ⟨(10 + t % 2).toNat, by omega, by omega⟩
  have rp := rep_sl (l := [Str.ofString "place", z, Str.ofString "next 9"]) (k := k) rfl (by omega)
  obtain ⟨fl1, hE⟩ := fitB ha hz hk
  have ae := sl_add fl1
  have hA := arL_lns ha
  have al := arL_len a
  obtain ⟨once, s8, e8, h8, ok8⟩ := bent_ok hA (by omega) (by omega) (by omega) hN nN1 nN2 (s := s7) (b := b + 90) (ok7.mono (by omega))
  obtain ⟨tw, bo, ne, cs', hT, lT⟩ := once_or h8
  obtain ⟨twice, s9, e9, h9, ok9⟩ := bent_ok hT lT (by omega) (by omega) hN nN1 nN2 (s := s8) (b := b + 80) (ok8.mono (by omega))
  obtain ⟨bl, s10, e10, h10, ok10⟩ := bent_ok hL lL (by omega) (by omega) hN nN1 nN2 (s := s9) (b := b + 70) (ok9.mono (by omega))
  obtain ⟨ag, s11, e11, h11, ok11⟩ := bent_ok hA (by omega) (by omega) (by omega) hN nN1 nN2 (s := s10) (b := b + 60) (ok10.mono (by omega))
  have hF : ∀ ls ∈ [arL a, once, twice, bl, late, (arL a).take 1 ++ (List.replicate k [Str.ofString "place", z, Str.ofString "next 9"]).flatten, ag], Fit ls := fun ls hls => by
    simp only [List.mem_cons, List.not_mem_nil, or_false] at hls
    rcases hls with rfl | rfl | rfl | rfl | rfl | rfl | rfl
    · exact ⟨_, _, hA, by decide⟩
    · exact ⟨_, _, h8, by decide⟩
    · exact ⟨_, _, h9, by decide⟩
    · exact ⟨_, _, h10, by decide⟩
    · exact ⟨_, _, hL, by decide⟩
    · exact ⟨_, _, hE, by decide⟩
    · exact ⟨_, _, h11, by decide⟩
  have loop := all_read _ hF (x0 := x0) (x1 := some (.d (.hd 2))) (x2 := x2) (x3 := some (.d (.int t))) (x4 := some (.d (.int f))) (x5 := some (.d (SL ns))) (x6 := some (.d (SL ps))) (x7 := some (.d (SL (arL a)))) (x8 := some (.d (SL (nearL ns ps)))) (x9 := some (.d (SL late))) (x10 := some (.d (SL ((arL a).take 1 ++ (List.replicate k [Str.ofString "place", z, Str.ofString "next 9"]).flatten)))) (x11 := some (.d (SL once))) (x12 := some (.d (SL twice))) (x13 := x13) (x14 := x14) (s := s11) (b := b) (ok11.mono (by omega))
  simp only [List.map_cons, List.map_nil] at loop
  obtain ⟨fl, g', ef, o13, s', rfl, rfl, okf⟩ := loop
  have it : ∀ l, itemsD (.tup l) = some l := fun _ => rfl
  have d18 : D.lst (near18.map .str) = SL near18 := rfl
  have d2 : D.lst [.str (Str.ofString "zz"), .str (Str.ofString "toolongname")] = SL odd2 := rfl
  have d3 : D.lst [.str (Str.ofString "place"), .str z, .str (Str.ofString "next 9")] = SL [Str.ofString "place", z, Str.ofString "next 9"] := rfl
  have z0 : (0 : Nat) ≤ sizeLine := by omega
  have z1 : (1 : Nat) ≤ sizeLine := by omega
  have z2 : (2 : Nat) ≤ sizeLine := by omega
  have z3 : (3 : Nat) ≤ sizeLine := by omega
  have z4 : (4 : Nat) ≤ sizeLine := by omega
  have z7 : (7 : Nat) ≤ sizeLine := by omega
  have fin : ∃ (o3 o4 o5 o6 o8 o9 o10 o11 o12 o13' : Option LV) (a' : Arena) (s'' : Dr), Fl.nx [x0, some (.d (.hd 2)), x2, some (.d (.int t)), some (.d (.int f)), some (.d (SL ns)), some (.d (SL ps)), some (.d (SL (arL a))), some (.d (SL (nearL ns ps))), some (.d (SL late)), some (.d (SL ((arL a).take 1 ++ (List.replicate k [Str.ofString "place", z, Str.ofString "next 9"]).flatten))), some (.d (SL once)), some (.d (SL twice)), o13, x14] = .nx [x0, some (.d (.hd 2)), x2, o3, o4, o5, o6, some (.d (SL (arL a'))), o8, o9, o10, o11, o12, o13', x14] ∧ s'.g = s''.g ∧ ArenaOk a' ∧ s''.Ok b := ⟨_, _, _, _, _, _, _, _, _, _, a, s', rfl, rfl, ha, okf⟩
  refine wp_hide fun Q hQ => ?_
  have fin := hQ _ _ fin
  unfold tnB
  have ns' := near_split
  generalize lpB = LP at *
  clear hF hQ hA hE hT hL h8 h9 h10 h11 hN nm pm ok ok1 ok2 ok3 ok4 ok5 ok6 ok7 ok8 ok9 ok10 ok11 okf ha
  have d1 : bo = true ∧ SL once = SL tw ∨ bo = false ∧ D.lst [.str (Str.ofString "")] = SL tw := by
    rcases cs' with ⟨h1, h2⟩ | ⟨h1, h2⟩
    · exact .inl ⟨h1, by rw [h2]⟩
    · exact .inr ⟨h1, by rw [h2]; rfl⟩
  generalize SL ((arL a).take 1 ++ (List.replicate k [Str.ofString "place", z, Str.ofString "next 9"]).flatten) = EL at *
  generalize SL (List.replicate k [Str.ofString "place", z, Str.ofString "next 9"]).flatten = EF at *
  generalize SL ((arL a).take 1) = E1 at *
  generalize SL (arL a) = AL at *
  generalize SL (nearL ns ps) = NL at *
  generalize SL (near18 ++ ns ++ ps) = N3 at *
  generalize SL (near18 ++ ns) = N2 at *
  generalize SL near18 = N18 at *
  generalize SL odd2 = O2 at *
  generalize SL late = LT at *
  generalize SL once = ON at *
  generalize SL tw = TT at *
  generalize SL twice = TW at *
  generalize SL bl = BL at *
  generalize SL ag = AG at *
  generalize SL ns = NS at *
  generalize SL ps = PS at *
  rcases d1 with ⟨rfl, rfl⟩ | ⟨rfl, d1⟩
  · simp -implicitDefEqProofs [z0, z1, z2, z3, z4, z7, e1, e2, e3, e4, e5, e6, et, e7, l1, ns', d18, n1, n2, d2, n3, eL, tk1, ln, em, ez, d3, m2, ek, rp, ae, e8, ne, e9, e10, e11, it, ef, setR, setLs]
    exact fin
  · simp -implicitDefEqProofs [z0, z1, z2, z3, z4, z7, e1, e2, e3, e4, e5, e6, et, e7, l1, ns', d18, n1, n2, d2, n3, eL, tk1, ln, em, ez, d3, m2, ek, rp, ae, e8, ne, d1, e9, e10, e11, it, ef, setR, setLs]
    exact fin
end L_k76
end
section
set_option Elab.async false
set_option linter.all false
set_option maxRecDepth 100000
set_option maxHeartbeats 4000000
set_option autoImplicit false
namespace L_k76
open PySem PD
theorem last_ok {a : Arena} (h : ArenaOk a) {x0 x1 x2 x3 x4 x5 x6 x8 x9 x10 x11 x12 x13 x14 : Option LV} (s : Dr) : Wp (lsF [x0, x1, x2, x3, x4, x5, x6, some (.d (SL (arL a))), x8, x9, x10, x11, x12, x13, x14] s.g) fun fl _ => fl = .rt (.bl true) := by
  have sz := sizeLine_eq
  have al := arL_len a
  have p1 := h.p1
  have hA := arL_lns h
  have hi : 3 < (arL a).length := by omega
  have hl := hA.li _ (List.getElem_mem hi)
  have hll := hl.len
  have xi : ∀ g, ixD g (SL (arL a)) (.int 3) = some (.str (arL a)[3]) := fun g => sl_at hi g
  have sp := split_any 32 (x := (arL a)[3]) (by omega)
  have sn := splitS_ne 32 (arL a)[3]
  have si := sl_init sn
  have wsl := WS_split 32 (arL a)[3]
  have wch : ∀ w ∈ splitS 32 (arL a)[3], ∀ c ∈ cs w, c < 1000 := fun z hz c hc => hl.ch c ((splitS_mem hz).2 c hc)
  generalize hws : splitS 32 (arL a)[3] = ws at *
  obtain ⟨y, ey, hy⟩ := mulS1_ok nine_lq (by decide) (by omega) (n := 5000) (by omega) (by omega)
  have hyl : y.length ≤ 5000 := hy.len
  have td := WS_td ws (ws.length - 1)
  have wln := WS_len ws
  have a0 := sl_add (a := ws.take (ws.length - 1)) (b := [y]) (by rw [List.length_take, List.length_singleton]; omega)
  have wy : WS (ws.take (ws.length - 1) ++ [y]) ≤ 5402 := by
    rw [WS_app]
    simp only [WS]
    omega
  have jl := joinS_lq (ws := ws.take (ws.length - 1) ++ [y]) (app_li (take_li wch _) (one_li hy.ch))
  have js := join_sp (ws := ws.take (ws.length - 1) ++ [y]) (by omega)
  have fitl := put_line hA (jl.mono wy) 3 (by omega) (by omega) hi
  have tk : slD (SL (arL a)) none (some 3) = some (SL ((arL a).take 3)) := sl_take (arL a) 3
  have dp : slD (SL (arL a)) (some 4) none = some (SL ((arL a).drop 4)) := sl_drop (arL a) 4
  have fitl : Lns 31 5402 ((arL a).take 3 ++ [joinS (ws.take (ws.length - 1) ++ [y])] ++ (arL a).drop 4) := fitl
  obtain ⟨x, ej, hr⟩ := read_fit ⟨_, _, fitl, by decide⟩
  obtain ⟨s', er, _⟩ := hr s
  have hln := hA.ln
  have a1 := sl_add (a := (arL a).take 3) (b := [joinS (ws.take (ws.length - 1) ++ [y])]) (by rw [List.length_take, List.length_singleton]; omega)
  have a2 := sl_add (a := (arL a).take 3 ++ [joinS (ws.take (ws.length - 1) ++ [y])]) (b := (arL a).drop 4) (by rw [List.length_append, List.length_take, List.length_drop, List.length_singleton]; omega)
  have z1 : (1 : Nat) ≤ sizeLine := by omega
  have d1 : D.lst (ws.map .str) = SL ws := rfl
  have d2 : D.lst [.str y] = SL [y] := rfl
  have d3 : D.lst [.str (joinS (ws.take (ws.length - 1) ++ [y]))] = SL [joinS (ws.take (ws.length - 1) ++ [y])] := rfl
  clear hws fitl jl wch hA h
  generalize SL ((arL a).take 3 ++ [joinS (ws.take (ws.length - 1) ++ [y])] ++ (arL a).drop 4) = L1 at *
  generalize SL ((arL a).take 3 ++ [joinS (ws.take (ws.length - 1) ++ [y])]) = L2 at *
  generalize SL [joinS (ws.take (ws.length - 1) ++ [y])] = L3 at *
  generalize joinS (ws.take (ws.length - 1) ++ [y]) = JS at *
  generalize SL (ws.take (ws.length - 1) ++ [y]) = L4 at *
  generalize SL (ws.take (ws.length - 1)) = L5 at *
  generalize SL ((arL a).take 3) = L6 at *
  generalize SL ((arL a).drop 4) = L7 at *
  generalize SL [y] = L8 at *
  generalize SL ws = L9 at *
  generalize ws.map D.str = WM at *
  generalize SL (arL a) = AL at *
  refine wp_hide fun Q hQ => ?_
  unfold lsF
  simp -implicitDefEqProofs [z1, xi, sp, d1, si, ey, d2, a0, setR, js, d3, tk, dp, a1, a2, ej, er]
  exact hQ _ _ rfl
theorem plain (ns : List Int) (h : ns.length ≤ 63) : ∃ g', F_law [.lst (ns.map D.int)] (PD.tabG tabs) = some (.bl true, g') := by
  have key : Wp (F_law [.lst (ns.map D.int)] (PD.tabG tabs)) fun d _ => d = .bl true := by
    refine wp_runF ?_
    obtain ⟨s, e, ok, _⟩ := begun_ok h
    rw [law_eq]
    have rg : range1M [.int 4] = some ((upto 4).map .int) := by
      rw [range1_ok (by omega) (by omega), rangeD_upto]
    have ul : (upto 4).length = 4 := by rw [upto_len]; rfl
    have tg : PD.tabG tabs = [.mt "_law_read_right"] := rfl
    rw [tg]
    generalize hSC : ns.map D.int = SC at *
    generalize hTB : tnB = TB at *
    generalize hLS : lsF = LS at *
    refine wp_hide fun Q hQ => ?_
    simp -implicitDefEqProofs [slots0, e, rg]
    refine wp_bind (wp_for (upto 4) (fun done ρ g' => ∃ (x2 o3 o4 o5 o6 o7 o8 o9 o10 o11 o12 o13 : Option LV) (s' : Dr), ρ = [some (.d (.lst SC)), some (.d (.hd 2)), x2, o3, o4, o5, o6, o7, o8, o9, o10, o11, o12, o13, none] ∧ g' = s'.g ∧ s'.Ok (800 * (10 - done.length)) ∧ (done = [] ∨ ∃ a, ArenaOk a ∧ o7 = some (.d (SL (arL a))))) ⟨_, _, _, _, _, _, _, _, _, _, _, _, s, rfl, rfl, ok.mono (by simp), .inl rfl⟩ ?_ ?_)
    · rintro done x todo ρ g' e ⟨x2, o3, o4, o5, o6, o7, o8, o9, o10, o11, o12, o13, s', rfl, rfl, ok', _⟩
      refine ⟨_, rfl, ?_⟩
      have hd : done.length ≤ 3 := by
        have : (upto 4).length = done.length + (todo.length + 1) := by rw [e]; simp
        omega
      rw [← hTB]
      refine wp_mono (tn_ok (s := s') (b := 800 * (10 - (done.length + 1))) (ok'.mono (by omega))) ?_
      rintro fl g' ⟨o3', o4', o5', o6', o8', o9', o10', o11', o12', o13', a, s'', rfl, rfl, ha, ok''⟩
      exact ⟨_, _, _, _, _, _, _, _, _, _, _, _, s'', rfl, rfl, by rw [List.length_append]; exact ok'', .inr ⟨a, ha, rfl⟩⟩
    · rintro ρ g' ⟨x2, o3, o4, o5, o6, o7, o8, o9, o10, o11, o12, o13, s', rfl, rfl, ok', hx⟩
      rcases hx with hx | ⟨a, ha, rfl⟩
      · rw [hx] at ul
        cases ul
      · obtain ⟨fl, g2, ef, rfl⟩ := last_ok ha (x0 := some (.d (.lst SC))) (x1 := some (.d (.hd 2))) (x2 := x2) (x3 := o3) (x4 := o4) (x5 := o5) (x6 := o6) (x8 := o8) (x9 := o9) (x10 := o10) (x11 := o11) (x12 := o12) (x13 := o13) (x14 := none) s'
        rw [hLS] at ef
        simp -implicitDefEqProofs [ef]
        exact hQ _ _ rfl
  obtain ⟨d, g', e, rfl⟩ := key
  exact ⟨g', e⟩
end L_k76
end
section
set_option Elab.async false
set_option linter.all false
set_option maxRecDepth 100000
set_option maxHeartbeats 0
namespace L_k76
open PySem PySem.Spec L2 PD
open PyProof.Rows hiding St
end L_k76
open PySem PySem.W PySem.Calls PyProof.Rows
theorem PySem.Challenge.cw_whocan_k76_whole_texts_of_no_arena_holds : PySem.Challenge.rw_whocan_k76_whole_texts_of_no_arena.Holds := by
  w_on; o_law
  refine HandSHeadRun.head_any (r := OpenLaw.row PySem.Challenge.rw_whocan_k76_whole_texts_of_no_arena) (q := view (OpenLaw.row PySem.Challenge.rw_whocan_k76_whole_texts_of_no_arena).prog [48]) (H := L_k76.hk) (ob := L_k76.ob) (M := 6000) (loose := L_k76.loose)
    (d := HandSHeadRun.topDef (OpenLaw.row PySem.Challenge.rw_whocan_k76_whole_texts_of_no_arena).prog 48) (kwd := []) L_k76.ob_eq (by kernel_rfl) (fun s => by kernel_rfl) L_k76.run (by kernel_rfl) (by kernel_rfl) (by kernel_rfl) (by rfl) (by first | assumption | decide +kernel) (by decide +kernel) ⟨rfl, rfl, rfl, rfl, rfl, by decide +kernel⟩ ?hw ?hc
  case hw => w_witness2
  case hc =>
    refine PD.walk_gT (l := PySem.Challenge.rw_whocan_k76_whole_texts_of_no_arena) (n := 63) (k := 11) (x := "_law_script") (xs := L_k76.tabs) rfl (by decide) (by kernel_rfl) ⟨rfl, by decide, by decide⟩ ?F
    intro w mg fa h Y G hmg0
    obtain ⟨K, KX, c, xb, tk, ht⟩ := Y
    have hmg : mg ("law" : PySem.Str) = some (.ref fa) := by
      have e : (HandSHeadRun.topDef (OpenLaw.row PySem.Challenge.rw_whocan_k76_whole_texts_of_no_arena).prog 48).name = ("law" : PySem.Str) := by kernel_rfl
      rw [← e]
      exact hmg0
    obtain ⟨a, fd, hm, FF⟩ := L_k76.fl_law KX G c
    have ea : fa = a := by
      have := hmg.symm.trans hm
      cases this
      rfl
    subst ea
    refine ⟨K, fd, PD.spD K 1 L_k76.F_law, KX, tk, ht, fun s u => L2.FunD.bindsA (ps := ["_law_script"]) FF (fun _ _ _ _ _ _ us hl => match us, hl with | [_], _ => rfl) s [u] rfl, fun H a ns hl _ hH hS => ?_, fun base kb nb tb => L_k76.g_law (L_k76.vn KX G c xb kb nb tb) FF⟩
    obtain ⟨g', e⟩ := L_k76.plain ns hl
    exact PD.law_spT tk hl hH hS e
end
