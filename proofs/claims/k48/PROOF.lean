import PyProof.Rows.All
import Wide.All
import OpenK.AllK
import Wide.FinOn
import PySem.Challenge.RW_whocan_k48_blocks_by_hand
import HandS.ForMost
import HandS.More
import HandS.Defaults
import HandS.IsInst
import HandS.Deep
import HandS.TupAny
import HandS.TupLe
import HandS.Zip
import HandS.Conv
import HandS.Flow
import HandS.Wide
import HandS.Strs
import HandS.SortInts
import HandS.DictComp
import HandS.SetKeys
import HandS.TupSets
import HandS.ExcInit
import HandS.ExcIs
import HandS.ExcField
import HandS.ExcOwn
import HandS.ExcCtx
import HandS.Hot
import HandS.HeadHook1
import HandS.Lambda
import KE.GoesNew
import HandS.Style
import HandS.NamedTupSort
import PyProof.Rows.SortShellAny
import HandS.Text
import HandS.SetBool
import KE.KDictZip
import KE.KDictPairs
import PyProof.SliceList
import PyProof.ListNew
import PyProof.Rows.SeqMore
import PyProof.DictRoadsH
import HandS.Codes
import KE.KExcInit
import PyProof.ExcBaseAll.LookupError
import PyProof.ExcBaseAll.ArithmeticError
import KE.KExcIs
import HandS.HeadHook2
import HandS.HeadEnd
import HandS.Replace
import PyProof.StrOps2
import HandS.Spec
import HandS.TupMul
import KE.KUnpackStar
import KE.KDictKeyed
import HandS.SetFor
import KE.KStateDown
import HandS.WordsExc
import HandS.Head0
import HandS.Head1
import HandS.Head2
section
set_option Elab.async false
set_option linter.all false
set_option maxRecDepth 100000
set_option maxHeartbeats 4000000
set_option autoImplicit false
namespace PD
open PySem PySem.Spec L2
open PyProof.Rows hiding St

/-! ### data, the store, the slots -/
/-- hd n: the n-th thing of the store -/
inductive D where
  | non | bl (b : Bool) | int (i : Int) | str (x : Str) | tup (l : List D) | lst (l : List D)
  | dk (ks : List Key) (l : List D) | dt (ks : List (List Key)) (l : List D) | hd (n : Nat) | tx (xs : List Str)
instance : Inhabited D := ⟨.non⟩
/-- a thing of the store: it may change, others may name it -/
inductive MO where
  | ml (l : List D) | mk (ks : List Key) (l : List D) | mx (nm f : Str) (v : D) | mt (x : Str)
abbrev G := List MO
/-- a slot: data, or a list | dict of one's own that nothing else names -/
inductive LV where
  | d (x : D) | ol (l : List D) | ok (ks : List Key) (l : List D) | ot (ks : List (List Key)) (l : List D) | fn
abbrev Rho := List (Option LV)
def M (α : Type) := G → Option (α × G)

section
variable {α β : Type}
def mr (a : α) : M α := fun g => some (a, g)
def mz : M α := fun _ => none
def mb (m : M α) (k : α → M β) : M β := fun g => match m g with
  | some (a, g') => k a g'
  | none => none
def ml (o : Option α) : M α := match o with
  | some a => mr a
  | none => mz
@[simp] theorem mb_mr (a : α) (k : α → M β) : mb (mr a) k = k a := rfl
@[simp] theorem mb_mz (k : α → M β) : mb mz k = mz := rfl
theorem mb_inv {m : M α} {k : α → M β} {g g2 : G} {b : β} (h : mb m k g = some (b, g2)) : ∃ a g1, m g = some (a, g1) ∧ k a g1 = some (b, g2) := by
  unfold mb at h
  cases e : m g with
  | none => rw [e] at h; cases h
  | some p => rw [e] at h; exact ⟨p.1, p.2, rfl, h⟩
theorem ml_inv {o : Option α} {g g' : G} {a : α} (h : ml o g = some (a, g')) : o = some a ∧ g' = g := by
  cases o with
  | none => cases h
  | some b => cases h; exact ⟨rfl, rfl⟩
theorem mr_inv {a b : α} {g g' : G} (h : mr a g = some (b, g')) : b = a ∧ g' = g := by cases h; exact ⟨rfl, rfl⟩
@[simp] theorem mr_ap (a : α) (g : G) : mr a g = some (a, g) := rfl
@[simp] theorem mz_ap (g : G) : (mz : M α) g = none := rfl
@[simp] theorem ml_some (a : α) : ml (some a) = mr a := rfl
@[simp] theorem ml_none : ml (none : Option α) = mz := rfl
end

/-! ### what a value stands for -/
/-- the texts that are told: their signs are signs, they are not too long -/
def sOk (x : Str) : Bool := PyData.strOk x && decide (x.length ≤ sizeLine)
/-- what stands fast: the frozen things, and where the store's things are -/
structure Fz where
  h : Hp
  mu : List Addr
instance : CoeFun Fz (fun _ => Addr → Option HO) := ⟨Fz.h⟩
structure Ext (F F' : Fz) : Prop where
  h : Same F.h F'.h
  m : F.mu <+: F'.mu
theorem Ext.refl (F : Fz) : Ext F F := ⟨Same.refl _, List.prefix_refl _⟩
theorem Ext.trans {F F' F'' : Fz} (a : Ext F F') (b : Ext F' F'') : Ext F F'' := ⟨a.h.trans b.h, a.m.trans b.m⟩
def Fz.upd (F : Fz) (p : Addr) (o : HO) : Fz := ⟨L2.upd F.h p o, F.mu⟩
theorem Ext.upd {F : Fz} {p : Addr} {o : HO} (hF : F p = none) : Ext F (F.upd p o) := ⟨fun a u h => by show L2.upd F.h p o a = some u; rw [upd_ne (ne_of_none h hF)]; exact h, List.prefix_refl _⟩
theorem Ext.mu {F F' : Fz} (s : Ext F F') {n : Nat} {a : Addr} (h : F.mu[n]? = some a) : F'.mu[n]? = some a := by
  obtain ⟨t, e⟩ := s.m
  rw [← e, List.getElem?_append_left (List.getElem?_eq_some_iff.mp h).1]
  exact h
/-- at a stands a dict whose keys are tuples that stand where kas tells -/
def DTX (a : Addr) (kas : List (List Key × Addr × V)) (h : Heap) : Prop := kas.length ≤ sizeLine ∧ (a == sysModules) = false ∧ ∃ xs : List (List Key × Addr × Value),
  Paired (fun (p : List Key × Addr × V) (q : List Key × Addr × Value) => p.1 = q.1 ∧ p.2.1 = q.2.1 ∧ RelV p.2.2 q.2.2) kas xs ∧
  ∃ o es ep, h.get? a = some o ∧ o.ExactDict ∧ o.data = .dict es ep ∧ (∀ P w, es.toList = xs.map (entryOfKey (tupleKind (mixKind P w)))) ∧ (xs.map (·.1)).Nodup
mutual
inductive Rp (K : PySem.W.Frag) (F : Fz) : V → D → Prop
  | non : Rp K F .non .non
  | bl (b : Bool) : Rp K F (.bl b) (.bl b)
  | int (i : Int) : Rp K F (.int i) (.int i)
  | str (x : Str) (h : sOk x = true) : Rp K F (.str x) (.str x)
  | tup {a : Addr} {xs : List V} {ds : List D} : SqT K F.h a xs → xs.length ≤ sizeLine → RpA K F xs ds → Rp K F (.ref a) (.tup ds)
  | lst {a : Addr} {xs : List V} {ds : List D} : SqL K F.h a xs → xs.length ≤ sizeLine → RpA K F xs ds → Rp K F (.ref a) (.lst ds)
  | dk {a : Addr} {kvs : List (Key × V)} {ds : List D} : Rd F.h a (.dK kvs) → RpA K F (kvs.map (·.2)) ds → Rp K F (.ref a) (.dk (kvs.map (·.1)) ds)
  | dm {a : Addr} {kas : List (List Key × Addr × V)} {ds : List D} : F.h a = some (.ext (DTX a kas)) → (∀ x ∈ kas, SqT K F.h x.2.1 (x.1.map kV)) → RpA K F (kas.map (·.2.2)) ds → Rp K F (.ref a) (.dt (kas.map (·.1)) ds)
  | hd {a : Addr} {n : Nat} (h : F.mu[n]? = some a) : Rp K F (.ref a) (.hd n)
  | tx {a : Addr} {o : Obj} {xs : List Str} (h : F.h a = some (.frz o (.tup (xs.map V.str)))) (hc : o.cls = .type "tuple") (hd : o.dict = none) (hz : xs.length ≤ sizeLine) (hs : ∀ x ∈ xs, sOk x = true) : Rp K F (.ref a) (.tx xs)
inductive RpA (K : PySem.W.Frag) (F : Fz) : List V → List D → Prop
  | nil : RpA K F [] []
  | cons {v : V} {vs : List V} {d : D} {ds : List D} : Rp K F v d → RpA K F vs ds → RpA K F (v :: vs) (d :: ds)
end
section
variable {K : PySem.W.Frag} {F F' : Fz}
theorem Rd.mono {H H' : Hp} {a : Addr} {u : HO} (s : Same H H') (h : Rd H a u) : Rd H' a u := by
  rcases h with h | ⟨o, h⟩
  · exact .inl (s _ _ h)
  · exact .inr ⟨o, s _ _ h⟩
theorem sqL_mono {H H' : Hp} {a : Addr} {xs : List V} (s : Same H H') (h : SqL K H a xs) : SqL K H' a xs := h.imp (Rd.mono s) id
theorem sqT_mono {H H' : Hp} {a : Addr} {xs : List V} (s : Same H H') (h : SqT K H a xs) : SqT K H' a xs := h.imp (Rd.mono s) id
theorem Rp.mono (s : Ext F F') {v : V} {d : D} (h : Rp K F v d) : Rp K F' v d :=
  Rp.rec (motive_1 := fun v d _ => Rp K F' v d) (motive_2 := fun v d _ => RpA K F' v d)
    .non .bl .int .str (fun h1 h2 _ ih => .tup (sqT_mono s.h h1) h2 ih) (fun h1 h2 _ ih => .lst (sqL_mono s.h h1) h2 ih)
    (fun h1 _ ih => .dk (Rd.mono s.h h1) ih) (fun h1 h2 _ ih => .dm (s.h _ _ h1) (fun x hx => sqT_mono s.h (h2 x hx)) ih) (fun h => .hd (s.mu h)) (fun h hc hd hz hs => .tx (s.h _ _ h) hc hd hz hs) .nil (fun _ _ i1 i2 => .cons i1 i2) h
theorem RpA.mono (s : Ext F F') {v : List V} {d : List D} (h : RpA K F v d) : RpA K F' v d :=
  RpA.rec (motive_1 := fun v d _ => Rp K F' v d) (motive_2 := fun v d _ => RpA K F' v d)
    .non .bl .int .str (fun h1 h2 _ ih => .tup (sqT_mono s.h h1) h2 ih) (fun h1 h2 _ ih => .lst (sqL_mono s.h h1) h2 ih)
    (fun h1 _ ih => .dk (Rd.mono s.h h1) ih) (fun h1 h2 _ ih => .dm (s.h _ _ h1) (fun x hx => sqT_mono s.h (h2 x hx)) ih) (fun h => .hd (s.mu h)) (fun h hc hd hz hs => .tx (s.h _ _ h) hc hd hz hs) .nil (fun _ _ i1 i2 => .cons i1 i2) h
theorem RpA.length : ∀ {vs : List V} {ds : List D}, RpA K F vs ds → vs.length = ds.length
  | _, _, .nil => rfl
  | _, _, .cons _ t => congrArg (· + 1) (RpA.length t)
theorem RpA.get : ∀ {vs : List V} {ds : List D} {i : Nat} {d : D}, RpA K F vs ds → ds[i]? = some d → ∃ v, vs[i]? = some v ∧ Rp K F v d
  | _, _, _, _, .nil, e => by simp at e
  | _, _, 0, _, .cons r _, e => by simp at e; subst e; exact ⟨_, rfl, r⟩
  | _, _, i + 1, x, .cons _ t, e => by
    obtain ⟨u, h1, h2⟩ := RpA.get (i := i) t (by simpa using e)
    exact ⟨u, by simpa using h1, h2⟩
theorem RpA.getV : ∀ {vs : List V} {ds : List D} {i : Nat} {v : V}, RpA K F vs ds → vs[i]? = some v → ∃ d, ds[i]? = some d ∧ Rp K F v d
  | _, _, _, _, .nil, e => by simp at e
  | _, _, 0, _, .cons r _, e => by simp at e; subst e; exact ⟨_, rfl, r⟩
  | _, _, i + 1, x, .cons _ t, e => by
    obtain ⟨u, h1, h2⟩ := RpA.getV (i := i) t (by simpa using e)
    exact ⟨u, by simpa using h1, h2⟩
theorem RpA.append : ∀ {vs ws : List V} {ds es : List D}, RpA K F vs ds → RpA K F ws es → RpA K F (vs ++ ws) (ds ++ es)
  | _, _, _, _, .nil, s => s
  | _, _, _, _, .cons r t, s => .cons r (RpA.append t s)
theorem RpA.take : ∀ {vs : List V} {ds : List D} (n : Nat), RpA K F vs ds → RpA K F (vs.take n) (ds.take n)
  | _, _, 0, _ => .nil
  | _, _, _ + 1, .nil => .nil
  | _, _, n + 1, .cons r t => .cons r (RpA.take n t)
theorem RpA.drop : ∀ {vs : List V} {ds : List D} (n : Nat), RpA K F vs ds → RpA K F (vs.drop n) (ds.drop n)
  | _, _, 0, r => r
  | _, _, _ + 1, .nil => .nil
  | _, _, n + 1, .cons _ t => RpA.drop n t
theorem RpA.set {v : V} {d : D} (r : Rp K F v d) : ∀ {vs : List V} {ds : List D} (i : Nat), RpA K F vs ds → RpA K F (vs.set i v) (ds.set i d)
  | _, _, _, .nil => .nil
  | _, _, 0, .cons _ t => .cons r t
  | _, _, i + 1, .cons q t => .cons q (RpA.set r i t)
theorem RpA.reverse : ∀ {vs : List V} {ds : List D}, RpA K F vs ds → RpA K F vs.reverse ds.reverse
  | _, _, .nil => .nil
  | _, _, .cons r t => by
    rw [List.reverse_cons, List.reverse_cons]
    exact (RpA.reverse t).append (.cons r .nil)
theorem RpA.ints : ∀ {vs : List V} {ns : List Int}, RpA K F vs (ns.map D.int) → vs = ns.map V.int
  | _, [], h => by cases h; rfl
  | _, n :: ns, h => by
    cases h with
    | cons r t => cases r; rw [RpA.ints t]; rfl
theorem RpA.ofInts : ∀ (ns : List Int), RpA K F (ns.map V.int) (ns.map D.int)
  | [] => .nil
  | n :: ns => .cons (.int n) (RpA.ofInts ns)
theorem RpA.bls : ∀ {vs : List V} {ns : List Bool}, RpA K F vs (ns.map D.bl) → vs = ns.map V.bl
  | _, [], h => by cases h; rfl
  | _, n :: ns, h => by
    cases h with
    | cons r t => cases r; rw [RpA.bls t]; rfl
theorem RpA.strs : ∀ {vs : List V} {ns : List Str}, RpA K F vs (ns.map D.str) → vs = ns.map V.str
  | _, [], h => by cases h; rfl
  | _, n :: ns, h => by
    cases h with
    | cons r t => cases r; rw [RpA.strs t]; rfl
theorem RpA.ofStrs : ∀ (ns : List Str), (∀ x ∈ ns, sOk x = true) → RpA K F (ns.map V.str) (ns.map D.str)
  | [], _ => .nil
  | n :: ns, h => .cons (.str n (h n List.mem_cons_self)) (RpA.ofStrs ns fun x hx => h x (List.mem_cons_of_mem _ hx))
end

/-! ### heaps -/
/-- all that stands there but the store's things -/
def off (F : Fz) (H : Hp) : Fz := ⟨fun a => if a ∈ F.mu then none else H a, F.mu⟩
theorem off_some {F : Fz} {H : Hp} {a : Addr} {o : HO} : off F H a = some o ↔ a ∉ F.mu ∧ H a = some o := by
  show (if a ∈ F.mu then none else H a) = some o ↔ _
  by_cases h : a ∈ F.mu
  · simp [h]
  · simp [h]
theorem off_sub (F : Fz) (H : Hp) : Same (off F H).h H := fun _ _ h => (off_some.mp h).2
/-- at a: an exception of the class at C, its dict at dd -/
def exK (a C dd : Addr) : HO := .ext fun h => ∃ (oe : Obj) (vs : Array Value), h.get? a = some oe ∧ oe.cls = .ref C ∧ oe.dict = some dd ∧ oe.data = .fields vs ∧ vs[2]? = some .none
/-- how the lambdas of a def are called -/
def lamQ (x : Str) : Str := x ++ ".<locals>." ++ "<lambda>"
def MOk (K : PySem.W.Frag) (F : Fz) (H : Hp) (a : Addr) : MO → Prop
  | .ml ds => ∃ vs, H a = some (.lst vs) ∧ vs.length ≤ sizeLine ∧ RpA K F vs ds
  | .mk ks ds => ∃ kvs : List (Key × V), H a = some (.dK kvs) ∧ kvs.map (·.1) = ks ∧ RpA K F (kvs.map (·.2)) ds
  | .mx nm f d => ∃ (dd : Addr) (v : V), H a = some (exK a (He.ga K nm) dd) ∧ F.h dd = some (.xd [(f, v)]) ∧ Rp K F v d
  | .mt x => (∃ c, PySem.W.tabIn K x = some (c, a)) ∧ ∃ ps : Array Value, H a = some (.tbl ps) ∧ TriplesOk ps.toList ∧ ∀ (pos : Pos) (cv : Value), codeAmong pos ps.toList = some cv → ∃ c, cv = .ref c ∧ F.h c = some (LamX.CodeO c (lamQ x))
theorem MOk.mono {K : PySem.W.Frag} {F F' : Fz} {H H' : Hp} {a : Addr} {m : MO} (h : MOk K F H a m) (s : Ext F F') (e : H' a = H a) : MOk K F' H' a m := by
  cases m with
  | ml ds => obtain ⟨vs, h3, h4, h5⟩ := h; exact ⟨vs, by rw [e]; exact h3, h4, h5.mono s⟩
  | mk ks ds => obtain ⟨kvs, h3, h4, h5⟩ := h; exact ⟨kvs, by rw [e]; exact h3, h4, h5.mono s⟩
  | mx nm f d => obtain ⟨dd, v, h3, h4, h5⟩ := h; exact ⟨dd, v, by rw [e]; exact h3, s.h _ _ h4, h5.mono s⟩
  | mt x => obtain ⟨h2, ps, h3, h4, h5⟩ := h; exact ⟨h2, ps, by rw [e]; exact h3, h4, fun pos cv hc => let ⟨c, e1, e2⟩ := h5 pos cv hc; ⟨c, e1, s.h _ _ e2⟩⟩
theorem MOk.some {K : PySem.W.Frag} {F : Fz} {H : Hp} {a : Addr} {m : MO} (h : MOk K F H a m) : ∃ o, H a = Option.some o := by
  cases m with
  | ml ds => obtain ⟨vs, h3, _⟩ := h; exact ⟨_, h3⟩
  | mk ks ds => obtain ⟨vs, h3, _⟩ := h; exact ⟨_, h3⟩
  | mx nm f d => obtain ⟨dd, v, h3, _⟩ := h; exact ⟨_, h3⟩
  | mt x => obtain ⟨_, ps, h3, _⟩ := h; exact ⟨_, h3⟩
structure GRep (K : PySem.W.Frag) (g : G) (F : Fz) (H : Hp) : Prop where
  len : g.length = F.mu.length
  nd : F.mu.Nodup
  at_ : ∀ (n : Nat) (m : MO) (a : Addr), g[n]? = some m → F.mu[n]? = some a → F a = none ∧ MOk K F H a m
theorem GRep.mem {K : PySem.W.Frag} {g : G} {F : Fz} {H : Hp} (r : GRep K g F H) {a : Addr} (h : a ∈ F.mu) : F a = none ∧ ∃ o, H a = some o := by
  obtain ⟨n, hn⟩ := List.getElem?_of_mem h
  have hl := (List.getElem?_eq_some_iff.mp hn).1
  have hl2 : n < g.length := by rw [r.len]; exact hl
  obtain ⟨h1, h2⟩ := r.at_ n g[n] a (List.getElem?_eq_getElem hl2) hn
  exact ⟨h1, h2.some⟩
theorem GRep.get {K : PySem.W.Frag} {g : G} {F : Fz} {H : Hp} (r : GRep K g F H) {n : Nat} {m : MO} (h : g[n]? = some m) : ∃ a, F.mu[n]? = some a ∧ F a = none ∧ MOk K F H a m := by
  have hl := (List.getElem?_eq_some_iff.mp h).1
  have hl2 : n < F.mu.length := by rw [← r.len]; exact hl
  have hn : F.mu[n]? = some F.mu[n] := List.getElem?_eq_getElem hl2
  exact ⟨_, hn, r.at_ n m _ h hn⟩
theorem GRep.out {K : PySem.W.Frag} {g : G} {F : Fz} {H : Hp} (r : GRep K g F H) {p : Addr} (h : H p = none) : p ∉ F.mu := fun z => by
  obtain ⟨_, o, ho⟩ := r.mem z
  rw [h] at ho; cases ho
theorem GRep.outF {K : PySem.W.Frag} {g : G} {F : Fz} {H : Hp} (r : GRep K g F H) {p : Addr} {o : HO} (h : F p = some o) : p ∉ F.mu := fun z => by
  rw [(r.mem z).1] at h; cases h
/-- other frozen things, another heap: the store's things stay -/
theorem GRep.mono {K : PySem.W.Frag} {g : G} {F : Fz} {h' : Hp} {H H' : Hp} (r : GRep K g F H) (s : Same F.h h') (hF : ∀ a ∈ F.mu, h' a = none) (hH : ∀ a ∈ F.mu, H' a = H a) : GRep K g ⟨h', F.mu⟩ H' :=
  ⟨r.len, r.nd, fun n m a e1 e2 => ⟨hF a (List.mem_of_getElem? e2), (r.at_ n m a e1 e2).2.mono ⟨s, List.prefix_refl _⟩ (hH a (List.mem_of_getElem? e2))⟩⟩
structure Stp (K : PySem.W.Frag) (g g' : G) (F F' : Fz) (H H' : Hp) : Prop where
  same : ∀ a o, a ∉ F.mu → H a = some o → H' a = some o
  mono : ∀ a, H' a = none → H a = none
  ext : Ext F F'
  new : ∀ a o, F' a = some o → (∃ u, F a = some u) ∨ H a = none
  newM : ∀ a, a ∈ F'.mu → a ∈ F.mu ∨ H a = none
  sub : Same F'.h H'
  rep : GRep K g' F' H'
theorem Stp.refl {K : PySem.W.Frag} {g : G} {F : Fz} {H : Hp} (s : Same F.h H) (r : GRep K g F H) : Stp K g g F F H H :=
  ⟨fun _ _ _ h => h, fun _ h => h, Ext.refl _, fun _ o h => .inl ⟨o, h⟩, fun _ h => .inl h, s, r⟩
theorem Stp.keepM {K : PySem.W.Frag} {g g' : G} {F F' : Fz} {H H' : Hp} {p : Addr} {o : HO} (s : Stp K g g' F F' H H') (hm : p ∉ F.mu) (hH : H p = some o) : p ∉ F'.mu := fun z => by
  rcases s.newM p z with h | h
  · exact hm h
  · rw [hH] at h; cases h
theorem Stp.trans {K : PySem.W.Frag} {g g1 g2 : G} {F F1 F2 : Fz} {H H1 H2 : Hp} (a : Stp K g g1 F F1 H H1) (b : Stp K g1 g2 F1 F2 H1 H2) : Stp K g g2 F F2 H H2 where
  same := fun x o hg h => b.same x o (a.keepM hg h) (a.same x o hg h)
  mono := fun x h => a.mono x (b.mono x h)
  ext := a.ext.trans b.ext
  new := fun x o h => by
    rcases b.new x o h with ⟨u, h1⟩ | h1
    · exact a.new x u h1
    · exact .inr (a.mono x h1)
  newM := fun x h => by
    rcases b.newM x h with h1 | h1
    · exact a.newM x h1
    · exact .inr (a.mono x h1)
  sub := b.sub
  rep := b.rep
theorem Stp.off {K : PySem.W.Frag} {g g' : G} {F F' : Fz} {H H' : Hp} (a : Stp K g g' F F' H H') : Ext (off F H) (off F' H') := ⟨fun x o h => by
  obtain ⟨h1, h2⟩ := off_some.mp h
  exact off_some.mpr ⟨a.keepM h1 h2, a.same x o h1 h2⟩, a.ext.m⟩
theorem Stp.offF {K : PySem.W.Frag} {g g' : G} {F F' : Fz} {H H' : Hp} (a : Stp K g g' F F' H H') : Ext F' (PD.off F' H') := ⟨fun x o h => off_some.mpr ⟨a.rep.outF h, a.sub x o h⟩, List.prefix_refl _⟩
/-- a new object, frozen at once -/
theorem Stp.alloc {K : PySem.W.Frag} {g : G} {F : Fz} {H : Hp} {p : Addr} {o : HO} (s : Same F.h H) (r : GRep K g F H) (hp : H p = none) : Stp K g g F (F.upd p o) H (upd H p o) := by
  have hF : F p = none := s.free hp
  have hm : p ∉ F.mu := r.out hp
  have ne : ∀ a ∈ F.mu, a ≠ p := fun a ha z => hm (by rw [← z]; exact ha)
  refine ⟨fun a u _ h => ?_, fun a h => ?_, .upd hF, fun a u h => ?_, fun a h => .inl h, fun a u h => ?_, ?_⟩
  · rw [upd_ne (ne_of_none h hp)]; exact h
  · by_cases e : a = p
    · subst e; exact hp
    · rw [upd_ne e] at h; exact h
  · by_cases e : a = p
    · subst e; exact .inr hp
    · have h : L2.upd F.h p o a = some u := h
      rw [upd_ne e] at h; exact .inl ⟨u, h⟩
  · have h : L2.upd F.h p o a = some u := h
    by_cases e : a = p
    · subst e; rw [upd_same] at h ⊢; exact h
    · rw [upd_ne e] at h ⊢; exact s a u h
  · exact r.mono (Ext.upd hF).h (fun a ha => by rw [upd_ne (ne a ha)]; exact (r.mem ha).1) fun a ha => upd_ne (ne a ha)
/-- a new object, not frozen -/
theorem Stp.allocO {K : PySem.W.Frag} {g : G} {F : Fz} {H : Hp} {p : Addr} {o : HO} (s : Same F.h H) (r : GRep K g F H) (hp : H p = none) : Stp K g g F F H (upd H p o) := by
  have hm : p ∉ F.mu := r.out hp
  have ne : ∀ a ∈ F.mu, a ≠ p := fun a ha z => hm (by rw [← z]; exact ha)
  refine ⟨fun a u _ h => ?_, fun a h => ?_, Ext.refl _, fun a u h => .inl ⟨u, h⟩, fun a h => .inl h, fun a u h => ?_, ?_⟩
  · rw [upd_ne (ne_of_none h hp)]; exact h
  · by_cases e : a = p
    · subst e; exact hp
    · rw [upd_ne e] at h; exact h
  · rw [upd_ne (ne_of_none (s a u h) hp)]; exact s a u h
  · exact r.mono (Same.refl _) (fun a ha => (r.mem ha).1) fun a ha => upd_ne (ne a ha)
/-! ### the slots -/
/-- the function that is handed over just now: its value, and what is known of all that stands fast meanwhile -/
class Live where
  v : V
  J : Fz → Prop
  step : ∀ {F F' : Fz}, Ext F F' → J F → J F'
/-- none -/
instance liveNone : Live := ⟨.non, fun _ => False, fun _ h => h⟩
section
variable [Live]
def SlotOk (K : PySem.W.Frag) (F : Fz) (H : Hp) (g : G) (v : V) : LV → Prop
  | .d x => Rp K F v x
  | .ol ds => ∃ p vs, v = .ref p ∧ F p = none ∧ p ∉ F.mu ∧ H p = some (.lst vs) ∧ vs.length ≤ sizeLine ∧ RpA K F vs ds
  | .ok ks ds => ∃ p, ∃ kvs : List (Key × V), v = .ref p ∧ F p = none ∧ p ∉ F.mu ∧ H p = some (.dK kvs) ∧ kvs.map (·.1) = ks ∧ RpA K F (kvs.map (·.2)) ds
  | .ot ks ds => ∃ p, ∃ kas : List (List Key × Addr × V), v = .ref p ∧ F p = none ∧ p ∉ F.mu ∧ H p = some (.ext (DTX p kas)) ∧ (kas.map (·.1) = ks ∧ ∀ x ∈ kas, SqT K F.h x.2.1 (x.1.map kV)) ∧ RpA K F (kas.map (·.2.2)) ds
  | .fn => v = Live.v ∧ Live.J F
def LV.own : LV → Bool
  | .d _ => false
  | .fn => false
  | _ => true
def Owned (ρ : Rho) (σ : St) (i : Nat) (p : Addr) : Prop := ∃ lv, ρ[i]? = some (some lv) ∧ lv.own = true ∧ σ[i]? = some (some (.ref p))
structure Sl (K : PySem.W.Frag) (F : Fz) (H : Hp) (g : G) (ρ : Rho) (σ : St) : Prop where
  len : ρ.length = σ.length
  at_ : ∀ (i : Nat) (lv : LV), ρ[i]? = some (some lv) → ∃ v, σ[i]? = some (some v) ∧ SlotOk K F H g v lv
  sep : ∀ (i j : Nat) (p : Addr), Owned ρ σ i p → Owned ρ σ j p → i = j
structure PreE (K : PySem.W.Frag) (F : Fz) (H : Hp) (g : G) (ρ : Rho) (σ : St) : Prop where
  sub : Same F.h H
  rep : GRep K g F H
  sl : Sl K F H g ρ σ
theorem SlotOk.step {K : PySem.W.Frag} {g g' : G} {F F' : Fz} {H H' : Hp} {v : V} {lv : LV} (h : SlotOk K F H g v lv) (s : Stp K g g' F F' H H') : SlotOk K F' H' g' v lv := by
  have key : ∀ p o, F p = none → H p = some o → F' p = none := fun p o h1 h2 => by
    cases e : F' p with
    | none => rfl
    | some u =>
      rcases s.new p u e with ⟨w, h3⟩ | h3
      · rw [h1] at h3; cases h3
      · rw [h2] at h3; cases h3
  cases lv with
  | d x => exact Rp.mono s.ext h
  | ol ds => obtain ⟨p, vs, h1, h2, h3, h4, h5, h6⟩ := h; exact ⟨p, vs, h1, key p _ h2 h4, s.keepM h3 h4, s.same _ _ h3 h4, h5, h6.mono s.ext⟩
  | ok ks ds => obtain ⟨p, vs, h1, h2, h3, h4, h5, h6⟩ := h; exact ⟨p, vs, h1, key p _ h2 h4, s.keepM h3 h4, s.same _ _ h3 h4, h5, h6.mono s.ext⟩
  | ot ks ds => obtain ⟨p, vs, h1, h2, h3, h4, h5, h6⟩ := h; exact ⟨p, vs, h1, key p _ h2 h4, s.keepM h3 h4, s.same _ _ h3 h4, ⟨h5.1, fun x hx => sqT_mono s.ext.h (h5.2 x hx)⟩, h6.mono s.ext⟩
  | fn => exact ⟨h.1, Live.step s.ext h.2⟩
theorem PreE.step {K : PySem.W.Frag} {g g' : G} {F F' : Fz} {H H' : Hp} {ρ : Rho} {σ : St} (h : PreE K F H g ρ σ) (s : Stp K g g' F F' H H') : PreE K F' H' g' ρ σ :=
  ⟨s.sub, s.rep, h.sl.len, fun i lv e => let ⟨v, h1, h2⟩ := h.sl.at_ i lv e; ⟨v, h1, h2.step s⟩, h.sl.sep⟩
theorem PreE.refl {K : PySem.W.Frag} {g : G} {F : Fz} {H : Hp} {ρ : Rho} {σ : St} (h : PreE K F H g ρ σ) : Stp K g g F F H H := Stp.refl h.sub h.rep

/-! ### the judgements -/
abbrev E := Rho → M D
abbrev EA := Rho → M (List D)
abbrev T := Rho → M Bool
section
variable (X : Cx)
def PD (e : Expr) (f : E) : Prop := ∃ t, PE X e t ∧ ∀ σ H F ρ g, PreE X.K F H g ρ σ → ∀ d g', f ρ g = some (d, g') → ∀ Q : VK,
  (∀ v H' F', Stp X.K g g' F F' H H' → Rp X.K F' v d → Q v H') → t σ H Q
/-- the value may name what is one's own: to be used up at once -/
def PB (e : Expr) (f : E) : Prop := ∃ t, PE X e t ∧ ∀ σ H F ρ g, PreE X.K F H g ρ σ → ∀ d g', f ρ g = some (d, g') → ∀ Q : VK,
  (∀ v H' F', Stp X.K g g' F F' H H' → Rp X.K (off F' H') v d → Q v H') → t σ H Q
def PDT (e : Expr) (f : T) : Prop := ∃ t, PT X e t ∧ ∀ σ H F ρ g, PreE X.K F H g ρ σ → ∀ b g', f ρ g = some (b, g') → ∀ Q : Bool → Hp → Prop,
  (∀ H' F', Stp X.K g g' F F' H H' → Q b H') → t σ H Q
def PDW (e : Expr) (f : T) : Prop := ∃ t, PW X e t ∧ ∀ σ H F ρ g, PreE X.K F H g ρ σ → ∀ b g', f ρ g = some (b, g') → ∀ Q : Bool → Hp → Prop,
  (∀ H' F', Stp X.K g g' F F' H H' → Q b H') → t σ H Q
def PDA (es : List Expr) (f : EA) : Prop := ∃ t, PA X es t ∧ ∀ σ H F ρ g, PreE X.K F H g ρ σ → ∀ ds g', f ρ g = some (ds, g') → ∀ Q : List V → Hp → Prop,
  (∀ vs H' F', Stp X.K g g' F F' H H' → RpA X.K F' vs ds → Q vs H') → t σ H Q
def PBA (es : List Expr) (f : EA) : Prop := ∃ t, PA X es t ∧ ∀ σ H F ρ g, PreE X.K F H g ρ σ → ∀ ds g', f ρ g = some (ds, g') → ∀ Q : List V → Hp → Prop,
  (∀ vs H' F', Stp X.K g g' F F' H H' → RpA X.K (off F' H') vs ds → Q vs H') → t σ H Q
end
end
end PD
end
section
set_option Elab.async false
set_option linter.all false
set_option maxRecDepth 100000
set_option maxHeartbeats 4000000
set_option autoImplicit false
namespace PD
open PySem PySem.Spec L2
open PyProof.Rows hiding St
variable [Live]

/-! ### a def's promise, where no repr is under way -/
structure FnG (P : Program) (w : World) (K : PySem.W.Frag) (mg : Str → Option Value) (base : Heap) (CX : CXT) (k : Nat) (f : Addr) (fd : FuncData) (ps : List Str) (sp : Sp) : Prop where
  len : ∀ vs H Q E, sp vs H Q E → vs.length = ps.length
  run : ∀ (A : Around) (outer : List Env) (s : Shared) (H : Hp) (args : Args) (us : List Value) (vs : List V) (Q : VK) (E : XK), Room k A → A.guards = some [] →
    Env0 P w K mg base A outer s H → BindsTo s fd args (ps.zip us) → Vals vs us → sp vs H Q E → codeAny (model P w) A (.call (.ref f) args) (CR CX outer P w H s Q E) s
theorem FnG.mono {P : Program} {w : World} {K : PySem.W.Frag} {mg : Str → Option Value} {base : Heap} {CX : CXT} {j k : Nat} {f : Addr} {fd : FuncData} {ps : List Str} {sp : Sp}
    (F : FnG P w K mg base CX j f fd ps sp) (h : j ≤ k) : FnG P w K mg base CX k f fd ps sp :=
  ⟨F.len, fun A outer s H args us vs Q E r => F.run A outer s H args us vs Q E (r.mono h)⟩
theorem FnG.imp {P : Program} {w : World} {K : PySem.W.Frag} {mg : Str → Option Value} {base : Heap} {CX : CXT} {k : Nat} {f : Addr} {fd : FuncData} {ps : List Str} {sp sp' : Sp}
    (F : FnG P w K mg base CX k f fd ps sp) (h : ∀ vs H Q E, sp' vs H Q E → sp vs H Q E) : FnG P w K mg base CX k f fd ps sp' :=
  ⟨fun vs H Q E q => F.len vs H Q E (h _ _ _ _ q), fun A o s H args us vs Q E r gd e b v q => F.run A o s H args us vs Q E r gd e b v (h _ _ _ _ q)⟩
section
variable {X : Cx} {CX : CXT} {k : Nat} {f : Addr} {fd : FuncData} {ps : List Str} {sp : Sp} {dvs : List V} {ds : List Value} {E : XK} {x : Str} {p pos : Pos} {e : Expr} {es : List Expr} {t : TA}
theorem run_g {pins : List (Addr × Obj)} {σ : St} {H : Hp} {s : Shared} {Q : VK} {us : List Value} {vs : List V} (F : FnG X.prog X.w X.K X.mg X.base CX k f fd ps sp) (hr : Room k X.A)
    (gd : X.A.guards = some []) (hb : Binds X.K fd ps ds) (hd : Vals dvs ds) (hx : Passes CX X E) (I : Inv X pins σ H s) (r : Vals vs us) (h : sp (vs ++ dvs) H Q E) :
    wpAny (model X.prog X.w) X.A (call (.ref f) us) (EP X pins σ Q) X.xe s := by
  have all := r.append hd
  have hn : (us ++ ds).length = ps.length := all.length.symm.trans (F.len _ _ _ _ h)
  refine wpAny_call (codeAny_mono (F.run X.A X.stack s H ⟨us, []⟩ (us ++ ds) (vs ++ dvs) Q E hr gd I.env0 (hb s us I.kIn hn) all h) fun res s' hq => ?_)
  match res, hq with
  | .error er, hq => exact hx pins σ H s er s' I hq
  | .ok (.ret u), hq => exact I.after hq
  | .ok .next, hq => exact False.elim hq
  | .ok .brk, hq => exact False.elim hq
  | .ok .cont, hq => exact False.elim hq
theorem pe_callG (F : FnG X.prog X.w X.K X.mg X.base CX k f fd ps sp) (hr : Room k X.A) (gd : X.A.guards = some []) (hg : Gl X x) (hm : X.mg x = some (.ref f)) (hk : PySem.W.keepIn X.K (.ref f) = true)
    (hb : Binds X.K fd ps ds) (hd : Vals dvs ds) (hx : Passes CX X E) (ha : PA X (e :: es) t) (hdb : (x == ("__debug__" : Str)) = false := by decide)
    (he : starEach (e :: es) X.env = (false, eval e X.env) :: starEach es X.env := by rfl) (hpl : (backTo pos (starEach es X.env)).any (·.1) = false := by rfl) : PE X (.Call (.Name x p) (e :: es) [] pos) (tCall sp dvs E t) :=
  ⟨fun pins s σ H Q I h => wpAny_Call_Name_kw (ld_glob I hg hm
    (PySem.W.callWith_K (h₀ := X.base) I.ok.mod.kin hk (thn (ha.run pos pins s σ H _ I h) fun us s1 ⟨vs, H1, I1, r, q⟩ => ⟨I1.kIn, run_g F hr gd hb hd hx I1 r q⟩) he hpl) hdb)⟩
end
/-- the rule for a def -/
theorem fn_g {CX : CXT} {P : Program} {w : World} {K : PySem.W.Frag} {mg : Str → Option Value} {base : Heap} {k : Nat} {f : Addr} {x qual : Str} {params : Arguments} {body : List Stmt} {scope : Scope} {dvs : List V} {kws : List (Str × V)} {fd : FuncData}
    {N ps : List Str} {sp : Sp} (F : FunD K x qual params body scope dvs kws f fd) (S : FnScope N ps scope) (len : ∀ vs H Q E, sp vs H Q E → vs.length = ps.length)
    (hbody : ∀ (cdv : Value) (A : Around) (outer : List Env) (s : Shared) (H : Hp) (vs : List V) (Q : VK) (E : XK), Room k (A.deeper (envOfC qual scope s.heap.objs.size f cdv)) →
      (A.deeper (envOfC qual scope s.heap.objs.size f cdv)).guards = some [] → sp vs H Q E →
      ∃ t, PSs (cxOf CX P w K mg base N qual scope f cdv A outer s H E) body t ∧ t { nx := fun _ H' => Q .non H', rt := Q } (start N vs) H) : FnG P w K mg base CX (k + 1) f fd ps sp := by
  obtain ⟨oc, od, dV, kV, doc, pm, an, cdv, ct, osl, rfl, lk, hcd, _, _⟩ := F.ex
  refine ⟨len, fun A outer s H args us vs Q E hr gd e0 hb r hsp => ?_⟩
  have hl := len _ _ _ _ hsp
  have old : ∀ b o, base.get? b = some o → s.heap.get? b = some o := fun b o e => (e0.bs b o e).1
  have KX : K.In s.heap := e0.mod.kin.keeps old
  refine codeAny_call_function hr.depth (KX _ _ lk) rfl S.co S.gen rfl (PySem.W.codeRec_of KX hcd) (hb _ _ _ _ ?_)
  refine wpAny_newFunctionEnv_cells S.kind (fun y hy => ?_) fun env he s1 z => ?_
  · obtain ⟨n, v⟩ := y
    have q := S.par n (List.of_mem_zip hy).1
    exact q.imp id fun q => ⟨q, PySem.W.cellsFrom_some _ _ _ (.inl q)⟩
  subst he
  refine ⟨(e0.mod.nolimit.keeps old).keeps z.toInCall.keep, codeAny_func ?_⟩
  obtain ⟨t, ht, hq⟩ := hbody cdv A outer s H vs Q E (hr.deeper _) gd hsp
  have I := inv_start (CX := CX) (w := w) (K := K) (mg := mg) (base := base) (E := E) S hr.hd e0 hl r z
  refine wpAny_mono (ht.run [] s1 (start N vs) H _ I hq) (fun fl s' hs => ?_) fun _ _ hs => hs
  match fl, hs with
  | .ret u, ⟨v, _, H', J, rv, q⟩ => exact ⟨v, H', J.os, J.bare, J.base, J.hok, rv, q⟩
  | .next, ⟨_, H', J, q⟩ => exact ⟨V.non, H', J.os, J.bare, J.base, J.hok, rfl, q⟩
  | .brk, ⟨_, _, _, q⟩ => exact False.elim q
  | .cont, ⟨_, _, _, q⟩ => exact False.elim q
/-- the law's call -/
theorem law_g {P : Program} {w : World} {K : PySem.W.Frag} {mg mb : Str → Option Value} {k : Nat} {fa a : Addr} {fd : FuncData} {x : Str} {sp : Sp} {s₁ : Shared} {vs : List Value} {ns : List Int}
    (KX : K.In s₁.heap) (hns : s₁.heap.Ns mainGlobals mg) (hb : s₁.heap.Ns builtinsNs mb) (hbb : ∀ x : Str, x ≠ "__name__" → mb x = bootBuiltins x) (hlim : s₁.heap.NoLimit) (hg : s₁.gens = #[])
    (ha : s₁.heap.get? a = some { cls := .type "list", data := .seq vs.toArray }) (hi : IntsAre vs ns) (hl : ns.length ≤ sizeLine) (hr : Room k callerA)
    (F : ∀ base : Heap, K.In base → base.Ns mainGlobals mg → FnG P w K mg base CX0 k fa fd [x] sp) (hbind : ∀ (s : Shared) (u : Value), BindsTo s fd ⟨[u], []⟩ [(x, u)])
    (hsp : ∀ H : Hp, SqL K H a (ns.map V.int) → sp [.ref a] H (fun v _ => v = .bl true) fun _ _ _ => False) :
    codeAny (model P w) callerA (.call (.ref fa) ⟨[.ref a], []⟩) (fun r s' => r = .ok (.ret (.bool true)) ∧ OldK s₁.heap s'.heap ∧ s'.os = s₁.os ∧ AllBare s'.gens) s₁ := by
  have rv := vals_ints hi
  have core : ∀ H : Hp, (∀ b, H b = none ∨ (b = a ∧ K.lookup a = none ∧ H b = some (.frz { cls := .type "list", data := .seq vs.toArray } (.lst (ns.map V.int))))) → SqL K H a (ns.map V.int) →
      codeAny (model P w) callerA (.call (.ref fa) ⟨[.ref a], []⟩) (fun r s' => r = .ok (.ret (.bool true)) ∧ OldK s₁.heap s'.heap ∧ s'.os = s₁.os ∧ AllBare s'.gens) s₁ := by
    intro H hA hS
    have hok : HOk P w H s₁.heap := fun b o e => by
      rcases hA b with n | ⟨rfl, _, q⟩
      · rw [n] at e; cases e
      · rw [q] at e; cases e
        exact ⟨ha, by rw [List.length_map]; exact hl, vs, _, rv, ha⟩
    have free : ∀ {b : Addr} {o : Obj}, s₁.heap.get? b = some o → (∀ its n, o.data ≠ .seq its n) → H b = none := fun {b o} e d => by
      rcases hA b with n | ⟨rfl, _, q⟩
      · exact n
      · rw [ha] at e; cases e; exact absurd rfl (d _ _)
    have nsK : ∀ {b : Addr} {m : Str → Option Value}, s₁.heap.Ns b m → (hidT s₁.heap H).Ns b m := fun {b m} ⟨o, es, ep, e, d, r⟩ =>
      ⟨o, es, ep, hidT_get e (free e fun its n z => by rw [d] at z; cases z), d, r⟩
    have kb : K.In (hidT s₁.heap H) := fun b o e => hidT_get (KX b o e) (by
      rcases hA b with n | ⟨rfl, q, _⟩
      · exact n
      · rw [q] at e; cases e)
    have e0 : Env0 P w K mg (hidT s₁.heap H) callerA [] s₁ H :=
      ⟨rfl, ⟨kb, nsK hns, ⟨mb, nsK hb, hbb⟩, hlim.imp fun _ z => ⟨nsK z.1, z.2⟩⟩, fun b o e => of_hidT e, Nat.le_of_eq (hidT_size _ _), trivial, fun b z => (List.not_mem_nil (show b ∈ ([] : List Addr) from z)).elim, hok, .of_eq hg⟩
    refine codeAny_mono ((F _ kb (nsK hns)).run callerA [] s₁ H ⟨[.ref a], []⟩ [.ref a] [.ref a] _ _ hr rfl e0 (hbind s₁ (.ref a)) (.cons rfl .nil) (hsp H hS)) fun r s' h => ?_
    match r, h with
    | .error e, h => exact False.elim h
    | .ok .next, h => exact False.elim h
    | .ok .brk, h => exact False.elim h
    | .ok .cont, h => exact False.elim h
    | .ok (.ret u), ⟨v, H', os, bare, un, hok', r', q⟩ =>
      have q : v = .bl true := q
      subst q
      obtain rfl : u = Value.bool true := r'
      refine ⟨rfl, OldK.of_keep fun b o e => ?_, os, bare⟩
      rcases hA b with n | ⟨rfl, _, q⟩
      · exact un.keep b o e n (fun z => (List.not_mem_nil (show b ∈ ([] : List Addr) from z)).elim) (by simp)
      · obtain ⟨e2, _⟩ := hok' _ _ (un.frzs _ _ _ q)
        rw [ha] at e; cases e
        exact e2
  cases hk : K.lookup a with
  | some o =>
    have e := KX a o hk
    rw [ha] at e
    cases e
    exact core (fun _ => none) (fun _ => .inl rfl) (.inr ⟨_, vs.toArray, _, hk, rfl, rfl, rfl, by rw [List.size_toArray, hi.length]; exact hl, by simpa using rv⟩)
  | none =>
    refine core (fun b => if b = a then some (.frz { cls := .type "list", data := .seq vs.toArray } (.lst (ns.map V.int))) else none) (fun b => ?_) (.inl (.inr ⟨_, if_pos rfl⟩))
    by_cases hba : b = a
    · exact .inr ⟨hba, hk, if_pos hba⟩
    · exact .inl (if_neg hba)
theorem walk_g {l : PySem.W.OpenLaw} {n k : Nat} {q : Program} {loose : List Str} {XP : (Str → Option Value) → Heap → Prop} {YP : World → Heap → Prop} {d : DefRec} {x : Str}
    (hn : l.most = some n) (hn2 : n ≤ sizeLine) (hdf : d.params.defaults = []) (hr : Room k callerA)
    (F : ∀ (w : World) (mg : Str → Option Value) (fa : Addr) (h : Heap), YP w h → h.Ns mainGlobals mg → mg d.name = some (.ref fa) →
      ∃ (K : PySem.W.Frag) (fd : FuncData) (sp : Sp), K.In h ∧ (∀ (s : Shared) (u : Value), BindsTo s fd ⟨[u], []⟩ [(x, u)]) ∧
        (∀ (H : Hp) (a : Addr) (ns : List Int), ns.length ≤ n → SqL K H a (ns.map V.int) → sp [.ref a] H (fun v _ => v = .bl true) fun _ _ _ => False) ∧
        ∀ base : Heap, K.In base → base.Ns mainGlobals mg → FnG l.prog w K mg base CX0 k fa fd [x] sp) :
    PySem.W.WalkO q loose XP YP l.row.toRowW d [] (fun f vs => PySem.call f vs) := by
  refine Att.attach_call hn hdf fun w s₀ s₁ mg mb fa o pm cd doc a vs ns G Y ho hd hcd hmg hobj hints hlen hg => ?_
  obtain ⟨K, fd, sp, KX, hb, hsp, hF⟩ := F w mg fa _ Y G.T.g hmg
  exact law_g KX G.T.g G.T.b G.T.builtins G.T.nolimit hg hobj hints (Nat.le_trans hlen hn2) hr hF hb fun H hS => hsp H a ns hlen hS
end PD
end
section
set_option Elab.async false
set_option linter.all false
set_option maxRecDepth 100000
set_option maxHeartbeats 4000000
set_option autoImplicit false
namespace PD
open PySem PySem.Spec L2
open PyProof.Rows hiding St
variable [Live]

/-! ### names, constants -/
def LV.get : LV → D
  | .d x => x
  | .ol l => .lst l
  | .ok ks l => .dk ks l
  | .ot ks l => .dt ks l
  | .fn => .non
def eVar (i : Nat) : E := fun ρ => ml (match ρ[i]? with
  | some (some (.d x)) => some x
  | _ => none)
def eOwn (i : Nat) : E := fun ρ => ml (match ρ[i]? with
  | some (some .fn) => none
  | some (some lv) => some lv.get
  | _ => none)
def eC (d : D) : E := fun _ => mr d
section
variable {X : Cx} {a b c e : Expr} {f fa fb fc : E} {pos : Pos}
theorem PD.weak (h : PD X e f) : PB X e f := by
  obtain ⟨t, ht, k⟩ := h
  exact ⟨t, ht, fun σ H F ρ g pre d g' e Q q => k σ H F ρ g pre d g' e Q fun v H' F' s r => q v H' F' s (r.mono s.offF)⟩
theorem pd_var (i : Nat) {x : Str} (hN : X.N[i]? = some x := by rfl) (hv : Vis X.env.scope x := by first | exact Or.inl rfl | exact Or.inr (Or.inl rfl) | exact Or.inr (Or.inr rfl))
    (hd : (x == ("__debug__" : Str)) = false := by decide) (hcd : (x == ("__classdict__" : Str)) = false := by decide) : PD X (.Name x pos) (eVar i) := by
  refine ⟨_, pe_var hN hv hd hcd, fun σ H F ρ g pre d g' e Q q => ?_⟩
  obtain ⟨e1, rfl⟩ := ml_inv e
  cases h : ρ[i]? with
  | none => rw [h] at e1; cases e1
  | some o =>
    rw [h] at e1
    match o, e1, h with
    | some (.d x), rfl, h =>
      obtain ⟨v, h1, h2⟩ := pre.sl.at_ i _ h
      exact ⟨v, h1, q v H F pre.refl h2⟩
theorem slot_off {K : PySem.W.Frag} {F : Fz} {H : Hp} {g : G} {ρ : Rho} {σ : St} {v : V} {lv : LV} (pre : PreE K F H g ρ σ) (h : SlotOk K F H g v lv) (hn : lv ≠ .fn) : Rp K (off F H) v lv.get := by
  have sF : Ext F (off F H) := pre.refl.offF
  match lv, h with
  | .d x, h => exact Rp.mono sF h
  | .ol l, ⟨p, vs, e, _, h3, h4, h5, h6⟩ => subst e; exact .lst (.of (off_some.mpr ⟨h3, h4⟩)) h5 (h6.mono sF)
  | .ok ks l, ⟨p, vs, e, _, h3, h4, h5, h6⟩ => subst e; subst h5; exact .dk (.inl (off_some.mpr ⟨h3, h4⟩)) (h6.mono sF)
  | .ot ks l, ⟨p, vs, e, _, h3, h4, h5, h6⟩ => subst e; obtain ⟨rfl, h5⟩ := h5; exact .dm (off_some.mpr ⟨h3, h4⟩) (fun x hx => sqT_mono sF.h (h5 x hx)) (h6.mono sF)
  | .fn, h => exact absurd rfl hn
theorem pb_own (i : Nat) {x : Str} (hN : X.N[i]? = some x := by rfl) (hv : Vis X.env.scope x := by first | exact Or.inl rfl | exact Or.inr (Or.inl rfl) | exact Or.inr (Or.inr rfl))
    (hd : (x == ("__debug__" : Str)) = false := by decide) (hcd : (x == ("__classdict__" : Str)) = false := by decide) : PB X (.Name x pos) (eOwn i) := by
  refine ⟨_, pe_var hN hv hd hcd, fun σ H F ρ g pre d g' e Q q => ?_⟩
  obtain ⟨e1, rfl⟩ := ml_inv e
  cases h : ρ[i]? with
  | none => rw [h] at e1; cases e1
  | some o =>
    rw [h] at e1
    cases o with
    | none => cases e1
    | some lv =>
      have hn : lv ≠ .fn := fun z => by subst z; cases e1
      have e2 : some lv.get = some d := by
        cases lv with
        | fn => exact absurd rfl hn
        | _ => exact e1
      cases e2
      obtain ⟨v, h1, h2⟩ := pre.sl.at_ i _ h
      exact ⟨v, h1, q v H F pre.refl (slot_off pre h2 hn)⟩
theorem pd_c {t : V} {d : D} (h : PE X e (tC t)) (r : ∀ F, Rp X.K F t d) : PD X e (eC d) := by
  refine ⟨_, h, fun σ H F ρ g pre d' g' e Q q => ?_⟩
  obtain ⟨rfl, rfl⟩ := mr_inv e
  exact q _ H F pre.refl (r F)
theorem pd_int {i : Int} {j : Nat} : PD X (.Constant (.int i) j pos) (eC (.int i)) := pd_c pe_int fun _ => .int i
theorem pd_str {x : Str} {j : Nat} (h : sOk x = true := by decide +kernel) : PD X (.Constant (.str x) j pos) (eC (.str x)) := pd_c pe_str fun _ => .str x h
theorem pd_bl {b : Bool} {j : Nat} : PD X (.Constant (.bool b) j pos) (eC (.bl b)) := pd_c pe_bl fun _ => .bl b
/-- a module's number, text -/
theorem pd_gint {x : Str} {i : Int} (hm : ∃ t, X.mg x = some (.int i t)) (hg : Gl X x := by rfl) (hd : (x == ("__debug__" : Str)) = false := by decide) : PD X (.Name x pos) (eC (.int i)) := by
  obtain ⟨t, hm⟩ := hm
  exact pd_c (pe_glob (v := .int i) hg hm ⟨t, rfl⟩ hd) fun _ => .int i
theorem pd_gstr {x z : Str} (hm : ∃ t, X.mg x = some (.str z t)) (hz : sOk z = true := by decide +kernel) (hg : Gl X x := by rfl) (hd : (x == ("__debug__" : Str)) = false := by decide) : PD X (.Name x pos) (eC (.str z)) := by
  obtain ⟨t, hm⟩ := hm
  exact pd_c (pe_glob (v := .str z) hg hm ⟨t, rfl⟩ hd) fun _ => .str z hz

/-! ### two operands -/
def eOp (h : D → D → Option D) (a b : E) : E := fun ρ => mb (a ρ) fun x => mb (b ρ) fun y => ml (h x y)
/-- a reading of values, by data; the new parts are frozen -/
def OpD (K : PySem.W.Frag) (r : R2) (h : D → D → Option D) : Prop := ∀ (F : Fz) (H : Hp) g x y dx dy d, Same F.h H → GRep K g F H → Rp K F x dx → Rp K F y dy → h dx dy = some d →
  ∀ Q : VK, (∀ v H' F', Stp K g g F F' H H' → Rp K F' v d → Q v H') → r x y H Q
/-- a reading of values by data that gives a truth -/
def OpB (K : PySem.W.Frag) (r : R2) (h : D → D → Option Bool) : Prop := ∀ (W : Fz) (H : Hp) x y dx dy b, Same W.h H → Rp K W x dx → Rp K W y dy → h dx dy = some b → ∀ Q : VK, Q (.bl b) H → r x y H Q
theorem pd_op {op : Operator} {r : R2} {h : D → D → Option D} (ho : OpR X (binaryOp op) r) (hh : OpD X.K r h) (ha : PD X a fa) (hb : PD X b fb) : PD X (.BinOp a op b pos) (eOp h fa fb) := by
  obtain ⟨ta, pa, ka⟩ := ha
  obtain ⟨tb, pb, kb⟩ := hb
  refine ⟨_, pe_op ho pa pb, fun σ H F ρ g pre d g' e Q q => ?_⟩
  obtain ⟨dx, g1, e1, e⟩ := mb_inv e
  obtain ⟨dy, g2, e2, e⟩ := mb_inv e
  obtain ⟨e3, rfl⟩ := ml_inv e
  refine ka σ H F ρ g pre dx g1 e1 _ fun x H1 F1 s1 r1 => ?_
  refine kb σ H1 F1 ρ g1 (pre.step s1) dy g' e2 _ fun y H2 F2 s2 r2 => ?_
  exact hh F2 H2 g' x y dx dy d s2.sub s2.rep (r1.mono s2.ext) r2 e3 Q fun v H3 F3 s3 r3 => q v H3 F3 ((s1.trans s2).trans s3) r3
def eCmp (h : D → D → Option Bool) (a b : E) : E := fun ρ => mb (a ρ) fun x => mb (b ρ) fun y => ml ((h x y).map D.bl)
theorem pd_cmp {op : CmpOp} {r : R2} {h : D → D → Option Bool} (ho : OpR X (compareOp op) r) (hh : OpB X.K r h) (ha : PB X a fa) (hb : PB X b fb) (hm : behindInMarks op b = false := by first | exact nomark _ | rfl) :
    PD X (.Compare a [op] [b] pos) (eCmp h fa fb) := by
  obtain ⟨ta, pa, ka⟩ := ha
  obtain ⟨tb, pb, kb⟩ := hb
  refine ⟨_, pe_cmpR ho pa pb hm, fun σ H F ρ g pre d g' e Q q => ?_⟩
  obtain ⟨dx, g1, e1, e⟩ := mb_inv e
  obtain ⟨dy, g2, e2, e⟩ := mb_inv e
  obtain ⟨e3, rfl⟩ := ml_inv e
  obtain ⟨b, e4, rfl⟩ := Option.map_eq_some_iff.mp e3
  refine ka σ H F ρ g pre dx g1 e1 _ fun x H1 F1 s1 r1 => ?_
  refine kb σ H1 F1 ρ g1 (pre.step s1) dy g' e2 _ fun y H2 F2 s2 r2 => ?_
  exact hh (off F2 H2) H2 x y dx dy b (off_sub _ _) (r1.mono s2.off) r2 e4 Q (q _ H2 F2 (s1.trans s2) (.bl b))
def tCmp (h : D → D → Option Bool) (a b : E) : T := fun ρ => mb (a ρ) fun x => mb (b ρ) fun y => ml (h x y)
theorem pdt_cmp {op : CmpOp} {r : R2} {h : D → D → Option Bool} (ho : OpR X (compareOp op) r) (hh : OpB X.K r h) (ha : PB X a fa) (hb : PB X b fb) (hm : behindInMarks op b = false := by first | exact nomark _ | rfl) :
    PDT X (.Compare a [op] [b] pos) (tCmp h fa fb) := by
  obtain ⟨ta, pa, ka⟩ := ha
  obtain ⟨tb, pb, kb⟩ := hb
  refine ⟨_, pt_cmpR ho pa pb hm, fun σ H F ρ g pre d g' e Q q => ?_⟩
  obtain ⟨dx, g1, e1, e⟩ := mb_inv e
  obtain ⟨dy, g2, e2, e⟩ := mb_inv e
  obtain ⟨e4, rfl⟩ := ml_inv e
  refine ka σ H F ρ g pre dx g1 e1 _ fun x H1 F1 s1 r1 => ?_
  refine kb σ H1 F1 ρ g1 (pre.step s1) dy g' e2 _ fun y H2 F2 s2 r2 => ?_
  exact hh (off F2 H2) H2 x y dx dy d (off_sub _ _) (r1.mono s2.off) r2 e4 _ ⟨_, rfl, q H2 F2 (s1.trans s2)⟩
/-- a <= b <= c -/
def eChain (h h' : D → D → Option Bool) (a b c : E) : E := fun ρ => mb (a ρ) fun x => mb (b ρ) fun y => mb (ml (h x y)) fun k => if k = true then mb (c ρ) fun z => ml ((h' y z).map D.bl) else mr (.bl false)
theorem pd_chain {op op' : CmpOp} {r r' : R2} {h h' : D → D → Option Bool} (ho : OpR X (compareOp op) r) (ho' : OpR X (compareOp op') r') (hh : OpB X.K r h) (hh' : OpB X.K r' h') (ha : PB X a fa) (hb : PB X b fb) (hc : PB X c fc)
    (hm : lastMarks [op, op'] [b, c] = false := by with_unfolding_all rfl) : PD X (.Compare a [op, op'] [b, c] pos) (eChain h h' fa fb fc) := by
  obtain ⟨ta, pa, ka⟩ := ha
  obtain ⟨tb, pb, kb⟩ := hb
  obtain ⟨tc, pc, kc⟩ := hc
  refine ⟨_, pe_chain ho ho' pa pb pc hm, fun σ H F ρ g pre d g' e Q q => ?_⟩
  obtain ⟨dx, g1, e1, e⟩ := mb_inv e
  obtain ⟨dy, g2, e2, e⟩ := mb_inv e
  obtain ⟨k, g3, e3, e⟩ := mb_inv e
  obtain ⟨e4, rfl⟩ := ml_inv e3
  refine ka σ H F ρ g pre dx g1 e1 _ fun x H1 F1 s1 r1 => ?_
  refine kb σ H1 F1 ρ g1 (pre.step s1) dy g3 e2 _ fun y H2 F2 s2 r2 => ?_
  refine hh (off F2 H2) H2 x y dx dy k (off_sub _ _) (r1.mono s2.off) r2 e4 _ ⟨k, rfl, ?_⟩
  cases k with
  | false =>
    rw [if_neg Bool.false_ne_true] at e ⊢
    obtain ⟨rfl, rfl⟩ := mr_inv e
    exact q _ H2 F2 (s1.trans s2) (.bl false)
  | true =>
    rw [if_pos rfl] at e ⊢
    obtain ⟨dz, g4, e5, e⟩ := mb_inv e
    obtain ⟨e6, rfl⟩ := ml_inv e
    obtain ⟨b, e7, rfl⟩ := Option.map_eq_some_iff.mp e6
    refine kc σ H2 F2 ρ g3 (pre.step (s1.trans s2)) dz g' e5 _ fun z H3 F3 s3 r3 => ?_
    exact hh' (off F3 H3) H3 y z dy dz b (off_sub _ _) (r2.mono s3.off) r3 e7 Q (q _ H3 F3 ((s1.trans s2).trans s3) (.bl b))

/-! ### tests -/
def tE (e : E) : T := fun ρ => mb (e ρ) fun x => match x with
  | .bl b => mr b
  | _ => mz
theorem pdt_val (h : PD X e f) (he : ∀ whole, isTrue e X.env whole = (do let v ← whole; standAt e.pos; holding [v] (truthy v)) := by intro _; rfl) : PDT X e (tE f) := by
  obtain ⟨t, ht, k⟩ := h
  refine ⟨_, pt_val ht he, fun σ H F ρ g pre b g' e Q q => ?_⟩
  obtain ⟨dx, g1, e1, e⟩ := mb_inv e
  match dx, e with
  | .bl b', e =>
    obtain ⟨rfl, rfl⟩ := mr_inv e
    refine k σ H F ρ g pre _ _ e1 _ fun v H1 F1 s1 r1 => ?_
    cases r1
    exact ⟨b, rfl, q H1 F1 s1⟩
/-- a chain as a test -/
theorem pdt_chain {op op' : CmpOp} {r r' : R2} {h h' : D → D → Option Bool} (ho : OpR X (compareOp op) r) (ho' : OpR X (compareOp op') r') (hh : OpB X.K r h) (hh' : OpB X.K r' h') (ha : PB X a fa) (hb : PB X b fb) (hc : PB X c fc)
    (hm : lastMarks [op, op'] [b, c] = false := by with_unfolding_all rfl) : PDT X (.Compare a [op, op'] [b, c] pos) (tE (eChain h h' fa fb fc)) := by
  obtain ⟨ta, pa, ka⟩ := ha
  obtain ⟨tb, pb, kb⟩ := hb
  obtain ⟨tc, pc, kc⟩ := hc
  refine ⟨_, pt_chain ho ho' pa pb pc hm, fun σ H F ρ g pre d g' e Q q => ?_⟩
  obtain ⟨dv, gv, ev, e⟩ := mb_inv e
  obtain ⟨dx, g1, e1, ev⟩ := mb_inv ev
  obtain ⟨dy, g2, e2, ev⟩ := mb_inv ev
  obtain ⟨k, g3, e3, ev⟩ := mb_inv ev
  obtain ⟨e4, rfl⟩ := ml_inv e3
  refine ka σ H F ρ g pre dx g1 e1 _ fun x H1 F1 s1 r1 => ?_
  refine kb σ H1 F1 ρ g1 (pre.step s1) dy g3 e2 _ fun y H2 F2 s2 r2 => ?_
  refine hh (off F2 H2) H2 x y dx dy k (off_sub _ _) (r1.mono s2.off) r2 e4 _ ⟨k, rfl, ?_⟩
  cases k with
  | false =>
    rw [if_neg Bool.false_ne_true] at ev ⊢
    obtain ⟨rfl, rfl⟩ := mr_inv ev
    obtain ⟨rfl, rfl⟩ := mr_inv e
    exact ⟨_, rfl, q H2 F2 (s1.trans s2)⟩
  | true =>
    rw [if_pos rfl] at ev ⊢
    obtain ⟨dz, g4, e5, ev⟩ := mb_inv ev
    obtain ⟨e6, rfl⟩ := ml_inv ev
    obtain ⟨b, e7, rfl⟩ := Option.map_eq_some_iff.mp e6
    obtain ⟨rfl, rfl⟩ := mr_inv e
    refine kc σ H2 F2 ρ g3 (pre.step (s1.trans s2)) dz _ e5 _ fun z H3 F3 s3 r3 => ?_
    exact hh' (off F3 H3) H3 y z dy dz _ (off_sub _ _) (r2.mono s3.off) r3 e7 _ ⟨_, rfl, q H3 F3 ((s1.trans s2).trans s3)⟩
variable {ta tb : T} {rest : List Expr}
theorem PDW.pt (h : PDW X e ta) : PDT X e ta := let ⟨t, ht, k⟩ := h; ⟨t, ht.pt, k⟩
def tAnd (a b : T) : T := fun ρ => mb (a ρ) fun c => if c = true then b ρ else mr false
def tOr (a b : T) : T := fun ρ => mb (a ρ) fun c => if c = true then mr true else b ρ
def tNot (a : T) : T := fun ρ => mb (a ρ) fun c => mr (!c)
theorem pdw_and1 (h : PDT X a ta) : PDW X (.BoolOp .And [a] pos) ta := let ⟨t, ht, k⟩ := h; ⟨t, pw_and1 ht, k⟩
theorem pdw_or1 (h : PDT X a ta) : PDW X (.BoolOp .Or [a] pos) ta := let ⟨t, ht, k⟩ := h; ⟨t, pw_or1 ht, k⟩
theorem pdw_and (h : PDT X a ta) (h2 : PDW X (.BoolOp .And (b :: rest) pos) tb) : PDW X (.BoolOp .And (a :: b :: rest) pos) (tAnd ta tb) := by
  obtain ⟨t, ht, k⟩ := h
  obtain ⟨t2, ht2, k2⟩ := h2
  refine ⟨_, pw_and ht ht2, fun σ H F ρ g pre d g' e Q q => ?_⟩
  obtain ⟨c, g1, e1, e⟩ := mb_inv e
  refine k σ H F ρ g pre c g1 e1 _ fun H1 F1 s1 => ?_
  cases c with
  | true => exact k2 σ H1 F1 ρ g1 (pre.step s1) d g' e Q fun H2 F2 s2 => q H2 F2 (s1.trans s2)
  | false =>
    obtain ⟨rfl, rfl⟩ := mr_inv e
    exact q H1 F1 s1
theorem pdw_or (h : PDT X a ta) (h2 : PDW X (.BoolOp .Or (b :: rest) pos) tb) : PDW X (.BoolOp .Or (a :: b :: rest) pos) (tOr ta tb) := by
  obtain ⟨t, ht, k⟩ := h
  obtain ⟨t2, ht2, k2⟩ := h2
  refine ⟨_, pw_or ht ht2, fun σ H F ρ g pre d g' e Q q => ?_⟩
  obtain ⟨c, g1, e1, e⟩ := mb_inv e
  refine k σ H F ρ g pre c g1 e1 _ fun H1 F1 s1 => ?_
  cases c with
  | false => exact k2 σ H1 F1 ρ g1 (pre.step s1) d g' e Q fun H2 F2 s2 => q H2 F2 (s1.trans s2)
  | true =>
    obtain ⟨rfl, rfl⟩ := mr_inv e
    exact q H1 F1 s1
theorem pdt_not (h : PDT X a ta) : PDT X (.UnaryOp .Not a pos) (tNot ta) := by
  obtain ⟨t, ht, k⟩ := h
  refine ⟨_, pt_not ht, fun σ H F ρ g pre d g' e Q q => ?_⟩
  obtain ⟨c, g1, e1, e⟩ := mb_inv e
  obtain ⟨rfl, rfl⟩ := mr_inv e
  exact k σ H F ρ g pre c _ e1 _ fun H1 F1 s1 => q H1 F1 s1
/-! ### truths as values -/
def eAnd (a b : E) : E := fun ρ => mb (tE a ρ) fun c => if c = true then b ρ else mr (.bl false)
def eOr (a b : E) : E := fun ρ => mb (tE a ρ) fun c => if c = true then mr (.bl true) else b ρ
def eNot (a : E) : E := fun ρ => mb (tE a ρ) fun c => mr (.bl (!c))
theorem tE_inv {f : E} {ρ : Rho} {g g' : G} {b : Bool} (h : tE f ρ g = some (b, g')) : f ρ g = some (.bl b, g') := by
  obtain ⟨x, g1, e1, e⟩ := mb_inv h
  match x, e with
  | .bl b', e => obtain ⟨rfl, rfl⟩ := mr_inv e; exact e1
theorem pd_one {op : BoolOp} (h : PD X a fa) : PD X (.BoolOp op [a] pos) fa := let ⟨t, ht, k⟩ := h; ⟨t, pe_one ht, k⟩
theorem pd_and (h : PD X a fa) (h2 : PD X (.BoolOp .And (b :: rest) pos) fb) : PD X (.BoolOp .And (a :: b :: rest) pos) (eAnd fa fb) := by
  obtain ⟨t, ht, k⟩ := h
  obtain ⟨t2, ht2, k2⟩ := h2
  refine ⟨_, pe_and ht ht2, fun σ H F ρ g pre d g' e Q q => ?_⟩
  obtain ⟨c, g1, e1, e⟩ := mb_inv e
  refine k σ H F ρ g pre _ g1 (tE_inv e1) _ fun v H1 F1 s1 r1 => ?_
  cases r1
  refine ⟨c, rfl, ?_⟩
  cases c with
  | true => exact k2 σ H1 F1 ρ g1 (pre.step s1) d g' e Q fun v H2 F2 s2 r2 => q v H2 F2 (s1.trans s2) r2
  | false =>
    obtain ⟨rfl, rfl⟩ := mr_inv e
    exact q _ H1 F1 s1 (.bl false)
theorem pd_not (h : PD X a fa) : PD X (.UnaryOp .Not a pos) (eNot fa) := by
  obtain ⟨t, ht, k⟩ := h
  refine ⟨_, pe_not ht, fun σ H F ρ g pre d g' e Q q => ?_⟩
  obtain ⟨c, g1, e1, e⟩ := mb_inv e
  obtain ⟨rfl, rfl⟩ := mr_inv e
  refine k σ H F ρ g pre _ _ (tE_inv e1) _ fun v H1 F1 s1 r1 => ?_
  cases r1
  exact ⟨c, rfl, q _ H1 F1 s1 (.bl _)⟩
def eIf (c : T) (a b : E) : E := fun ρ => mb (c ρ) fun k => if k = true then a ρ else b ρ
theorem pd_if (hc : PDT X c ta) (ha : PD X a fa) (hb : PD X b fb) : PD X (.IfExp c a b pos) (eIf ta fa fb) := by
  obtain ⟨t, ht, k⟩ := hc
  obtain ⟨t1, ht1, k1⟩ := ha
  obtain ⟨t2, ht2, k2⟩ := hb
  refine ⟨_, pe_ifExp ht ht1 ht2, fun σ H F ρ g pre d g' e Q q => ?_⟩
  obtain ⟨c, g1, e1, e⟩ := mb_inv e
  refine k σ H F ρ g pre c g1 e1 _ fun H1 F1 s1 => ?_
  cases c with
  | true => exact k1 σ H1 F1 ρ g1 (pre.step s1) d g' e Q fun v H2 F2 s2 r2 => q v H2 F2 (s1.trans s2) r2
  | false => exact k2 σ H1 F1 ρ g1 (pre.step s1) d g' e Q fun v H2 F2 s2 r2 => q v H2 F2 (s1.trans s2) r2
/-! ### arguments, displays -/
variable {es : List Expr} {fs : EA}
def aNil : EA := fun _ => mr []
def aCons (a : E) (r : EA) : EA := fun ρ => mb (a ρ) fun x => mb (r ρ) fun xs => mr (x :: xs)
theorem pda_nil : PDA X [] aNil := ⟨_, pa_nil, fun σ H F ρ g pre d g' e Q q => by
  obtain ⟨rfl, rfl⟩ := mr_inv e
  exact q _ H F pre.refl .nil⟩
theorem pda_cons (h : PD X e f) (hr : PDA X es fs) (hs : starEach (e :: es) X.env = (false, eval e X.env) :: starEach es X.env := by rfl) : PDA X (e :: es) (aCons f fs) := by
  obtain ⟨t, ht, k⟩ := h
  obtain ⟨t2, ht2, k2⟩ := hr
  refine ⟨_, pa_cons ht ht2 hs, fun σ H F ρ g pre d g' e Q q => ?_⟩
  obtain ⟨x, g1, e1, e⟩ := mb_inv e
  obtain ⟨xs, g2, e2, e⟩ := mb_inv e
  obtain ⟨rfl, rfl⟩ := mr_inv e
  refine k σ H F ρ g pre x g1 e1 _ fun v H1 F1 s1 r1 => ?_
  exact k2 σ H1 F1 ρ g1 (pre.step s1) xs _ e2 _ fun vs H2 F2 s2 r2 => q _ H2 F2 (s1.trans s2) (.cons (r1.mono s2.ext) r2)
theorem pba_nil : PBA X [] aNil := ⟨_, pa_nil, fun σ H F ρ g pre d g' e Q q => by
  obtain ⟨rfl, rfl⟩ := mr_inv e
  exact q _ H F pre.refl .nil⟩
theorem pba_cons (h : PB X e f) (hr : PBA X es fs) (hs : starEach (e :: es) X.env = (false, eval e X.env) :: starEach es X.env := by rfl) : PBA X (e :: es) (aCons f fs) := by
  obtain ⟨t, ht, k⟩ := h
  obtain ⟨t2, ht2, k2⟩ := hr
  refine ⟨_, pa_cons ht ht2 hs, fun σ H F ρ g pre d g' e Q q => ?_⟩
  obtain ⟨x, g1, e1, e⟩ := mb_inv e
  obtain ⟨xs, g2, e2, e⟩ := mb_inv e
  obtain ⟨rfl, rfl⟩ := mr_inv e
  refine k σ H F ρ g pre x g1 e1 _ fun v H1 F1 s1 r1 => ?_
  exact k2 σ H1 F1 ρ g1 (pre.step s1) xs _ e2 _ fun vs H2 F2 s2 r2 => q _ H2 F2 (s1.trans s2) (.cons (r1.mono s2.off) r2)
def szD (n : Nat) (d : D) : Option D := if n ≤ sizeLine then some d else none
theorem szD_inv {n : Nat} {d d' : D} (h : szD n d = some d') : n ≤ sizeLine ∧ d' = d := by
  unfold szD at h
  split at h
  · cases h; exact ⟨by assumption, rfl⟩
  · cases h
def eTup (fs : EA) : E := fun ρ => mb (fs ρ) fun xs => ml (szD xs.length (.tup xs))
def eLst (fs : EA) : E := fun ρ => mb (fs ρ) fun xs => ml (szD xs.length (.lst xs))
theorem rp_new_tup {K : PySem.W.Frag} {F : Fz} {p : Addr} {vs : List V} {ds : List D} (hp : F p = none) (hz : ds.length ≤ sizeLine) (r : RpA K F vs ds) : Rp K (F.upd p (.tup vs)) (.ref p) (.tup ds) :=
  .tup (.of upd_same) (by rw [r.length]; exact hz) (r.mono (.upd hp))
theorem rp_new_lst {K : PySem.W.Frag} {F : Fz} {p : Addr} {vs : List V} {ds : List D} (hp : F p = none) (hz : ds.length ≤ sizeLine) (r : RpA K F vs ds) : Rp K (F.upd p (.lst vs)) (.ref p) (.lst ds) :=
  .lst (.of upd_same) (by rw [r.length]; exact hz) (r.mono (.upd hp))
theorem pd_tup {k : Nat} (h : PDA X es fs) : PD X (.Tuple es k pos) (eTup fs) := by
  obtain ⟨t, ht, k⟩ := h
  refine ⟨_, pe_tup ht, fun σ H F ρ g pre d g' e Q q => ?_⟩
  obtain ⟨xs, g1, e1, e⟩ := mb_inv e
  obtain ⟨e2, rfl⟩ := ml_inv e
  obtain ⟨hz, rfl⟩ := szD_inv e2
  refine k σ H F ρ g pre xs _ e1 _ fun vs H1 F1 s1 r1 => ⟨by rw [r1.length]; exact hz, fun p hp => ?_⟩
  exact q _ _ _ (s1.trans (.alloc s1.sub s1.rep hp)) (rp_new_tup (s1.sub.free hp) hz r1)
theorem pd_lst (h : PDA X es fs) : PD X (.List es pos) (eLst fs) := by
  obtain ⟨t, ht, k⟩ := h
  refine ⟨_, pe_lst ht, fun σ H F ρ g pre d g' e Q q => ?_⟩
  obtain ⟨xs, g1, e1, e⟩ := mb_inv e
  obtain ⟨e2, rfl⟩ := ml_inv e
  obtain ⟨hz, rfl⟩ := szD_inv e2
  refine k σ H F ρ g pre xs _ e1 _ fun vs H1 F1 s1 r1 => ⟨by rw [r1.length]; exact hz, fun p hp => ?_⟩
  exact q _ _ _ (s1.trans (.alloc s1.sub s1.rep hp)) (rp_new_lst (s1.sub.free hp) hz r1)

/-! ### calls of defs -/
/-- a def's promise by data -/
def spD (K : PySem.W.Frag) (n : Nat) (f : List D → M D) : Sp := fun vs H Q _ => ∃ (F : Fz) (g : G) (ds : List D) (d : D) (g' : G), ds.length = n ∧ Same F.h H ∧ GRep K g F H ∧ RpA K F vs ds ∧ f ds g = some (d, g') ∧
  ∀ v H' F', Stp K g g' F F' H H' → Rp K F' v d → Q v H'
/-- the def x keeps it -/
structure FnD (P : Program) (w : World) (K : PySem.W.Frag) (mg : Str → Option Value) (base : Heap) (k : Nat) (x : Str) (n : Nat) (f : List D → M D) : Prop where
  ex : ∃ (a : Addr) (fd : FuncData) (ps : List Str), mg x = some (.ref a) ∧ PySem.W.keepIn K (.ref a) = true ∧ Binds K fd ps [] ∧ FnG P w K mg base CX0 k a fd ps (spD K n f)
def eCall (f : List D → M D) (as : EA) : E := fun ρ => mb (as ρ) f
theorem pd_call {k n : Nat} {x : Str} {p : Pos} {F : List D → M D} (hf : FnD X.prog X.w X.K X.mg X.base k x n F) (hr : Room k X.A) (gd : X.A.guards = some []) (ha : PDA X (e :: es) fs) (hn : ∀ ρ g ds g', fs ρ g = some (ds, g') → ds.length = n)
    (hg : Gl X x := by rfl) (hdb : (x == ("__debug__" : Str)) = false := by decide) (he : starEach (e :: es) X.env = (false, eval e X.env) :: starEach es X.env := by rfl) (hpl : (backTo pos (starEach es X.env)).any (·.1) = false := by rfl) :
    PD X (.Call (.Name x p) (e :: es) [] pos) (eCall F fs) := by
  obtain ⟨a, fd, ps, hm, hk, hb, G⟩ := hf.ex
  obtain ⟨t, ht, k⟩ := ha
  refine ⟨_, pe_callG G hr gd hg hm hk hb .nil pass0 ht hdb he hpl, fun σ H F ρ g pre d g' e Q q => ?_⟩
  obtain ⟨ds, g1, e1, e⟩ := mb_inv e
  refine k σ H F ρ g pre ds g1 e1 _ fun vs H1 F1 s1 r1 => ?_
  rw [List.append_nil]
  exact ⟨F1, g1, ds, d, g', hn _ _ _ _ e1, s1.sub, s1.rep, r1, e, fun v H2 F2 s2 r2 => q v H2 F2 (s1.trans s2) r2⟩
theorem aCons_len {a : E} {r : EA} {n : Nat} (h : ∀ ρ g ds g', r ρ g = some (ds, g') → ds.length = n) : ∀ ρ g ds g', aCons a r ρ g = some (ds, g') → ds.length = n + 1 := fun ρ g ds g' e => by
  obtain ⟨x, g1, e1, e⟩ := mb_inv e
  obtain ⟨xs, g2, e2, e⟩ := mb_inv e
  obtain ⟨rfl, rfl⟩ := mr_inv e
  rw [List.length_cons, h _ _ _ _ e2]
theorem aNil_len : ∀ (ρ : Rho) (g : G) (ds : List D) (g' : G), aNil ρ g = some (ds, g') → ds.length = 0 := fun ρ g ds g' e => by
  obtain ⟨rfl, rfl⟩ := mr_inv e
  rfl
end
end PD
end
section
set_option Elab.async false
set_option linter.all false
set_option maxRecDepth 100000
set_option maxHeartbeats 4000000
set_option autoImplicit false
namespace PD
open PySem PySem.Spec L2
open PyProof.Rows hiding St
variable [Live]

/-! ### data as the library's data -/
mutual
def pur : D → Bool
  | .non => true
  | .bl _ => true
  | .int _ => true
  | .str _ => true
  | .tup l => purA l
  | .lst l => purA l
  | .dk _ _ => false
  | .dt _ _ => false
  | .hd _ => false
  | .tx _ => false
def purA : List D → Bool
  | [] => true
  | d :: l => pur d && purA l
end
mutual
def dep : D → Nat
  | .tup l => depA l + 1
  | .lst l => depA l + 1
  | .non => 0
  | .bl _ => 0
  | .int _ => 0
  | .str _ => 0
  | .dk _ _ => 0
  | .dt _ _ => 0
  | .hd _ => 0
  | .tx _ => 0
def depA : List D → Nat
  | [] => 0
  | d :: l => max (dep d) (depA l)
end
mutual
def toPy : D → PyData
  | .non => .none
  | .bl b => .bool b
  | .int i => .int i
  | .str x => .str x
  | .tup l => .tuple (toPyA l)
  | .lst l => .list (toPyA l)
  | .dk _ _ => .none
  | .dt _ _ => .none
  | .hd _ => .none
  | .tx _ => .none
def toPyA : List D → List PyData
  | [] => []
  | d :: l => toPy d :: toPyA l
end
mutual
def eqq : D → D → Bool
  | .non, .non => true
  | .bl a, .bl b => a == b
  | .bl a, .int j => (if a then 1 else 0) == j
  | .int i, .bl b => i == (if b then 1 else 0)
  | .int i, .int j => i == j
  | .str x, .str y => x == y
  | .lst xs, .lst ys => eqqA xs ys
  | .tup xs, .tup ys => eqqA xs ys
  | _, _ => false
def eqqA : List D → List D → Bool
  | [], [] => true
  | x :: xs, y :: ys => eqq x y && eqqA xs ys
  | _, _ => false
end
mutual
theorem eqq_ok : ∀ x y : D, pur x = true → pur y = true → PyData.eqv (toPy x) (toPy y) = eqq x y
  | .non, y, _, hy => by cases y <;> simp_all [toPy, PyData.eqv, eqq, pur]
  | .bl _, y, _, hy => by cases y <;> simp_all [toPy, PyData.eqv, eqq, pur]
  | .int _, y, _, hy => by cases y <;> simp_all [toPy, PyData.eqv, eqq, pur]
  | .str _, y, _, hy => by cases y <;> simp_all [toPy, PyData.eqv, eqq, pur]
  | .tup l, y, hx, hy => by
    cases y with
    | tup l' => simpa [toPy, PyData.eqv, eqq] using eqqA_ok l l' (by simpa [pur] using hx) (by simpa [pur] using hy)
    | _ => simp_all [toPy, PyData.eqv, eqq, pur]
  | .lst l, y, hx, hy => by
    cases y with
    | lst l' => simpa [toPy, PyData.eqv, eqq] using eqqA_ok l l' (by simpa [pur] using hx) (by simpa [pur] using hy)
    | _ => simp_all [toPy, PyData.eqv, eqq, pur]
  | .dk _ _, _, h, _ => by simp [pur] at h
  | .dt _ _, _, h, _ => by simp [pur] at h
  | .hd _, _, h, _ => by simp [pur] at h
  | .tx _, _, h, _ => by simp [pur] at h
theorem eqqA_ok : ∀ x y : List D, purA x = true → purA y = true → PyData.eqvAll (toPyA x) (toPyA y) = eqqA x y
  | [], [], _, _ => by simp [toPyA, PyData.eqvAll, eqqA]
  | [], _ :: _, _, _ => by simp [toPyA, PyData.eqvAll, eqqA]
  | _ :: _, [], _, _ => by simp [toPyA, PyData.eqvAll, eqqA]
  | a :: x, b :: y, hx, hy => by
    have hx : pur a = true ∧ purA x = true := by simpa [purA] using hx
    have hy : pur b = true ∧ purA y = true := by simpa [purA] using hy
    simp [toPyA, PyData.eqvAll, eqqA, eqq_ok a b hx.1 hy.1, eqqA_ok x y hx.2 hy.2]
end
mutual
theorem dep_ok : ∀ x : D, (toPy x).depth = dep x
  | .tup l => by simp [toPy, PyData.depth, dep, depA_ok l]
  | .lst l => by simp [toPy, PyData.depth, dep, depA_ok l]
  | .non => rfl
  | .bl _ => rfl
  | .int _ => rfl
  | .str _ => rfl
  | .dk _ _ => rfl
  | .dt _ _ => rfl
  | .hd _ => rfl
  | .tx _ => rfl
theorem depA_ok : ∀ x : List D, PyData.depthAll (toPyA x) = depA x
  | [] => rfl
  | a :: x => by simp [toPyA, PyData.depthAll, depA, dep_ok a, depA_ok x]
end
section
variable {K : PySem.W.Frag} {W : Fz} {H : Hp}
theorem rp_dp (s : Same W.h H) {v : V} {d : D} (h : Rp K W v d) : pur d = true → Dp K H v (toPy d) ∧ (toPy d).canLay0 = true :=
  Rp.rec (motive_1 := fun v d _ => pur d = true → Dp K H v (toPy d) ∧ (toPy d).canLay0 = true) (motive_2 := fun v d _ => purA d = true → DpAll K H v (toPyA d) ∧ PyData.canLayAll0 (toPyA d) = true)
    (fun _ => ⟨.non, rfl⟩) (fun b _ => ⟨.bl b, rfl⟩) (fun i _ => ⟨.int i, rfl⟩) (fun x h _ => ⟨.str x, by
      have h := (Bool.and_eq_true_iff.mp h).1
      simpa [toPy, PyData.canLay0] using h⟩)
    (fun h1 _ _ ih p => by
      have q := ih (by simpa [pur] using p)
      exact ⟨.tup (sqT_mono s h1) q.1, by simpa [toPy, PyData.canLay0] using q.2⟩)
    (fun h1 _ _ ih p => by
      have q := ih (by simpa [pur] using p)
      exact ⟨.lst (sqL_mono s h1) q.1, by simpa [toPy, PyData.canLay0] using q.2⟩)
    (fun _ _ _ p => by simp [pur] at p) (fun _ _ _ _ p => by simp [pur] at p) (fun _ p => by simp [pur] at p) (fun _ _ _ _ _ p => by simp [pur] at p)
    (fun _ => ⟨.nil, rfl⟩) (fun _ _ i1 i2 p => by
      simp only [purA, Bool.and_eq_true] at p
      have q1 := i1 p.1
      have q2 := i2 p.2
      exact ⟨.cons q1.1 q2.1, by simp [toPyA, PyData.canLayAll0, q1.2, q2.2]⟩) h
/-- what can be compared -/
def cmpOk (d : D) : Bool := pur d && decide (dep d ≤ 64)
theorem rp_shaped (s : Same W.h H) {v : V} {d : D} (h : Rp K W v d) (c : cmpOk d = true) : Dp K H v (toPy d) ∧ SeqAt.shaped (toPy d) = true := by
  obtain ⟨c1, c2⟩ := Bool.and_eq_true_iff.mp c
  obtain ⟨q1, q2⟩ := rp_dp s h c1
  refine ⟨q1, ?_⟩
  unfold SeqAt.shaped
  rw [q2, dep_ok]
  simpa using c2
end
def eqD (x y : D) : Option Bool := if (cmpOk x && cmpOk y) = true then some (eqq x y) else none
def neD (x y : D) : Option Bool := if (cmpOk x && cmpOk y) = true then some (!eqq x y) else none
theorem eqD_ok {K : PySem.W.Frag} : OpB K (rEqD K) eqD := fun W H x y dx dy b s rx ry e Q q => by
  unfold eqD at e
  split at e
  · rename_i c
    obtain ⟨c1, c2⟩ := Bool.and_eq_true_iff.mp c
    obtain ⟨p1, p2⟩ := rp_shaped s rx c1
    obtain ⟨q1, q2⟩ := rp_shaped s ry c2
    cases e
    refine ⟨_, _, p1, q1, p2, q2, ?_⟩
    rw [eqq_ok _ _ (Bool.and_eq_true_iff.mp c1).1 (Bool.and_eq_true_iff.mp c2).1]
    exact q
  · cases e
theorem neD_ok {K : PySem.W.Frag} : OpB K (rNeD K) neD := fun W H x y dx dy b s rx ry e Q q => by
  unfold neD at e
  split at e
  · rename_i c
    obtain ⟨c1, c2⟩ := Bool.and_eq_true_iff.mp c
    obtain ⟨p1, p2⟩ := rp_shaped s rx c1
    obtain ⟨q1, q2⟩ := rp_shaped s ry c2
    cases e
    refine ⟨_, _, p1, q1, p2, q2, ?_⟩
    rw [eqq_ok _ _ (Bool.and_eq_true_iff.mp c1).1 (Bool.and_eq_true_iff.mp c2).1]
    exact q
  · cases e
/-! ### order -/
def tupInts : List D → Option (List Int)
  | [] => some []
  | .int i :: l => (tupInts l).map (i :: ·)
  | _ :: _ => none
theorem tupInts_ok : ∀ {l : List D} {ns : List Int}, tupInts l = some ns → l = ns.map D.int
  | [], ns, h => by cases h; rfl
  | .int i :: l, ns, h => by
    obtain ⟨ms, h1, rfl⟩ := Option.map_eq_some_iff.mp h
    rw [tupInts_ok h1]; rfl
  | .non :: l, ns, h => by cases h
  | .bl _ :: l, ns, h => by cases h
  | .str _ :: l, ns, h => by cases h
  | .tup _ :: l, ns, h => by cases h
  | .lst _ :: l, ns, h => by cases h
  | .dk _ _ :: l, ns, h => by cases h
  | .dt _ _ :: l, ns, h => by cases h
  | .hd _ :: l, ns, h => by cases h
  | .tx _ :: l, ns, h => by cases h
theorem tupInts_map : ∀ ns : List Int, tupInts (ns.map D.int) = some ns
  | [] => rfl
  | n :: ns => by simp [tupInts, tupInts_map ns]
def ltD : D → D → Option Bool
  | .int i, .int j => some (decide (i < j))
  | .str x, .str y => some (decide (x.cps.toList < y.cps.toList))
  | .tup xs, .tup ys => match tupInts xs, tupInts ys with
    | some ns, some ms => some (HT.lexLt ns ms)
    | _, _ => none
  | _, _ => none
def gtD : D → D → Option Bool
  | .int i, .int j => some (decide (j < i))
  | .str x, .str y => some (decide (y.cps.toList < x.cps.toList))
  | _, _ => none
def leD : D → D → Option Bool
  | .int i, .int j => some (decide (i ≤ j))
  | .str x, .str y => some (!decide (y.cps.toList < x.cps.toList))
  | _, _ => none
def geD : D → D → Option Bool
  | .int i, .int j => some (decide (j ≤ i))
  | .str x, .str y => some (!decide (x.cps.toList < y.cps.toList))
  | _, _ => none
abbrev rOr (r r' : R2) : R2 := fun x y H Q => r x y H Q ∨ r' x y H Q
theorem rp_int {K : PySem.W.Frag} {W : Fz} {v : V} {i : Int} (h : Rp K W v (.int i)) : v = .int i := by cases h; rfl
theorem rp_str {K : PySem.W.Frag} {W : Fz} {v : V} {i : Str} (h : Rp K W v (.str i)) : v = .str i ∧ sOk i = true := by cases h with | str _ h => exact ⟨rfl, h⟩
theorem rp_bl {K : PySem.W.Frag} {W : Fz} {v : V} {i : Bool} (h : Rp K W v (.bl i)) : v = .bl i := by cases h; rfl
theorem rp_tup {K : PySem.W.Frag} {W : Fz} {v : V} {ds : List D} (h : Rp K W v (.tup ds)) : ∃ a xs, v = .ref a ∧ SqT K W a xs ∧ xs.length ≤ sizeLine ∧ RpA K W xs ds := by
  cases h with | tup h1 h2 h3 => exact ⟨_, _, rfl, h1, h2, h3⟩
theorem rp_lst {K : PySem.W.Frag} {W : Fz} {v : V} {ds : List D} (h : Rp K W v (.lst ds)) : ∃ a xs, v = .ref a ∧ SqL K W a xs ∧ xs.length ≤ sizeLine ∧ RpA K W xs ds := by
  cases h with | lst h1 h2 h3 => exact ⟨_, _, rfl, h1, h2, h3⟩
theorem rp_dk {K : PySem.W.Frag} {W : Fz} {v : V} {ks : List Key} {ds : List D} (h : Rp K W v (.dk ks ds)) : ∃ a, ∃ kvs : List (Key × V), v = .ref a ∧ Rd W a (.dK kvs) ∧ kvs.map (·.1) = ks ∧ RpA K W (kvs.map (·.2)) ds := by
  cases h with | dk h1 h3 => exact ⟨_, _, rfl, h1, rfl, h3⟩
abbrev rLt (K : PySem.W.Frag) : R2 := rOr (rI0 fun i j => .bl (decide (i < j))) (rOr (fun x y H Q => ∃ i j, x = .str i ∧ y = .str j ∧ Q (.bl (decide (i.cps.toList < j.cps.toList))) H) (rLtT K))
theorem op_ltA {X : Cx} (hu : X.A.units < cLine) : OpR X (compareOp .Lt) (rLt X.K) := op_lt.or (op_lt_str.or (op_ltT hu))
theorem ltD_ok {K : PySem.W.Frag} : OpB K (rLt K) ltD := fun W H x y dx dy b s rx ry e Q q => by
  unfold ltD at e
  split at e
  · cases e
    rw [rp_int rx, rp_int ry]
    exact .inl ⟨_, _, rfl, rfl, q⟩
  · cases e
    obtain ⟨rfl, _⟩ := rp_str rx
    obtain ⟨rfl, _⟩ := rp_str ry
    exact .inr (.inl ⟨_, _, rfl, rfl, q⟩)
  · rename_i xs ys
    split at e
    · rename_i ns ms h1 h2
      cases e
      obtain ⟨a, vs, rfl, t1, _, u1⟩ := rp_tup rx
      obtain ⟨c, ws, rfl, t2, _, u2⟩ := rp_tup ry
      rw [tupInts_ok h1] at u1
      rw [tupInts_ok h2] at u2
      rw [u1.ints] at t1
      rw [u2.ints] at t2
      exact .inr (.inr ⟨a, c, ns, ms, rfl, rfl, sqT_mono s t1, sqT_mono s t2, q⟩)
    · cases e
  · cases e
abbrev rGt : R2 := rOr (rI0 fun i j => .bl (decide (j < i))) (fun x y H Q => ∃ i j, x = .str i ∧ y = .str j ∧ Q (.bl (decide (j.cps.toList < i.cps.toList))) H)
theorem op_gtA {X : Cx} : OpR X (compareOp .Gt) rGt := op_gt.or op_gt_str
theorem gtD_ok {K : PySem.W.Frag} : OpB K rGt gtD := fun W H x y dx dy b s rx ry e Q q => by
  unfold gtD at e
  split at e
  · cases e; rw [rp_int rx, rp_int ry]; exact .inl ⟨_, _, rfl, rfl, q⟩
  · cases e
    obtain ⟨rfl, _⟩ := rp_str rx
    obtain ⟨rfl, _⟩ := rp_str ry
    exact .inr ⟨_, _, rfl, rfl, q⟩
  · cases e
abbrev rLe : R2 := rOr (rI0 fun i j => .bl (decide (i ≤ j))) (fun x y H Q => ∃ i j, x = .str i ∧ y = .str j ∧ Q (.bl (!decide (j.cps.toList < i.cps.toList))) H)
theorem op_leA {X : Cx} : OpR X (compareOp .LtE) rLe := op_le.or op_le_str
theorem leD_ok {K : PySem.W.Frag} : OpB K rLe leD := fun W H x y dx dy b s rx ry e Q q => by
  unfold leD at e
  split at e
  · cases e; rw [rp_int rx, rp_int ry]; exact .inl ⟨_, _, rfl, rfl, q⟩
  · cases e
    obtain ⟨rfl, _⟩ := rp_str rx
    obtain ⟨rfl, _⟩ := rp_str ry
    exact .inr ⟨_, _, rfl, rfl, q⟩
  · cases e
abbrev rGe : R2 := rOr (rI0 fun i j => .bl (decide (j ≤ i))) (fun x y H Q => ∃ i j, x = .str i ∧ y = .str j ∧ Q (.bl (!decide (i.cps.toList < j.cps.toList))) H)
theorem op_geA {X : Cx} : OpR X (compareOp .GtE) rGe := op_ge.or op_ge_str
theorem geD_ok {K : PySem.W.Frag} : OpB K rGe geD := fun W H x y dx dy b s rx ry e Q q => by
  unfold geD at e
  split at e
  · cases e; rw [rp_int rx, rp_int ry]; exact .inl ⟨_, _, rfl, rfl, q⟩
  · cases e
    obtain ⟨rfl, _⟩ := rp_str rx
    obtain ⟨rfl, _⟩ := rp_str ry
    exact .inr ⟨_, _, rfl, rfl, q⟩
  · cases e
/-! ### is None -/
def isNon : D → Bool
  | .non => true
  | _ => false
/-! ### in -/
def flatD : D → Bool
  | .non => true
  | .bl _ => true
  | .int _ => true
  | .str _ => true
  | _ => false
def keyD : D → Option Key
  | .int i => some (.inl i)
  | .str x => some (.inr x)
  | _ => none
def keysD : List D → Option (List Key)
  | [] => some []
  | d :: l => match keyD d, keysD l with
    | some k, some ks => some (k :: ks)
    | _, _ => none
/-- one sign, any text -/
def inStr (x z : Str) : Bool := if x.cps.size = 1 then decide (x.cps.getD 0 0 ∈ z.cps.toList) else !(Builtin.Str.occurrences z x 0 z.length 1).isEmpty
def inD (x y : D) : Option Bool := match y with
  | .lst ys => if (cmpOk x && cmpOk (.lst ys)) = true then some (ys.any fun z => eqq z x) else none
  | .tup ys => if (flatD x && ys.all flatD) = true then some (ys.any fun z => eqq z x) else none
  | .str z => match x with
    | .str w => some (inStr w z)
    | _ => none
  | .dk ks _ => (keyD x).map fun k => ks.any fun k' => decide (k' = k)
  | _ => none
theorem any_toPy (x : D) (hx : pur x = true) : ∀ ys : List D, purA ys = true → ((toPyA ys).any fun z => PyData.eqv z (toPy x)) = ys.any fun z => eqq z x
  | [], _ => rfl
  | y :: ys, h => by
    have h : pur y = true ∧ purA ys = true := by simpa [purA] using h
    simp only [toPyA, List.any_cons, any_toPy x hx ys h.2, eqq_ok y x h.1 hx]
theorem rp_flat {K : PySem.W.Frag} {W : Fz} {v : V} {d : D} (h : Rp K W v d) (f : flatD d = true) : flatV v = true := by cases h <;> first | rfl | exact absurd f (by simp [flatD])
theorem rp_eqV {K : PySem.W.Frag} {W : Fz} {v u : V} {d c : D} (h : Rp K W v d) (h' : Rp K W u c) (f : flatD d = true) (f' : flatD c = true) : eqV v u = eqq d c := by
  cases h <;> first | (simp [flatD] at f; done) | (cases h' <;> first | (simp [flatD] at f'; done) | simp [eqV, eqq])
theorem rpA_flat {K : PySem.W.Frag} {W : Fz} : ∀ {vs : List V} {ds : List D}, RpA K W vs ds → ds.all flatD = true → vs.all flatV = true
  | _, _, .nil, _ => rfl
  | _, _, .cons r t, f => by
    rw [List.all_cons, Bool.and_eq_true] at f
    rw [List.all_cons, rp_flat r f.1, rpA_flat t f.2]; rfl
theorem rpA_any {K : PySem.W.Frag} {W : Fz} {u : V} {c : D} (h' : Rp K W u c) (f' : flatD c = true) : ∀ {vs : List V} {ds : List D}, RpA K W vs ds → ds.all flatD = true → (vs.any fun y => eqV y u) = ds.any fun z => eqq z c
  | _, _, .nil, _ => rfl
  | _, _, .cons r t, f => by
    rw [List.all_cons, Bool.and_eq_true] at f
    rw [List.any_cons, List.any_cons, rp_eqV r h' f.1 f', rpA_any h' f' t f.2]
abbrev rDIn (neg : Bool) : R2 := fun y x H Q => ∃ a o, x = .ref a ∧ DGet H a y o ∧ Q (.bl (if neg = true then !o.isSome else o.isSome)) H
theorem op_dIn {X : Cx} (hu : X.A.units + 1 < cLine) : OpR X (compareOp .In) (rDIn false) := by
  intro pins s σ H y x v u Q I ry rx h
  obtain ⟨a, o, rfl, g, q⟩ := h
  obtain rfl : u = Value.ref a := rx
  exact d_in hu I g ry fun s3 I3 => ⟨.bl o.isSome, H, I3, rfl, q⟩
theorem op_dNotIn {X : Cx} (hu : X.A.units + 1 < cLine) : OpR X (compareOp .NotIn) (rDIn true) := by
  intro pins s σ H y x v u Q I ry rx h
  obtain ⟨a, o, rfl, g, q⟩ := h
  obtain rfl : u = Value.ref a := rx
  exact d_notIn hu I g ry fun s3 I3 => ⟨.bl (!o.isSome), H, I3, rfl, q⟩
abbrev rInS (neg : Bool) : R2 := fun x y H Q => ∃ i j, x = .str i ∧ y = .str j ∧ Q (.bl (if neg = true then !inStr i j else inStr i j)) H
theorem op_inS' {X : Cx} : OpR X (compareOp .In) (rInS false) := by
  intro pins s σ H x y v u Q I rx ry h
  obtain ⟨i, j, rfl, rfl, q⟩ := h
  by_cases h1 : i.cps.size = 1
  · obtain ⟨c, hc⟩ : ∃ c, i = ⟨#[c]⟩ := by
      obtain ⟨arr⟩ := i
      obtain ⟨l⟩ := arr
      match l, h1 with
      | [c], _ => exact ⟨c, rfl⟩
    subst hc
    refine op_in_sign pins s σ H _ _ v u Q I rx ry ⟨c, j, rfl, rfl, ?_⟩
    simpa [inStr] using q
  · refine op_in_str pins s σ H _ _ v u Q I rx ry ⟨i, j, rfl, rfl, ?_⟩
    simpa [inStr, h1] using q
theorem op_notInS' {X : Cx} : OpR X (compareOp .NotIn) (rInS true) := by
  intro pins s σ H x y v u Q I rx ry h
  obtain ⟨i, j, rfl, rfl, q⟩ := h
  by_cases h1 : i.cps.size = 1
  · obtain ⟨c, hc⟩ : ∃ c, i = ⟨#[c]⟩ := by
      obtain ⟨arr⟩ := i
      obtain ⟨l⟩ := arr
      match l, h1 with
      | [c], _ => exact ⟨c, rfl⟩
    subst hc
    refine op_notIn_sign pins s σ H _ _ v u Q I rx ry ⟨c, j, rfl, rfl, ?_⟩
    simpa [inStr] using q
  · refine op_notin_str pins s σ H _ _ v u Q I rx ry ⟨i, j, rfl, rfl, ?_⟩
    simpa [inStr, h1] using q
abbrev rInA (K : PySem.W.Frag) : R2 := rOr (rInD K) (rOr (rIn K false) (rOr (rInS false) (rDIn false)))
abbrev rNotInA (K : PySem.W.Frag) : R2 := rOr (rNotInD K) (rOr (rIn K true) (rOr (rInS true) (rDIn true)))
theorem op_inA {X : Cx} (hu : X.A.units + 65 < cLine) : OpR X (compareOp .In) (rInA X.K) := (op_inD hu).or (op_in_seq.or (op_inS'.or (op_dIn (by omega))))
theorem op_notInA {X : Cx} (hu : X.A.units + 65 < cLine) : OpR X (compareOp .NotIn) (rNotInA X.K) := (op_notInD hu).or (op_notIn_seq.or (op_notInS'.or (op_dNotIn (by omega))))
theorem keyD_ok {K : PySem.W.Frag} {W : Fz} {v : V} {d : D} {k : Key} (h : Rp K W v d) (e : keyD d = some k) : v = kV k := by
  cases h <;> cases e <;> rfl
theorem keysD_ok {K : PySem.W.Frag} {W : Fz} : ∀ {vs : List V} {ds : List D} {ks : List Key}, RpA K W vs ds → keysD ds = some ks → vs = ks.map kV
  | _, _, _, .nil, e => by cases e; rfl
  | _, _, ks, .cons (d := d) (ds := ds) r t, e => by
    unfold keysD at e
    cases h1 : keyD d with
    | none => rw [h1] at e; cases e
    | some k =>
      cases h2 : keysD ds with
      | none => rw [h1, h2] at e; cases e
      | some ks' =>
        rw [h1, h2] at e; cases e
        rw [keyD_ok r h1, keysD_ok t h2]; rfl
theorem valV_isSome {κ : Type} [DecidableEq κ] (kvs : List (κ × V)) (k : κ) : (valV kvs k).isSome = (kvs.map (·.1)).any fun k' => decide (k' = k) := by
  rw [← valV_any]
  simp [List.any_map, Function.comp_def]
theorem inD_any {K : PySem.W.Frag} {neg : Bool} {r : R2} (h1 : ∀ x y H Q, (if neg = true then rNotInD K x y H Q else rInD K x y H Q) → r x y H Q) (h2 : ∀ x y H Q, rIn K neg x y H Q → r x y H Q)
    (h3 : ∀ x y H Q, rInS neg x y H Q → r x y H Q) (h4 : ∀ x y H Q, rDIn neg x y H Q → r x y H Q)
    {W : Fz} {H : Hp} {x y : V} {dx dy : D} {b : Bool} (s : Same W.h H) (rx : Rp K W x dx) (ry : Rp K W y dy) (e : inD dx dy = some b) {Q : VK} (q : Q (.bl (if neg = true then !b else b)) H) : r x y H Q := by
  cases dy with
  | lst ys =>
    unfold inD at e
    simp only at e
    split at e
    · rename_i c
      obtain ⟨c1, c2⟩ := Bool.and_eq_true_iff.mp c
      obtain ⟨p1, p2⟩ := rp_shaped s rx c1
      obtain ⟨q1, q2⟩ := rp_shaped s ry c2
      cases e
      have c3 : purA ys = true := by simpa [pur] using (Bool.and_eq_true_iff.mp c2).1
      have ea := any_toPy dx (Bool.and_eq_true_iff.mp c1).1 ys c3
      refine h1 _ _ _ _ ?_
      cases neg with
      | true => rw [if_pos rfl] at q ⊢; exact ⟨_, _, p1, by simpa [toPy] using q1, p2, by simpa [toPy] using q2, by rw [ea]; exact q⟩
      | false => rw [if_neg Bool.false_ne_true] at q ⊢; exact ⟨_, _, p1, by simpa [toPy] using q1, p2, by simpa [toPy] using q2, by rw [ea]; exact q⟩
    · cases e
  | tup ys =>
    unfold inD at e
    simp only at e
    split at e
    · rename_i c
      obtain ⟨c1, c2⟩ := Bool.and_eq_true_iff.mp c
      cases e
      obtain ⟨a, xs, rfl, t1, _, u1⟩ := rp_tup ry
      refine h2 _ _ _ _ ⟨a, xs, rfl, .inr (sqT_mono s t1), rp_flat rx c1, rpA_flat u1 c2, ?_⟩
      unfold inV
      rw [rpA_any rx c1 u1 c2]
      cases neg <;> exact q
    · cases e
  | str z =>
    unfold inD at e
    cases dx <;> simp only at e <;> try (cases e; done)
    obtain ⟨rfl, _⟩ := rp_str rx
    obtain ⟨rfl, _⟩ := rp_str ry
    have e := Option.some.inj e
    subst e
    exact h3 _ _ _ _ ⟨_, _, rfl, rfl, q⟩
  | dk ks l =>
    obtain ⟨k, ek, rfl⟩ := Option.map_eq_some_iff.mp e
    obtain ⟨a, kvs, rfl, hd, rfl, _⟩ := rp_dk ry
    refine h4 _ _ _ _ ⟨a, valV kvs k, rfl, .inl ⟨kvs, k, Rd.mono s hd, keyD_ok rx ek, rfl⟩, ?_⟩
    rw [valV_isSome]
    exact q
  | dt ks l => cases e
  | non => cases e
  | bl _ => cases e
  | int _ => cases e
  | hd _ => cases e
  | tx _ => cases e
def notInD (x y : D) : Option Bool := (inD x y).map not
theorem inD_ok {K : PySem.W.Frag} : OpB K (rInA K) inD := fun W H x y dx dy b s rx ry e Q q =>
  inD_any (K := K) (neg := false) (r := rInA K) (fun _ _ _ _ h => .inl h) (fun _ _ _ _ h => .inr (.inl h)) (fun _ _ _ _ h => .inr (.inr (.inl h))) (fun _ _ _ _ h => .inr (.inr (.inr h))) s rx ry e q
theorem notInD_ok {K : PySem.W.Frag} : OpB K (rNotInA K) notInD := fun W H x y dx dy b s rx ry e Q q => by
  obtain ⟨b', e', rfl⟩ := Option.map_eq_some_iff.mp e
  exact inD_any (K := K) (neg := true) (r := rNotInA K) (fun _ _ _ _ h => .inl h) (fun _ _ _ _ h => .inr (.inl h)) (fun _ _ _ _ h => .inr (.inr (.inl h))) (fun _ _ _ _ h => .inr (.inr (.inr h))) s rx ry e' q
end PD
end
section
set_option Elab.async false
set_option linter.all false
set_option maxRecDepth 100000
set_option maxHeartbeats 4000000
set_option autoImplicit false
namespace PD
open PySem PySem.Spec L2
open PyProof.Rows hiding St
variable [Live]

/-! ### arithmetic, joining -/
theorem sOk_len {x : Str} (h : sOk x = true) : x.length ≤ sizeLine := of_decide_eq_true (Bool.and_eq_true_iff.mp h).2
theorem sOk_ok {x : Str} (h : sOk x = true) : PyData.strOk x = true := (Bool.and_eq_true_iff.mp h).1
theorem sOk_mk {x : Str} (h : PyData.strOk x = true) (h' : x.length ≤ sizeLine) : sOk x = true := Bool.and_eq_true_iff.mpr ⟨h, decide_eq_true h'⟩
theorem strOk_iff {x : Str} : PyData.strOk x = true ↔ ∀ c ∈ x.cps.toList, c < 0x110000 := by
  unfold PyData.strOk
  rw [← Array.all_toList, List.all_eq_true]
  simp
theorem cps_append (x y : Str) : (x ++ y).cps.toList = x.cps.toList ++ y.cps.toList := by
  show (x.cps ++ y.cps).toList = _
  simp
theorem len_append (x y : Str) : (x ++ y).length = x.length + y.length := by
  show (x.cps ++ y.cps).size = _
  simp [Str.length]
abbrev rCatL (K : PySem.W.Frag) : R2 := fun x y H Q => ∃ l b xs zs, x = .ref l ∧ y = .ref b ∧ SqL K H l xs ∧ SqL K H b zs ∧ xs.length + zs.length ≤ sizeLine ∧ ∀ p, H p = none → Q (.ref p) (upd H p (.lst (xs ++ zs)))
theorem op_catL {X : Cx} : OpR X (binaryOp .Add) (rCatL X.K) := by
  intro pins s σ H x y v u Q I rx ry h
  obtain ⟨l, b, xs, zs, rfl, rfl, hx, hy, hz, q⟩ := h
  cases rx
  cases ry
  obtain ⟨its, r1, ⟨o1, n1, g1, c1, k1, d1⟩, _⟩ := I.list hx
  obtain ⟨jts, r2, ⟨o2, n2, g2, c2, k2, d2⟩, _⟩ := I.list hy
  obtain ⟨cl1, dd1, dt1, sl1⟩ := o1
  obtain ⟨cl2, dd2, dt2, sl2⟩ := o2
  simp only at c1 d1 c2 d2
  subst c1 d1 c2 d2
  have e1 := r1.length
  have e2 := r2.length
  refine concat_meets ⟨_, g1, rfl⟩ ⟨_, g2, rfl⟩ noFill_list_add seq_list_add PySem.F.slot_list_add PySem.F.entry_list_add (PySem.F.args_list_add_2 _ _)
    (list_addW l b its.toArray jts.toArray n1 n2 dd1 dd2 sl1 sl2 (by simp only [List.size_toArray]; omega)) ⟨g1, g2, ?_⟩
  have e3 : its.toArray ++ jts.toArray = (its ++ jts).toArray := by simp
  rw [e3]
  exact ⟨.ref _, _, I.lnew (t' := s.toks) (r1.append r2) (by rw [List.length_append]; omega), rfl, q _ I.fresh⟩
def addD : D → D → Option D
  | .int i, .int j => some (.int (i + j))
  | .str x, .str y => szD (x.length + y.length) (.str (x ++ y))
  | .tup xs, .tup ys => szD (xs.length + ys.length) (.tup (xs ++ ys))
  | .lst xs, .lst ys => szD (xs.length + ys.length) (.lst (xs ++ ys))
  | _, _ => none
abbrev rAdd' (K : PySem.W.Frag) : R2 := rOr (rI0 fun i j => .int (i + j)) (rOr (fun x y H Q => ∃ i j, x = .str i ∧ y = .str j ∧ i.length + j.length ≤ sizeLine ∧ Q (.str (i ++ j)) H) (rOr (rCatA K) (rCatL K)))
theorem op_addA {X : Cx} : OpR X (binaryOp .Add) (rAdd' X.K) := op_add.or (op_add_str.or (op_catA.or op_catL))
theorem addD_ok {K : PySem.W.Frag} : OpD K (rAdd' K) addD := fun F H g x y dx dy d s gr rx ry e Q q => by
  unfold addD at e
  split at e
  · cases e
    rw [rp_int rx, rp_int ry]
    exact .inl ⟨_, _, rfl, rfl, q _ H F (Stp.refl s gr) (.int _)⟩
  · obtain ⟨hz, rfl⟩ := szD_inv e
    obtain ⟨rfl, h1⟩ := rp_str rx
    obtain ⟨rfl, h2⟩ := rp_str ry
    refine .inr (.inl ⟨_, _, rfl, rfl, hz, q _ H F (Stp.refl s gr) (.str _ (sOk_mk ?_ (by rw [len_append]; exact hz)))⟩)
    rw [strOk_iff] at *
    intro c hc
    rw [cps_append, List.mem_append] at hc
    rcases hc with hc | hc
    · exact strOk_iff.mp (sOk_ok h1) c hc
    · exact strOk_iff.mp (sOk_ok h2) c hc
  · obtain ⟨hz, rfl⟩ := szD_inv e
    obtain ⟨a, vs, rfl, t1, l1, u1⟩ := rp_tup rx
    obtain ⟨b, ws, rfl, t2, l2, u2⟩ := rp_tup ry
    have e1 := u1.length
    have e2 := u2.length
    refine .inr (.inr (.inl ⟨a, b, vs, ws, rfl, rfl, sqT_mono s t1, sqT_mono s t2, by omega, fun h => ?_, fun _ h => ?_, fun _ _ p hp => ?_⟩))
    · subst h
      cases u1
      exact q _ H F (Stp.refl s gr) ry
    · subst h
      cases u2
      rw [List.append_nil] at q
      exact q _ H F (Stp.refl s gr) rx
    · exact q _ _ _ (.alloc s gr hp) (rp_new_tup (s.free hp) (by rw [List.length_append]; exact hz) (u1.append u2))
  · obtain ⟨hz, rfl⟩ := szD_inv e
    obtain ⟨a, vs, rfl, t1, l1, u1⟩ := rp_lst rx
    obtain ⟨b, ws, rfl, t2, l2, u2⟩ := rp_lst ry
    have e1 := u1.length
    have e2 := u2.length
    refine .inr (.inr (.inr ⟨a, b, vs, ws, rfl, rfl, sqL_mono s t1, sqL_mono s t2, by omega, fun p hp => ?_⟩))
    exact q _ _ _ (.alloc s gr hp) (rp_new_lst (s.free hp) (by rw [List.length_append]; exact hz) (u1.append u2))
  · cases e
/-- operators of two numbers under a condition -/
def intD (c : Int → Int → Bool) (h : Int → Int → Int) : D → D → Option D
  | .int i, .int j => if c i j = true then some (.int (h i j)) else none
  | _, _ => none
theorem intD_ok {K : PySem.W.Frag} {C : Int → Int → Prop} {c : Int → Int → Bool} {h : Int → Int → Int} (hc : ∀ i j, c i j = true → C i j) : OpD K (rI C fun i j => .int (h i j)) (intD c h) := fun F H g x y dx dy d s gr rx ry e Q q => by
  unfold intD at e
  split at e
  · split at e
    · cases e
      rw [rp_int rx, rp_int ry]
      exact ⟨_, _, rfl, rfl, hc _ _ (by assumption), q _ H F (Stp.refl s gr) (.int _)⟩
    · cases e
  · cases e
def subD : D → D → Option D
  | .int i, .int j => some (.int (i - j))
  | _, _ => none
theorem subD_ok {K : PySem.W.Frag} : OpD K (rI0 fun i j => .int (i - j)) subD := fun F H g x y dx dy d s gr rx ry e Q q => by
  unfold subD at e
  split at e
  · cases e
    rw [rp_int rx, rp_int ry]
    exact ⟨_, _, rfl, rfl, q _ H F (Stp.refl s gr) (.int _)⟩
  · cases e
def mulC (i j : Int) : Bool := (decide (-(2 ^ 64) < i) && decide (i < 2 ^ 64)) || (decide (-(2 ^ 64) < j) && decide (j < 2 ^ 64))
theorem mulC_ok (i j : Int) (h : mulC i j = true) : CMul i j := by simpa [mulC, CMul] using h
def fdivC (_ j : Int) : Bool := decide (0 < j) && decide (j < 2 ^ 8000)
theorem fdivC_ok (i j : Int) (h : fdivC i j = true) : CDivW i j := by
  have h : 0 < j ∧ j < 2 ^ 8000 := by
    obtain ⟨h1, h2⟩ := Bool.and_eq_true_iff.mp h
    exact ⟨of_decide_eq_true h1, of_decide_eq_true h2⟩
  refine wide_div (b := 8000) h.1 ?_ (by decide) (by decide)
  have := h.2
  have e : (2 : Int) ^ 8000 = ((2 ^ 8000 : Nat) : Int) := by simp
  rw [e] at this
  omega
def modC (_ j : Int) : Bool := decide (0 < j)
def powC (i j : Int) : Bool := decide (0 ≤ j) && (decide (j ≤ 1000000) && decide (i.natAbs < 2 ^ 64))
theorem powC_ok (i j : Int) (h : powC i j = true) : CPow i j := by simpa [powC, CPow] using h
abbrev dMul := intD mulC fun i j => i * j
abbrev dFdiv := intD fdivC fun i j => i / j
abbrev dMod := intD modC fun i j => i % j
abbrev dPow := intD powC fun i j => i ^ j.toNat
section
variable {X : Cx} {a b : Expr} {fa fb : E} {pos : Pos}
theorem pd_add (ha : PD X a fa) (hb : PD X b fb) : PD X (.BinOp a .Add b pos) (eOp addD fa fb) := pd_op op_addA addD_ok ha hb
theorem pd_sub (ha : PD X a fa) (hb : PD X b fb) : PD X (.BinOp a .Sub b pos) (eOp subD fa fb) := pd_op op_sub subD_ok ha hb
theorem pd_mul (ha : PD X a fa) (hb : PD X b fb) : PD X (.BinOp a .Mult b pos) (eOp dMul fa fb) := pd_op op_mul (intD_ok mulC_ok) ha hb
theorem pd_fdiv (ha : PD X a fa) (hb : PD X b fb) : PD X (.BinOp a .FloorDiv b pos) (eOp dFdiv fa fb) := pd_op op_fdivW (intD_ok fdivC_ok) ha hb
theorem pd_mod (ha : PD X a fa) (hb : PD X b fb) : PD X (.BinOp a .Mod b pos) (eOp dMod fa fb) := pd_op op_mod (intD_ok fun i j h => of_decide_eq_true h) ha hb
theorem pd_pow (ha : PD X a fa) (hb : PD X b fb) : PD X (.BinOp a .Pow b pos) (eOp dPow fa fb) := pd_op op_pow (intD_ok powC_ok) ha hb
/-- -x -/
def eNeg (a : E) : E := fun ρ => mb (a ρ) fun x => match x with
  | .int i => mr (.int (-i))
  | _ => mz
theorem pd_neg (h : PD X a fa) : PD X (.UnaryOp .USub a pos) (eNeg fa) := by
  obtain ⟨t, ht, k⟩ := h
  refine ⟨_, pe_un un_neg ht, fun σ H F ρ g pre d g' e Q q => ?_⟩
  obtain ⟨x, g1, e1, e⟩ := mb_inv e
  cases x <;> try (cases e; done)
  obtain ⟨rfl, rfl⟩ := mr_inv e
  refine k σ H F ρ g pre _ _ e1 _ fun v H1 F1 s1 r1 => ?_
  rw [rp_int r1]
  exact ⟨_, rfl, q _ H1 F1 s1 (.int _)⟩
end
/-! ### calls of built-ins: a reading of values by data -/
/-- the answer has no parts -/
def CallB (K : PySem.W.Frag) (r : List V → Hp → VK → Prop) (h : List D → Option D) : Prop := ∀ (W : Fz) (H : Hp) vs ds d, Same W.h H → RpA K W vs ds → h ds = some d → ∀ Q : VK, (∀ v, (∀ F, Rp K F v d) → Q v H) → r vs H Q
/-- the answer's parts are the arguments', or new -/
def CallD (K : PySem.W.Frag) (r : List V → Hp → VK → Prop) (h : List D → Option D) : Prop := ∀ (F : Fz) (H : Hp) g vs ds d, Same F.h H → GRep K g F H → RpA K F vs ds → h ds = some d →
  ∀ Q : VK, (∀ v H' F', Stp K g g F F' H H' → Rp K F' v d → Q v H') → r vs H Q
def eBi (h : List D → Option D) (as : EA) : E := fun ρ => mb (as ρ) fun ds => ml (h ds)
section
variable {X : Cx} {e : Expr} {es : List Expr} {fs : EA} {x : Str} {p pos : Pos} {id T : String} {r : List V → Hp → VK → Prop} {h : List D → Option D}
theorem pd_biB (hc : CallR X (.builtin id) r) (hh : CallB X.K r h) (hm : X.mg x = none) (ha : PBA X (e :: es) fs) (hv : bootBuiltins x = some (.builtin id) := by decide +kernel) (hg : Gl X x := by rfl) (hn : x ≠ "__name__" := by decide)
    (hdb : (x == ("__debug__" : Str)) = false := by decide) (he : starEach (e :: es) X.env = (false, eval e X.env) :: starEach es X.env := by rfl) (hpl : (backTo pos (starEach es X.env)).any (·.1) = false := by rfl) :
    PD X (.Call (.Name x p) (e :: es) [] pos) (eBi h fs) := by
  obtain ⟨t, ht, k⟩ := ha
  refine ⟨_, pe_callB hc hg hm hv ht hn hdb he hpl, fun σ H F ρ g pre d g' e Q q => ?_⟩
  obtain ⟨ds, g1, e1, e⟩ := mb_inv e
  obtain ⟨e2, rfl⟩ := ml_inv e
  refine k σ H F ρ g pre ds _ e1 _ fun vs H1 F1 s1 r1 => ?_
  exact hh _ H1 vs ds d (off_sub _ _) r1 e2 Q fun v rv => q v H1 F1 s1 (rv F1)
theorem pd_biD (hc : CallR X (.builtin id) r) (hh : CallD X.K r h) (hm : X.mg x = none) (ha : PDA X (e :: es) fs) (hv : bootBuiltins x = some (.builtin id) := by decide +kernel) (hg : Gl X x := by rfl) (hn : x ≠ "__name__" := by decide)
    (hdb : (x == ("__debug__" : Str)) = false := by decide) (he : starEach (e :: es) X.env = (false, eval e X.env) :: starEach es X.env := by rfl) (hpl : (backTo pos (starEach es X.env)).any (·.1) = false := by rfl) :
    PD X (.Call (.Name x p) (e :: es) [] pos) (eBi h fs) := by
  obtain ⟨t, ht, k⟩ := ha
  refine ⟨_, pe_callB hc hg hm hv ht hn hdb he hpl, fun σ H F ρ g pre d g' e Q q => ?_⟩
  obtain ⟨ds, g1, e1, e⟩ := mb_inv e
  obtain ⟨e2, rfl⟩ := ml_inv e
  refine k σ H F ρ g pre ds _ e1 _ fun vs H1 F1 s1 r1 => ?_
  exact hh F1 H1 _ vs ds d s1.sub s1.rep r1 e2 Q fun v H2 F2 s2 r2 => q v H2 F2 (s1.trans s2) r2
theorem pd_biTD (hc : CallR X (.type T) r) (hh : CallD X.K r h) (hm : X.mg x = none) (ha : PDA X (e :: es) fs) (hv : bootBuiltins x = some (.type T) := by decide +kernel) (hg : Gl X x := by rfl) (hn : x ≠ "__name__" := by decide)
    (hdb : (x == ("__debug__" : Str)) = false := by decide) (he : starEach (e :: es) X.env = (false, eval e X.env) :: starEach es X.env := by rfl) (hpl : (backTo pos (starEach es X.env)).any (·.1) = false := by rfl) :
    PD X (.Call (.Name x p) (e :: es) [] pos) (eBi h fs) := by
  obtain ⟨t, ht, k⟩ := ha
  refine ⟨_, pe_callTy hc hg hm hv ht hn hdb he hpl, fun σ H F ρ g pre d g' e Q q => ?_⟩
  obtain ⟨ds, g1, e1, e⟩ := mb_inv e
  obtain ⟨e2, rfl⟩ := ml_inv e
  refine k σ H F ρ g pre ds _ e1 _ fun vs H1 F1 s1 r1 => ?_
  exact hh F1 H1 _ vs ds d s1.sub s1.rep r1 e2 Q fun v H2 F2 s2 r2 => q v H2 F2 (s1.trans s2) r2
end
end PD
end
section
set_option Elab.async false
set_option linter.all false
set_option maxRecDepth 100000
set_option maxHeartbeats 4000000
set_option autoImplicit false
namespace PD
open PySem PySem.Spec L2
open PyProof.Rows hiding St
variable [Live]

/-! ### the signs of what is shown -/
def Sg (x : Str) : Prop := ∀ c ∈ x.cps.toList, c < 0x110000
theorem Sg.append {x y : Str} (h : Sg x) (h' : Sg y) : Sg (x ++ y) := fun c hc => by
  rw [cps_append, List.mem_append] at hc
  exact hc.elim (h c) (h' c)
theorem sg_char (c : Char) : c.toNat < 0x110000 := by
  have := c.valid
  rcases this with h | ⟨_, h⟩
  · show c.val.toNat < _; omega
  · exact h
theorem sg_string (s : String) : Sg (Str.ofString s) := fun c hc => by
  rw [Str.ofString_eq_toList] at hc
  simp only at hc
  obtain ⟨d, _, rfl⟩ := List.mem_map.mp hc
  exact sg_char d
theorem sg_hex (c w : Nat) : ∀ d ∈ List.replicate w 48 ++ (Nat.toDigits 16 c).map Char.toNat, d < 0x110000 := fun d hd => by
  rcases List.mem_append.mp hd with h | h
  · rw [(List.mem_replicate.mp h).2]; decide
  · obtain ⟨x, _, rfl⟩ := List.mem_map.mp h
    exact sg_char x
theorem sg_reprChar (q c : Nat) (hc : c < 0x110000) : ∀ d ∈ Builtin.Str.reprChar q c, d < 0x110000 := by
  intro d hd
  unfold Builtin.Str.reprChar at hd
  dsimp only at hd
  repeat' split at hd
  all_goals first
    | (rcases List.mem_append.mp hd with hd | hd
       · simp only [List.mem_cons, List.not_mem_nil, or_false] at hd; omega
       · exact sg_hex _ _ d hd)
    | (simp only [List.mem_cons, List.not_mem_nil, or_false] at hd; omega)
theorem sg_reprFold (q : Nat) (P : Nat → Prop) (hP : ∀ n, P n ↔ n < 0x110000) : ∀ (l : List Nat) (acc : Array Nat), (∀ c ∈ l, c < 0x110000) → (∀ c ∈ acc.toList, c < 0x110000) →
    ∀ c ∈ (l.foldl (fun out c => out ++ (Builtin.Str.reprChar q c).toArray) acc).toList, c < 0x110000
  | [], acc, _, h => h
  | x :: l, acc, h1, h2 => by
    refine sg_reprFold q P hP l _ (fun c hc => h1 c (List.mem_cons_of_mem _ hc)) fun c hc => ?_
    rw [Array.toList_append, List.mem_append] at hc
    rcases hc with hc | hc
    · exact h2 c hc
    · exact sg_reprChar q x (h1 x List.mem_cons_self) c (by simpa using hc)
theorem sg_repr {x : Str} (h : Sg x) : Sg (reprText x) := by
  have hq : reprQuote x < 0x110000 := by unfold reprQuote; split <;> decide
  intro c hc
  unfold reprText at hc
  simp only [Array.toList_push, List.mem_append, List.mem_singleton] at hc
  rcases hc with hc | rfl
  · rw [← Array.foldl_toList] at hc
    refine sg_reprFold (reprQuote x) (· < 0x110000) (fun _ => Iff.rfl) x.cps.toList #[reprQuote x] h (fun d hd => ?_) c hc
    simp only [List.mem_singleton] at hd
    rw [hd]; exact hq
  · exact hq
theorem sg_textFrom : ∀ (ts : List Str) (k : Nat) (acc : Str), Sg acc → (∀ t ∈ ts, Sg t) → Sg (textFrom k acc ts)
  | [], _, _, h, _ => h
  | t :: ts, k, acc, h, h' => sg_textFrom ts (k + 1) _ ((h.append (sg_string _)).append (h' t List.mem_cons_self)) fun u hu => h' u (List.mem_cons_of_mem _ hu)
theorem sg_join : ∀ (sep : Str) (ts : List Str), Sg sep → (∀ t ∈ ts, Sg t) → Sg (Str.join sep ts)
  | _, [], _, _ => fun c hc => by simp [Str.join, Str.empty] at hc
  | _, [x], _, h => h x List.mem_cons_self
  | sep, x :: y :: r, hs, h => ((h x List.mem_cons_self).append hs).append (sg_join sep (y :: r) hs fun t ht => h t (List.mem_cons_of_mem _ ht))
mutual
theorem sg_shown : ∀ d : PyData, d.canLay0 = true → Sg d.shown
  | .none, _ => by rw [PyData.shown]; exact sg_string _
  | .bool b, _ => by rw [PyData.shown]; cases b <;> exact sg_string _
  | .int i, _ => by rw [PyData.shown]; exact sg_string _
  | .str x, h => by rw [PyData.shown]; exact sg_repr (strOk_iff.mp (by simpa [PyData.canLay0] using h))
  | .list xs, h => by
    rw [PyData.shown]
    exact (sg_textFrom _ _ _ (sg_string _) (sg_shownAll xs (by simpa [PyData.canLay0] using h))).append (sg_string _)
  | .tuple xs, h => by
    rw [PyData.shown]
    exact ((sg_string _).append (sg_join _ _ (sg_string _) (sg_shownAll xs (by simpa [PyData.canLay0] using h)))).append (sg_string _)
  | .dict _, h => by simp [PyData.canLay0] at h
theorem sg_shownAll : ∀ ds : List PyData, PyData.canLayAll0 ds = true → ∀ t ∈ PyData.shownAll ds, Sg t
  | [], _, t, ht => by simp [PyData.shownAll] at ht
  | d :: ds, h, t, ht => by
    have h : d.canLay0 = true ∧ PyData.canLayAll0 ds = true := by simpa [PyData.canLayAll0] using h
    rw [PyData.shownAll] at ht
    rcases List.mem_cons.mp ht with rfl | ht
    · exact sg_shown d h.1
    · exact sg_shownAll ds h.2 t ht
end
/-! ### repr -/
def shows (d : D) : Str := (toPy d).shown
def showOk (d : D) : Bool := cmpOk d && ((toPy d).showable && decide ((shows d).length ≤ sizeLine))
def reprD : List D → Option D
  | [d] => if showOk d = true then some (.str (shows d)) else none
  | _ => none
mutual
theorem noDict : ∀ d : D, pur d = true → (toPy d).hasDict = false
  | .non, _ => rfl
  | .bl _, _ => rfl
  | .int _, _ => rfl
  | .str _, _ => rfl
  | .tup l, h => by simpa [toPy, PyData.hasDict] using noDictA l (by simpa [pur] using h)
  | .lst l, h => by simpa [toPy, PyData.hasDict] using noDictA l (by simpa [pur] using h)
  | .dk _ _, h => by simp [pur] at h
  | .dt _ _, h => by simp [pur] at h
  | .hd _, h => by simp [pur] at h
  | .tx _, h => by simp [pur] at h
theorem noDictA : ∀ d : List D, purA d = true → PyData.hasDictAll (toPyA d) = false
  | [], _ => rfl
  | d :: l, h => by
    simp only [purA, Bool.and_eq_true] at h
    simp [toPyA, PyData.hasDictAll, noDict d h.1, noDictA l h.2]
end
abbrev rRepr (K : PySem.W.Frag) : List V → Hp → VK → Prop := fun xs H Q => ∃ x d, xs = [x] ∧ Dp K H x d ∧ d.hasDict = false ∧ d.showable = true ∧ d.shown.length ≤ sizeLine ∧ d.depth ≤ 64 ∧ Q (.str d.shown) H
theorem call_reprA {X : Cx} (gd : X.A.guards = some []) (hu : X.A.units + 66 < cLine) : CallR X (.builtin "repr") (rRepr X.K) := by
  intro pins s σ H xs us Q I r h
  obtain ⟨x, d, rfl, hd, hn, hs, hz, hp, q⟩ := h
  obtain ⟨u, rfl, ru⟩ := vals1 r
  obtain ⟨as, rd⟩ := Dp.reads I d x u hd ru
  have fin : EP X pins σ Q (.str d.shown s.toks) { s with toks := s.toks + 1 } := ⟨.str _, H, I.tok _, ⟨_, rfl⟩, q⟩
  cases hd with
  | non => cases ru; exact PySem.P.repr_of_none fin
  | bl b => cases ru; exact PySem.P.repr_of_bool fin
  | int i => obtain ⟨t, rfl⟩ := ru; exact PySem.P.repr_of_int (by simpa [PyData.showable] using hs) fin
  | str x => obtain ⟨t, rfl⟩ := ru; exact PySem.P.repr_of_str fin (by simpa [PyData.shown] using hz)
  | lst h1 h2 =>
    cases ru
    exact repr_of_reads' rd hs (PyData.noDict_hsm hn) gd (by omega) (fun _ _ e => e) (fun h' u tk hk => ⟨.str _, H, I.kept (t' := tk) hk, ⟨_, rfl⟩, q⟩) hz
  | tup h1 h2 =>
    cases ru
    exact repr_of_reads' rd hs (PyData.noDict_hsm hn) gd (by omega) (fun _ _ e => e) (fun h' u tk hk => ⟨.str _, H, I.kept (t' := tk) hk, ⟨_, rfl⟩, q⟩) hz
theorem reprD_ok {K : PySem.W.Frag} : CallB K (rRepr K) reprD := fun W H vs ds d s rv e Q q => by
  match ds, e with
  | [x], e =>
    have e : (if showOk x = true then some (D.str (shows x)) else none) = some d := e
    by_cases c : showOk x = true
    · rw [if_pos c] at e
      cases e
      cases rv with
      | cons r t =>
        cases t
        obtain ⟨c1, c2⟩ := Bool.and_eq_true_iff.mp c
        obtain ⟨c3, c4⟩ := Bool.and_eq_true_iff.mp c2
        obtain ⟨c5, c6⟩ := Bool.and_eq_true_iff.mp c1
        obtain ⟨p1, p2⟩ := rp_dp s r c5
        refine ⟨_, _, rfl, p1, noDict x c5, c3, of_decide_eq_true c4, by rw [dep_ok]; exact of_decide_eq_true c6, q _ fun F => .str _ (sOk_mk (strOk_iff.mpr (sg_shown _ p2)) (of_decide_eq_true c4))⟩
    · rw [if_neg c] at e
      cases e
/-! ### len -/
def lenD : List D → Option D
  | [.str x] => some (.int x.length)
  | [.lst l] => some (.int l.length)
  | [.tup l] => some (.int l.length)
  | [.dk ks _] => some (.int ks.length)
  | _ => none
abbrev rLen' (K : PySem.W.Frag) : List V → Hp → VK → Prop := fun xs H Q => (∃ x n, xs = [x] ∧ LenV K x H n ∧ Q (.int n) H) ∨ (∃ a, ∃ kvs : List (Key × V), xs = [V.ref a] ∧ Rd H a (.dK kvs) ∧ Q (.int kvs.length) H)
theorem call_lenR {X : Cx} : CallR X (.builtin "len") (fun xs H Q => ∃ a, ∃ kvs : List (Key × V), xs = [V.ref a] ∧ Rd H a (.dK kvs) ∧ Q (.int kvs.length) H) := by
  intro pins s σ H xs us Q I r h
  obtain ⟨a, kvs, rfl, ha, q⟩ := h
  obtain ⟨u, rfl, ru⟩ := vals1 r
  cases ru
  exact d_len I ha fun t s' I' => ⟨.int kvs.length, H, I', ⟨t, rfl⟩, q⟩
theorem call_lenA {X : Cx} : CallR X (.builtin "len") (rLen' X.K) := call_len.or call_lenR
theorem lenD_ok {K : PySem.W.Frag} : CallB K (rLen' K) lenD := fun W H vs ds d s rv e Q q => by
  unfold lenD at e
  split at e
  · cases e
    cases rv with
    | cons r t =>
      cases t
      obtain ⟨rfl, h⟩ := rp_str r
      exact .inl ⟨_, _, rfl, ⟨sOk_len h, rfl⟩, q _ fun F => .int _⟩
  · cases e
    cases rv with
    | cons r t =>
      cases t
      obtain ⟨a, xs, rfl, h1, h2, h3⟩ := rp_lst r
      rw [← h3.length] at q
      exact .inl ⟨_, _, rfl, .inl ⟨xs, sqL_mono s h1, rfl⟩, q _ fun F => .int _⟩
  · cases e
    cases rv with
    | cons r t =>
      cases t
      obtain ⟨a, xs, rfl, h1, h2, h3⟩ := rp_tup r
      rw [← h3.length] at q
      exact .inl ⟨_, _, rfl, .inr ⟨xs, sqT_mono s h1, rfl⟩, q _ fun F => .int _⟩
  · cases e
    cases rv with
    | cons r t =>
      cases t
      obtain ⟨a, kvs, rfl, h1, rfl, h3⟩ := rp_dk r
      rw [List.length_map] at q
      exact .inr ⟨a, kvs, rfl, Rd.mono s h1, q _ fun F => .int _⟩
  · cases e
/-! ### isinstance -/
inductive Ty where
  | int | str | tup | lst | bool | dict
def Ty.nm : Ty → String
  | .int => "int"
  | .str => "str"
  | .tup => "tuple"
  | .lst => "list"
  | .bool => "bool"
  | .dict => "dict"
def isiD : Ty → D → Option Bool
  | _, .hd _ => none
  | _, .tx _ => none
  | _, .dt _ _ => none
  | .int, .int _ => some true
  | .int, .bl _ => some true
  | .str, .str _ => some true
  | .tup, .tup _ => some true
  | .lst, .lst _ => some true
  | .bool, .bl _ => some true
  | .dict, .dk _ _ => some true
  | _, _ => some false
def tyNm : D → String
  | .non => "NoneType"
  | .bl _ => "bool"
  | .int _ => "int"
  | .str _ => "str"
  | .tup _ => "tuple"
  | .tx _ => "tuple"
  | .lst _ => "list"
  | _ => "dict"
theorem isiD_kit {T : Ty} {d : D} {b : Bool} (h : isiD T d = some b) : kitB (tyNm d) T.nm = some b := by
  cases T <;> cases d <;> simp only [isiD, Option.some.injEq, reduceCtorEq] at h <;> subst h <;> simp only [tyNm, Ty.nm] <;> decide +kernel
theorem rp_ty {K : PySem.W.Frag} {W : Fz} {H : Hp} {v : V} {d : D} (s : Same W.h H) (h : Rp K W v d) (hh : ∀ a, d ≠ .hd a) (ht : ∀ a b, d ≠ .dt a b) : TyX K H v (.type (tyNm d)) := by
  cases h with
  | non => exact .base .non
  | bl b => exact .base (.bl b)
  | int i => exact .base (.int i)
  | str x => exact .base (.str x)
  | tup h1 =>
    rcases sqT_mono s h1 with (h1 | ⟨o, h1⟩) | ⟨o, its, n, h1, h2, _⟩
    · exact .base (.tup h1)
    · exact .fTuple h1
    · exact .kTuple h1 h2
  | lst h1 =>
    rcases sqL_mono s h1 with (h1 | ⟨o, h1⟩) | ⟨o, its, n, h1, h2, _⟩
    · exact .base (.lst h1)
    · exact .base (.frz h1)
    · exact .kList h1 h2
  | dk h1 =>
    rcases Rd.mono s h1 with h1 | ⟨o, h1⟩
    · exact .base (.dK h1)
    · exact .fDict h1
  | dm h1 => exact absurd rfl (ht _ _)
  | hd a => exact absurd rfl (hh _)
  | tx h1 => exact .fTuple (s _ _ h1)
def eIsi (T : Ty) (f : E) : E := fun ρ => mb (f ρ) fun d => ml ((isiD T d).map D.bl)
section
variable {X : Cx} {e : Expr} {f : E} {pos p q : Pos}
theorem pd_isi (T : Ty) {x : Str} (hx : x = Str.ofString T.nm := by rfl) (hm : X.mg "isinstance" = none) (hm2 : X.mg x = none) (h : PB X e f) (hv : bootBuiltins x = some (.type T.nm) := by decide +kernel) (hg : Gl X "isinstance" := by rfl) (hg2 : Gl X x := by rfl) (hn : x ≠ "__name__" := by decide)
    (hdb : (x == ("__debug__" : Str)) = false := by decide) (he : starEach [e, .Name x q] X.env = (false, eval e X.env) :: starEach [.Name x q] X.env := by rfl) (he2 : starEach [.Name x q] X.env = (false, eval (.Name x q) X.env) :: starEach [] X.env := by rfl)
    (hpl : (backTo pos (starEach [.Name x q] X.env)).any (·.1) = false := by rfl) : PD X (.Call (.Name "isinstance" p) [e, .Name x q] [] pos) (eIsi T f) := by
  obtain ⟨t, ht, k⟩ := h
  refine ⟨_, pe_callB call_isi hg hm (by decide +kernel) (pa_cons ht (pa_cons (pe_bltn (v := .ty T.nm) hg2 hm2 hv rfl hn hdb) pa_nil he2) he) (by decide) (by decide) he hpl, fun σ H F ρ g pre d g' e Q q => ?_⟩
  obtain ⟨dx, g1, e1, e⟩ := mb_inv e
  obtain ⟨e2, rfl⟩ := ml_inv e
  obtain ⟨b, e3, rfl⟩ := Option.map_eq_some_iff.mp e2
  refine k σ H F ρ g pre dx _ e1 _ fun v H1 F1 s1 r1 => ?_
  exact ⟨v, .ty T.nm, _, _, b, rfl, .ty _, rp_ty (off_sub _ _) r1 (fun a z => by subst z; cases T <;> cases e3) (fun a b z => by subst z; cases T <;> cases e3), kit_ty (isiD_kit e3), q _ H1 F1 s1 (.bl b)⟩
end
/-! ### all, any -/
def bools : List D → Option (List Bool)
  | [] => some []
  | .bl b :: l => (bools l).map (b :: ·)
  | _ :: _ => none
theorem bools_ok : ∀ {l : List D} {bs : List Bool}, bools l = some bs → l = bs.map D.bl
  | [], _, h => by cases h; rfl
  | d :: l, bs, h => by
    cases d <;> try (cases h; done)
    obtain ⟨ms, h1, rfl⟩ := Option.map_eq_some_iff.mp h
    rw [bools_ok h1]; rfl
theorem bools_map : ∀ bs : List Bool, bools (bs.map D.bl) = some bs
  | [] => rfl
  | b :: bs => by simp [bools, bools_map bs]
def allD : List D → Option D
  | [.lst l] => (bools l).map fun bs => .bl (bs.all id)
  | _ => none
def anyD : List D → Option D
  | [.lst l] => (bools l).map fun bs => .bl (bs.any id)
  | _ => none
theorem lst1 {K : PySem.W.Frag} {W : Fz} {H : Hp} {vs : List V} {l : List D} (s : Same W.h H) (rv : RpA K W vs [.lst l]) : ∃ a xs, vs = [.ref a] ∧ SqL K H a xs ∧ SqL K W a xs ∧ xs.length ≤ sizeLine ∧ RpA K W xs l := by
  cases rv with
  | cons r t =>
    cases t
    obtain ⟨a, xs, rfl, h1, h2, h3⟩ := rp_lst r
    exact ⟨a, xs, rfl, sqL_mono s h1, h1, h2, h3⟩
theorem allD_ok {K : PySem.W.Frag} : CallB K (rAll K) allD := fun W H vs ds d s rv e Q q => by
  unfold allD at e
  split at e
  · obtain ⟨bs, e1, rfl⟩ := Option.map_eq_some_iff.mp e
    obtain ⟨a, xs, rfl, h1, _, _, h3⟩ := lst1 s rv
    rw [bools_ok e1] at h3
    rw [h3.bls] at h1
    exact ⟨a, bs, rfl, h1, q _ fun F => .bl _⟩
  · cases e
theorem anyD_ok {K : PySem.W.Frag} : CallB K (rAny K) anyD := fun W H vs ds d s rv e Q q => by
  unfold anyD at e
  split at e
  · obtain ⟨bs, e1, rfl⟩ := Option.map_eq_some_iff.mp e
    obtain ⟨a, xs, rfl, h1, _, _, h3⟩ := lst1 s rv
    rw [bools_ok e1] at h3
    rw [h3.bls] at h1
    exact ⟨a, bs, rfl, h1, q _ fun F => .bl _⟩
  · cases e
/-! ### tuple(..), list(..) -/
def tupleD : List D → Option D
  | [.lst l] => some (.tup l)
  | [.tup l] => some (.tup l)
  | _ => none
def listD : List D → Option D
  | [.lst l] => some (.lst l)
  | [.tup l] => some (.lst l)
  | _ => none
abbrev rTuple (K : PySem.W.Frag) : List V → Hp → VK → Prop := fun xs H Q => ∃ p ys, xs = [.ref p] ∧ ((SqL K H p ys ∧ ∀ l, H l = none → Q (.ref l) (upd H l (.tup ys))) ∨ (SqT K H p ys ∧ Q (.ref p) H))
abbrev rList (K : PySem.W.Frag) : List V → Hp → VK → Prop := fun xs H Q => ∃ p ys, xs = [.ref p] ∧ (SqL K H p ys ∨ SqT K H p ys) ∧ ∀ l, H l = none → Q (.ref l) (upd H l (.lst ys))
theorem tupleD_ok {K : PySem.W.Frag} : CallD K (rTuple K) tupleD := fun F H g vs ds d s gr rv e Q q => by
  unfold tupleD at e
  split at e
  · cases e
    obtain ⟨a, xs, rfl, h1, _, h2, h3⟩ := lst1 s rv
    exact ⟨a, xs, rfl, .inl ⟨h1, fun p hp => q _ _ _ (.alloc s gr hp) (rp_new_tup (s.free hp) (by rw [← h3.length]; exact h2) h3)⟩⟩
  · cases e
    cases rv with
    | cons r t =>
      cases t
      obtain ⟨a, xs, rfl, h1, h2, h3⟩ := rp_tup r
      exact ⟨a, xs, rfl, .inr ⟨sqT_mono s h1, q _ _ _ (.refl s gr) r⟩⟩
  · cases e
theorem listD_ok {K : PySem.W.Frag} : CallD K (rList K) listD := fun F H g vs ds d s gr rv e Q q => by
  unfold listD at e
  split at e
  · cases e
    obtain ⟨a, xs, rfl, h1, _, h2, h3⟩ := lst1 s rv
    exact ⟨a, xs, rfl, .inl h1, fun p hp => q _ _ _ (.alloc s gr hp) (rp_new_lst (s.free hp) (by rw [← h3.length]; exact h2) h3)⟩
  · cases e
    cases rv with
    | cons r t =>
      cases t
      obtain ⟨a, xs, rfl, h1, h2, h3⟩ := rp_tup r
      exact ⟨a, xs, rfl, .inr (sqT_mono s h1), fun p hp => q _ _ _ (.alloc s gr hp) (rp_new_lst (s.free hp) (by rw [← h3.length]; exact h2) h3)⟩
  · cases e
/-! ### min, max of two -/
def min2D : List D → Option D
  | [.int i, .int j] => some (.int (if j < i then j else i))
  | _ => none
abbrev rMin2 : List V → Hp → VK → Prop := fun xs H Q => ∃ i j, xs = [.int i, .int j] ∧ Q (.int (if j < i then j else i)) H
theorem rp_ints2 {K : PySem.W.Frag} {W : Fz} {vs : List V} {i j : Int} (rv : RpA K W vs [.int i, .int j]) : vs = [.int i, .int j] := RpA.ints (ns := [i, j]) rv
theorem min2D_ok {K : PySem.W.Frag} : CallB K rMin2 min2D := fun W H vs ds d s rv e Q q => by
  unfold min2D at e
  split at e
  · cases e
    exact ⟨_, _, rp_ints2 rv, q _ fun F => .int _⟩
  · cases e
section
variable {X : Cx} {e : Expr} {es : List Expr} {f : E} {fs : EA} {pos p : Pos} {k : Nat}
theorem hu66 (hr : Room k X.A) : X.A.units + 66 < cLine := by have := hr.un; omega
theorem pd_len (hm : X.mg "len" = none) (ha : PBA X [e] fs) (hg : Gl X "len" := by rfl) (he : starEach [e] X.env = (false, eval e X.env) :: starEach [] X.env := by rfl) : PD X (.Call (.Name "len" p) [e] [] pos) (eBi lenD fs) :=
  pd_biB call_lenA lenD_ok hm ha (by decide +kernel) hg (by decide) (by decide) he (by rfl)
theorem pd_repr (hr : Room k X.A) (gd : X.A.guards = some []) (hm : X.mg "repr" = none) (ha : PBA X [e] fs) (hg : Gl X "repr" := by rfl) (he : starEach [e] X.env = (false, eval e X.env) :: starEach [] X.env := by rfl) : PD X (.Call (.Name "repr" p) [e] [] pos) (eBi reprD fs) :=
  pd_biB (call_reprA gd (hu66 hr)) reprD_ok hm ha (by decide +kernel) hg (by decide) (by decide) he (by rfl)
theorem pd_all (hc : X.calm = true) (hm : X.mg "all" = none) (ha : PBA X [e] fs) (hg : Gl X "all" := by rfl) (he : starEach [e] X.env = (false, eval e X.env) :: starEach [] X.env := by rfl) : PD X (.Call (.Name "all" p) [e] [] pos) (eBi allD fs) :=
  pd_biB (cr_all hc) allD_ok hm ha (by decide +kernel) hg (by decide) (by decide) he (by rfl)
theorem pd_any (hc : X.calm = true) (hm : X.mg "any" = none) (ha : PBA X [e] fs) (hg : Gl X "any" := by rfl) (he : starEach [e] X.env = (false, eval e X.env) :: starEach [] X.env := by rfl) : PD X (.Call (.Name "any" p) [e] [] pos) (eBi anyD fs) :=
  pd_biB (cr_any hc) anyD_ok hm ha (by decide +kernel) hg (by decide) (by decide) he (by rfl)
theorem pd_tuple (hm : X.mg "tuple" = none) (ha : PDA X [e] fs) (hg : Gl X "tuple" := by rfl) (he : starEach [e] X.env = (false, eval e X.env) :: starEach [] X.env := by rfl) : PD X (.Call (.Name "tuple" p) [e] [] pos) (eBi tupleD fs) :=
  pd_biTD call_tuple_of tupleD_ok hm ha (by decide +kernel) hg (by decide) (by decide) he (by rfl)
theorem pd_list (hm : X.mg "list" = none) (ha : PDA X [e] fs) (hg : Gl X "list" := by rfl) (he : starEach [e] X.env = (false, eval e X.env) :: starEach [] X.env := by rfl) : PD X (.Call (.Name "list" p) [e] [] pos) (eBi listD fs) :=
  pd_biTD call_list_of listD_ok hm ha (by decide +kernel) hg (by decide) (by decide) he (by rfl)
variable {e2 : Expr}
theorem pd_min2 (hc : X.calm = true) (hm : X.mg "min" = none) (ha : PBA X [e, e2] fs) (hg : Gl X "min" := by rfl) (he : starEach [e, e2] X.env = (false, eval e X.env) :: starEach [e2] X.env := by rfl) (hpl : (backTo pos (starEach [e2] X.env)).any (·.1) = false := by rfl) :
    PD X (.Call (.Name "min" p) [e, e2] [] pos) (eBi min2D fs) := pd_biB (call_min2 hc) min2D_ok hm ha (by decide +kernel) hg (by decide) (by decide) he hpl
end
end PD
end
section
set_option Elab.async false
set_option linter.all false
set_option maxRecDepth 100000
set_option maxHeartbeats 4000000
set_option autoImplicit false
namespace PD
open PySem PySem.Spec L2
open PyProof.Rows hiding St
variable [Live]

/-! ### canonical readings -/
def tD (K : PySem.W.Frag) (f : E) : TE := fun σ H Q => ∃ F ρ g d g', PreE K F H g ρ σ ∧ f ρ g = some (d, g') ∧ ∀ v H' F', Stp K g g' F F' H H' → Rp K F' v d → Q v H'
def tTT (K : PySem.W.Frag) (f : T) : TT := fun σ H Q => ∃ F ρ g b g', PreE K F H g ρ σ ∧ f ρ g = some (b, g') ∧ ∀ H' F', Stp K g g' F F' H H' → Q b H'
section
variable {X : Cx} {e : Expr}
theorem PD.can {f : E} (h : PD X e f) : PE X e (tD X.K f) := by
  obtain ⟨t, ht, k⟩ := h
  exact ⟨fun pins s σ H Q I ⟨F, ρ, g, d, g', pre, e, q⟩ => ht.run pins s σ H Q I (k σ H F ρ g pre d g' e Q q)⟩
theorem PDT.can {f : T} (h : PDT X e f) : PT X e (tTT X.K f) := by
  obtain ⟨t, ht, k⟩ := h
  exact ⟨fun pins s σ H Q I ⟨F, ρ, g, d, g', pre, e, q⟩ => ht.run pins s σ H Q I (k σ H F ρ g pre d g' e Q q)⟩
end
/-! ### slots that are set -/
def setR (ρ : Rho) (i : Nat) (d : D) : Rho := ρ.set i (some (.d d))
section
variable {K : PySem.W.Frag} {F : Fz} {H : Hp} {g : G} {ρ : Rho} {σ : St}
theorem Owned.set {i j : Nat} {d : D} {v : V} {p : Addr} (h : Owned (setR ρ i d) (σ.set i (some v)) j p) : Owned ρ σ j p := by
  obtain ⟨lv, h1, h2, h3⟩ := h
  by_cases e : i = j
  · subst e
    unfold setR at h1
    by_cases hl : i < ρ.length
    · rw [List.getElem?_set_self hl] at h1
      cases h1
      cases h2
    · rw [List.getElem?_eq_none (by simpa using hl)] at h1
      cases h1
  · unfold setR at h1
    rw [List.getElem?_set_ne e] at h1
    rw [List.getElem?_set_ne e] at h3
    exact ⟨lv, h1, h2, h3⟩
theorem Owned.setF {i j : Nat} {v : V} {p : Addr} (h : Owned (ρ.set i (some .fn)) (σ.set i (some v)) j p) : Owned ρ σ j p := by
  obtain ⟨lv, h1, h2, h3⟩ := h
  by_cases e : i = j
  · subst e
    by_cases hl : i < ρ.length
    · rw [List.getElem?_set_self hl] at h1
      cases h1
      cases h2
    · rw [List.getElem?_eq_none (by simpa using hl)] at h1
      cases h1
  · rw [List.getElem?_set_ne e] at h1
    rw [List.getElem?_set_ne e] at h3
    exact ⟨lv, h1, h2, h3⟩
theorem PreE.setF {i : Nat} {v : V} (pre : PreE K F H g ρ σ) (r : SlotOk K F H g v .fn) : PreE K F H g (ρ.set i (some .fn)) (σ.set i (some v)) := by
  refine ⟨pre.sub, pre.rep, by simp [pre.sl.len], fun j lv h => ?_, fun j k p h1 h2 => pre.sl.sep j k p h1.setF h2.setF⟩
  by_cases e : i = j
  · subst e
    by_cases hl : i < ρ.length
    · rw [List.getElem?_set_self hl] at h
      cases h
      exact ⟨v, List.getElem?_set_self (by rw [← pre.sl.len]; exact hl), r⟩
    · rw [List.getElem?_eq_none (by simpa using hl)] at h
      cases h
  · rw [List.getElem?_set_ne e] at h
    rw [List.getElem?_set_ne e]
    exact pre.sl.at_ j lv h
theorem PreE.set {i : Nat} {d : D} {v : V} (pre : PreE K F H g ρ σ) (r : Rp K F v d) : PreE K F H g (setR ρ i d) (σ.set i (some v)) := by
  refine ⟨pre.sub, pre.rep, by simp [setR, pre.sl.len], fun j lv h => ?_, fun j k p h1 h2 => pre.sl.sep j k p h1.set h2.set⟩
  unfold setR at h
  by_cases e : i = j
  · subst e
    by_cases hl : i < ρ.length
    · rw [List.getElem?_set_self hl] at h
      cases h
      exact ⟨v, List.getElem?_set_self (by rw [← pre.sl.len]; exact hl), r⟩
    · rw [List.getElem?_eq_none (by simpa using hl)] at h
      cases h
  · rw [List.getElem?_set_ne e] at h
    rw [List.getElem?_set_ne e]
    exact pre.sl.at_ j lv h
end
def wipeR (ρ : Rho) : List Nat → Rho
  | [] => ρ
  | v :: vs => (wipeR ρ vs).set v none
theorem wipeR_length (ρ : Rho) : ∀ vs : List Nat, (wipeR ρ vs).length = ρ.length
  | [] => rfl
  | v :: vs => by unfold wipeR; rw [List.length_set, wipeR_length ρ vs]
theorem wipeR_some {ρ : Rho} {i : Nat} {x : LV} : ∀ {vs : List Nat}, (wipeR ρ vs)[i]? = some (some x) → ρ[i]? = some (some x) ∧ i ∉ vs
  | [], h => ⟨h, by simp⟩
  | v :: vs, h => by
    unfold wipeR at h
    by_cases hi : v = i
    · subst hi
      by_cases hv : v < (wipeR ρ vs).length
      · rw [List.getElem?_set_self hv] at h; cases h
      · rw [List.getElem?_eq_none (by simpa using hv)] at h; cases h
    · rw [List.getElem?_set_ne hi] at h
      obtain ⟨h1, h2⟩ := wipeR_some h
      exact ⟨h1, by simp only [List.mem_cons, not_or]; exact ⟨fun e => hi e.symm, h2⟩⟩
theorem wipe_other {σ : St} {i : Nat} : ∀ {vs : List Nat}, i ∉ vs → (wipe σ vs)[i]? = σ[i]?
  | [], _ => rfl
  | v :: vs, h => by
    unfold wipe
    rw [List.getElem?_set_ne (fun e => h (by simp [e])), wipe_other fun q => h (List.mem_cons_of_mem _ q)]
theorem wipe_mem {σ : St} {j : Nat} : ∀ {vs : List Nat}, j ∈ vs → (wipe σ vs)[j]? = if j < σ.length then some none else none
  | a :: r, hm => by
    unfold wipe
    by_cases ha : a = j
    · subst ha
      rw [List.getElem?_set]
      simp [wipe_length]
    · rw [List.getElem?_set_ne ha]
      exact wipe_mem ((List.mem_cons.mp hm).resolve_left fun z => ha z.symm)
theorem wipe_twice (σ : St) (vs : List Nat) : wipe (wipe σ vs) vs = wipe σ vs := by
  apply List.ext_getElem?
  intro j
  by_cases hj : j ∈ vs
  · rw [wipe_mem hj, wipe_mem hj, wipe_length]
  · rw [wipe_other hj]
theorem wipe_set {σ : St} {i : Nat} {v : Option V} : ∀ {vs : List Nat}, i ∈ vs → wipe (σ.set i v) vs = wipe σ vs
  | w :: vs, h => by
    unfold wipe
    by_cases e : i ∈ vs
    · rw [wipe_set e]
    · have e2 : i = w := (List.mem_cons.mp h).resolve_right e
      subst e2
      apply List.ext_getElem?
      intro j
      by_cases hj : i = j
      · subst hj
        rw [List.getElem?_set, List.getElem?_set]
        simp [wipe_length]
      · rw [List.getElem?_set_ne hj, List.getElem?_set_ne hj]
        by_cases hm : j ∈ vs
        · have q : ∀ (τ : St), τ.length = σ.length → (wipe τ vs)[j]? = if j < σ.length then some none else none := fun τ hτ => by
            clear h e
            induction vs with
            | nil => cases hm
            | cons a r ih =>
              unfold wipe
              by_cases ha : a = j
              · subst ha
                rw [List.getElem?_set]
                simp [wipe_length, hτ]
              · rw [List.getElem?_set_ne ha]
                exact ih ((List.mem_cons.mp hm).resolve_left fun z => ha z.symm)
          rw [q _ (by simp), q _ rfl]
        · rw [wipe_other hm, wipe_other hm, List.getElem?_set_ne hj]
theorem PreE.wipe {K : PySem.W.Frag} {F : Fz} {H : Hp} {g : G} {ρ : Rho} {σ : St} (pre : PreE K F H g ρ σ) (vs : List Nat) : PreE K F H g (wipeR ρ vs) (wipe σ vs) := by
  refine ⟨pre.sub, pre.rep, by rw [wipeR_length, wipe_length, pre.sl.len], fun j lv h => ?_, fun j k p h1 h2 => ?_⟩
  · obtain ⟨h1, h2⟩ := wipeR_some h
    rw [wipe_other h2]
    exact pre.sl.at_ j lv h1
  · have key : ∀ j, Owned (wipeR ρ vs) (L2.wipe σ vs) j p → Owned ρ σ j p := fun j ⟨lv, q1, q2, q3⟩ => ⟨lv, (wipeR_some q1).1, q2, (wipe_some q3).1⟩
    exact pre.sl.sep j k p (key j h1) (key k h2)
/-! ### targets -/
abbrev B := D → Rho → Option Rho
/-- sl: the slots that are set -/
def PDG (X : Cx) (tg : Expr) (sl : List Nat) (bd : B) : Prop := ∃ t, PG X tg t ∧ ∀ σ H F ρ g v d ρ', PreE X.K F H g ρ σ → Rp X.K F v d → bd d ρ = some ρ' → ∀ Q : St → Hp → Prop,
  (∀ σ', PreE X.K F H g ρ' σ' → (∀ i p, Owned ρ' σ' i p → Owned ρ σ i p) → (∀ vs, (∀ i ∈ sl, i ∈ vs) → wipe σ' vs = wipe σ vs) → Q σ' H) → t v σ H Q
def bName (i : Nat) : B := fun d ρ => some (setR ρ i d)
abbrev Bs := List D → Rho → Option Rho
def bsNil : Bs := fun ds ρ => match ds with
  | [] => some ρ
  | _ => none
def bsCons (b : B) (r : Bs) : Bs := fun ds ρ => match ds with
  | d :: ds => (b d ρ).bind fun ρ' => r ds ρ'
  | [] => none
def bTup (b : Bs) : B := fun d ρ => match d with
  | .tup ds => b ds ρ
  | _ => none
def PDGs (X : Cx) (ts : List Expr) (sl : List Nat) (bd : Bs) : Prop := ∃ t, PGs X ts t ∧ (∀ ds ρ ρ', bd ds ρ = some ρ' → ds.length = ts.length) ∧ ∀ σ H F ρ g vs ds ρ', PreE X.K F H g ρ σ → RpA X.K F vs ds → bd ds ρ = some ρ' → ∀ Q : St → Hp → Prop,
  (∀ σ', PreE X.K F H g ρ' σ' → (∀ i p, Owned ρ' σ' i p → Owned ρ σ i p) → (∀ vs, (∀ i ∈ sl, i ∈ vs) → wipe σ' vs = wipe σ vs) → Q σ' H) → t vs σ H Q
section
variable {X : Cx} {pos : Pos}
theorem pdg_name (i : Nat) {x : Str} (hN : X.N.Nodup) (hi : X.N[i]? = some x := by rfl) (hx : Loc X.env.scope x := by first | exact Or.inl rfl | exact Or.inr rfl)
    (hf : X.fn x = true ∨ X.env.scope.names.lookup x = some .local := by first | exact .inl rfl | exact .inr rfl | assumption) : PDG X (.Name x pos) [i] (bName i) := by
  refine ⟨_, pg_name hN hi hx hf, fun σ H F ρ g v d ρ' pre r e Q q => ?_⟩
  cases e
  exact q _ (pre.set r) (fun j p h => h.set) fun vs h => wipe_set (h i (by simp))
theorem pdgs_nil : PDGs X [] [] bsNil := by
  refine ⟨_, pgs_nil, fun ds ρ ρ' e => ?_, fun σ H F ρ g vs ds ρ' pre r e Q q => ?_⟩
  · cases ds with
    | nil => rfl
    | cons d ds => cases e
  · cases ds with
    | nil =>
      cases e
      cases r
      exact ⟨rfl, q σ pre (fun _ _ h => h) fun _ _ => rfl⟩
    | cons d ds => cases e
theorem pdgs_cons {e : Expr} {es : List Expr} {s1 s2 : List Nat} {b : B} {r : Bs} (h1 : PDG X e s1 b) (h2 : PDGs X es s2 r) (hs : (assignEach (e :: es) X.env).map (·.2) = assign e X.env :: (assignEach es X.env).map (·.2) := by rfl) :
    PDGs X (e :: es) (s1 ++ s2) (bsCons b r) := by
  obtain ⟨t1, p1, k1⟩ := h1
  obtain ⟨t2, p2, l2, k2⟩ := h2
  refine ⟨_, pgs_cons p1 p2 hs, fun ds ρ ρ' e => ?_, fun σ H F ρ g vs ds ρ' pre rv e Q q => ?_⟩
  · cases ds with
    | nil => cases e
    | cons d ds =>
      obtain ⟨ρ1, e1, e2⟩ := Option.bind_eq_some_iff.mp e
      rw [List.length_cons, List.length_cons, l2 ds ρ1 ρ' e2]
  · cases ds with
    | nil => cases e
    | cons d ds =>
      obtain ⟨ρ1, e1, e2⟩ := Option.bind_eq_some_iff.mp e
      cases rv with
      | cons r0 rr =>
        refine ⟨_, _, rfl, ?_⟩
        refine k1 σ H F ρ g _ d ρ1 pre r0 e1 _ fun σ1 pre1 o1 w1 => ?_
        refine k2 σ1 H F ρ1 g _ ds ρ' pre1 rr e2 Q fun σ2 pre2 o2 w2 => ?_
        exact q σ2 pre2 (fun i p h => o1 i p (o2 i p h)) fun vs h => (w2 vs fun i hi => h i (List.mem_append_right _ hi)).trans (w1 vs fun i hi => h i (List.mem_append_left _ hi))
theorem pdg_tup {es : List Expr} {k : Nat} {sl : List Nat} {bd : Bs} (hc : X.calm = true) (h : PDGs X es sl bd) (hn : (assignEach es X.env).length = es.length := by rfl) (hst : (assignEach es X.env).findIdx? (·.1) = none := by rfl) :
    PDG X (.Tuple es k pos) sl (bTup bd) := by
  obtain ⟨t, p, l, k⟩ := h
  refine ⟨_, pg_tup (n := es.length) hc p hn hst, fun σ H F ρ g v d ρ' pre r e Q q => ?_⟩
  cases d with
  | tup ds =>
    obtain ⟨a, xs, rfl, h1, h2, h3⟩ := rp_tup r
    exact ⟨a, xs, rfl, sqT_mono pre.sub h1, by rw [h3.length, l ds ρ ρ' e], k σ H F ρ g xs ds ρ' pre h3 e Q q⟩
  | _ => cases e
end
/-! ### what is walked -/
/-- a turn's item: it stands there, or is a new tuple -/
def Yl2 (K : PySem.W.Frag) (F : Fz) (H : Hp) (x : V) (H' : Hp) (d : D) : Prop := ∃ p q x0 zs d0 es, H p = none ∧ H q = none ∧ q ≠ p ∧ x = V.ref p ∧ H' = upd (upd H q (.tup zs)) p (.tup [x0, V.ref q]) ∧ d = D.tup [d0, .tup es] ∧ zs.length ≤ sizeLine ∧ RpA K F zs es ∧ Rp K F x0 d0
def Yl (K : PySem.W.Frag) (F : Fz) (H : Hp) (x : V) (H' : Hp) (d : D) : Prop := (H' = H ∧ Rp K F x d) ∨ (∃ p xs ds, H p = none ∧ x = .ref p ∧ H' = upd H p (.tup xs) ∧ d = .tup ds ∧ xs.length ≤ sizeLine ∧ RpA K F xs ds) ∨ Yl2 K F H x H' d
/-- W: what must stand for the walk; F: where the items stand -/
def ItS (K : PySem.W.Frag) (J : It) (W : Hp) (F : Fz) (ds : List D) : Prop := ∀ H, Same W H → (∀ (i : Nat) (d : D), ds[i]? = some d → J.go i H ∧ ∀ x H', J.yld i H x H' → Yl K F H x H' d) ∧ ∀ i, ds.length ≤ i → J.stop i H
def PDI (X : Cx) (tg e : Expr) (f : EA) : Prop := ∃ wi, PI X tg e wi ∧ ∀ σ H F ρ g, PreE X.K F H g ρ σ → ∀ ds g', f ρ g = some (ds, g') → ∀ R : It → Hp → Prop,
  (∀ J H' F', Stp X.K g g' F F' H H' → ItS X.K J F'.h F' ds → R J H') → wi σ H R
def PBI (X : Cx) (tg e : Expr) (f : EA) : Prop := ∃ wi, PI X tg e wi ∧ ∀ σ H F ρ g, PreE X.K F H g ρ σ → ∀ ds g', f ρ g = some (ds, g') → ∀ R : It → Hp → Prop,
  (∀ J H' F', Stp X.K g g' F F' H H' → ItS X.K J (off F' H').h F' ds → R J H') → wi σ H R
theorem ItS.weak {K : PySem.W.Frag} {J : It} {W W' : Hp} {F : Fz} {ds : List D} (h : ItS K J W F ds) (s : Same W W') : ItS K J W' F ds := fun H q => h H (s.trans q)
theorem ItS.mono {K : PySem.W.Frag} {J : It} {W : Hp} {F F' : Fz} {ds : List D} (h : ItS K J W F ds) (s : Ext F F') : ItS K J W F' ds := fun H q => by
  refine ⟨fun i d e => ⟨((h H q).1 i d e).1, fun x H' y => ?_⟩, (h H q).2⟩
  rcases ((h H q).1 i d e).2 x H' y with ⟨h1, h2⟩ | ⟨p, xs, es, h1, h2, h3, h4, h5, h6⟩ | ⟨p, q, x0, zs, d0, es, h1, h2, h3, h4, h5, h6, h7, h8, h9⟩
  · exact .inl ⟨h1, h2.mono s⟩
  · exact .inr (.inl ⟨p, xs, es, h1, h2, h3, h4, h5, h6.mono s⟩)
  · exact .inr (.inr ⟨p, q, x0, zs, d0, es, h1, h2, h3, h4, h5, h6, h7, h8.mono s, h9.mono s⟩)
theorem PDI.weak {X : Cx} {tg e : Expr} {f : EA} (h : PDI X tg e f) : PBI X tg e f := by
  obtain ⟨wi, hw, k⟩ := h
  exact ⟨wi, hw, fun σ H F ρ g pre ds g' e R q => k σ H F ρ g pre ds g' e R fun J H' F' s i => q J H' F' s (i.weak s.offF.h)⟩
/-- the item comes: the heap and what is frozen in it -/
theorem Yl.step {K : PySem.W.Frag} {F : Fz} {H : Hp} {g : G} {x : V} {H' : Hp} {d : D} (y : Yl K F H x H' d) (s : Same F.h H) (r : GRep K g F H) : ∃ F', Stp K g g F F' H H' ∧ Rp K F' x d := by
  rcases y with ⟨rfl, h⟩ | ⟨p, xs, ds, hp, rfl, rfl, rfl, hz, h⟩ | ⟨p, q, x0, zs, d0, es, hp, hq, hqp, rfl, rfl, rfl, hz, h, h0⟩
  · exact ⟨F, Stp.refl s r, h⟩
  · exact ⟨_, .alloc s r hp, rp_new_tup (s.free hp) (by rw [← h.length]; exact hz) h⟩
  · have s1 := Stp.alloc (o := .tup zs) s r hq
    have r1 := rp_new_tup (s.free hq) (by rw [← h.length]; exact hz) h
    have hp1 : (upd H q (.tup zs)) p = none := by rw [upd_ne hqp.symm]; exact hp
    exact ⟨_, s1.trans (.alloc s1.sub s1.rep hp1), rp_new_tup (s1.sub.free hp1) (by show 2 ≤ sizeLine; decide) (.cons (h0.mono s1.ext) (.cons r1 .nil))⟩
/-! ### a comprehension -/
def lcL (bd : B) (t : T) (e : E) (ρ : Rho) : List D → M (List D)
  | [] => mr []
  | d :: ds => match bd d ρ with
    | none => mz
    | some ρ' => mb (t ρ') fun b => if b = true then mb (e ρ') fun x => mb (lcL bd t e ρ ds) fun xs => mr (x :: xs) else lcL bd t e ρ ds
def tYesD : T := fun _ => mr true
/-- vs: the comprehension's own slots -/
def eLcA (vs : List Nat) (it : EA) (bd : B) (t : T) (e : E) : EA := fun ρ => mb (it ρ) fun ds => mb (lcL bd t e (wipeR ρ vs) ds) fun xs => if xs.length ≤ sizeLine then mr xs else mz
def gB (K : PySem.W.Frag) (sl : List Nat) (bd : B) : TG := fun v σ H Q => ∃ F ρ g d ρ', PreE K F H g ρ σ ∧ Rp K F v d ∧ bd d ρ = some ρ' ∧ ∀ σ', PreE K F H g ρ' σ' → (∀ i p, Owned ρ' σ' i p → Owned ρ σ i p) → (∀ vs, (∀ i ∈ sl, i ∈ vs) → wipe σ' vs = wipe σ vs) → Q σ' H
theorem PDG.can {X : Cx} {tg : Expr} {sl : List Nat} {bd : B} (h : PDG X tg sl bd) : PG X tg (gB X.K sl bd) := by
  obtain ⟨t, ht, k⟩ := h
  exact ⟨fun pins s σ H v u Q I r ⟨F, ρ, g, d, ρ', pre, rv, e, q⟩ => ht.run pins s σ H v u Q I r (k σ H F ρ g v d ρ' pre rv e Q q)⟩
/-- a clause's tests by data -/
def PDTs (X : Cx) (ifs : List Expr) (f : T) : Prop := PTs X ifs (tTT X.K f)
section
variable {X : Cx}
theorem pdts_nil : PDTs X [] tYesD := ⟨fun pins s σ H Q I ⟨F, ρ, g, b, g', pre, e, q⟩ => by
  obtain ⟨rfl, rfl⟩ := mr_inv e
  exact pts_nil.run pins s σ H Q I (q H F pre.refl)⟩
theorem pdts_one {c : Expr} {f : T} (h : PDT X c f) : PDTs X [c] f := pts_one h.can
end
/-- what is asked of the value of a new list -/
def NewL (K : PySem.W.Frag) (F : Fz) (H : Hp) (g g' : G) (ds : List D) (Q : VK) : Prop := ∀ p H' F' vs, Stp K g g' F F' H H' → H p = none → F' p = none → p ∉ F'.mu → H' p = some (.lst vs) → vs.length ≤ sizeLine → RpA K F' vs ds → Q (.ref p) H'
/-- a fresh thing of one's own is changed -/
theorem Stp.mut {K : PySem.W.Frag} {g g' : G} {F F' : Fz} {H H' : Hp} {p : Addr} {o : HO} (s : Stp K g g' F F' H H') (hp : H p = none) (hF : F' p = none) (hm : p ∉ F'.mu) : Stp K g g' F F' H (upd H' p o) := by
  have ne : ∀ a ∈ F'.mu, a ≠ p := fun a ha z => hm (by rw [← z]; exact ha)
  refine ⟨fun a u h1 h2 => ?_, fun a h => ?_, s.ext, s.new, s.newM, fun a u h => ?_, ?_⟩
  · rw [upd_ne (ne_of_none h2 hp)]; exact s.same a u h1 h2
  · by_cases e : a = p
    · subst e; exact hp
    · rw [upd_ne e] at h; exact s.mono a h
  · rw [upd_ne (ne_of_none h hF)]; exact s.sub a u h
  · exact s.rep.mono (Same.refl _) (fun a ha => (s.rep.mem ha).1) fun a ha => upd_ne (ne a ha)
theorem PreE.mut {K : PySem.W.Frag} {F : Fz} {H : Hp} {g : G} {ρ : Rho} {σ : St} {p : Addr} {o : HO} (pre : PreE K F H g ρ σ) (hF : F p = none) (hm : p ∉ F.mu) (ho : ∀ i, ¬ Owned ρ σ i p) : PreE K F (upd H p o) g ρ σ := by
  have ne : ∀ a ∈ F.mu, a ≠ p := fun a ha z => hm (by rw [← z]; exact ha)
  refine ⟨fun a u h => ?_, pre.rep.mono (Same.refl _) (fun a ha => (pre.rep.mem ha).1) (fun a ha => upd_ne (ne a ha)), pre.sl.len, fun i lv h => ?_, pre.sl.sep⟩
  · rw [upd_ne (ne_of_none h hF)]; exact pre.sub a u h
  · obtain ⟨v, h1, h2⟩ := pre.sl.at_ i lv h
    refine ⟨v, h1, ?_⟩
    have ne : lv.own = true → ∀ q, v = .ref q → q ≠ p := fun w q e z => ho i ⟨lv, h, w, by rw [h1, e, z]⟩
    cases lv with
    | d x => exact h2
    | ol ds => obtain ⟨q, vs, e, h3, h4, h5, h6⟩ := h2; exact ⟨q, vs, e, h3, h4, by rw [upd_ne (ne rfl q e)]; exact h5, h6⟩
    | ok ks ds => obtain ⟨q, vs, e, h3, h4, h5, h6⟩ := h2; exact ⟨q, vs, e, h3, h4, by rw [upd_ne (ne rfl q e)]; exact h5, h6⟩
    | ot ks ds => obtain ⟨q, vs, e, h3, h4, h5, h6⟩ := h2; exact ⟨q, vs, e, h3, h4, by rw [upd_ne (ne rfl q e)]; exact h5, h6⟩
    | fn => exact h2
theorem PreE.own_some {K : PySem.W.Frag} {F : Fz} {H : Hp} {g : G} {ρ : Rho} {σ : St} {p : Addr} {i : Nat} (pre : PreE K F H g ρ σ) (h : Owned ρ σ i p) : ∃ o, H p = some o := by
  obtain ⟨lv, h1, h2, h3⟩ := h
  obtain ⟨v, h4, h5⟩ := pre.sl.at_ i lv h1
  rw [h3] at h4
  have e : V.ref p = v := Option.some.inj (Option.some.inj h4)
  subst e
  cases lv with
  | d x => cases h2
  | ol ds => obtain ⟨q, vs, e, _, _, h5, _⟩ := h5; cases e; exact ⟨_, h5⟩
  | ok ks ds => obtain ⟨q, vs, e, _, _, h5, _⟩ := h5; cases e; exact ⟨_, h5⟩
  | ot ks ds => obtain ⟨q, vs, e, _, _, h5, _⟩ := h5; cases e; exact ⟨_, h5⟩
  | fn => cases h2
theorem Stp.keepN {K : PySem.W.Frag} {g g' : G} {F F' : Fz} {H H' : Hp} {p : Addr} {o : HO} (s : Stp K g g' F F' H H') (hF : F p = none) (hH : H p = some o) : F' p = none := by
  cases e : F' p with
  | none => rfl
  | some u =>
    rcases s.new p u e with ⟨w, h⟩ | h
    · rw [hF] at h; cases h
    · rw [hH] at h; cases h
/-! ### a list that grows in a comprehension -/
/-- what stands fast: the entry, the walk's own things, the new object L -/
structure LBase where
  g0 : G
  F0 : Fz
  H0 : Hp
  W : Hp
  F1 : Fz
  L : Addr
structure LBase.Ok (b : LBase) : Prop where
  h0 : b.H0 b.L = none
  w : b.W b.L = none
structure LI (K : PySem.W.Frag) (b : LBase) (P : List (Rho × St)) (o : HO) (H : Hp) (F : Fz) (g : G) : Prop where
  st : Stp K b.g0 g b.F0 F b.H0 H
  pre : ∀ q ∈ P, PreE K F H g q.1 q.2
  no : ∀ q ∈ P, ∀ i, ¬ Owned q.1 q.2 i b.L
  sw : Same b.W H
  wm : ∀ a o, b.W a = some o → a ∉ F.mu
  sf : Ext b.F1 F
  fl : F b.L = none
  ml : b.L ∉ F.mu
  hl : H b.L = some o
section
variable {K : PySem.W.Frag} {b : LBase} {P : List (Rho × St)} {o o' : HO} {H H' : Hp} {F F' : Fz} {g g' : G}
theorem LI.step (h : LI K b P o H F g) (s : Stp K g g' F F' H H') : LI K b P o H' F' g' where
  st := h.st.trans s
  pre := fun q hq => (h.pre q hq).step s
  no := h.no
  sw := fun a u z => s.same a u (h.wm a u z) (h.sw a u z)
  wm := fun a u z => s.keepM (h.wm a u z) (h.sw a u z)
  sf := h.sf.trans s.ext
  fl := s.keepN h.fl h.hl
  ml := s.keepM h.ml h.hl
  hl := s.same _ _ h.ml h.hl
theorem LI.mut (h : LI K b P o H F g) (ok : b.Ok) : LI K b P o' (upd H b.L o') F g where
  st := h.st.mut ok.h0 h.fl h.ml
  pre := fun q hq => (h.pre q hq).mut h.fl h.ml (h.no q hq)
  no := h.no
  sw := fun a u z => by rw [upd_ne (ne_of_none z ok.w)]; exact h.sw a u z
  wm := h.wm
  sf := h.sf
  fl := h.fl
  ml := h.ml
  hl := upd_same
theorem LI.add (h : LI K b P o H F g) {ρ : Rho} {σ : St} (p : PreE K F H g ρ σ) (n : ∀ i, ¬ Owned ρ σ i b.L) : LI K b ((ρ, σ) :: P) o H F g :=
  { h with pre := fun q hq => (List.mem_cons.mp hq).elim (fun e => by rw [e]; exact p) (h.pre q), no := fun q hq => (List.mem_cons.mp hq).elim (fun e => by rw [e]; exact n) (h.no q) }
theorem LI.tail {q : Rho × St} (h : LI K b (q :: P) o H F g) : LI K b P o H F g :=
  { h with pre := fun r hr => h.pre r (List.mem_cons_of_mem _ hr), no := fun r hr => h.no r (List.mem_cons_of_mem _ hr) }
end
/-- the new object, at the start -/
theorem LI.begin {K : PySem.W.Frag} {g g1 : G} {F F1 : Fz} {H H1 : Hp} {ρ : Rho} {σ : St} {L : Addr} {o : HO} (pre : PreE K F H g ρ σ) (s1 : Stp K g g1 F F1 H H1) (hL : H1 L = none) :
    LBase.Ok ⟨g, F, H, (off F1 H1).h, F1, L⟩ ∧ LI K ⟨g, F, H, (off F1 H1).h, F1, L⟩ [(ρ, σ)] o (upd H1 L o) F1 g1 := by
  have pre1 := pre.step s1
  have hm : L ∉ F1.mu := s1.rep.out hL
  have hF1 : F1 L = none := s1.sub.free hL
  have nown : ∀ i, ¬ Owned ρ σ i L := fun i h => by
    obtain ⟨o, ho⟩ := pre1.own_some h
    rw [hL] at ho; cases ho
  have hw : (off F1 H1) L = none := by
    cases z : (off F1 H1) L with
    | none => rfl
    | some u => have := (off_some.mp z).2; rw [hL] at this; cases this
  refine ⟨⟨s1.mono L hL, hw⟩, ⟨s1.trans (.allocO s1.sub s1.rep hL), fun q hq => ?_, fun q hq => ?_, fun a u h => ?_, fun a u h => (off_some.mp h).1, Ext.refl _, hF1, hm, upd_same⟩⟩
  · rw [List.mem_singleton.mp hq]; exact pre1.mut hF1 hm nown
  · rw [List.mem_singleton.mp hq]; exact nown
  · obtain ⟨h1, h2⟩ := off_some.mp h
    show upd H1 L o a = some u
    rw [upd_ne (ne_of_none h2 hL)]; exact h2
/-- the turns of one clause: the list at L grows by what lcL tells -/
theorem lc_turns {K : PySem.W.Frag} {b : LBase} {P : List (Rho × St)} {J : It} {sl vs : List Nat} {bd : B} {t : T} {e : E} {σ : St} {ρ : Rho} {src : List D} {Qd : Hp → Prop} (ok : b.Ok) (it : ItS K J b.W b.F1 src) (hsl : ∀ i ∈ sl, i ∈ vs)
    {F : Fz} {H : Hp} {g g2 : G} {ws : List V} {done left : List D} (h : LI K b ((ρ, σ) :: P) (.lst ws) H F g) (hr : RpA K F ws done) (ev : lcL bd t e (wipeR ρ vs) src g = some (left, g2)) (hz : (done ++ left).length ≤ sizeLine)
    (fin : ∀ H F ws, LI K b ((ρ, σ) :: P) (.lst ws) H F g2 → RpA K F ws (done ++ left) → Qd H) :
    ∃ W : Nat → Nat → Hp → Prop, (∃ m, W 0 m H) ∧ ∀ i m H, W i m H → (J.stop i H ∧ Qd H) ∨ (J.go i H ∧ ∃ Nx : Hp → Prop, (∀ H', Nx H' → ∃ m', m' < m ∧ W (i + 1) m' H') ∧
      ∀ x H', J.yld i H x H' → gB K sl bd x (wipe σ vs) H' fun σ2 H2 => wipe σ2 vs = wipe σ vs ∧ tTT K t σ2 H2 fun c H3 =>
        if c = true then tD K e σ2 H3 fun y H4 => ∃ acc, H4 b.L = some (.lst acc) ∧ acc.length < sizeLine ∧ Nx (upd H4 b.L (.lst (acc ++ [y]))) else Nx H3) := by
  refine ⟨fun i m H => m = src.length - i ∧ i ≤ src.length ∧ ∃ F g ws dn lf, LI K b ((ρ, σ) :: P) (.lst ws) H F g ∧ RpA K F ws dn ∧ lcL bd t e (wipeR ρ vs) (src.drop i) g = some (lf, g2) ∧ dn ++ lf = done ++ left,
    ⟨src.length, by simp, Nat.zero_le _, F, g, ws, done, left, h, hr, ev, rfl⟩, ?_⟩
  rintro i m H3 ⟨rfl, hi, F3, g3, ws3, dn, lf, h3, r3, ev3, e3⟩
  obtain ⟨goes, stops⟩ := (it.mono h3.sf) H3 h3.sw
  by_cases hlt : i < src.length
  · have hd : src[i]? = some src[i] := List.getElem?_eq_getElem hlt
    rw [List.drop_eq_getElem_cons hlt] at ev3
    unfold lcL at ev3
    obtain ⟨go, yl⟩ := goes i _ hd
    refine .inr ⟨go, fun H5 => ∃ F g ws dn lf, LI K b ((ρ, σ) :: P) (.lst ws) H5 F g ∧ RpA K F ws dn ∧ lcL bd t e (wipeR ρ vs) (src.drop (i + 1)) g = some (lf, g2) ∧ dn ++ lf = done ++ left, fun H5 h5 => ⟨_, by omega, rfl, by omega, h5⟩, fun x H4 y => ?_⟩
    have pr := h3.pre _ (List.mem_cons_self)
    obtain ⟨F4, s4, r4⟩ := (yl x H4 y).step pr.sub pr.rep
    have h4 := h3.step s4
    cases hb : bd src[i] (wipeR ρ vs) with
    | none => rw [hb] at ev3; cases ev3
    | some ρ' =>
      rw [hb] at ev3
      obtain ⟨c, g5, e5, ev3⟩ := mb_inv ev3
      refine ⟨F4, wipeR ρ vs, g3, src[i], ρ', (h4.pre _ List.mem_cons_self).wipe vs, r4, hb, fun σ' pre' _ hw => ⟨by rw [hw vs hsl]; exact wipe_twice σ vs, ?_⟩⟩
      refine ⟨F4, ρ', g3, c, g5, pre', e5, fun H5 F5 s5 => ?_⟩
      have h5 := h4.step s5
      have r5 := r3.mono (s4.ext.trans s5.ext)
      cases c with
      | false =>
        rw [if_neg Bool.false_ne_true] at ev3
        exact iteF ⟨F5, g5, ws3, dn, lf, h5, r5, ev3, e3⟩
      | true =>
        rw [if_pos rfl] at ev3
        refine iteT ?_
        obtain ⟨z, g6, e6, ev3⟩ := mb_inv ev3
        obtain ⟨zs, g7, e7, ev3⟩ := mb_inv ev3
        obtain ⟨rfl, rfl⟩ := mr_inv ev3
        refine ⟨F5, ρ', g5, z, g6, pre'.step s5, e6, fun w H6 F6 s6 r6 => ?_⟩
        have h6 := h5.step s6
        refine ⟨ws3, h6.hl, ?_, F6, g6, ws3 ++ [w], dn ++ [z], zs, h6.mut ok, (r5.mono s6.ext).append (.cons r6 .nil), e7, by rw [← e3]; simp⟩
        have h7 : ws3.length = dn.length := r3.length
        have h8 : (dn ++ z :: zs).length ≤ sizeLine := by rw [e3]; exact hz
        simp only [List.length_append, List.length_cons] at h8
        omega
  · have e4 : i = src.length := by omega
    subst e4
    rw [List.drop_length] at ev3
    obtain ⟨rfl, rfl⟩ := mr_inv ev3
    rw [List.append_nil] at e3
    exact .inl ⟨stops _ (Nat.le_refl _), fin H3 F3 ws3 h3 (by rw [← e3]; exact r3)⟩
/-- the reading of a comprehension's term -/
theorem lc_sem {K : PySem.W.Frag} {wi : TI} {sl vs : List Nat} {bd : B} {t : T} {e : E} {it : EA} {σ : St} {H : Hp} {F : Fz} {ρ : Rho} {g : G}
    (kI : ∀ σ H F ρ g, PreE K F H g ρ σ → ∀ ds g', it ρ g = some (ds, g') → ∀ R : It → Hp → Prop, (∀ J H' F', Stp K g g' F F' H H' → ItS K J (off F' H').h F' ds → R J H') → wi σ H R)
    (hsl : ∀ i ∈ sl, i ∈ vs) (pre : PreE K F H g ρ σ) {ds : List D} {g' : G} (ev : eLcA vs it bd t e ρ g = some (ds, g')) {Q : VK} (q : NewL K F H g g' ds Q) : tLc wi (gB K sl bd) (tTT K t) (tD K e) vs σ H Q := by
  obtain ⟨src, g1, e1, ev⟩ := mb_inv ev
  obtain ⟨out, g2, e2, ev⟩ := mb_inv ev
  have hz : out.length ≤ sizeLine ∧ out = ds ∧ g2 = g' := by
    split at ev
    · obtain ⟨h1, h2⟩ := mr_inv ev
      exact ⟨by assumption, h1.symm, h2.symm⟩
    · cases ev
  obtain ⟨hz, rfl, rfl⟩ := hz
  refine kI σ H F ρ g pre src g1 e1 _ fun J H1 F1 s1 it1 L hL => ?_
  obtain ⟨ok, beg⟩ := LI.begin (o := .lst []) pre s1 hL
  exact lc_turns (P := []) ok it1 hsl beg .nil e2 (by simpa using hz) fun H3 F3 ws h3 r3 => q L H3 F3 ws h3.st ok.h0 h3.fl h3.ml h3.hl (by rw [r3.length]; simpa using hz) r3
end PD
end
section
set_option Elab.async false
set_option linter.all false
set_option maxRecDepth 100000
set_option maxHeartbeats 4000000
set_option autoImplicit false
namespace PD
open PySem PySem.Spec L2
open PyProof.Rows hiding St
variable [Live]

/-! ### new lists -/
def PO (X : Cx) (e : Expr) (f : EA) : Prop := ∃ t, PE X e t ∧ ∀ σ H F ρ g, PreE X.K F H g ρ σ → ∀ ds g', f ρ g = some (ds, g') → ∀ Q : VK, NewL X.K F H g g' ds Q → t σ H Q
def eO (f : EA) : E := fun ρ => mb (f ρ) fun xs => mr (.lst xs)
/-- a thing of one's own is frozen -/
theorem Stp.frz {K : PySem.W.Frag} {g g' : G} {F F' : Fz} {H H' : Hp} {p : Addr} {o : HO} (s : Stp K g g' F F' H H') (hp : H p = none) (hF : F' p = none) (hm : p ∉ F'.mu) (hH : H' p = some o) : Stp K g g' F (F'.upd p o) H H' := by
  have ne : ∀ a ∈ F'.mu, a ≠ p := fun a ha z => hm (by rw [← z]; exact ha)
  refine ⟨s.same, s.mono, s.ext.trans (.upd hF), fun a u h => ?_, s.newM, fun a u h => ?_, ?_⟩
  · have h : L2.upd F'.h p o a = some u := h
    by_cases e : a = p
    · subst e; exact .inr hp
    · rw [upd_ne e] at h; exact s.new a u h
  · have h : L2.upd F'.h p o a = some u := h
    by_cases e : a = p
    · subst e; rw [upd_same] at h; cases h; exact hH
    · rw [upd_ne e] at h; exact s.sub a u h
  · exact s.rep.mono (Ext.upd hF).h (fun a ha => by rw [upd_ne (ne a ha)]; exact (s.rep.mem ha).1) fun _ _ => rfl
/-- it is frozen at once -/
theorem NewL.frz {K : PySem.W.Frag} {F : Fz} {H : Hp} {g g' : G} {ds : List D} {Q : VK} (q : ∀ v H' F', Stp K g g' F F' H H' → Rp K F' v (.lst ds) → Q v H') : NewL K F H g g' ds Q := fun p H' F' vs s hp hF hg hH hz r =>
  q (.ref p) H' (F'.upd p (.lst vs)) (s.frz hp hF hg hH) (rp_new_lst hF (by rw [← r.length]; exact hz) r)
section
variable {X : Cx} {e : Expr} {es : List Expr} {fs : EA} {pos : Pos}
theorem pd_new (h : PO X e fs) : PD X e (eO fs) := by
  obtain ⟨t, ht, k⟩ := h
  refine ⟨t, ht, fun σ H F ρ g pre d g' e Q q => ?_⟩
  obtain ⟨xs, g1, e1, e⟩ := mb_inv e
  obtain ⟨rfl, rfl⟩ := mr_inv e
  exact k σ H F ρ g pre xs _ e1 Q (.frz q)
def aSz (fs : EA) : EA := fun ρ => mb (fs ρ) fun xs => if xs.length ≤ sizeLine then mr xs else mz
theorem po_lst (h : PDA X es fs) : PO X (.List es pos) (aSz fs) := by
  obtain ⟨t, ht, k⟩ := h
  refine ⟨_, pe_lst ht, fun σ H F ρ g pre d g' e Q q => ?_⟩
  obtain ⟨xs, g1, e1, e⟩ := mb_inv e
  have hz : xs.length ≤ sizeLine ∧ xs = d ∧ g1 = g' := by
    split at e
    · obtain ⟨h1, h2⟩ := mr_inv e
      exact ⟨by assumption, h1.symm, h2.symm⟩
    · cases e
  obtain ⟨hz, rfl, rfl⟩ := hz
  refine k σ H F ρ g pre xs _ e1 _ fun vs H1 F1 s1 r1 => ⟨by rw [r1.length]; exact hz, fun p hp => ?_⟩
  exact q p _ F1 vs (s1.trans (.allocO s1.sub s1.rep hp)) (s1.mono p hp) (s1.sub.free hp) (s1.rep.out hp) upd_same (by rw [r1.length]; exact hz) r1
variable {elt tg iter : Expr} {ifs : List Expr} {scope : Scope} {it : EA} {bd : B} {t : T} {f : E} {sl : List Nat}
theorem po_lc (own : List (Str × Nat)) (hc : X.calm = true) (hN : X.N.Nodup) (hi : PBI X tg iter it) (ok : BlkOk X.N X.env.scope scope own)
    (hg : ∀ (s : Shared) (H : Hp) (C : Addr) (cl : List (Str × Addr)) (fp : List Addr), PDG (X.blk s H scope (compEnvC scope cl C X.env) fp) tg sl bd)
    (ht : ∀ (s : Shared) (H : Hp) (C : Addr) (cl : List (Str × Addr)) (fp : List Addr), PDTs (X.blk s H scope (compEnvC scope cl C X.env) fp) ifs t)
    (he : ∀ (s : Shared) (H : Hp) (C : Addr) (cl : List (Str × Addr)) (fp : List Addr), PD (X.blk s H scope (compEnvC scope cl C X.env) fp) elt f)
    (hsl : ∀ i ∈ sl, i ∈ own.map (·.2) := by decide) (hs : ∀ x, foldedSetIterable iter X.env x = pure x := by intro _; rfl) : PO X (.ListComp elt [⟨tg, iter, ifs, 0⟩] scope pos) (eLcA (own.map (·.2)) it bd t f) := by
  obtain ⟨wi, hw, kI⟩ := hi
  refine ⟨_, pe_lc (g := gB X.K sl bd) (tt := tTT X.K t) (te := tD X.K f) hc hN hw ok (fun s H C cl fp => (hg s H C cl fp).can) ht (fun s H C cl fp => (he s H C cl fp).can) hs, fun σ H F ρ g pre ds g' e Q q => ?_⟩
  exact lc_sem kI hsl pre e q
end
/-! ### statements -/
structure Ent where
  g : G
  F : Fz
  H : Hp
structure PreS (K : PySem.W.Frag) (en : Ent) (F : Fz) (H : Hp) (g : G) (ρ : Rho) (σ : St) : Prop where
  e : PreE K F H g ρ σ
  st : Stp K en.g g en.F F en.H H
  fr : ∀ i p, Owned ρ σ i p → en.H p = none
theorem PreS.step {K : PySem.W.Frag} {en : Ent} {F F' : Fz} {H H' : Hp} {g g' : G} {ρ : Rho} {σ : St} (p : PreS K en F H g ρ σ) (s : Stp K g g' F F' H H') : PreS K en F' H' g' ρ σ := ⟨p.e.step s, p.st.trans s, p.fr⟩
theorem PreS.set {K : PySem.W.Frag} {en : Ent} {F : Fz} {H : Hp} {g : G} {ρ : Rho} {σ : St} {i : Nat} {d : D} {v : V} (p : PreS K en F H g ρ σ) (r : Rp K F v d) : PreS K en F H g (setR ρ i d) (σ.set i (some v)) :=
  ⟨p.e.set r, p.st, fun j q h => p.fr j q h.set⟩
theorem PreS.setF {K : PySem.W.Frag} {en : Ent} {F : Fz} {H : Hp} {g : G} {ρ : Rho} {σ : St} {i : Nat} {v : V} (p : PreS K en F H g ρ σ) (r : SlotOk K F H g v .fn) : PreS K en F H g (ρ.set i (some .fn)) (σ.set i (some v)) :=
  ⟨p.e.setF r, p.st, fun j q h => p.fr j q h.setF⟩
inductive Fl where
  | nx (ρ : Rho) | rt (d : D) | bk (ρ : Rho) | ct (ρ : Rho) | xc (nm f : Str) (d : D) (ρ : Rho)
abbrev S := Rho → M Fl
/-- what the context takes of an exception that goes up -/
def Wx (X : Cx) (cls : Value) (d : Option Addr) (σ : St) (H : Hp) : Prop := ∀ u s', L2N.XE X (fun c d' σ' H' => c = cls ∧ d' = d ∧ σ' = σ ∧ H' = H) u s' → X.xe u s'
def Post (X : Cx) (en : Ent) (g : G) (De : Ends) : Fl → Prop
  | .nx ρ => ∀ σ H F, PreS X.K en F H g ρ σ → De.nx σ H
  | .bk ρ => ∀ σ H F, PreS X.K en F H g ρ σ → De.bk σ H
  | .ct ρ => ∀ σ H F, PreS X.K en F H g ρ σ → De.ct σ H
  | .rt d => ∀ v H F, Stp X.K en.g g en.F F en.H H → Rp X.K F v d → De.rt v H
  | .xc nm f d ρ => ∀ σ H F (dd : Addr) (v : V), PreS X.K en F H g ρ σ → F.h dd = some (.xd [(f, v)]) → Rp X.K F v d → Wx X (.ref (He.ga X.K nm)) (some dd) σ H
def PDS (X : Cx) (st : Stmt) (f : S) : Prop := ∃ t, PS X st t ∧ ∀ en σ H F ρ g, PreS X.K en F H g ρ σ → ∀ fl g', f ρ g = some (fl, g') → ∀ De : Ends, Post X en g' De fl → t De σ H
def PDSS (X : Cx) (st : List Stmt) (f : S) : Prop := ∃ t, PSs X st t ∧ ∀ en σ H F ρ g, PreS X.K en F H g ρ σ → ∀ fl g', f ρ g = some (fl, g') → ∀ De : Ends, Post X en g' De fl → t De σ H
def sNil : S := fun ρ => mr (.nx ρ)
def sSeq (a b : S) : S := fun ρ => mb (a ρ) fun fl => match fl with
  | .nx ρ' => b ρ'
  | fl => mr fl
section
variable {X : Cx} {st : Stmt} {rest : List Stmt} {a b : S} {e : Expr} {f : E} {pos : Pos}
theorem pdss_nil : PDSS X [] sNil := ⟨_, pss_nil, fun en σ H F ρ g pre fl g' e De post => by
  obtain ⟨rfl, rfl⟩ := mr_inv e
  exact post σ H F pre⟩
theorem pdss_cons (h1 : PDS X st a) (h2 : PDSS X rest b) : PDSS X (st :: rest) (sSeq a b) := by
  obtain ⟨t1, p1, k1⟩ := h1
  obtain ⟨t2, p2, k2⟩ := h2
  refine ⟨_, pss_cons p1 p2, fun en σ H F ρ g pre fl g' e De post => ?_⟩
  obtain ⟨fl1, g1, e1, e⟩ := mb_inv e
  refine k1 en σ H F ρ g pre fl1 g1 e1 _ ?_
  cases fl1 with
  | nx ρ' => exact fun σ' H' F' pre' => k2 en σ' H' F' ρ' g1 pre' fl g' e De post
  | bk ρ' => obtain ⟨rfl, rfl⟩ := mr_inv e; exact post
  | ct ρ' => obtain ⟨rfl, rfl⟩ := mr_inv e; exact post
  | rt d => obtain ⟨rfl, rfl⟩ := mr_inv e; exact post
  | xc nm f d ρ' => obtain ⟨rfl, rfl⟩ := mr_inv e; exact post
theorem pdss_one (h1 : PDS X st a) : PDSS X [st] a := by
  obtain ⟨t1, p1, k1⟩ := h1
  exact ⟨_, pss_one p1, k1⟩
/-- a thing of one's own is given away: it is changed no more -/
def frzR (ρ : Rho) (i : Nat) : Rho := match ρ[i]? with
  | some (some .fn) => ρ
  | some (some lv) => ρ.set i (some (.d lv.get))
  | _ => ρ
def sFrz (i : Nat) (a : S) : S := fun ρ => a (frzR ρ i)
theorem PreS.frz {K : PySem.W.Frag} {en : Ent} {F : Fz} {H : Hp} {g : G} {ρ : Rho} {σ : St} (p : PreS K en F H g ρ σ) (i : Nat) : ∃ F', PreS K en F' H g (frzR ρ i) σ := by
  cases h : ρ[i]? with
  | none =>
    have e : frzR ρ i = ρ := by unfold frzR; rw [h]
    rw [e]
    exact ⟨F, p⟩
  | some o =>
    cases o with
    | none =>
      have e : frzR ρ i = ρ := by unfold frzR; rw [h]
      rw [e]
      exact ⟨F, p⟩
    | some lv =>
      by_cases hfn : lv = .fn
      · subst hfn
        have e : frzR ρ i = ρ := by unfold frzR; rw [h]
        rw [e]
        exact ⟨F, p⟩
      have e : frzR ρ i = ρ.set i (some (.d lv.get)) := by
        unfold frzR
        rw [h]
        cases lv with
        | fn => exact absurd rfl hfn
        | _ => rfl
      rw [e]
      have hi : i < ρ.length := (List.getElem?_eq_some_iff.mp h).1
      obtain ⟨v, h1, h2⟩ := p.e.sl.at_ i lv h
      have self : ∀ {d : D}, SlotOk K F H g v (.d d) → lv.get = d → PreS K en F H g (ρ.set i (some (.d lv.get))) σ := fun {d} r e => by
        have q := p.set (i := i) (d := lv.get) (v := v) (by rw [e]; exact r)
        have e2 : σ.set i (some v) = σ := List.ext_getElem? fun j => by
          by_cases hj : i = j
          · subst hj
            rw [List.getElem?_set]
            split
            · split
              · exact h1.symm
              · rename_i hn; rw [List.getElem?_eq_none (by omega)]
            · rename_i hn; exact absurd rfl hn
          · rw [List.getElem?_set_ne hj]
        rw [e2] at q
        exact q
      -- a thing of one's own at q: it is frozen
      have go : ∀ (q : Addr) (o : HO), lv.own = true → v = .ref q → F q = none → q ∉ F.mu → H q = some o → (∀ F', Ext F F' → F' q = some o → Rp K F' v lv.get) → ∃ F', PreS K en F' H g (ρ.set i (some (.d lv.get))) σ := by
        intro q o own ev hF hm hH hr
        subst ev
        have hq : en.H q = none := p.fr i q ⟨lv, h, own, h1⟩
        have st' := p.st.frz hq hF hm hH
        have ex : Ext F (F.upd q o) := .upd hF
        have old : ∀ j w, Owned (ρ.set i (some (.d lv.get))) σ j w → Owned ρ σ j w ∧ j ≠ i := fun j w ⟨l, q1, q2, q3⟩ => by
          by_cases e : i = j
          · subst e
            rw [List.getElem?_set_self hi] at q1
            cases q1
            cases q2
          · rw [List.getElem?_set_ne e] at q1
            exact ⟨⟨l, q1, q2, q3⟩, fun z => e z.symm⟩
        refine ⟨F.upd q o, ⟨st'.sub, st'.rep, by rw [List.length_set]; exact p.e.sl.len, fun j l z => ?_, fun j k w z1 z2 => p.e.sl.sep j k w (old j w z1).1 (old k w z2).1⟩, st', fun j w z => p.fr j w (old j w z).1⟩
        by_cases e : i = j
        · subst e
          rw [List.getElem?_set_self hi] at z
          cases z
          exact ⟨_, h1, hr _ ex upd_same⟩
        · rw [List.getElem?_set_ne e] at z
          obtain ⟨u, z1, z2⟩ := p.e.sl.at_ j l z
          refine ⟨u, z1, ?_⟩
          have nq : l.own = true → ∀ w, u = .ref w → w ≠ q := fun w1 w w2 z3 => by
            subst w2 z3
            exact e (p.e.sl.sep i j w ⟨lv, h, own, h1⟩ ⟨l, z, w1, z1⟩)
          have nF : ∀ w, w ≠ q → F w = none → (F.upd q o) w = none := fun w hw hn => by show L2.upd F.h q o w = none; rw [upd_ne hw]; exact hn
          cases l with
          | d x => exact Rp.mono ex z2
          | ol ds => obtain ⟨w, vs, e1, e2, e3, e4, e5, e6⟩ := z2; exact ⟨w, vs, e1, nF w (nq rfl w e1) e2, e3, e4, e5, e6.mono ex⟩
          | ok ks ds => obtain ⟨w, vs, e1, e2, e3, e4, e5, e6⟩ := z2; exact ⟨w, vs, e1, nF w (nq rfl w e1) e2, e3, e4, e5, e6.mono ex⟩
          | ot ks ds => obtain ⟨w, vs, e1, e2, e3, e4, e5, e6⟩ := z2; exact ⟨w, vs, e1, nF w (nq rfl w e1) e2, e3, e4, ⟨e5.1, fun x hx => sqT_mono ex.h (e5.2 x hx)⟩, e6.mono ex⟩
          | fn => exact ⟨z2.1, Live.step ex z2.2⟩
      cases lv with
      | d x => exact ⟨F, self h2 rfl⟩
      | ol ds =>
        obtain ⟨q, vs, e1, e2, e3, e4, e5, e6⟩ := h2
        exact go q _ rfl e1 e2 e3 e4 fun F' s z => by subst e1; exact .lst (.of z) e5 (e6.mono s)
      | ok ks ds =>
        obtain ⟨q, vs, e1, e2, e3, e4, e5, e6⟩ := h2
        exact go q _ rfl e1 e2 e3 e4 fun F' s z => by subst e1; subst e5; exact .dk (.inl z) (e6.mono s)
      | ot ks ds =>
        obtain ⟨q, vs, e1, e2, e3, e4, e5, e6⟩ := h2
        exact go q _ rfl e1 e2 e3 e4 fun F' s z => by subst e1; obtain ⟨rfl, e5⟩ := e5; exact .dm z (fun x hx => sqT_mono s.h (e5 x hx)) (e6.mono s)
      | fn => exact absurd rfl hfn
theorem pdss_frz {sts : List Stmt} (i : Nat) (h : PDSS X sts a) : PDSS X sts (sFrz i a) := by
  obtain ⟨t, p, k⟩ := h
  refine ⟨t, p, fun en σ H F ρ g pre fl g' e De post => ?_⟩
  obtain ⟨F', pre'⟩ := pre.frz i
  exact k en σ H F' (frzR ρ i) g pre' fl g' e De post
/-! ### plain statements -/
def sRet (f : E) : S := fun ρ => mb (f ρ) fun d => mr (.rt d)
theorem pds_ret (h : PD X e f) : PDS X (.Return (some e) pos) (sRet f) := by
  obtain ⟨t, p, k⟩ := h
  refine ⟨_, ps_ret p, fun en σ H F ρ g pre fl g' e De post => ?_⟩
  obtain ⟨d, g1, e1, e⟩ := mb_inv e
  obtain ⟨rfl, rfl⟩ := mr_inv e
  exact k σ H F ρ g pre.e d _ e1 _ fun v H1 F1 s1 r1 => post v H1 F1 (pre.st.trans s1) r1
def sSet (i : Nat) (f : E) : S := fun ρ => mb (f ρ) fun d => mr (.nx (setR ρ i d))
theorem pds_set (i : Nat) {x : Str} {pos' : Pos} (hN : X.N.Nodup) (h : PD X e f) (hi : X.N[i]? = some x := by rfl) (hx : Loc X.env.scope x := by first | exact Or.inl rfl | exact Or.inr rfl)
    (hs : swapsWith e (some (.Name x pos')) pos.line X.env = pure false := by rfl) (hf : X.fn x = true ∨ X.env.scope.names.lookup x = some .local := by first | exact .inl rfl | exact .inr rfl | assumption) :
    PDS X (.Assign [.Name x pos'] e pos) (sSet i f) := by
  obtain ⟨t, p, k⟩ := h
  refine ⟨_, ps_set hN hi hx p hs hf, fun en σ H F ρ g pre fl g' e De post => ?_⟩
  obtain ⟨d, g1, e1, e⟩ := mb_inv e
  obtain ⟨rfl, rfl⟩ := mr_inv e
  exact k σ H F ρ g pre.e d _ e1 _ fun v H1 F1 s1 r1 => post _ H1 F1 ((pre.step s1).set r1)
/-- targets that are unpacked -/
def sAsg (bd : B) (f : E) : S := fun ρ => mb (f ρ) fun d => ml ((bd d ρ).map Fl.nx)
theorem pds_asg {tg : Expr} {sl : List Nat} {bd : B} (h : PD X e f) (hg : PDG X tg sl bd) (hs : swapsWithSole [tg] e pos.line X.env = pure false := by rfl) (hw : swappedStores [tg] e X.env = pure none := by rfl)
    (h1 : (assignEach [tg] X.env).map (·.2) = [assign tg X.env] := by rfl) : PDS X (.Assign [tg] e pos) (sAsg bd f) := by
  obtain ⟨t, p, k⟩ := h
  obtain ⟨tg', pg, kg⟩ := hg
  refine ⟨_, ps_asg p pg hs hw h1, fun en σ H F ρ g pre fl g' e De post => ?_⟩
  obtain ⟨d, g1, e1, e⟩ := mb_inv e
  obtain ⟨e2, rfl⟩ := ml_inv e
  obtain ⟨ρ', e3, rfl⟩ := Option.map_eq_some_iff.mp e2
  refine k σ H F ρ g pre.e d _ e1 _ fun v H1 F1 s1 r1 => ?_
  exact kg σ H1 F1 ρ _ v d ρ' (pre.e.step s1) r1 e3 _ fun σ' pre' o _ => post σ' H1 F1 ⟨pre', pre.st.trans s1, fun i q z => pre.fr i q (o i q z)⟩
def sIf (c : T) (a b : S) : S := fun ρ => mb (c ρ) fun k => if k = true then a ρ else b ρ
theorem pds_if {c : Expr} {sa sb : List Stmt} {tc : T} (hc : PDT X c tc) (ha : PDSS X sa a) (hb : PDSS X sb b) : PDS X (.If c sa sb pos) (sIf tc a b) := by
  obtain ⟨t, p, k⟩ := hc
  obtain ⟨t1, p1, k1⟩ := ha
  obtain ⟨t2, p2, k2⟩ := hb
  refine ⟨_, ps_if p p1 p2, fun en σ H F ρ g pre fl g' e De post => ?_⟩
  obtain ⟨c, g1, e1, e⟩ := mb_inv e
  refine k σ H F ρ g pre.e c g1 e1 _ fun H1 F1 s1 => ?_
  cases c with
  | true => exact k1 en σ H1 F1 ρ g1 (pre.step s1) fl g' e De post
  | false => exact k2 en σ H1 F1 ρ g1 (pre.step s1) fl g' e De post
def sExpr (f : E) : S := fun ρ => mb (f ρ) fun _ => mr (.nx ρ)
theorem pds_expr (h : PD X e f) (hs : swapsWith e none pos.line X.env = pure false := by rfl) : PDS X (.Expr e pos) (sExpr f) := by
  obtain ⟨t, p, k⟩ := h
  refine ⟨_, ps_expr p hs, fun en σ H F ρ g pre fl g' e De post => ?_⟩
  obtain ⟨d, g1, e1, e⟩ := mb_inv e
  obtain ⟨rfl, rfl⟩ := mr_inv e
  exact k σ H F ρ g pre.e d _ e1 _ fun v H1 F1 s1 r1 => post σ H1 F1 (pre.step s1)
def sNever : S := fun _ => mz
theorem pds_never : PDS X st sNever := ⟨_, ps_never, fun en σ H F ρ g pre fl g' e De post => by cases e⟩
def sPass : S := fun ρ => mr (.nx ρ)
def sCont : S := fun ρ => mr (.ct ρ)
def sBreak : S := fun ρ => mr (.bk ρ)
/-- a new list of one's own -/
def sOwn (i : Nat) (f : EA) : S := fun ρ => mb (f ρ) fun xs => mr (.nx (ρ.set i (some (.ol xs))))
theorem PreS.own {K : PySem.W.Frag} {en : Ent} {F : Fz} {H : Hp} {g : G} {ρ : Rho} {σ : St} {i : Nat} {p : Addr} {lv : LV} (pre : PreS K en F H g ρ σ) (ow : lv.own = true) (ok : SlotOk K F H g (.ref p) lv) (new : ∀ j, ¬ Owned ρ σ j p) (hp : en.H p = none) :
    PreS K en F H g (ρ.set i (some lv)) (σ.set i (some (.ref p))) := by
  have old : ∀ j w, Owned (ρ.set i (some lv)) (σ.set i (some (.ref p))) j w → (j = i ∧ w = p) ∨ (j ≠ i ∧ Owned ρ σ j w) := fun j w ⟨l, q1, q2, q3⟩ => by
    by_cases e : i = j
    · subst e
      by_cases hl : i < σ.length
      · rw [List.getElem?_set_self hl] at q3
        have := Option.some.inj (Option.some.inj q3)
        cases this
        exact .inl ⟨rfl, rfl⟩
      · rw [List.getElem?_eq_none (by simpa using hl)] at q3; cases q3
    · rw [List.getElem?_set_ne e] at q1 q3
      exact .inr ⟨fun z => e z.symm, l, q1, q2, q3⟩
  refine ⟨⟨pre.e.sub, pre.e.rep, by simp [pre.e.sl.len], fun j l z => ?_, fun j k w z1 z2 => ?_⟩, pre.st, fun j w z => ?_⟩
  · by_cases e : i = j
    · subst e
      by_cases hl : i < ρ.length
      · rw [List.getElem?_set_self hl] at z
        cases z
        exact ⟨_, List.getElem?_set_self (by rw [← pre.e.sl.len]; exact hl), ok⟩
      · rw [List.getElem?_eq_none (by simpa using hl)] at z; cases z
    · rw [List.getElem?_set_ne e] at z
      rw [List.getElem?_set_ne e]
      exact pre.e.sl.at_ j l z
  · rcases old j w z1 with ⟨rfl, rfl⟩ | ⟨h1, h2⟩ <;> rcases old k _ z2 with ⟨h3, h4⟩ | ⟨h3, h4⟩
    · exact h3.symm
    · exact absurd h4 (new k)
    · subst h4; exact absurd h2 (new j)
    · exact pre.e.sl.sep j k w h2 h4
  · rcases old j w z with ⟨_, rfl⟩ | ⟨_, h2⟩
    · exact hp
    · exact pre.fr j w h2
variable {elt tg iter : Expr} {ifs : List Expr} {scope : Scope} {it : EA} {bd : B} {t : T} {sl : List Nat}
/-- y = [.. for ..] -/
theorem pds_setLc (i : Nat) {y : Str} {py lpos : Pos} (own : List (Str × Nat)) (hc : X.calm = true) (hN : X.N.Nodup) (hi : PBI X tg iter it) (ok : BlkOk X.N X.env.scope scope own)
    (hg : ∀ (s : Shared) (H : Hp) (C : Addr) (cl : List (Str × Addr)) (fp : List Addr), PDG (X.blk s H scope (compEnvC scope cl C X.env) fp) tg sl bd)
    (ht : ∀ (s : Shared) (H : Hp) (C : Addr) (cl : List (Str × Addr)) (fp : List Addr), PDTs (X.blk s H scope (compEnvC scope cl C X.env) fp) ifs t)
    (he : ∀ (s : Shared) (H : Hp) (C : Addr) (cl : List (Str × Addr)) (fp : List Addr), PD (X.blk s H scope (compEnvC scope cl C X.env) fp) elt f)
    (hsw : swapsWith (.ListComp elt [⟨tg, iter, ifs, 0⟩] scope lpos) (some (.Name y py)) pos.line X.env = pure true)
    (hsl : ∀ i ∈ sl, i ∈ own.map (·.2) := by decide) (hs : ∀ x, foldedSetIterable iter X.env x = pure x := by intro _; rfl) (hy : X.N[i]? = some y := by rfl) (hyl : X.env.scope.names.lookup y = some .local := by rfl) :
    PDS X (.Assign [.Name y py] (.ListComp elt [⟨tg, iter, ifs, 0⟩] scope lpos) pos) (sSet i (eO (eLcA (own.map (·.2)) it bd t f))) := by
  obtain ⟨wi, hw, kI⟩ := hi
  refine ⟨_, ps_setLc (g := gB X.K sl bd) (tt := tTT X.K t) (te := tD X.K f) hc hN hy hyl hsw hw ok (fun s H C cl fp => (hg s H C cl fp).can) ht (fun s H C cl fp => (he s H C cl fp).can) hs, fun en σ H F ρ g pre fl g' e De post => ?_⟩
  obtain ⟨d, g1, e1, e⟩ := mb_inv e
  obtain ⟨xs, g2, e2, e3⟩ := mb_inv e1
  obtain ⟨rfl, rfl⟩ := mr_inv e3
  obtain ⟨rfl, rfl⟩ := mr_inv e
  exact lc_sem kI hsl pre.e e2 (.frz fun v H1 F1 s1 r1 => post _ H1 F1 ((pre.step s1).set r1))
theorem pds_ownLc (i : Nat) {y : Str} {py lpos : Pos} (own : List (Str × Nat)) (hc : X.calm = true) (hN : X.N.Nodup) (hi : PBI X tg iter it) (ok : BlkOk X.N X.env.scope scope own)
    (hg : ∀ (s : Shared) (H : Hp) (C : Addr) (cl : List (Str × Addr)) (fp : List Addr), PDG (X.blk s H scope (compEnvC scope cl C X.env) fp) tg sl bd)
    (ht : ∀ (s : Shared) (H : Hp) (C : Addr) (cl : List (Str × Addr)) (fp : List Addr), PDTs (X.blk s H scope (compEnvC scope cl C X.env) fp) ifs t)
    (he : ∀ (s : Shared) (H : Hp) (C : Addr) (cl : List (Str × Addr)) (fp : List Addr), PD (X.blk s H scope (compEnvC scope cl C X.env) fp) elt f)
    (hsw : swapsWith (.ListComp elt [⟨tg, iter, ifs, 0⟩] scope lpos) (some (.Name y py)) pos.line X.env = pure true)
    (hsl : ∀ i ∈ sl, i ∈ own.map (·.2) := by decide) (hs : ∀ x, foldedSetIterable iter X.env x = pure x := by intro _; rfl) (hy : X.N[i]? = some y := by rfl) (hyl : X.env.scope.names.lookup y = some .local := by rfl) :
    PDS X (.Assign [.Name y py] (.ListComp elt [⟨tg, iter, ifs, 0⟩] scope lpos) pos) (sOwn i (eLcA (own.map (·.2)) it bd t f)) := by
  obtain ⟨wi, hw, kI⟩ := hi
  refine ⟨_, ps_setLc (g := gB X.K sl bd) (tt := tTT X.K t) (te := tD X.K f) hc hN hy hyl hsw hw ok (fun s H C cl fp => (hg s H C cl fp).can) ht (fun s H C cl fp => (he s H C cl fp).can) hs, fun en σ H F ρ g pre fl g' e De post => ?_⟩
  obtain ⟨ds, g1, e1, e⟩ := mb_inv e
  obtain ⟨rfl, rfl⟩ := mr_inv e
  refine lc_sem kI hsl pre.e e1 fun q H1 F1 vs s1 hq hF hg hH hz r => ?_
  refine post _ H1 F1 ((pre.step s1).own rfl ⟨q, vs, rfl, hF, hg, hH, hz, r⟩ (fun j z => ?_) (pre.st.mono q hq))
  obtain ⟨o, ho⟩ := pre.e.own_some z
  rw [hq] at ho; cases ho
end
end PD
end
section
set_option Elab.async false
set_option linter.all false
set_option maxRecDepth 100000
set_option maxHeartbeats 4000000
set_option autoImplicit false
namespace PD
open PySem PySem.Spec L2
open PyProof.Rows hiding St
variable [Live]

/-! ### a list or a tuple as a source -/
def SqK (k : Bool) (K : PySem.W.Frag) (H : Hp) (a : Addr) (xs : List V) : Prop := match k with
  | true => SqL K H a xs
  | false => SqT K H a xs
def IsK (k : Bool) (h : Heap) (a : Addr) (its : Array Value) : Prop := match k with
  | true => h.IsList a its
  | false => h.IsTuple a its
def ItrK (k : Bool) (h : Heap) (it a : Addr) (i : Nat) : Prop := match k with
  | true => h.IsListIter it a i
  | false => h.IsTupleIter it a i
def begO (k : Bool) (a : Addr) : Obj := match k with
  | true => { cls := .type "list_iterator", data := .fields #[.ref a, .int 0 0] }
  | false => { cls := .type "tuple_iterator", data := .fields #[.ref a, .int 0 0] }
theorem begK (k : Bool) (a : Addr) (its : Array Value) : Begins (.ref a) (begO k a) fun h => IsK k h a its := by
  cases k with
  | true => exact begins_list a its
  | false => exact begins_tuple a its
theorem itr0 {k : Bool} {h : Heap} {it a : Addr} (e : h.get? it = some (begO k a)) : ItrK k h it a 0 := by
  cases k with
  | true => exact ⟨_, e, rfl, rfl⟩
  | false => exact ⟨_, e, rfl, rfl⟩
theorem drawsK {prog : Program} {w : World} {A : Around} (hh : A.handled = none) (k : Bool) (it a : Addr) (hne : a ≠ it) (its : Array Value) :
    Draws prog w A it [it, a] its.size (fun i v => its[i]? = some v) (fun i h => ItrK k h it a i ∧ IsK k h a its) := by
  cases k with
  | true => exact Draws.list hh it a hne its
  | false => exact Draws.tuple hh it a hne its
theorem ItrK.obj {k : Bool} {h : Heap} {it a : Addr} {i : Nat} (e : ItrK k h it a i) : ∃ o, h.get? it = some o ∧ ∀ v, o.data ≠ .cell v := by
  cases k with
  | true => obtain ⟨o, e, _, d⟩ := e; exact ⟨o, e, fun v z => by rw [d] at z; cases z⟩
  | false => obtain ⟨o, e, _, d⟩ := e; exact ⟨o, e, fun v z => by rw [d] at z; cases z⟩
theorem ItrK.keep {k : Bool} {h h' : Heap} {it a : Addr} {i : Nat} (e : ItrK k h it a i) (q : ∀ o, h.get? it = some o → h'.get? it = some o) : ItrK k h' it a i := by
  cases k with
  | true => exact Heap.IsListIter.at e q
  | false => exact Heap.IsTupleIter.at e q
theorem isK_of {X : Cx} {pins : List (Addr × Obj)} {σ : St} {H : Hp} {s : Shared} {k : Bool} {a : Addr} {xs : List V} (I : Inv X pins σ H s) (h : SqK k X.K H a xs) :
    ∃ its : List Value, Vals xs its ∧ IsK k s.heap a its.toArray ∧ a < s.heap.objs.size := by
  cases k with
  | true => obtain ⟨its, r, p, _⟩ := I.list h; exact ⟨its, r, p.isList, p.lt⟩
  | false =>
    obtain ⟨its, r, p, _⟩ := I.tuple h
    obtain ⟨o, ho, _⟩ := id p
    exact ⟨its, r, p, Heap.lt_size ho⟩
theorem sqK_mono {k : Bool} {K : PySem.W.Frag} {H H' : Hp} {a : Addr} {xs : List V} (s : Same H H') (h : SqK k K H a xs) : SqK k K H' a xs := by
  cases k with
  | true => exact sqL_mono s h
  | false => exact sqT_mono s h
/-- what is written by the walk's own next: the rest stays -/
theorem new_inv {X : Cx} {pins : List (Addr × Obj)} {σ : St} {H : Hp} {s : Shared} {h' : Heap} {tk : Nat} {ch : List Addr} {p : Addr} {xs : List V} {us : List Value} (I : Inv X pins σ H s) (hf : ∀ b ∈ ch, FpOk X pins H b) (kp : ∀ b o, b ∉ ch → s.heap.get? b = some o → h'.get? b = some o)
    (hp : s.heap.objs.size ≤ p) (r : Vals xs us) (hz : xs.length ≤ sizeLine) (hT : h'.IsTuple p us.toArray) : Inv X pins σ (upd H p (.tup xs)) { s with heap := h', toks := tk } :=
  I.turnedNew (ch := ch) kp hf hp ⟨hz, us, r, hT⟩
/-! ### zip of two -/
def It2 (K : PySem.W.Frag) (k1 k2 : Bool) (a b : Addr) (xs ys : List V) : It :=
  ⟨fun i H => SqK k1 K H a xs ∧ SqK k2 K H b ys ∧ i < min xs.length ys.length, fun i H v H' => ∃ p x y, v = .ref p ∧ H p = none ∧ H' = upd H p (.tup [x, y]) ∧ xs[i]? = some x ∧ ys[i]? = some y,
    fun i H => SqK k1 K H a xs ∧ SqK k2 K H b ys ∧ min xs.length ys.length ≤ i⟩
theorem turn2 {P : Program} {w : World} {K : PySem.W.Frag} {elts : List Expr} {kk : Nat} {tpos : Pos} {k1 k2 : Bool} {a b : Addr} {xs ys : List V} {N : Nat} (ha : a < N) (hb : b < N) :
    Turn P w K (.Tuple elts kk tpos) (It2 K k1 k2 a b xs ys) [N + 4, N + 2, N + 3, N, N + 1] (N + 4)
      (fun i h => i ≤ min xs.length ys.length ∧ IsZip h (N + 4) (N + 2) (N + 3) .none ∧ IsTupOf2 h (N + 2) (.ref N) (.ref (N + 1)) ∧ (∃ u v, IsTupOf2 h (N + 3) u v) ∧ ItrK k1 h N a i ∧ ItrK k2 h (N + 1) b i) := by
  have sep : ZipSep2 (N + 4) (N + 2) (N + 3) N (N + 1) [N, a] [N + 1, b] := zip_sep2 (fp1 := [a]) (fp2 := [b]) (by simpa using ha) (by simpa using hb)
  have ne : a ≠ N ∧ b ≠ N + 1 := ⟨Nat.ne_of_lt ha, Nat.ne_of_lt (Nat.lt_succ_of_lt hb)⟩
  refine ⟨by simp, fun i h st c hc => ?_, fun i h h' st k => ?_, ?_, ?_, fun A i s Q E st h => wpAny_pyIter_zip st.2.1 h⟩
  · obtain ⟨_, h1, h2, ⟨u, v, h3⟩, h4, h5⟩ := st
    have e : c = N + 4 ∨ c = N + 2 ∨ c = N + 3 ∨ c = N ∨ c = N + 1 := by simpa using hc
    rcases e with rfl | rfl | rfl | rfl | rfl
    · exact ⟨_, h1, fun v q => nomatch q⟩
    · exact ⟨_, h2, fun v q => nomatch q⟩
    · exact ⟨_, h3, fun v q => nomatch q⟩
    · exact h4.obj
    · exact h5.obj
  · obtain ⟨h0, h1, h2, ⟨u, v, h3⟩, h4, h5⟩ := st
    exact ⟨h0, k _ (by simp) _ h1, k _ (by simp) _ h2, ⟨u, v, k _ (by simp) _ h3⟩, h4.keep fun o => k _ (by simp) o, h5.keep fun o => k _ (by simp) o⟩
  · intro X hP hw hK hc i pins s σ H E I hf st hg
    subst hP hw hK
    obtain ⟨s1, s2, hi⟩ := hg
    obtain ⟨_, h1, h2, h3, h4, h5⟩ := st
    obtain ⟨its, r1, q1, _⟩ := isK_of I s1
    obtain ⟨jts, r2, q2, _⟩ := isK_of I s2
    have l1 := r1.length
    have l2 := r2.length
    have G := GoesN.zip2 (prog := X.prog) (w := X.w) (A := X.A) (elts := elts) (x1 := kk) (pos := tpos) sep (drawsK (A := X.A.in1) (I.ok.hd hc) k1 N a ne.1 its.toArray) (drawsK (A := X.A.in1) (I.ok.hd hc) k2 (N + 1) b ne.2 jts.toArray)
    refine wpAny_mono (G.goes i s (fun v s2 => ∃ x H', Inv X pins σ H' s2 ∧ RelV x v ∧ (It2 X.K k1 k2 a b xs ys).yld i H x H' ∧ (i + 1 ≤ min xs.length ys.length ∧ IsZip s2.heap (N + 4) (N + 2) (N + 3) .none ∧ IsTupOf2 s2.heap (N + 2) (.ref N) (.ref (N + 1)) ∧ (∃ u v, IsTupOf2 s2.heap (N + 3) u v) ∧ ItrK k1 s2.heap N a (i + 1) ∧ ItrK k2 s2.heap (N + 1) b (i + 1)) ∧
      ∀ b ∈ [N + 4, N + 2, N + 3, N, N + 1], H' b = none) E (by simp only [List.size_toArray]; omega) ⟨h1, h2, h3, ⟨h4, q1⟩, ⟨h5, q2⟩⟩ fun v h' tk Y st' kp _ => ?_) (fun r s1 ⟨v, e, q⟩ => ⟨v, e, q⟩) fun _ _ z => z
    obtain ⟨T, u1, u2, rfl, hT, y1, y2, hTT⟩ := Y
    obtain ⟨z1, z2, z3, ⟨z4, _⟩, ⟨z5, _⟩⟩ := st'
    have hx : i < xs.length := by omega
    have hy : i < ys.length := by omega
    obtain ⟨w1, e1, f1⟩ := r1.get (List.getElem?_eq_getElem hx)
    obtain ⟨w2, e2, f2⟩ := r2.get (List.getElem?_eq_getElem hy)
    have e3 : u1 = w1 := Option.some.inj (y1.symm.trans (by simpa using e1))
    have e4 : u2 = w2 := Option.some.inj (y2.symm.trans (by simpa using e2))
    subst e3 e4
    refine ⟨.ref T, _, new_inv (us := [u1, u2]) I hf (fun c o hc e => kp c o (fun z => hc ?_) e) hT (.cons f1 (.cons f2 .nil)) (by show 2 ≤ sizeLine; decide) hTT, rfl, ⟨T, _, _, rfl, I.hok.fresh hT, rfl, List.getElem?_eq_getElem hx, List.getElem?_eq_getElem hy⟩, ⟨by omega, z1, z2, z3, z4, z5⟩, fun c hcm => ?_⟩
    · have e : c = N + 4 ∨ c = N + 3 ∨ c = N ∨ c = N + 1 := by simpa using z
      rcases e with rfl | rfl | rfl | rfl <;> simp
    · have q := (hf c hcm).1
      rw [upd_ne fun z => ?_]
      · exact q
      · subst z
        obtain ⟨u, v, h3⟩ := h3
        have e : c = N + 4 ∨ c = N + 2 ∨ c = N + 3 ∨ c = N ∨ c = N + 1 := by simpa using hcm
        have lt : c < s.heap.objs.size := by
          rcases e with rfl | rfl | rfl | rfl | rfl
          · exact Heap.lt_size h1
          · exact Heap.lt_size h2
          · exact Heap.lt_size h3
          · obtain ⟨o, ho, _⟩ := h4.obj; exact Heap.lt_size ho
          · obtain ⟨o, ho, _⟩ := h5.obj; exact Heap.lt_size ho
        exact absurd (Nat.lt_of_lt_of_le lt hT) (Nat.lt_irrefl _)
  · intro X hP hw hK hc i pins s σ H E I hf st hg
    subst hP hw hK
    obtain ⟨s1, s2, hi⟩ := hg
    obtain ⟨h0, h1, h2, h3, h4, h5⟩ := st
    have e0 : i = min xs.length ys.length := by omega
    obtain ⟨its, r1, q1, _⟩ := isK_of I s1
    obtain ⟨jts, r2, q2, _⟩ := isK_of I s2
    have l1 := r1.length
    have l2 := r2.length
    have G := GoesN.zip2 (prog := X.prog) (w := X.w) (A := X.A) (elts := elts) (x1 := kk) (pos := tpos) sep (drawsK (A := X.A.in1) (I.ok.hd hc) k1 N a ne.1 its.toArray) (drawsK (A := X.A.in1) (I.ok.hd hc) k2 (N + 1) b ne.2 jts.toArray)
    have e1 : min its.toArray.size jts.toArray.size = i := by simp only [List.size_toArray]; omega
    rw [e1] at G
    refine G.stops s (fun s' => Inv X pins σ H s') E ⟨h1, h2, h3, ⟨h4, q1⟩, ⟨h5, q2⟩⟩ fun h' tk kp _ => I.turnedL (t' := tk) (ch := [N + 4, N + 2, N + 3, N, N + 1]) (fun c o hc e => kp c o (fun z => hc ?_) e) hf
    have e : c = N + 4 ∨ c = N + 3 ∨ c = N ∨ c = N + 1 := by simpa using z
    rcases e with rfl | rfl | rfl | rfl <;> simp
def iZip2 (K : PySem.W.Frag) (ta : TA) : TI := fun σ H R => ta σ H fun vs H1 => ∃ k1 k2 a b xs ys, vs = [.ref a, .ref b] ∧ SqK k1 K H1 a xs ∧ SqK k2 K H1 b ys ∧ R (It2 K k1 k2 a b xs ys) H1
theorem fp_new {X : Cx} {pins : List (Addr × Obj)} {σ : St} {H : Hp} {s : Shared} (I : Inv X pins σ H s) {l : List Addr} (h : ∀ b ∈ l, s.heap.objs.size ≤ b) : ∀ b ∈ l, FpOk X pins H b := fun b hb => I.fpOk (h b hb) (I.hok.fresh (h b hb))
theorem pi_zip2 {X : Cx} {e e2 : Expr} {ta : TA} {p pos tpos : Pos} {elts : List Expr} {kk : Nat} (hg : Gl X "zip") (hm : X.mg "zip" = none) (ha : PA X [e, e2] ta)
    (hs : starEach [e, e2] X.env = (false, eval e X.env) :: starEach [e2] X.env) (hpl : (backTo pos (starEach [e2] X.env)).any (·.1) = false) : PI X (.Tuple elts kk tpos) (.Call (.Name "zip" p) [e, e2] [] pos) (iZip2 X.K ta) := by
  refine ⟨fun pins s σ H R I h => ?_⟩
  refine Call_ (ld_blt I hg hm PyProof.Rows.boot_zip (PyProof.Rows.callWith_type1 (thn (ha.run pos pins s σ H _ I h) fun us s1 ⟨vs, H1, I1, r1, k1, k2, a, b, xs, ys, ev, hx, hy, q⟩ => ?_) hs hpl))
  subst ev
  cases r1 with
  | cons r r' =>
    cases r' with
    | cons r' r'' =>
      cases r''
      cases r
      cases r'
      obtain ⟨its, rv, q1, l1⟩ := isK_of I1 hx
      obtain ⟨jts, rw', q2, l2⟩ := isK_of I1 hy
      refine zip_begins2 (begK k1 a its.toArray) (begK k2 b jts.toArray) q1 q2 fun h' z1 z2 z3 z4 z5 _ kp => wpAny_pyIter_zip z1 ?_
      refine ⟨_, _, _, _, H1, rfl, I1.kept (t' := s1.toks) kp, turn2 l1 l2, ⟨Nat.zero_le _, z1, z2, ⟨_, _, z3⟩, itr0 z4, itr0 z5⟩, fp_new I1 fun c hc => ?_, q⟩
      have e : c = s1.heap.objs.size + 4 ∨ c = s1.heap.objs.size + 2 ∨ c = s1.heap.objs.size + 3 ∨ c = s1.heap.objs.size ∨ c = s1.heap.objs.size + 1 := by simpa using hc
      show s1.heap.objs.size ≤ c
      rcases e with z | z | z | z | z <;> rw [z] <;> first | exact Nat.le_add_right _ _ | exact Nat.le_refl _
def seqD : D → Option (List D)
  | .lst l => some l
  | .tup l => some l
  | _ => none
theorem rp_seq {K : PySem.W.Frag} {W : Fz} {v : V} {d : D} {l : List D} (h : Rp K W v d) (e : seqD d = some l) : ∃ k a xs, v = .ref a ∧ SqK k K W a xs ∧ xs.length ≤ sizeLine ∧ RpA K W xs l := by
  cases d <;> cases e
  · obtain ⟨a, xs, rfl, h1, h2, h3⟩ := rp_tup h; exact ⟨false, a, xs, rfl, h1, h2, h3⟩
  · obtain ⟨a, xs, rfl, h1, h2, h3⟩ := rp_lst h; exact ⟨true, a, xs, rfl, h1, h2, h3⟩
def zip2L : List D → List D → List D
  | a :: l, b :: m => .tup [a, b] :: zip2L l m
  | _, _ => []
theorem zip2L_length : ∀ l m : List D, (zip2L l m).length = min l.length m.length
  | [], m => by simp [zip2L]
  | _ :: _, [] => by simp [zip2L]
  | a :: l, b :: m => by simp [zip2L, zip2L_length l m]
theorem zip2L_get : ∀ {l m : List D} {i : Nat} {d : D}, (zip2L l m)[i]? = some d → ∃ x y, l[i]? = some x ∧ m[i]? = some y ∧ d = .tup [x, y]
  | [], m, i, d, h => by simp [zip2L] at h
  | _ :: _, [], i, d, h => by simp [zip2L] at h
  | a :: l, b :: m, 0, d, h => by simp [zip2L] at h; exact ⟨a, b, rfl, rfl, h.symm⟩
  | a :: l, b :: m, i + 1, d, h => by
    obtain ⟨x, y, h1, h2, h3⟩ := zip2L_get (l := l) (m := m) (i := i) (by simpa [zip2L] using h)
    exact ⟨x, y, by simpa using h1, by simpa using h2, h3⟩
def zipM (ds : List D) : Option (List D) := match ds with
  | [x, y] => match seqD x, seqD y with
    | some l, some m => some (zip2L l m)
    | _, _ => none
  | _ => none
def aIt (h : List D → Option (List D)) (fs : EA) : EA := fun ρ => mb (fs ρ) fun ds => ml (h ds)
section
variable {X : Cx} {e e2 : Expr} {fs : EA} {p pos tpos : Pos} {elts : List Expr} {kk : Nat}
theorem pdi_zip (hm : X.mg "zip" = none) (ha : PDA X [e, e2] fs) (hg : Gl X "zip" := by rfl) (hs : starEach [e, e2] X.env = (false, eval e X.env) :: starEach [e2] X.env := by rfl) (hpl : (backTo pos (starEach [e2] X.env)).any (·.1) = false := by rfl) :
    PDI X (.Tuple elts kk tpos) (.Call (.Name "zip" p) [e, e2] [] pos) (aIt zipM fs) := by
  obtain ⟨t, ht, k⟩ := ha
  refine ⟨_, pi_zip2 hg hm ht hs hpl, fun σ H F ρ g pre ds g' ev R q => ?_⟩
  obtain ⟨as, g1, e1, ev⟩ := mb_inv ev
  obtain ⟨e2, rfl⟩ := ml_inv ev
  unfold zipM at e2
  split at e2
  · rename_i x y
    split at e2
    · rename_i l m h1 h2
      cases e2
      refine k σ H F ρ g pre _ _ e1 _ fun vs H1 F1 s1 r1 => ?_
      cases r1 with
      | cons r r' =>
        cases r' with
        | cons r' r'' =>
          cases r''
          obtain ⟨k1, a, xs, rfl, t1, l1, u1⟩ := rp_seq r h1
          obtain ⟨k2, b, ys, rfl, t2, l2, u2⟩ := rp_seq r' h2
          refine ⟨k1, k2, a, b, xs, ys, rfl, sqK_mono s1.sub t1, sqK_mono s1.sub t2, q _ H1 F1 s1 fun H2 s2 => ⟨fun i d hd => ?_, fun i hi => ⟨sqK_mono s2 t1, sqK_mono s2 t2, ?_⟩⟩⟩
          · obtain ⟨x, y, h3, h4, rfl⟩ := zip2L_get hd
            obtain ⟨vx, h5, h6⟩ := u1.get h3
            obtain ⟨vy, h7, h8⟩ := u2.get h4
            refine ⟨⟨sqK_mono s2 t1, sqK_mono s2 t2, ?_⟩, fun v H' ⟨p, x', y', z1, z2, z3, z4, z5⟩ => ?_⟩
            · have := (List.getElem?_eq_some_iff.mp h5).1
              have := (List.getElem?_eq_some_iff.mp h7).1
              omega
            · rw [h5] at z4
              rw [h7] at z5
              cases z4
              cases z5
              exact .inr (.inl ⟨p, [vx, vy], [x, y], z2, z1, z3, rfl, by show 2 ≤ sizeLine; decide, .cons h6 (.cons h8 .nil)⟩)
          · rw [zip2L_length] at hi
            rw [u1.length, u2.length]; exact hi
    · cases e2
  · cases e2
end
/-! ### enumerate -/
set_option maxHeartbeats 1000000 in
theorem meets_enum1 {v : Value} {o : Obj} {H : Heap → Prop} (B : Begins v o H) : Meets (Builtin.«enumerate.__new__» ⟨[.type "enumerate", v], []⟩) (fun _ R s => H s.heap ∧
    R (.ok (.ret (.ref (s.heap.push o).objs.size))) { s with heap := (s.heap.push o).push { cls := .type "enumerate", data := .fields #[.none, .bool false, .ref s.heap.objs.size, rawInt 0, .none, .none] } }) :=
  .of_wp fun prog w A R s ⟨h1, h⟩ => by
    obtain ⟨hp, g, d, tk, os⟩ := s
    have hsub := sub_enumerate
    have q1 : ∀ {A' : Around} {E : Value → Shared → Prop} {Q : Value → Shared → Prop}, Q (.ref hp.objs.size) ⟨hp.push o, g, d, tk, os⟩ → wpAny (model prog w) A' (pyIter v) Q E ⟨hp, g, d, tk, os⟩ := fun q => B.iter prog w _ _ ⟨hp, g, d, tk, os⟩ _ h1 q
    wp_walk using q1
    refine wpAny_stack_any fun st => wpAny_pure ?_
    split
    · rename_i c _ _ _ _ _
      cases (c == Value.type "enumerate") <;> (wp_walk using q1; exact ⟨_, rfl, h⟩)
    · wp_walk using q1
      exact ⟨_, rfl, h⟩
theorem enum_beg {prog : Program} {w : World} {A : Around} {E : Value → Shared → Prop} {s : Shared} {v : Value} {o : Obj} {H : Heap → Prop} {Q : Value → Shared → Prop} (B : Begins v o H) (h1 : H s.heap)
    (h : ∀ h', IsEnum h' (s.heap.objs.size + 1) s.heap.objs.size 0 .none → h'.get? s.heap.objs.size = some o → (∀ b o, s.heap.get? b = some o → h'.get? b = some o) → Q (.ref (s.heap.objs.size + 1)) { s with heap := h' }) :
    wpAny (model prog w) A (call (.type "enumerate") [v]) Q E s := by
  refine callType_new F.called_enumerate (by decide) (F.typeCall_enumerate_1 _) (F.newCall_enumerate_1 _) (fun obj => F.args_object_init_2 obj _) F.entry_enumerate_new (meets_enum1 B) ⟨h1, ?_⟩
  have hz : (s.heap.push o).objs.size = s.heap.objs.size + 1 := Heap.size_push ..
  show _ ∧ _
  rw [hz]
  have he : IsEnum ((s.heap.push o).push { cls := .type "enumerate", data := .fields #[.none, .bool false, .ref s.heap.objs.size, rawInt 0, .none, .none] }) (s.heap.objs.size + 1) s.heap.objs.size 0 .none := by
    have q := Heap.get?_push_size (s.heap.push o) (o := { cls := .type "enumerate", data := .fields #[.none, .bool false, .ref s.heap.objs.size, rawInt 0, .none, .none] }) rfl
    rw [hz] at q
    exact q
  exact ⟨⟨_, he, rfl⟩, h _ he (Heap.get?_push_of_some _ (Heap.get?_push_size _ B.free)) fun b ob x => Heap.get?_push_of_some _ (Heap.get?_push_of_some _ x)⟩
def ItE (K : PySem.W.Frag) (k : Bool) (a : Addr) (xs : List V) : It :=
  ⟨fun i H => SqK k K H a xs ∧ i < xs.length, fun i H v H' => ∃ p x, v = .ref p ∧ H p = none ∧ H' = upd H p (.tup [.int (i : Nat), x]) ∧ xs[i]? = some x, fun i H => SqK k K H a xs ∧ xs.length ≤ i⟩
theorem turnE {P : Program} {w : World} {K : PySem.W.Frag} {elts : List Expr} {kk : Nat} {tpos : Pos} {k : Bool} {a : Addr} {xs : List V} {N : Nat} (ha : a < N) :
    Turn P w K (.Tuple elts kk tpos) (ItE K k a xs) [N + 1, N] (N + 1) (fun i h => i ≤ xs.length ∧ (∃ old, IsEnum h (N + 1) N ((i : Nat) : Int) old) ∧ ItrK k h N a i) := by
  have ne : a ≠ N := Nat.ne_of_lt ha
  have ne1 : N + 1 ≠ N := Nat.succ_ne_self N
  have ne2 : N + 1 ∉ [N, a] := fun h => by
    rcases List.mem_cons.mp h with e | h
    · exact Nat.succ_ne_self N e
    · have e : N + 1 = a := List.mem_singleton.mp h
      exact absurd (Nat.lt_trans ha (Nat.lt_succ_self N)) (by rw [← e]; exact Nat.lt_irrefl _)
  have e0 : ∀ i : Nat, (0 : Int) + (i : Int) = (i : Int) := fun i => Int.zero_add _
  refine ⟨by simp, fun i h st c hc => ?_, fun i h h' st k => ?_, ?_, ?_, fun A i s Q E st h => let ⟨_, ⟨_, he⟩, _⟩ := st; wpAny_pyIter_enum he h⟩
  · obtain ⟨_, ⟨old, h1⟩, h4⟩ := st
    have e : c = N + 1 ∨ c = N := by simpa using hc
    rcases e with rfl | rfl
    · exact ⟨_, h1, fun v q => nomatch q⟩
    · exact h4.obj
  · obtain ⟨h0, ⟨old, h1⟩, h4⟩ := st
    exact ⟨h0, ⟨old, k _ (by simp) _ h1⟩, h4.keep fun o => k _ (by simp) o⟩
  · intro X hP hw hK hc i pins s σ H E I hf st hg
    subst hP hw hK
    obtain ⟨s1, hi⟩ := hg
    obtain ⟨_, ⟨old, h1⟩, h4⟩ := st
    obtain ⟨its, r1, q1, _⟩ := isK_of I s1
    have l1 := r1.length
    have G := GoesN.enumFrom (prog := X.prog) (w := X.w) (A := X.A) (elts := elts) (x1 := kk) (pos := tpos) 0 (drawsK (A := X.A.in1) (I.ok.hd hc) k N a ne its.toArray) (N + 1) ne1 ne2 (by simp)
    refine wpAny_mono (G.goes i s (fun v s2 => ∃ x H', Inv X pins σ H' s2 ∧ RelV x v ∧ (ItE X.K k a xs).yld i H x H' ∧ (i + 1 ≤ xs.length ∧ (∃ old, IsEnum s2.heap (N + 1) N ((i + 1 : Nat) : Int) old) ∧ ItrK k s2.heap N a (i + 1)) ∧
      ∀ b ∈ [N + 1, N], H' b = none) E (by simp only [List.size_toArray]; omega) ⟨⟨old, by rw [e0]; exact h1⟩, h4, q1⟩ fun v h' tk Y st' kp _ => ?_) (fun r s1 ⟨v, e, q⟩ => ⟨v, e, q⟩) fun _ _ z => z
    obtain ⟨T, t, u1, rfl, hT, y1, hTT⟩ := Y
    obtain ⟨⟨old', z1⟩, z4, _⟩ := st'
    obtain ⟨w1, e1, f1⟩ := r1.get (List.getElem?_eq_getElem hi)
    have e3 : u1 = w1 := Option.some.inj (y1.symm.trans (by simpa using e1))
    subst e3
    rw [e0] at hTT
    refine ⟨.ref T, _, new_inv (us := [.int i t, u1]) (xs := [.int (i : Nat), xs[i]]) I hf (fun c o hc e => kp c o (fun z => hc (by simpa using z)) e) hT (.cons ⟨t, rfl⟩ (.cons f1 .nil)) (by show 2 ≤ sizeLine; decide) hTT, rfl, ⟨T, _, rfl, I.hok.fresh hT, rfl, List.getElem?_eq_getElem hi⟩,
      ⟨by omega, ⟨old', by rw [e0] at z1; exact z1⟩, z4⟩, fun c hcm => ?_⟩
    have q := (hf c hcm).1
    rw [upd_ne fun z => ?_]
    · exact q
    · subst z
      have e : c = N + 1 ∨ c = N := by simpa using hcm
      have lt : c < s.heap.objs.size := by
        rcases e with rfl | rfl
        · exact Heap.lt_size h1
        · obtain ⟨o, ho, _⟩ := h4.obj; exact Heap.lt_size ho
      exact absurd (Nat.lt_of_lt_of_le lt hT) (Nat.lt_irrefl _)
  · intro X hP hw hK hc i pins s σ H E I hf st hg
    subst hP hw hK
    obtain ⟨s1, hi⟩ := hg
    obtain ⟨h0, ⟨old, h1⟩, h4⟩ := st
    have ei : i = xs.length := by omega
    obtain ⟨its, r1, q1, _⟩ := isK_of I s1
    have l1 := r1.length
    have G := GoesN.enumFrom (prog := X.prog) (w := X.w) (A := X.A) (elts := elts) (x1 := kk) (pos := tpos) 0 (drawsK (A := X.A.in1) (I.ok.hd hc) k N a ne its.toArray) (N + 1) ne1 ne2 (by simp)
    have e1 : its.toArray.size = i := by simp only [List.size_toArray]; omega
    rw [e1] at G
    exact G.stops s (fun s' => Inv X pins σ H s') E ⟨⟨old, by rw [e0]; exact h1⟩, h4, q1⟩ fun h' tk kp _ => I.turnedL (t' := tk) (ch := [N + 1, N]) (fun c o hc e => kp c o (fun z => hc (by simpa using z)) e) hf
def iEnumK (K : PySem.W.Frag) (ta : TA) : TI := fun σ H R => ta σ H fun vs H1 => ∃ k a xs, vs = [.ref a] ∧ SqK k K H1 a xs ∧ R (ItE K k a xs) H1
theorem pi_enumK {X : Cx} {e : Expr} {ta : TA} {p pos tpos : Pos} {elts : List Expr} {kk : Nat} (hg : Gl X "enumerate") (hm : X.mg "enumerate" = none) (ha : PA X [e] ta) (hs : starEach [e] X.env = [(false, eval e X.env)]) :
    PI X (.Tuple elts kk tpos) (.Call (.Name "enumerate" p) [e] [] pos) (iEnumK X.K ta) := by
  refine ⟨fun pins s σ H R I h => ?_⟩
  refine Call_ (ld_blt I hg hm boot_enumerate (PyProof.Rows.callWith_type1 (thn (ha.run pos pins s σ H _ I h) fun us s1 ⟨vs, H1, I1, r1, k, a, xs, ev, hx, q⟩ => ?_) hs rfl))
  subst ev
  cases r1 with
  | cons r r' =>
    cases r'
    cases r
    obtain ⟨its, rv, q1, l1⟩ := isK_of I1 hx
    refine enum_beg (begK k a its.toArray) q1 fun h' z1 z2 kp => wpAny_pyIter_enum z1 ?_
    refine ⟨_, _, _, _, H1, rfl, I1.kept (t' := s1.toks) kp, turnE l1, ⟨Nat.zero_le _, ⟨_, z1⟩, itr0 z2⟩, fp_new I1 fun c hc => ?_, q⟩
    have e : c = s1.heap.objs.size + 1 ∨ c = s1.heap.objs.size := by simpa using hc
    show s1.heap.objs.size ≤ c
    rcases e with z | z <;> rw [z] <;> first | exact Nat.le_add_right _ _ | exact Nat.le_refl _
def enumL : Nat → List D → List D
  | _, [] => []
  | i, d :: l => .tup [.int (i : Int), d] :: enumL (i + 1) l
theorem enumL_length : ∀ (i : Nat) (l : List D), (enumL i l).length = l.length
  | _, [] => rfl
  | i, d :: l => by simp [enumL, enumL_length (i + 1) l]
theorem enumL_get : ∀ {l : List D} {j i : Nat} {d : D}, (enumL j l)[i]? = some d → ∃ x, l[i]? = some x ∧ d = .tup [.int ((j + i : Nat) : Int), x]
  | [], j, i, d, h => by simp [enumL] at h
  | a :: l, j, 0, d, h => by simp [enumL] at h; exact ⟨a, rfl, by simpa using h.symm⟩
  | a :: l, j, i + 1, d, h => by
    obtain ⟨x, h1, h3⟩ := enumL_get (l := l) (j := j + 1) (i := i) (by simpa [enumL] using h)
    exact ⟨x, by simpa using h1, by rw [h3]; congr 4; omega⟩
def enumM (ds : List D) : Option (List D) := match ds with
  | [x] => (seqD x).map (enumL 0)
  | _ => none
section
variable {X : Cx} {e e2 : Expr} {fs : EA} {p pos tpos : Pos} {elts : List Expr} {kk : Nat}
theorem pdi_enum (hm : X.mg "enumerate" = none) (ha : PDA X [e] fs) (hg : Gl X "enumerate" := by rfl) (hs : starEach [e] X.env = [(false, eval e X.env)] := by rfl) :
    PDI X (.Tuple elts kk tpos) (.Call (.Name "enumerate" p) [e] [] pos) (aIt enumM fs) := by
  obtain ⟨t, ht, k⟩ := ha
  refine ⟨_, pi_enumK hg hm ht hs, fun σ H F ρ g pre ds g' ev R q => ?_⟩
  obtain ⟨as, g1, e1, ev⟩ := mb_inv ev
  obtain ⟨e2, rfl⟩ := ml_inv ev
  unfold enumM at e2
  split at e2
  · rename_i x
    obtain ⟨l, h1, rfl⟩ := Option.map_eq_some_iff.mp e2
    refine k σ H F ρ g pre _ _ e1 _ fun vs H1 F1 s1 r1 => ?_
    cases r1 with
    | cons r r' =>
      cases r'
      obtain ⟨k1, a, xs, rfl, t1, l1, u1⟩ := rp_seq r h1
      refine ⟨k1, a, xs, rfl, sqK_mono s1.sub t1, q _ H1 F1 s1 fun H2 s2 => ⟨fun i d hd => ?_, fun i hi => ⟨sqK_mono s2 t1, ?_⟩⟩⟩
      · obtain ⟨x, h3, rfl⟩ := enumL_get hd
        obtain ⟨vx, h5, h6⟩ := u1.get h3
        refine ⟨⟨sqK_mono s2 t1, (List.getElem?_eq_some_iff.mp h5).1⟩, fun v H' ⟨p, x', z1, z2, z3, z4⟩ => ?_⟩
        rw [h5] at z4
        cases z4
        rw [Nat.zero_add]
        exact .inr (.inl ⟨p, [.int (i : Nat), vx], [.int (i : Nat), x], z2, z1, z3, rfl, by show 2 ≤ sizeLine; decide, .cons (.int _) (.cons h6 .nil)⟩)
      · rw [enumL_length] at hi
        rw [u1.length]; exact hi
  · cases e2
end
end PD
end
section
set_option Elab.async false
set_option linter.all false
set_option maxRecDepth 100000
set_option maxHeartbeats 4000000
set_option autoImplicit false
namespace PD
open PySem PySem.Spec L2
open PyProof.Rows hiding St
variable [Live]

/-! ### loops -/
theorem Stp.base {K : PySem.W.Frag} {g0 g : G} {F0 F : Fz} {H0 H : Hp} (s : Stp K g0 g F0 F H0 H) : Stp K g0 g F F H0 H :=
  ⟨fun a o hm h => s.same a o (fun z => hm (s.ext.m.subset z)) h, s.mono, Ext.refl _, fun _ o h => .inl ⟨o, h⟩, fun _ h => .inl h, s.sub, s.rep⟩
theorem Stp.back {K : PySem.W.Frag} {g0 g g' : G} {F0 F F' : Fz} {H0 H H' : Hp} (s : Stp K g0 g F0 F H0 H) (t : Stp K g0 g' F F' H0 H') : Stp K g0 g' F0 F' H0 H' :=
  ⟨fun a o hm h => t.same a o (s.keepM hm h) h, t.mono, s.ext.trans t.ext, fun a o h => by
    rcases t.new a o h with ⟨u, h1⟩ | h1
    · exact s.new a u h1
    · exact .inr h1, fun a h => by
    rcases t.newM a h with h1 | h1
    · exact s.newM a h1
    · exact .inr h1, t.sub, t.rep⟩
theorem PreS.base {K : PySem.W.Frag} {en : Ent} {F : Fz} {H : Hp} {g : G} {ρ : Rho} {σ : St} (p : PreS K en F H g ρ σ) : PreS K ⟨en.g, F, en.H⟩ F H g ρ σ := ⟨p.e, p.st.base, p.fr⟩
theorem PreS.back {K : PySem.W.Frag} {en : Ent} {F F' : Fz} {H H' : Hp} {g g' : G} {ρ' : Rho} {σ' : St} (s : Stp K en.g g en.F F en.H H) (t : PreS K ⟨en.g, F, en.H⟩ F' H' g' ρ' σ') : PreS K en F' H' g' ρ' σ' := ⟨t.e, s.back t.st, t.fr⟩
def forL (bd : B) (b : S) : List D → Rho → M Fl
  | [], ρ => mr (.nx ρ)
  | d :: ds, ρ => match bd d ρ with
    | none => mz
    | some ρ1 => mb (b ρ1) fun fl => match fl with
      | .nx ρ2 => forL bd b ds ρ2
      | .ct ρ2 => forL bd b ds ρ2
      | .bk ρ2 => mr (.nx ρ2)
      | .rt x => mr (.rt x)
      | .xc nm f d ρ2 => mr (.xc nm f d ρ2)
def sFor (it : EA) (bd : B) (b : S) : S := fun ρ => mb (it ρ) fun ds => forL bd b ds ρ
section
variable {X : Cx} {tg iter c : Expr} {body : List Stmt} {it : EA} {sl : List Nat} {bd : B} {b : S} {tc : T} {pos : Pos}
theorem pds_for (hc : X.calm = true) (hi : PDI X tg iter it) (hg : PDG X tg sl bd) (hb : PDSS X body b) (hp : PassesOwn (model X.prog X.w) X.A X.env X.xe := by exact PassesOwn.never)
    (hs : ∀ x, foldedSetIterable iter X.env x = pure x := by intro _; rfl) : PDS X (.For tg iter body [] pos) (sFor it bd b) := by
  obtain ⟨wi, pi, kI⟩ := hi
  obtain ⟨tg', pg, kg⟩ := hg
  obtain ⟨tb, pb, kb⟩ := hb
  refine ⟨_, ps_for hp hc pi pg pb hs, fun en σ H F ρ g pre fl g' ev De post => ?_⟩
  obtain ⟨src, g1, e1, ev⟩ := mb_inv ev
  refine kI σ H F ρ g pre.e src g1 e1 _ fun J H1 F1 s1 it1 => ?_
  refine ⟨fun i m σ3 H3 => m = src.length - i ∧ i ≤ src.length ∧ ∃ F3 ρ3 g3, PreS X.K en F3 H3 g3 ρ3 σ3 ∧ Ext F1 F3 ∧ forL bd b (src.drop i) ρ3 g3 = some (fl, g'), ⟨_, rfl, Nat.zero_le _, F1, ρ, g1, pre.step s1, Ext.refl _, ev⟩, ?_⟩
  rintro i m σ3 H3 ⟨rfl, hi, F3, ρ3, g3, p3, sF, ev3⟩
  obtain ⟨goes, stops⟩ := (it1.mono sF) H3 (sF.h.trans p3.e.sub)
  by_cases hlt : i < src.length
  · obtain ⟨go, yl⟩ := goes i _ (List.getElem?_eq_getElem hlt)
    rw [List.drop_eq_getElem_cons hlt] at ev3
    unfold forL at ev3
    refine .inr ⟨go, fun σ5 H5 => ∃ F5 ρ5 g5, PreS X.K en F5 H5 g5 ρ5 σ5 ∧ Ext F1 F5 ∧ forL bd b (src.drop (i + 1)) ρ5 g5 = some (fl, g'), fun σ5 H5 h => ⟨_, by omega, rfl, by omega, h⟩, fun x H4 y => ?_⟩
    obtain ⟨F4, s4, r4⟩ := (yl x H4 y).step p3.e.sub p3.e.rep
    have p4 := p3.step s4
    cases hb : bd src[i] ρ3 with
    | none => rw [hb] at ev3; cases ev3
    | some ρ4 =>
      rw [hb] at ev3
      obtain ⟨fl1, g5, e5, ev3⟩ := mb_inv ev3
      refine kg σ3 H4 F4 ρ3 g3 x _ ρ4 p4.e r4 hb _ fun σ4 pre4 o _ => ?_
      refine kb ⟨en.g, F4, en.H⟩ σ4 H4 F4 ρ4 g3 ⟨pre4, p4.st.base, fun i q z => p4.fr i q (o i q z)⟩ fl1 g5 e5 _ ?_
      cases fl1 with
      | nx ρ5 => exact fun σ5 H5 F5 p5 => ⟨F5, ρ5, g5, p5.back p4.st, (sF.trans s4.ext).trans p5.st.ext, ev3⟩
      | ct ρ5 => exact fun σ5 H5 F5 p5 => ⟨F5, ρ5, g5, p5.back p4.st, (sF.trans s4.ext).trans p5.st.ext, ev3⟩
      | bk ρ5 =>
        obtain ⟨rfl, rfl⟩ := mr_inv ev3
        exact fun σ5 H5 F5 p5 => post σ5 H5 F5 (p5.back p4.st)
      | rt x =>
        obtain ⟨rfl, rfl⟩ := mr_inv ev3
        exact fun v H5 F5 s5 r5 => post v H5 F5 (p4.st.back s5) r5
      | xc nm f d ρ5 =>
        obtain ⟨rfl, rfl⟩ := mr_inv ev3
        exact fun σ5 H5 F5 dd v p5 a b => post σ5 H5 F5 dd v (p5.back p4.st) a b
  · have e4 : i = src.length := by omega
    subst e4
    rw [List.drop_length] at ev3
    obtain ⟨rfl, rfl⟩ := mr_inv ev3
    exact .inl ⟨stops _ (Nat.le_refl _), post σ3 H3 F3 p3⟩
def whileL (c : T) (b : S) : Nat → Rho → M Fl
  | 0, _ => mz
  | n + 1, ρ => mb (c ρ) fun k => if k = true then mb (b ρ) fun fl => match fl with
      | .nx ρ2 => whileL c b n ρ2
      | .ct ρ2 => whileL c b n ρ2
      | .bk ρ2 => mr (.nx ρ2)
      | .rt x => mr (.rt x)
      | .xc nm f d ρ2 => mr (.xc nm f d ρ2)
    else mr (.nx ρ)
def sWhile (n : Nat) (c : T) (b : S) : S := fun ρ => whileL c b n ρ
theorem pds_while (n : Nat) (hc : PDT X c tc) (hb : PDSS X body b) (hp : PassesOwn (model X.prog X.w) X.A X.env X.xe := by exact PassesOwn.never) : PDS X (.While c body [] pos) (sWhile n tc b) := by
  obtain ⟨t1, p1, k1⟩ := hc
  obtain ⟨tb, pb, kb⟩ := hb
  refine ⟨_, ps_while hp p1 pb, fun en σ H F ρ g pre fl g' ev De post => ?_⟩
  refine ⟨fun m σ3 H3 => ∃ F3 ρ3 g3, PreS X.K en F3 H3 g3 ρ3 σ3 ∧ whileL tc b m ρ3 g3 = some (fl, g'), ⟨n, F, ρ, g, pre, ev⟩, ?_⟩
  rintro m σ3 H3 ⟨F3, ρ3, g3, p3, ev3⟩
  cases m with
  | zero => cases ev3
  | succ m =>
    unfold whileL at ev3
    obtain ⟨k, g4, e4, ev3⟩ := mb_inv ev3
    refine k1 σ3 H3 F3 ρ3 g3 p3.e k g4 e4 _ fun H4 F4 s4 => ?_
    have p4 := p3.step s4
    cases k with
    | false =>
      rw [if_neg Bool.false_ne_true] at ev3
      obtain ⟨rfl, rfl⟩ := mr_inv ev3
      exact iteF (post σ3 H4 F4 p4)
    | true =>
      rw [if_pos rfl] at ev3
      obtain ⟨fl1, g5, e5, ev3⟩ := mb_inv ev3
      refine iteT ⟨fun σ5 H5 => ∃ F5 ρ5 g5, PreS X.K en F5 H5 g5 ρ5 σ5 ∧ whileL tc b m ρ5 g5 = some (fl, g'), fun σ5 H5 h => ⟨m, Nat.lt_succ_self m, h⟩, ?_⟩
      refine kb en σ3 H4 F4 ρ3 g4 p4 fl1 g5 e5 _ ?_
      cases fl1 with
      | nx ρ5 => exact fun σ5 H5 F5 p5 => ⟨F5, ρ5, g5, p5, ev3⟩
      | ct ρ5 => exact fun σ5 H5 F5 p5 => ⟨F5, ρ5, g5, p5, ev3⟩
      | bk ρ5 =>
        obtain ⟨rfl, rfl⟩ := mr_inv ev3
        exact fun σ5 H5 F5 p5 => post σ5 H5 F5 p5
      | rt x =>
        obtain ⟨rfl, rfl⟩ := mr_inv ev3
        exact fun v H5 F5 s5 r5 => post v H5 F5 s5 r5
      | xc nm f d ρ5 =>
        obtain ⟨rfl, rfl⟩ := mr_inv ev3
        exact fun σ5 H5 F5 dd v p5 a b => post σ5 H5 F5 dd v p5 a b
end
/-! ### what is walked -/
def strItems (x : Str) : List D := x.cps.toList.map fun c => .str ⟨#[c]⟩
def itemsD : D → Option (List D)
  | .lst l => some l
  | .tup l => some l
  | .str x => some (strItems x)
  | _ => none
def aItem (f : E) : EA := fun ρ => mb (f ρ) fun d => ml (itemsD d)
section
variable {X : Cx} {tg e e2 : Expr} {f : E} {fs : EA} {p pos : Pos}
theorem pi_or {wi wi' : TI} (h : PI X tg e wi) (h' : PI X tg e wi') : PI X tg e (fun σ H R => wi σ H R ∨ wi' σ H R) := ⟨fun pins s σ H R I q => q.elim (h.run pins s σ H R I) (h'.run pins s σ H R I)⟩
theorem sg_one {x : Str} {c : Nat} (h : sOk x = true) (hc : c ∈ x.cps.toList) : sOk ⟨#[c]⟩ = true := sOk_mk (strOk_iff.mpr fun d hd => by
  have : d = c := by simpa using hd
  subst this
  exact strOk_iff.mp (sOk_ok h) d hc) (by show 1 ≤ sizeLine; decide)
theorem its_tup {K : PySem.W.Frag} {W F : Fz} {a : Addr} {xs : List V} {ds : List D} (h : SqT K W a xs) (r : RpA K F xs ds) : ItS K (Itt K a) W F ds := fun H s => by
  refine ⟨fun i d e => ?_, fun i hi => ⟨xs, sqT_mono s h, by rw [r.length]; exact hi⟩⟩
  obtain ⟨v, h1, h2⟩ := r.get e
  refine ⟨⟨xs, v, sqT_mono s h, h1⟩, fun x H' ⟨y1, y2⟩ => .inl ⟨y1, ?_⟩⟩
  have := y2 xs (sqT_mono s h)
  rw [h1] at this
  cases this
  exact h2
theorem its_str {K : PySem.W.Frag} {W F : Fz} {x : Str} (h : sOk x = true) : ItS K (Its x) W F (strItems x) := fun H s => by
  refine ⟨fun i d e => ?_, fun i hi => ?_⟩
  · unfold strItems at e
    rw [List.getElem?_map] at e
    obtain ⟨c, h1, rfl⟩ := Option.map_eq_some_iff.mp e
    have h2 : x.cps[i]? = some c := by simpa using h1
    refine ⟨(Array.getElem?_eq_some_iff.mp h2).1, fun v H' ⟨y1, c', y2, y3⟩ => .inl ⟨y1, ?_⟩⟩
    rw [h2] at y2
    cases y2
    subst y3
    exact .str _ (sg_one h (List.mem_of_getElem? h1))
  · unfold strItems at hi
    rw [List.length_map] at hi
    show x.cps.size ≤ i
    simpa using hi
theorem pdi_val (h : PD X e f) : PDI X tg e (aItem f) := by
  obtain ⟨t, ht, k⟩ := h
  refine ⟨_, pi_or (pi_list ht) (pi_or (pi_tup ht) (pi_str ht)), fun σ H F ρ g pre ds g' ev R q => ?_⟩
  obtain ⟨d, g1, e1, ev⟩ := mb_inv ev
  obtain ⟨e2, rfl⟩ := ml_inv ev
  cases d <;> try (cases e2; done)
  · have e2 := Option.some.inj e2
    subst e2
    refine .inr (.inr (k σ H F ρ g pre _ _ e1 _ fun v H1 F1 s1 r1 => ?_))
    obtain ⟨rfl, h⟩ := rp_str r1
    exact ⟨_, rfl, q _ H1 F1 s1 (its_str h)⟩
  · have e2 := Option.some.inj e2
    subst e2
    refine .inr (.inl (k σ H F ρ g pre _ _ e1 _ fun v H1 F1 s1 r1 => ?_))
    obtain ⟨a, xs, rfl, h1, h2, h3⟩ := rp_tup r1
    exact ⟨a, rfl, ⟨xs, sqT_mono s1.sub h1⟩, q _ H1 F1 s1 (its_tup h1 h3)⟩
  · have e2 := Option.some.inj e2
    subst e2
    refine .inl (k σ H F ρ g pre _ _ e1 _ fun v H1 F1 s1 r1 => ?_)
    obtain ⟨a, xs, rfl, h1, h2, h3⟩ := rp_lst r1
    refine ⟨a, rfl, ⟨xs, sqL_mono s1.sub h1⟩, q _ H1 F1 s1 fun H2 s2 => ?_⟩
    refine ⟨fun i d e => ?_, fun i hi => ⟨xs, sqL_mono s2 h1, by rw [h3.length]; exact hi⟩⟩
    obtain ⟨v, h4, h5⟩ := h3.get e
    refine ⟨⟨xs, v, sqL_mono s2 h1, h4⟩, fun x H' ⟨y1, y2⟩ => .inl ⟨y1, ?_⟩⟩
    have y3 := y2 xs (sqL_mono s2 h1)
    rw [h4] at y3
    cases y3
    exact h5
/-- a list of one's own, in a comprehension -/
def aOwn (i : Nat) : EA := fun ρ => ml (match ρ[i]? with
  | some (some (.ol l)) => some l
  | some (some (.d d)) => itemsD d
  | _ => none)
def rangeD (lo : Int) : Nat → List D
  | 0 => []
  | n + 1 => .int lo :: rangeD (lo + 1) n
theorem rangeD_length : ∀ (lo : Int) (n : Nat), (rangeD lo n).length = n
  | _, 0 => rfl
  | lo, n + 1 => by simp [rangeD, rangeD_length (lo + 1) n]
theorem rangeD_get : ∀ {n : Nat} {lo : Int} {i : Nat} {d : D}, (rangeD lo n)[i]? = some d → i < n ∧ d = .int (lo + i)
  | 0, lo, i, d, h => by simp [rangeD] at h
  | n + 1, lo, 0, d, h => by simp [rangeD] at h; exact ⟨Nat.succ_pos n, by rw [← h]; simp⟩
  | n + 1, lo, i + 1, d, h => by
    obtain ⟨h1, h2⟩ := rangeD_get (n := n) (lo := lo + 1) (i := i) (by simpa [rangeD] using h)
    exact ⟨Nat.succ_lt_succ h1, by rw [h2]; congr 1; omega⟩
theorem its_range {K : PySem.W.Frag} {W F : Fz} {lo : Int} {n : Nat} : ItS K (Itr lo n) W F (rangeD lo n) := fun H s => by
  refine ⟨fun i d e => ?_, fun i hi => by rw [rangeD_length] at hi; exact hi⟩
  obtain ⟨h1, rfl⟩ := rangeD_get e
  exact ⟨h1, fun v H' ⟨y1, y2⟩ => .inl ⟨y1, by rw [y2]; exact .int _⟩⟩
def range1M (ds : List D) : Option (List D) := match ds with
  | [.int j] => if -(2 ^ 62) ≤ j ∧ j < 2 ^ 62 then some (rangeD 0 j.toNat) else none
  | _ => none
def range2M (ds : List D) : Option (List D) := match ds with
  | [.int i, .int j] => if (-(2 ^ 62) ≤ i ∧ i < 2 ^ 62) ∧ (-(2 ^ 62) ≤ j ∧ j < 2 ^ 62) then some (rangeD i (j - i).toNat) else none
  | _ => none
theorem pdi_range1 (hm : X.mg "range" = none) (ha : PDA X [e] fs) (hg : Gl X "range" := by rfl) (hs : starEach [e] X.env = [(false, eval e X.env)] := by rfl) : PDI X tg (.Call (.Name "range" p) [e] [] pos) (aIt range1M fs) := by
  obtain ⟨t, ht, k⟩ := ha
  refine ⟨_, pi_range1 hg hm ht hs, fun σ H F ρ g pre ds g' ev R q => ?_⟩
  obtain ⟨as, g1, e1, ev⟩ := mb_inv ev
  obtain ⟨e2, rfl⟩ := ml_inv ev
  refine k σ H F ρ g pre as _ e1 _ fun vs H1 F1 s1 r1 => ?_
  unfold range1M at e2
  split at e2
  · rename_i j
    split at e2
    · rename_i hj
      cases e2
      have r1 : RpA X.K F1 vs ([j].map D.int) := r1
      rw [r1.ints]
      exact ⟨j, rfl, hj.1, hj.2, q _ H1 F1 s1 its_range⟩
    · cases e2
  · cases e2
theorem pdi_range2 (hm : X.mg "range" = none) (ha : PDA X [e, e2] fs) (hg : Gl X "range" := by rfl) (hs : starEach [e, e2] X.env = [(false, eval e X.env), (false, eval e2 X.env)] := by rfl) (hs2 : starEach [e2] X.env = [(false, eval e2 X.env)] := by rfl) :
    PDI X tg (.Call (.Name "range" p) [e, e2] [] pos) (aIt range2M fs) := by
  obtain ⟨t, ht, k⟩ := ha
  refine ⟨_, pi_range2 hg hm ht hs hs2, fun σ H F ρ g pre ds g' ev R q => ?_⟩
  obtain ⟨as, g1, e1, ev⟩ := mb_inv ev
  obtain ⟨e2, rfl⟩ := ml_inv ev
  refine k σ H F ρ g pre as _ e1 _ fun vs H1 F1 s1 r1 => ?_
  unfold range2M at e2
  split at e2
  · rename_i i j
    split at e2
    · rename_i hj
      cases e2
      rw [rp_ints2 r1]
      exact ⟨i, j, rfl, ⟨hj.1.1, hj.1.2, hj.2.1, hj.2.2⟩, q _ H1 F1 s1 its_range⟩
    · cases e2
  · cases e2
end
end PD
end
section
set_option Elab.async false
set_option linter.all false
set_option maxRecDepth 100000
set_option maxHeartbeats 4000000
set_option autoImplicit false
namespace PD
open PySem PySem.Spec L2
open PyProof.Rows hiding St
variable [Live]

/-! ### subscripts -/
theorem pe_or' {X : Cx} {e : Expr} {t t' : TE} (h : PE X e t) (h' : PE X e t') : PE X e (fun σ H Q => t σ H Q ∨ t' σ H Q) := ⟨fun pins s σ H Q I q => q.elim (h.run pins s σ H Q I) (h'.run pins s σ H Q I)⟩
def lookD (ks : List Key) (l : List D) (k : Key) : Option D := match ks, l with
  | k' :: ks, d :: l => if k' = k then some d else lookD ks l k
  | _, _ => none
theorem lookD_ok {K : PySem.W.Frag} {F : Fz} {k : Key} : ∀ {kvs : List (Key × V)} {l : List D} {d : D}, RpA K F (kvs.map (·.2)) l → lookD (kvs.map (·.1)) l k = some d → ∃ v, valV kvs k = some v ∧ Rp K F v d
  | [], l, d, r, e => by cases l <;> cases e
  | (k', v) :: kvs, l, d, r, e => by
    cases r with
    | cons r rr =>
      simp only [List.map_cons, lookD] at e
      by_cases h : k' = k
      · rw [if_pos h] at e
        cases e
        exact ⟨v, valV_pos h, r⟩
      · rw [if_neg h] at e
        obtain ⟨u, h1, h2⟩ := lookD_ok rr e
        exact ⟨u, by rw [valV_neg h]; exact h1, h2⟩
theorem rp_hd {K : PySem.W.Frag} {F : Fz} {v : V} {n : Nat} {a : Addr} (h : Rp K F v (.hd n)) (e : F.mu[n]? = some a) : v = .ref a := by
  cases h with
  | hd h => rw [h] at e; cases e; rfl
def ixD (g : G) (x y : D) : Option D := match x, y with
  | .lst l, .int i => atI l i
  | .tup l, .int i => atI l i
  | .str z, .int i => (atI z.cps.toList i).map fun c => .str ⟨#[c]⟩
  | .dk ks l, y => (keyD y).bind fun k => lookD ks l k
  | .hd a, y => match g[a]? with
    | some (.mk ks l) => (keyD y).bind fun k => lookD ks l k
    | some (.ml l) => match y with
      | .int i => atI l i
      | _ => none
    | some (.mx _ _ _) => none
    | some (.mt _) => none
    | none => none
  | _, _ => none
def eIx (a b : E) : E := fun ρ => mb (a ρ) fun x => mb (b ρ) fun y => fun g => (ixD g x y).map fun d => (d, g)
theorem atI_rp {K : PySem.W.Frag} {F : Fz} {vs : List V} {l : List D} {i : Int} {d : D} (r : RpA K F vs l) (e : atI l i = some d) : ∃ v, atI vs i = some v ∧ Rp K F v d := by
  unfold atI at e ⊢
  rw [r.length]
  obtain ⟨j, h1, h2⟩ := Option.bind_eq_some_iff.mp e
  obtain ⟨v, h3, h4⟩ := r.get h2
  exact ⟨v, by rw [h1]; exact h3, h4⟩
section
variable {X : Cx} {a b : Expr} {fa fb : E} {pos : Pos} {k : Nat}
theorem pd_ix (hr : Room k X.A) (ha : PD X a fa) (hb : PD X b fb) (hs : PlainIx b := by exact fun _ _ => rfl) (hs2 : NoSl b := by exact fun _ _ => rfl) : PD X (.Subscript a b pos) (eIx fa fb) := by
  obtain ⟨ta, pa, ka⟩ := ha
  obtain ⟨tb, pb, kb⟩ := hb
  have hu : X.A.units + 1 < cLine := hu_of hr
  refine ⟨_, pe_or' (pe_ix ix_seq pa pb hs) (pe_dget hu pa pb hs2), fun σ H F ρ g pre d g' e Q q => ?_⟩
  obtain ⟨dx, g1, e1, e⟩ := mb_inv e
  obtain ⟨dy, g2, e2, e⟩ := mb_inv e
  obtain ⟨z, e3, e4⟩ := Option.map_eq_some_iff.mp e
  cases e4
  have run : ∀ {R : V → V → Hp → Prop}, (∀ x y H2 F2, Stp X.K g g' F F2 H H2 → Rp X.K F2 x dx → Rp X.K F2 y dy → R x y H2) → ta σ H fun x H1 => tb σ H1 fun y H2 => R x y H2 := fun {R} hR =>
    ka σ H F ρ g pre dx g1 e1 _ fun x H1 F1 s1 r1 => kb σ H1 F1 ρ g1 (pre.step s1) dy g' e2 _ fun y H2 F2 s2 r2 => hR x y H2 F2 (s1.trans s2) (r1.mono s2.ext) r2
  unfold ixD at e3
  split at e3
  · refine .inl (run fun x y H2 F2 s r1 r2 => ?_)
    obtain ⟨p, xs, rfl, h1, h2, h3⟩ := rp_lst r1
    obtain ⟨v, h4, h5⟩ := atI_rp h3 e3
    exact .inl ⟨p, xs, _, v, rfl, rp_int r2, sqL_mono s.sub h1, h4, q v H2 F2 s h5⟩
  · refine .inl (run fun x y H2 F2 s r1 r2 => ?_)
    obtain ⟨p, xs, rfl, h1, h2, h3⟩ := rp_tup r1
    obtain ⟨v, h4, h5⟩ := atI_rp h3 e3
    exact .inr (.inl ⟨p, xs, _, v, rfl, rp_int r2, sqT_mono s.sub h1, h4, q v H2 F2 s h5⟩)
  · refine .inl (run fun x y H2 F2 s r1 r2 => ?_)
    obtain ⟨c, h1, rfl⟩ := Option.map_eq_some_iff.mp e3
    obtain ⟨rfl, hz⟩ := rp_str r1
    refine .inr (.inr ⟨_, _, c, rfl, rp_int r2, sOk_len hz, h1, q _ H2 F2 s (.str _ (sg_one hz ?_))⟩)
    unfold atI at h1
    obtain ⟨j, _, h3⟩ := Option.bind_eq_some_iff.mp h1
    exact List.mem_of_getElem? h3
  · refine .inr (run fun x y H2 F2 s r1 r2 => ?_)
    obtain ⟨kk, h1, h2⟩ := Option.bind_eq_some_iff.mp e3
    obtain ⟨p, kvs, rfl, h3, rfl, h5⟩ := rp_dk r1
    obtain ⟨v, h6, h7⟩ := lookD_ok h5 h2
    exact ⟨p, v, rfl, .inl ⟨kvs, kk, Rd.mono s.sub h3, keyD_ok r2 h1, h6.symm⟩, q v H2 F2 s h7⟩
  · split at e3
    · rename_i hg
      refine .inr (run fun x y H2 F2 s r1 r2 => ?_)
      obtain ⟨kk, h1, h2⟩ := Option.bind_eq_some_iff.mp e3
      obtain ⟨a, hm, _, kvs, h3, rfl, h5⟩ := s.rep.get hg
      have := rp_hd r1 hm
      subst this
      obtain ⟨v, h6, h7⟩ := lookD_ok h5 h2
      exact ⟨_, v, rfl, .inl ⟨kvs, kk, .inl h3, keyD_ok r2 h1, h6.symm⟩, q v H2 F2 s h7⟩
    · rename_i hg
      split at e3
      · refine .inl (run fun x y H2 F2 s r1 r2 => ?_)
        obtain ⟨a, hm, _, vs, h3, h4, h5⟩ := s.rep.get hg
        have := rp_hd r1 hm
        subst this
        obtain ⟨v, h6, h7⟩ := atI_rp h5 e3
        exact .inl ⟨_, vs, _, v, rfl, rp_int r2, .of h3, h6, q v H2 F2 s h7⟩
      · cases e3
    · cases e3
    · cases e3
    · cases e3
  · cases e3
/-- an item of a list | dict of one's own -/
def ixO (lv : LV) (y : D) : Option D := match lv, y with
  | .ol l, .int i => atI l i
  | .ok ks l, y => (keyD y).bind fun k => lookD ks l k
  | _, _ => none
def eIxO (i : Nat) (b : E) : E := fun ρ => mb (b ρ) fun y => ml (match ρ[i]? with
  | some (some lv) => ixO lv y
  | _ => none)
theorem pd_ixo (hr : Room k X.A) (i : Nat) {x : Str} {p : Pos} (hb : PD X b fb) (hN : X.N[i]? = some x := by rfl) (hv : Vis X.env.scope x := by first | exact Or.inl rfl | exact Or.inr (Or.inl rfl) | exact Or.inr (Or.inr rfl))
    (hd : (x == ("__debug__" : Str)) = false := by decide) (hcd : (x == ("__classdict__" : Str)) = false := by decide) (hs : PlainIx b := by exact fun _ _ => rfl) (hs2 : NoSl b := by exact fun _ _ => rfl) : PD X (.Subscript (.Name x p) b pos) (eIxO i fb) := by
  obtain ⟨tb, pb, kb⟩ := hb
  have hu : X.A.units + 1 < cLine := hu_of hr
  have pa : PE X (.Name x p) (tVar i) := pe_var hN hv hd hcd
  refine ⟨_, pe_or' (pe_ix ix_seq pa pb hs) (pe_dget hu pa pb hs2), fun σ H F ρ g pre d g' e Q q => ?_⟩
  obtain ⟨dy, g2, e2, e⟩ := mb_inv e
  obtain ⟨e3, rfl⟩ := ml_inv e
  cases h : ρ[i]? with
  | none => rw [h] at e3; cases e3
  | some o =>
    cases o with
    | none => rw [h] at e3; cases e3
    | some lv =>
      rw [h] at e3
      have e3 : ixO lv dy = some d := e3
      obtain ⟨v, h1, h2⟩ := pre.sl.at_ i lv h
      unfold ixO at e3
      split at e3
      · obtain ⟨p, vs, rfl, h3, h4, h5, h6, h7⟩ := h2
        refine .inl ⟨_, h1, kb σ H F ρ g pre _ _ e2 _ fun y H2 F2 s r2 => ?_⟩
        obtain ⟨w, h8, h9⟩ := atI_rp (h7.mono s.ext) e3
        exact .inl ⟨p, vs, _, w, rfl, rp_int r2, .of (s.same _ _ h4 h5), h8, q w H2 F2 s h9⟩
      · obtain ⟨kk, h8, h9⟩ := Option.bind_eq_some_iff.mp e3
        obtain ⟨p, kvs, rfl, h3, h4, h5, rfl, h7⟩ := h2
        refine .inr ⟨_, h1, kb σ H F ρ g pre _ _ e2 _ fun y H2 F2 s r2 => ?_⟩
        obtain ⟨w, h10, h11⟩ := lookD_ok (h7.mono s.ext) h9
        exact ⟨p, w, rfl, .inl ⟨kvs, kk, .inl (s.same _ _ h4 h5), keyD_ok r2 h8, h10.symm⟩, q w H2 F2 s h11⟩
      · cases e3
/-! ### slices -/
def cutL {α : Type} (xs : List α) (lo hi : Option Int) : List α := (xs.drop (HT.sIx xs.length 0 lo)).take (HT.sIx xs.length xs.length hi - HT.sIx xs.length 0 lo)
def slD (x : D) (lo hi : Option Int) : Option D := match x with
  | .lst l => some (.lst (cutL l lo hi))
  | .tup l => some (.tup (cutL l lo hi))
  | .str z => some (.str (cutS z lo hi))
  | _ => none
theorem rp_cut {K : PySem.W.Frag} {F : Fz} {vs : List V} {l : List D} (r : RpA K F vs l) (lo hi : Option Int) : RpA K F (cutV vs lo hi) (cutL l lo hi) := by
  unfold cutV cutL
  rw [r.length]
  exact (r.drop _).take _
theorem cutL_len {α : Type} (l : List α) (lo hi : Option Int) : (cutL l lo hi).length ≤ l.length := by
  unfold cutL
  rw [List.length_take, List.length_drop]
  omega
theorem cutS_ok {z : Str} (h : sOk z = true) (lo hi : Option Int) : sOk (cutS z lo hi) = true := by
  refine sOk_mk (strOk_iff.mpr fun c hc => strOk_iff.mp (sOk_ok h) c ?_) ?_
  · unfold cutS at hc
    simp only at hc
    exact List.mem_of_mem_drop (List.mem_of_mem_take hc)
  · have h2 := sOk_len h
    unfold cutS Str.length
    simp only [List.size_toArray, List.length_take, List.length_drop]
    have : z.cps.toList.length = z.length := by simp [Str.length]
    show min _ (z.cps.toList.length - _) ≤ sizeLine
    omega
abbrev rSlAll (K : PySem.W.Frag) : V → Option Int → Option Int → Hp → VK → Prop := fun x lo hi H Q => rSlL K x lo hi H Q ∨ (rSlA K x lo hi H Q ∨ rSlS x lo hi H Q)
theorem sl_all : SlR X (rSlAll X.K) := sl_list.or (sl_tupA.or sl_str)
/-- a slice's end -/
def PDP (X : Cx) (e : Option Expr) (f : Rho → M (Option Int)) : Prop := ∃ t, L2.PO X e t ∧ ∀ σ H F ρ g, PreE X.K F H g ρ σ → ∀ o g', f ρ g = some (o, g') → ∀ Q : Option Int → Hp → Prop, (∀ H' F', Stp X.K g g' F F' H H' → Q o H') → t σ H Q
def pNone : Rho → M (Option Int) := fun _ => mr none
def pSome (f : E) : Rho → M (Option Int) := fun ρ => mb (f ρ) fun d => match d with
  | .int i => mr (some i)
  | _ => mz
theorem pdp_none : PDP X none pNone := ⟨_, po_none, fun σ H F ρ g pre o g' e Q q => by
  obtain ⟨rfl, rfl⟩ := mr_inv e
  exact q H F pre.refl⟩
theorem pdp_some (h : PD X a fa) : PDP X (some a) (pSome fa) := by
  obtain ⟨t, ht, k⟩ := h
  refine ⟨_, po_some ht, fun σ H F ρ g pre o g' e Q q => ?_⟩
  obtain ⟨d, g1, e1, e⟩ := mb_inv e
  cases d <;> try (cases e; done)
  obtain ⟨rfl, rfl⟩ := mr_inv e
  refine k σ H F ρ g pre _ _ e1 _ fun v H1 F1 s1 r1 => ?_
  rw [rp_int r1]
  exact ⟨_, rfl, q H1 F1 s1⟩
def eSl (a : E) (lo hi : Rho → M (Option Int)) : E := fun ρ => mb (a ρ) fun x => mb (lo ρ) fun l => mb (hi ρ) fun h => ml (slD x l h)
theorem pd_slice {lo hi : Option Expr} {fl fh : Rho → M (Option Int)} {p2 : Pos} (ha : PD X a fa) (hl : PDP X lo fl) (hh : PDP X hi fh) : PD X (.Subscript a (.Slice lo hi none p2) pos) (eSl fa fl fh) := by
  obtain ⟨ta, pa, ka⟩ := ha
  obtain ⟨tl, pl, kl⟩ := hl
  obtain ⟨th, ph, kh⟩ := hh
  refine ⟨_, pe_slice sl_all pa pl ph, fun σ H F ρ g pre d g' e Q q => ?_⟩
  obtain ⟨dx, g1, e1, e⟩ := mb_inv e
  obtain ⟨l, g2, e2, e⟩ := mb_inv e
  obtain ⟨h, g3, e3, e⟩ := mb_inv e
  obtain ⟨e4, rfl⟩ := ml_inv e
  refine ka σ H F ρ g pre dx g1 e1 _ fun x H1 F1 s1 r1 => kl σ H1 F1 ρ g1 (pre.step s1) l g2 e2 _ fun H2 F2 s2 => kh σ H2 F2 ρ g2 (pre.step (s1.trans s2)) h _ e3 _ fun H3 F3 s3 => ?_
  have s := (s1.trans s2).trans s3
  have r := r1.mono (s2.ext.trans s3.ext)
  unfold slD at e4
  split at e4
  · cases e4
    obtain ⟨p, xs, rfl, h1, h2, h3⟩ := rp_lst r
    exact .inl ⟨p, xs, rfl, sqL_mono s.sub h1, fun c hc => q _ _ _ (s.trans (.alloc s.sub s.rep hc)) (rp_new_lst (s.sub.free hc) (Nat.le_trans (cutL_len _ _ _) (by rw [← h3.length]; exact h2)) (rp_cut h3 l h))⟩
  · cases e4
    obtain ⟨p, xs, rfl, h1, h2, h3⟩ := rp_tup r
    refine .inr (.inl ⟨p, xs, rfl, sqT_mono s.sub h1, fun hw => ?_, fun _ c hc => q _ _ _ (s.trans (.alloc s.sub s.rep hc)) (rp_new_tup (s.sub.free hc) (Nat.le_trans (cutL_len _ _ _) (by rw [← h3.length]; exact h2)) (rp_cut h3 l h))⟩)
    have e5 : ∀ ds : List D, xs.length = ds.length → cutL ds l h = ds := fun ds hl => by
      unfold cutL
      rw [← hl, hw.1, hw.2, List.drop_zero, Nat.sub_zero, hl, List.take_length]
    rw [e5 _ h3.length] at q
    exact q _ H3 F3 s r
  · cases e4
    obtain ⟨rfl, hz⟩ := rp_str r
    exact .inr (.inr ⟨_, rfl, sOk_len hz, q _ H3 F3 s (.str _ (cutS_ok hz l h))⟩)
  · cases e4
end
end PD
end
section
set_option Elab.async false
set_option linter.all false
set_option maxRecDepth 100000
set_option maxHeartbeats 4000000
set_option autoImplicit false
namespace PD
open PySem PySem.Spec L2
open PyProof.Rows hiding St
variable [Live]

/-! ### things of one's own are changed -/
theorem PreS.mut {K : PySem.W.Frag} {en : Ent} {F : Fz} {H : Hp} {g : G} {ρ : Rho} {σ : St} {i : Nat} {p : Addr} {lv lv' : LV} {o : HO} (pre : PreS K en F H g ρ σ) (h : ρ[i]? = some (some lv)) (ow : lv.own = true) (hσ : σ[i]? = some (some (.ref p))) (ow' : lv'.own = true)
    (hF : F p = none) (hg : p ∉ F.mu) (ok : SlotOk K F (upd H p o) g (.ref p) lv') : PreS K en F (upd H p o) g (ρ.set i (some lv')) σ := by
  have hp : Owned ρ σ i p := ⟨lv, h, ow, hσ⟩
  have hi : i < ρ.length := (List.getElem?_eq_some_iff.mp h).1
  have old : ∀ j w, Owned (ρ.set i (some lv')) σ j w → Owned ρ σ j w := fun j w ⟨l, q1, q2, q3⟩ => by
    by_cases e : i = j
    · subst e
      exact ⟨lv, h, ow, q3⟩
    · rw [List.getElem?_set_ne e] at q1
      exact ⟨l, q1, q2, q3⟩
  have st' := pre.st.mut (o := o) (pre.fr i p hp) hF hg
  refine ⟨⟨st'.sub, st'.rep, by rw [List.length_set]; exact pre.e.sl.len, fun j l z => ?_, fun j k w z1 z2 => pre.e.sl.sep j k w (old j w z1) (old k w z2)⟩, st', fun j w z => pre.fr j w (old j w z)⟩
  · by_cases e : i = j
    · subst e
      rw [List.getElem?_set_self hi] at z
      cases z
      exact ⟨_, hσ, ok⟩
    · rw [List.getElem?_set_ne e] at z
      obtain ⟨v, h1, h2⟩ := pre.e.sl.at_ j l z
      refine ⟨v, h1, ?_⟩
      have ne : l.own = true → ∀ w, v = .ref w → w ≠ p := fun w1 w w2 z3 => by
        subst w2 z3
        exact e (pre.e.sl.sep i j w hp ⟨l, z, w1, h1⟩)
      cases l with
      | d x => exact h2
      | ol ds => obtain ⟨w, vs, e1, e2, e3, e4, e5⟩ := h2; exact ⟨w, vs, e1, e2, e3, by rw [upd_ne (ne rfl w e1)]; exact e4, e5⟩
      | ok ks ds => obtain ⟨w, vs, e1, e2, e3, e4, e5⟩ := h2; exact ⟨w, vs, e1, e2, e3, by rw [upd_ne (ne rfl w e1)]; exact e4, e5⟩
      | ot ks ds => obtain ⟨w, vs, e1, e2, e3, e4, e5⟩ := h2; exact ⟨w, vs, e1, e2, e3, by rw [upd_ne (ne rfl w e1)]; exact e4, e5⟩
      | fn => exact h2
def olAt (ρ : Rho) (i : Nat) : Option (List D) := match ρ[i]? with
  | some (some (.ol l)) => some l
  | _ => none
theorem olAt_inv {ρ : Rho} {i : Nat} {l : List D} (h : olAt ρ i = some l) : ρ[i]? = some (some (.ol l)) := by
  unfold olAt at h
  split at h
  · cases h; assumption
  · cases h
def sAppend (i : Nat) (f : E) : S := fun ρ => mb (f ρ) fun d => ml ((olAt ρ i).bind fun l => if l.length < sizeLine then some (.nx (ρ.set i (some (.ol (l ++ [d]))))) else none)
def sExtend (i : Nat) (f : EA) : S := fun ρ => mb (f ρ) fun m => ml ((olAt ρ i).bind fun l => if l.length + m.length ≤ sizeLine then some (.nx (ρ.set i (some (.ol (l ++ m))))) else none)
theorem bind_if {α : Type} {o : Option (List D)} {P : List D → Prop} [∀ l, Decidable (P l)] {r : List D → α} {x : α} (h : (o.bind fun l => if P l then some (r l) else none) = some x) : ∃ l, o = some l ∧ P l ∧ r l = x := by
  obtain ⟨l, h1, h2⟩ := Option.bind_eq_some_iff.mp h
  by_cases hp : P l
  · rw [if_pos hp] at h2; exact ⟨l, h1, hp, Option.some.inj h2⟩
  · rw [if_neg hp] at h2; cases h2
theorem ol_inv {K : PySem.W.Frag} {F : Fz} {H : Hp} {g : G} {ρ : Rho} {σ : St} {i : Nat} {l : List D} (pre : PreE K F H g ρ σ) (h : ρ[i]? = some (some (.ol l))) :
    ∃ p vs, σ[i]? = some (some (.ref p)) ∧ F p = none ∧ p ∉ F.mu ∧ H p = some (.lst vs) ∧ vs.length ≤ sizeLine ∧ RpA K F vs l := by
  obtain ⟨v, h1, p, vs, rfl, h2⟩ := pre.sl.at_ i _ h
  exact ⟨p, vs, h1, h2⟩
section
variable {X : Cx} {e b : Expr} {f fb : E} {fs : EA} {x : Str} {p ap cp pos : Pos}
theorem pds_append (i : Nat) (h : PD X e f) (hN : X.N[i]? = some x := by rfl) (hv : Vis X.env.scope x := by first | exact Or.inl rfl | exact Or.inr (Or.inl rfl) | exact Or.inr (Or.inr rfl))
    (hd : (x == ("__debug__" : Str)) = false := by decide) (hcd : (x == ("__classdict__" : Str)) = false := by decide)
    (hbase : attributeBase (.Name x p) "append" X.env (eval (.Name x p) X.env) = eval (.Name x p) X.env := by rfl)
    (hfew : ((backTo cp (starEach [e] X.env)).all (fun x => !x.1) && (backToKw cp (keywordEach [] X.env)).all (fun x => x.1.isSome)
      && decide ([e].length + ([] : List Keyword).length + (if ([] : List Keyword).isEmpty then 0 else 1) < 30)) = true := by rfl)
    (hline : (ap.endLine == cp.line) = true := by rfl) (hs : starEach [e] X.env = (false, eval e X.env) :: starEach [] X.env := by rfl) (hsw : swapsWith (.Call (.Attribute (.Name x p) "append" ap) [e] [] cp) none pos.line X.env = pure false := by rfl) :
    PDS X (.Expr (.Call (.Attribute (.Name x p) "append" ap) [e] [] cp) pos) (sAppend i f) := by
  obtain ⟨t, ht, k⟩ := h
  refine ⟨_, ps_expr (pe_bm PySem.F.plainAttrs_list PySem.F.slot_list_append PySem.F.type_list_append mt_append (pe_var hN hv hd hcd) (pa_cons ht pa_nil hs) hbase hfew hline hs (by rfl)) hsw, fun en σ H F ρ g pre fl g' ev De post => ?_⟩
  obtain ⟨d, g1, e1, ev⟩ := mb_inv ev
  obtain ⟨ev2, rfl⟩ := ml_inv ev
  obtain ⟨l, hl0, hz, rfl⟩ := bind_if ev2
  have hl := olAt_inv hl0
  · · obtain ⟨q, vs, h1, h2, h3, h4, h5, h6⟩ := ol_inv pre.e hl
      refine ⟨_, h1, .inl ⟨rfl, vs, .of h4⟩, k σ H F ρ g pre.e d _ e1 _ fun v H1 F1 s1 r1 => ?_⟩
      have pre1 := pre.step s1
      have h4' : H1 q = some (.lst vs) := s1.same _ _ h3 h4
      have hl' : vs.length = l.length := h6.length
      refine ⟨q, vs, v, rfl, rfl, h4', by omega, post σ _ F1 (pre1.mut hl rfl h1 rfl (s1.keepN h2 h4) (s1.keepM h3 h4) ⟨q, vs ++ [v], rfl, s1.keepN h2 h4, s1.keepM h3 h4, upd_same, ?_, (h6.mono s1.ext).append (.cons r1 .nil)⟩)⟩
      rw [List.length_append]
      simp only [List.length_cons, List.length_nil]
      omega
theorem pds_extend (i : Nat) (h : PO X e fs) (hN : X.N[i]? = some x := by rfl) (hv : Vis X.env.scope x := by first | exact Or.inl rfl | exact Or.inr (Or.inl rfl) | exact Or.inr (Or.inr rfl))
    (hd : (x == ("__debug__" : Str)) = false := by decide) (hcd : (x == ("__classdict__" : Str)) = false := by decide)
    (hbase : attributeBase (.Name x p) "extend" X.env (eval (.Name x p) X.env) = eval (.Name x p) X.env := by rfl)
    (hfew : ((backTo cp (starEach [e] X.env)).all (fun x => !x.1) && (backToKw cp (keywordEach [] X.env)).all (fun x => x.1.isSome)
      && decide ([e].length + ([] : List Keyword).length + (if ([] : List Keyword).isEmpty then 0 else 1) < 30)) = true := by rfl)
    (hline : (ap.endLine == cp.line) = true := by rfl) (hs : starEach [e] X.env = (false, eval e X.env) :: starEach [] X.env := by rfl) (hsw : swapsWith (.Call (.Attribute (.Name x p) "extend" ap) [e] [] cp) none pos.line X.env = pure false := by rfl) :
    PDS X (.Expr (.Call (.Attribute (.Name x p) "extend" ap) [e] [] cp) pos) (sExtend i fs) := by
  obtain ⟨t, ht, k⟩ := h
  refine ⟨_, ps_expr (pe_bm PySem.F.plainAttrs_list PySem.F.slot_list_extend PySem.F.type_list_extend mt_extend (pe_var hN hv hd hcd) (pa_cons ht pa_nil hs) hbase hfew hline hs (by rfl)) hsw, fun en σ H F ρ g pre fl g' ev De post => ?_⟩
  obtain ⟨m, g1, e1, ev⟩ := mb_inv ev
  obtain ⟨ev2, rfl⟩ := ml_inv ev
  obtain ⟨l, hl0, hz, rfl⟩ := bind_if ev2
  have hl := olAt_inv hl0
  · · obtain ⟨q, vs, h1, h2, h3, h4, h5, h6⟩ := ol_inv pre.e hl
      refine ⟨_, h1, .inl ⟨rfl, vs, .of h4⟩, k σ H F ρ g pre.e m _ e1 _ fun r H1 F1 ws s1 n1 n2 n3 n4 n5 n6 => ?_⟩
      have pre1 := pre.step s1
      have h4' : H1 q = some (.lst vs) := s1.same _ _ h3 h4
      have l1 : vs.length = l.length := h6.length
      have l2 : ws.length = m.length := n6.length
      refine ⟨q, r, vs, ws, rfl, rfl, h4', n4, by omega, post σ _ F1 (pre1.mut hl rfl h1 rfl (s1.keepN h2 h4) (s1.keepM h3 h4) ⟨q, vs ++ ws, rfl, s1.keepN h2 h4, s1.keepM h3 h4, upd_same, ?_, (h6.mono s1.ext).append n6⟩)⟩
      rw [List.length_append]
      omega
/-! ### items of a list of one's own are set -/
def sSetO (i : Nat) (b f : E) : S := fun ρ => mb (f ρ) fun d => mb (b ρ) fun y => ml (match y with
  | .int k => (olAt ρ i).bind fun l => (ixN l.length k).map fun j => .nx (ρ.set i (some (.ol (l.set j d))))
  | _ => none)
theorem pds_setO (i : Nat) (hb : PD X b fb) (h : PD X e f) (hN : X.N[i]? = some x := by rfl) (hv : Vis X.env.scope x := by first | exact Or.inl rfl | exact Or.inr (Or.inl rfl) | exact Or.inr (Or.inr rfl))
    (hd : (x == ("__debug__" : Str)) = false := by decide) (hcd : (x == ("__classdict__" : Str)) = false := by decide)
    (ha : ∀ v, assign (.Subscript (.Name x p) b ap) X.env v = (do
      let ov ← holding [v] (eval (.Name x p) X.env)
      let iv ← holding [v, ov] (eval b X.env)
      standAt ap
      holding [v, ov, iv] (setItem ov iv v)
      release [v, ov, iv] []) := by intro _; rfl) (hs : swapsWithSole [.Subscript (.Name x p) b ap] e pos.line X.env = pure false := by rfl) (hw : swappedStores [.Subscript (.Name x p) b ap] e X.env = pure none := by rfl)
    (h1 : (assignEach [.Subscript (.Name x p) b ap] X.env).map (·.2) = [assign (.Subscript (.Name x p) b ap) X.env] := by rfl) :
    PDS X (.Assign [.Subscript (.Name x p) b ap] e pos) (sSetO i fb f) := by
  obtain ⟨t, ht, k⟩ := h
  obtain ⟨tb, pb, kb⟩ := hb
  refine ⟨_, ps_asg ht (pg_sub (pe_var hN hv hd hcd) pb set_list ha) hs hw h1, fun en σ H F ρ g pre fl g' ev De post => ?_⟩
  obtain ⟨d, g1, e1, ev⟩ := mb_inv ev
  obtain ⟨y, g2, e2, ev⟩ := mb_inv ev
  obtain ⟨ev2, rfl⟩ := ml_inv ev
  cases y <;> try (cases ev2; done)
  obtain ⟨l, hl0, h3⟩ := Option.bind_eq_some_iff.mp ev2
  obtain ⟨j, hj, rfl⟩ := Option.map_eq_some_iff.mp h3
  have hl := olAt_inv hl0
  obtain ⟨q, vs, h1, h2, h3, h4, h5, h6⟩ := ol_inv pre.e hl
  refine k σ H F ρ g pre.e d g1 e1 _ fun v H1 F1 s1 r1 => ⟨_, h1, kb σ H1 F1 ρ g1 (pre.e.step s1) _ _ e2 _ fun w H2 F2 s2 r2 => ?_⟩
  have s := s1.trans s2
  have h4' : H2 q = some (.lst vs) := s.same _ _ h3 h4
  have hl' : vs.length = l.length := h6.length
  rw [rp_int r2]
  refine ⟨q, vs, _, j, rfl, rfl, h4', by rw [hl']; exact hj, post σ _ F2 ((pre.step s).mut hl rfl h1 rfl (s.keepN h2 h4) (s.keepM h3 h4) ⟨q, vs.set j v, rfl, s.keepN h2 h4, s.keepM h3 h4, upd_same, by rw [List.length_set]; exact h5, (h6.mono s.ext).set (r1.mono s2.ext) j⟩)⟩
/-! ### the store -/
def updG (g : G) (n : Nat) (m : MO) : G := g.set n m
theorem Stp.store {K : PySem.W.Frag} {g : G} {F : Fz} {H : Hp} {n : Nat} {a : Addr} {m' : MO} {o : HO} (s : Same F.h H) (r : GRep K g F H) (ha : F.mu[n]? = some a) (ok : MOk K F (upd H a o) a m') : Stp K g (updG g n m') F F H (upd H a o) := by
  have hmem : a ∈ F.mu := List.mem_of_getElem? ha
  have hF : F a = none := (r.mem hmem).1
  refine ⟨fun b u h1 h2 => by rw [upd_ne fun z => h1 (by rw [z]; exact hmem)]; exact h2, fun b h => ?_, Ext.refl _, fun b u h => .inl ⟨u, h⟩, fun b h => .inl h, fun b u h => by rw [upd_ne (ne_of_none h hF)]; exact s b u h, ⟨by simp [updG, r.len], r.nd, fun k x b h1 h2 => ?_⟩⟩
  · by_cases e : b = a
    · subst e; rw [upd_same] at h; cases h
    · rw [upd_ne e] at h; exact h
  · unfold updG at h1
    by_cases e : n = k
    · subst e
      rw [ha] at h2
      cases h2
      have hl : n < g.length := by rw [r.len]; exact (List.getElem?_eq_some_iff.mp ha).1
      rw [List.getElem?_set_self hl] at h1
      cases h1
      exact ⟨hF, ok⟩
    · rw [List.getElem?_set_ne e] at h1
      obtain ⟨q1, q2⟩ := r.at_ k x b h1 h2
      have hne : b ≠ a := fun z => by
        subst z
        have l1 := (List.getElem?_eq_some_iff.mp ha).1
        exact e ((List.getElem?_inj l1 r.nd).mp (by rw [ha, h2]))
      exact ⟨q1, q2.mono (Ext.refl _) (upd_ne hne)⟩
/-- d[k] = v: in its place, or at the end -/
def putD : List Key → List D → Key → D → List Key × List D
  | k' :: ks, d' :: l, k, d => if k' = k then (k' :: ks, d :: l) else (k' :: (putD ks l k d).1, d' :: (putD ks l k d).2)
  | _, _, k, d => ([k], [d])
theorem putK_cons {k k' : Key} {v v' : V} {kvs : List (Key × V)} (h : (((k', v') :: kvs).map (·.1)).Nodup) : putK ((k', v') :: kvs) k v = if k' = k then (k', v) :: kvs else (k', v') :: putK kvs k v := by
  unfold putK
  by_cases e : k' = k
  · subst e
    rw [if_pos rfl]
    simp only [List.any_cons, decide_true, Bool.true_or, if_true, List.map_cons]
    congr 1
    have h2 : k' ∉ kvs.map (·.1) := (List.nodup_cons.mp h).1
    conv => rhs; rw [← List.map_id kvs]
    refine List.map_congr_left fun kv hkv => ?_
    rw [if_neg fun z => h2 (by rw [← z]; exact List.mem_map_of_mem hkv)]
    rfl
  · rw [if_neg e]
    simp only [List.any_cons, e, decide_false, Bool.false_or]
    by_cases h3 : (kvs.any fun kv => decide (kv.1 = k)) = true
    · rw [if_pos h3, if_pos h3]
      simp [e]
    · rw [if_neg h3, if_neg h3]
      rfl
theorem putD_ok {K : PySem.W.Frag} {F : Fz} {k : Key} {v : V} {d : D} (rv : Rp K F v d) : ∀ {kvs : List (Key × V)} {l : List D}, (kvs.map (·.1)).Nodup → RpA K F (kvs.map (·.2)) l →
    (putK kvs k v).map (·.1) = (putD (kvs.map (·.1)) l k d).1 ∧ RpA K F ((putK kvs k v).map (·.2)) (putD (kvs.map (·.1)) l k d).2
  | [], l, _, r => by
    cases r
    exact ⟨rfl, .cons rv .nil⟩
  | (k', v') :: kvs, l, h, r => by
    cases r with
    | cons r rr =>
      rw [putK_cons h]
      simp only [List.map_cons, putD]
      by_cases e : k' = k
      · rw [if_pos e, if_pos e]
        exact ⟨rfl, .cons rv rr⟩
      · rw [if_neg e, if_neg e]
        have ih := putD_ok (k := k) rv (List.nodup_cons.mp h).2 rr
        exact ⟨by simp [ih.1], .cons r ih.2⟩
/-- x[y] = v where x is a dict | list of the store -/
def storeD (g : G) (x y v : D) : Option G := match x with
  | .hd a => match g[a]? with
    | some (.mk ks l) => (keyD y).bind fun k => if ks.Nodup ∧ ks.length < sizeLine then some (updG g a (.mk (putD ks l k v).1 (putD ks l k v).2)) else none
    | some (.ml l) => match y with
      | .int i => (ixN l.length i).map fun j => updG g a (.ml (l.set j v))
      | _ => none
    | some (.mx _ _ _) => none
    | some (.mt _) => none
    | none => none
  | _ => none
def sStore (a b f : E) : S := fun ρ => mb (f ρ) fun v => mb (a ρ) fun x => mb (b ρ) fun y => fun g => (storeD g x y v).map fun g' => (.nx ρ, g')
theorem ps_or' {st : Stmt} {t t' : TS} (h : PS X st t) (h' : PS X st t') : PS X st (fun De σ H => t De σ H ∨ t' De σ H) := ⟨fun pins s σ H De I q => q.elim (h.run pins s σ H De I) (h'.run pins s σ H De I)⟩
theorem pds_store {a : Expr} {fa : E} {k : Nat} (hr : Room k X.A) (ha : PD X a fa) (hb : PD X b fb) (h : PD X e f)
    (hsw : swapsWith e (some (.Subscript a b ap)) pos.line X.env = pure false := by rfl)
    (hasg : ∀ v, assign (.Subscript a b ap) X.env v = (do
      let ov ← holding [v] (eval a X.env)
      let iv ← holding [v, ov] (eval b X.env)
      standAt ap
      holding [v, ov, iv] (setItem ov iv v)
      release [v, ov, iv] []) := by intro _; rfl) (hs : swapsWithSole [.Subscript a b ap] e pos.line X.env = pure false := by rfl) (hw : swappedStores [.Subscript a b ap] e X.env = pure none := by rfl)
    (h1 : (assignEach [.Subscript a b ap] X.env).map (·.2) = [assign (.Subscript a b ap) X.env] := by rfl) : PDS X (.Assign [.Subscript a b ap] e pos) (sStore fa fb f) := by
  obtain ⟨t, ht, kv⟩ := h
  obtain ⟨ta, pa, ka⟩ := ha
  obtain ⟨tb, pb, kb⟩ := hb
  refine ⟨_, ps_or' (ps_dput (hu_of hr) pa pb ht hsw) (ps_asg ht (pg_sub pa pb set_list hasg) hs hw h1), fun en σ H F ρ g pre fl g' ev De post => ?_⟩
  obtain ⟨d, g1, e1, ev⟩ := mb_inv ev
  obtain ⟨dx, g2, e2, ev⟩ := mb_inv ev
  obtain ⟨dy, g3, e3, ev⟩ := mb_inv ev
  obtain ⟨g4, e4, e5⟩ := Option.map_eq_some_iff.mp ev
  cases e5
  have run : ∀ {R : V → V → V → Hp → Prop}, (∀ v x y H2 F2, Stp X.K g g3 F F2 H H2 → Rp X.K F2 v d → Rp X.K F2 x dx → Rp X.K F2 y dy → R v x y H2) → t σ H fun v H1 => ta σ H1 fun x H2 => tb σ H2 fun y H3 => R v x y H3 := fun {R} hR =>
    kv σ H F ρ g pre.e d g1 e1 _ fun v H1 F1 s1 r1 => ka σ H1 F1 ρ g1 (pre.e.step s1) dx g2 e2 _ fun x H2 F2 s2 r2 => kb σ H2 F2 ρ g2 (pre.e.step (s1.trans s2)) dy g3 e3 _ fun y H3 F3 s3 r3 =>
      hR v x y H3 F3 ((s1.trans s2).trans s3) (r1.mono (s2.ext.trans s3.ext)) (r2.mono s3.ext) r3
  unfold storeD at e4
  split at e4
  · split at e4
    · rename_i ks l hg
      obtain ⟨kk, h2, h3⟩ := Option.bind_eq_some_iff.mp e4
      by_cases hn : ks.Nodup ∧ ks.length < sizeLine
      · rw [if_pos hn] at h3
        cases h3
        refine .inl (run fun v x y H3 F3 s rv rx ry => ?_)
        obtain ⟨b, hm, _, kvs, h4, h5, h6⟩ := s.rep.get hg
        have := rp_hd rx hm
        subst this
        subst h5
        obtain ⟨q1, q2⟩ := putD_ok (k := kk) rv hn.1 h6
        have hl : kvs.length < sizeLine := by simpa using hn.2
        rw [keyD_ok ry h2]
        exact ⟨_, _, rfl, DPut.k h4 hl, post σ _ F3 (pre.step (s.trans (Stp.store (m' := .mk _ _) s.sub s.rep hm ⟨_, upd_same, q1, q2⟩)))⟩
      · rw [if_neg hn] at h3
        cases h3
    · rename_i l hg
      split at e4
      · rename_i i
        obtain ⟨j, h2, rfl⟩ := Option.map_eq_some_iff.mp e4
        refine .inr (run fun v x y H3 F3 s rv rx ry => ?_)
        obtain ⟨b, hm, _, vs, h4, h5, h6⟩ := s.rep.get hg
        have := rp_hd rx hm
        subst this
        rw [rp_int ry]
        exact ⟨_, vs, i, j, rfl, rfl, h4, by rw [h6.length]; exact h2, post σ _ F3 (pre.step (s.trans (Stp.store (m' := .ml _) s.sub s.rep hm ⟨_, upd_same, by rw [List.length_set]; exact h5, h6.set rv j⟩)))⟩
      · cases e4
    · cases e4
    · cases e4
    · cases e4
  · cases e4
end
/-! ### a def -/
def slots0 (n : Nat) (ds : List D) : Rho := ds.map (fun d => some (.d d)) ++ List.replicate (n - ds.length) none
def runF (n : Nat) (f : S) : List D → M D := fun ds g => match f (slots0 n ds) g with
  | some (.rt d, g') => some (d, g')
  | some (.nx _, g') => some (.non, g')
  | _ => none
theorem pre0 {K : PySem.W.Frag} {F : Fz} {H : Hp} {g : G} {N : List Str} {vs : List V} {ds : List D} (s : Same F.h H) (r : GRep K g F H) (rv : RpA K F vs ds) : PreS K ⟨g, F, H⟩ F H g (slots0 N.length ds) (start N vs) := by
  have hl := rv.length
  have no : ∀ i p, ¬ Owned (slots0 N.length ds) (start N vs) i p := fun i p ⟨lv, h1, h2, _⟩ => by
    unfold slots0 at h1
    by_cases hi : i < ds.length
    · rw [List.getElem?_append_left (by simpa using hi), List.getElem?_map, List.getElem?_eq_getElem hi] at h1
      cases h1
      cases h2
    · rw [List.getElem?_append_right (by simpa using Nat.le_of_not_lt hi)] at h1
      have := List.mem_of_getElem? h1
      rw [List.mem_replicate] at this
      cases this.2
  refine ⟨⟨s, r, ?_, fun i lv h => ?_, fun i j p h => (no i p h).elim⟩, Stp.refl s r, fun i p h => (no i p h).elim⟩
  · simp [slots0, L2.start, hl]
  · unfold slots0 at h
    by_cases hi : i < ds.length
    · rw [List.getElem?_append_left (by simpa using hi), List.getElem?_map, List.getElem?_eq_getElem hi] at h
      cases h
      obtain ⟨v, h1, h2⟩ := rv.get (List.getElem?_eq_getElem hi)
      refine ⟨v, ?_, h2⟩
      unfold L2.start
      rw [List.getElem?_append_left (by rw [List.length_map, hl]; exact hi), List.getElem?_map, h1]
      rfl
    · rw [List.getElem?_append_right (by simpa using Nat.le_of_not_lt hi)] at h
      have := List.mem_of_getElem? h
      rw [List.mem_replicate] at this
      cases this.2
theorem fn_dG {P : Program} {w : World} {K : PySem.W.Frag} {mg : Str → Option Value} {base : Heap} {k : Nat} {f : Addr} {x qual : Str} {params : Arguments} {body : List Stmt} {scope : Scope} {kws : List (Str × V)} {fd : FuncData} {N ps : List Str} {sem : S}
    (F : FunD K x qual params body scope [] kws f fd) (S : FnScope N ps scope)
    (hbody : ∀ (cdv : Value) (A : Around) (outer : List Env) (s : Shared) (H : Hp) (E : XK), Room k (A.deeper (envOfC qual scope s.heap.objs.size f cdv)) → (A.deeper (envOfC qual scope s.heap.objs.size f cdv)).guards = some [] →
      PDSS (cxOf CX0 P w K mg base N qual scope f cdv A outer s H E).nox body sem) : FnG P w K mg base CX0 (k + 1) f fd ps (spD K ps.length (runF N.length sem)) := by
  refine fn_g F S (fun vs H Q E h => ?_) fun cdv A outer s H vs Q E hr gd h => ?_
  · obtain ⟨F, g, ds, d, g', hn, _, _, rv, _⟩ := h
    rw [rv.length, hn]
  · obtain ⟨F, g, ds, d, g', hn, sb, rp, rv, ev, q⟩ := h
    obtain ⟨t, ht, kt⟩ := hbody cdv A outer s H E hr gd
    refine ⟨t, ht.nox, ?_⟩
    unfold runF at ev
    cases h : sem (slots0 N.length ds) g with
    | none => rw [h] at ev; cases ev
    | some r =>
      obtain ⟨fl, g1⟩ := r
      rw [h] at ev
      refine kt ⟨g, F, H⟩ (start N vs) H F (slots0 N.length ds) g (pre0 sb rp rv) fl g1 h _ ?_
      cases fl with
      | rt z => cases ev; exact fun v H' F' s' r' => q v H' F' s' r'
      | nx ρ => cases ev; exact fun σ' H' F' p' => q .non H' F' p'.st .non
      | bk ρ => cases ev
      | xc nm f d ρ => cases ev
      | ct ρ => cases ev
end PD
end
section
set_option Elab.async false
set_option linter.all false
set_option maxRecDepth 100000
set_option maxHeartbeats 4000000
set_option autoImplicit false
namespace PD
open PySem PySem.Spec L2
open PyProof.Rows hiding St
variable [Live]

/-! ### values that may be new things of one's own -/
def Fresh (H0 : Hp) (v : V) (lv : LV) : Prop := lv.own = true → ∀ p, v = .ref p → H0 p = none
theorem SlotOk.there {K : PySem.W.Frag} {F : Fz} {H : Hp} {g : G} {p : Addr} {lv : LV} (h : SlotOk K F H g (.ref p) lv) (o : lv.own = true) : H p ≠ none := by
  cases lv with
  | d x => cases o
  | ol l => obtain ⟨q, vs, e, _, _, h, _⟩ := h; cases e; rw [h]; simp
  | ok ks l => obtain ⟨q, vs, e, _, _, h, _⟩ := h; cases e; rw [h]; simp
  | ot ks l => obtain ⟨q, vs, e, _, _, h, _⟩ := h; cases e; rw [h]; simp
  | fn => cases o
theorem SlotOk.ref {K : PySem.W.Frag} {F : Fz} {H : Hp} {g : G} {v : V} {lv : LV} (h : SlotOk K F H g v lv) (o : lv.own = true) : ∃ p, v = .ref p := by
  cases lv with
  | d x => cases o
  | ol l => obtain ⟨q, vs, e, _⟩ := h; exact ⟨q, e⟩
  | ok ks l => obtain ⟨q, vs, e, _⟩ := h; exact ⟨q, e⟩
  | ot ks l => obtain ⟨q, vs, e, _⟩ := h; exact ⟨q, e⟩
  | fn => cases o
inductive LvA (K : PySem.W.Frag) (F : Fz) (H : Hp) (g : G) : Hp → List V → List LV → Prop
  | nil {H0 : Hp} : LvA K F H g H0 [] []
  | cons {H0 H1 : Hp} {v : V} {vs : List V} {lv : LV} {lvs : List LV} : SlotOk K F H g v lv → Fresh H0 v lv → (lv.own = true → ∀ p, v = .ref p → H1 p ≠ none) → (∀ a, H1 a = none → H0 a = none) → LvA K F H g H1 vs lvs → LvA K F H g H0 (v :: vs) (lv :: lvs)
theorem LvA.length {K : PySem.W.Frag} {F : Fz} {H : Hp} {g : G} : ∀ {H0 : Hp} {vs : List V} {lvs : List LV}, LvA K F H g H0 vs lvs → vs.length = lvs.length
  | _, _, _, .nil => rfl
  | _, _, _, .cons _ _ _ _ t => congrArg (· + 1) t.length
def setLs : Rho → List Nat → List LV → Rho
  | ρ, i :: is, lv :: lvs => setLs (ρ.set i (some lv)) is lvs
  | ρ, _, _ => ρ
def setVs : St → List Nat → List V → St
  | σ, i :: is, v :: vs => setVs (σ.set i (some v)) is vs
  | σ, _, _ => σ
theorem LvA.set {K : PySem.W.Frag} {en : Ent} {F : Fz} {H : Hp} {g : G} : ∀ {H0 : Hp} {vs : List V} {lvs : List LV} {is : List Nat} {ρ : Rho} {σ : St}, LvA K F H g H0 vs lvs → PreS K en F H g ρ σ → (∀ j p, Owned ρ σ j p → H0 p ≠ none) → (∀ a, H0 a = none → en.H a = none) →
    PreS K en F H g (setLs ρ is lvs) (setVs σ is vs)
  | _, _, _, [], _, _, .nil, p, _, _ => p
  | _, _, _, [], _, _, .cons _ _ _ _ _, p, _, _ => p
  | _, _, _, _ :: _, _, _, .nil, p, _, _ => p
  | H0, _, _, i :: is, ρ, σ, .cons (H1 := H1) (v := v) (lv := lv) ok fr th mo t, p, ow, he => by
    have he1 : ∀ a, H1 a = none → en.H a = none := fun a h => he a (mo a h)
    cases lv with
    | d x =>
      refine LvA.set (is := is) t (p.set (i := i) ok) (fun j q z => fun e => ow j q z.set (mo q e)) he1
    | fn =>
      refine LvA.set (is := is) t (p.setF (i := i) ok) (fun j q z => fun e => ow j q (Owned.setF z) (mo q e)) he1
    | ol l =>
      obtain ⟨q, rfl⟩ := ok.ref rfl
      have new : ∀ j, ¬ Owned ρ σ j q := fun j z => ow j q z (fr rfl q rfl)
      refine LvA.set (is := is) t (p.own (i := i) rfl ok new (he q (fr rfl q rfl))) (fun j w z e => ?_) he1
      obtain ⟨l', z1, z2, z3⟩ := z
      by_cases hj : i = j
      · subst hj
        by_cases hl : i < σ.length
        · rw [List.getElem?_set_self hl] at z3
          cases (Option.some.inj (Option.some.inj z3))
          exact th rfl _ rfl e
        · rw [List.getElem?_eq_none (by simpa using hl)] at z3; cases z3
      · rw [List.getElem?_set_ne hj] at z1 z3
        exact ow j w ⟨l', z1, z2, z3⟩ (mo w e)
    | ok ks l =>
      obtain ⟨q, rfl⟩ := ok.ref rfl
      have new : ∀ j, ¬ Owned ρ σ j q := fun j z => ow j q z (fr rfl q rfl)
      refine LvA.set (is := is) t (p.own (i := i) rfl ok new (he q (fr rfl q rfl))) (fun j w z e => ?_) he1
      obtain ⟨l', z1, z2, z3⟩ := z
      by_cases hj : i = j
      · subst hj
        by_cases hl : i < σ.length
        · rw [List.getElem?_set_self hl] at z3
          cases (Option.some.inj (Option.some.inj z3))
          exact th rfl _ rfl e
        · rw [List.getElem?_eq_none (by simpa using hl)] at z3; cases z3
      · rw [List.getElem?_set_ne hj] at z1 z3
        exact ow j w ⟨l', z1, z2, z3⟩ (mo w e)
    | ot ks l =>
      obtain ⟨q, rfl⟩ := ok.ref rfl
      have new : ∀ j, ¬ Owned ρ σ j q := fun j z => ow j q z (fr rfl q rfl)
      refine LvA.set (is := is) t (p.own (i := i) rfl ok new (he q (fr rfl q rfl))) (fun j w z e => ?_) he1
      obtain ⟨l', z1, z2, z3⟩ := z
      by_cases hj : i = j
      · subst hj
        by_cases hl : i < σ.length
        · rw [List.getElem?_set_self hl] at z3
          cases (Option.some.inj (Option.some.inj z3))
          exact th rfl _ rfl e
        · rw [List.getElem?_eq_none (by simpa using hl)] at z3; cases z3
      · rw [List.getElem?_set_ne hj] at z1 z3
        exact ow j w ⟨l', z1, z2, z3⟩ (mo w e)
abbrev EV := Rho → M LV
abbrev EVA := Rho → M (List LV)
def PV (X : Cx) (e : Expr) (f : EV) : Prop := ∃ t, PE X e t ∧ ∀ σ H F ρ g, PreE X.K F H g ρ σ → ∀ lv g', f ρ g = some (lv, g') → ∀ Q : VK,
  (∀ v H' F', Stp X.K g g' F F' H H' → SlotOk X.K F' H' g' v lv → Fresh H v lv → Q v H') → t σ H Q
def PVA (X : Cx) (es : List Expr) (f : EVA) : Prop := ∃ t, PA X es t ∧ ∀ σ H F ρ g, PreE X.K F H g ρ σ → ∀ lvs g', f ρ g = some (lvs, g') → ∀ Q : List V → Hp → Prop,
  (∀ vs H' F', Stp X.K g g' F F' H H' → LvA X.K F' H' g' H vs lvs → Q vs H') → t σ H Q
def vD (f : E) : EV := fun ρ => mb (f ρ) fun d => mr (.d d)
def vL (f : EA) : EV := fun ρ => mb (f ρ) fun d => mr (.ol d)
def vNil : EVA := fun _ => mr []
def vCons (a : EV) (r : EVA) : EVA := fun ρ => mb (a ρ) fun x => mb (r ρ) fun xs => mr (x :: xs)
section
variable {X : Cx} {e : Expr} {es : List Expr} {f : E} {fs : EA} {fv : EV} {fvs : EVA} {pos : Pos}
theorem pv_d (h : PD X e f) : PV X e (vD f) := by
  obtain ⟨t, ht, k⟩ := h
  refine ⟨t, ht, fun σ H F ρ g pre lv g' ev Q q => ?_⟩
  obtain ⟨d, g1, e1, ev⟩ := mb_inv ev
  obtain ⟨rfl, rfl⟩ := mr_inv ev
  exact k σ H F ρ g pre d _ e1 _ fun v H1 F1 s1 r1 => q v H1 F1 s1 r1 fun z => by cases z
theorem pv_ol (h : PO X e fs) : PV X e (vL fs) := by
  obtain ⟨t, ht, k⟩ := h
  refine ⟨t, ht, fun σ H F ρ g pre lv g' ev Q q => ?_⟩
  obtain ⟨d, g1, e1, ev⟩ := mb_inv ev
  obtain ⟨rfl, rfl⟩ := mr_inv ev
  exact k σ H F ρ g pre d _ e1 _ fun p H1 F1 vs s1 n1 n2 n3 n4 n5 n6 => q (.ref p) H1 F1 s1 ⟨p, vs, rfl, n2, n3, n4, n5, n6⟩ fun _ w ew => by cases ew; exact n1
theorem pva_nil : PVA X [] vNil := ⟨_, pa_nil, fun σ H F ρ g pre d g' e Q q => by
  obtain ⟨rfl, rfl⟩ := mr_inv e
  exact q _ H F pre.refl .nil⟩
theorem pva_cons (h : PV X e fv) (hr : PVA X es fvs) (hs : starEach (e :: es) X.env = (false, eval e X.env) :: starEach es X.env := by rfl) : PVA X (e :: es) (vCons fv fvs) := by
  obtain ⟨t, ht, k⟩ := h
  obtain ⟨t2, ht2, k2⟩ := hr
  refine ⟨_, pa_cons ht ht2 hs, fun σ H F ρ g pre d g' e Q q => ?_⟩
  obtain ⟨x, g1, e1, e⟩ := mb_inv e
  obtain ⟨xs, g2, e2, e⟩ := mb_inv e
  obtain ⟨rfl, rfl⟩ := mr_inv e
  refine k σ H F ρ g pre x g1 e1 _ fun v H1 F1 s1 r1 f1 => ?_
  refine k2 σ H1 F1 ρ g1 (pre.step s1) xs _ e2 _ fun vs H2 F2 s2 r2 => ?_
  exact q _ H2 F2 (s1.trans s2) (.cons (r1.step s2) f1 (fun o p ep => by subst ep; exact r1.there o) s1.mono r2)
/-! ### a, b, .. = x, y, .. -/
def sParV (is : List Nat) (f : EVA) : S := fun ρ => mb (f ρ) fun lvs => if lvs.length = is.length then mr (.nx (setLs ρ is lvs)) else mz
theorem par_sem {en : Ent} {σ : St} {F : Fz} {H : Hp} {ρ : Rho} {g : G} {K : PySem.W.Frag} {F1 : Fz} {H1 : Hp} {g1 : G} {vs : List V} {lvs : List LV} (pre : PreS K en F H g ρ σ) (s1 : Stp K g g1 F F1 H H1) (r1 : LvA K F1 H1 g1 H vs lvs) (is : List Nat) :
    PreS K en F1 H1 g1 (setLs ρ is lvs) (setVs σ is vs) :=
  r1.set (pre.step s1) (fun j p z e => by obtain ⟨o, ho⟩ := pre.e.own_some z; rw [ho] at e; cases e) fun a h => pre.st.mono a h
theorem pds_par2 (i j : Nat) {x y : Str} {a b : Expr} {px py pt : Pos} {kt k2 : Nat} {pt2 : Pos} (hc : X.calm = true) (hN : X.N.Nodup) (ha : PVA X [a, b] fvs) (hi : X.N[i]? = some x := by rfl) (hj : X.N[j]? = some y := by rfl) (hij : i ≠ j := by decide)
    (hx : X.env.scope.names.lookup x = some .local := by rfl) (hy : X.env.scope.names.lookup y = some .local := by rfl)
    (hw : swappedStores [.Tuple [.Name x px, .Name y py] kt pt] (.Tuple [a, b] k2 pt2) X.env = pure (some [x, y]) := by rfl)
    (hs : swapsWithSole [.Tuple [.Name x px, .Name y py] kt pt] (.Tuple [a, b] k2 pt2) pos.line X.env = pure false := by rfl) :
    PDS X (.Assign [.Tuple [.Name x px, .Name y py] kt pt] (.Tuple [a, b] k2 pt2) pos) (sParV [i, j] fvs) := by
  obtain ⟨t, p, k⟩ := ha
  refine ⟨_, ps_par hc hN hi hj hij hx hy p hw hs, fun en σ H F ρ g pre fl g' e De post => ?_⟩
  obtain ⟨lvs, g1, e1, e⟩ := mb_inv e
  split at e
  · rename_i hl
    obtain ⟨rfl, rfl⟩ := mr_inv e
    refine k σ H F ρ g pre.e _ _ e1 _ fun vs H1 F1 s1 r1 => ?_
    have hl2 := r1.length
    have fin := par_sem pre s1 r1 [i, j]
    match vs, hl2.trans hl with
    | [v, w], _ => exact ⟨v, w, rfl, post _ H1 F1 fin⟩
  · cases e
/-- the targets are names -/
def PGN (X : Cx) (ts : List Expr) (is : List Nat) : Prop := ∃ t, PGs X ts t ∧ ∀ vs σ H Q, vs.length = is.length → Q (setVs σ is vs) H → t vs σ H Q
theorem pgn_nil : PGN X [] [] := ⟨_, pgs_nil, fun vs σ H Q h q => by
  cases vs with
  | nil => exact ⟨rfl, q⟩
  | cons v vs => cases h⟩
theorem pgn_cons (i : Nat) {x : Str} {ts : List Expr} {is : List Nat} (hN : X.N.Nodup) (h2 : PGN X ts is) (hi : X.N[i]? = some x := by rfl) (hx : Loc X.env.scope x := by first | exact Or.inl rfl | exact Or.inr rfl)
    (hf : X.fn x = true ∨ X.env.scope.names.lookup x = some .local := by first | exact .inl rfl | exact .inr rfl | assumption)
    (hs : (assignEach (.Name x pos :: ts) X.env).map (·.2) = assign (.Name x pos) X.env :: (assignEach ts X.env).map (·.2) := by rfl) : PGN X (.Name x pos :: ts) (i :: is) := by
  obtain ⟨t, p, k⟩ := h2
  refine ⟨_, pgs_cons (pg_name hN hi hx hf) p hs, fun vs σ H Q h q => ?_⟩
  cases vs with
  | nil => cases h
  | cons v vs => exact ⟨v, vs, rfl, k vs _ H Q (by simpa using h) q⟩
theorem pds_parN {ts es : List Expr} {is : List Nat} {kt k2 : Nat} {pt pt2 : Pos} (hc : X.calm = true) (ht : PGN X ts is) (ha : PVA X es fvs) (hw : swappedStores [.Tuple ts kt pt] (.Tuple es k2 pt2) X.env = pure none := by rfl)
    (hs : swapsWithSole [.Tuple ts kt pt] (.Tuple es k2 pt2) pos.line X.env = pure false := by rfl) (h1 : (assignEach [.Tuple ts kt pt] X.env).map (·.2) = [assign (.Tuple ts kt pt) X.env] := by rfl)
    (hn : (assignEach ts X.env).length = is.length := by rfl) (hst : (assignEach ts X.env).findIdx? (·.1) = none := by rfl) (hz : is.length ≤ sizeLine := by decide) :
    PDS X (.Assign [.Tuple ts kt pt] (.Tuple es k2 pt2) pos) (sParV is fvs) := by
  obtain ⟨t, p, k⟩ := ha
  obtain ⟨tg, pg, kg⟩ := ht
  refine ⟨_, ps_asg (pe_tup p) (pg_tup (n := is.length) hc pg hn hst) hs hw h1, fun en σ H F ρ g pre fl g' e De post => ?_⟩
  obtain ⟨lvs, g1, e1, e⟩ := mb_inv e
  split at e
  · rename_i hl
    obtain ⟨rfl, rfl⟩ := mr_inv e
    refine k σ H F ρ g pre.e _ _ e1 _ fun vs H1 F1 s1 r1 => ⟨by rw [r1.length, hl]; exact hz, fun p hp => ?_⟩
    have hl2 := r1.length
    have fin := par_sem pre s1 r1 is
    refine ⟨p, vs, rfl, .of upd_same, hl2.trans hl, kg vs σ _ _ (hl2.trans hl) (post _ _ F1 ?_)⟩
    exact fin.step (.allocO s1.sub s1.rep hp)
  · cases e
end
end PD
end
section
set_option Elab.async false
set_option linter.all false
set_option maxRecDepth 100000
set_option maxHeartbeats 4000000
set_option autoImplicit false
namespace PD
open PySem PySem.Spec L2
open PyProof.Rows hiding St
variable [Live]

/-! ### tuples of ints of any lengths, sorted -/
def IsTI (h : Heap) (v : Value) (ns : List Int) : Prop := ∃ a o us n, v = .ref a ∧ h.get? a = some o ∧ o.cls = .type "tuple" ∧ o.data = .seq (List.toArray us) n ∧ IntsAre us ns
theorem IsTI.keeps {h h' : Heap} {v : Value} {ns : List Int} (x : IsTI h v ns) (k : ∀ b o, h.get? b = some o → o.cls = .type "tuple" → h'.get? b = some o) : IsTI h' v ns := by
  obtain ⟨a, o, us, n, h1, h2, h3, h4, h5⟩ := x
  exact ⟨a, o, us, n, h1, k a o h2 h3, h3, h4, h5⟩
section
variable {prog : Program} {w : World} {A : Around} {E : Value → Shared → Prop} {s : Shared}
theorem ti_lex : ∀ {us ws : List Value} {ns ms : List Int} {fin : Bool} {Q : Bool → Shared → Prop} (i : Nat), IntsAre us ns → IntsAre ws ms → fin = decide (ns.length < ms.length) → Q (HT.lexLt ns ms) s → PySem.W.KatLex prog w A true fin Q (us.zip ws) i s
  | [], [], _, _, fin, Q, i, .nil, .nil, hf, q => PySem.W.kat_nil (by rw [hf]; exact q)
  | [], _ :: _, _, _, fin, Q, i, .nil, .cons y u hb, hf, q => PySem.W.kat_nil (by rw [hf]; simpa [HT.lexLt] using q)
  | _ :: _, [], _, _, fin, Q, i, .cons x t ha, .nil, hf, q => PySem.W.kat_nil (by rw [hf]; simpa [HT.lexLt] using q)
  | _ :: us, _ :: ws, _, _, fin, Q, i, .cons (ns := ns) x t ha, .cons (ns := ms) y u hb, hf, q => by
    rw [HT.lexLt_cons] at q
    rw [List.zip_cons_cons]
    refine PySem.W.kat_cons (SeqAt.EqAt.int_int x t y u prog w _ _ ?_)
    refine PySem.W.kat_go (fun e1 => ?_) (fun e1 => ?_)
    · have ex : x = y := by simpa using e1
      rw [if_pos ex] at q
      exact PySem.W.kat_yes (ti_lex (i + 1) ha hb (by rw [hf]; simp) q)
    · have ex : ¬ x = y := by simpa using e1
      rw [if_neg ex] at q
      refine PySem.W.kat_no ?_
      cases i with
      | zero => exact oneLt_int q
      | succ i => exact PySem.W.kat_one _ _ (PyProof.Rows.lt_int q)
abbrev ltT (k : Value → List Int) (x y : Value) : Bool := HT.lexLt (k x) (k y)
theorem swoT {α : Type} (k : α → List Int) : SrtO.Swo fun x y => HT.lexLt (k x) (k y) := ⟨fun x y => NtL.lex_asym (k x) (k y), fun x y z => NtL.lex_tr (k x) (k y) (k z)⟩
theorem ti_cmp {vs : List Value} {k : Value → List Int} (hp : ∀ v ∈ vs, IsTI s.heap v (k v)) : SrtO.Cmp prog w A s (tuples' true) (fun p => p.1 ∈ vs) (SrtO.lt2 (ltT k)) := by
  intro p q hm hm'
  obtain ⟨a, o, us, n, e, ho, hc, hd, hi⟩ := hp _ hm
  obtain ⟨a', o', us', n', e', ho', hc', hd', hi'⟩ := hp _ hm'
  show wpAny (model prog w) A (keyLt' (tuples' true) p.1 q.1) (fun r s' => s' = s ∧ r = HT.lexLt (k p.1) (k q.1)) (fun _ _ => False) s
  generalize k p.1 = ns at hi ⊢
  generalize k q.1 = ms at hi' ⊢
  rw [e, e']
  refine PySem.W.kat_lt ho hd ho' hd' ?_
  exact ti_lex 0 hi hi' (by simp [hi.length, hi'.length]) ⟨rfl, rfl⟩
theorem ti_firsts {h : Heap} {k : Value → List Int} : ∀ {vs : List Value}, (∀ v ∈ vs, IsTI h v (k v) ∧ k v ≠ []) → ∃ fs : List Value, PySem.W.KatTups h vs fs ∧ fs.length = vs.length ∧ ∀ f ∈ fs, ∃ x t, f = Value.int x t
  | [], _ => ⟨[], PySem.W.KatTups.nil, rfl, fun _ hm => by simp at hm⟩
  | v :: vs, hp => by
    obtain ⟨fs, h1, h2, h3⟩ := ti_firsts (vs := vs) fun v' hm => hp v' (List.mem_cons_of_mem _ hm)
    obtain ⟨⟨a, o, us, n, e, ho, hc, hd, hi⟩, hne⟩ := hp v (List.mem_cons_self ..)
    generalize k v = ns at hi hne
    subst e
    cases hi with
    | nil => exact absurd rfl hne
    | cons x t hr =>
      refine ⟨.int x t :: fs, PySem.W.KatTups.cons ho hc hd rfl h1, by rw [List.length_cons, List.length_cons, h2], fun f hm => ?_⟩
      rcases List.mem_cons.mp hm with rfl | hm
      · exact ⟨x, t, rfl⟩
      · exact h3 f hm
theorem ti_sortable {a : Addr} {vs : List Value} {k : Value → List Int} (h0 : 0 < vs.length) (hp : ∀ v ∈ vs, IsTI s.heap v (k v) ∧ k v ≠ []) (ha : ∀ o, s.heap.get? a = some o → o.cls ≠ .type "tuple") : SrtO.SortableO prog w A s a vs (ltT k) := by
  intro h' keep
  have hp' : ∀ v ∈ vs, IsTI h' v (k v) ∧ k v ≠ [] := fun v hm => ⟨(hp v hm).1.keeps fun b o e c => keep b o (fun z => by subst z; exact ha o e c) e, (hp v hm).2⟩
  obtain ⟨fs, h1, h2, h3⟩ := ti_firsts hp'
  refine ⟨tuples' true, fun Q E hq => ?_, ti_cmp fun v hm => (hp' v hm).1⟩
  refine PySem.W.kat_kind (T := .type "int") h1 (by omega) (fun f hm => ?_) (by rfl) ?_
  · obtain ⟨x, t, rfl⟩ := h3 f hm
    exact PySem.W.Looks.now
  · have e : (Value.type "int" != Value.type "tuple") = true := by first | decide +kernel | rfl | decide
    rw [e]
    exact hq
end
def rSrtT (K : PySem.W.Frag) : List V → Hp → VK → Prop := fun vs H Q => ∃ (a : Addr) (zs : List (Addr × List Int)), vs = [V.ref a] ∧ SqL K H a (zs.map fun z => V.ref z.1) ∧ (∀ z ∈ zs, z.2 ≠ [] ∧ SqT K H z.1 (z.2.map V.int)) ∧
  ∀ ys p, SrtO.Srtd (fun x y : Addr × List Int => HT.lexLt x.2 y.2) ys → SrtO.Stb (fun x y : Addr × List Int => HT.lexLt x.2 y.2) ys zs → H p = none → Q (.ref p) (upd H p (.lst (ys.map fun z => V.ref z.1)))
/-- the ints that stand there -/
def readTI (h : Heap) : Value → Addr × List Int
  | .ref a => (a, match h.get? a with
    | some o => match o.data with
      | .seq us _ => us.toList.map SrtO.iv
      | _ => []
    | none => [])
  | _ => (0, [])
theorem refs_of {zs : List (Addr × List Int)} : ∀ {us : List Value}, Vals (zs.map fun z => V.ref z.1) us → us = zs.map fun z => Value.ref z.1 := by
  induction zs with
  | nil => intro us r; cases r; rfl
  | cons z zs ih =>
    intro us r
    cases r with
    | cons r t => cases r; rw [ih t]; rfl
theorem of_refs : ∀ zs : List (Addr × List Int), Vals (zs.map fun z => V.ref z.1) (zs.map fun z => Value.ref z.1)
  | [] => .nil
  | z :: zs => .cons rfl (of_refs zs)
section
variable {X : Cx}
theorem cr_srtT : CallR X (.builtin "sorted") (rSrtT X.K) := by
  intro pins s σ H vs us Q I r h
  obtain ⟨a, zs, rfl, hs, hx, q⟩ := h
  obtain ⟨its, rv, hl, hz⟩ := I.list hs
  rw [Vals.ref1 r]
  have hits := refs_of rv
  have hp0 : ∀ z ∈ zs, readTI s.heap (.ref z.1) = z ∧ IsTI s.heap (.ref z.1) z.2 := fun z hzm => by
    obtain ⟨its2, r2, ⟨o, ho, hc, n, hd⟩, _⟩ := I.tuple (hx z hzm).2
    refine ⟨?_, z.1, o, its2, n, rfl, ho, hc, hd, r2.ints⟩
    unfold readTI
    simp only [ho, hd]
    rw [SrtO.iv_ints r2.ints]
  have hp : ∀ v ∈ its, IsTI s.heap v (readTI s.heap v).2 ∧ (readTI s.heap v).2 ≠ [] := fun v hv => by
    rw [hits] at hv
    obtain ⟨z, hzm, rfl⟩ := List.mem_map.mp hv
    rw [(hp0 z hzm).1]
    exact ⟨(hp0 z hzm).2, (hx z hzm).1⟩
  refine SrtO.sorted_ord (swoT fun v => (readTI s.heap v).2) hl.isList (by rw [← rv.length]; exact hz) (fun h2 h₁ a' ha kk => ?_) fun out h1 h2 => ?_
  · refine ti_sortable (s := { s with heap := h₁ }) (k := fun v => (readTI s.heap v).2) (by omega) (fun v hm => ⟨(hp v hm).1.keeps fun b o e _ => (kk b o e).2, (hp v hm).2⟩) fun o e => ?_
    have e' : some o = some (seqObj "list" its.toArray 0) := e.symm.trans ha
    cases e'
    intro c
    exact absurd (Value.type.inj c) (by decide)
  · obtain ⟨ep, he'⟩ := PyProof.Rows.sortedAll_at s.heap its out.toArray
    have ez : zs = its.map (readTI s.heap) := by
      rw [hits, List.map_map]
      exact (List.map_id zs).symm.trans (List.map_congr_left fun z hzm => (hp0 z hzm).1.symm)
    have hb : SrtO.Stb (fun x y : Addr × List Int => HT.lexLt x.2 y.2) (out.map (readTI s.heap)) zs := by
      rw [ez]
      exact SrtO.Stb.map (swoT fun z : Addr × List Int => z.2) (readTI s.heap) h2
    have eo : out = (out.map (readTI s.heap)).map fun z => Value.ref z.1 := by
      rw [List.map_map]
      refine (List.map_id out).symm.trans (List.map_congr_left fun v hv => ?_)
      have hv2 : v ∈ its := h2.perm.mem_iff.mp hv
      rw [hits] at hv2
      obtain ⟨z, _, rfl⟩ := List.mem_map.mp hv2
      rfl
    refine ⟨.ref _, upd H (s.heap.objs.size + 1) (.lst ((out.map (readTI s.heap)).map fun z => V.ref z.1)), I.laid (t' := s.toks) (fun _ _ => PyProof.Rows.sortedAll_old) (Nat.le_succ _) ⟨?_, out, ep, ?_, he'⟩, rfl, q _ _ (SrtO.srtd_map h1) hb (I.hok.fresh (Nat.le_succ _))⟩
    · rw [List.length_map, hb.len]
      simpa using hz
    · conv => rhs; rw [eo]
      exact of_refs _
end
/-! ### the sort by data -/
def ltB (x y : D) : Bool := match ltD x y with
  | some b => b
  | none => false
def insD (x : D) : List D → List D
  | [] => [x]
  | y :: ys => if ltB x y = true then x :: y :: ys else y :: insD x ys
/-- from the left, behind the equal ones -/
def isoD (l : List D) : List D := l.foldl (fun acc x => insD x acc) []
def isInt : D → Bool
  | .int _ => true
  | _ => false
def isStr : D → Bool
  | .str _ => true
  | _ => false
def isTI : D → Bool
  | .tup [] => false
  | .tup l => l.all isInt
  | _ => false
def sortD (l : List D) : Option (List D) := if (l.all isInt || l.all isStr || l.all isTI) = true then some (isoD l) else none
theorem isInt_all : ∀ {l : List D}, l.all isInt = true → ∃ ns : List Int, l = ns.map D.int
  | [], _ => ⟨[], rfl⟩
  | .int i :: l, h => by
    obtain ⟨ns, e⟩ := isInt_all (l := l) (by simpa [isInt] using h)
    exact ⟨i :: ns, by rw [e]; rfl⟩
  | .non :: l, h => by simp [isInt] at h
  | .bl _ :: l, h => by simp [isInt] at h
  | .str _ :: l, h => by simp [isInt] at h
  | .tup _ :: l, h => by simp [isInt] at h
  | .lst _ :: l, h => by simp [isInt] at h
  | .dk _ _ :: l, h => by simp [isInt] at h
  | .dt _ _ :: l, h => by simp [isInt] at h
  | .hd _ :: l, h => by simp [isInt] at h
  | .tx _ :: l, h => by simp [isInt] at h
theorem isStr_all : ∀ {l : List D}, l.all isStr = true → ∃ ns : List Str, l = ns.map D.str
  | [], _ => ⟨[], rfl⟩
  | .str i :: l, h => by
    obtain ⟨ns, e⟩ := isStr_all (l := l) (by simpa [isStr] using h)
    exact ⟨i :: ns, by rw [e]; rfl⟩
  | .non :: l, h => by simp [isStr] at h
  | .bl _ :: l, h => by simp [isStr] at h
  | .int _ :: l, h => by simp [isStr] at h
  | .tup _ :: l, h => by simp [isStr] at h
  | .lst _ :: l, h => by simp [isStr] at h
  | .dk _ _ :: l, h => by simp [isStr] at h
  | .dt _ _ :: l, h => by simp [isStr] at h
  | .hd _ :: l, h => by simp [isStr] at h
  | .tx _ :: l, h => by simp [isStr] at h
/-- the insertion by any order -/
def insG {α : Type} (lt : α → α → Bool) (x : α) : List α → List α
  | [] => [x]
  | y :: ys => if lt x y = true then x :: y :: ys else y :: insG lt x ys
def isoG {α : Type} (lt : α → α → Bool) (l : List α) : List α := l.foldl (fun acc x => insG lt x acc) []
section
variable {α : Type} {lt : α → α → Bool}
theorem insG_split (x : α) : ∀ l : List α, ∃ M N, l = M ++ N ∧ insG lt x l = M ++ x :: N ∧ (∀ y ∈ M, lt x y = false) ∧ (N = [] ∨ ∃ y N', N = y :: N' ∧ lt x y = true)
  | [] => ⟨[], [], rfl, rfl, fun _ h => absurd h (by simp), .inl rfl⟩
  | y :: ys => by
    unfold insG
    by_cases h : lt x y = true
    · rw [if_pos h]
      exact ⟨[], y :: ys, rfl, rfl, fun _ h => absurd h (by simp), .inr ⟨y, ys, rfl, h⟩⟩
    · rw [if_neg h]
      obtain ⟨M, N, e1, e2, h1, h2⟩ := insG_split x ys
      refine ⟨y :: M, N, by rw [e1]; rfl, by rw [e2]; rfl, fun z hz => ?_, h2⟩
      rcases List.mem_cons.mp hz with rfl | hz
      · cases q : lt x z with
        | true => exact absurd q h
        | false => rfl
      · exact h1 z hz
theorem insG_ok (O : SrtO.Swo lt) (x : α) {l O1 : List α} (hs : SrtO.Srtd lt l) (hb : SrtO.Stb lt l O1) : SrtO.Srtd lt (insG lt x l) ∧ SrtO.Stb lt (insG lt x l) (O1 ++ [x]) := by
  obtain ⟨M, N, e1, e2, h1, h2⟩ := insG_split (lt := lt) x l
  have h3 : ∀ y ∈ N, lt x y = true := by
    rcases h2 with rfl | ⟨y, N', rfl, hy⟩
    · exact fun y h => absurd h (by simp)
    · subst e1
      exact O.lt_all (SrtO.srtd_app.mp hs).2.1 hy
  rw [e2]
  subst e1
  exact ⟨SrtO.ins_srtd O hs h1 h3, SrtO.ins_stb O h3 hb⟩
theorem isoG_ok (O : SrtO.Swo lt) (l : List α) : SrtO.Srtd lt (isoG lt l) ∧ SrtO.Stb lt (isoG lt l) l := by
  have go : ∀ (l acc O1 : List α), SrtO.Srtd lt acc → SrtO.Stb lt acc O1 → SrtO.Srtd lt (l.foldl (fun acc x => insG lt x acc) acc) ∧ SrtO.Stb lt (l.foldl (fun acc x => insG lt x acc) acc) (O1 ++ l) := by
    intro l
    induction l with
    | nil => intro acc O1 h1 h2; exact ⟨h1, by simpa using h2⟩
    | cons x l ih =>
      intro acc O1 h1 h2
      obtain ⟨h3, h4⟩ := insG_ok O x h1 h2
      have := ih _ _ h3 h4
      simpa using this
  simpa [isoG] using go l [] [] List.Pairwise.nil (SrtO.Stb.refl [])
theorem isoG_uniq (O : SrtO.Swo lt) {l m : List α} (hs : SrtO.Srtd lt m) (hb : SrtO.Stb lt m l) : m = isoG lt l := by
  obtain ⟨h1, h2⟩ := isoG_ok O l
  refine SrtO.stb_uniq O hs h1 (hb.trans ⟨h2.perm.symm, fun x => (h2.cls x).symm⟩)
/-- where equal ones are the same, a rearrangement is enough -/
theorem stb_perm (hu : ∀ x y : α, lt x y = false → lt y x = false → x = y) (O : SrtO.Swo lt) {l m : List α} (h : l.Perm m) : SrtO.Stb lt l m := by
  refine ⟨h, fun x => ?_⟩
  have e : ∀ k : List α, k.filter (SrtO.eqv lt x) = List.replicate (k.filter (SrtO.eqv lt x)).length x := fun k => by
    refine List.eq_replicate_iff.mpr ⟨rfl, fun y hy => ?_⟩
    obtain ⟨h1, h2⟩ := SrtO.eqv_iff.mp (List.mem_filter.mp hy).2
    exact (hu x y h1 h2).symm
  rw [e l, e m, (h.filter _).length_eq]
theorem insG_map {β : Type} {lt' : β → β → Bool} (f : α → β) (hf : ∀ x y, lt' (f x) (f y) = lt x y) (x : α) : ∀ l : List α, insG lt' (f x) (l.map f) = (insG lt x l).map f
  | [] => rfl
  | y :: ys => by
    rw [List.map_cons]
    unfold insG
    rw [hf]
    by_cases h : lt x y = true
    · rw [if_pos h, if_pos h]; rfl
    · rw [if_neg h, if_neg h, insG_map f hf x ys]; rfl
theorem isoG_map {β : Type} {lt' : β → β → Bool} (f : α → β) (hf : ∀ x y, lt' (f x) (f y) = lt x y) (l : List α) : isoG lt' (l.map f) = (isoG lt l).map f := by
  have go : ∀ (l acc : List α), (l.map f).foldl (fun acc x => insG lt' x acc) (acc.map f) = (l.foldl (fun acc x => insG lt x acc) acc).map f := by
    intro l
    induction l with
    | nil => intro acc; rfl
    | cons x l ih =>
      intro acc
      rw [List.map_cons, List.foldl_cons, List.foldl_cons, insG_map f hf, ih]
  exact go l []
end
theorem insD_eq (x : D) : ∀ l, insD x l = insG ltB x l
  | [] => rfl
  | y :: ys => by unfold insD insG; rw [insD_eq x ys]
theorem isoD_eq (l : List D) : isoD l = isoG ltB l := by
  unfold isoD isoG
  congr 1
  funext acc x
  exact insD_eq x acc
theorem swoI : SrtO.Swo fun x y : Int => decide (x < y) := ⟨fun x y h => by simp at h ⊢; omega, fun x y z h1 h2 => by simp at h1 h2 ⊢; omega⟩
theorem isoI {ns ns' : List Int} (h1 : ns'.Perm ns) (h2 : ns'.Pairwise (· ≤ ·)) : isoD (ns.map D.int) = ns'.map D.int := by
  rw [isoD_eq, isoG_map (lt := fun x y : Int => decide (x < y)) D.int (fun x y => rfl)]
  congr 1
  exact (isoG_uniq swoI (h2.imp fun {x y} h => by simpa using h) (stb_perm (fun x y h1 h2 => by simp at h1 h2; omega) swoI h1)).symm
theorem swoS : SrtO.Swo fun x y : Str => decide (x.cps.toList < y.cps.toList) := by
  refine ⟨fun x y h => ?_, fun x y z h1 h2 => ?_⟩
  · simp only [decide_eq_true_eq, decide_eq_false_iff_not] at h ⊢
    exact List.lt_asymm h
  · simp only [decide_eq_false_iff_not, List.not_lt] at h1 h2 ⊢
    exact List.le_trans h1 h2
theorem sortedS_pw : ∀ {l : List Str}, sortedS l = true → l.Pairwise fun x y => decide (y.cps.toList < x.cps.toList) = false
  | [], _ => .nil
  | x :: r, h => by
    have h : risingS x r = true := h
    induction r generalizing x with
    | nil => exact List.pairwise_singleton _ _
    | cons y r ih =>
      obtain ⟨h1, h2⟩ := Bool.and_eq_true_iff.mp (show (!ltCps y.cps.toList x.cps.toList && risingS y r) = true from h)
      have hy := ih y h2 h2
      have h1 : decide (y.cps.toList < x.cps.toList) = false := by rw [← ltCps_eq]; simpa using h1
      refine List.pairwise_cons.mpr ⟨fun z hz => ?_, hy⟩
      rcases List.mem_cons.mp hz with rfl | hz
      · exact h1
      · exact swoS.tr x y z h1 ((List.pairwise_cons.mp hy).1 z hz)
theorem isoS {ns ns' : List Str} (h1 : ns'.Perm ns) (h2 : sortedS ns' = true) : isoD (ns.map D.str) = ns'.map D.str := by
  rw [isoD_eq, isoG_map (lt := fun x y : Str => decide (x.cps.toList < y.cps.toList)) D.str (fun x y => rfl)]
  congr 1
  refine (isoG_uniq swoS (sortedS_pw h2) (stb_perm (fun x y h1 h2 => ?_) swoS h1)).symm
  simp only [decide_eq_false_iff_not, List.not_lt] at h1 h2
  have := List.le_antisymm h2 h1
  cases x; cases y
  simp only [Str.mk.injEq]
  exact Array.toList_inj.mp this
def rSrtS (K : PySem.W.Frag) : List V → Hp → VK → Prop := fun vs H Q => ∃ (a : Addr) (xs : List Str), vs = [V.ref a] ∧ SqL K H a (xs.map V.str) ∧
  ∀ (ys : List Str) (p : Addr), ys.Perm xs → sortedS ys = true → H p = none → Q (.ref p) (upd H p (.lst (ys.map V.str)))
theorem cr_srtS {X : Cx} : CallR X (.builtin "sorted") (rSrtS X.K) := by
  intro pins s σ H vs us Q I r h
  obtain ⟨a, xs, rfl, hs, q⟩ := h
  obtain ⟨its, rv, hl, hz⟩ := I.list hs
  rw [Vals.ref1 r]
  have hlen0 := rv.length
  rw [List.length_map] at hlen0 hz
  refine PyProof.Rows.sorted_strsAny hl.isList rv.strs (by rw [← hlen0]; exact hz) fun out ys h1 h2 h3 => ?_
  obtain ⟨ep, he'⟩ := PyProof.Rows.sortedAll_at s.heap its out
  have hlen : (ys.map V.str).length ≤ sizeLine := by rw [List.length_map, h2.length_eq]; exact hz
  exact ⟨.ref _, upd H (s.heap.objs.size + 1) (.lst (ys.map V.str)), I.laid (t' := s.toks) (fun _ _ => PyProof.Rows.sortedAll_old) (Nat.le_succ _) ⟨hlen, out.toList, ep, vals_of_strs h1, he'⟩, rfl, q ys _ h2 h3 (I.hok.fresh (Nat.le_succ _))⟩
abbrev rSrt (K : PySem.W.Frag) : List V → Hp → VK → Prop := fun vs H Q => rSortedI K vs H Q ∨ (rSrtS K vs H Q ∨ rSrtT K vs H Q)
theorem cr_srt {X : Cx} : CallR X (.builtin "sorted") (rSrt X.K) := fun pins s σ H vs us Q I r h => h.elim (cr_sortedI pins s σ H vs us Q I r) fun h => h.elim (cr_srtS pins s σ H vs us Q I r) (cr_srtT pins s σ H vs us Q I r)
def sortedM (ds : List D) : Option D := match ds with
  | [.lst l] => (sortD l).map D.lst
  | _ => none
theorem isTI_ints {d : D} (h : isTI d = true) : ∃ ns : List Int, ns ≠ [] ∧ d = .tup (ns.map D.int) := by
  unfold isTI at h
  split at h
  · cases h
  · rename_i l hl
    obtain ⟨ns, rfl⟩ := isInt_all h
    exact ⟨ns, fun e => hl (by rw [e]; rfl), rfl⟩
  · cases h
theorem isTI_all : ∀ {l : List D}, l.all isTI = true → ∃ ns : List (List Int), (∀ n ∈ ns, n ≠ []) ∧ l = ns.map fun n => D.tup (n.map D.int)
  | [], _ => ⟨[], fun _ h => absurd h (by simp), rfl⟩
  | d :: l, h => by
    rw [List.all_cons, Bool.and_eq_true] at h
    obtain ⟨n, h1, rfl⟩ := isTI_ints h.1
    obtain ⟨ns, h2, rfl⟩ := isTI_all h.2
    exact ⟨n :: ns, fun m hm => (List.mem_cons.mp hm).elim (fun e => by rw [e]; exact h1) (h2 m), rfl⟩
theorem ltB_ti (x y : List Int) : ltB (.tup (x.map D.int)) (.tup (y.map D.int)) = HT.lexLt x y := by
  unfold ltB ltD
  simp only [tupInts_map]
theorem rpA_ti {K : PySem.W.Frag} {F : Fz} : ∀ {xs : List V} {ns : List (List Int)}, RpA K F xs (ns.map fun n => D.tup (n.map D.int)) → ∃ zs : List (Addr × List Int), xs = zs.map (fun z => V.ref z.1) ∧ ns = zs.map (·.2) ∧ ∀ z ∈ zs, SqT K F z.1 (z.2.map V.int) ∧ Rp K F (.ref z.1) (.tup (z.2.map D.int))
  | _, [], h => by cases h; exact ⟨[], rfl, rfl, fun _ h => absurd h (by simp)⟩
  | _, n :: ns, h => by
    cases h with
    | cons r t =>
      obtain ⟨zs, rfl, rfl, h3⟩ := rpA_ti t
      obtain ⟨a, vs, rfl, h4, h5, h6⟩ := rp_tup r
      have := h6.ints
      subst this
      refine ⟨(a, n) :: zs, rfl, rfl, fun z hz => ?_⟩
      rcases List.mem_cons.mp hz with rfl | hz
      · exact ⟨h4, r⟩
      · exact h3 z hz
theorem rpA_of_mem {K : PySem.W.Frag} {F : Fz} : ∀ {zs : List (Addr × List Int)}, (∀ z ∈ zs, Rp K F (.ref z.1) (.tup (z.2.map D.int))) → RpA K F (zs.map fun z => V.ref z.1) (zs.map fun z => D.tup (z.2.map D.int))
  | [], _ => .nil
  | z :: zs, h => .cons (h z List.mem_cons_self) (rpA_of_mem fun y hy => h y (List.mem_cons_of_mem _ hy))
theorem sortedM_ok {K : PySem.W.Frag} : CallD K (rSrt K) sortedM := fun F H g vs ds d s r rv e Q q => by
  unfold sortedM at e
  split at e
  · rename_i l
    obtain ⟨m, e2, rfl⟩ := Option.map_eq_some_iff.mp e
    cases rv with
    | cons rl t =>
      cases t
      obtain ⟨a, xs, rfl, h1, h2, h3⟩ := rp_lst rl
      unfold sortD at e2
      split at e2
      · rename_i hk
        cases e2
        simp only [Bool.or_eq_true] at hk
        have fin : ∀ {ys : List V} {p : Addr}, H p = none → ys.length = xs.length → RpA K F ys (isoD l) → Q (.ref p) (upd H p (.lst ys)) := fun {ys p} hp hl hr =>
          q _ _ _ (.alloc s r hp) (rp_new_lst (s.free hp) (by rw [← hr.length, hl]; exact h2) hr)
        rcases hk with (hk | hk) | hk
        · obtain ⟨ns, rfl⟩ := isInt_all hk
          have := h3.ints
          subst this
          refine .inl ⟨a, ns, rfl, sqL_mono s h1, fun ns' p p1 p2 hp => fin hp (by simp [p1.length_eq]) ?_⟩
          rw [isoI p1 p2]
          exact RpA.ofInts ns'
        · obtain ⟨ns, rfl⟩ := isStr_all hk
          have e3 := h3.strs
          subst e3
          refine .inr (.inl ⟨a, ns, rfl, sqL_mono s h1, fun ns' p p1 p2 hp => fin hp (by simp [p1.length_eq]) ?_⟩)
          rw [isoS p1 p2]
          refine RpA.ofStrs ns' fun x hx => ?_
          have hx2 := p1.mem_iff.mp hx
          obtain ⟨i, hi⟩ := List.getElem?_of_mem hx2
          obtain ⟨v, _, hv⟩ := h3.get (i := i) (d := .str x) (by rw [List.getElem?_map, hi]; rfl)
          exact (rp_str hv).2
        · obtain ⟨ns, hne, rfl⟩ := isTI_all hk
          obtain ⟨zs, rfl, rfl, hz⟩ := rpA_ti h3
          refine .inr (.inr ⟨a, zs, rfl, sqL_mono s h1, fun z hzm => ⟨hne _ (List.mem_map_of_mem hzm), sqT_mono s (hz z hzm).1⟩, fun ys p p1 p2 hp => fin hp (by simp [p2.len]) ?_⟩)
          have e4 : isoD ((zs.map (·.2)).map fun n => D.tup (n.map D.int)) = ys.map fun z => D.tup (z.2.map D.int) := by
            rw [List.map_map, isoD_eq]
            have := isoG_map (lt := fun x y : Addr × List Int => HT.lexLt x.2 y.2) (lt' := ltB) (fun z : Addr × List Int => D.tup (z.2.map D.int)) (fun x y => ltB_ti x.2 y.2) zs
            refine Eq.trans this ?_
            rw [← isoG_uniq (swoT fun z : Addr × List Int => z.2) p1 p2]
          rw [e4]
          exact rpA_of_mem fun z hz2 => (hz z (p2.perm.mem_iff.mp hz2)).2
      · cases e2
  · cases e
section
variable {X : Cx} {e : Expr} {fs : EA} {p pos : Pos}
theorem pd_sorted (hm : X.mg "sorted" = none) (ha : PDA X [e] fs) (hg : Gl X "sorted" := by rfl) (he : starEach [e] X.env = (false, eval e X.env) :: starEach [] X.env := by rfl) : PD X (.Call (.Name "sorted" p) [e] [] pos) (eBi sortedM fs) :=
  pd_biD cr_srt sortedM_ok hm ha (by decide +kernel) hg (by decide) (by decide) he (by rfl)
end
end PD
end
section
set_option Elab.async false
set_option linter.all false
set_option maxRecDepth 100000
set_option maxHeartbeats 4000000
set_option autoImplicit false
namespace PD
open PySem PySem.Spec L2
open PyProof.Rows hiding St
variable [Live]

/-! ### two clauses -/
def lc2L (bd : B) (t : T) (it1 : EA) (vs1 : List Nat) (bd1 : B) (t1 : T) (e : E) (ρ : Rho) : List D → M (List D)
  | [] => mr []
  | d :: ds => match bd d ρ with
    | none => mz
    | some ρ' => mb (t ρ') fun b => if b = true then mb (it1 ρ') fun ds1 => mb (lcL bd1 t1 e (wipeR ρ' vs1) ds1) fun xs => mb (lc2L bd t it1 vs1 bd1 t1 e ρ ds) fun ys => mr (xs ++ ys) else lc2L bd t it1 vs1 bd1 t1 e ρ ds
def eLc2A (vs vs1 : List Nat) (it : EA) (bd : B) (t : T) (it1 : EA) (bd1 : B) (t1 : T) (e : E) : EA := fun ρ => mb (it ρ) fun ds => mb (lc2L bd t it1 vs1 bd1 t1 e (wipeR ρ vs) ds) fun xs => if xs.length ≤ sizeLine then mr xs else mz
/-- the reading of an iterable, in one form -/
def tIF (K : PySem.W.Frag) (f : EA) : TI := fun σ H R => ∃ F ρ g ds g', PreE K F H g ρ σ ∧ f ρ g = some (ds, g') ∧ ∀ J H' F', Stp K g g' F F' H H' → ItS K J F'.h F' ds → R J H'
theorem PDI.can {X : Cx} {tg e : Expr} {f : EA} (h : PDI X tg e f) : PI X tg e (tIF X.K f) := by
  obtain ⟨wi, hw, k⟩ := h
  exact ⟨fun pins s σ H R I ⟨F, ρ, g, ds, g', pre, e, q⟩ => hw.run pins s σ H R I (k σ H F ρ g pre ds g' e R q)⟩
def both (F W : Hp) : Hp := fun a => match F a with
  | some o => some o
  | none => W a
theorem both_some {F W : Hp} {a : Addr} {o : HO} : both F W a = some o ↔ F a = some o ∨ (F a = none ∧ W a = some o) := by
  unfold both
  cases F a with
  | none => simp
  | some u => simp
theorem lc2_sem {K : PySem.W.Frag} {wi : TI} {sl vs sl1 vs1 : List Nat} {bd bd1 : B} {t t1 : T} {e : E} {it it1 : EA} {σ : St} {F : Fz} {H0 : Hp} {ρ : Rho} {g : G}
    (kI : ∀ σ H F ρ g, PreE K F H g ρ σ → ∀ ds g', it ρ g = some (ds, g') → ∀ R : It → Hp → Prop, (∀ J H' F', Stp K g g' F F' H H' → ItS K J (off F' H').h F' ds → R J H') → wi σ H R)
    (hsl : ∀ i ∈ sl, i ∈ vs) (hsl1 : ∀ i ∈ sl1, i ∈ vs1) (pre : PreE K F H0 g ρ σ) {ds : List D} {g' : G} (ev : eLc2A vs vs1 it bd t it1 bd1 t1 e ρ g = some (ds, g')) {Q : VK} (q : NewL K F H0 g g' ds Q) :
    tLc2 wi (gB K sl bd) (tTT K t) (tIF K it1) (gB K sl1 bd1) (tTT K t1) (tD K e) vs vs1 σ H0 Q := by
  obtain ⟨src, g1, e1, ev⟩ := mb_inv ev
  obtain ⟨out, g2, e2, ev⟩ := mb_inv ev
  have hz : out.length ≤ sizeLine ∧ out = ds ∧ g2 = g' := by
    split at ev
    · obtain ⟨h1, h2⟩ := mr_inv ev
      exact ⟨by assumption, h1.symm, h2.symm⟩
    · cases ev
  obtain ⟨hz, rfl, rfl⟩ := hz
  refine kI σ H0 F ρ g pre src g1 e1 _ fun J H1 F1 s1 it0 L hL => ?_
  obtain ⟨ok, beg⟩ := LI.begin (o := .lst []) pre s1 hL
  refine ⟨fun i m H => m = src.length - i ∧ i ≤ src.length ∧ ∃ F3 g3 ws dn lf, LI K ⟨g, F, H0, (off F1 H1).h, F1, L⟩ [(ρ, σ)] (.lst ws) H F3 g3 ∧ RpA K F3 ws dn ∧ lc2L bd t it1 vs1 bd1 t1 e (wipeR ρ vs) (src.drop i) g3 = some (lf, g2) ∧ dn ++ lf = out,
    ⟨src.length, by simp, Nat.zero_le _, F1, g1, [], [], out, beg, .nil, e2, rfl⟩, ?_⟩
  rintro i m H3 ⟨rfl, hi, F3, g3, ws3, dn, lf, h3, r3, ev3, e3⟩
  obtain ⟨goes, stops⟩ := (it0.mono h3.sf) H3 h3.sw
  by_cases hlt : i < src.length
  · have hd : src[i]? = some src[i] := List.getElem?_eq_getElem hlt
    rw [List.drop_eq_getElem_cons hlt] at ev3
    unfold lc2L at ev3
    obtain ⟨go, yl⟩ := goes i _ hd
    refine .inr ⟨go, fun H5 => ∃ F3 g3 ws dn lf, LI K ⟨g, F, H0, (off F1 H1).h, F1, L⟩ [(ρ, σ)] (.lst ws) H5 F3 g3 ∧ RpA K F3 ws dn ∧ lc2L bd t it1 vs1 bd1 t1 e (wipeR ρ vs) (src.drop (i + 1)) g3 = some (lf, g2) ∧ dn ++ lf = out, fun H5 h5 => ⟨_, by omega, rfl, by omega, h5⟩, fun x H4 y => ?_⟩
    have pr := h3.pre _ (List.mem_cons_self)
    obtain ⟨F4, s4, r4⟩ := (yl x H4 y).step pr.sub pr.rep
    have h4 := h3.step s4
    cases hb : bd src[i] (wipeR ρ vs) with
    | none => rw [hb] at ev3; cases ev3
    | some ρ' =>
      rw [hb] at ev3
      obtain ⟨c, g5, e5, ev3⟩ := mb_inv ev3
      refine ⟨F4, wipeR ρ vs, g3, src[i], ρ', (h4.pre _ List.mem_cons_self).wipe vs, r4, hb, fun σ' pre' ow' hw => ⟨by rw [hw vs hsl]; exact wipe_twice σ vs, ?_⟩⟩
      refine ⟨F4, ρ', g3, c, g5, pre', e5, fun H5 F5 s5 => ?_⟩
      have h5 := h4.step s5
      have r5 := r3.mono (s4.ext.trans s5.ext)
      cases c with
      | false =>
        rw [if_neg Bool.false_ne_true] at ev3
        exact iteF ⟨F5, g5, ws3, dn, lf, h5, r5, ev3, e3⟩
      | true =>
        rw [if_pos rfl] at ev3
        refine iteT ?_
        obtain ⟨src1, g6, e6, ev3⟩ := mb_inv ev3
        obtain ⟨xs, g7, e7, ev3⟩ := mb_inv ev3
        obtain ⟨ys, g8, e8, ev3⟩ := mb_inv ev3
        obtain ⟨rfl, rfl⟩ := mr_inv ev3
        have pre5 := pre'.step s5
        have no5 : ∀ i, ¬ Owned ρ' σ' i L := fun i z => by
          obtain ⟨lv, q1, q2, q3⟩ := ow' i L z
          exact h5.no _ List.mem_cons_self i ⟨lv, (wipeR_some q1).1, q2, (wipe_some q3).1⟩
        refine ⟨F5, ρ', g5, src1, g6, pre5, e6, fun J1 H6 F6 s6 it6 => ?_⟩
        have h6 := (h5.add pre5 no5).step s6
        -- what both walks stand on
        have eW : ∀ a o, both F6.h (off F1 H1).h a = some o ↔ F6 a = some o ∨ (F6 a = none ∧ (off F1 H1) a = some o) := fun a o => both_some
        have sB : Same (off F1 H1).h H6 := h6.sw
        have okw : (off F1 H1) L = none := ok.w
        have wL : both F6.h (off F1 H1).h L = none := by
          unfold both
          rw [show F6.h L = none from h6.fl]
          exact okw
        have ok6 : LBase.Ok ⟨g, F, H0, both F6.h (off F1 H1).h, F6, L⟩ := ⟨ok.h0, wL⟩
        have h6' : LI K ⟨g, F, H0, both F6.h (off F1 H1).h, F6, L⟩ [(ρ', σ'), (ρ, σ)] (.lst ws3) H6 F6 g6 := ⟨h6.st, h6.pre, h6.no, fun a o z => by
          rcases (eW a o).mp z with z | z
          · exact s6.sub a o z
          · exact sB a o z.2, fun a o z => by
          rcases (eW a o).mp z with z | z
          · exact s6.rep.outF z
          · exact h6.wm a o z.2, Ext.refl _, h6.fl, h6.ml, h6.hl⟩
        have hz2 : (dn ++ xs).length ≤ sizeLine := by
          rw [← e3] at hz
          simp only [List.length_append] at hz ⊢
          omega
        refine lc_turns (b := ⟨g, F, H0, both F6.h (off F1 H1).h, F6, L⟩) (P := [(ρ, σ)]) (sl := sl1) (vs := vs1) (bd := bd1) (t := t1) (e := e) (σ := σ') (ρ := ρ') (src := src1) (ws := ws3) ok6 (it6.weak fun a o z => (eW a o).mpr (.inl z)) hsl1 h6' (r5.mono s6.ext) e7 hz2 fun H9 F9 ws9 h9 r9 => ?_
        have inW : ∀ a o, (off F1 H1) a = some o → both F6.h (off F1 H1).h a = some o := fun a o z => (eW a o).mpr (by
          cases w : F6 a with
          | none => exact .inr ⟨rfl, z⟩
          | some u =>
            have z1 := s6.sub a u w
            have z2 := sB a o z
            rw [z1] at z2
            exact .inl z2)
        have t9 := h9.tail
        exact ⟨F9, g7, ws9, dn ++ xs, ys, ⟨t9.st, t9.pre, t9.no, fun a o z => t9.sw a o (inW a o z), fun a o z => t9.wm a o (inW a o z), h6.sf.trans t9.sf, t9.fl, t9.ml, t9.hl⟩, r9, e8, by rw [← e3]; simp⟩
  · have e4 : i = src.length := by omega
    subst e4
    rw [List.drop_length] at ev3
    obtain ⟨rfl, rfl⟩ := mr_inv ev3
    rw [List.append_nil] at e3
    subst e3
    exact .inl ⟨stops _ (Nat.le_refl _), q L H3 F3 ws3 h3.st ok.h0 h3.fl h3.ml h3.hl (by rw [r3.length]; exact hz) r3⟩
section
variable {X : Cx} {pos : Pos} {elt tg iter tg1 iter1 : Expr} {ifs ifs1 : List Expr} {scope : Scope} {it it1 : EA} {bd bd1 : B} {t t1 : T} {f : E} {sl sl1 : List Nat}
/-- y = [.. for .. for ..] -/
theorem pds_setLc2 (i : Nat) {y : Str} {py lpos : Pos} (own : List (Str × Nat)) (vs1 : List Nat) (hc : X.calm = true) (hN : X.N.Nodup) (hi : PBI X tg iter it) (ok : BlkOk X.N X.env.scope scope own)
    (hg : ∀ (s : Shared) (H : Hp) (C : Addr) (cl : List (Str × Addr)) (fp : List Addr), PDG (X.blk s H scope (compEnvC scope cl C X.env) fp) tg sl bd) (ht : ∀ (s : Shared) (H : Hp) (C : Addr) (cl : List (Str × Addr)) (fp : List Addr), PDTs (X.blk s H scope (compEnvC scope cl C X.env) fp) ifs t)
    (hi1 : ∀ (s : Shared) (H : Hp) (C : Addr) (cl : List (Str × Addr)) (fp : List Addr), PDI (X.blk s H scope (compEnvC scope cl C X.env) fp) tg1 iter1 it1)
    (hg1 : ∀ (s : Shared) (H : Hp) (C : Addr) (cl : List (Str × Addr)) (fp : List Addr), PDG (X.blk s H scope (compEnvC scope cl C X.env) fp) tg1 sl1 bd1) (ht1 : ∀ (s : Shared) (H : Hp) (C : Addr) (cl : List (Str × Addr)) (fp : List Addr), PDTs (X.blk s H scope (compEnvC scope cl C X.env) fp) ifs1 t1)
    (he : ∀ (s : Shared) (H : Hp) (C : Addr) (cl : List (Str × Addr)) (fp : List Addr), PD (X.blk s H scope (compEnvC scope cl C X.env) fp) elt f)
    (hsw : swapsWith (.ListComp elt [⟨tg, iter, ifs, 0⟩, ⟨tg1, iter1, ifs1, 0⟩] scope lpos) (some (.Name y py)) pos.line X.env = pure true)
    (hsl : ∀ i ∈ sl, i ∈ own.map (·.2) := by decide) (hsl1 : ∀ i ∈ sl1, i ∈ vs1 := by decide) (hv : ∀ i ∈ vs1, i ∈ own.map (·.2) := by decide) (hs : ∀ x, foldedSetIterable iter X.env x = pure x := by intro _; rfl) (hs1 : ∀ env x, foldedSetIterable iter1 env x = pure x := by intro _ _; rfl)
    (hy : X.N[i]? = some y := by rfl) (hyl : X.env.scope.names.lookup y = some .local := by rfl) :
    PDS X (.Assign [.Name y py] (.ListComp elt [⟨tg, iter, ifs, 0⟩, ⟨tg1, iter1, ifs1, 0⟩] scope lpos) pos) (sSet i (eO (eLc2A (own.map (·.2)) vs1 it bd t it1 bd1 t1 f))) := by
  obtain ⟨wi, hw, kI⟩ := hi
  refine ⟨_, ps_setLc2 (g := gB X.K sl bd) (tt := tTT X.K t) (wi1 := tIF X.K it1) (g1 := gB X.K sl1 bd1) (tt1 := tTT X.K t1) (te := tD X.K f) hc hN hy hyl hsw hw ok hv (fun s H C cl fp => (hg s H C cl fp).can) ht (fun s H C cl fp => (hi1 s H C cl fp).can) (fun s H C cl fp => (hg1 s H C cl fp).can) ht1 (fun s H C cl fp => (he s H C cl fp).can) hs hs1, fun en σ H F ρ g pre fl g' e De post => ?_⟩
  obtain ⟨d, g1, e1, e⟩ := mb_inv e
  obtain ⟨xs, g2, e2, e3⟩ := mb_inv e1
  obtain ⟨rfl, rfl⟩ := mr_inv e3
  obtain ⟨rfl, rfl⟩ := mr_inv e
  exact lc2_sem kI hsl hsl1 pre.e e2 (.frz fun v H1 F1 s1 r1 => post _ H1 F1 ((pre.step s1).set r1))
end
end PD
end
section
set_option Elab.async false
set_option linter.all false
set_option maxRecDepth 100000
set_option maxHeartbeats 4000000
set_option autoImplicit false
namespace PD
open PySem PySem.Spec L2
open PyProof.Rows hiding St
variable [Live]

/-! ### new dicts -/
abbrev EK := Rho → M (List Key × List D)
def NewK (K : PySem.W.Frag) (F : Fz) (H : Hp) (g g' : G) (ks : List Key) (ds : List D) (Q : VK) : Prop := ∀ p H' F' kvs, Stp K g g' F F' H H' → H p = none → F' p = none → p ∉ F'.mu → H' p = some (.dK kvs) → kvs.length ≤ sizeLine → kvs.map (·.1) = ks → ks.Nodup → RpA K F' (kvs.map (·.2)) ds → Q (.ref p) H'
def PK (X : Cx) (e : Expr) (f : EK) : Prop := ∃ t, PE X e t ∧ ∀ σ H F ρ g, PreE X.K F H g ρ σ → ∀ r g', f ρ g = some (r, g') → ∀ Q : VK, NewK X.K F H g g' r.1 r.2 Q → t σ H Q
def eKd (f : EK) : E := fun ρ => mb (f ρ) fun r => mr (.dk r.1 r.2)
def vK (f : EK) : EV := fun ρ => mb (f ρ) fun r => mr (.ok r.1 r.2)
/-- it is frozen at once -/
theorem NewK.frz {K : PySem.W.Frag} {F : Fz} {H : Hp} {g g' : G} {ks : List Key} {ds : List D} {Q : VK} (q : ∀ v H' F', Stp K g g' F F' H H' → Rp K F' v (.dk ks ds) → Q v H') : NewK K F H g g' ks ds Q := fun p H' F' kvs s hp hF hg hH hz hk _ r => by
  subst hk
  exact q (.ref p) H' (F'.upd p (.dK kvs)) (s.frz hp hF hg hH) (.dk (.inl upd_same) (r.mono (.upd hF)))
section
variable {X : Cx} {e : Expr} {fk : EK} {pos : Pos}
theorem pd_newK (h : PK X e fk) : PD X e (eKd fk) := by
  obtain ⟨t, ht, k⟩ := h
  refine ⟨t, ht, fun σ H F ρ g pre d g' e Q q => ?_⟩
  obtain ⟨xs, g1, e1, e⟩ := mb_inv e
  obtain ⟨rfl, rfl⟩ := mr_inv e
  exact k σ H F ρ g pre xs _ e1 Q (.frz q)
theorem pv_ok (h : PK X e fk) : PV X e (vK fk) := by
  obtain ⟨t, ht, k⟩ := h
  refine ⟨t, ht, fun σ H F ρ g pre lv g' ev Q q => ?_⟩
  obtain ⟨d, g1, e1, ev⟩ := mb_inv ev
  obtain ⟨rfl, rfl⟩ := mr_inv ev
  exact k σ H F ρ g pre d _ e1 _ fun p H1 F1 kvs s1 n1 n2 n3 n4 n5 n6 n7 n8 => q (.ref p) H1 F1 s1 ⟨p, kvs, rfl, n2, n3, n4, n6, n8⟩ fun _ w ew => by cases ew; exact n1
/-- x = a value that may be a new thing of one's own -/
def sSetV (i : Nat) (f : EV) : S := fun ρ => mb (f ρ) fun lv => mr (.nx (ρ.set i (some lv)))
theorem pds_setV (i : Nat) {x : Str} {fv : EV} {pos' : Pos} (hN : X.N.Nodup) (h : PV X e fv) (hi : X.N[i]? = some x := by rfl) (hx : Loc X.env.scope x := by first | exact Or.inl rfl | exact Or.inr rfl)
    (hs : swapsWith e (some (.Name x pos')) pos.line X.env = pure false := by rfl) (hf : X.fn x = true ∨ X.env.scope.names.lookup x = some .local := by first | exact .inl rfl | exact .inr rfl | assumption) :
    PDS X (.Assign [.Name x pos'] e pos) (sSetV i fv) := by
  obtain ⟨t, p, k⟩ := h
  refine ⟨_, ps_set hN hi hx p hs hf, fun en σ H F ρ g pre fl g' e De post => ?_⟩
  obtain ⟨lv, g1, e1, e⟩ := mb_inv e
  obtain ⟨rfl, rfl⟩ := mr_inv e
  refine k σ H F ρ g pre.e lv _ e1 _ fun v H1 F1 s1 ok fr => ?_
  exact post _ H1 F1 (par_sem (vs := [v]) (lvs := [lv]) pre s1 (.cons ok fr (fun o p ep => by subst ep; exact ok.there o) s1.mono .nil) [i])
end
/-! ### {k: v for ..} -/
theorem putD_keys {k : Key} {d : D} : ∀ {ks : List Key} {l : List D}, ks.length = l.length → (k ∈ ks ∧ (putD ks l k d).1 = ks) ∨ (k ∉ ks ∧ (putD ks l k d).1 = ks ++ [k])
  | [], [], _ => .inr ⟨by simp, rfl⟩
  | k' :: ks, d' :: l, h => by
    have ih := putD_keys (k := k) (d := d) (ks := ks) (l := l) (by simpa using h)
    unfold putD
    by_cases e : k' = k
    · subst e; exact .inl ⟨List.mem_cons_self, by rw [if_pos rfl]⟩
    · rw [if_neg e]
      rcases ih with ⟨h1, h2⟩ | ⟨h1, h2⟩
      · exact .inl ⟨List.mem_cons_of_mem _ h1, by rw [h2]⟩
      · exact .inr ⟨fun z => (List.mem_cons.mp z).elim (fun z => e z.symm) h1, by rw [h2]; rfl⟩
theorem putD_nodup {k : Key} {d : D} {ks : List Key} {l : List D} (h : ks.length = l.length) (n : ks.Nodup) : (putD ks l k d).1.Nodup := by
  rcases putD_keys (k := k) (d := d) h with ⟨h1, h2⟩ | ⟨h1, h2⟩
  · rw [h2]; exact n
  · rw [h2]
    refine List.nodup_append.mpr ⟨n, by simp, fun a ha b hb e => h1 ?_⟩
    rw [List.mem_singleton.mp hb] at e
    rw [← e]; exact ha
theorem putD_len {k : Key} {d : D} : ∀ {ks : List Key} {l : List D}, ks.length = l.length → (putD ks l k d).1.length = (putD ks l k d).2.length
  | [], [], _ => rfl
  | k' :: ks, d' :: l, h => by
    have ih := putD_len (k := k) (d := d) (ks := ks) (l := l) (by simpa using h)
    unfold putD
    by_cases e : k' = k
    · simp only [if_pos e]; simpa using h
    · simp only [if_neg e, List.length_cons, ih]
def dcL (bd : B) (t : T) (k v : E) (ρ : Rho) : List Key × List D → List D → M (List Key × List D)
  | acc, [] => mr acc
  | acc, d :: ds => match bd d ρ with
    | none => mz
    | some ρ' => mb (t ρ') fun b => if b = true then mb (k ρ') fun y => mb (v ρ') fun x => match keyD y with
        | some kk => if acc.1.length < sizeLine then dcL bd t k v ρ (putD acc.1 acc.2 kk x) ds else mz
        | none => mz
      else dcL bd t k v ρ acc ds
def eDcA (vs : List Nat) (it : EA) (bd : B) (t : T) (k v : E) : EK := fun ρ => mb (it ρ) fun ds => dcL bd t k v (wipeR ρ vs) ([], []) ds
theorem dc_sem {K : PySem.W.Frag} {wi : TI} {sl vs : List Nat} {bd : B} {t : T} {kf vf : E} {it : EA} {σ : St} {F : Fz} {H0 : Hp} {ρ : Rho} {g : G}
    (kI : ∀ σ H F ρ g, PreE K F H g ρ σ → ∀ ds g', it ρ g = some (ds, g') → ∀ R : It → Hp → Prop, (∀ J H' F', Stp K g g' F F' H H' → ItS K J (off F' H').h F' ds → R J H') → wi σ H R)
    (hsl : ∀ i ∈ sl, i ∈ vs) (pre : PreE K F H0 g ρ σ) {r : List Key × List D} {g' : G} (ev : eDcA vs it bd t kf vf ρ g = some (r, g')) {Q : VK} (q : NewK K F H0 g g' r.1 r.2 Q) : tDc wi (gB K sl bd) (tTT K t) (tD K kf) (tD K vf) vs σ H0 Q := by
  obtain ⟨src, g1, e1, ev⟩ := mb_inv ev
  refine kI σ H0 F ρ g pre src g1 e1 _ fun J H1 F1 s1 it0 L hL => ?_
  obtain ⟨ok, beg⟩ := LI.begin (o := .dK []) pre s1 hL
  refine ⟨fun i m H => m = src.length - i ∧ i ≤ src.length ∧ ∃ F3 g3 kvs dn, LI K ⟨g, F, H0, (off F1 H1).h, F1, L⟩ [(ρ, σ)] (.dK kvs) H F3 g3 ∧ kvs.length ≤ sizeLine ∧ (kvs.map (·.1)).Nodup ∧ RpA K F3 (kvs.map (·.2)) dn ∧ dcL bd t kf vf (wipeR ρ vs) (kvs.map (·.1), dn) (src.drop i) g3 = some (r, g'),
    ⟨src.length, by simp, Nat.zero_le _, F1, g1, [], [], beg, Nat.zero_le _, List.nodup_nil, .nil, ev⟩, ?_⟩
  rintro i m H3 ⟨rfl, hi, F3, g3, kvs, dn, h3, hz3, nd3, r3, ev3⟩
  obtain ⟨goes, stops⟩ := (it0.mono h3.sf) H3 h3.sw
  by_cases hlt : i < src.length
  · have hd : src[i]? = some src[i] := List.getElem?_eq_getElem hlt
    rw [List.drop_eq_getElem_cons hlt] at ev3
    unfold dcL at ev3
    obtain ⟨go, yl⟩ := goes i _ hd
    refine .inr ⟨go, fun H5 => ∃ F3 g3 kvs dn, LI K ⟨g, F, H0, (off F1 H1).h, F1, L⟩ [(ρ, σ)] (.dK kvs) H5 F3 g3 ∧ kvs.length ≤ sizeLine ∧ (kvs.map (·.1)).Nodup ∧ RpA K F3 (kvs.map (·.2)) dn ∧ dcL bd t kf vf (wipeR ρ vs) (kvs.map (·.1), dn) (src.drop (i + 1)) g3 = some (r, g'), fun H5 h5 => ⟨_, by omega, rfl, by omega, h5⟩, fun x H4 y => ?_⟩
    have pr := h3.pre _ (List.mem_cons_self)
    obtain ⟨F4, s4, r4⟩ := (yl x H4 y).step pr.sub pr.rep
    have h4 := h3.step s4
    cases hb : bd src[i] (wipeR ρ vs) with
    | none => rw [hb] at ev3; cases ev3
    | some ρ' =>
      rw [hb] at ev3
      obtain ⟨c, g5, e5, ev3⟩ := mb_inv ev3
      refine ⟨F4, wipeR ρ vs, g3, src[i], ρ', (h4.pre _ List.mem_cons_self).wipe vs, r4, hb, fun σ' pre' _ hw => ⟨by rw [hw vs hsl]; exact wipe_twice σ vs, ?_⟩⟩
      refine ⟨F4, ρ', g3, c, g5, pre', e5, fun H5 F5 s5 => ?_⟩
      have h5 := h4.step s5
      have r5 := r3.mono (s4.ext.trans s5.ext)
      cases c with
      | false =>
        rw [if_neg Bool.false_ne_true] at ev3
        exact iteF ⟨F5, g5, kvs, dn, h5, hz3, nd3, r5, ev3⟩
      | true =>
        rw [if_pos rfl] at ev3
        refine iteT ?_
        obtain ⟨yk, g6, e6, ev3⟩ := mb_inv ev3
        obtain ⟨zv, g7, e7, ev3⟩ := mb_inv ev3
        refine ⟨F5, ρ', g5, yk, g6, pre'.step s5, e6, fun w H6 F6 s6 r6 => ?_⟩
        refine ⟨F6, ρ', g6, zv, g7, (pre'.step s5).step s6, e7, fun u H7 F7 s7 r7 => ?_⟩
        have h7 := (h5.step s6).step s7
        cases hk : keyD yk with
        | none => rw [hk] at ev3; cases ev3
        | some kk =>
          rw [hk] at ev3
          by_cases hsz : (kvs.map (·.1)).length < sizeLine
          · have ev3 : (if (kvs.map (·.1)).length < sizeLine then dcL bd t kf vf (wipeR ρ vs) (putD (kvs.map (·.1)) dn kk zv) (src.drop (i + 1)) else mz) g7 = some (r, g') := ev3
            rw [if_pos hsz] at ev3
            have hsz2 : kvs.length < sizeLine := by simpa using hsz
            have r7' := r5.mono (s6.ext.trans s7.ext)
            obtain ⟨q1, q2⟩ := putD_ok (k := kk) r7 nd3 r7'
            have hln : (kvs.map (·.1)).length = dn.length := by rw [List.length_map, ← r3.length, List.length_map]
            refine ⟨kvs, kk, keyD_ok r6 hk, h7.hl, hsz2, F7, g7, putK kvs kk u, (putD (kvs.map (·.1)) dn kk zv).2, h7.mut ok, ?_, ?_, q2, ?_⟩
            · have := length_putK kvs kk u; omega
            · rw [q1]; exact putD_nodup hln nd3
            · rw [q1]; exact ev3
          · have ev3 : (if (kvs.map (·.1)).length < sizeLine then dcL bd t kf vf (wipeR ρ vs) (putD (kvs.map (·.1)) dn kk zv) (src.drop (i + 1)) else mz) g7 = some (r, g') := ev3
            rw [if_neg hsz] at ev3
            cases ev3
  · have e4 : i = src.length := by omega
    subst e4
    rw [List.drop_length] at ev3
    obtain ⟨rfl, rfl⟩ := mr_inv ev3
    exact .inl ⟨stops _ (Nat.le_refl _), q L H3 F3 kvs h3.st ok.h0 h3.fl h3.ml h3.hl hz3 rfl nd3 r3⟩
section
variable {X : Cx} {pos : Pos} {kx vx tg iter : Expr} {ifs : List Expr} {scope : Scope} {it : EA} {bd : B} {t : T} {fk fv : E} {sl : List Nat}
theorem pk_dc (own : List (Str × Nat)) (hc : X.calm = true) (hN : X.N.Nodup) (hi : PBI X tg iter it) (ok : BlkOk X.N X.env.scope scope own)
    (hg : ∀ (s : Shared) (H : Hp) (C : Addr) (cl : List (Str × Addr)) (fp : List Addr), PDG (X.blk s H scope (compEnvC scope cl C X.env) fp) tg sl bd)
    (ht : ∀ (s : Shared) (H : Hp) (C : Addr) (cl : List (Str × Addr)) (fp : List Addr), PDTs (X.blk s H scope (compEnvC scope cl C X.env) fp) ifs t)
    (hk : ∀ (s : Shared) (H : Hp) (C : Addr) (cl : List (Str × Addr)) (fp : List Addr), PD (X.blk s H scope (compEnvC scope cl C X.env) fp) kx fk)
    (hv : ∀ (s : Shared) (H : Hp) (C : Addr) (cl : List (Str × Addr)) (fp : List Addr), PD (X.blk s H scope (compEnvC scope cl C X.env) fp) vx fv)
    (hsl : ∀ i ∈ sl, i ∈ own.map (·.2) := by decide) (hs : ∀ x, foldedSetIterable iter X.env x = pure x := by intro _; rfl) : PK X (.DictComp kx vx [⟨tg, iter, ifs, 0⟩] scope pos) (eDcA (own.map (·.2)) it bd t fk fv) := by
  obtain ⟨wi, hw, kI⟩ := hi
  refine ⟨_, pe_dc (g := gB X.K sl bd) (tt := tTT X.K t) (tk := tD X.K fk) (tv := tD X.K fv) hc hN hw ok (fun s H C cl fp => (hg s H C cl fp).can) ht (fun s H C cl fp => (hk s H C cl fp).can) (fun s H C cl fp => (hv s H C cl fp).can) hs, fun σ H F ρ g pre ds g' e Q q => ?_⟩
  exact dc_sem kI hsl pre e q
end
/-! ### d.update(e) -/
def mergeD : List Key × List D → List Key → List D → List Key × List D
  | acc, k :: ks, d :: l => mergeD (putD acc.1 acc.2 k d) ks l
  | acc, _, _ => acc
theorem mergeD_ok {K : PySem.W.Frag} {F : Fz} : ∀ {more kvs : List (Key × V)} {l m : List D}, (kvs.map (·.1)).Nodup → RpA K F (kvs.map (·.2)) l → RpA K F (more.map (·.2)) m →
    (mergeK kvs more).map (·.1) = (mergeD (kvs.map (·.1), l) (more.map (·.1)) m).1 ∧ RpA K F ((mergeK kvs more).map (·.2)) (mergeD (kvs.map (·.1), l) (more.map (·.1)) m).2
  | [], kvs, l, m, _, r, rm => by cases rm; exact ⟨rfl, r⟩
  | (k, v) :: more, kvs, l, m, n, r, rm => by
    cases rm with
    | cons r0 rr =>
      rename_i d ds
      obtain ⟨q1, q2⟩ := putD_ok (k := k) r0 n r
      have hln : (kvs.map (·.1)).length = l.length := by rw [List.length_map, ← r.length, List.length_map]
      have ih := mergeD_ok (more := more) (kvs := putK kvs k v) (l := (putD (kvs.map (·.1)) l k d).2) (m := ds) (by rw [q1]; exact putD_nodup hln n) q2 rr
      rw [q1] at ih
      exact ih
def okAt (ρ : Rho) (i : Nat) : Option (List Key × List D) := match ρ[i]? with
  | some (some (.ok ks l)) => some (ks, l)
  | _ => none
theorem okAt_inv {ρ : Rho} {i : Nat} {r : List Key × List D} (h : okAt ρ i = some r) : ρ[i]? = some (some (.ok r.1 r.2)) := by
  unfold okAt at h
  split at h
  · cases h; assumption
  · cases h
def rUpd : V → List V → Hp → VK → Prop := fun x xs H Q => ∃ (d o : Addr) (ks ls : List (Key × V)), x = V.ref d ∧ xs = [V.ref o] ∧ d ≠ o ∧ H d = some (.dK ks) ∧ H o = some (.dK ls) ∧ ks.length + ls.length ≤ sizeLine ∧ Q .non (upd H d (.dK (mergeK ks ls)))
theorem mt_update {X : Cx} : MtR X "dict.update" rUpd := by
  intro pins s σ H x xs v us Q I rx rxs h
  obtain ⟨d, o, ks, ls, rfl, rfl, hne, hd, ho, hz, q⟩ := h
  cases rx
  rw [Vals.ref1 rxs]
  obtain ⟨z1, n1, vs, rel, dd⟩ := dk_of I.hok hd
  obtain ⟨z2, n2, ws, rel2, dd2⟩ := dk_of I.hok ho
  refine call_meetsIn PySem.F.slot_dict_update dd.typeIs PySem.F.entry_dict_update (PySem.F.args_dict_update_2 _ _) (meets_dict_update (mixKind X.prog X.w) d o hne n2) ⟨vs, ws, dd, dd2, by rw [← rel.length, ← rel2.length]; exact hz, fun h' dd' _ hs => ?_⟩
  have he : ∃ q, h'.get? d = some q := let ⟨q, _, _, hq, _⟩ := dd'; ⟨q, hq⟩
  refine ⟨.non, _, d_write I (by rw [hd]; exact True.intro) hs he (dk_new ?_ n1 (rel2.merge rel) dd'), rfl, q⟩
  exact Nat.le_trans (length_mergeK ls ks) hz
def sUpdate (i : Nat) (f : EK) : S := fun ρ => mb (f ρ) fun m => ml ((okAt ρ i).bind fun r => if r.1.Nodup ∧ r.1.length + m.1.length ≤ sizeLine then some (.nx (ρ.set i (some (.ok (mergeD r m.1 m.2).1 (mergeD r m.1 m.2).2)))) else none)
section
variable {X : Cx} {e : Expr} {fk : EK} {x : Str} {p ap cp pos : Pos}
theorem pds_update (i : Nat) (h : PK X e fk) (hN : X.N[i]? = some x := by rfl) (hv : Vis X.env.scope x := by first | exact Or.inl rfl | exact Or.inr (Or.inl rfl) | exact Or.inr (Or.inr rfl))
    (hd : (x == ("__debug__" : Str)) = false := by decide) (hcd : (x == ("__classdict__" : Str)) = false := by decide)
    (hbase : attributeBase (.Name x p) "update" X.env (eval (.Name x p) X.env) = eval (.Name x p) X.env := by rfl)
    (hfew : ((backTo cp (starEach [e] X.env)).all (fun x => !x.1) && (backToKw cp (keywordEach [] X.env)).all (fun x => x.1.isSome)
      && decide ([e].length + ([] : List Keyword).length + (if ([] : List Keyword).isEmpty then 0 else 1) < 30)) = true := by rfl)
    (hline : (ap.endLine == cp.line) = true := by rfl) (hs : starEach [e] X.env = (false, eval e X.env) :: starEach [] X.env := by rfl) (hsw : swapsWith (.Call (.Attribute (.Name x p) "update" ap) [e] [] cp) none pos.line X.env = pure false := by rfl) :
    PDS X (.Expr (.Call (.Attribute (.Name x p) "update" ap) [e] [] cp) pos) (sUpdate i fk) := by
  obtain ⟨t, ht, k⟩ := h
  refine ⟨_, ps_expr (pe_bm PySem.F.plainAttrs_dict PySem.F.slot_dict_update PySem.F.type_dict_update mt_update (pe_var hN hv hd hcd) (pa_cons ht pa_nil hs) hbase hfew hline hs (by rfl)) hsw, fun en σ H F ρ g pre fl g' ev De post => ?_⟩
  obtain ⟨m, g1, e1, ev⟩ := mb_inv ev
  obtain ⟨ev2, rfl⟩ := ml_inv ev
  obtain ⟨r, hr0, hc⟩ := Option.bind_eq_some_iff.mp ev2
  have hr := okAt_inv hr0
  by_cases hz : r.1.Nodup ∧ r.1.length + m.1.length ≤ sizeLine
  · rw [if_pos hz] at hc
    cases hc
    obtain ⟨v, h1, q, kvs, rfl, h2, h3, h4, h5, h6⟩ := pre.e.sl.at_ i _ hr
    refine ⟨_, h1, .inr (.inr (.inl ⟨rfl, .inl ⟨kvs, h4⟩⟩)), k σ H F ρ g pre.e m _ e1 _ fun w H1 F1 more s1 n1 n2 n3 n4 n5 n6 n7 n8 => ?_⟩
    have pre1 := pre.step s1
    have h4' : H1 q = some (.dK kvs) := s1.same _ _ h3 h4
    have hne : q ≠ w := fun z => by subst z; rw [n1] at h4; cases h4
    have nd : (kvs.map (·.1)).Nodup := by rw [h5]; exact hz.1
    obtain ⟨q1, q2⟩ := mergeD_ok (more := more) nd (h6.mono s1.ext) n8
    have e2 : (kvs.map (·.1), r.2) = r := by rw [h5]
    rw [e2, n6] at q1 q2
    have hl : kvs.length + more.length ≤ sizeLine := by
      have a1 : kvs.length = r.1.length := by rw [← h5]; simp
      have a2 : more.length = m.1.length := by rw [← n6]; simp
      omega
    exact ⟨q, w, kvs, more, rfl, rfl, hne, h4', n4, hl, post σ _ F1 (pre1.mut hr rfl h1 rfl (s1.keepN h2 h4) (s1.keepM h3 h4) ⟨q, mergeK kvs more, rfl, s1.keepN h2 h4, s1.keepM h3 h4, upd_same, q1, q2⟩)⟩
  · rw [if_neg hz] at hc
    cases hc
end
end PD
end
section
set_option Elab.async false
set_option linter.all false
set_option maxRecDepth 100000
set_option maxHeartbeats 4000000
set_option autoImplicit false
namespace PD
open PySem PySem.Spec L2
open PyProof.Rows hiding St
variable [Live]

/-! ### sep.join(texts) -/
def cs (x : Str) : List Nat := x.cps.toList
def ofCs (l : List Nat) : Str := ⟨l.toArray⟩
theorem ofCs_cs (x : Str) : ofCs (cs x) = x := by cases x; rfl
theorem cs_inj {x y : Str} (h : cs x = cs y) : x = y := by rw [← ofCs_cs x, h, ofCs_cs]
theorem cs_len (x : Str) : (cs x).length = x.length := by simp [cs, Str.length]
def joinC (s : List Nat) : List (List Nat) → List Nat
  | [] => []
  | [p] => p
  | p :: q :: r => p ++ (s ++ joinC s (q :: r))
def strsD : List D → Option (List Str)
  | [] => some []
  | .str x :: l => (strsD l).map (x :: ·)
  | _ :: _ => none
def joinD (x y : D) : Option D := match x, y with
  | .str a, .lst l => (strsD l).bind fun xs => if (xs.map (·.length)).sum + xs.length * a.length ≤ sizeLine then some (.str (ofCs (joinC (cs a) (xs.map cs)))) else none
  | .str a, .tup l => (strsD l).bind fun xs => if (xs.map (·.length)).sum + xs.length * a.length ≤ sizeLine then some (.str (ofCs (joinC (cs a) (xs.map cs)))) else none
  | _, _ => none
def eJoin (a b : E) : E := fun ρ => mb (a ρ) fun x => mb (b ρ) fun y => ml (joinD x y)
section
variable {X : Cx} {a e : Expr} {fa f : E} {ap cp pos : Pos}
end
/-! ### l.index(x) -/
def indexL (y : D) : List D → Option Nat
  | [] => none
  | x :: l => if eqq x y = true then some 0 else (indexL y l).map (· + 1)
def indexD (x y : D) : Option D := match x with
  | .lst l => if (cmpOk (.lst l) && cmpOk y) = true then (indexL y l).map (fun n => D.int (Int.ofNat n)) else none
  | _ => none
def eIndex (a b : E) : E := fun ρ => mb (a ρ) fun x => mb (b ρ) fun y => ml (indexD x y)
theorem indexL_ok {y : D} : ∀ {l : List D} {j : Nat}, indexL y l = some j → (∃ z, l[j]? = some z ∧ eqq z y = true) ∧ ∀ m z, m < j → l[m]? = some z → eqq z y = false
  | [], j, h => by cases h
  | x :: l, j, h => by
    unfold indexL at h
    by_cases e : eqq x y = true
    · rw [if_pos e] at h
      cases h
      exact ⟨⟨x, rfl, e⟩, fun m z hm => absurd hm (by omega)⟩
    · rw [if_neg e] at h
      obtain ⟨i, h1, rfl⟩ := Option.map_eq_some_iff.mp h
      obtain ⟨⟨z, h2, h3⟩, h4⟩ := indexL_ok h1
      refine ⟨⟨z, by simpa using h2, h3⟩, fun m w hm hw => ?_⟩
      cases m with
      | zero =>
        have : x = w := by simpa using hw
        subst this
        cases q : eqq x y with
        | true => exact absurd q e
        | false => rfl
      | succ m => exact h4 m w (by omega) (by simpa using hw)
theorem toPyA_get : ∀ {l : List D} {i : Nat}, (toPyA l)[i]? = (l[i]?).map toPy
  | [], i => by simp [toPyA]
  | x :: l, 0 => by simp [toPyA]
  | x :: l, i + 1 => by simp only [toPyA, List.getElem?_cons_succ]; exact toPyA_get
theorem purA_get : ∀ {l : List D} {i : Nat} {z : D}, purA l = true → l[i]? = some z → pur z = true
  | [], i, z, _, h => by simp at h
  | x :: l, 0, z, hp, h => by
    have : x = z := by simpa using h
    subst this
    unfold purA at hp
    exact (Bool.and_eq_true_iff.mp hp).1
  | x :: l, i + 1, z, hp, h => by
    unfold purA at hp
    exact purA_get (Bool.and_eq_true_iff.mp hp).2 (by simpa using h)
section
variable {X : Cx} {a e : Expr} {fa f : E} {ap cp pos : Pos} {k : Nat}
theorem pd_index (hr : Room k X.A) (hu : X.A.units + 65 < cLine) (ha : PD X a fa) (he : PD X e f)
    (hbase : attributeBase a "index" X.env (eval a X.env) = eval a X.env := by rfl)
    (hfew : ((backTo cp (starEach [e] X.env)).all (fun x => !x.1) && (backToKw cp (keywordEach [] X.env)).all (fun x => x.1.isSome)
      && decide ([e].length + ([] : List Keyword).length + (if ([] : List Keyword).isEmpty then 0 else 1) < 30)) = true := by rfl)
    (hline : (ap.endLine == cp.line) = true := by rfl) (hs : starEach [e] X.env = (false, eval e X.env) :: starEach [] X.env := by rfl) :
    PD X (.Call (.Attribute a "index" ap) [e] [] cp) (eIndex fa f) := by
  obtain ⟨ta, pa, ka⟩ := ha
  obtain ⟨tb, pb, kb⟩ := he
  refine ⟨_, pe_bm PySem.F.plainAttrs_list PySem.F.slot_list_index PySem.F.type_list_index (mt_indexD hu) pa (pa_cons pb pa_nil hs) hbase hfew hline hs (by rfl), fun σ H F ρ g pre d g' e Q q => ?_⟩
  obtain ⟨dx, g1, e1, e⟩ := mb_inv e
  obtain ⟨dy, g2, e2, e⟩ := mb_inv e
  obtain ⟨e3, rfl⟩ := ml_inv e
  refine ka σ H F ρ g pre dx g1 e1 _ fun x H1 F1 s1 r1 => ?_
  unfold indexD at e3
  cases dx with
  | lst l =>
    have e3 : (if (cmpOk (.lst l) && cmpOk dy) = true then (indexL dy l).map (fun n => D.int (Int.ofNat n)) else none) = some d := e3
    by_cases hc : (cmpOk (.lst l) && cmpOk dy) = true
    · rw [if_pos hc] at e3
      obtain ⟨c1, c2⟩ := Bool.and_eq_true_iff.mp hc
      obtain ⟨j, e4, rfl⟩ := Option.map_eq_some_iff.mp e3
      obtain ⟨p, xs, rfl, k1, k2, k3⟩ := rp_lst r1
      refine ⟨.inl ⟨rfl, xs, sqL_mono s1.sub k1⟩, kb σ H1 F1 ρ g1 (pre.step s1) dy _ e2 _ fun y H2 F2 s2 r2 => ?_⟩
      obtain ⟨p1, q1⟩ := rp_shaped s2.sub (r1.mono s2.ext) c1
      obtain ⟨p2, q2⟩ := rp_shaped s2.sub r2 c2
      obtain ⟨⟨z, h1, h2⟩, h3⟩ := indexL_ok e4
      have pl : purA l = true := by
        have := (Bool.and_eq_true_iff.mp c1).1
        unfold pur at this
        exact this
      have py := (Bool.and_eq_true_iff.mp c2).1
      refine ⟨p, y, toPy dy, toPyA l, j, toPy z, rfl, rfl, by unfold toPy at p1; exact p1, p2, by unfold toPy at q1; exact q1, q2, by rw [toPyA_get, h1]; rfl, ?_, fun m z' hm hz' => ?_, q _ H2 F2 (s1.trans s2) (.int _)⟩
      · rw [eqq_ok _ _ (purA_get pl h1) py]; exact h2
      · rw [toPyA_get] at hz'
        obtain ⟨w, h5, rfl⟩ := Option.map_eq_some_iff.mp hz'
        rw [eqq_ok _ _ (purA_get pl h5) py]
        exact h3 m w hm h5
    · rw [if_neg hc] at e3
      cases e3
  | _ => cases e3
end
end PD
end
section
set_option Elab.async false
set_option linter.all false
set_option maxRecDepth 100000
set_option maxHeartbeats 4000000
set_option autoImplicit false
namespace PD
open PySem PySem.Spec L2
open PyProof.Rows hiding St
variable [Live]

/-! ### {x for ..}: sets of any kind of members -/
def newSetObj (w : World) : Obj := { cls := .type "set", dict := none, data := .set #[] 0 (.fresh 0 0 (!w.params.followText "set-order")) }
section
variable {X : Cx} {α : Type}
/-- O: the set's object by what is known of it, a0: the empty one, ad: what a member does to it -/
def tScG (O : α → Addr → HO) (a0 : α) (ad : α → V → Hp → α → Prop) (wi : TI) (g : TG) (tt : TT) (te : TE) (vs : List Nat) : TE := fun σ H Q => wi σ H fun J H1 => ∀ D, H1 D = none →
  ∃ W : Nat → Nat → Hp → Prop, (∃ m, W 0 m (upd H1 D (O a0 D))) ∧ ∀ i m H, W i m H → (J.stop i H ∧ Q (.ref D) H) ∨ (J.go i H ∧ ∃ Nx : Hp → Prop, (∀ H', Nx H' → ∃ m', m' < m ∧ W (i + 1) m' H') ∧
    ∀ x H', J.yld i H x H' → g x (wipe σ vs) H' fun σ2 H2 => wipe σ2 vs = wipe σ vs ∧ tt σ2 H2 fun b H3 => if b = true then te σ2 H3 fun y H4 => ∃ a a', H4 D = some (O a D) ∧ ad a y H4 a' ∧ Nx (upd H4 D (O a' D)) else Nx H3)
def rAddG (O : α → Addr → HO) (ad : α → V → Hp → α → Prop) : V → List V → Hp → VK → Prop := fun x xs H Q => ∃ D y a a', x = .ref D ∧ xs = [y] ∧ H D = some (O a D) ∧ ad a y H a' ∧ Q .non (upd H D (O a' D))
theorem pe_scG {O : α → Addr → HO} {a0 : α} {ad : α → V → Hp → α → Prop} {elt tg iter : Expr} {ifs : List Expr} {scope : Scope} {own : List (PySem.Str × Nat)} {pos : Pos} {wi : TI} {g : TG} {tt : TT} {te : TE}
    (fresh : ∀ (H : Hp) (h : Heap), ObjOk X.prog X.w H (h.push (newSetObj X.w)) h.objs.size (O a0 h.objs.size))
    (add : ∀ (s : Shared) (H : Hp) (env : Env) (fp : List Addr), MtR (X.blk s H scope env fp) "set.add" (rAddG O ad))
    (hc : X.calm = true) (hN : X.N.Nodup) (hi : PI X tg iter wi) (ok : BlkOk X.N X.env.scope scope own)
    (hg : ∀ (s : Shared) (H : Hp) (C : Addr) (cl : List (PySem.Str × Addr)) (fp : List Addr), PG (X.blk s H scope (compEnvC scope cl C X.env) fp) tg g)
    (ht : ∀ (s : Shared) (H : Hp) (C : Addr) (cl : List (PySem.Str × Addr)) (fp : List Addr), PTs (X.blk s H scope (compEnvC scope cl C X.env) fp) ifs tt)
    (he : ∀ (s : Shared) (H : Hp) (C : Addr) (cl : List (PySem.Str × Addr)) (fp : List Addr), PE (X.blk s H scope (compEnvC scope cl C X.env) fp) elt te) (hs : ∀ x, foldedSetIterable iter X.env x = pure x := by intro _; rfl) :
    PE X (.SetComp elt [⟨tg, iter, ifs, 0⟩] scope pos) (tScG O a0 ad wi g tt te (own.map (·.2))) := by
  refine ⟨fun pins s0 σ H0 Q i0 hw => ?_⟩
  rw [PpSet.eval_SetComp]
  have cellsAt : ∀ y ∈ scope.names, y.2 = .free → ∃ c, X.env.cells.lookup y.1 = some c := fun y hy e => (ok.free y hy e).elim (fun k => i0.ok.has _ (.inl k)) fun k => i0.ok.has _ (.inr k)
  refine wpAny_comprehension_free (use := none) rfl hs (closure_ok cellsAt) ok.kind (fun y hy e => by rw [ok.uniq y hy, e]) (thn (hi.run pins s0 σ H0 _ i0 hw) fun xv _ hx => thn hx fun itv s2 hit => ?_)
  obtain ⟨it, fp, tn, J, H2, e, i2, T, at2, own2, q⟩ := hit
  subst e
  refine PpSet.newSet_ok (newEnv_comp ?_)
  generalize hD : s2.heap.objs.size = D
  have freeD : H2 D = none := i2.hok.fresh (Nat.le_of_eq hD)
  obtain ⟨W, ⟨m0, w0⟩, turn⟩ := q D freeD
  generalize hs3 : ({ s2 with heap := s2.heap.push { cls := .type "set", dict := none, data := .set #[] 0 (.fresh 0 0 (!X.w.params.followText "set-order")) } } : Shared) = s3
  have heap3 : s3.heap = s2.heap.push (newSetObj X.w) := by rw [← hs3]; rfl
  have i3 : Inv X pins σ (upd H2 D (O a0 D)) s3 := by
    subst hs3 hD
    exact i2.laid (t' := s2.toks) (fun b o e => Heap.get?_push_of_some _ e) (Nat.le_refl _) (fresh _ _)
  have own3 : ∀ b ∈ fp, FpOk X pins (upd H2 D (O a0 D)) b ∧ b < s3.heap.objs.size := fun b hb => by
    obtain ⟨o, e, _⟩ := T.obj _ _ at2 b hb
    have hlt := Heap.lt_size e
    refine ⟨⟨?_, (own2 b hb).2⟩, by rw [heap3, Heap.size_push]; exact Nat.lt_succ_of_lt hlt⟩
    rw [upd_ne (by rw [← hD]; exact Nat.ne_of_lt hlt)]
    exact (own2 b hb).1
  have i4 := block_start i3 ok hN own3
  have pg := hg s3 (upd H2 D (O a0 D)) s3.heap.objs.size (cellsFrom (s3.heap.objs.size + 1) scope.names (cloFrom X.env.cells scope.names [])) fp
  have pt := ht s3 (upd H2 D (O a0 D)) s3.heap.objs.size (cellsFrom (s3.heap.objs.size + 1) scope.names (cloFrom X.env.cells scope.names [])) fp
  have pe := he s3 (upd H2 D (O a0 D)) s3.heap.objs.size (cellsFrom (s3.heap.objs.size + 1) scope.names (cloFrom X.env.cells scope.names [])) fp
  have pa := add s3 (upd H2 D (O a0 D)) (compEnvC scope (cellsFrom (s3.heap.objs.size + 1) scope.names (cloFrom X.env.cells scope.names [])) s3.heap.objs.size X.env) fp
  show codeAny _ _ (.compStart (.SetComp elt [⟨tg, iter, ifs, 0⟩] scope pos) 0 (.ref it) (.ref D) (compEnvC scope (cellsFrom (s3.heap.objs.size + 1) scope.names (cloFrom X.env.cells scope.names [])) s3.heap.objs.size X.env))
    (compPost (model X.prog X.w) X.A X.xe none (EP X pins σ Q) (.ref D) s3.heap.objs.size) { s3 with heap := pushCells (s3.heap.push { cls := .type "dict", data := .dict #[] }) scope.names }
  have free3 : ∀ b ∈ fp, (upd H2 D (O a0 D)) b = none := fun b hb => (own3 b hb).1.1
  generalize hce : compEnvC scope (cellsFrom (s3.heap.objs.size + 1) scope.names (cloFrom X.env.cells scope.names [])) s3.heap.objs.size X.env = ce at i4 pg pt pe pa ⊢
  have cL : ce.locals = s3.heap.objs.size := by subst hce; rfl
  generalize hH3 : upd H2 D (O a0 D) = H3 at i3 i4 pg pt pe pa w0 free3 own3
  generalize hs4 : ({ s3 with heap := pushCells (s3.heap.push { cls := .type "dict", data := .dict #[] }) scope.names } : Shared) = s4 at i4 ⊢
  have at4 : tn 0 s4.heap := T.keep _ _ _ at2 fun b _ o e => by rw [← hs4]; exact pushCells_keeps _ _ _ _ (Heap.get?_push_of_some _ (by rw [heap3]; exact Heap.get?_push_of_some _ e))
  have fpB : ∀ {σ' : L2.St} {H' : Hp} {s' : Shared}, Inv (X.blk s3 H3 scope ce fp) [] σ' H' s' → (∀ b ∈ fp, H' b = none) → ∀ b ∈ fp, FpOk (X.blk s3 H3 scope ce fp) [] H' b := fun {σ' H' s'} i' hn b hb =>
    ⟨hn b hb, (i'.ok.exf b hb).1, i'.ok.exfs b hb, .inl hb, fun x c e => (i'.ok.exf b hb).2 x c e, fun p hp => absurd (show p ∈ ([] : List (Addr × Obj)) ++ [] from hp) (by simp)⟩
  have loop : codeAny (model X.prog X.w) X.A (.compLoop (.SetComp elt [⟨tg, iter, ifs, 0⟩] scope pos) 0 (.ref it) (.ref D) ce) (compPost (model X.prog X.w) X.A X.xe none (EP X pins σ Q) (.ref D) s3.heap.objs.size) s4 := by
    refine PpSet.compLoopS_any (fun n s' => ∃ i H', Inv (X.blk s3 H3 scope ce fp) [] (wipe σ (own.map (·.2))) H' s' ∧ tn i s'.heap ∧ (∀ b ∈ fp, H' b = none) ∧ W i n H') ?_ m0 ⟨0, H3, i4, at4, free3, w0⟩
    rintro n s5 ⟨i, H5, i5, at5, n5, w5⟩
    rcases turn i n H5 w5 with ⟨stop, qq⟩ | ⟨go, Nx, hNx, step⟩
    · refine thnF (T.done (X.blk s3 H3 scope ce fp) rfl rfl rfl hc i [] s5 _ H5 (fun _ _ => False) i5 (fpB i5 n5) at5 stop) fun r s6 ⟨hr, i6⟩ => ?_
      subst hr
      have back : Inv X pins σ H5 s6 := i3.call' (ch := fp) i6.os i6.base i6.hok i6.bare fun b hb => ⟨(own3 b hb).1.2.2.2.1, (own3 b hb).1.2.1, (own3 b hb).1.2.2.2.2.1, (own3 b hb).1.2.2.2.2.2⟩
      have nC : H5 s3.heap.objs.size = none := by
        have z : H5 ce.locals = none := i6.free
        rwa [cL] at z
      obtain ⟨m, hn, _⟩ := i6.loc
      have hn : s6.heap.Ns ce.locals m := hn
      rw [cL] at hn
      obtain ⟨f0, f1, f2, f3, f4, f5⟩ := i3.fpOk (Nat.le_refl _) nC
      exact ⟨m, hn, fun h'' sb => ⟨.ref D, H5, back.turned (t' := s6.toks) (fun b o hb e => (sb.2 b hb).trans e) f0 f1 f3 f4 f5, rfl, qq⟩⟩
    · refine thnF (T.item (X.blk s3 H3 scope ce fp) rfl rfl rfl hc i [] s5 _ H5 (fun _ _ => False) i5 (fpB i5 n5) at5 go) fun r s6 ⟨u, hr, h6⟩ => ?_
      subst hr
      refine thnF h6 fun _ s7 ⟨x, H7, i7, r7, y7, at7, n7⟩ => ?_
      refine thnF (pg.run _ s7 _ H7 x u _ (i7.pinned (fpB i7 n7) (T.obj _ _ at7)) r7 (step x H7 y7)) fun _ s8 ⟨σ8, H8, i8, hw8, q8⟩ => ?_
      refine thnF (pt.run _ s8 σ8 H8 _ i8 q8) fun b s9 ⟨H9, i9, q9⟩ => ?_
      have fin : ∀ {s' : Shared} {H' : Hp}, Inv (X.blk s3 H3 scope ce fp) ([] ++ pinsAt fp s7.heap) σ8 H' s' → Nx H' → ∃ m, m < n ∧ ∃ i H', Inv (X.blk s3 H3 scope ce fp) [] (wipe σ (own.map (·.2))) H' s' ∧ tn i s'.heap ∧ (∀ b ∈ fp, H' b = none) ∧ W i m H' := by
        intro s' H' i' nx
        obtain ⟨m', hm, w'⟩ := hNx H' nx
        have pin' : ∀ b ∈ fp, ∀ o, s7.heap.get? b = some o → s'.heap.get? b = some o ∧ H' b = none := fun b hb o e =>
          let z := i'.pin (b, o) (List.mem_append_right _ (List.mem_append_right _ (mem_pinsAt hb e))); ⟨z.1, z.2.1⟩
        have hl : (wipe σ (own.map (·.2))).length = σ8.length := by rw [← hw8, wipe_length]
        refine ⟨m', hm, i + 1, H', (i'.unpinned (pins := [])).weak hl (fun j v e => ?_), T.keep _ _ _ at7 fun b hb o e => (pin' b hb o e).1, fun b hb => ?_, w'⟩
        · rw [← hw8] at e
          exact (wipe_some e).1
        · obtain ⟨o, e, _⟩ := T.obj _ _ at7 b hb
          exact (pin' b hb o e).2
      cases b with
      | false =>
        simp only [Bool.false_eq_true, if_false] at q9 ⊢
        exact fin i9 q9
      | true =>
        simp only [if_true] at q9 ⊢
        refine thnF (pe.run _ s9 σ8 H9 _ i9 q9) fun z s10 ⟨yv, H10, i10, r10, a, a', hD10, had, nx⟩ => ?_
        refine thnF (pa _ s10 σ8 H10 (.ref D) [yv] (.ref D) [z] (fun _ H' => Nx H') i10 rfl (.cons r10 .nil) ⟨D, yv, a, a', rfl, rfl, hD10, had, nx⟩) fun _ s11 ⟨_, H11, i11, _, nx'⟩ => fin i11 nx'
  exact PpSet.codeAny_compStart_set loop (T.self X.A 0 _ _ _ at4 loop)
end
end PD
end
section
set_option Elab.async false
set_option linter.all false
set_option maxRecDepth 100000
set_option maxHeartbeats 4000000
set_option autoImplicit false
namespace PD
open PySem PySem.Spec L2
open PyProof.Rows hiding St
variable [Live]

/-! ### sets of ints -/
abbrev ES := Rho → M (List Int)
def NewS (w : World) (K : PySem.W.Frag) (F : Fz) (H : Hp) (g g' : G) (ns : List Int) (Q : VK) : Prop := ∀ p H' F' S n, Stp K g g' F F' H H' → H p = none → F' p = none → p ∉ F'.mu → H' p = some (SetO w p S n) → (∀ k, S k = true ↔ k ∈ ns) → n ≤ ns.length → Q (.ref p) H'
def PSt (X : Cx) (e : Expr) (f : ES) : Prop := ∃ t, PE X e t ∧ ∀ σ H F ρ g, PreE X.K F H g ρ σ → ∀ ns g', f ρ g = some (ns, g') → ∀ Q : VK, NewS X.w X.K F H g g' ns Q → t σ H Q
def sO (w : World) (a : (Int → Bool) × Nat) (D : Addr) : HO := SetO w D a.1 a.2
def sAd (a : (Int → Bool) × Nat) (y : V) (_ : Hp) (b : (Int → Bool) × Nat) : Prop := ∃ k : Int, y = .int k ∧ a.2 + 1 < scanBound ∧ b = (fun j => a.1 j || decide (j = k), if a.1 k = true then a.2 else a.2 + 1)
theorem sO_add {X : Cx} : MtR X "set.add" (rAddG (sO X.w) sAd) := fun pins s σ H x xs v us Q I rx rxs ⟨D, y, a, a', e1, e2, hD, ⟨k, e3, hr, e4⟩, q⟩ => by
  subst e1 e2 e3 e4
  exact mt_sadd pins s σ H _ _ v us Q I rx rxs ⟨D, k, a.1, a.2, rfl, rfl, hD, hr, q⟩
def scA (vs : List Nat) (it : EA) (bd : B) (t : T) (e : E) : ES := fun ρ => mb (it ρ) fun ds => mb (lcL bd t e (wipeR ρ vs) ds) fun xs => ml ((tupInts xs).bind fun ns => if ns.length < 64 then some ns else none)
theorem sc_sem {w : World} {K : PySem.W.Frag} {wi : TI} {sl vs : List Nat} {bd : B} {t : T} {e : E} {it : EA} {σ : St} {F : Fz} {H0 : Hp} {ρ : Rho} {g : G}
    (kI : ∀ σ H F ρ g, PreE K F H g ρ σ → ∀ ds g', it ρ g = some (ds, g') → ∀ R : It → Hp → Prop, (∀ J H' F', Stp K g g' F F' H H' → ItS K J (off F' H').h F' ds → R J H') → wi σ H R)
    (hsl : ∀ i ∈ sl, i ∈ vs) (pre : PreE K F H0 g ρ σ) {ns : List Int} {g' : G} (ev : scA vs it bd t e ρ g = some (ns, g')) {Q : VK} (q : NewS w K F H0 g g' ns Q) :
    tScG (sO w) ((fun _ => false), 0) sAd wi (gB K sl bd) (tTT K t) (tD K e) vs σ H0 Q := by
  obtain ⟨src, g1, e1, ev⟩ := mb_inv ev
  obtain ⟨out, g2, e2, ev⟩ := mb_inv ev
  obtain ⟨ev4, rfl⟩ := ml_inv ev
  obtain ⟨ms, h1, h2⟩ := Option.bind_eq_some_iff.mp ev4
  have hz : ms.length < 64 ∧ ms = ns := by
    split at h2
    · cases h2; exact ⟨by assumption, rfl⟩
    · cases h2
  obtain ⟨hz, rfl⟩ := hz
  have ho := tupInts_ok h1
  subst ho
  refine kI σ H0 F ρ g pre src g1 e1 _ fun J H1 F1 s1 it0 L hL => ?_
  obtain ⟨ok, beg⟩ := LI.begin (o := sO w ((fun _ => false), 0) L) pre s1 hL
  refine ⟨fun i m H => m = src.length - i ∧ i ≤ src.length ∧ ∃ (F3 : Fz) (g3 : G) (a : (Int → Bool) × Nat) (dn : List Int) (lf : List D), LI K ⟨g, F, H0, (off F1 H1).h, F1, L⟩ [(ρ, σ)] (sO w a L) H F3 g3 ∧ (∀ k, a.1 k = true ↔ k ∈ dn) ∧ a.2 ≤ dn.length ∧ lcL bd t e (wipeR ρ vs) (src.drop i) g3 = some (lf, g') ∧ dn.map D.int ++ lf = ms.map D.int,
    ⟨src.length, by simp, Nat.zero_le _, F1, g1, _, [], _, beg, fun k => by simp, Nat.le_refl _, e2, rfl⟩, ?_⟩
  rintro i m H3 ⟨rfl, hi, F3, g3, a, dn, lf, h3, m3, l3, ev3, e3⟩
  obtain ⟨goes, stops⟩ := (it0.mono h3.sf) H3 h3.sw
  by_cases hlt : i < src.length
  · have hd : src[i]? = some src[i] := List.getElem?_eq_getElem hlt
    rw [List.drop_eq_getElem_cons hlt] at ev3
    unfold lcL at ev3
    obtain ⟨go, yl⟩ := goes i _ hd
    refine .inr ⟨go, fun H5 => ∃ (F3 : Fz) (g3 : G) (a : (Int → Bool) × Nat) (dn : List Int) (lf : List D), LI K ⟨g, F, H0, (off F1 H1).h, F1, L⟩ [(ρ, σ)] (sO w a L) H5 F3 g3 ∧ (∀ k, a.1 k = true ↔ k ∈ dn) ∧ a.2 ≤ dn.length ∧ lcL bd t e (wipeR ρ vs) (src.drop (i + 1)) g3 = some (lf, g') ∧ dn.map D.int ++ lf = ms.map D.int, fun H5 h5 => ⟨_, by omega, rfl, by omega, h5⟩, fun x H4 y => ?_⟩
    have pr := h3.pre _ (List.mem_cons_self)
    obtain ⟨F4, s4, r4⟩ := (yl x H4 y).step pr.sub pr.rep
    have h4 := h3.step s4
    cases hb : bd src[i] (wipeR ρ vs) with
    | none => rw [hb] at ev3; cases ev3
    | some ρ' =>
      rw [hb] at ev3
      obtain ⟨c, g5, e5, ev3⟩ := mb_inv ev3
      refine ⟨F4, wipeR ρ vs, g3, src[i], ρ', (h4.pre _ List.mem_cons_self).wipe vs, r4, hb, fun σ' pre' _ hw => ⟨by rw [hw vs hsl]; exact wipe_twice σ vs, ?_⟩⟩
      refine ⟨F4, ρ', g3, c, g5, pre', e5, fun H5 F5 s5 => ?_⟩
      have h5 := h4.step s5
      cases c with
      | false =>
        rw [if_neg Bool.false_ne_true] at ev3
        exact iteF ⟨F5, g5, a, dn, lf, h5, m3, l3, ev3, e3⟩
      | true =>
        rw [if_pos rfl] at ev3
        refine iteT ?_
        obtain ⟨z, g6, e6, ev3⟩ := mb_inv ev3
        obtain ⟨zs, g7, e7, ev3⟩ := mb_inv ev3
        obtain ⟨rfl, rfl⟩ := mr_inv ev3
        refine ⟨F5, ρ', g5, z, g6, pre'.step s5, e6, fun u H6 F6 s6 r6 => ?_⟩
        have h6 := h5.step s6
        -- the member is an int
        have hlen := congrArg List.length e3
        simp only [List.length_append, List.length_map, List.length_cons] at hlen
        have hzi : ∃ k, z = .int k := by
          have hg : (ms.map D.int)[dn.length]? = some z := by rw [← e3, List.getElem?_append_right (by simp)]; simp
          rw [List.getElem?_map] at hg
          obtain ⟨k, _, h⟩ := Option.map_eq_some_iff.mp hg
          exact ⟨k, h.symm⟩
        obtain ⟨k, rfl⟩ := hzi
        refine ⟨a, (fun j => a.1 j || decide (j = k), if a.1 k = true then a.2 else a.2 + 1), h6.hl, ⟨k, rp_int r6, ?_, rfl⟩, F6, g6, _, dn ++ [k], zs, h6.mut ok, fun j => ?_, ?_, e7, by rw [← e3]; simp⟩
        · have : scanBound = 4096 := rfl
          omega
        · simp only [Bool.or_eq_true, decide_eq_true_eq, List.mem_append, List.mem_singleton, m3 j]
        · simp only [List.length_append, List.length_cons, List.length_nil]
          split <;> omega
  · have e4 : i = src.length := by omega
    subst e4
    rw [List.drop_length] at ev3
    obtain ⟨rfl, rfl⟩ := mr_inv ev3
    rw [List.append_nil] at e3
    have e5 : dn = ms := by
      have := congrArg tupInts e3
      rw [tupInts_map, tupInts_map] at this
      exact Option.some.inj this
    subst e5
    exact .inl ⟨stops _ (Nat.le_refl _), q L H3 F3 a.1 a.2 h3.st ok.h0 h3.fl h3.ml h3.hl m3 l3⟩
/-- the members, each once, rising -/
def insU (x : Int) : List Int → List Int
  | [] => [x]
  | y :: ys => if x < y then x :: y :: ys else if x = y then y :: ys else y :: insU x ys
def sortU (l : List Int) : List Int := l.foldr insU []
theorem insU_mem {x k : Int} : ∀ {l : List Int}, k ∈ insU x l ↔ k = x ∨ k ∈ l
  | [] => by simp [insU]
  | y :: ys => by
    unfold insU
    split
    · simp
    · split
      · rename_i e; subst e; simp
      · rw [List.mem_cons, insU_mem, List.mem_cons]
        constructor
        · rintro (h | h | h) <;> simp [h]
        · rintro (h | h | h) <;> simp [h]
theorem insU_pw {x : Int} : ∀ {l : List Int}, l.Pairwise (· < ·) → (insU x l).Pairwise (· < ·)
  | [], _ => List.pairwise_singleton _ _
  | y :: ys, h => by
    obtain ⟨h1, h2⟩ := List.pairwise_cons.mp h
    unfold insU
    split
    · rename_i hx
      exact List.pairwise_cons.mpr ⟨fun z hz => (List.mem_cons.mp hz).elim (fun e => by rw [e]; exact hx) fun hz => Int.lt_trans hx (h1 z hz), h⟩
    · split
      · exact h
      · refine List.pairwise_cons.mpr ⟨fun z hz => ?_, insU_pw h2⟩
        rcases insU_mem.mp hz with e | hz
        · omega
        · exact h1 z hz
theorem sortU_mem {k : Int} : ∀ {l : List Int}, k ∈ sortU l ↔ k ∈ l
  | [] => by simp [sortU]
  | x :: l => by
    show k ∈ insU x (sortU l) ↔ _
    rw [insU_mem, sortU_mem, List.mem_cons]
theorem sortU_pw : ∀ (l : List Int), (sortU l).Pairwise (· < ·)
  | [] => .nil
  | x :: l => insU_pw (sortU_pw l)
theorem rising_uniq : ∀ {l m : List Int}, l.Pairwise (· < ·) → m.Pairwise (· < ·) → (∀ k, k ∈ l ↔ k ∈ m) → l = m
  | [], [], _, _, _ => rfl
  | [], y :: m, _, _, h => absurd ((h y).mpr List.mem_cons_self) (by simp)
  | x :: l, [], _, _, h => absurd ((h x).mp List.mem_cons_self) (by simp)
  | x :: l, y :: m, hl, hm, h => by
    obtain ⟨l1, l2⟩ := List.pairwise_cons.mp hl
    obtain ⟨m1, m2⟩ := List.pairwise_cons.mp hm
    have e : x = y := by
      have a := (h x).mp List.mem_cons_self
      have b := (h y).mpr List.mem_cons_self
      rcases List.mem_cons.mp a with a | a
      · exact a
      · rcases List.mem_cons.mp b with b | b
        · exact b.symm
        · have := l1 y b; have := m1 x a; omega
    subst e
    congr 1
    refine rising_uniq l2 m2 fun k => ?_
    constructor
    · intro hk
      rcases List.mem_cons.mp ((h k).mp (List.mem_cons_of_mem _ hk)) with e | e
      · have := l1 k hk; omega
      · exact e
    · intro hk
      rcases List.mem_cons.mp ((h k).mpr (List.mem_cons_of_mem _ hk)) with e | e
      · have := m1 k hk; omega
      · exact e
def eSrtSet (f : ES) : E := fun ρ => mb (f ρ) fun ns => if ns.length < 64 then mr (.lst ((sortU ns).map D.int)) else mz
section
variable {X : Cx} {pos : Pos} {elt tg iter : Expr} {ifs : List Expr} {scope : Scope} {it : EA} {bd : B} {t : T} {f : E} {sl : List Nat}
theorem ps_sc (own : List (Str × Nat)) (hc : X.calm = true) (hN : X.N.Nodup) (hi : PBI X tg iter it) (ok : BlkOk X.N X.env.scope scope own)
    (hg : ∀ (s : Shared) (H : Hp) (C : Addr) (cl : List (Str × Addr)) (fp : List Addr), PDG (X.blk s H scope (compEnvC scope cl C X.env) fp) tg sl bd) (ht : ∀ (s : Shared) (H : Hp) (C : Addr) (cl : List (Str × Addr)) (fp : List Addr), PDTs (X.blk s H scope (compEnvC scope cl C X.env) fp) ifs t)
    (he : ∀ (s : Shared) (H : Hp) (C : Addr) (cl : List (Str × Addr)) (fp : List Addr), PD (X.blk s H scope (compEnvC scope cl C X.env) fp) elt f)
    (hsl : ∀ i ∈ sl, i ∈ own.map (·.2) := by decide) (hs : ∀ x, foldedSetIterable iter X.env x = pure x := by intro _; rfl) : PSt X (.SetComp elt [⟨tg, iter, ifs, 0⟩] scope pos) (scA (own.map (·.2)) it bd t f) := by
  obtain ⟨wi, hw, kI⟩ := hi
  refine ⟨_, pe_scG (O := sO X.w) (a0 := ((fun _ => false), 0)) (ad := sAd) (g := gB X.K sl bd) (tt := tTT X.K t) (te := tD X.K f) (fun H h => setO_new (setR_fresh X.w)) (fun s H env fp => sO_add (X := X.blk s H scope env fp)) hc hN hw ok
    (fun s H C cl fp => (hg s H C cl fp).can) ht (fun s H C cl fp => (he s H C cl fp).can) hs, fun σ H F ρ g pre ns g' e Q q => ?_⟩
  exact sc_sem kI hsl pre e q
variable {e : Expr} {fs : ES} {p : Pos}
theorem pd_sortedSet (hc : X.calm = true) (hm : X.mg "sorted" = none) (ha : PSt X e fs) (hg : Gl X "sorted" := by rfl) (he : starEach [e] X.env = (false, eval e X.env) :: starEach [] X.env := by rfl) (hpl : (backTo pos (starEach [] X.env)).any (·.1) = false := by rfl) :
    PD X (.Call (.Name "sorted" p) [e] [] pos) (eSrtSet fs) := by
  obtain ⟨t, ht, k⟩ := ha
  refine ⟨_, pe_callB (cr_sortedSet hc) hg hm (by decide +kernel) (pa_cons ht pa_nil he) (by decide) (by decide) he hpl, fun σ H F ρ g pre d g' ev Q q => ?_⟩
  obtain ⟨ns, g1, e1, ev⟩ := mb_inv ev
  by_cases hz : ns.length < 64
  · rw [if_pos hz] at ev
    obtain ⟨rfl, rfl⟩ := mr_inv ev
    refine k σ H F ρ g pre ns _ e1 _ fun a H1 F1 S n s1 n1 n2 n3 n4 n5 n6 => ⟨a, S, n, rfl, n4, by omega, fun ms b h1 h2 h3 hb => ?_⟩
    have e2 : ms = sortU ns := rising_uniq h1 (sortU_pw ns) fun k => by rw [h2, n5, sortU_mem]
    subst e2
    refine q _ _ _ (s1.trans (.alloc s1.sub s1.rep hb)) (rp_new_lst (s1.sub.free hb) ?_ (RpA.ofInts _))
    rw [List.length_map, h3, sizeLine_eq]
    omega
  · rw [if_neg hz] at ev
    cases ev
end
end PD
end
section
set_option Elab.async false
set_option linter.all false
set_option maxRecDepth 100000
set_option maxHeartbeats 4000000
set_option autoImplicit false
namespace PD
open PySem PySem.Spec L2
open PyProof.Rows hiding St
variable [Live]

/-! ### calls by names -/
/-- pm: for each parameter the place of its value among those given, places first -/
def perm {α : Type} (pm : List Nat) (d : α) (l : List α) : List α := pm.map fun j => l.getD j d
structure FnDK (P : Program) (w : World) (K : PySem.W.Frag) (mg : Str → Option Value) (base : Heap) (k : Nat) (x : Str) (n : Nat) (f : List D → M D) (ks : List Str) (pm : List Nat) : Prop where
  ex : ∃ (a : Addr) (fd : FuncData) (ps : List Str), mg x = some (.ref a) ∧ PySem.W.keepIn K (.ref a) = true ∧ FnG P w K mg base CX0 k a fd ps (spD K n f) ∧ ps.length = n ∧ pm.length = n ∧
    ∀ (s : Shared) (us ws : List Value), us.length = n - ks.length → ws.length = ks.length → BindsTo s fd ⟨us, ks.zip ws⟩ (ps.zip (perm pm .none (us ++ ws)))
/-- the keywords' values -/
def PKA (X : Cx) (kws : List Keyword) (f : EA) : Prop := ∃ t, L2.PK X kws t ∧ ∀ σ H F ρ g, PreE X.K F H g ρ σ → ∀ ds g', f ρ g = some (ds, g') → ∀ Q : List V → Hp → Prop,
  (∀ vs H' F', Stp X.K g g' F F' H H' → RpA X.K F' vs ds → Q vs H') → t σ H Q
def eCallK (f : List D → M D) (pm : List Nat) (as ks : EA) : E := fun ρ => mb (as ρ) fun ds => mb (ks ρ) fun es => f (perm pm .non (ds ++ es))
theorem vals_perm {vs : List V} {us : List Value} (r : Vals vs us) : ∀ {pm : List Nat}, (∀ j ∈ pm, j < vs.length) → Vals (perm pm .non vs) (perm pm .none us)
  | [], _ => .nil
  | j :: pm, h => by
    have hj := h j List.mem_cons_self
    refine .cons ?_ (vals_perm r fun i hi => h i (List.mem_cons_of_mem _ hi))
    obtain ⟨u, h1, h2⟩ := r.get (List.getElem?_eq_getElem hj)
    simp only [List.getD_eq_getElem?_getD, h1, List.getElem?_eq_getElem hj]
    exact h2
theorem rp_perm {K : PySem.W.Frag} {F : Fz} {vs : List V} {ds : List D} (r : RpA K F vs ds) : ∀ {pm : List Nat}, (∀ j ∈ pm, j < vs.length) → RpA K F (perm pm .non vs) (perm pm .non ds)
  | [], _ => .nil
  | j :: pm, h => by
    have hj := h j List.mem_cons_self
    refine .cons ?_ (rp_perm r fun i hi => h i (List.mem_cons_of_mem _ hi))
    obtain ⟨u, h1, h2⟩ := r.getV (List.getElem?_eq_getElem hj)
    simp only [List.getD_eq_getElem?_getD, h1, List.getElem?_eq_getElem hj]
    exact h2
section
variable {X : Cx} {e : Expr} {es : List Expr} {f : E} {fs fk : EA} {kws : List Keyword} {nm : Option Str} {kpos p pos : Pos} {x : Str} {k n : Nat} {ks : List Str} {pm : List Nat} {F : List D → M D}
theorem pka_nil : PKA X [] aNil := ⟨_, pk_nil, fun σ H F ρ g pre d g' e Q q => by
  obtain ⟨rfl, rfl⟩ := mr_inv e
  exact q _ H F pre.refl .nil⟩
theorem pka_cons (h : PD X e f) (hr : PKA X kws fs) : PKA X (⟨nm, e, kpos⟩ :: kws) (aCons f fs) := by
  obtain ⟨t, ht, k⟩ := h
  obtain ⟨t2, ht2, k2⟩ := hr
  refine ⟨_, pk_cons ht ht2, fun σ H F ρ g pre d g' e Q q => ?_⟩
  obtain ⟨x, g1, e1, e⟩ := mb_inv e
  obtain ⟨xs, g2, e2, e⟩ := mb_inv e
  obtain ⟨rfl, rfl⟩ := mr_inv e
  refine k σ H F ρ g pre x g1 e1 _ fun v H1 F1 s1 r1 => ?_
  exact k2 σ H1 F1 ρ g1 (pre.step s1) xs _ e2 _ fun vs H2 F2 s2 r2 => q _ H2 F2 (s1.trans s2) (.cons (r1.mono s2.ext) r2)
theorem run_gk {pins : List (Addr × Obj)} {σ : St} {H : Hp} {s : Shared} {Q : VK} {us ws : List Value} {vs zs : List V} {CX : CXT} {a : Addr} {fd : FuncData} {ps : List Str} {sp : Sp} {E : XK} (F : FnG X.prog X.w X.K X.mg X.base CX k a fd ps sp) (hr : Room k X.A) (gd : X.A.guards = some [])
    (hb : BindsTo s fd ⟨us, ks.zip ws⟩ (ps.zip (perm pm .none (us ++ ws)))) (hx : Passes CX X E) (hj : ∀ j ∈ pm, j < (vs ++ zs).length)
    (I : Inv X pins σ H s) (r : Vals vs us) (rz : Vals zs ws) (h : sp (perm pm .non (vs ++ zs)) H Q E) : wpAny (model X.prog X.w) X.A (call (.ref a) us (ks.zip ws)) (EP X pins σ Q) X.xe s := by
  refine wpAny_call (codeAny_mono (F.run X.A X.stack s H ⟨us, ks.zip ws⟩ (perm pm .none (us ++ ws)) (perm pm .non (vs ++ zs)) Q E hr gd I.env0 hb (vals_perm (r.append rz) hj) h) fun r s' hq => ?_)
  match r, hq with
  | .error er, hq => exact hx pins σ H s er s' I hq
  | .ok (.ret u), hq => exact I.after hq
  | .ok .next, hq => exact False.elim hq
  | .ok .brk, hq => exact False.elim hq
  | .ok .cont, hq => exact False.elim hq
/-- f(k = v, ..) -/
theorem pd_callK0 (hf : FnDK X.prog X.w X.K X.mg X.base k x n F ks pm) (hr : Room k X.A) (gd : X.A.guards = some []) (hk : PKA X kws fk) (hn : ∀ ρ g ds g', fk ρ g = some (ds, g') → ds.length = n) (hkn : ks.length = n := by rfl) (hj : ∀ j ∈ pm, j < n := by decide)
    (hg : Gl X x := by rfl) (hall : (backToKw pos (keywordEach kws X.env)).all (·.1.isSome) = true := by rfl) (hks : (backToKw pos (keywordEach kws X.env)).filterMap (·.1) = ks := by rfl) (hdb : (x == ("__debug__" : Str)) = false := by decide)
    (hpl : ((backTo pos (starEach [] X.env)).any (·.1) || (backToKw pos (keywordEach kws X.env)).any (·.1.isNone)) = false := by rfl) : PD X (.Call (.Name x p) [] kws pos) (eCallK F pm aNil fk) := by
  obtain ⟨a, fd, ps, hm, hkp, G, hps, hpm, hb⟩ := hf.ex
  obtain ⟨t, ht, kk⟩ := hk
  refine ⟨fun σ H Q => t σ H fun zs H1 => ∃ F1 g ds d g', Same F1.h H1 ∧ GRep X.K g F1 H1 ∧ RpA X.K F1 zs ds ∧ ds.length = n ∧ F (perm pm .non ds) g = some (d, g') ∧ ∀ v H' F', Stp X.K g g' F1 F' H1 H' → Rp X.K F' v d → Q v H', ⟨fun pins s σ H Q I h => ?_⟩, fun σ H F0 ρ g pre d g' e Q q => ?_⟩
  · refine wpAny_Call_Name_kw (ld_glob I hg hm ?_ hdb)
    refine PySem.W.callWith_KW0 (h₀ := X.base) I.ok.mod.kin hkp hall ?_ hpl
    refine thn (ht.run pos pins s σ H _ I h) fun ws s2 ⟨zs, H2, I2, rz, F1, g, ds, d, g', z1, z2, z3, z4, z5, z6⟩ => ⟨I2.kIn, ?_⟩
    rw [hks]
    have hl : zs.length = n := by rw [z3.length]; exact z4
    refine run_gk (us := []) (vs := []) G hr gd (hb s2 [] ws (by rw [hkn]; simp) (by rw [← rz.length, hl, hkn])) pass0 (by simpa [hl] using hj) I2 .nil rz ?_
    refine ⟨F1, g, perm pm .non ds, d, g', by simp [perm, hpm], z1, z2, ?_, z5, z6⟩
    exact rp_perm z3 (by rw [hl]; exact hj)
  · have e : mb (fk ρ) (fun es => F (perm pm .non es)) g = some (d, g') := e
    obtain ⟨es, g2, e2, e⟩ := mb_inv e
    refine kk σ H F0 ρ _ pre es g2 e2 _ fun vs H1 F1 s1 r1 => ?_
    exact ⟨F1, g2, es, d, g', s1.sub, s1.rep, r1, hn _ _ _ _ e2, e, fun v H2 F2 s2 r2 => q v H2 F2 (s1.trans s2) r2⟩
end
end PD
end
section
set_option Elab.async false
set_option linter.all false
set_option maxRecDepth 100000
set_option maxHeartbeats 4000000
set_option autoImplicit false
namespace PD
open PySem PySem.Spec L2
open PyProof.Rows hiding St
variable [Live]

/-! ### new things of the store -/
theorem Stp.share {K : PySem.W.Frag} {g g' : G} {F F' : Fz} {H H' : Hp} {p : Addr} {m : MO} (s : Stp K g g' F F' H H') (hp : H p = none) (hF : F' p = none) (hm : p ∉ F'.mu) (ok : MOk K F' H' p m) : Stp K g (g' ++ [m]) F ⟨F'.h, F'.mu ++ [p]⟩ H H' := by
  have ex : Ext F' ⟨F'.h, F'.mu ++ [p]⟩ := ⟨Same.refl _, List.prefix_append _ _⟩
  refine ⟨s.same, s.mono, s.ext.trans ex, s.new, fun a h => ?_, s.sub, ⟨by simp [s.rep.len], ?_, fun n x a h1 h2 => ?_⟩⟩
  · rcases List.mem_append.mp h with h | h
    · exact s.newM a h
    · rw [List.mem_singleton.mp h]; exact .inr hp
  · refine List.nodup_append.mpr ⟨s.rep.nd, by simp, fun a ha b hb z => hm ?_⟩
    rw [List.mem_singleton.mp hb] at z
    rw [← z]; exact ha
  · have h2 : (F'.mu ++ [p])[n]? = some a := h2
    by_cases hn : n < g'.length
    · rw [List.getElem?_append_left hn] at h1
      rw [List.getElem?_append_left (by rw [← s.rep.len]; exact hn)] at h2
      obtain ⟨q1, q2⟩ := s.rep.at_ n x a h1 h2
      exact ⟨q1, q2.mono ex rfl⟩
    · have hn2 : n = g'.length := by
        have := (List.getElem?_eq_some_iff.mp h1).1
        simp at this
        omega
      subst hn2
      rw [List.getElem?_append_right (Nat.le_refl _)] at h1
      rw [List.getElem?_append_right (by rw [s.rep.len]; exact Nat.le_refl _), s.rep.len] at h2
      simp at h1 h2
      subst h1 h2
      exact ⟨hF, ok.mono ex rfl⟩
def mNew (m : MO) : M D := fun g => some (.hd g.length, g ++ [m])
def eMk (f : EK) : E := fun ρ => mb (f ρ) fun r => mNew (.mk r.1 r.2)
def eMl (f : EA) : E := fun ρ => mb (f ρ) fun r => mNew (.ml r)
section
variable {X : Cx} {e : Expr} {fk : EK} {fs : EA} {pos : Pos}
theorem mu_last {F : Fz} {p : Addr} : (⟨F.h, F.mu ++ [p]⟩ : Fz).mu[F.mu.length]? = some p := by simp
theorem pd_mk (h : PK X e fk) : PD X e (eMk fk) := by
  obtain ⟨t, ht, k⟩ := h
  refine ⟨t, ht, fun σ H F ρ g pre d g' e Q q => ?_⟩
  obtain ⟨r, g1, e1, e⟩ := mb_inv e
  cases e
  refine k σ H F ρ g pre r _ e1 Q fun p H' F' kvs s hp hF hg hH hz hk _ rr => ?_
  refine q (.ref p) H' _ (s.share hp hF hg (m := .mk r.1 r.2) ⟨kvs, hH, hk, rr⟩) (.hd ?_)
  rw [s.rep.len]
  exact mu_last
theorem pd_ml (h : PO X e fs) : PD X e (eMl fs) := by
  obtain ⟨t, ht, k⟩ := h
  refine ⟨t, ht, fun σ H F ρ g pre d g' e Q q => ?_⟩
  obtain ⟨r, g1, e1, e⟩ := mb_inv e
  cases e
  refine k σ H F ρ g pre r _ e1 Q fun p H' F' vs s hp hF hg hH hz rr => ?_
  refine q (.ref p) H' _ (s.share hp hF hg (m := .ml r) ⟨vs, hH, hz, rr⟩) (.hd ?_)
  rw [s.rep.len]
  exact mu_last
end
/-! ### {k: v, ..} -/
abbrev EP2 := Rho → M (List (D × D))
def PPD (X : Cx) (pos : Pos) (keys : List (Option Expr)) (values : List Expr) (f : EP2) : Prop := ∃ trs, PPs X pos keys values trs ∧ ∀ σ H F ρ g, PreE X.K F H g ρ σ → ∀ r g', f ρ g = some (r, g') → ∀ Q : List (V × V) → Hp → Prop,
  (∀ ps H' F', Stp X.K g g' F F' H H' → RpA X.K F' (ps.map (·.1)) (r.map (·.1)) → RpA X.K F' (ps.map (·.2)) (r.map (·.2)) → Q ps H') → tPairs trs σ H Q
def pNil : EP2 := fun _ => mr []
def pCons (k v : E) (r : EP2) : EP2 := fun ρ => mb (k ρ) fun x => mb (v ρ) fun y => mb (r ρ) fun l => mr ((x, y) :: l)
def eDisp (f : EP2) : EK := fun ρ => mb (f ρ) fun r => ml ((keysD (r.map (·.1))).bind fun ks => if ks.length ≤ 15 then some (mergeD ([], []) ks (r.map (·.2))) else none)
theorem mergeD_nodup : ∀ {ks : List Key} {l : List D} {acc : List Key × List D}, acc.1.length = acc.2.length → acc.1.Nodup → (mergeD acc ks l).1.Nodup
  | [], _, acc, _, h => h
  | _ :: _, [], acc, _, h => h
  | k :: ks, d :: l, acc, h, n => mergeD_nodup (ks := ks) (l := l) (acc := putD acc.1 acc.2 k d) (putD_len h) (putD_nodup h n)
theorem zip_pairs : ∀ {ps : List (V × V)} {kl : List Key}, ps.map (·.1) = kl.map kV → ps = (kl.zip (ps.map (·.2))).map fun kv => (kV kv.1, kv.2)
  | [], [], _ => rfl
  | [], _ :: _, h => by cases h
  | _ :: _, [], h => by cases h
  | (a, b) :: ps, k :: kl, h => by
    simp only [List.map_cons, List.cons.injEq] at h
    simp only [List.map_cons, List.zip_cons_cons, List.cons.injEq]
    exact ⟨by rw [h.1], zip_pairs h.2⟩
section
variable {X : Cx} {k v : Expr} {fk fv : E} {fp : EP2} {ks : List (Option Expr)} {vs : List Expr} {pos : Pos}
theorem ppd_nil : PPD X pos [] [] pNil := ⟨[], pps_nil, fun σ H F ρ g pre r g' e Q q => by
  obtain ⟨rfl, rfl⟩ := mr_inv e
  exact q [] H F pre.refl .nil .nil⟩
theorem ppd_cons (hk : PD X k fk) (hv : PD X v fv) (hr : PPD X pos ks vs fp) : PPD X pos (some k :: ks) (v :: vs) (pCons fk fv fp) := by
  obtain ⟨tk, pk, kk⟩ := hk
  obtain ⟨tv, pv, kv⟩ := hv
  obtain ⟨trs, pr, kr⟩ := hr
  refine ⟨_, pps_cons pk pv pr, fun σ H F ρ g pre r g' e Q q => ?_⟩
  obtain ⟨x, g1, e1, e⟩ := mb_inv e
  obtain ⟨y, g2, e2, e⟩ := mb_inv e
  obtain ⟨l, g3, e3, e⟩ := mb_inv e
  obtain ⟨rfl, rfl⟩ := mr_inv e
  refine kk σ H F ρ g pre x g1 e1 _ fun a H1 F1 s1 r1 => kv σ H1 F1 ρ g1 (pre.step s1) y g2 e2 _ fun b H2 F2 s2 r2 => kr σ H2 F2 ρ g2 (pre.step (s1.trans s2)) l _ e3 _ fun ps H3 F3 s3 r3 r4 => ?_
  exact q _ H3 F3 ((s1.trans s2).trans s3) (.cons (r1.mono (s2.ext.trans s3.ext)) r3) (.cons (r2.mono s3.ext) r4)
theorem pk_disp (h : PPD X pos ks vs fp) (hall : ks.all (·.isSome) = true := by rfl) (hl : ks.length = vs.length := by rfl) (h0 : ks ≠ [] := by simp) (h15 : ks.length ≤ 15 := by decide) : PK X (.Dict ks vs pos) (eDisp fp) := by
  obtain ⟨trs, pr, kr⟩ := h
  refine ⟨_, pe_disp pr hall hl h0 h15, fun σ H F ρ g pre r g' e Q q p hp => ?_⟩
  obtain ⟨l, g1, e1, e⟩ := mb_inv e
  obtain ⟨e2, rfl⟩ := ml_inv e
  obtain ⟨kl, e3, e4⟩ := Option.bind_eq_some_iff.mp e2
  split at e4
  · rename_i hz
    cases e4
    have s0 : Stp X.K g g F F H (upd H p (.dK [])) := .allocO pre.sub pre.rep hp
    have fF : F p = none := pre.sub.free hp
    have fM : p ∉ F.mu := pre.rep.out hp
    refine kr σ _ F ρ g (pre.step s0) l _ e1 _ fun ps H2 F2 s2 r2 r3 => ?_
    have hH : H2 p = some (.dK []) := s2.same p _ fM upd_same
    have ek := keysD_ok r2 e3
    have hlen : kl.length = ps.length := by
      have := congrArg List.length ek
      simpa using this.symm
    have epk := zip_pairs ek
    have hml : (kl.map kV).length = ps.length := by simpa using hlen
    have ez1 : (kl.zip (ps.map (·.2))).map (·.1) = kl := List.map_fst_zip (by simp [hlen])
    have ez2 : (kl.zip (ps.map (·.2))).map (·.2) = ps.map (·.2) := List.map_snd_zip (by simp [hlen])
    refine ⟨hH, kl.zip (ps.map (·.2)), epk, by rw [List.length_zip, List.length_map, hlen]; omega, ?_⟩
    obtain ⟨q1, q2⟩ := mergeD_ok (K := X.K) (F := F2) (kvs := []) (l := []) (more := kl.zip (ps.map (·.2))) (m := l.map (·.2)) List.nodup_nil .nil (by rw [ez2]; exact r3)
    rw [ez1] at q1 q2
    have fF2 : F2 p = none := s2.keepN fF upd_same
    have fM2 : p ∉ F2.mu := s2.keepM fM upd_same
    refine q p _ F2 (mergeK [] (kl.zip (ps.map (·.2)))) ((s0.trans s2).mut hp fF2 fM2) hp fF2 fM2 upd_same ?_ q1 (mergeD_nodup rfl List.nodup_nil) q2
    refine Nat.le_trans (length_mergeK _ _) ?_
    rw [List.length_zip, List.length_map, sizeLine_eq, List.length_nil]
    omega
  · cases e4
end
end PD
end
section
set_option Elab.async false
set_option linter.all false
set_option maxRecDepth 100000
set_option maxHeartbeats 4000000
set_option autoImplicit false
namespace PD
open PySem PySem.Spec L2
open PyProof.Rows hiding St
variable [Live]
section
variable {X : Cx} {k : Nat}
theorem hu64 (hr : Room k X.A) : X.A.units + 64 < cLine := by have := hu66 hr; omega
theorem hu65 (hr : Room k X.A) : X.A.units + 65 < cLine := by have := hu66 hr; omega
theorem hu0 (hr : Room k X.A) : X.A.units < cLine := by have := hu66 hr; omega
end
def lkB (l : List (Str × NameKind)) (x : Str) (k : NameKind) : Bool := decide (l.lookup x = some k)
/-- a block's names, looked at -/
def blkB (N : List Str) (sc scope : Scope) (own : List (Str × Nat)) : Bool :=
  decide (scope.kind = .function) && scope.names.all (fun y => lkB scope.names y.1 y.2) && own.all (fun p => decide (N[p.2]? = some p.1)) &&
  scope.names.all (fun y => !decide (y.2 = .free) || lkB sc.names y.1 .cell || lkB sc.names y.1 .free) &&
  scope.names.all (fun y => !(decide (y.2 = .local) || decide (y.2 = .cell)) || decide (y.1 ∈ own.map (·.1)) || !decide (y.1 ∈ N))
theorem blk_of {N : List Str} {sc scope : Scope} {own : List (Str × Nat)} (h : blkB N sc scope own = true) : BlkOk N sc scope own := by
  unfold blkB lkB at h
  simp only [Bool.and_eq_true, List.all_eq_true, decide_eq_true_eq, Bool.or_eq_true, Bool.not_eq_true', decide_eq_false_iff_not, Bool.or_eq_false_iff] at h
  obtain ⟨⟨⟨⟨h1, h2⟩, h3⟩, h4⟩, h5⟩ := h
  refine ⟨h1, h2, h3, fun y hy e => ?_, fun y hy e => ?_⟩
  · rcases h4 y hy with (h | h) | h
    · exact absurd e h
    · exact .inl h
    · exact .inr h
  · rcases h5 y hy with (h | h) | h
    · rcases e with e | e
      · exact absurd e h.1
      · exact absurd e h.2
    · exact .inl h
    · exact .inr h
theorem binds_of {K : PySem.W.Frag} {fd : FuncData} {ps : List Str} (h : ∀ (s : Shared) (us : List Value), us.length = ps.length → BindsTo s fd ⟨us, []⟩ (ps.zip us)) : Binds K fd ps [] := fun s us _ hl => by
  rw [List.append_nil] at hl ⊢
  exact h s us hl
/-- the law's promise, by data -/
theorem law_sp {K : PySem.W.Frag} {f : List D → M D} {H : Hp} {a : Addr} {ns : List Int} {g' : G} (hn : ns.length ≤ 63) (hS : SqL K H a (ns.map V.int)) (e : f [.lst (ns.map D.int)] [] = some (.bl true, g')) : spD K 1 f [.ref a] H (fun v _ => v = .bl true) fun _ _ _ => False := by
  refine ⟨⟨H, []⟩, [], [.lst (ns.map D.int)], .bl true, g', rfl, Same.refl _, ⟨rfl, List.nodup_nil, fun n m a h => by simp at h⟩, .cons (.lst hS ?_ (RpA.ofInts ns)) .nil, e, fun v H' F' s r => rp_bl r⟩
  rw [List.length_map, sizeLine_eq]
  omega
end PD
end
section
set_option Elab.async false
set_option linter.all false
set_option maxRecDepth 100000
set_option maxHeartbeats 4000000
set_option autoImplicit false
namespace PD
open PySem PySem.Spec L2
open PyProof.Rows hiding St
variable [Live]
/-! ### the meanings, applied -/
section
variable {α β : Type} (ρ : Rho) (g : G)
@[simp] theorem mb_ap (m : M α) (k : α → M β) (g : G) : mb m k g = (m g).bind fun p => k p.1 p.2 := by
  unfold mb
  cases m g <;> rfl
@[simp] theorem ml_ap (o : Option α) (g : G) : ml o g = o.map fun a => (a, g) := by cases o <;> rfl
@[simp] theorem ite_ap {c : Prop} [Decidable c] (a b : M α) (g : G) : (if c then a else b) g = if c then a g else b g := by split <;> rfl
def dAt (ρ : Rho) (i : Nat) : Option D := match ρ[i]? with
  | some (some (.d x)) => some x
  | _ => none
def lAt (ρ : Rho) (i : Nat) : Option D := match ρ[i]? with
  | some (some .fn) => none
  | some (some lv) => some lv.get
  | _ => none
@[simp] theorem dAt_zero (x : D) (ρ : Rho) : dAt (some (.d x) :: ρ) 0 = some x := rfl
@[simp] theorem dAt_succ (o : Option LV) (ρ : Rho) (i : Nat) : dAt (o :: ρ) (i + 1) = dAt ρ i := rfl
@[simp] theorem lAt_zero_d (x : D) (ρ : Rho) : lAt (some (.d x) :: ρ) 0 = some x := rfl
@[simp] theorem lAt_zero_ol (l : List D) (ρ : Rho) : lAt (some (.ol l) :: ρ) 0 = some (.lst l) := rfl
@[simp] theorem lAt_zero_ok (ks : List Key) (l : List D) (ρ : Rho) : lAt (some (.ok ks l) :: ρ) 0 = some (.dk ks l) := rfl
@[simp] theorem lAt_zero_ot (ks : List (List Key)) (l : List D) (ρ : Rho) : lAt (some (.ot ks l) :: ρ) 0 = some (.dt ks l) := rfl
@[simp] theorem lAt_succ (o : Option LV) (ρ : Rho) (i : Nat) : lAt (o :: ρ) (i + 1) = lAt ρ i := rfl
@[simp] theorem olAt_zero (l : List D) (ρ : Rho) : olAt (some (.ol l) :: ρ) 0 = some l := rfl
@[simp] theorem olAt_succ (o : Option LV) (ρ : Rho) (i : Nat) : olAt (o :: ρ) (i + 1) = olAt ρ i := rfl
@[simp] theorem okAt_zero (ks : List Key) (l : List D) (ρ : Rho) : okAt (some (.ok ks l) :: ρ) 0 = some (ks, l) := rfl
@[simp] theorem okAt_succ (o : Option LV) (ρ : Rho) (i : Nat) : okAt (o :: ρ) (i + 1) = okAt ρ i := rfl
@[simp] theorem get_d (x : D) : (LV.d x).get = x := rfl
@[simp] theorem get_ol (l : List D) : (LV.ol l).get = .lst l := rfl
@[simp] theorem get_ok (ks : List Key) (l : List D) : (LV.ok ks l).get = .dk ks l := rfl
@[simp] theorem setR_zero (o : Option LV) (ρ : Rho) (d : D) : setR (o :: ρ) 0 d = some (.d d) :: ρ := rfl
@[simp] theorem setR_succ (o : Option LV) (ρ : Rho) (i : Nat) (d : D) : setR (o :: ρ) (i + 1) d = o :: setR ρ i d := rfl
@[simp] theorem wipeR_nil (ρ : Rho) : wipeR ρ [] = ρ := rfl
@[simp] theorem wipeR_cons (ρ : Rho) (v : Nat) (vs : List Nat) : wipeR ρ (v :: vs) = (wipeR ρ vs).set v none := rfl
@[simp] theorem setLs_nil (ρ : Rho) (lvs : List LV) : setLs ρ [] lvs = ρ := rfl
@[simp] theorem setLs_cons (ρ : Rho) (i : Nat) (is : List Nat) (lv : LV) (lvs : List LV) : setLs ρ (i :: is) (lv :: lvs) = setLs (ρ.set i (some lv)) is lvs := rfl
@[simp] theorem eVar_ap (i : Nat) : eVar i ρ g = (dAt ρ i).map fun x => (x, g) := by
  unfold eVar dAt
  exact ml_ap _ _
@[simp] theorem eOwn_ap (i : Nat) : eOwn i ρ g = (lAt ρ i).map fun x => (x, g) := by
  unfold eOwn lAt
  exact ml_ap _ _
@[simp] theorem eC_ap (d : D) : eC d ρ g = some (d, g) := rfl
@[simp] theorem eOp_ap (h : D → D → Option D) (a b : E) : eOp h a b ρ g = (a ρ g).bind fun p => (b ρ p.2).bind fun q => (h p.1 q.1).map fun d => (d, q.2) := by simp [eOp]
@[simp] theorem eCmp_ap (h : D → D → Option Bool) (a b : E) : eCmp h a b ρ g = (a ρ g).bind fun p => (b ρ p.2).bind fun q => (h p.1 q.1).map fun d => (.bl d, q.2) := by
  simp only [eCmp, mb_ap, ml_ap, Option.map_map]
  rfl
@[simp] theorem tCmp_ap (h : D → D → Option Bool) (a b : E) : tCmp h a b ρ g = (a ρ g).bind fun p => (b ρ p.2).bind fun q => (h p.1 q.1).map fun d => (d, q.2) := by simp [tCmp]
@[simp] theorem eChain_ap (h h' : D → D → Option Bool) (a b c : E) : eChain h h' a b c ρ g = (a ρ g).bind fun p => (b ρ p.2).bind fun q => (h p.1 q.1).bind fun k => if k = true then (c ρ q.2).bind fun r => (h' q.1 r.1).map fun d => (.bl d, r.2) else some (.bl false, q.2) := by
  simp only [eChain, mb_ap, ml_ap, ite_ap, mr_ap, Option.map_map, Option.bind_map]
  rfl
@[simp] theorem tE_ap (e : E) : tE e ρ g = (e ρ g).bind fun p => match p.1 with
    | .bl b => some (b, p.2)
    | _ => none := by
  unfold tE
  rw [mb_ap]
  congr 1
  funext p
  cases p.1 <;> rfl
@[simp] theorem tAnd_ap (a b : T) : tAnd a b ρ g = (a ρ g).bind fun p => if p.1 = true then b ρ p.2 else some (false, p.2) := by simp [tAnd]
@[simp] theorem tOr_ap (a b : T) : tOr a b ρ g = (a ρ g).bind fun p => if p.1 = true then some (true, p.2) else b ρ p.2 := by simp [tOr]
@[simp] theorem tNot_ap (a : T) : tNot a ρ g = (a ρ g).map fun p => (!p.1, p.2) := by
  simp only [tNot, mb_ap, mr_ap]
  cases a ρ g <;> rfl
@[simp] theorem eAnd_ap (a b : E) : eAnd a b ρ g = (tE a ρ g).bind fun p => if p.1 = true then b ρ p.2 else some (.bl false, p.2) := by simp [eAnd]
@[simp] theorem eOr_ap (a b : E) : eOr a b ρ g = (tE a ρ g).bind fun p => if p.1 = true then some (.bl true, p.2) else b ρ p.2 := by simp [eOr]
@[simp] theorem eNot_ap (a : E) : eNot a ρ g = (tE a ρ g).map fun p => (.bl (!p.1), p.2) := by
  simp only [eNot, mb_ap, mr_ap]
  cases tE a ρ g <;> rfl
@[simp] theorem eIf_ap (c : T) (a b : E) : eIf c a b ρ g = (c ρ g).bind fun p => if p.1 = true then a ρ p.2 else b ρ p.2 := by simp [eIf]
@[simp] theorem aNil_ap : aNil ρ g = some ([], g) := rfl
@[simp] theorem aCons_ap (a : E) (r : EA) : aCons a r ρ g = (a ρ g).bind fun p => (r ρ p.2).map fun q => (p.1 :: q.1, q.2) := by
  simp only [aCons, mb_ap, mr_ap]
  congr 1
  funext p
  cases r ρ p.2 <;> rfl
@[simp] theorem eTup_ap (fs : EA) : eTup fs ρ g = (fs ρ g).bind fun p => (szD p.1.length (.tup p.1)).map fun d => (d, p.2) := by simp [eTup]
@[simp] theorem eLst_ap (fs : EA) : eLst fs ρ g = (fs ρ g).bind fun p => (szD p.1.length (.lst p.1)).map fun d => (d, p.2) := by simp [eLst]
@[simp] theorem eCall_ap (f : List D → M D) (as : EA) : eCall f as ρ g = (as ρ g).bind fun p => f p.1 p.2 := by simp [eCall]
@[simp] theorem eCallK_ap (f : List D → M D) (pm : List Nat) (as ks : EA) : eCallK f pm as ks ρ g = (as ρ g).bind fun p => (ks ρ p.2).bind fun q => f (perm pm .non (p.1 ++ q.1)) q.2 := by simp [eCallK]
@[simp] theorem eNeg_ap (a : E) : eNeg a ρ g = (a ρ g).bind fun p => match p.1 with
    | .int i => some (.int (-i), p.2)
    | _ => none := by
  unfold eNeg
  rw [mb_ap]
  congr 1
  funext p
  cases p.1 <;> rfl
@[simp] theorem eBi_ap (h : List D → Option D) (as : EA) : eBi h as ρ g = (as ρ g).bind fun p => (h p.1).map fun d => (d, p.2) := by simp [eBi]
@[simp] theorem eIsi_ap (T : Ty) (f : E) : eIsi T f ρ g = (f ρ g).bind fun p => (isiD T p.1).map fun b => (.bl b, p.2) := by
  simp only [eIsi, mb_ap, ml_ap, Option.map_map]
  rfl
@[simp] theorem eIx_ap (a b : E) : eIx a b ρ g = (a ρ g).bind fun p => (b ρ p.2).bind fun q => (ixD q.2 p.1 q.1).map fun d => (d, q.2) := by
  unfold eIx
  rw [mb_ap]
  congr 1
  funext p
  exact mb_ap _ _ _
@[simp] theorem eIxO_ap (i : Nat) (b : E) : eIxO i b ρ g = (b ρ g).bind fun p => (match ρ[i]? with
  | some (some lv) => ixO lv p.1
  | _ => none).map fun d => (d, p.2) := by
  unfold eIxO
  rw [mb_ap]
  congr 1
  funext p
  exact ml_ap _ _
@[simp] theorem pNone_ap : pNone ρ g = some (none, g) := rfl
@[simp] theorem pSome_ap (f : E) : pSome f ρ g = (f ρ g).bind fun p => match p.1 with
    | .int i => some (some i, p.2)
    | _ => none := by
  unfold pSome
  rw [mb_ap]
  congr 1
  funext p
  cases p.1 <;> rfl
@[simp] theorem eSl_ap (a : E) (lo hi : Rho → M (Option Int)) : eSl a lo hi ρ g = (a ρ g).bind fun p => (lo ρ p.2).bind fun q => (hi ρ q.2).bind fun r => (slD p.1 q.1 r.1).map fun d => (d, r.2) := by simp [eSl]
@[simp] theorem eO_ap (f : EA) : eO f ρ g = (f ρ g).map fun p => (.lst p.1, p.2) := by
  simp only [eO, mb_ap, mr_ap]
  cases f ρ g <;> rfl
@[simp] theorem eKd_ap (f : EK) : eKd f ρ g = (f ρ g).map fun p => (.dk p.1.1 p.1.2, p.2) := by
  simp only [eKd, mb_ap, mr_ap]
  cases f ρ g <;> rfl
@[simp] theorem aSz_ap (f : EA) : aSz f ρ g = (f ρ g).bind fun p => if p.1.length ≤ sizeLine then some p else none := by
  simp only [aSz, mb_ap, ite_ap, mr_ap, mz_ap]
@[simp] theorem eLcA_ap (vs : List Nat) (it : EA) (bd : B) (t : T) (e : E) : eLcA vs it bd t e ρ g = (it ρ g).bind fun p => (lcL bd t e (wipeR ρ vs) p.1 p.2).bind fun q => if q.1.length ≤ sizeLine then some q else none := by
  simp only [eLcA, mb_ap, ite_ap, mr_ap, mz_ap]
@[simp] theorem eLc2A_ap (vs vs1 : List Nat) (it : EA) (bd : B) (t : T) (it1 : EA) (bd1 : B) (t1 : T) (e : E) : eLc2A vs vs1 it bd t it1 bd1 t1 e ρ g = (it ρ g).bind fun p => (lc2L bd t it1 vs1 bd1 t1 e (wipeR ρ vs) p.1 p.2).bind fun q => if q.1.length ≤ sizeLine then some q else none := by
  simp only [eLc2A, mb_ap, ite_ap, mr_ap, mz_ap]
@[simp] theorem eDcA_ap (vs : List Nat) (it : EA) (bd : B) (t : T) (k v : E) : eDcA vs it bd t k v ρ g = (it ρ g).bind fun p => dcL bd t k v (wipeR ρ vs) ([], []) p.1 p.2 := by simp [eDcA]
@[simp] theorem scA_ap (vs : List Nat) (it : EA) (bd : B) (t : T) (e : E) : scA vs it bd t e ρ g = (it ρ g).bind fun p => (lcL bd t e (wipeR ρ vs) p.1 p.2).bind fun q => ((tupInts q.1).bind fun ns => if ns.length < 64 then some ns else none).map fun ns => (ns, q.2) := by simp [scA]
@[simp] theorem eSrtSet_ap (f : ES) : eSrtSet f ρ g = (f ρ g).bind fun p => if p.1.length < 64 then some (.lst ((sortU p.1).map D.int), p.2) else none := by
  simp only [eSrtSet, mb_ap, ite_ap, mr_ap, mz_ap]
@[simp] theorem eJoin_ap (a b : E) : eJoin a b ρ g = (a ρ g).bind fun p => (b ρ p.2).bind fun q => (joinD p.1 q.1).map fun d => (d, q.2) := by simp [eJoin]
@[simp] theorem eIndex_ap (a b : E) : eIndex a b ρ g = (a ρ g).bind fun p => (b ρ p.2).bind fun q => (indexD p.1 q.1).map fun d => (d, q.2) := by simp [eIndex]
@[simp] theorem aIt_ap (h : List D → Option (List D)) (fs : EA) : aIt h fs ρ g = (fs ρ g).bind fun p => (h p.1).map fun d => (d, p.2) := by simp [aIt]
@[simp] theorem aItem_ap (f : E) : aItem f ρ g = (f ρ g).bind fun p => (itemsD p.1).map fun d => (d, p.2) := by simp [aItem]
@[simp] theorem aOwn_ap (i : Nat) : aOwn i ρ g = (match ρ[i]? with
  | some (some (.ol l)) => some l
  | some (some (.d d)) => itemsD d
  | _ => none).map fun d => (d, g) := by
  unfold aOwn
  exact ml_ap _ _
@[simp] theorem tYesD_ap : tYesD ρ g = some (true, g) := rfl
@[simp] theorem vD_ap (f : E) : vD f ρ g = (f ρ g).map fun p => (.d p.1, p.2) := by
  simp only [vD, mb_ap, mr_ap]
  cases f ρ g <;> rfl
@[simp] theorem vL_ap (f : EA) : vL f ρ g = (f ρ g).map fun p => (.ol p.1, p.2) := by
  simp only [vL, mb_ap, mr_ap]
  cases f ρ g <;> rfl
@[simp] theorem vK_ap (f : EK) : vK f ρ g = (f ρ g).map fun p => (.ok p.1.1 p.1.2, p.2) := by
  simp only [vK, mb_ap, mr_ap]
  cases f ρ g <;> rfl
@[simp] theorem vNil_ap : vNil ρ g = some ([], g) := rfl
@[simp] theorem vCons_ap (a : EV) (r : EVA) : vCons a r ρ g = (a ρ g).bind fun p => (r ρ p.2).map fun q => (p.1 :: q.1, q.2) := by
  simp only [vCons, mb_ap, mr_ap]
  congr 1
  funext p
  cases r ρ p.2 <;> rfl
@[simp] theorem pNil_ap : pNil ρ g = some ([], g) := rfl
@[simp] theorem pCons_ap (k v : E) (r : EP2) : pCons k v r ρ g = (k ρ g).bind fun p => (v ρ p.2).bind fun q => (r ρ q.2).map fun l => ((p.1, q.1) :: l.1, l.2) := by
  simp only [pCons, mb_ap, mr_ap]
  congr 1
  funext p
  congr 1
  funext q
  cases r ρ q.2 <;> rfl
@[simp] theorem eDisp_ap (f : EP2) : eDisp f ρ g = (f ρ g).bind fun p => ((keysD (p.1.map (·.1))).bind fun ks => if ks.length ≤ 15 then some (mergeD ([], []) ks (p.1.map (·.2))) else none).map fun r => (r, p.2) := by simp [eDisp]
@[simp] theorem eMk_ap (f : EK) : eMk f ρ g = (f ρ g).map fun p => (.hd p.2.length, p.2 ++ [.mk p.1.1 p.1.2]) := by
  simp only [eMk, mb_ap, mNew]
  cases f ρ g <;> rfl
@[simp] theorem eMl_ap (f : EA) : eMl f ρ g = (f ρ g).map fun p => (.hd p.2.length, p.2 ++ [.ml p.1]) := by
  simp only [eMl, mb_ap, mNew]
  cases f ρ g <;> rfl
/-! statements -/
@[simp] theorem sNil_ap : sNil ρ g = some (.nx ρ, g) := rfl
@[simp] theorem sPass_ap : sPass ρ g = some (.nx ρ, g) := rfl
@[simp] theorem sNever_ap : sNever ρ g = none := rfl
@[simp] theorem sCont_ap : sCont ρ g = some (.ct ρ, g) := rfl
@[simp] theorem sBreak_ap : sBreak ρ g = some (.bk ρ, g) := rfl
def sqK (b : S) : Fl × G → Option (Fl × G)
  | (.nx ρ', g') => b ρ' g'
  | p => some p
@[simp] theorem sqK_nx (b : S) (ρ' : Rho) (g' : G) : sqK b (.nx ρ', g') = b ρ' g' := rfl
@[simp] theorem sqK_xc (b : S) (nm f : Str) (d : D) (ρ' : Rho) (g' : G) : sqK b (.xc nm f d ρ', g') = some (.xc nm f d ρ', g') := rfl
@[simp] theorem sqK_rt (b : S) (d : D) (g' : G) : sqK b (.rt d, g') = some (.rt d, g') := rfl
@[simp] theorem sqK_bk (b : S) (ρ' : Rho) (g' : G) : sqK b (.bk ρ', g') = some (.bk ρ', g') := rfl
@[simp] theorem sqK_ct (b : S) (ρ' : Rho) (g' : G) : sqK b (.ct ρ', g') = some (.ct ρ', g') := rfl
@[simp] theorem sSeq_ap (a b : S) : sSeq a b ρ g = (a ρ g).bind (sqK b) := by
  unfold sSeq
  rw [mb_ap]
  congr 1
  funext p
  obtain ⟨fl, g'⟩ := p
  cases fl <;> rfl
@[simp] theorem sRet_ap (f : E) : sRet f ρ g = (f ρ g).map fun p => (.rt p.1, p.2) := by
  simp only [sRet, mb_ap, mr_ap]
  cases f ρ g <;> rfl
@[simp] theorem sSet_ap (i : Nat) (f : E) : sSet i f ρ g = (f ρ g).map fun p => (.nx (setR ρ i p.1), p.2) := by
  simp only [sSet, mb_ap, mr_ap]
  cases f ρ g <;> rfl
@[simp] theorem sAsg_ap (bd : B) (f : E) : sAsg bd f ρ g = (f ρ g).bind fun p => (bd p.1 ρ).map fun ρ' => (.nx ρ', p.2) := by
  simp only [sAsg, mb_ap, ml_ap, Option.map_map]
  rfl
@[simp] theorem sParV_ap (is : List Nat) (f : EVA) : sParV is f ρ g = (f ρ g).bind fun p => if p.1.length = is.length then some (.nx (setLs ρ is p.1), p.2) else none := by
  simp only [sParV, mb_ap, ite_ap, mr_ap, mz_ap]
@[simp] theorem sSetV_ap (i : Nat) (f : EV) : sSetV i f ρ g = (f ρ g).map fun p => (.nx (ρ.set i (some p.1)), p.2) := by
  simp only [sSetV, mb_ap, mr_ap]
  cases f ρ g <;> rfl
@[simp] theorem sIf_ap (c : T) (a b : S) : sIf c a b ρ g = (c ρ g).bind fun p => if p.1 = true then a ρ p.2 else b ρ p.2 := by simp [sIf]
@[simp] theorem sExpr_ap (f : E) : sExpr f ρ g = (f ρ g).map fun p => (.nx ρ, p.2) := by
  simp only [sExpr, mb_ap, mr_ap]
  cases f ρ g <;> rfl
@[simp] theorem sOwn_ap (i : Nat) (f : EA) : sOwn i f ρ g = (f ρ g).map fun p => (.nx (ρ.set i (some (.ol p.1))), p.2) := by
  simp only [sOwn, mb_ap, mr_ap]
  cases f ρ g <;> rfl
@[simp] theorem sFrz_ap (i : Nat) (a : S) : sFrz i a ρ g = a (frzR ρ i) g := rfl
@[simp] theorem frzR_zero_d (x : D) (ρ : Rho) : frzR (some (.d x) :: ρ) 0 = some (.d x) :: ρ := rfl
@[simp] theorem frzR_zero_ol (l : List D) (ρ : Rho) : frzR (some (.ol l) :: ρ) 0 = some (.d (.lst l)) :: ρ := rfl
@[simp] theorem frzR_zero_ok (ks : List Key) (l : List D) (ρ : Rho) : frzR (some (.ok ks l) :: ρ) 0 = some (.d (.dk ks l)) :: ρ := rfl
@[simp] theorem frzR_zero_ot (ks : List (List Key)) (l : List D) (ρ : Rho) : frzR (some (.ot ks l) :: ρ) 0 = some (.d (.dt ks l)) :: ρ := rfl
@[simp] theorem frzR_zero_fn (ρ : Rho) : frzR (some .fn :: ρ) 0 = some .fn :: ρ := rfl
@[simp] theorem frzR_zeroN (ρ : Rho) : frzR (none :: ρ) 0 = none :: ρ := rfl
@[simp] theorem frzR_succ (o : Option LV) (ρ : Rho) (i : Nat) : frzR (o :: ρ) (i + 1) = o :: frzR ρ i := by
  unfold frzR
  simp only [List.getElem?_cons_succ]
  cases h : ρ[i]? with
  | none => rfl
  | some p =>
    cases p with
    | none => rfl
    | some lv => cases lv <;> rfl
@[simp] theorem sFor_ap (it : EA) (bd : B) (b : S) : sFor it bd b ρ g = (it ρ g).bind fun p => forL bd b p.1 ρ p.2 := by simp [sFor]
@[simp] theorem sWhile_ap (n : Nat) (c : T) (b : S) : sWhile n c b ρ g = whileL c b n ρ g := rfl
@[simp] theorem sAppend_ap (i : Nat) (f : E) : sAppend i f ρ g = (f ρ g).bind fun p => ((olAt ρ i).bind fun l => if l.length < sizeLine then some (.nx (ρ.set i (some (.ol (l ++ [p.1]))))) else none).map fun fl => (fl, p.2) := by simp [sAppend]
@[simp] theorem sExtend_ap (i : Nat) (f : EA) : sExtend i f ρ g = (f ρ g).bind fun p => ((olAt ρ i).bind fun l => if l.length + p.1.length ≤ sizeLine then some (.nx (ρ.set i (some (.ol (l ++ p.1))))) else none).map fun fl => (fl, p.2) := by simp [sExtend]
@[simp] theorem sUpdate_ap (i : Nat) (f : EK) : sUpdate i f ρ g = (f ρ g).bind fun p => ((okAt ρ i).bind fun r => if r.1.Nodup ∧ r.1.length + p.1.1.length ≤ sizeLine then some (.nx (ρ.set i (some (.ok (mergeD r p.1.1 p.1.2).1 (mergeD r p.1.1 p.1.2).2)))) else none).map fun fl => (fl, p.2) := by simp [sUpdate]
@[simp] theorem sStore_ap (a b f : E) : sStore a b f ρ g = (f ρ g).bind fun p => (a ρ p.2).bind fun q => (b ρ q.2).bind fun r => (storeD r.2 q.1 r.1 p.1).map fun g' => (.nx ρ, g') := by
  unfold sStore
  rw [mb_ap]
  congr 1
  funext p
  rw [mb_ap]
  congr 1
  funext q
  exact mb_ap _ _ _
end
/-! ### loops -/
def feK (bd : B) (b : S) (ds : List D) : Fl × G → Option (Fl × G)
  | (.nx ρ', g') => forL bd b ds ρ' g'
  | (.ct ρ', g') => forL bd b ds ρ' g'
  | (.bk ρ', g') => some (.nx ρ', g')
  | (.rt x, g') => some (.rt x, g')
  | (.xc nm f d ρ', g') => some (.xc nm f d ρ', g')
@[simp] theorem feK_nx (bd : B) (b : S) (ds : List D) (ρ' : Rho) (g' : G) : feK bd b ds (.nx ρ', g') = forL bd b ds ρ' g' := rfl
@[simp] theorem feK_ct (bd : B) (b : S) (ds : List D) (ρ' : Rho) (g' : G) : feK bd b ds (.ct ρ', g') = forL bd b ds ρ' g' := rfl
@[simp] theorem feK_bk (bd : B) (b : S) (ds : List D) (ρ' : Rho) (g' : G) : feK bd b ds (.bk ρ', g') = some (.nx ρ', g') := rfl
@[simp] theorem feK_xc (bd : B) (b : S) (ds : List D) (nm f : Str) (d : D) (ρ' : Rho) (g' : G) : feK bd b ds (.xc nm f d ρ', g') = some (.xc nm f d ρ', g') := rfl
@[simp] theorem feK_rt (bd : B) (b : S) (ds : List D) (x : D) (g' : G) : feK bd b ds (.rt x, g') = some (.rt x, g') := rfl
@[simp] theorem forL_nil (bd : B) (b : S) (ρ : Rho) (g : G) : forL bd b [] ρ g = some (.nx ρ, g) := rfl
theorem forL_cons (bd : B) (b : S) (d : D) (ds : List D) (ρ : Rho) (g : G) : forL bd b (d :: ds) ρ g = (bd d ρ).bind fun ρ1 => (b ρ1 g).bind (feK bd b ds) := by
  conv => lhs; unfold forL
  cases bd d ρ with
  | none => rfl
  | some ρ1 =>
    simp only [mb_ap, Option.bind_some]
    congr 1
    funext p
    obtain ⟨fl, g'⟩ := p
    cases fl <;> rfl
def weK (c : T) (b : S) (n : Nat) : Fl × G → Option (Fl × G)
  | (.nx ρ', g') => whileL c b n ρ' g'
  | (.ct ρ', g') => whileL c b n ρ' g'
  | (.bk ρ', g') => some (.nx ρ', g')
  | (.rt x, g') => some (.rt x, g')
  | (.xc nm f d ρ', g') => some (.xc nm f d ρ', g')
@[simp] theorem weK_nx (c : T) (b : S) (n : Nat) (ρ' : Rho) (g' : G) : weK c b n (.nx ρ', g') = whileL c b n ρ' g' := rfl
@[simp] theorem weK_ct (c : T) (b : S) (n : Nat) (ρ' : Rho) (g' : G) : weK c b n (.ct ρ', g') = whileL c b n ρ' g' := rfl
@[simp] theorem weK_bk (c : T) (b : S) (n : Nat) (ρ' : Rho) (g' : G) : weK c b n (.bk ρ', g') = some (.nx ρ', g') := rfl
@[simp] theorem weK_xc (c : T) (b : S) (n : Nat) (nm f : Str) (d : D) (ρ' : Rho) (g' : G) : weK c b n (.xc nm f d ρ', g') = some (.xc nm f d ρ', g') := rfl
@[simp] theorem weK_rt (c : T) (b : S) (n : Nat) (x : D) (g' : G) : weK c b n (.rt x, g') = some (.rt x, g') := rfl
theorem whileL_succ (c : T) (b : S) (n : Nat) (ρ : Rho) (g : G) : whileL c b (n + 1) ρ g = (c ρ g).bind fun p => if p.1 = true then (b ρ p.2).bind (weK c b n) else some (.nx ρ, p.2) := by
  conv => lhs; unfold whileL
  simp only [mb_ap, ite_ap, mr_ap]
  congr 1
  funext p
  split
  · congr 1
    funext q
    obtain ⟨fl, g'⟩ := q
    cases fl <;> rfl
  · rfl
@[simp] theorem lcL_nil (bd : B) (t : T) (e : E) (ρ : Rho) (g : G) : lcL bd t e ρ [] g = some ([], g) := rfl
theorem lcL_cons (bd : B) (t : T) (e : E) (ρ : Rho) (d : D) (ds : List D) (g : G) : lcL bd t e ρ (d :: ds) g = (bd d ρ).bind fun ρ' => (t ρ' g).bind fun p => if p.1 = true then (e ρ' p.2).bind fun q => (lcL bd t e ρ ds q.2).map fun r => (q.1 :: r.1, r.2) else lcL bd t e ρ ds p.2 := by
  conv => lhs; unfold lcL
  cases bd d ρ with
  | none => rfl
  | some ρ' =>
    simp only [mb_ap, ite_ap, mr_ap, Option.bind_some]
    congr 1
    funext p
    split
    · congr 1
      funext q
      cases lcL bd t e ρ ds q.2 <;> rfl
    · rfl
theorem runF_rt {n : Nat} {f : S} {ds : List D} {g g' : G} {d : D} (h : f (slots0 n ds) g = some (.rt d, g')) : runF n f ds g = some (d, g') := by unfold runF; rw [h]
theorem runF_nx {n : Nat} {f : S} {ds : List D} {g g' : G} {ρ : Rho} (h : f (slots0 n ds) g = some (.nx ρ, g')) : runF n f ds g = some (.non, g') := by unfold runF; rw [h]
end PD
end
section
set_option Elab.async false
set_option linter.all false
set_option maxRecDepth 100000
set_option maxHeartbeats 4000000
set_option autoImplicit false
namespace PD
open PySem PySem.W PySem.Calls L2
open PyProof.Rows hiding St
variable [Live]
/-! ### a key of a dict of one's own is set -/
def sSetK (i : Nat) (b f : E) : S := fun ρ => mb (f ρ) fun d => mb (b ρ) fun y => ml ((okAt ρ i).bind fun r => (keyD y).bind fun k =>
  if r.1.Nodup ∧ r.1.length < sizeLine then some (.nx (ρ.set i (some (.ok (putD r.1 r.2 k d).1 (putD r.1 r.2 k d).2)))) else none)
section
variable {X : Cx} {e b : Expr} {fb f : E} {x : Str} {p ap pos : Pos}
theorem pds_setK {k : Nat} (i : Nat) (hr : Room k X.A) (hb : PD X b fb) (h : PD X e f) (hN : X.N[i]? = some x := by rfl) (hv : Vis X.env.scope x := by first | exact Or.inl rfl | exact Or.inr (Or.inl rfl) | exact Or.inr (Or.inr rfl))
    (hd : (x == ("__debug__" : Str)) = false := by decide) (hcd : (x == ("__classdict__" : Str)) = false := by decide)
    (hsw : swapsWith e (some (.Subscript (.Name x p) b ap)) pos.line X.env = pure false := by rfl) :
    PDS X (.Assign [.Subscript (.Name x p) b ap] e pos) (sSetK i fb f) := by
  obtain ⟨t, ht, kv⟩ := h
  obtain ⟨tb, pb, kb⟩ := hb
  refine ⟨_, ps_dput (hu_of hr) (pe_var hN hv hd hcd) pb ht hsw, fun en σ H F ρ g pre fl g' ev De post => ?_⟩
  obtain ⟨d, g1, e1, ev⟩ := mb_inv ev
  obtain ⟨y, g2, e2, ev⟩ := mb_inv ev
  obtain ⟨ev2, rfl⟩ := ml_inv ev
  obtain ⟨r, hr0, hc⟩ := Option.bind_eq_some_iff.mp ev2
  obtain ⟨kk, hk, hc⟩ := Option.bind_eq_some_iff.mp hc
  have hl := okAt_inv hr0
  by_cases hz : r.1.Nodup ∧ r.1.length < sizeLine
  · rw [if_pos hz] at hc
    cases hc
    obtain ⟨v, h1, q, kvs, rfl, h2, h3, h4, h5, h6⟩ := pre.e.sl.at_ i _ hl
    refine kv σ H F ρ g pre.e d g1 e1 _ fun v H1 F1 s1 r1 => ⟨_, h1, kb σ H1 F1 ρ g1 (pre.e.step s1) _ _ e2 _ fun w H2 F2 s2 r2 => ?_⟩
    have s := s1.trans s2
    have h4' : H2 q = some (.dK kvs) := s.same _ _ h3 h4
    have nd : (kvs.map (·.1)).Nodup := by rw [h5]; exact hz.1
    obtain ⟨q1, q2⟩ := putD_ok (k := kk) (r1.mono s2.ext) nd (h6.mono s.ext)
    have hln : kvs.length < sizeLine := by
      have a1 : kvs.length = r.1.length := by rw [← h5]; simp
      omega
    rw [h5] at q1 q2
    rw [keyD_ok r2 hk]
    exact ⟨_, _, rfl, DPut.k h4' hln, post σ _ F2 ((pre.step s).mut hl rfl h1 rfl (s.keepN h2 h4) (s.keepM h3 h4) ⟨q, _, rfl, s.keepN h2 h4, s.keepM h3 h4, upd_same, q1, q2⟩)⟩
  · rw [if_neg hz] at hc
    cases hc
end
@[simp] theorem sSetK_ap (i : Nat) (b f : E) {ρ : Rho} {g : G} : sSetK i b f ρ g = (f ρ g).bind fun p => (b ρ p.2).bind fun q => ((okAt ρ i).bind fun r => (keyD q.1).bind fun k =>
  if r.1.Nodup ∧ r.1.length < sizeLine then some (Fl.nx (ρ.set i (some (.ok (putD r.1 r.2 k p.1).1 (putD r.1 r.2 k p.1).2)))) else none).map fun fl => (fl, q.2) := by
  unfold sSetK
  rw [mb_ap]
  congr 1
  funext p
  rw [mb_ap]
  congr 1
  funext q
  exact ml_ap _ _
end PD
end
section
set_option Elab.async false
set_option linter.all false
set_option maxRecDepth 100000
set_option maxHeartbeats 4000000
set_option autoImplicit false
namespace PD
open PySem
variable [Live]
/-! ### plain facts of the data -/
theorem dMod_ok (i j : Int) (h : 0 < j) : dMod (.int i) (.int j) = some (.int (i % j)) := by simp [dMod, intD, modC, h]
theorem dFdiv_ok (i j : Int) (h : 0 < j) (h2 : j < 18446744073709551616) : dFdiv (.int i) (.int j) = some (.int (i / j)) := by
  have : fdivC i j = true := by
    unfold fdivC
    have e : (18446744073709551616 : Int) ≤ 2 ^ 8000 := by decide +kernel
    rw [Bool.and_eq_true]
    exact ⟨decide_eq_true h, decide_eq_true (by omega)⟩
  simp [dFdiv, intD, this]
theorem dMul_ok (i j : Int) (h : -18446744073709551616 < i ∧ i < 18446744073709551616) : dMul (.int i) (.int j) = some (.int (i * j)) := by
  have : mulC i j = true := by simp [mulC, h.1, h.2]
  simp [dMul, intD, this]
theorem dMul_ok2 (i j : Int) (h : -18446744073709551616 < j ∧ j < 18446744073709551616) : dMul (.int i) (.int j) = some (.int (i * j)) := by
  have : mulC i j = true := by simp [mulC, h.1, h.2]
  simp [dMul, intD, this]
@[simp] theorem addD_int (i j : Int) : addD (.int i) (.int j) = some (.int (i + j)) := rfl
@[simp] theorem subD_int (i j : Int) : subD (.int i) (.int j) = some (.int (i - j)) := rfl
@[simp] theorem gtD_int (i j : Int) : gtD (.int i) (.int j) = some (decide (j < i)) := rfl
@[simp] theorem ltD_int (i j : Int) : ltD (.int i) (.int j) = some (decide (i < j)) := rfl
@[simp] theorem geD_int (i j : Int) : geD (.int i) (.int j) = some (decide (j ≤ i)) := rfl
@[simp] theorem leD_int (i j : Int) : leD (.int i) (.int j) = some (decide (i ≤ j)) := rfl
@[simp] theorem pow18 : dPow (.int 10) (.int 18) = some (.int 1000000000000000000) := by rfl
@[simp] theorem lenD_lst (l : List D) : lenD [.lst l] = some (.int l.length) := rfl
@[simp] theorem lenD_tup (l : List D) : lenD [.tup l] = some (.int l.length) := rfl
@[simp] theorem itemsD_lst (l : List D) : itemsD (.lst l) = some l := rfl
@[simp] theorem itemsD_tup (l : List D) : itemsD (.tup l) = some l := rfl
@[simp] theorem itemsD_str (x : Str) : itemsD (.str x) = some (strItems x) := rfl
@[simp] theorem isNon_non : isNon .non = true := rfl
theorem ixN_of {n : Nat} {i : Int} (h1 : 0 ≤ i) (h2 : i < n) : L2.ixN n i = some i.toNat := by
  unfold L2.ixN
  simp [h1, h2]
theorem atI_of {α : Type} {l : List α} {i : Int} (h1 : 0 ≤ i) (h2 : i < l.length) : L2.atI l i = l[i.toNat]? := by
  unfold L2.atI
  rw [ixN_of h1 h2]
  rfl
theorem atI_mem {α : Type} {l : List α} {i : Int} (h1 : 0 ≤ i) (h2 : i < l.length) : ∃ x, L2.atI l i = some x ∧ x ∈ l := by
  rw [atI_of h1 h2]
  have h : i.toNat < l.length := by omega
  exact ⟨l[i.toNat], List.getElem?_eq_getElem h, List.getElem_mem h⟩
@[simp] theorem ixD_lst (g : G) (l : List D) (i : Int) : ixD g (.lst l) (.int i) = L2.atI l i := rfl
@[simp] theorem ixD_tup (g : G) (l : List D) (i : Int) : ixD g (.tup l) (.int i) = L2.atI l i := rfl
@[simp] theorem ixD_str (g : G) (z : Str) (i : Int) : ixD g (.str z) (.int i) = (L2.atI z.cps.toList i).map fun c => .str ⟨#[c]⟩ := rfl
@[simp] theorem szD_ok {n : Nat} {d : D} (h : n ≤ sizeLine) : szD n d = some d := by unfold szD; rw [if_pos h]
/-! ### equal, in -/
@[simp] theorem eqq_int (i j : Int) : eqq (.int i) (.int j) = decide (i = j) := by
  unfold eqq
  rw [Bool.eq_iff_iff]
  simp
@[simp] theorem eqq_str (x y : Str) : eqq (.str x) (.str y) = decide (x = y) := by
  unfold eqq
  rw [Bool.eq_iff_iff]
  simp
theorem eqqA_map {α : Type} [DecidableEq α] {f : α → D} (hf : ∀ x y, eqq (f x) (f y) = decide (x = y)) : ∀ xs ys : List α, eqqA (xs.map f) (ys.map f) = decide (xs = ys)
  | [], [] => by simp [eqqA]
  | [], y :: ys => by simp [eqqA]
  | x :: xs, [] => by simp [eqqA]
  | x :: xs, y :: ys => by simp [eqqA, hf, eqqA_map hf xs ys]
theorem eqq_tup (l m : List D) : eqq (.tup l) (.tup m) = eqqA l m := by simp [eqq]
theorem eqq_lst (l m : List D) : eqq (.lst l) (.lst m) = eqqA l m := by simp [eqq]
theorem purA_map {α : Type} {f : α → D} (hf : ∀ x, pur (f x) = true) : ∀ xs : List α, purA (xs.map f) = true
  | [] => rfl
  | x :: xs => by simp [purA, hf, purA_map hf xs]
theorem depA_map {α : Type} {f : α → D} {n : Nat} (hf : ∀ x, dep (f x) ≤ n) : ∀ xs : List α, depA (xs.map f) ≤ n
  | [] => by simp [depA]
  | x :: xs => by
    have := depA_map hf xs
    have := hf x
    simp only [List.map_cons, depA]
    omega
/-- a kind of data by a type -/
structure Kd {α : Type} (f : α → D) (n : Nat) : Prop where
  pu : ∀ x, pur (f x) = true
  de : ∀ x, dep (f x) ≤ n
theorem kdI : Kd D.int 0 := ⟨fun _ => rfl, fun _ => Nat.le_refl _⟩
theorem kdS : Kd D.str 0 := ⟨fun _ => rfl, fun _ => Nat.le_refl _⟩
theorem Kd.tup {α : Type} {f : α → D} {n : Nat} (h : Kd f n) : Kd (fun xs : List α => D.tup (xs.map f)) (n + 1) :=
  ⟨fun xs => by simp [pur, purA_map h.pu], fun xs => by have := depA_map h.de xs; simp only [dep]; omega⟩
theorem Kd.lst {α : Type} {f : α → D} {n : Nat} (h : Kd f n) : Kd (fun xs : List α => D.lst (xs.map f)) (n + 1) :=
  ⟨fun xs => by simp [pur, purA_map h.pu], fun xs => by have := depA_map h.de xs; simp only [dep]; omega⟩
theorem Kd.ok {α : Type} {f : α → D} {n : Nat} (h : Kd f n) (hn : n ≤ 64) (x : α) : cmpOk (f x) = true := by
  unfold cmpOk
  rw [h.pu, Bool.true_and]
  exact decide_eq_true (Nat.le_trans (h.de x) hn)
theorem any_eqq {α : Type} [DecidableEq α] {f : α → D} (hf : ∀ x y, eqq (f x) (f y) = decide (x = y)) (x : α) : ∀ xs : List α, ((xs.map f).any fun z => eqq z (f x)) = decide (x ∈ xs)
  | [] => by simp
  | y :: ys => by
    simp only [List.map_cons, List.any_cons, hf, any_eqq hf x ys, List.mem_cons, Bool.decide_or]
    congr 1
    exact decide_eq_decide.mpr eq_comm
theorem inD_lst {α : Type} [DecidableEq α] {f : α → D} {n : Nat} (k : Kd f n) (hn : n < 64) (hf : ∀ x y, eqq (f x) (f y) = decide (x = y)) (x : α) (xs : List α) : inD (f x) (.lst (xs.map f)) = some (decide (x ∈ xs)) := by
  have h1 := k.ok (by omega) x
  have h2 := k.lst.ok (by omega) xs
  simp only [inD, h1, h2, Bool.and_self, if_true, any_eqq hf]
theorem notInD_lst {α : Type} [DecidableEq α] {f : α → D} {n : Nat} (k : Kd f n) (hn : n < 64) (hf : ∀ x y, eqq (f x) (f y) = decide (x = y)) (x : α) (xs : List α) : notInD (f x) (.lst (xs.map f)) = some (!decide (x ∈ xs)) := by
  unfold notInD
  rw [inD_lst k hn hf]
  rfl
theorem flat_map {α : Type} {f : α → D} (hf : ∀ x, flatD (f x) = true) (xs : List α) : (xs.map f).all flatD = true := by
  rw [List.all_map]
  exact List.all_eq_true.mpr fun x _ => hf x
theorem inD_tup {α : Type} [DecidableEq α] {f : α → D} (k : ∀ x, flatD (f x) = true) (hf : ∀ x y, eqq (f x) (f y) = decide (x = y)) (x : α) (xs : List α) : inD (f x) (.tup (xs.map f)) = some (decide (x ∈ xs)) := by
  have h1 := k x
  have h2 := flat_map k xs
  simp only [inD, h1, h2, Bool.and_self, if_true, any_eqq hf]
theorem notInD_tup {α : Type} [DecidableEq α] {f : α → D} (k : ∀ x, flatD (f x) = true) (hf : ∀ x y, eqq (f x) (f y) = decide (x = y)) (x : α) (xs : List α) : notInD (f x) (.tup (xs.map f)) = some (!decide (x ∈ xs)) := by
  unfold notInD
  rw [inD_tup k hf]
  rfl
@[simp] theorem inD_strs (x : Str) (xs : List Str) : inD (.str x) (.lst (xs.map .str)) = some (decide (x ∈ xs)) := inD_lst kdS (by decide) eqq_str x xs
@[simp] theorem notInD_strs (x : Str) (xs : List Str) : notInD (.str x) (.lst (xs.map .str)) = some (!decide (x ∈ xs)) := notInD_lst kdS (by decide) eqq_str x xs
@[simp] theorem inD_ints (x : Int) (xs : List Int) : inD (.int x) (.lst (xs.map .int)) = some (decide (x ∈ xs)) := inD_lst kdI (by decide) eqq_int x xs
@[simp] theorem notInD_ints (x : Int) (xs : List Int) : notInD (.int x) (.lst (xs.map .int)) = some (!decide (x ∈ xs)) := notInD_lst kdI (by decide) eqq_int x xs
@[simp] theorem inD_strsT (x : Str) (xs : List Str) : inD (.str x) (.tup (xs.map .str)) = some (decide (x ∈ xs)) := inD_tup (fun _ => rfl) eqq_str x xs
@[simp] theorem notInD_strsT (x : Str) (xs : List Str) : notInD (.str x) (.tup (xs.map .str)) = some (!decide (x ∈ xs)) := notInD_tup (fun _ => rfl) eqq_str x xs
@[simp] theorem inD_intsT (x : Int) (xs : List Int) : inD (.int x) (.tup (xs.map .int)) = some (decide (x ∈ xs)) := inD_tup (fun _ => rfl) eqq_int x xs
@[simp] theorem notInD_intsT (x : Int) (xs : List Int) : notInD (.int x) (.tup (xs.map .int)) = some (!decide (x ∈ xs)) := notInD_tup (fun _ => rfl) eqq_int x xs
theorem eqD_of {x y : D} (h1 : cmpOk x = true) (h2 : cmpOk y = true) : eqD x y = some (eqq x y) := by simp [eqD, h1, h2]
theorem neD_of {x y : D} (h1 : cmpOk x = true) (h2 : cmpOk y = true) : neD x y = some (!eqq x y) := by simp [neD, h1, h2]
/-! ### texts joined -/
/-! ### plain lists -/
theorem nodup_len {α : Type} [DecidableEq α] : ∀ {l m : List α}, l.Nodup → (∀ x ∈ l, x ∈ m) → l.length ≤ m.length
  | [], m, _, _ => Nat.zero_le _
  | x :: l, m, hn, hs => by
    obtain ⟨h1, h2⟩ := List.nodup_cons.mp hn
    have hx := hs x List.mem_cons_self
    have := nodup_len (m := m.erase x) h2 fun y hy => (List.mem_erase_of_ne (fun e => h1 (by rw [← e]; exact hy))).mpr (hs y (List.mem_cons_of_mem _ hy))
    rw [List.length_erase_of_mem hx] at this
    have := List.length_pos_of_mem hx
    simp only [List.length_cons]
    omega
/-! ### sorted texts, numbers -/
def ltS (x y : Str) : Bool := decide (x.cps.toList < y.cps.toList)
def sortS (xs : List Str) : List Str := isoG ltS xs
theorem all_map {α : Type} {f : α → D} {p : D → Bool} (hf : ∀ x, p (f x) = true) (xs : List α) : (xs.map f).all p = true := by
  rw [List.all_map]
  exact List.all_eq_true.mpr fun x _ => hf x
theorem sortedM_strs (xs : List Str) : sortedM [.lst (xs.map .str)] = some (.lst ((sortS xs).map .str)) := by
  have h : sortD (xs.map D.str) = some (isoD (xs.map D.str)) := by
    unfold sortD
    rw [if_pos]
    simp only [Bool.or_eq_true]
    exact .inl (.inr (all_map (fun _ => rfl) xs))
  show (sortD (xs.map D.str)).map D.lst = _
  rw [h, isoD_eq, isoG_map (lt := ltS) D.str (fun x y => rfl)]
  rfl
theorem sortS_perm (xs : List Str) : (sortS xs).Perm xs := (isoG_ok swoS xs).2.perm
theorem sortS_lt {xs : List Str} (h : xs.Nodup) : (sortS xs).Pairwise fun x y => x.cps.toList < y.cps.toList := by
  have h1 : (sortS xs).Pairwise fun x y => decide (y.cps.toList < x.cps.toList) = false := (isoG_ok swoS xs).1
  have h2 : (sortS xs).Pairwise (· ≠ ·) := (sortS_perm xs).nodup_iff.mpr h
  refine (List.Pairwise.and h1 h2).imp fun {x y} q => ?_
  obtain ⟨q1, q2⟩ := q
  have q3 : ¬ y.cps.toList < x.cps.toList := of_decide_eq_false q1
  rcases Classical.em (x.cps.toList < y.cps.toList) with q4 | q4
  · exact q4
  · exact absurd (cs_inj (List.le_antisymm (List.not_lt.mp q3) (List.not_lt.mp q4))) q2
theorem tupleD_lst (l : List D) : tupleD [.lst l] = some (.tup l) := rfl
theorem allD_lst (bs : List Bool) : allD [.lst (bs.map .bl)] = some (.bl (bs.all id)) := by
  show (bools (bs.map .bl)).map (fun bs => D.bl (bs.all id)) = _
  rw [bools_map]
  rfl
theorem anyD_lst (bs : List Bool) : anyD [.lst (bs.map .bl)] = some (.bl (bs.any id)) := by
  show (bools (bs.map .bl)).map (fun bs => D.bl (bs.any id)) = _
  rw [bools_map]
  rfl
/-- all([..]), any([..]) of a comprehension without effects -/
theorem lc_bools {α : Type} {f : α → D} {bd : B} {e : E} {ρ : Rho} {g : G} {p : α → Bool} (xs : List α) (h : ∀ x ∈ xs, ∃ ρ', bd (f x) ρ = some ρ' ∧ e ρ' g = some (.bl (p x), g)) : lcL bd tYesD e ρ (xs.map f) g = some ((xs.map p).map .bl, g) := by
  induction xs with
  | nil => rfl
  | cons x xs ih =>
    obtain ⟨ρ', h1, h2⟩ := h x List.mem_cons_self
    rw [List.map_cons, lcL_cons, h1]
    simp [h2, ih fun y hy => h y (List.mem_cons_of_mem _ hy)]
/-- [.. for x in xs], [.. if ..] of typed items -/
theorem lc_typed {α β : Type} {f : α → D} {f' : β → D} {bd : B} {e : E} {ρ : Rho} {g : G} {q : α → β} (xs : List α) (h : ∀ x ∈ xs, ∃ ρ', bd (f x) ρ = some ρ' ∧ e ρ' g = some (f' (q x), g)) : lcL bd tYesD e ρ (xs.map f) g = some ((xs.map q).map f', g) := by
  induction xs with
  | nil => rfl
  | cons x xs ih =>
    obtain ⟨ρ', h1, h2⟩ := h x List.mem_cons_self
    rw [List.map_cons, lcL_cons, h1]
    simp [h2, ih fun y hy => h y (List.mem_cons_of_mem _ hy)]
theorem lc_typedF {α β : Type} {f : α → D} {f' : β → D} {bd : B} {t : T} {e : E} {ρ : Rho} {g : G} {p : α → Bool} {q : α → β} (xs : List α) (h : ∀ x ∈ xs, ∃ ρ', bd (f x) ρ = some ρ' ∧ t ρ' g = some (p x, g) ∧ (p x = true → e ρ' g = some (f' (q x), g))) :
    lcL bd t e ρ (xs.map f) g = some (((xs.filter p).map q).map f', g) := by
  induction xs with
  | nil => rfl
  | cons x xs ih =>
    obtain ⟨ρ', h1, h2, h3⟩ := h x List.mem_cons_self
    have ih := ih fun y hy => h y (List.mem_cons_of_mem _ hy)
    rw [List.map_cons, lcL_cons, h1]
    cases hp : p x with
    | true => simp [h2, hp, h3 hp, ih]
    | false => simp [h2, hp, ih]
theorem cutL_one {α : Type} (l : List α) : cutL l (some 1) none = l.drop 1 := by
  unfold cutL
  rw [HT.sIx_none]
  have : HT.sIx l.length 0 (some 1) = min 1 l.length := HT.sIx_nat l.length 0 1
  rw [this]
  by_cases h : 1 ≤ l.length
  · rw [Nat.min_eq_left h]
    exact List.take_of_length_le (by rw [List.length_drop]; omega)
  · have : l = [] := List.length_eq_zero_iff.mp (by omega)
    subst this
    rfl
theorem zip2L_map {α β : Type} {f : α → D} {f' : β → D} : ∀ (xs : List α) (ys : List β), zip2L (xs.map f) (ys.map f') = (xs.zip ys).map fun p => .tup [f p.1, f' p.2]
  | [], ys => by simp [zip2L]
  | _ :: _, [] => by simp [zip2L]
  | x :: xs, y :: ys => by simp [zip2L, zip2L_map xs ys]
@[simp] theorem seqD_lst (l : List D) : seqD (.lst l) = some l := rfl
@[simp] theorem seqD_tup (l : List D) : seqD (.tup l) = some l := rfl
theorem zipM_of {x y : D} {l m : List D} (h1 : seqD x = some l) (h2 : seqD y = some m) : zipM [x, y] = some (zip2L l m) := by simp [zipM, h1, h2]
theorem rangeD_eq : ∀ (n : Nat) (lo : Int), rangeD lo n = (List.range n).map fun (m : Nat) => D.int (lo + m)
  | 0, lo => rfl
  | n + 1, lo => by
    rw [List.range_succ_eq_map, List.map_cons, List.map_map]
    show D.int lo :: rangeD (lo + 1) n = _
    rw [rangeD_eq n (lo + 1)]
    congr 1
    · simp
    · refine List.map_congr_left fun m _ => ?_
      simp only [Function.comp]
      congr 1
      omega
/-- 0, 1, .. -/
def upto (c : Int) : List Int := (List.range c.toNat).map fun (m : Nat) => (m : Int)
theorem upto_mem {c i : Int} : i ∈ upto c ↔ 0 ≤ i ∧ i < c := by
  unfold upto
  simp only [List.mem_map, List.mem_range]
  constructor
  · rintro ⟨m, h, rfl⟩; omega
  · rintro ⟨h1, h2⟩; exact ⟨i.toNat, by omega, by omega⟩
theorem upto_len (c : Int) : (upto c).length = c.toNat := by simp [upto]
theorem rangeD_upto (c : Int) : rangeD 0 c.toNat = (upto c).map .int := by
  rw [rangeD_eq]
  unfold upto
  rw [List.map_map]
  refine List.map_congr_left fun m _ => ?_
  simp
theorem lc2L_cons (bd : B) (t : T) (it1 : EA) (vs1 : List Nat) (bd1 : B) (t1 : T) (e : E) (ρ : Rho) (d : D) (ds : List D) (g : G) : lc2L bd t it1 vs1 bd1 t1 e ρ (d :: ds) g = (bd d ρ).bind fun ρ' => (t ρ' g).bind fun p => if p.1 = true then (it1 ρ' p.2).bind fun q => (lcL bd1 t1 e (wipeR ρ' vs1) q.1 q.2).bind fun r => (lc2L bd t it1 vs1 bd1 t1 e ρ ds r.2).map fun u => (r.1 ++ u.1, u.2) else lc2L bd t it1 vs1 bd1 t1 e ρ ds p.2 := by
  conv => lhs; unfold lc2L
  cases bd d ρ with
  | none => rfl
  | some ρ' =>
    simp only [mb_ap, ite_ap, mr_ap, Option.bind_some]
    congr 1
    funext p
    split
    · congr 1
      funext q
      congr 1
      funext r
      cases lc2L bd t it1 vs1 bd1 t1 e ρ ds r.2 <;> rfl
    · rfl
end PD
end
section
set_option Elab.async false
set_option linter.all false
set_option maxRecDepth 100000
set_option maxHeartbeats 4000000
set_option autoImplicit false
namespace PD
open PySem PySem.Spec L2
open PyProof.Rows hiding St
variable [Live]
/-! ### it ends, and so -/
section
variable {α β : Type}
def Wp (o : Option (α × G)) (Q : α → G → Prop) : Prop := ∃ a g', o = some (a, g') ∧ Q a g'
@[simp] theorem wp_some (a : α) (g : G) (Q : α → G → Prop) : Wp (some (a, g)) Q ↔ Q a g := by
  constructor
  · rintro ⟨a', g', e, h⟩
    cases e
    exact h
  · exact fun h => ⟨a, g, rfl, h⟩
end
/-- a loop's body goes on, and then J -/
def Goes (J : Rho → G → Prop) : Fl → G → Prop
  | .nx ρ, g => J ρ g
  | .ct ρ, g => J ρ g
  | _, _ => False
@[simp] theorem goes_nx (J : Rho → G → Prop) (ρ : Rho) (g : G) : Goes J (.nx ρ) g ↔ J ρ g := Iff.rfl
@[simp] theorem goes_ct (J : Rho → G → Prop) (ρ : Rho) (g : G) : Goes J (.ct ρ) g ↔ J ρ g := Iff.rfl
def Ends' (Q : D → G → Prop) : Fl → G → Prop
  | .rt d, g => Q d g
  | .nx _, g => Q .non g
  | _, _ => False
@[simp] theorem ends_rt (Q : D → G → Prop) (d : D) (g : G) : Ends' Q (.rt d) g ↔ Q d g := Iff.rfl
@[simp] theorem ends_nx (Q : D → G → Prop) (ρ : Rho) (g : G) : Ends' Q (.nx ρ) g ↔ Q .non g := Iff.rfl
/-! ### shown -/
mutual
def shB : D → Bool
  | .int i => decide (i.natAbs.log2 < 1920)
  | .str x => x.cps.toList.all fun c => decide (c < 16 ^ 8)
  | .tup l => shBA l
  | .lst l => shBA l
  | _ => true
def shBA : List D → Bool
  | [] => true
  | d :: l => shB d && shBA l
end
mutual
def shW : D → Nat
  | .int _ => 1921
  | .str x => 10 * x.length + 2
  | .tup l => shWA l + 4
  | .lst l => shWA l + 4
  | _ => 8
def shWA : List D → Nat
  | [] => 0
  | d :: l => shW d + 2 + shWA l
end
theorem join_cons_le (t : Str) (ts : List Str) : (Str.join ", " (t :: ts)).length ≤ t.length + 2 + (Str.join ", " ts).length := by
  cases ts with
  | nil =>
    show t.length ≤ _
    omega
  | cons u us =>
    show ((t ++ ", ") ++ Str.join ", " (u :: us)).length ≤ _
    rw [Str.length_append, Str.length_append]
    have : (", " : Str).length = 2 := by rfl
    omega
mutual
theorem shown_le : ∀ d : D, shB d = true → (toPy d).showable = true ∧ (shows d).length ≤ shW d
  | .non, _ => ⟨by simp [toPy, PyData.showable], by unfold shows; rw [toPy, PyData.shown_none]; decide⟩
  | .bl b, _ => ⟨by simp [toPy, PyData.showable], by unfold shows; rw [toPy, PyData.shown_bool]; cases b <;> decide⟩
  | .dk _ _, _ => ⟨by simp [toPy, PyData.showable], by unfold shows; rw [toPy, PyData.shown_none]; simp only [shW]; decide⟩
  | .dt _ _, _ => ⟨by simp [toPy, PyData.showable], by unfold shows; rw [toPy, PyData.shown_none]; simp only [shW]; decide⟩
  | .hd _, _ => ⟨by simp [toPy, PyData.showable], by unfold shows; rw [toPy, PyData.shown_none]; simp only [shW]; decide⟩
  | .tx _, _ => ⟨by simp [toPy, PyData.showable], by unfold shows; rw [toPy, PyData.shown_none]; simp only [shW]; decide⟩
  | .int i, h => by
    have h : decide (i.natAbs.log2 < 1920) = true := by simpa [shB] using h
    refine ⟨by simp only [toPy, PyData.showable]; exact h, ?_⟩
    unfold shows
    rw [toPy, PyData.shown_int]
    simp only [shW]
    exact int_text_len_1921 (of_decide_eq_true h)
  | .str x, h => by
    have h : (x.cps.toList.all fun c => decide (c < 16 ^ 8)) = true := by simpa [shB] using h
    refine ⟨by simp [toPy, PyData.showable], ?_⟩
    unfold shows
    rw [toPy, PyData.shown_str]
    simp only [shW]
    exact PySem.StrLaws.reprText_len x fun c hc => of_decide_eq_true (List.all_eq_true.mp h c hc)
  | .tup l, h => by
    obtain ⟨h1, h2⟩ := shown_leA l (by simpa [shB] using h)
    refine ⟨by simp only [toPy, PyData.showable]; exact h1, ?_⟩
    unfold shows
    rw [toPy, PyData.shown_tuple, Str.length_append, Str.length_append]
    simp only [shW]
    have a1 : ("(" : Str).length = 1 := by rfl
    have a2 : ((if (toPyA l).length == 1 then ",)" else ")" : String) : Str).length ≤ 2 := by split <;> decide
    omega
  | .lst l, h => by
    obtain ⟨h1, h2⟩ := shown_leA l (by simpa [shB] using h)
    refine ⟨by simp only [toPy, PyData.showable]; exact h1, ?_⟩
    unfold shows
    rw [toPy, PyData.shown_list, Str.length_append, Str.length_append]
    simp only [shW]
    have a1 : ("[" : Str).length = 1 := by rfl
    have a2 : ("]" : Str).length = 1 := by rfl
    omega
theorem shown_leA : ∀ l : List D, shBA l = true → PyData.showableAll (toPyA l) = true ∧ (Str.join ", " (PyData.shownAll (toPyA l))).length ≤ shWA l
  | [], _ => ⟨by simp [toPyA, PyData.showableAll], by rw [toPyA, PyData.shownAll_nil]; decide⟩
  | d :: l, h => by
    have h : shB d = true ∧ shBA l = true := by simpa [shBA] using h
    obtain ⟨h1, h2⟩ := shown_le d h.1
    obtain ⟨h3, h4⟩ := shown_leA l h.2
    refine ⟨by simp only [toPyA, PyData.showableAll, h1, h3, Bool.and_self], ?_⟩
    rw [toPyA, PyData.shownAll_cons]
    have := join_cons_le (PyData.shown (toPy d)) (PyData.shownAll (toPyA l))
    unfold shows at h2
    simp only [shWA]
    omega
end
theorem reprD_of {d : D} (h1 : cmpOk d = true) (h2 : shB d = true) (h3 : shW d ≤ 16777216) : reprD [d] = some (.str (shows d)) := by
  obtain ⟨h4, h5⟩ := shown_le d h2
  show (if showOk d = true then _ else _) = _
  rw [if_pos]
  unfold showOk
  rw [h1, h4]
  simp only [Bool.true_and, decide_eq_true_eq]
  rw [sizeLine_eq]
  omega
end PD
end
section
set_option Elab.async false
set_option linter.all false
set_option maxRecDepth 100000
set_option maxHeartbeats 4000000
set_option autoImplicit false
/-! ### dict(zip(..)) of two tuples -/
namespace PD
open PySem
variable [Live]
section
variable {prog : Program} {w : World} {A : Around} {E : Value → Shared → Prop} {s : Shared} {zz ti to tt j1 j2 p1 p2 : Addr} {fl : Bool} {ot : Obj} {n1 n2 : Nat} {us vs : Array Value}
end
section
variable {prog : Program} {w : World}
end
end PD
end
section
set_option Elab.async false
set_option linter.all false
set_option maxRecDepth 100000
set_option maxHeartbeats 4000000
set_option autoImplicit false
namespace PD
open PySem PySem.Spec L2
open PyProof.Rows hiding St
variable [Live]
/-! ### dict(zip(names, values)) -/
end PD
end
section
set_option Elab.async false
set_option linter.all false
set_option maxRecDepth 100000
set_option maxHeartbeats 4000000
set_option autoImplicit false
namespace PD
open PySem PySem.Spec L2
open PyProof.Rows hiding St
variable [Live]
def dzD (ds : List D) : Option (List Key × List D) := match ds with
  | [.tup l, .tup m] => if l.length = m.length then (strsD l).map fun xs => mergeD ([], []) (xs.map Sum.inr) m else none
  | _ => none
def eDz (fs : EA) : EK := fun ρ => mb (fs ρ) fun ds => ml (dzD ds)
@[simp] theorem eDz_ap (fs : EA) (ρ : Rho) (g : G) : eDz fs ρ g = (fs ρ g).bind fun p => (dzD p.1).map fun r => (r, p.2) := by simp [eDz]
section
variable {X : Cx} {a e e2 : Expr} {f fa : E} {fs : EA} {p q pos zp ap cp : Pos}
/-! ### t.index(x) of a tuple of texts -/
def idxS (z : Str) : List Str → Option Nat
  | [] => none
  | x :: l => if x = z then some 0 else (idxS z l).map (· + 1)
/-! ### tuples of texts of which all is known (D.tx) -/
def plD : D → D
  | .tx xs => .tup (xs.map .str)
  | d => d
@[simp] theorem plD_tx (xs : List Str) : plD (.tx xs) = .tup (xs.map .str) := rfl
@[simp] theorem plD_tup (l : List D) : plD (.tup l) = .tup l := rfl
@[simp] theorem plD_non : plD .non = .non := rfl
def ePl (f : E) : E := fun ρ => mb (f ρ) fun d => mr (plD d)
@[simp] theorem ePl_ap (f : E) (ρ : Rho) (g : G) : ePl f ρ g = (f ρ g).map fun p => (plD p.1, p.2) := by
  simp only [ePl, mb_ap, mr_ap]
  cases f ρ g <;> rfl
def txD (ds : List D) : Option D := (strsD ds).bind fun xs => if xs.length ≤ sizeLine then some (.tx xs) else none
def eTx (fs : EA) : E := fun ρ => mb (fs ρ) fun ds => ml (txD ds)
@[simp] theorem eTx_ap (fs : EA) (ρ : Rho) (g : G) : eTx fs ρ g = (fs ρ g).bind fun p => (txD p.1).map fun d => (d, p.2) := by simp [eTx]
def indexTD (x y : D) : Option D := match x, y with
  | .tx xs, .str z => (idxS z xs).map fun n => D.int (Int.ofNat n)
  | _, _ => none
def eIndexT (a b : E) : E := fun ρ => mb (a ρ) fun x => mb (b ρ) fun y => ml (indexTD x y)
@[simp] theorem eIndexT_ap (a b : E) (ρ : Rho) (g : G) : eIndexT a b ρ g = (a ρ g).bind fun p => (b ρ p.2).bind fun q => (indexTD p.1 q.1).map fun d => (d, q.2) := by simp [eIndexT]
/-! ### tuple(range(n)), list(range(n)) -/
def upD (d : D) : Option (List D) := match d with
  | .int n => if 0 ≤ n ∧ n ≤ 16777216 then some ((upto n).map .int) else none
  | _ => none
def eTupRg (f : E) : E := fun ρ => mb (f ρ) fun d => ml ((upD d).map .tup)
def aLstRg (f : E) : EA := fun ρ => mb (f ρ) fun d => ml (upD d)
@[simp] theorem eTupRg_ap (f : E) (ρ : Rho) (g : G) : eTupRg f ρ g = (f ρ g).bind fun p => ((upD p.1).map .tup).map fun d => (d, p.2) := by simp [eTupRg]
@[simp] theorem aLstRg_ap (f : E) (ρ : Rho) (g : G) : aLstRg f ρ g = (f ρ g).bind fun p => (upD p.1).map fun d => (d, p.2) := by simp [aLstRg]
theorem rgV_upto (n : Int) : rgV 0 n = (upto n).map V.int := by
  unfold rgV upto
  rw [List.map_map]
  simp only [Int.sub_zero, Function.comp_def, Int.zero_add]
theorem upD_inv {d : D} {l : List D} (h : upD d = some l) : ∃ n : Int, d = .int n ∧ 0 ≤ n ∧ n ≤ 16777216 ∧ l = (upto n).map .int := by
  unfold upD at h
  split at h
  · rename_i n
    split at h
    · rename_i hn
      cases h
      exact ⟨n, rfl, hn.1, hn.2, rfl⟩
    · cases h
  · cases h
theorem pd_tupRg (hc : X.calm = true) (hm : X.mg "tuple" = none) (hm2 : X.mg "range" = none) (he : PD X e f) (hg : Gl X "tuple" := by rfl) (hg2 : Gl X "range" := by rfl) (hs : starEach [e] X.env = (false, eval e X.env) :: starEach [] X.env := by rfl)
    (hz : starEach [.Call (.Name "range" zp) [e] [] q] X.env = (false, eval (.Call (.Name "range" zp) [e] [] q) X.env) :: starEach [] X.env := by rfl) :
    PD X (.Call (.Name "tuple" p) [.Call (.Name "range" zp) [e] [] q] [] pos) (eTupRg f) := by
  obtain ⟨t, ht, k⟩ := he
  refine ⟨_, pe_tupRg hc hg hm (prg_1 hg2 hm2 ht hs) hz, fun σ H F ρ g pre d g' ev Q qq => ?_⟩
  obtain ⟨x, g1, e1, ev⟩ := mb_inv ev
  obtain ⟨e3, rfl⟩ := ml_inv ev
  obtain ⟨l, e4, rfl⟩ := Option.map_eq_some_iff.mp e3
  obtain ⟨n, rfl, n0, n1, rfl⟩ := upD_inv e4
  refine k σ H F ρ g pre _ _ e1 _ fun v H1 F1 s1 r1 => ?_
  rw [rp_int r1]
  refine ⟨n, rfl, RgOk.of_le (Int.le_refl 0) n1 (by decide) n0, fun w hw => ?_⟩
  rw [rgV_upto]
  exact qq _ _ _ (s1.trans (.alloc s1.sub s1.rep hw)) (rp_new_tup (s1.sub.free hw) (by rw [List.length_map, upto_len, sizeLine_eq]; omega) (RpA.ofInts _))
theorem po_lstRg (hc : X.calm = true) (hm : X.mg "list" = none) (hm2 : X.mg "range" = none) (he : PD X e f) (hg : Gl X "list" := by rfl) (hg2 : Gl X "range" := by rfl) (hs : starEach [e] X.env = (false, eval e X.env) :: starEach [] X.env := by rfl)
    (hz : starEach [.Call (.Name "range" zp) [e] [] q] X.env = (false, eval (.Call (.Name "range" zp) [e] [] q) X.env) :: starEach [] X.env := by rfl) :
    PO X (.Call (.Name "list" p) [.Call (.Name "range" zp) [e] [] q] [] pos) (aLstRg f) := by
  obtain ⟨t, ht, k⟩ := he
  refine ⟨_, pe_listRg hc hg hm (prg_1 hg2 hm2 ht hs) hz, fun σ H F ρ g pre d g' ev Q qq => ?_⟩
  obtain ⟨x, g1, e1, ev⟩ := mb_inv ev
  obtain ⟨e4, rfl⟩ := ml_inv ev
  obtain ⟨n, rfl, n0, n1, rfl⟩ := upD_inv e4
  refine k σ H F ρ g pre _ _ e1 _ fun v H1 F1 s1 r1 => ?_
  rw [rp_int r1]
  refine ⟨n, rfl, RgOk.of_le (Int.le_refl 0) n1 (by decide) n0, fun w hw => ?_⟩
  rw [rgV_upto]
  exact qq w _ F1 _ (s1.trans (.allocO s1.sub s1.rep hw)) (s1.mono _ hw) (s1.sub.free hw) (s1.rep.out hw) upd_same (by rw [List.length_map, upto_len, sizeLine_eq]; omega) (RpA.ofInts _)
end
end PD
end
section
set_option Elab.async false
set_option linter.all false
set_option maxRecDepth 100000
set_option maxHeartbeats 4000000
set_option autoImplicit false
namespace PD
open PySem PySem.Spec L2
open PyProof.Rows hiding St
variable [Live]
/-! ### y = [.. for .. for ..], y a list of one's own -/
section
variable {X : Cx} {elt tg iter tg1 iter1 : Expr} {ifs ifs1 : List Expr} {scope : Scope} {it it1 : EA} {bd bd1 : B} {t t1 : T} {f : E} {sl sl1 : List Nat} {pos : Pos}
end
/-! ### xs[::k], k from 1 on -/
def stepL {α : Type} (k : Int) (l : List α) : List α := (sliceRange 0 l.length k).filterMap (l[·]?)
def stepD (x y : D) : Option (List D) := match x, y with
  | .lst l, .int k => if 1 ≤ k then some (stepL k l) else none
  | _, _ => none
def aStep (f fs : E) : EA := fun ρ => mb (f ρ) fun x => mb (fs ρ) fun y => ml (stepD x y)
@[simp] theorem aStep_ap (f fs : E) (ρ : Rho) (g : G) : aStep f fs ρ g = (f ρ g).bind fun p => (fs ρ p.2).bind fun q => (stepD p.1 q.1).map fun d => (d, q.2) := by simp [aStep]
/-! ### xs[::-1] -/
def revD (x : D) : Option (List D) := match x with
  | .lst l => some l.reverse
  | _ => none
def aRev (f : E) : EA := fun ρ => mb (f ρ) fun x => ml (revD x)
@[simp] theorem aRev_ap (f : E) (ρ : Rho) (g : G) : aRev f ρ g = (f ρ g).bind fun p => (revD p.1).map fun d => (d, p.2) := by simp [aRev]
theorem rpA_rev {K : PySem.W.Frag} {F : Fz} {vs : List V} {ds : List D} (r : RpA K F vs ds) : RpA K F vs.reverse ds.reverse := by
  have go : ∀ {vs : List V} {ds : List D} {us : List V} {es : List D}, RpA K F vs ds → RpA K F us es → RpA K F (vs.reverseAux us) (ds.reverseAux es) := by
    intro vs
    induction vs with
    | nil =>
      intro ds us es h1 h2
      cases h1
      exact h2
    | cons v vs ih =>
      intro ds us es h1 h2
      cases h1 with
      | cons a b =>
        have z := ih b (RpA.cons a h2)
        exact z
  exact go r .nil
theorem po_rev {X : Cx} {e : Expr} {f : E} {k : Nat} {p1 p2 p3 pos : Pos} (he : PD X e f) : PO X (.Subscript e (.Slice none none (some (.UnaryOp .USub (.Constant (.int 1) k p1) p2)) p3) pos) (aRev f) := by
  obtain ⟨t, ht, k⟩ := he
  refine ⟨_, pe_revL ht, fun σ H F ρ g pre d g' ev Q qq => ?_⟩
  obtain ⟨x, g1, e1, ev⟩ := mb_inv ev
  obtain ⟨e3, rfl⟩ := ml_inv ev
  unfold revD at e3
  split at e3
  · cases e3
    refine k σ H F ρ g pre _ _ e1 _ fun v H1 F1 s1 r1 => ?_
    obtain ⟨a, xs, rfl, h1, h2, h3⟩ := rp_lst r1
    refine ⟨a, xs, rfl, sqL_mono s1.sub h1, fun w hw => ?_⟩
    exact qq w _ F1 _ (s1.trans (.allocO s1.sub s1.rep hw)) (s1.mono _ hw) (s1.sub.free hw) (s1.rep.out hw) upd_same (by rw [List.length_reverse]; exact h2) (rpA_rev h3)
  · cases e3
end PD
end
section
set_option Elab.async false
set_option linter.all false
set_option maxRecDepth 100000
set_option maxHeartbeats 4000000
set_option autoImplicit false
/-! ### list(zip(..)) of two tuples -/
namespace PD
open PySem
variable [Live]
section
variable {prog : Program} {w : World} {A : Around} {E : Value → Shared → Prop} {s : Shared} {zz ti to j1 j2 p1 p2 d : Addr} {us vs : Array Value}
end
end PD
end
section
set_option Elab.async false
set_option linter.all false
set_option maxRecDepth 100000
set_option maxHeartbeats 4000000
set_option autoImplicit false
namespace PD
open PySem PySem.Spec L2
open PyProof.Rows hiding St
variable [Live]
/-! ### dict(list(zip(names, values)) + list(zip(names, values))) -/
def pairO (u v : Value) : Obj := { cls := .type "tuple", data := .seq #[u, v] }
/-- a new list of pairs stands at L -/
def LZ (xs : List Str) (ys : List V) (L : Addr) (acc : Array Value) (news : List (Addr × Obj)) : Prop := acc.size = xs.length ∧ xs.length = ys.length ∧ xs.length ≤ sizeLine ∧ (∃ c, (L, ({ cls := .type "list", data := .seq acc c } : Obj)) ∈ news) ∧
  ∀ (j : Nat) (x : Str) (y : V), xs[j]? = some x → ys[j]? = some y → ∃ (T : Addr) (t : Tok) (v : Value), acc[j]? = some (Value.ref T) ∧ RelV y v ∧ (T, pairO (.str x t) v) ∈ news
theorem LZ.mono {xs : List Str} {ys : List V} {L : Addr} {acc : Array Value} {news news' : List (Addr × Obj)} (h : LZ xs ys L acc news) (k : ∀ p ∈ news, p ∈ news') : LZ xs ys L acc news' := by
  obtain ⟨h1, h2, h3, ⟨c, h4⟩, h5⟩ := h
  refine ⟨h1, h2, h3, ⟨c, k _ h4⟩, fun j x y a b => ?_⟩
  obtain ⟨T, t, v, q1, q2, q3⟩ := h5 j x y a b
  exact ⟨T, t, v, q1, q2, k _ q3⟩
section
variable {X : Cx} {e e2 e3 e4 : Expr} {ta tb : TA} {p zp q pos p' zp' q' pos' dp dpos bpos : Pos}
end
end PD
end
section
set_option Elab.async false
set_option linter.all false
set_option maxRecDepth 100000
set_option maxHeartbeats 4000000
set_option autoImplicit false
namespace PD
open PySem PySem.Spec L2
open PyProof.Rows hiding St
variable [Live]
/-! ### dict(list(zip(..)) + list(zip(..))) by data -/
def dz2D (ds es : List D) : Option (List Key × List D) := match ds, es with
  | [.tup l, .tup m], [.tup l', .tup m'] => if l.length = m.length ∧ l'.length = m'.length ∧ l.length + l'.length ≤ sizeLine then (strsD l).bind fun xs => (strsD l').map fun ys => mergeD ([], []) (xs.map Sum.inr ++ ys.map Sum.inr) (m ++ m') else none
  | _, _ => none
def eDz2 (fs gs : EA) : EK := fun ρ => mb (fs ρ) fun ds => mb (gs ρ) fun es => ml (dz2D ds es)
@[simp] theorem eDz2_ap (fs gs : EA) (ρ : Rho) (g : G) : eDz2 fs gs ρ g = (fs ρ g).bind fun p => (gs ρ p.2).bind fun q => (dz2D p.1 q.1).map fun r => (r, q.2) := by
  unfold eDz2
  rw [mb_ap]
  congr 1
  funext p
  rw [mb_ap]
  congr 1
  funext q
  exact ml_ap _ _
section
variable {X : Cx} {a e e2 e3 e4 : Expr} {f fa : E} {fs gs : EA} {p zp q pos p' zp' q' pos' dp dpos bpos : Pos}
end
/-! ### tuple(list of texts), known whole -/
section
variable {X : Cx} {e : Expr} {fs : EA} {p pos : Pos}
end
/-! ### dict(pairs) whose keys are tuples of ints -/
def kI (ns : List Int) : List Key := ns.map Sum.inl
def intsD : List D → Option (List Int)
  | [] => some []
  | .int i :: l => (intsD l).map (i :: ·)
  | _ => none
theorem intsD_ok : ∀ {l : List D} {ns : List Int}, intsD l = some ns → l = ns.map D.int
  | [], ns, e => by cases e; rfl
  | .int i :: l, ns, e => by
    obtain ⟨ms, h1, rfl⟩ := Option.map_eq_some_iff.mp (show (intsD l).map (i :: ·) = some ns from e)
    rw [intsD_ok h1]
    rfl
  | .non :: _, ns, e => by cases e
  | .bl _ :: _, ns, e => by cases e
  | .str _ :: _, ns, e => by cases e
  | .tup _ :: _, ns, e => by cases e
  | .lst _ :: _, ns, e => by cases e
  | .dk _ _ :: _, ns, e => by cases e
  | .dt _ _ :: _, ns, e => by cases e
  | .hd _ :: _, ns, e => by cases e
  | .tx _ :: _, ns, e => by cases e
theorem intsD_map (ns : List Int) : intsD (ns.map .int) = some ns := by
  induction ns with
  | nil => rfl
  | cons n ns ih =>
    show (intsD (ns.map .int)).map (n :: ·) = _
    rw [ih]
    rfl
section
variable {X : Cx} {a b e : Expr} {fa fb : E} {fs : EA} {p pos : Pos} {k : Nat}
end
/-! ### d[t], t in d -/
def lookT (ks : List (List Key)) (l : List D) (k : List Key) : Option D := match ks, l with
  | k' :: ks, d :: l => if k' = k then some d else lookT ks l k
  | _, _ => none
def getT (x y : D) : Option D := match x, y with
  | .dt ks l, .tup m => (intsD m).bind fun ns => lookT ks l (kI ns)
  | _, _ => none
end PD
end
section
set_option Elab.async false
set_option linter.all false
set_option maxRecDepth 100000
set_option maxHeartbeats 4000000
set_option autoImplicit false
namespace PD
open PySem PySem.Spec L2
open PyProof.Rows hiding St
variable [Live]
/-! ### things of the store, looked at as they are -/
def optA (f : D → Option D) : List D → Option (List D)
  | [] => some []
  | d :: l => (f d).bind fun x => (optA f l).map (x :: ·)
/-- lists of the store in the place of their handles -/
def rsv : Nat → G → D → Option D
  | 0, _, d => some d
  | k + 1, g, d => match d with
    | .hd n => match g[n]? with
      | some (.ml l) => (optA (rsv k g) l).map .lst
      | _ => none
    | .lst l => (optA (rsv k g) l).map .lst
    | .tup l => (optA (rsv k g) l).map .tup
    | d => some d
def allF (F : Fz) (H : Hp) : Fz := ⟨H, F.mu⟩
theorem ext_all {F : Fz} {H : Hp} (s : Same F.h H) : Ext F (allF F H) := ⟨s, List.prefix_refl _⟩
theorem rpA_opt {K : PySem.W.Frag} {F W : Fz} {f : D → Option D} (h : ∀ v d d', Rp K F v d → f d = some d' → Rp K W v d') : ∀ {l l' : List D} {vs : List V}, RpA K F vs l → optA f l = some l' → RpA K W vs l'
  | [], l', vs, r, e => by cases r; cases e; exact .nil
  | d :: l, l', vs, r, e => by
    obtain ⟨x, e1, e2⟩ := Option.bind_eq_some_iff.mp e
    obtain ⟨m, e3, rfl⟩ := Option.map_eq_some_iff.mp e2
    cases r with
    | cons r0 rr => exact .cons (h _ _ _ r0 e1) (rpA_opt h rr e3)
theorem rp_rsv {K : PySem.W.Frag} {F : Fz} {H : Hp} {g : G} (s : Same F.h H) (r : GRep K g F H) : ∀ (k : Nat) (v : V) (d d' : D), Rp K F v d → rsv k g d = some d' → Rp K (allF F H) v d'
  | 0, v, d, d', h, e => by cases e; exact h.mono (ext_all s)
  | k + 1, v, d, d', h, e => by
    have ih := rp_rsv s r k
    unfold rsv at e
    split at e
    · rename_i n
      split at e
      · rename_i l hg
        obtain ⟨l', e1, rfl⟩ := Option.map_eq_some_iff.mp e
        obtain ⟨a, hm, _, vs, h3, h4, h5⟩ := r.get hg
        have := rp_hd h hm
        subst this
        exact .lst (.of h3) h4 (rpA_opt ih h5 e1)
      · cases e
    · obtain ⟨l', e1, rfl⟩ := Option.map_eq_some_iff.mp e
      obtain ⟨a, xs, rfl, h1, h2, h3⟩ := rp_lst h
      exact .lst (sqL_mono s h1) h2 (rpA_opt ih h3 e1)
    · obtain ⟨l', e1, rfl⟩ := Option.map_eq_some_iff.mp e
      obtain ⟨a, xs, rfl, h1, h2, h3⟩ := rp_tup h
      exact .tup (sqT_mono s h1) h2 (rpA_opt ih h3 e1)
    · cases e
      exact h.mono (ext_all s)
def rs2 (h : D → D → Option Bool) (g : G) (x y : D) : Option Bool := (rsv 4 g x).bind fun x' => (rsv 4 g y).bind fun y' => h x' y'
def tCmpR (h : D → D → Option Bool) (a b : E) : T := fun ρ => mb (a ρ) fun x => mb (b ρ) fun y => fun g => (rs2 h g x y).map fun r => (r, g)
def eCmpR (h : D → D → Option Bool) (a b : E) : E := fun ρ => mb (a ρ) fun x => mb (b ρ) fun y => fun g => (rs2 h g x y).map fun r => (.bl r, g)
@[simp] theorem tCmpR_ap (h : D → D → Option Bool) (a b : E) (ρ : Rho) (g : G) : tCmpR h a b ρ g = (a ρ g).bind fun p => (b ρ p.2).bind fun q => (rs2 h q.2 p.1 q.1).map fun r => (r, q.2) := by
  refine (mb_ap _ _ _).trans ?_
  congr 1
  funext p
  exact mb_ap _ _ _
@[simp] theorem eCmpR_ap (h : D → D → Option Bool) (a b : E) (ρ : Rho) (g : G) : eCmpR h a b ρ g = (a ρ g).bind fun p => (b ρ p.2).bind fun q => (rs2 h q.2 p.1 q.1).map fun r => (.bl r, q.2) := by
  refine (mb_ap _ _ _).trans ?_
  congr 1
  funext p
  exact mb_ap _ _ _
def eBiR (h : List D → Option D) (as : EA) : E := fun ρ => mb (as ρ) fun ds => fun g => ((optA (rsv 4 g) ds).bind h).map fun d => (d, g)
@[simp] theorem eBiR_ap (h : List D → Option D) (as : EA) (ρ : Rho) (g : G) : eBiR h as ρ g = (as ρ g).bind fun p => ((optA (rsv 4 p.2) p.1).bind h).map fun d => (d, p.2) := by
  exact mb_ap _ _ _
section
variable {X : Cx} {a b e : Expr} {es : List Expr} {fa fb f : E} {fs : EA} {x : Str} {p pos q : Pos} {id T : String} {k : Nat}
theorem pdt_cmpR {op : CmpOp} {r : R2} {h : D → D → Option Bool} (ho : OpR X (compareOp op) r) (hh : OpB X.K r h) (ha : PD X a fa) (hb : PD X b fb) (hm : behindInMarks op b = false := by first | exact nomark _ | rfl) :
    PDT X (.Compare a [op] [b] pos) (tCmpR h fa fb) := by
  obtain ⟨ta, pa, ka⟩ := ha
  obtain ⟨tb, pb, kb⟩ := hb
  refine ⟨_, pt_cmpR ho pa pb hm, fun σ H F ρ g pre d g' e Q q => ?_⟩
  obtain ⟨dx, g1, e1, e⟩ := mb_inv e
  obtain ⟨dy, g2, e2, e⟩ := mb_inv e
  obtain ⟨b, e4, e5⟩ := Option.map_eq_some_iff.mp e
  cases e5
  obtain ⟨x', e6, e7⟩ := Option.bind_eq_some_iff.mp e4
  obtain ⟨y', e8, e9⟩ := Option.bind_eq_some_iff.mp e7
  refine ka σ H F ρ g pre dx g1 e1 _ fun x H1 F1 s1 r1 => ?_
  refine kb σ H1 F1 ρ g1 (pre.step s1) dy _ e2 _ fun y H2 F2 s2 r2 => ?_
  exact hh (allF F2 H2) H2 x y x' y' _ (Same.refl _) (rp_rsv s2.sub s2.rep 4 _ _ _ (r1.mono s2.ext) e6) (rp_rsv s2.sub s2.rep 4 _ _ _ r2 e8) e9 _ ⟨_, rfl, q H2 F2 (s1.trans s2)⟩
theorem pd_biR {r : List V → Hp → VK → Prop} {h : List D → Option D} (hc : CallR X (.builtin id) r) (hh : CallB X.K r h) (hm : X.mg x = none) (ha : PDA X (e :: es) fs) (hv : bootBuiltins x = some (.builtin id) := by decide +kernel) (hg : Gl X x := by rfl) (hn : x ≠ "__name__" := by decide)
    (hdb : (x == ("__debug__" : Str)) = false := by decide) (he : starEach (e :: es) X.env = (false, eval e X.env) :: starEach es X.env := by rfl) (hpl : (backTo pos (starEach es X.env)).any (·.1) = false := by rfl) :
    PD X (.Call (.Name x p) (e :: es) [] pos) (eBiR h fs) := by
  obtain ⟨t, ht, k⟩ := ha
  refine ⟨_, pe_callB hc hg hm hv ht hn hdb he hpl, fun σ H F ρ g pre d g' e Q q => ?_⟩
  obtain ⟨ds, g1, e1, e⟩ := mb_inv e
  obtain ⟨b, e4, e5⟩ := Option.map_eq_some_iff.mp e
  cases e5
  obtain ⟨ds', e6, e7⟩ := Option.bind_eq_some_iff.mp e4
  refine k σ H F ρ g pre ds _ e1 _ fun vs H1 F1 s1 r1 => ?_
  exact hh (allF F1 H1) H1 vs ds' d (Same.refl _) (rpA_opt (rp_rsv s1.sub s1.rep 4) r1 e6) e7 Q fun v rv => q v H1 F1 s1 (rv F1)
theorem pd_lenR (hm : X.mg "len" = none) (ha : PDA X [e] fs) (hg : Gl X "len" := by rfl) (he : starEach [e] X.env = (false, eval e X.env) :: starEach [] X.env := by rfl) : PD X (.Call (.Name "len" p) [e] [] pos) (eBiR lenD fs) :=
  pd_biR call_lenA lenD_ok hm ha (by decide +kernel) hg (by decide) (by decide) he (by rfl)
def eIsiR (T : Ty) (f : E) : E := fun ρ => mb (f ρ) fun d => fun g => ((rsv 1 g d).bind fun d' => (isiD T d').map .bl).map fun d => (d, g)
@[simp] theorem eIsiR_ap (T : Ty) (f : E) (ρ : Rho) (g : G) : eIsiR T f ρ g = (f ρ g).bind fun p => ((rsv 1 p.2 p.1).bind fun d' => (isiD T d').map .bl).map fun d => (d, p.2) := by
  exact mb_ap _ _ _
end
/-! ### x.append(e) of a list of the store -/
section
variable {X : Cx} {e : Expr} {f : E} {x : Str} {p pos ap cp : Pos}
end
/-! ### for over a list of the store that stays as it is -/
open Classical in
section
variable {X : Cx} {tg iter c : Expr} {body : List Stmt} {f : E} {sl : List Nat} {bd : B} {b : S} {tc : T} {pos : Pos}
end
/-! ### s.split(one sign) -/
def splC (c : Nat) : List Nat → List Nat → List (List Nat)
  | acc, [] => [acc]
  | acc, d :: r => if d = c then acc :: splC c [] r else splC c (acc ++ [d]) r
def splD (c : Nat) (d : D) : Option (List D) := match d with
  | .str x => if x.length + 2 ≤ sizeLine then some ((splC c [] (cs x)).map fun l => .str (ofCs l)) else none
  | _ => none
def aSplit (c : Nat) (f : E) : EA := fun ρ => mb (f ρ) fun d => ml (splD c d)
@[simp] theorem aSplit_ap (c : Nat) (f : E) (ρ : Rho) (g : G) : aSplit c f ρ g = (f ρ g).bind fun p => (splD c p.1).map fun l => (l, p.2) := by
  unfold aSplit
  rw [mb_ap]
  congr 1
  funext p
  exact ml_ap _ _
section
variable {X : Cx} {e : Expr} {f : E} {ap cp sp : Pos} {j : Nat}
end
end PD
end
section
set_option Elab.async false
set_option linter.all false
set_option maxRecDepth 100000
set_option maxHeartbeats 4000000
set_option autoImplicit false
/-! ### own exception classes over a built-in one, whose __init__ sets one field -/
namespace PD
open PySem PySem.Spec L2 PySem.W PySem.Calls
open Builtin Builtin.ObjectAttr
open PyProof.Rows hiding St
variable [Live]
structure XBase (B newId initId : String) (tail : List Value) : Prop where
  ef : ExcBaseFacts B newId initId tail
  ps : ∀ self : Value, refuseLoop self "__setattr__" tail = pure ()
  ob : tail.contains (.type "object") = true
  ne : tail.isEmpty = false
abbrev tailV : List Value := [.type "ValueError", .type "Exception", .type "BaseException", .type "object"]
abbrev tailL : List Value := [.type "LookupError", .type "Exception", .type "BaseException", .type "object"]
abbrev tailA : List Value := [.type "ArithmeticError", .type "Exception", .type "BaseException", .type "object"]
abbrev mroB (own : List Addr) (tail : List Value) : List Value := own.map Value.ref ++ tail
structure OexB (K : PySem.W.Frag) (C : Addr) (tail : List Value) (newId : String) : Prop where
  cls : ∃ nm q N bs own sn sub ab col dd k0 k1 k2 k3 k5, K.lookup C = some (excClassObj nm q C N bs (mroB own tail) true sn sub ab col dd k0 k1 k2 k3 k5 newId)
  sa : PySem.W.findIn K (.ref C) "__setattr__" = some (some (.builtin "object.__setattr__"))
  exC : PySem.W.subIn K (.ref C) (.type "BaseException") = some true
  tyC : PySem.W.typeIn K (.ref C) = some (.type "type")
  kC : PySem.W.keepIn K (.ref C) = true
section
variable {P : Program} {w : World} {A : Around} {R : Result → Shared → Prop} {h0 : Heap} {g : Array GenState} {d : Drawn} {t : Nat} {os : OsState}
end
section
variable {X : Cx} {pins : List (Addr × Obj)} {σ : St} {H : Hp} {s : Shared} {a C : Addr} {f : Str} {y : V} {u : Value} {tail : List Value} {newId : String} {Q : Unit → Shared → Prop} {E : Value → Shared → Prop} {A : Around}
end
/-- what the __init__ of such a class keeps -/
def spI (C : Addr) (f : Str) : Sp := fun vs H Q _ => ∃ (a : Addr) (y : V), vs = [.ref a, y] ∧ H a = some (exo a C none) ∧ ∀ dx, H dx = none → dx ≠ a → Q .non (upd (upd H dx (exd dx [(f, y)])) a (exo a C (some dx)))
end PD
end
section
set_option Elab.async false
set_option linter.all false
set_option maxRecDepth 100000
set_option maxHeartbeats 4000000
set_option autoImplicit false
/-! ### such an exception made: by place, to be raised; by keyword, to be kept -/
namespace PD
open PySem PySem.Spec L2 PySem.W PySem.Calls
open Builtin Builtin.ObjectAttr
open PyProof.Rows hiding St
variable [Live]
section
variable {X : Cx} {C fI : Addr} {x : Str} {e : Expr} {es : List Expr} {ta : TA} {p pos : Pos} {tail : List Value} {B newId initId : String} {k : Nat} {fd : FuncData} {ps : List Str} {sp : Sp}
end
/-! ### by keyword -/
section
variable {P : Program} {w : World} {A : Around} {E : Value → Shared → Prop} {R : Result → Shared → Prop} {h : Heap} {g : Array GenState} {d : Drawn} {t : Nat} {os : OsState}
variable {nm q : Str} {C N : Addr} {bs tail : List Value} {own : List Addr} {sn : List Str} {sub : List Value} {ab : Bool} {col : Option Bool} {dd : Option Addr} {k0 k1 k2 k3 k5 : Option Value} {B newId initId : String} {x : Str} {v : Value}
end
end PD
end
section
set_option Elab.async false
set_option linter.all false
set_option maxRecDepth 100000
set_option maxHeartbeats 4000000
set_option autoImplicit false
/-! ### exceptions by data: made, raised, let out of a def, caught -/
namespace PD
open PySem PySem.Spec L2 PySem.W PySem.Calls
open PyProof.Rows hiding St
variable [Live]
/-- the class nm, its one field f -/
structure XCls (P : Program) (w : World) (K : PySem.W.Frag) (mg : Str → Option Value) (base : Heap) (nm f x : Str) : Prop where
  ex : ∃ (B newId initId : String) (tail : List Value) (fI : Addr) (fd : FuncData), XBase B newId initId tail ∧ OexB K (He.ga K nm) tail newId ∧ mg nm = some (.ref (He.ga K nm)) ∧
    findIn K (.ref (He.ga K nm)) "__init__" = some (some (.ref fI)) ∧ typeIn K (.ref fI) = some (.type "function") ∧ FnOk P w K mg base CX0 1 fI fd ["self", x] (spI (He.ga K nm) f) ∧ Binds K fd ["self", x] [] ∧
    ∀ (s : Shared) (u v : Value), BindsTo s fd ⟨[u], [(x, v)]⟩ [("self", u), (x, v)]
/-! ### C(f = e), kept -/
def eNew (nm f : Str) (fe : E) : E := fun ρ => mb (fe ρ) fun v => fun g => some (.hd g.length, g ++ [.mx nm f v])
@[simp] theorem eNew_ap (nm f : Str) (fe : E) (ρ : Rho) (g : G) : eNew nm f fe ρ g = (fe ρ g).map fun p => (.hd p.2.length, p.2 ++ [.mx nm f p.1]) := by
  refine (mb_ap _ _ _).trans ?_
  cases fe ρ g <;> rfl
section
variable {X : Cx} {nm f x : Str} {e : Expr} {fe : E} {p pos kp : Pos} {k : Nat}
end
/-! ### raise C(e) -/
def sRaise (nm f : Str) (fe : E) : S := fun ρ => mb (fe ρ) fun v => mr (.xc nm f v ρ)
@[simp] theorem sRaise_ap (nm f : Str) (fe : E) (ρ : Rho) (g : G) : sRaise nm f fe ρ g = (fe ρ g).map fun p => (.xc nm f p.1 ρ, p.2) := by
  refine (mb_ap _ _ _).trans ?_
  cases fe ρ g <;> rfl
section
variable {X : Cx} {nm f x : Str} {e : Expr} {fe : E} {p pos pos' : Pos} {k : Nat}
end
end PD
end
section
set_option Elab.async false
set_option linter.all false
set_option maxRecDepth 100000
set_option maxHeartbeats 4000000
set_option autoImplicit false
namespace PD
open PySem PySem.Spec L2 PySem.W PySem.Calls
open PyProof.Rows hiding St
variable [Live]
/-! ### a def that may raise -/
inductive Rx where
  | ok (d : D) | xc (nm f : Str) (d : D)
def spX (K : PySem.W.Frag) (n : Nat) (f : List D → M Rx) : Sp := fun vs H Q E => ∃ (F : Fz) (g : G) (ds : List D) (r : Rx) (g' : G), ds.length = n ∧ Same F.h H ∧ GRep K g F H ∧ RpA K F vs ds ∧ f ds g = some (r, g') ∧ match r with
  | .ok d => ∀ v H' F', Stp K g g' F F' H H' → Rp K F' v d → Q v H'
  | .xc nm fl d => ∀ (dd : Addr) (v : V) H' F', Stp K g g' F F' H H' → F'.h dd = some (.xd [(fl, v)]) → Rp K F' v d → E (.ref (He.ga K nm)) (some dd) H'
structure FnX (P : Program) (w : World) (K : PySem.W.Frag) (mg : Str → Option Value) (base : Heap) (k : Nat) (x : Str) (n : Nat) (f : List D → M Rx) : Prop where
  ex : ∃ (a : Addr) (fd : FuncData) (ps : List Str), mg x = some (.ref a) ∧ keepIn K (.ref a) = true ∧ Binds K fd ps [] ∧ FnG P w K mg base (L2N.CX P w) k a fd ps (spX K n f)
section
variable {X : Cx} {CX : CXT} {k : Nat} {f : Addr} {fd : FuncData} {ps : List Str} {sp : Sp} {E : L2.St → XK} {x : Str} {p pos : Pos} {e : Expr} {es : List Expr} {t : TA}
end
/-- f(e, ..) as a statement, f may raise -/
def sExprX (F : List D → M Rx) (fs : EA) : S := fun ρ => mb (fs ρ) fun ds => mb (F ds) fun r => match r with
  | .ok _ => mr (.nx ρ)
  | .xc nm f d => mr (.xc nm f d ρ)
def exK1 (ρ : Rho) : Rx × G → Option (Fl × G)
  | (.ok _, g) => some (.nx ρ, g)
  | (.xc nm f d, g) => some (.xc nm f d ρ, g)
@[simp] theorem exK1_ok (ρ : Rho) (d : D) (g : G) : exK1 ρ (.ok d, g) = some (.nx ρ, g) := rfl
@[simp] theorem exK1_xc (ρ : Rho) (nm f : Str) (d : D) (g : G) : exK1 ρ (.xc nm f d, g) = some (.xc nm f d ρ, g) := rfl
@[simp] theorem sExprX_ap (F : List D → M Rx) (fs : EA) (ρ : Rho) (g : G) : sExprX F fs ρ g = (fs ρ g).bind fun p => (F p.1 p.2).bind (exK1 ρ) := by
  refine (mb_ap _ _ _).trans ?_
  congr 1
  funext p
  refine (mb_ap _ _ _).trans ?_
  congr 1
  funext q
  obtain ⟨r, g⟩ := q
  cases r <;> rfl
/-! ### try: .. except C as n: .. -/
/-- a clause: which classes it takes, its name's slot, its suite -/
structure Cl where
  tab : Str → Option Bool
  i : Nat
  su : S
def goneF (i : Nat) : Fl → Option Fl
  | .nx ρ => some (.nx (ρ.set i none))
  | .bk ρ => some (.bk (ρ.set i none))
  | .ct ρ => some (.ct (ρ.set i none))
  | .rt d => some (.rt d)
  | .xc _ _ _ _ => none
def hX (nm f : Str) (d : D) : List Cl → S
  | [] => fun _ => mz
  | c :: r => fun ρ g => match c.tab nm with
    | some true => (c.su (setR ρ c.i (.hd g.length)) (g ++ [.mx nm f d])).bind fun q => (goneF c.i q.1).map fun fl => (fl, q.2)
    | some false => hX nm f d r ρ g
    | none => none
def sTry (b : S) (cl : List Cl) : S := fun ρ => mb (b ρ) fun fl => match fl with
  | .xc nm f d ρ' => hX nm f d cl ρ'
  | fl => mr fl
/-- the suite of a clause: the exception at a is kept -/
def PDSA (X : Cx) (a : Addr) (st : List Stmt) (f : S) : Prop := ∃ t, PSs X st t ∧ ∀ en σ H F ρ g, PreS X.K en F H g ρ σ → (∃ C dd, H a = some (exK a C dd)) → ∀ fl g', f ρ g = some (fl, g') → ∀ De : Ends, Post X en g' De fl → t De σ H
inductive HdsX (X : Cx) : List ExceptHandler → List Cl → Prop
  | nil : HdsX X [] []
  | cons {x n : Str} {c : Value} {cl : Cl} {b₀ : Stmt} {suite : List Stmt} {np pos' : Pos} {hds : List ExceptHandler} {l : List Cl} (hc : Names X x c) (ht : ∀ nm b, cl.tab nm = some b → exmOne X.K (.ref (He.ga X.K nm)) c = some b)
      (hi : X.N[cl.i]? = some n) (hln : X.env.kindOf n = some .local) (hsu : ∀ (a : Addr) (pn : List (Addr × Obj)), PDSA (X.suite a pn) a (b₀ :: suite) cl.su) (r : HdsX X hds l) :
      HdsX X (.ExceptHandler (some (.Name x np)) (some n) (b₀ :: suite) pos' :: hds) (cl :: l)
section
variable {X : Cx} {pins : List (Addr × Obj)} {σ : L2.St} {H : Hp} {s sI s' : Shared} {B : Heap}
end
end PD
end
section
set_option Elab.async false
set_option linter.all false
set_option maxRecDepth 100000
set_option maxHeartbeats 4000000
set_option autoImplicit false
/-! ### an exception that is kept: isinstance, its field -/
namespace PD
open PySem PySem.Spec L2 PySem.W PySem.Calls
open PyProof.Rows hiding St
variable [Live]
@[simp] theorem sTry_ap (b : S) (cl : List Cl) (ρ : Rho) (g : G) : sTry b cl ρ g = (b ρ g).bind fun p => match p with
  | (.xc nm f d ρ', g') => hX nm f d cl ρ' g'
  | (.nx ρ', g') => some (.nx ρ', g')
  | (.rt d, g') => some (.rt d, g')
  | (.bk ρ', g') => some (.bk ρ', g')
  | (.ct ρ', g') => some (.ct ρ', g') := by
  refine (mb_ap _ _ _).trans ?_
  congr 1
  funext p
  obtain ⟨fl, g'⟩ := p
  cases fl <;> rfl
@[simp] theorem goneF_nx (i : Nat) (ρ : Rho) : goneF i (.nx ρ) = some (.nx (ρ.set i none)) := rfl
@[simp] theorem goneF_rt (i : Nat) (d : D) : goneF i (.rt d) = some (.rt d) := rfl
def isX (tab : Str → Option Bool) (g : G) (d : D) : Option D := match d with
  | .hd n => match g[n]? with
    | some (.mx nm _ _) => (tab nm).map .bl
    | _ => none
  | _ => none
def eIsX (tab : Str → Option Bool) (f : E) : E := fun ρ => mb (f ρ) fun d => fun g => (isX tab g d).map fun d => (d, g)
@[simp] theorem eIsX_ap (tab : Str → Option Bool) (f : E) (ρ : Rho) (g : G) : eIsX tab f ρ g = (f ρ g).bind fun p => (isX tab p.2 p.1).map fun d => (d, p.2) := mb_ap _ _ _
def atX (ok : Str → Bool) (f : Str) (g : G) (d : D) : Option D := match d with
  | .hd n => match g[n]? with
    | some (.mx nm f' v) => if f' = f ∧ ok nm = true then some v else none
    | _ => none
  | _ => none
def eAtX (ok : Str → Bool) (f : Str) (fe : E) : E := fun ρ => mb (fe ρ) fun d => fun g => (atX ok f g d).map fun d => (d, g)
@[simp] theorem eAtX_ap (ok : Str → Bool) (f : Str) (fe : E) (ρ : Rho) (g : G) : eAtX ok f fe ρ g = (fe ρ g).bind fun p => (atX ok f p.2 p.1).map fun d => (d, p.2) := mb_ap _ _ _
section
variable {X : Cx} {e : Expr} {fe : E} {y f : Str} {p q pos : Pos}
end
end PD
end
section
set_option Elab.async false
set_option linter.all false
set_option maxRecDepth 100000
set_option maxHeartbeats 4000000
set_option autoImplicit false
/-! ### what the head tells of the exceptions' classes -/
namespace PD
open PySem PySem.Spec L2 PySem.W PySem.Calls
open PyProof.Rows hiding St
variable [Live]
/-- the classes (name, field, family), the own and the built-in classes that are asked for -/
structure XT where
  cl : List (Str × Str × Nat)
  own : List Str
  blt : List (Str × String)
def tailOf : Nat → List Value
  | 0 => tailV
  | 1 => tailL
  | _ => tailA
def newOf : Nat → String
  | 0 => "ValueError.__new__"
  | 1 => "LookupError.__new__"
  | _ => "ArithmeticError.__new__"
structure ClsF (K : PySem.W.Frag) (nm f : Str) (k : Nat) : Prop where
  oex : OexB K (He.ga K nm) (tailOf k) (newOf k)
  init : findIn K (.ref (He.ga K nm)) "__init__" = some (some (.ref (He.ma K (He.ga K nm) "__init__")))
  fn : typeIn K (.ref (He.ma K (He.ga K nm) "__init__")) = some (.type "function")
  no : findIn K (.ref (He.ga K nm)) f = some none
  ec : ExcC K (He.ga K nm)
  xf : XfC K (He.ga K nm)
section
variable {T : XT} {K : PySem.W.Frag}
end
end PD
end
section
set_option Elab.async false
set_option linter.all false
set_option maxRecDepth 100000
set_option maxHeartbeats 4000000
set_option autoImplicit false
/-! ### x, y = n, 'text' in the suite of an except clause -/
namespace PD
open PySem PySem.Spec L2 PySem.W PySem.Calls
open PyProof.Rows hiding St
variable [Live]
section
variable {P : Program} {w : World} {A : Around} {E : Value → Shared → Prop} {s : Shared}
end
/-- x, y = n, 'text' -/
def sPair (i j1 j2 : Nat) (tx : Str) : S := fun ρ => mb (eVar i ρ) fun d => mr (.nx (setR (setR ρ j1 d) j2 (.str tx)))
@[simp] theorem sPair_ap (i j1 j2 : Nat) (tx : Str) (ρ : Rho) (g : G) : sPair i j1 j2 tx ρ g = (eVar i ρ g).map fun p => (.nx (setR (setR ρ j1 p.1) j2 (.str tx)), p.2) := by
  refine (mb_ap _ _ _).trans ?_
  cases eVar i ρ g <;> rfl
end PD
namespace PD
open PySem PySem.Spec L2
variable [Live]
/-! ### [..] * k -/
def repA (k : Int) (ds : List D) : Option (List D) := if ds.length * k.toNat ≤ sizeLine ∧ -(2 ^ 63) ≤ k ∧ k < 2 ^ 63 then some (List.replicate k.toNat ds).flatten else none
def aRep (k : Int) (fa : EA) : EA := fun ρ => mb (fa ρ) fun ds => ml (repA k ds)
@[simp] theorem aRep_ap (k : Int) (fa : EA) (ρ : Rho) (g : G) : aRep k fa ρ g = (fa ρ g).bind fun p => (repA k p.1).map fun ds => (ds, p.2) := by
  refine (mb_ap _ _ _).trans ?_
  congr 1
  funext p
  exact ml_ap _ _
end PD
end
section
set_option Elab.async false
set_option linter.all false
set_option maxRecDepth 100000
set_option maxHeartbeats 4000000
set_option autoImplicit false
/-! ### int(text), str(int), text.index(sign), text * k, a slice as a new list -/
namespace PD
open PySem PySem.Spec L2
open PyProof.Rows hiding St
variable [Live]
def eUn (h : D → Option D) (f : E) : E := fun ρ => mb (f ρ) fun d => ml (h d)
@[simp] theorem eUn_ap (h : D → Option D) (f : E) (ρ : Rho) (g : G) : eUn h f ρ g = (f ρ g).bind fun p => (h p.1).map fun d => (d, p.2) := by
  refine (mb_ap _ _ _).trans ?_
  congr 1
  funext p
  exact ml_ap _ _
section
variable {X : Cx} {e : Expr} {f : E} {p pos : Pos}
end
/-! ### text.index(sign) -/
section
variable {X : Cx} {a e : Expr} {fa f : E} {ap cp : Pos}
end
/-! ### text * k -/
/-! ### a slice, as a new list -/
def aSlL (fa : E) (fl fh : Rho → M (Option Int)) : EA := fun ρ => mb (fa ρ) fun x => mb (fl ρ) fun l => mb (fh ρ) fun h => ml (match x with
  | .lst xs => some (cutL xs l h)
  | _ => none)
@[simp] theorem aSlL_ap (fa : E) (fl fh : Rho → M (Option Int)) (ρ : Rho) (g : G) : aSlL fa fl fh ρ g = (fa ρ g).bind fun p => (fl ρ p.2).bind fun q => (fh ρ q.2).bind fun r => (match p.1 with
  | .lst xs => some (cutL xs q.1 r.1)
  | _ => none).map fun ds => (ds, r.2) := by
  refine (mb_ap _ _ _).trans ?_
  congr 1
  funext p
  refine (mb_ap _ _ _).trans ?_
  congr 1
  funext q
  refine (mb_ap _ _ _).trans ?_
  congr 1
  funext r
  exact ml_ap _ _
/-! ### {} -/
def eK0 : EK := fun _ => mr ([], [])
@[simp] theorem eK0_ap (ρ : Rho) (g : G) : eK0 ρ g = some (([], []), g) := rfl
theorem pk_nil {X : Cx} {pos : Pos} : PK X (.Dict [] [] pos) eK0 := ⟨_, pe_dnewK, fun σ H F ρ g pre r g' e Q q => by
  obtain ⟨rfl, rfl⟩ := mr_inv e
  exact fun p hp => q p _ F [] (.allocO pre.sub pre.rep hp) hp (pre.sub.free hp) (pre.rep.out hp) upd_same (Nat.zero_le _) rfl List.nodup_nil .nil⟩
end PD
end
section
set_option Elab.async false
set_option linter.all false
set_option maxRecDepth 100000
set_option maxHeartbeats 4000000
set_option autoImplicit false
/-! ### isinstance(e, (A, B)); repr of what has {} in it; t == (); t * k -/
namespace PD
open PySem PySem.Spec L2 PySem.W PySem.Calls
open PyProof.Rows hiding St
variable [Live]
/-! #### what has {} in it -/
mutual
def purE : D → Bool
  | .non => true
  | .bl _ => true
  | .int _ => true
  | .str _ => true
  | .tup l => purEA l
  | .lst l => purEA l
  | .dk ks l => ks.isEmpty && l.isEmpty
  | _ => false
def purEA : List D → Bool
  | [] => true
  | d :: l => purE d && purEA l
end
mutual
def toPyE : D → PyData
  | .non => .none
  | .bl b => .bool b
  | .int i => .int i
  | .str x => .str x
  | .tup l => .tuple (toPyEA l)
  | .lst l => .list (toPyEA l)
  | .dk _ _ => .dict []
  | _ => .none
def toPyEA : List D → List PyData
  | [] => []
  | d :: l => toPyE d :: toPyEA l
end
section
variable {X : Cx} {pins : List (Addr × Obj)} {σ : L2.St} {H : Hp} {s : Shared} {W : Fz}
end
/-! #### t == () -/
section
variable {X : Cx}
end
end PD
end
section
set_option Elab.async false
set_option linter.all false
set_option maxRecDepth 100000
set_option maxHeartbeats 4000000
set_option autoImplicit false
/-! ### t * k; isinstance(e, (A, B)) -/
namespace PD
open PySem PySem.Spec L2 PySem.W PySem.Calls
open PyProof.Rows hiding St
variable [Live]
/-! #### isinstance(e, (A, B)) -/
section
variable {X : Cx} {e : Expr} {fe : E} {p pos tpos : Pos}
end
/-! #### the head's facts, sys.modules among them -/
end PD
end
section
set_option Elab.async false
set_option linter.all false
set_option maxRecDepth 100000
set_option maxHeartbeats 4000000
set_option autoImplicit false
namespace PD
open PySem PySem.Spec L2
open PyProof.Rows hiding St
variable [Live]
/-! ### x += e of whole numbers -/
def sAug (i : Nat) (f : E) : S := fun ρ => mb (eVar i ρ) fun x => mb (f ρ) fun y => match x, y with
  | .int a, .int b => mr (.nx (setR ρ i (.int (a + b))))
  | _, _ => mz
section
variable {X : Cx} {e o a b : Expr} {f fa fb : E} {x : Str} {pos pos' ap cp : Pos} {k : Nat}
/-! ### d.get(k), d.get(k, x) -/
def getD1 (x y z : D) : Option D := match x with
  | .dk ks l => (keyD y).map fun k => (lookD ks l k).getD z
  | _ => none
def eGet (a b : E) : E := fun ρ => mb (a ρ) fun x => mb (b ρ) fun y => ml (getD1 x y .non)
def eGet2 (a b c : E) : E := fun ρ => mb (a ρ) fun x => mb (b ρ) fun y => mb (c ρ) fun z => ml (getD1 x y z)
theorem lookD_all {K : PySem.W.Frag} {F : Fz} {k : Key} : ∀ {kvs : List (Key × V)} {l : List D}, RpA K F (kvs.map (·.2)) l → (lookD (kvs.map (·.1)) l k = none ∧ valV kvs k = none) ∨ ∃ d v, lookD (kvs.map (·.1)) l k = some d ∧ valV kvs k = some v ∧ Rp K F v d
  | [], l, r => by cases r; exact .inl ⟨rfl, rfl⟩
  | (k', v) :: kvs, l, r => by
    cases r with
    | cons r rr =>
      simp only [List.map_cons, lookD]
      by_cases h : k' = k
      · rw [if_pos h]; exact .inr ⟨_, v, rfl, valV_pos h, r⟩
      · rw [if_neg h, valV_neg h]; exact lookD_all rr
theorem pd_get2 (hr : Room k X.A) (ha : PD X o fa) (hb : PD X e fb) (hc : PD X a f) (m : M2 X o "get" ap e a cp := by exact ⟨rfl, rfl, rfl, rfl⟩) : PD X (.Call (.Attribute o "get" ap) [e, a] [] cp) (eGet2 fa fb f) := by
  obtain ⟨ta, pa, ka⟩ := ha
  obtain ⟨tb, pb, kb⟩ := hb
  obtain ⟨tc, pc, kc⟩ := hc
  refine ⟨_, pe_dget2 (by have := hu66 hr; omega) pa pb pc m, fun σ H F ρ g pre d g' ev Q q => ?_⟩
  obtain ⟨dx, g1, e1, ev⟩ := mb_inv ev
  obtain ⟨dy, g2, e2, ev⟩ := mb_inv ev
  obtain ⟨dz, g3, e5, ev⟩ := mb_inv ev
  obtain ⟨e3, rfl⟩ := ml_inv ev
  refine ka σ H F ρ g pre dx g1 e1 _ fun v H1 F1 s1 r1 => ?_
  match dx, e3 with
  | .dk ks l, e3 =>
    obtain ⟨ky, e4, rfl⟩ := Option.map_eq_some_iff.mp e3
    obtain ⟨p, kvs, rfl, hd, rfl, hv⟩ := rp_dk r1
    refine ⟨p, rfl, .inl ⟨kvs, Rd.mono s1.sub hd⟩, kb σ H1 F1 ρ g1 (pre.step s1) dy _ e2 _ fun w H2 F2 s2 r2 => ?_⟩
    refine kc σ H2 F2 ρ g2 (pre.step (s1.trans s2)) dz _ e5 _ fun u H3 F3 s3 r3 => ?_
    refine ⟨valV kvs ky, .inl ⟨kvs, ky, Rd.mono ((s2.trans s3).ext.h.trans s3.sub) hd, keyD_ok r2 e4, rfl⟩, q _ H3 F3 ((s1.trans s2).trans s3) ?_⟩
    rcases lookD_all (k := ky) hv with ⟨z1, z2⟩ | ⟨d, v, z1, z2, z3⟩
    · rw [z1, z2]; exact r3
    · rw [z1, z2]; exact z3.mono (s2.trans s3).ext
end
/-! ### a call of a def that changes nothing, its arguments one's own things -/
mutual
def noH : D → Bool
  | .hd _ => false
  | .tup l => noHA l
  | .lst l => noHA l
  | .dk _ l => noHA l
  | .dt _ l => noHA l
  | _ => true
def noHA : List D → Bool
  | [] => true
  | d :: l => noH d && noHA l
end
section
variable {K : PySem.W.Frag} {F : Fz}
end
def eCallB (F : List D → M D) (as : EA) : E := fun ρ => mb (as ρ) fun ds => fun g => if noHA ds = true then (match F ds [] with
  | some (d, []) => some (d, g)
  | _ => none) else none
/-- the answer has no parts -/
def eFl (f : E) : E := fun ρ => mb (f ρ) fun d => if flatD d = true then mr d else mz
section
variable {X : Cx} {e : Expr} {es : List Expr} {fs : EA} {f : E} {x : Str} {p pos : Pos}
end
/-! ### list(x), x a list of one's own: a new one -/
def aCopy (i : Nat) : EA := fun ρ => ml (olAt ρ i)
section
variable {X : Cx} {x : Str} {p q pos : Pos}
end
end PD
end
section
set_option Elab.async false
set_option linter.all false
set_option maxRecDepth 100000
set_option maxHeartbeats 4000000
set_option autoImplicit false
namespace PD
open PySem PySem.Spec L2 PySem.Calls
open PyProof.Rows hiding St
variable [Live]
/-! ### a, *b, c = a tuple -/
section
variable {X : Cx} {pins : List (Addr × Obj)} {σ : St} {H : Hp} {s : Shared} {a : Addr} {xs : List V} {n i : Nat} {pos : Pos}
end
section
variable {X : Cx} {pos tp : Pos}
/-- the parts: the i-th of n gets all that is left -/
def starD (n i : Nat) (l : List D) : Option (List D) := if i < n ∧ n ≤ l.length + 1 then some (l.take i ++ D.lst ((l.drop i).take (l.length + 1 - n)) :: (l.drop i).drop (l.length + 1 - n)) else none
def sStar (n i : Nat) (bd : Bs) (f : E) : S := fun ρ => mb (f ρ) fun d => ml (match d with
  | .tup l => (starD n i l).bind fun ds => (bd ds ρ).map Fl.nx
  | _ => none)
end
end PD
end
section
set_option Elab.async false
set_option linter.all false
set_option maxRecDepth 100000
set_option maxHeartbeats 4000000
set_option autoImplicit false
namespace PD
open PySem PySem.Spec L2
open PyProof.Rows hiding St
variable [Live]
/-! ### dicts of the top: texts to whole numbers -/
def tblAt : List (Str × Int) → Str → Option Int
  | [], _ => none
  | (y, v) :: r, z => if y = z then some v else tblAt r z
structure GDict (w : World) (K : PySem.W.Frag) (x : Str) (t : List (Str × Int)) : Prop where
  ex : ∃ es n, KDict K w (He.ga K x) es n
  at_ : ∀ z, match tblAt t z with
    | some v => ∃ tk, PySem.W.nsIn K (He.ga K x) z = some (some (.int v tk))
    | none => PySem.W.nsIn K (He.ga K x) z = some none
/-- x in TABLE, TABLE[x], TABLE.get(x) -/
def inG (t : List (Str × Int)) (neg : Bool) (f : E) : E := fun ρ => mb (f ρ) fun x => match x with
  | .str z => mr (.bl (if neg then !(tblAt t z).isSome else (tblAt t z).isSome))
  | _ => mz
def ixG (t : List (Str × Int)) (f : E) : E := fun ρ => mb (f ρ) fun x => match x with
  | .str z => ml ((tblAt t z).map D.int)
  | _ => mz
section
variable {X : Cx} {a : Expr} {f : E} {x : Str} {p pos ap cp : Pos} {t : List (Str × Int)}
end
/-! ### the head's facts, such dicts among them -/
end PD
end
section
set_option Elab.async false
set_option linter.all false
set_option maxRecDepth 100000
set_option maxHeartbeats 4000000
set_option autoImplicit false
namespace PD
open PySem PySem.Spec L2
open PyProof.Rows hiding St
variable [Live]
/-! ### d.setdefault(k, x), the keys tuples of ints -/
/-- at a: the empty dict, or one whose keys are tuples -/
def GDX (H : Hp) (a : Addr) (kas : List (List Key × Addr × V)) : Prop := (H a = some (.dK []) ∧ kas = []) ∨ H a = some (.ext (DTX a kas))
abbrev kv2 (kas : List (List Key × Addr × V)) : List (List Key × V) := kas.map fun x => (x.1, x.2.2)
section
variable {X : Cx} {pins : List (Addr × Obj)} {σ : St} {H : Hp} {s : Shared} {a b : Addr} {kas : List (List Key × Addr × V)} {A : Around} {E : Value → Shared → Prop}
end
section
variable {X : Cx} {o e f : Expr} {apos cpos : Pos} {td ty tx : TE}
end
end PD
end
section
set_option Elab.async false
set_option linter.all false
set_option maxRecDepth 100000
set_option maxHeartbeats 4000000
set_option autoImplicit false
namespace PD
open PySem PySem.Spec L2
open PyProof.Rows hiding St
variable [Live]
/-! ### quiet statements: names are set, nothing else -/
def qSet (i : Nat) (f : E) : Rho → M Rho := fun ρ => mb (f ρ) fun d => mr (setR ρ i d)
section
variable {X : Cx} {e : Expr} {f : E} {pos : Pos}
end
/-! ### a dict of lists that grow: for ..: d.setdefault(k, []).append(v) -/
structure GE where
  ns : List Int
  b : Addr
  la : Addr
  ds : List D
def kasE (E : List GE) : List (List Key × Addr × V) := E.map fun e => (kI e.ns, e.b, V.ref e.la)
structure GIe (K : PySem.W.Frag) (en : Ent) (F : Fz) (H : Hp) (ρ : Rho) (σ : St) (e : GE) : Prop where
  key : SqT K F.h e.b (e.ns.map V.int)
  f : F e.la = none
  m : e.la ∉ F.mu
  e0 : en.H e.la = none
  no : ∀ j, ¬ Owned ρ σ j e.la
  at_ : ∃ vs, H e.la = some (.lst vs) ∧ vs.length ≤ sizeLine ∧ RpA K F vs e.ds
structure GI (K : PySem.W.Frag) (en : Ent) (i : Nat) (p : Addr) (E : List GE) (F : Fz) (H : Hp) (g : G) (ρ : Rho) (σ : St) : Prop where
  pre : PreS K en F H g ρ σ
  at_ : σ[i]? = some (some (.ref p))
  no : ∀ j, ¬ Owned ρ σ j p
  f : F p = none
  m : p ∉ F.mu
  e0 : en.H p = none
  dict : GDX H p (kasE E)
  ent : ∀ e ∈ E, GIe K en F H ρ σ e
  nda : (E.map (·.la)).Nodup
  ndk : (E.map (·.ns)).Nodup
section
variable {K : PySem.W.Frag} {en : Ent} {i : Nat} {p : Addr} {E : List GE} {F F' : Fz} {H H' : Hp} {g g' : G} {ρ ρ' : Rho} {σ σ' : St}
theorem gdx_some {kas : List (List Key × Addr × V)} (h : GDX H p kas) : ∃ o, H p = some o := by
  rcases h with ⟨h, _⟩ | h
  · exact ⟨_, h⟩
  · exact ⟨_, h⟩
theorem gdx_keep {kas : List (List Key × Addr × V)} (h : GDX H p kas) (k : ∀ o, H p = some o → H' p = some o) : GDX H' p kas := h.imp (fun h => ⟨k _ h.1, h.2⟩) (k _)
theorem GIe.step {e : GE} (h : GIe K en F H ρ σ e) (s : Stp K g g' F F' H H') (o : ∀ i p, Owned ρ' σ' i p → Owned ρ σ i p) : GIe K en F' H' ρ' σ' e := by
  obtain ⟨vs, a1, a2, a3⟩ := h.at_
  exact ⟨sqT_mono s.ext.h h.key, s.keepN h.f a1, s.keepM h.m a1, h.e0, fun j z => h.no j (o _ _ z), vs, s.same _ _ h.m a1, a2, a3.mono s.ext⟩
theorem GI.step (h : GI K en i p E F H g ρ σ) (s : Stp K g g' F F' H H') (pre : PreS K en F' H' g' ρ' σ') (o : ∀ i p, Owned ρ' σ' i p → Owned ρ σ i p) (a : σ'[i]? = σ[i]?) : GI K en i p E F' H' g' ρ' σ' := by
  obtain ⟨ho, hp⟩ := gdx_some h.dict
  exact ⟨pre, a.trans h.at_, fun j z => h.no j (o _ _ z), s.keepN h.f hp, s.keepM h.m hp, h.e0, gdx_keep h.dict fun o e => s.same _ _ h.m e, fun e he => (h.ent e he).step s o, h.nda, h.ndk⟩
theorem GI.stp (h : GI K en i p E F H g ρ σ) (s : Stp K g g' F F' H H') : GI K en i p E F' H' g' ρ σ := h.step s (h.pre.step s) (fun _ _ z => z) rfl
/-- the slots and what is known of them, one thing of one's own is changed that no slot holds -/
theorem PreS.mutN {q : Addr} {o : HO} (pre : PreS K en F H g ρ σ) (hq : en.H q = none) (hF : F q = none) (hm : q ∉ F.mu) (no : ∀ j, ¬ Owned ρ σ j q) : PreS K en F (upd H q o) g ρ σ :=
  ⟨pre.e.mut hF hm no, pre.st.mut hq hF hm, pre.fr⟩
/-- such a thing is frozen -/
theorem PreS.frzA {q : Addr} {o : HO} (pre : PreS K en F H g ρ σ) (hq : en.H q = none) (hF : F q = none) (hm : q ∉ F.mu) (hH : H q = some o) (no : ∀ j, ¬ Owned ρ σ j q) : PreS K en (F.upd q o) H g ρ σ := by
  have ex : Ext F (F.upd q o) := .upd hF
  have st' := pre.st.frz hq hF hm hH
  refine ⟨⟨st'.sub, st'.rep, pre.e.sl.len, fun j l z => ?_, pre.e.sl.sep⟩, st', pre.fr⟩
  obtain ⟨u, z1, z2⟩ := pre.e.sl.at_ j l z
  refine ⟨u, z1, ?_⟩
  have nF : l.own = true → ∀ w, u = .ref w → F w = none → (F.upd q o) w = none := fun w1 w w2 w3 => by
    have : w ≠ q := fun e => no j ⟨l, z, w1, by rw [z1, w2, e]⟩
    show L2.upd F.h q o w = none
    rw [upd_ne this]; exact w3
  cases l with
  | d x => exact Rp.mono ex z2
  | ol ds => obtain ⟨w, vs, e1, e2, e3, e4, e5, e6⟩ := z2; exact ⟨w, vs, e1, nF rfl w e1 e2, e3, e4, e5, e6.mono ex⟩
  | ok ks ds => obtain ⟨w, vs, e1, e2, e3, e4, e5, e6⟩ := z2; exact ⟨w, vs, e1, nF rfl w e1 e2, e3, e4, e5, e6.mono ex⟩
  | ot ks ds => obtain ⟨w, vs, e1, e2, e3, e4, e5, e6⟩ := z2; exact ⟨w, vs, e1, nF rfl w e1 e2, e3, e4, ⟨e5.1, fun x hx => sqT_mono ex.h (e5.2 x hx)⟩, e6.mono ex⟩
  | fn => exact ⟨z2.1, Live.step ex z2.2⟩
theorem GIe.ne {e : GE} (h : GIe K en F H ρ σ e) (d : GDX H p (kasE E)) : e.la ≠ p := fun z => by
  obtain ⟨vs, a1, _⟩ := h.at_
  rw [z] at a1
  rcases d with ⟨d, _⟩ | d <;> (rw [d] at a1; cases a1)
/-- a new key -/
theorem GI.new (h : GI K en i p E F H g ρ σ) {ns : List Int} {b q : Addr} (hb : SqT K F.h b (ns.map V.int)) (hq : H q = none) (hk : ns ∉ E.map (·.ns)) :
    GI K en i p (E ++ [⟨ns, b, q, []⟩]) F (upd (upd H q (.lst [])) p (.ext (DTX p (kasE E ++ [(kI ns, b, V.ref q)])))) g ρ σ := by
  obtain ⟨o, hp⟩ := gdx_some h.dict
  have pq : p ≠ q := fun z => by rw [z, hq] at hp; cases hp
  have fq : F q = none := h.pre.e.sub.free hq
  have mq : q ∉ F.mu := h.pre.e.rep.out hq
  have nq : ∀ j, ¬ Owned ρ σ j q := fun j z => by
    obtain ⟨o, ho⟩ := h.pre.e.own_some z
    rw [hq] at ho; cases ho
  have h1 := h.stp (.allocO (o := .lst []) h.pre.e.sub h.pre.e.rep hq)
  have p2 : PreS K en F (upd (upd H q (.lst [])) p (.ext (DTX p (kasE E ++ [(kI ns, b, V.ref q)])))) g ρ σ := h1.pre.mutN h.e0 h.f h.m h.no
  have eq : en.H q = none := h.pre.st.mono q hq
  refine ⟨p2, h.at_, h.no, h.f, h.m, h.e0, .inr (by rw [upd_same]; unfold kasE; rw [List.map_append]; rfl), fun e he => ?_, ?_, ?_⟩
  · rcases List.mem_append.mp he with he | he
    · have z := h.ent e he
      obtain ⟨vs, a1, a2, a3⟩ := z.at_
      have n1 : e.la ≠ p := z.ne h.dict
      have n2 : e.la ≠ q := fun y => by rw [y, hq] at a1; cases a1
      exact ⟨z.key, z.f, z.m, z.e0, z.no, vs, by rw [upd_ne n1, upd_ne n2]; exact a1, a2, a3⟩
    · rw [List.mem_singleton.mp he]
      exact ⟨hb, fq, mq, eq, nq, [], by rw [upd_ne (fun z => pq z.symm), upd_same], Nat.zero_le _, .nil⟩
  · rw [List.map_append]
    refine List.nodup_append.mpr ⟨h.nda, by simp, fun x hx y hy e => ?_⟩
    obtain ⟨z, hz, rfl⟩ := List.mem_map.mp hx
    obtain ⟨vs, a1, _⟩ := (h.ent z hz).at_
    simp only [List.map_cons, List.map_nil, List.mem_singleton] at hy
    subst hy
    rw [e, hq] at a1; cases a1
  · rw [List.map_append]
    refine List.nodup_append.mpr ⟨h.ndk, by simp, fun x hx y hy e => ?_⟩
    simp only [List.map_cons, List.map_nil, List.mem_singleton] at hy
    subst hy
    exact hk (by rw [← e]; exact hx)
/-- all is given away -/
theorem GI.all (B : List GE) : ∀ {F : Fz}, PreS K en F H g ρ σ → (B.map (·.la)).Nodup → (∀ e ∈ B, GIe K en F H ρ σ e) → ∃ F', PreS K en F' H g ρ σ ∧ Ext F F' ∧ (∀ a, a ∉ B.map (·.la) → F a = none → F' a = none) ∧ F'.mu = F.mu ∧ RpA K F' (B.map fun e => V.ref e.la) (B.map fun e => D.lst e.ds) := by
  induction B with
  | nil => exact fun pre _ _ => ⟨_, pre, Ext.refl _, fun _ _ h => h, rfl, .nil⟩
  | cons e B ih =>
    intro F pre nd he
    have h := he e List.mem_cons_self
    obtain ⟨vs, a1, a2, a3⟩ := h.at_
    obtain ⟨n1, n2⟩ := List.nodup_cons.mp nd
    have ex : Ext F (F.upd e.la (.lst vs)) := .upd h.f
    obtain ⟨F', p', e', k', m', r'⟩ := ih (pre.frzA h.e0 h.f h.m a1 h.no) n2 fun y hy => by
      have z := he y (List.mem_cons_of_mem _ hy)
      have n : y.la ≠ e.la := fun q => n1 (by
        have z := List.mem_map_of_mem (f := fun x : GE => x.la) hy
        rw [q] at z
        exact z)
      obtain ⟨us, b1, b2, b3⟩ := z.at_
      exact ⟨sqT_mono ex.h z.key, by show L2.upd F.h e.la (.lst vs) y.la = none; rw [upd_ne n]; exact z.f, z.m, z.e0, z.no, us, b1, b2, b3.mono ex⟩
    refine ⟨F', p', ex.trans e', fun a ha hF => k' a (fun z => ha (List.mem_cons_of_mem _ z)) ?_, m', .cons ?_ r'⟩
    · have : a ≠ e.la := fun z => ha (by rw [z]; exact List.mem_cons_self)
      show L2.upd F.h e.la (.lst vs) a = none
      rw [upd_ne this]; exact hF
    · exact .lst (.of (e'.h _ _ upd_same)) a2 ((a3.mono ex).mono e')
end
/-! ### by data -/
def putG : List (List Int × List D) → List Int → D → List (List Int × List D)
  | [], ns, v => [(ns, [v])]
  | (m, l) :: r, ns, v => if m = ns then (m, l ++ [v]) :: r else (m, l) :: putG r ns v
def okG (acc : List (List Int × List D)) : Bool := decide (acc.length < sizeLine) && acc.all fun q => decide (q.2.length < sizeLine)
def accE (E : List GE) : List (List Int × List D) := E.map fun e => (e.ns, e.ds)
/-- the body of such a loop: what it sets, key, value -/
def PGB (X : Cx) (i : Nat) (body : List Stmt) (f : Rho → M (Rho × D × D)) : Prop := ∃ t, PSs X body t ∧ ∀ en p E σ H F ρ g, GI X.K en i p E F H g ρ σ → ∀ ρ' kd vd g', f ρ g = some ((ρ', kd, vd), g') → ∀ ns, intsT kd = some ns → okG (accE E) = true → ∀ De : Ends,
  (∀ E' σ' H' F', Ext F F' → GI X.K en i p E' F' H' g' ρ' σ' → accE E' = putG (accE E) ns vd → De.nx σ' H') → t De σ H
where intsT : D → Option (List Int)
  | .tup l => intsD l
  | _ => none
def gFin (fk fv : E) : Rho → M (Rho × D × D) := fun ρ => mb (fk ρ) fun k => mb (fv ρ) fun v => mr (ρ, k, v)
def gSeq (q : Rho → M Rho) (f : Rho → M (Rho × D × D)) : Rho → M (Rho × D × D) := fun ρ => mb (q ρ) f
section
variable {X : Cx} {i : Nat} {e f : Expr} {fk fv : E} {x : Str} {p1 p2 p3 p4 p5 p6 pos : Pos} {k : Nat}
end
def forG (bd : B) (b : Rho → M (Rho × D × D)) : List D → Rho → List (List Int × List D) → M (Rho × List (List Int × List D))
  | [], ρ, acc => mr (ρ, acc)
  | d :: ds, ρ, acc => match bd d ρ with
    | none => mz
    | some ρ1 => mb (b ρ1) fun r => match PGB.intsT r.2.1 with
      | some ns => if okG acc = true then forG bd b ds r.1 (putG acc ns r.2.2) else mz
      | none => mz
def dtG (acc : List (List Int × List D)) : D := .dt (acc.map fun q => kI q.1) (acc.map fun q => D.lst q.2)
def isOk0 : Option (Option LV) → Bool
  | some (some (.ok [] [])) => true
  | _ => false
def sForG (i : Nat) (it : EA) (bd : B) (b : Rho → M (Rho × D × D)) : S := fun ρ => mb (it ρ) fun ds => if isOk0 ρ[i]? = true then mb (forG bd b ds (ρ.set i none) []) fun r => if r.2 = [] then mz else mr (.nx (setR r.1 i (dtG r.2))) else mz
section
variable {X : Cx} {tg iter c : Expr} {body : List Stmt} {it : EA} {sl : List Nat} {bd : B} {b : Rho → M (Rho × D × D)} {pos : Pos}
end
end PD
end
section
set_option Elab.async false
set_option linter.all false
set_option maxRecDepth 100000
set_option maxHeartbeats 4000000
set_option autoImplicit false
/-! ### {k: .. for k in d ..}: d is locked while it is walked -/
namespace PD
open PySem PySem.Spec L2
open PyProof.Rows hiding St
variable [Live]
/-- at one place a dict is locked, or no more: all else is alike -/
structure Swp (d : Addr) (kvs : List (Key × V)) (F F2 : Fz) : Prop where
  mu : F2.mu = F.mu
  ne : ∀ a, a ≠ d → F2.h a = F.h a
  r1 : Rd F.h d (.dK kvs)
  r2 : Rd F2.h d (.dK kvs)
section
variable {K : PySem.W.Frag} {d : Addr} {kvs : List (Key × V)} {F F2 : Fz}
theorem Swp.off (s : Swp d kvs F F2) {a : Addr} {w : HO} (h : F.h a = some w) (h1 : w ≠ .dK kvs) (h2 : ∀ o, w ≠ .frz o (.dK kvs)) : F2.h a = some w := by
  by_cases e : a = d
  · subst e
    rcases s.r1 with q | ⟨o, q⟩
    · rw [h] at q; exact absurd (Option.some.inj q) h1
    · rw [h] at q; exact absurd (Option.some.inj q) (h2 o)
  · rw [s.ne a e]; exact h
theorem Swp.rd (s : Swp d kvs F F2) {a : Addr} {w : HO} (h : Rd F.h a w) (hw : ∀ o u, w ≠ .frz o u) : Rd F2.h a w := by
  by_cases e : a = d
  · subst e
    have : w = .dK kvs := by
      rcases h with h | ⟨o, h⟩ <;> rcases s.r1 with q | ⟨o', q⟩ <;> rw [h] at q
      · exact Option.some.inj q
      · exact absurd (Option.some.inj q) (hw _ _)
      · cases q
      · cases q; rfl
    rw [this]
    exact s.r2
  · unfold Rd at h ⊢
    rw [s.ne a e]
    exact h
theorem Swp.sqT (s : Swp d kvs F F2) {a : Addr} {xs : List V} (h : SqT K F.h a xs) : SqT K F2.h a xs := h.imp (fun h => s.rd h (by intro o u e; cases e)) id
theorem Swp.sqL (s : Swp d kvs F F2) {a : Addr} {xs : List V} (h : SqL K F.h a xs) : SqL K F2.h a xs := h.imp (fun h => s.rd h (by intro o u e; cases e)) id
theorem Rp.swap (s : Swp d kvs F F2) {v : V} {x : D} (h : Rp K F v x) : Rp K F2 v x :=
  Rp.rec (K := K) (F := F) (motive_1 := fun v x _ => Rp K F2 v x) (motive_2 := fun v x _ => RpA K F2 v x)
    .non (fun b => .bl b) (fun i => .int i) (fun x h => .str x h) (fun h1 h2 _ ih => .tup (s.sqT h1) h2 ih) (fun h1 h2 _ ih => .lst (s.sqL h1) h2 ih)
    (fun h1 _ ih => .dk (s.rd h1 (by intro o u e; cases e)) ih) (fun h1 h2 _ ih => .dm (s.off h1 (by intro e; cases e) (by intro o e; cases e)) (fun x hx => s.sqT (h2 x hx)) ih)
    (fun h => .hd (by rw [s.mu]; exact h)) (fun h hc hd hz hs => .tx (s.off h (by intro e; cases e) (by intro o e; cases e)) hc hd hz hs) .nil (fun _ _ i1 i2 => .cons i1 i2) h
theorem RpA.swap (s : Swp d kvs F F2) : ∀ {v : List V} {x : List D}, RpA K F v x → RpA K F2 v x
  | _, _, .nil => .nil
  | _, _, .cons r t => .cons (r.swap s) (RpA.swap s t)
theorem Swp.none (s : Swp d kvs F F2) {a : Addr} (h : F a = none) : a ≠ d ∧ F2 a = none := by
  have e : a ≠ d := fun e => by
    subst e
    rcases s.r1 with q | ⟨o, q⟩ <;> (have h : F.h a = Option.none := h; rw [h] at q; cases q)
  exact ⟨e, by show F2.h a = _; rw [s.ne a e]; exact h⟩
theorem MOk.swap (s : Swp d kvs F F2) {H H2 : Hp} {a : Addr} {m : MO} (h : MOk K F H a m) (e : H2 a = H a) : MOk K F2 H2 a m := by
  cases m with
  | ml ds => obtain ⟨vs, h3, h4, h5⟩ := h; exact ⟨vs, by rw [e]; exact h3, h4, h5.swap s⟩
  | mk ks ds => obtain ⟨kvs, h3, h4, h5⟩ := h; exact ⟨kvs, by rw [e]; exact h3, h4, h5.swap s⟩
  | mx nm f x => obtain ⟨dd, v, h3, h4, h5⟩ := h; exact ⟨dd, v, by rw [e]; exact h3, s.off h4 (by intro e; cases e) (by intro o e; cases e), h5.swap s⟩
  | mt x => obtain ⟨h1, ps, h3, h4, h5⟩ := h; exact ⟨h1, ps, by rw [e]; exact h3, h4, fun pos cv hc => by
      obtain ⟨c, e1, e2⟩ := h5 pos cv hc
      exact ⟨c, e1, s.off e2 (by intro e; unfold LamX.CodeO at e; cases e) (by intro o e; unfold LamX.CodeO at e; cases e)⟩⟩
theorem GRep.swap (s : Swp d kvs F F2) {g : G} {H H2 : Hp} (r : GRep K g F H) (e : ∀ a, a ≠ d → H2 a = H a) : GRep K g F2 H2 :=
  ⟨by rw [s.mu]; exact r.len, by rw [s.mu]; exact r.nd, fun n m a h1 h2 => by
    rw [s.mu] at h2
    obtain ⟨q1, q2⟩ := r.at_ n m a h1 h2
    obtain ⟨q3, q4⟩ := s.none q1
    exact ⟨q4, q2.swap s (e a q3)⟩⟩
/-- no slot holds the function that is handed over -/
def noFn : Rho → Bool
  | [] => true
  | some .fn :: _ => false
  | _ :: ρ => noFn ρ
theorem noFn_at : ∀ {ρ : Rho} {i : Nat} {l : LV}, noFn ρ = true → ρ[i]? = some (some l) → l ≠ .fn
  | some lv :: ρ, 0, l, h, e => by
    have e : lv = l := by simpa using e
    subst e
    intro z
    subst z
    cases h
  | none :: ρ, 0, l, h, e => by simp at e
  | some lv :: ρ, i + 1, l, h, e => by
    have h : noFn ρ = true := by cases lv <;> first | exact h | cases h
    exact noFn_at h (by simpa using e)
  | none :: ρ, i + 1, l, h, e => noFn_at (show noFn ρ = true from h) (by simpa using e)
theorem SlotOk.swap (s : Swp d kvs F F2) {g : G} {H H2 : Hp} {v : V} {lv : LV} (h : SlotOk K F H g v lv) (hn : lv ≠ .fn) (e : ∀ a, a ≠ d → H2 a = H a) : SlotOk K F2 H2 g v lv := by
  cases lv with
  | d x => exact Rp.swap s h
  | ol ds => obtain ⟨p, vs, e1, e2, e3, e4, e5, e6⟩ := h; obtain ⟨q1, q2⟩ := s.none e2; exact ⟨p, vs, e1, q2, by rw [s.mu]; exact e3, by rw [e p q1]; exact e4, e5, e6.swap s⟩
  | ok ks ds => obtain ⟨p, vs, e1, e2, e3, e4, e5, e6⟩ := h; obtain ⟨q1, q2⟩ := s.none e2; exact ⟨p, vs, e1, q2, by rw [s.mu]; exact e3, by rw [e p q1]; exact e4, e5, e6.swap s⟩
  | ot ks ds => obtain ⟨p, vs, e1, e2, e3, e4, e5, e6⟩ := h; obtain ⟨q1, q2⟩ := s.none e2; exact ⟨p, vs, e1, q2, by rw [s.mu]; exact e3, by rw [e p q1]; exact e4, ⟨e5.1, fun x hx => s.sqT (e5.2 x hx)⟩, e6.swap s⟩
  | fn => exact absurd rfl hn
theorem PreE.swap (s : Swp d kvs F F2) {g : G} {H H2 : Hp} {ρ : Rho} {σ : St} (pre : PreE K F H g ρ σ) (hn : noFn ρ = true) (e : ∀ a, a ≠ d → H2 a = H a) (sub : Same F2.h H2) : PreE K F2 H2 g ρ σ :=
  ⟨sub, pre.rep.swap s e, pre.sl.len, fun i lv h => by
    obtain ⟨v, h1, h2⟩ := pre.sl.at_ i lv h
    exact ⟨v, h1, h2.swap s (noFn_at hn h) e⟩, pre.sl.sep⟩
end
/-- the keys, whole numbers all -/
def keysI : List Key → Option (List D)
  | [] => some []
  | .inl i :: r => (keysI r).map (.int i :: ·)
  | _ :: _ => none
def aKeys (i : Nat) : EA := fun ρ => ml (match ρ[i]? with
  | some (some (.d (.dk ks _))) => keysI ks
  | _ => none)
theorem keysI_at : ∀ {kvs : List (Key × V)} {ds : List D}, keysI (kvs.map (·.1)) = some ds → ds.length = kvs.length ∧ ∀ (i : Nat) (k : Key) (v : V), kvs[i]? = some (k, v) → ∃ n : Int, k = .inl n ∧ ds[i]? = some (.int n)
  | [], ds, h => by cases h; exact ⟨rfl, by simp⟩
  | (.inl n, v) :: kvs, ds, h => by
    have h : (keysI (kvs.map (·.1))).map (D.int n :: ·) = some ds := h
    obtain ⟨es, h1, rfl⟩ := Option.map_eq_some_iff.mp h
    obtain ⟨i1, i2⟩ := keysI_at h1
    refine ⟨by simp [i1], fun i k w hi => ?_⟩
    cases i with
    | zero => simp at hi; exact ⟨n, hi.1.symm, rfl⟩
    | succ i => exact i2 i k w (by simpa using hi)
  | (.inr x, v) :: kvs, ds, h => by cases h
end PD
end
section
set_option Elab.async false
set_option linter.all false
set_option maxRecDepth 100000
set_option maxHeartbeats 4000000
set_option autoImplicit false
namespace PD
open PySem PySem.Spec L2
open PyProof.Rows hiding St
variable [Live]
theorem pe_or2 {X : Cx} {e : Expr} {t t' : TE} (h : PE X e t) (h' : PE X e t') : PE X e (fun σ H Q => t σ H Q ∨ t' σ H Q) := ⟨fun pins s σ H Q I q => q.elim (h.run pins s σ H Q I) (h'.run pins s σ H Q I)⟩
theorem its_keys {K : PySem.W.Frag} {F : Fz} {H : Hp} {a : Addr} {o : Obj} {kvs : List (Key × V)} {ds : List D} (hH : H a = some (.frz o (.dK kvs))) (hm : a ∉ F.mu) (hk : keysI (kvs.map (·.1)) = some ds) : ItS K (Itk a o kvs) (off F H).h F ds := fun H1 s => by
  obtain ⟨kl, kat⟩ := keysI_at hk
  have h1 : H1 a = some (.frz o (.dK kvs)) := s _ _ (off_some.mpr ⟨hm, hH⟩)
  refine ⟨fun i d e => ?_, fun i hi => ⟨h1, by omega⟩⟩
  have hi : i < kvs.length := by rw [← kl]; exact (List.getElem?_eq_some_iff.mp e).1
  refine ⟨⟨h1, hi⟩, fun x H' ⟨y1, k, v, y2, y3⟩ => .inl ⟨y1, ?_⟩⟩
  obtain ⟨n, rfl, h2⟩ := kat i k v y2
  rw [e] at h2
  cases h2
  subst y3
  exact .int n
section
variable {X : Cx} {pos pv : Pos} {kx vx tg : Expr} {ifs : List Expr} {scope : Scope} {bd : B} {t : T} {fk fv : E} {sl : List Nat} {x : Str}
end
end PD
end
section
set_option Elab.async false
set_option linter.all false
set_option maxRecDepth 100000
set_option maxHeartbeats 4000000
set_option autoImplicit false
namespace PD
open PySem PySem.Spec L2
open PyProof.Rows hiding St
variable [Live]
/-! ### x.pop(e) of a list of the store -/
def popH (g : G) (n : Nat) (d : D) : Option (D × G) := match d with
  | .int i => match g[n]? with
    | some (.ml l) => (L2.ixN l.length i).bind fun k => (l[k]?).map fun y => (y, updG g n (.ml (l.eraseIdx k)))
    | _ => none
  | _ => none
def ePopH (i : Nat) (f : E) : E := fun ρ => mb (eVar i ρ) fun x => fun g => match x with
  | .hd n => match g[n]? with
    | some (.ml _) => (mb (f ρ) fun d => fun g1 => popH g1 n d) g
    | _ => none
  | _ => none
theorem RpA.eraseIdx {K : PySem.W.Frag} {F : Fz} : ∀ {vs : List V} {ds : List D} (k : Nat), RpA K F vs ds → RpA K F (vs.eraseIdx k) (ds.eraseIdx k)
  | _, _, _, .nil => .nil
  | _, _, 0, .cons _ t => t
  | _, _, k + 1, .cons r t => .cons r (RpA.eraseIdx k t)
section
variable {X : Cx} {e : Expr} {f : E} {x : Str} {p pos ap : Pos}
theorem pd_popH (i : Nat) (h : PD X e f) (hN : X.N[i]? = some x := by rfl) (hv : Vis X.env.scope x := by first | exact Or.inl rfl | exact Or.inr (Or.inl rfl) | exact Or.inr (Or.inr rfl))
    (hd : (x == ("__debug__" : Str)) = false := by decide) (hcd : (x == ("__classdict__" : Str)) = false := by decide)
    (hbase : attributeBase (.Name x p) "pop" X.env (eval (.Name x p) X.env) = eval (.Name x p) X.env := by rfl)
    (hfew : ((backTo pos (starEach [e] X.env)).all (fun x => !x.1) && (backToKw pos (keywordEach [] X.env)).all (fun x => x.1.isSome)
      && decide ([e].length + ([] : List Keyword).length + (if ([] : List Keyword).isEmpty then 0 else 1) < 30)) = true := by rfl)
    (hline : (ap.endLine == pos.line) = true := by rfl) (hs : starEach [e] X.env = (false, eval e X.env) :: starEach [] X.env := by rfl) :
    PD X (.Call (.Attribute (.Name x p) "pop" ap) [e] [] pos) (ePopH i f) := by
  obtain ⟨t, ht, k⟩ := h
  obtain ⟨tv, pv, kv⟩ := pd_var (X := X) (pos := p) i hN hv hd hcd
  refine ⟨_, pe_bm PySem.F.plainAttrs_list PySem.F.slot_list_pop PySem.F.type_list_pop mt_popAt pv (pa_cons ht pa_nil hs) hbase hfew hline hs (by rfl), fun σ H F ρ g pre dd g' ev Q q => ?_⟩
  obtain ⟨dx, g1, e1, ev⟩ := mb_inv ev
  refine kv σ H F ρ g pre dx g1 e1 _ fun v H1 F1 s1 r1 => ?_
  split at ev
  · rename_i n
    split at ev
    · rename_i l0 hg0
      obtain ⟨d, g2, e2, ev⟩ := mb_inv ev
      obtain ⟨a, hm, _, vs, h4, h5, h6⟩ := s1.rep.get hg0
      have := rp_hd r1 hm
      subst this
      refine ⟨.inl ⟨rfl, vs, .of h4⟩, k σ H1 F1 ρ g1 (pre.step s1) d _ e2 _ fun w H2 F2 s2 r2 => ?_⟩
      unfold popH at ev
      split at ev
      · rename_i iv
        split at ev
        · rename_i l hg
          obtain ⟨j, hj, ev⟩ := Option.bind_eq_some_iff.mp ev
          obtain ⟨y, hy, ev⟩ := Option.map_eq_some_iff.mp ev
          cases ev
          have hm2 := s2.ext.mu hm
          obtain ⟨b, hmb, _, vs2, k4, k5, k6⟩ := s2.rep.get hg
          rw [hm2] at hmb
          cases hmb
          have sz := sizeLine_eq
          have hl := k6.length
          obtain ⟨q1, q2, q3, q4⟩ := ixN_seq hj
          obtain ⟨u, hu1, hu2⟩ := k6.get hy
          refine ⟨a, vs2, iv, j, u, rfl, by rw [rp_int r2], k4, by omega, by omega, by rw [hl]; exact q1, hu1, q u _ F2 ((s1.trans s2).trans (Stp.store (m' := .ml _) s2.sub s2.rep hm2 ⟨_, upd_same, ?_, k6.eraseIdx j⟩)) hu2⟩
          have := List.length_eraseIdx_le vs2 j
          omega
        · cases ev
      · cases ev
    · cases ev
  · cases ev
end
@[simp] theorem ePopH_ap (i : Nat) (f : E) {ρ : Rho} {g : G} : ePopH i f ρ g = (eVar i ρ g).bind fun p => match p.1 with
    | .hd n => match p.2[n]? with
      | some (.ml _) => (f ρ p.2).bind fun q => popH q.2 n q.1
      | _ => none
    | _ => none := by
  refine (mb_ap _ _ _).trans ?_
  congr 1
  funext p
  cases p.1 with
  | hd n =>
    show (match p.2[n]? with
      | some (.ml _) => (mb (f ρ) fun d => fun g1 => popH g1 n d) p.2
      | _ => none) = (match p.2[n]? with
      | some (.ml _) => (f ρ p.2).bind fun q => popH q.2 n q.1
      | _ => none)
    split
    · exact mb_ap _ _ _
    · rfl
  | _ => rfl
/-! ### x.count(e) of a list of one's own -/
def cntD : LV → D → Option D
  | .ol l, .int k => (intsD l).map fun ns => .int (ns.count k : Nat)
  | _, _ => none
def eCntO (i : Nat) (f : E) : E := fun ρ => mb (f ρ) fun d => ml (match ρ[i]? with
  | some (some lv) => cntD lv d
  | _ => none)
section
variable {X : Cx} {e : Expr} {f : E} {x : Str} {p pos ap : Pos}
theorem pd_cntO (i : Nat) (h : PD X e f) (hN : X.N[i]? = some x := by rfl) (hv : Vis X.env.scope x := by first | exact Or.inl rfl | exact Or.inr (Or.inl rfl) | exact Or.inr (Or.inr rfl))
    (hd : (x == ("__debug__" : Str)) = false := by decide) (hcd : (x == ("__classdict__" : Str)) = false := by decide)
    (hbase : attributeBase (.Name x p) "count" X.env (eval (.Name x p) X.env) = eval (.Name x p) X.env := by rfl)
    (hfew : ((backTo pos (starEach [e] X.env)).all (fun x => !x.1) && (backToKw pos (keywordEach [] X.env)).all (fun x => x.1.isSome)
      && decide ([e].length + ([] : List Keyword).length + (if ([] : List Keyword).isEmpty then 0 else 1) < 30)) = true := by rfl)
    (hline : (ap.endLine == pos.line) = true := by rfl) (hs : starEach [e] X.env = (false, eval e X.env) :: starEach [] X.env := by rfl) :
    PD X (.Call (.Attribute (.Name x p) "count" ap) [e] [] pos) (eCntO i f) := by
  obtain ⟨t, ht, k⟩ := h
  refine ⟨_, pe_bm PySem.F.plainAttrs_list PySem.F.slot_list_count PySem.F.type_list_count mt_lcount (pe_var hN hv hd hcd) (pa_cons ht pa_nil hs) hbase hfew hline hs (by rfl), fun σ H F ρ g pre dd g' ev Q q => ?_⟩
  obtain ⟨d, g1, e1, ev⟩ := mb_inv ev
  obtain ⟨e3, rfl⟩ := ml_inv ev
  cases h : ρ[i]? with
  | none => rw [h] at e3; cases e3
  | some o =>
    cases o with
    | none => rw [h] at e3; cases e3
    | some lv =>
      rw [h] at e3
      have e3 : cntD lv d = some dd := e3
      obtain ⟨v, h1, h2⟩ := pre.sl.at_ i lv h
      cases lv with
      | ol l =>
        cases d with
        | int iv =>
          obtain ⟨ns, h7, rfl⟩ := Option.map_eq_some_iff.mp (show (intsD l).map (fun ns => D.int (ns.count iv : Nat)) = some dd from e3)
          obtain ⟨a, vs, rfl, h3, h4, h5, h6, h8⟩ := h2
          refine ⟨_, h1, .inl ⟨rfl, vs, .of h5⟩, k σ H F ρ g pre _ _ e1 _ fun w H1 F1 s1 r1 => ?_⟩
          have hl : l = ns.map D.int := intsD_ok h7
          subst hl
          rw [(h8 : RpA X.K F vs (ns.map D.int)).ints] at h5
          show rCntI X.K (.ref a) [w] H1 Q
          exact ⟨a, ns, iv, rfl, by rw [rp_int r1], .of (s1.same _ _ h4 h5), q _ H1 F1 s1 (.int _)⟩
        | _ => cases e3
      | _ => cases e3
end
@[simp] theorem eCntO_ap (i : Nat) (f : E) {ρ : Rho} {g : G} : eCntO i f ρ g = (f ρ g).bind fun p => (match ρ[i]? with
    | some (some lv) => cntD lv p.1
    | _ => none).map fun d => (d, p.2) := by
  simp only [eCntO, mb_ap, ml_ap]
end PD
end
section
set_option Elab.async false
set_option linter.all false
set_option maxRecDepth 100000
set_option maxHeartbeats 4000000
set_option autoImplicit false
namespace PD
open PySem PySem.Spec L2
open PyProof.Rows hiding St
variable [Live]
/-! ### x.extend(a tuple) -/
theorem ext_tup (l : Addr) (items : Array Value) (n : Nat) (b : Addr) (items2 : Array Value) (n2 : Nat) (d2 : Option Addr) (sl2 : Array (Option Value)) (hs0 : ¬(!items.isEmpty && Builtin.List.listTooLong (items.size + items2.size)) = true) (hs1 : items.size ≤ sizeLine) (hs2 : items.size + items2.size ≤ sizeLine + 1) :
    Meets (Builtin.«list.extend» ⟨[.ref l, .ref b], []⟩) (fun _ R s => s.heap.get? l = some { cls := .type "list", dict := none, data := .seq items n, slots := #[] } ∧ s.heap.get? b = some { cls := .type "tuple", dict := d2, data := .seq items2 n2, slots := sl2 } ∧ R (.ok (.ret Value.none)) { s with heap := s.heap.update l (Obj.mapSeq fun x => x ++ items2), toks := s.toks }) :=
  .of_wp fun prog w A R s h => by
    obtain ⟨hp, g, d, tk, os⟩ := s; obtain ⟨hl, hb, h⟩ := h; have f1 := PySem.AutoSeq1.idx_int; have f2 := PySem.AutoSeq1.sub_tuple_tuple; have f3 := PySem.AutoSeq1.sub_list_list; have f4 := PySem.AutoSeq1.sub_tuple_list; have f5 := PySem.AutoSeq1.sub_list_tuple;
    have hz' : (items ++ items2).size ≤ sizeLine + 1 := by rw [Array.size_append]; exact hs2
    wp_walk using (wpAny_updateSeq hl rfl (hz := hs1) (_hz' := hz')), PySem.AutoSeq1.wpAny_loadPart' hl, PySem.AutoSeq1.wpAny_loadPart' hb; exact ⟨_, rfl, h⟩
def rExtendT (K : PySem.W.Frag) : V → List V → Hp → VK → Prop := fun x vs H Q => ∃ l b xs zs, x = .ref l ∧ vs = [.ref b] ∧ H l = some (.lst xs) ∧ SqT K H b zs ∧ xs.length + zs.length ≤ sizeLine ∧ Q .non (upd H l (.lst (xs ++ zs)))
theorem mt_extendT {X : Cx} : MtM X "list.extend" (rExtendT X.K) := by
  intro pins s σ H x vs v us Q I rx rv h
  obtain ⟨l, b, xs, zs, rfl, rfl, hH, hB, hz, q⟩ := h
  cases rx
  obtain ⟨u, rfl, ru⟩ := rv.one
  cases ru
  obtain ⟨z, its, n, r, hl, e⟩ := I.lstM hH
  obtain ⟨its2, r2, ht, _⟩ := I.tuple hB
  obtain ⟨⟨cls, d2, data, sl2⟩, ho, hc, n2, hd⟩ := ht
  have hc : cls = Value.type "tuple" := hc
  have hd : data = Data.seq its2.toArray n2 := hd
  subst hc hd
  have hl2 := r2.length
  have hsz : its.toArray.size + its2.toArray.size ≤ sizeLine := by rw [List.size_toArray, List.size_toArray]; omega
  have hlong : ¬ (!its.toArray.isEmpty && Builtin.List.listTooLong (its.toArray.size + its2.toArray.size)) = true := by
    rw [notLongL hsz, Bool.and_false]
    exact Bool.false_ne_true
  refine call_meets F.slot_list_extend ⟨_, e, rfl⟩ F.entry_list_extend (F.args_list_extend_2 _ _)
    (ext_tup l its.toArray n b its2.toArray n2 d2 sl2 hlong (by rw [List.size_toArray]; omega) (by omega)) ⟨e, ho, ?_⟩
  refine ⟨.non, _, I.lset (its' := its ++ its2) hH e (by simp) (r.append r2) ?_, rfl, q⟩
  rw [List.length_append]
  omega
def sExtV (i : Nat) (f : E) : S := fun ρ => mb (f ρ) fun d => ml ((olAt ρ i).bind fun l => match d with
  | .tup m => if l.length + m.length ≤ sizeLine then some (.nx (ρ.set i (some (.ol (l ++ m))))) else none
  | _ => none)
section
variable {X : Cx} {e : Expr} {f : E} {x : Str} {p pos ap cp : Pos}
theorem pds_extV (i : Nat) (h : PD X e f) (hN : X.N[i]? = some x := by rfl) (hv : Vis X.env.scope x := by first | exact Or.inl rfl | exact Or.inr (Or.inl rfl) | exact Or.inr (Or.inr rfl))
    (hd : (x == ("__debug__" : Str)) = false := by decide) (hcd : (x == ("__classdict__" : Str)) = false := by decide)
    (hbase : attributeBase (.Name x p) "extend" X.env (eval (.Name x p) X.env) = eval (.Name x p) X.env := by rfl)
    (hfew : ((backTo cp (starEach [e] X.env)).all (fun x => !x.1) && (backToKw cp (keywordEach [] X.env)).all (fun x => x.1.isSome)
      && decide ([e].length + ([] : List Keyword).length + (if ([] : List Keyword).isEmpty then 0 else 1) < 30)) = true := by rfl)
    (hline : (ap.endLine == cp.line) = true := by rfl) (hs : starEach [e] X.env = (false, eval e X.env) :: starEach [] X.env := by rfl) (hsw : swapsWith (.Call (.Attribute (.Name x p) "extend" ap) [e] [] cp) none pos.line X.env = pure false := by rfl) :
    PDS X (.Expr (.Call (.Attribute (.Name x p) "extend" ap) [e] [] cp) pos) (sExtV i f) := by
  obtain ⟨t, ht, k⟩ := h
  refine ⟨_, ps_expr (pe_bm PySem.F.plainAttrs_list PySem.F.slot_list_extend PySem.F.type_list_extend mt_extendT (pe_var hN hv hd hcd) (pa_cons ht pa_nil hs) hbase hfew hline hs (by rfl)) hsw, fun en σ H F ρ g pre fl g' ev De post => ?_⟩
  obtain ⟨d, g1, e1, ev⟩ := mb_inv ev
  obtain ⟨ev2, rfl⟩ := ml_inv ev
  obtain ⟨l, hl0, ev3⟩ := Option.bind_eq_some_iff.mp ev2
  have hl := olAt_inv hl0
  cases d with
  | tup m =>
    have ev3 : (if l.length + m.length ≤ sizeLine then some (Fl.nx (ρ.set i (some (.ol (l ++ m))))) else none) = some fl := ev3
    split at ev3
    · rename_i hz
      cases ev3
      obtain ⟨q, vs, h1, h2, h3, h4, h5, h6⟩ := ol_inv pre.e hl
      refine ⟨_, h1, .inl ⟨rfl, vs, .of h4⟩, k σ H F ρ g pre.e _ _ e1 _ fun v H1 F1 s1 r1 => ?_⟩
      have pre1 := pre.step s1
      have h4' : H1 q = some (.lst vs) := s1.same _ _ h3 h4
      have l1 : vs.length = l.length := h6.length
      obtain ⟨a, ws, rfl, w1, w2, w3⟩ := rp_tup r1
      have l2 : ws.length = m.length := w3.length
      refine ⟨q, a, vs, ws, rfl, rfl, h4', sqT_mono s1.sub w1, by omega, post σ _ F1 (pre1.mut hl rfl h1 rfl (s1.keepN h2 h4) (s1.keepM h3 h4) ⟨q, vs ++ ws, rfl, s1.keepN h2 h4, s1.keepM h3 h4, upd_same, ?_, (h6.mono s1.ext).append w3⟩)⟩
      rw [List.length_append]
      omega
    · cases ev3
  | _ => cases ev3
end
@[simp] theorem sExtV_ap (i : Nat) (f : E) {ρ : Rho} {g : G} : sExtV i f ρ g = (f ρ g).bind fun p => ((olAt ρ i).bind fun l => match p.1 with
    | .tup m => if l.length + m.length ≤ sizeLine then some (Fl.nx (ρ.set i (some (.ol (l ++ m))))) else none
    | _ => none).map fun fl => (fl, p.2) := by
  simp only [sExtV, mb_ap, ml_ap]
end PD
end
section
set_option Elab.async false
set_option linter.all false
set_option maxRecDepth 100000
set_option maxHeartbeats 4000000
set_option autoImplicit false
/-! ### [.. for k in d ..]: d is locked while it is walked; list(d) of a dict of one's own -/
namespace PD
open PySem PySem.Spec L2
open PyProof.Rows hiding St
variable [Live]
theorem lc_semAt {K : PySem.W.Frag} {wi : TI} {sl vs : List Nat} {bd : B} {t : T} {e : E} {it : EA} {σ : St} {H : Hp} {F : Fz} {ρ : Rho} {g : G}
    (kI : ∀ ds g', it ρ g = some (ds, g') → ∀ R : It → Hp → Prop, (∀ J H' F', Stp K g g' F F' H H' → ItS K J (off F' H').h F' ds → R J H') → wi σ H R)
    (hsl : ∀ i ∈ sl, i ∈ vs) (pre : PreE K F H g ρ σ) {ds : List D} {g' : G} (ev : eLcA vs it bd t e ρ g = some (ds, g')) {Q : VK} (q : NewL K F H g g' ds Q) : tLc wi (gB K sl bd) (tTT K t) (tD K e) vs σ H Q := by
  obtain ⟨src, g1, e1, ev⟩ := mb_inv ev
  obtain ⟨out, g2, e2, ev⟩ := mb_inv ev
  have hz : out.length ≤ sizeLine ∧ out = ds ∧ g2 = g' := by
    split at ev
    · obtain ⟨h1, h2⟩ := mr_inv ev
      exact ⟨by assumption, h1.symm, h2.symm⟩
    · cases ev
  obtain ⟨hz, rfl, rfl⟩ := hz
  refine kI src g1 e1 _ fun J H1 F1 s1 it1 L hL => ?_
  obtain ⟨ok, beg⟩ := LI.begin (o := .lst []) pre s1 hL
  exact lc_turns (P := []) ok it1 hsl beg .nil e2 (by simpa using hz) fun H3 F3 ws h3 r3 => q L H3 F3 ws h3.st ok.h0 h3.fl h3.ml h3.hl (by rw [r3.length]; simpa using hz) r3
def aLcK (i : Nat) (vs : List Nat) (bd : B) (t : T) (e : E) : EA := fun ρ => if noFn ρ = true then eLcA vs (aKeys i) bd t e ρ else mz
@[simp] theorem aLcK_ap (i : Nat) (vs : List Nat) (bd : B) (t : T) (e : E) (ρ : Rho) (g : G) : aLcK i vs bd t e ρ g = if noFn ρ = true then eLcA vs (aKeys i) bd t e ρ g else none := by
  unfold aLcK
  split <;> rfl
def keysOf : List Key → List D
  | [] => []
  | .inl i :: r => .int i :: keysOf r
  | .inr x :: r => .str x :: keysOf r
def aKeysL (i : Nat) : EA := fun ρ => ml ((okAt ρ i).bind fun r => if r.1.all (fun k => match k with | .inl _ => true | .inr _ => false) = true ∧ r.1.length ≤ sizeLine then some (keysOf r.1) else none)
theorem keysOf_rp {K : PySem.W.Frag} {F : Fz} : ∀ {kvs : List (Key × V)}, (kvs.map (·.1)).all (fun k => match k with | .inl _ => true | .inr _ => false) = true → RpA K F (kvs.map fun kv => kV kv.1) (keysOf (kvs.map (·.1)))
  | [], _ => .nil
  | (.inl i, v) :: kvs, h => .cons (.int i) (keysOf_rp (kvs := kvs) (by simpa using h))
  | (.inr x, v) :: kvs, h => by simp at h
section
variable {X : Cx} {x : Str} {p q pos : Pos}
theorem po_keysL (i : Nat) (hc : X.calm = true) (hm : X.mg "list" = none) (hN : X.N[i]? = some x := by rfl) (hv : Vis X.env.scope x := by first | exact Or.inl rfl | exact Or.inr (Or.inl rfl) | exact Or.inr (Or.inr rfl))
    (hd : (x == ("__debug__" : Str)) = false := by decide) (hcd : (x == ("__classdict__" : Str)) = false := by decide) (hg : Gl X "list" := by rfl) (he : starEach [.Name x q] X.env = (false, eval (.Name x q) X.env) :: starEach [] X.env := by rfl) : PO X (.Call (.Name "list" p) [.Name x q] [] pos) (aKeysL i) := by
  refine ⟨_, pe_callTy (T := "list") (call_list_dK hc) hg hm (by decide +kernel) (pa_cons (pe_var hN hv hd hcd) pa_nil he) (by decide) (by decide) he (by rfl), fun σ H F ρ g pre ds g' ev Q qq => ?_⟩
  obtain ⟨e1, rfl⟩ := ml_inv ev
  obtain ⟨r, hr0, e2⟩ := Option.bind_eq_some_iff.mp e1
  have hl := okAt_inv hr0
  by_cases hall : r.1.all (fun k => match k with | .inl _ => true | .inr _ => false) = true ∧ r.1.length ≤ sizeLine
  · rw [if_pos hall] at e2
    cases e2
    obtain ⟨v, h1, a, kvs, rfl, h2, h3, h4, h5, h6⟩ := pre.sl.at_ i _ hl
    refine ⟨_, h1, a, kvs, rfl, h4, fun l hl => ?_⟩
    have r1 := keysOf_rp (K := X.K) (F := F) (kvs := kvs) (by rw [h5]; exact hall.1)
    rw [h5] at r1
    refine qq l _ F _ (.allocO pre.sub pre.rep hl) hl (pre.sub.free hl) (pre.rep.out hl) upd_same ?_ r1
    have a1 : kvs.length = r.1.length := by rw [← h5]; simp
    have := hall.2
    rw [List.length_map]
    omega
  · rw [if_neg hall] at e2
    cases e2
end
@[simp] theorem aKeysL_ap (i : Nat) (ρ : Rho) (g : G) : aKeysL i ρ g = ((okAt ρ i).bind fun r => if r.1.all (fun k => match k with | .inl _ => true | .inr _ => false) = true ∧ r.1.length ≤ sizeLine then some (keysOf r.1) else none).map fun d => (d, g) := ml_ap _ _
section
variable {X : Cx} {pos pv : Pos} {elt tg : Expr} {ifs : List Expr} {scope : Scope} {bd : B} {t : T} {fe : E} {sl : List Nat} {x : Str}
theorem po_lcK (i : Nat) (own : List (Str × Nat)) (hc : X.calm = true) (hN : X.N.Nodup) (ok : BlkOk X.N X.env.scope scope own)
    (hg : ∀ (s : Shared) (H : Hp) (C : Addr) (cl : List (Str × Addr)) (fp : List Addr), PDG (X.blk s H scope (compEnvC scope cl C X.env) fp) tg sl bd)
    (ht : ∀ (s : Shared) (H : Hp) (C : Addr) (cl : List (Str × Addr)) (fp : List Addr), PDTs (X.blk s H scope (compEnvC scope cl C X.env) fp) ifs t)
    (he : ∀ (s : Shared) (H : Hp) (C : Addr) (cl : List (Str × Addr)) (fp : List Addr), PD (X.blk s H scope (compEnvC scope cl C X.env) fp) elt fe)
    (hsl : ∀ i ∈ sl, i ∈ own.map (·.2) := by decide) (hs : ∀ y, foldedSetIterable (.Name x pv) X.env y = pure y := by intro _; rfl)
    (hNi : X.N[i]? = some x := by rfl) (hvi : Vis X.env.scope x := by first | exact Or.inl rfl | exact Or.inr (Or.inl rfl) | exact Or.inr (Or.inr rfl))
    (hd : (x == ("__debug__" : Str)) = false := by decide) (hcd : (x == ("__classdict__" : Str)) = false := by decide) :
    PO X (.ListComp elt [⟨tg, .Name x pv, ifs, 0⟩] scope pos) (aLcK i (own.map (·.2)) bd t fe) := by
  have core := pe_lc (pos := pos) (g := gB X.K sl bd) (tt := tTT X.K t) (te := tD X.K fe) hc hN (pi_keys (pe_var (pos := pv) hNi hvi hd hcd)) ok (fun s H C cl fp => (hg s H C cl fp).can) ht (fun s H C cl fp => (he s H C cl fp).can) hs
  refine ⟨_, pe_or2 core (pe_lock core), fun σ H F ρ g pre ds0 g' e1 Q q => ?_⟩
  unfold aLcK at e1
  by_cases hn : noFn ρ = true
  · rw [if_pos hn] at e1
    obtain ⟨src, g2, e2, _⟩ := mb_inv (show (mb (aKeys i ρ) fun ds => _) g = some (ds0, g') from e1)
    obtain ⟨e3, rfl⟩ := ml_inv e2
    obtain ⟨ks, l, hi, hks⟩ : ∃ ks l, ρ[i]? = some (some (.d (.dk ks l))) ∧ keysI ks = some src := by
      split at e3
      · rename_i ks l h; exact ⟨ks, l, h, e3⟩
      · cases e3
    obtain ⟨v, hv1, hv2⟩ := pre.sl.at_ i _ hi
    have hv2 : Rp X.K F v (.dk ks l) := hv2
    cases hv2 with
    | @dk a kvs _ hR hA =>
      have kI : ∀ (F0 : Fz) (H0 : Hp) (o : Obj), PreE X.K F0 H0 g2 ρ σ → F0.h a = some (.frz o (.dK kvs)) → ∀ ds g3, aKeys i ρ g2 = some (ds, g3) → ∀ R : It → Hp → Prop, (∀ J H' F', Stp X.K g2 g3 F0 F' H0 H' → ItS X.K J (off F' H').h F' ds → R J H') → iKeys (fun σ H Q => ∃ v, σ[i]? = some (some v) ∧ Q v H) σ H0 R := fun F0 H0 o pre0 hF0 ds g3 e4 R hR => by
        rw [e2] at e4
        cases e4
        have hm : a ∉ F0.mu := fun z => by
          have := (pre0.rep.mem z).1
          have this : F0.h a = none := this
          rw [hF0] at this; cases this
        have hH0 := pre0.sub _ _ hF0
        exact ⟨.ref a, hv1, a, o, rfl, .inl ⟨kvs, hH0, hR _ _ F0 (.refl pre0.sub pre0.rep) (its_keys hH0 hm hks)⟩⟩
      rcases hR with hR | ⟨o, hR⟩
      · right
        have hH : H a = some (.dK kvs) := pre.sub _ _ hR
        have hm : a ∉ F.mu := fun z => by
          have := (pre.rep.mem z).1
          have this : F.h a = none := this
          rw [hR] at this; cases this
        refine ⟨a, .dK kvs, hH, trivial, fun od => ?_⟩
        have sw : Swp a kvs F ⟨upd F.h a (.frz od (.dK kvs)), F.mu⟩ := ⟨rfl, fun b hb => upd_ne hb, .inl hR, .inr ⟨od, upd_same⟩⟩
        have sub2 : Same (upd F.h a (.frz od (.dK kvs))) (upd H a (.frz od (.dK kvs))) := fun b w h => by
          by_cases e : b = a
          · subst e; rw [upd_same] at h ⊢; exact h
          · rw [upd_ne e] at h ⊢; exact pre.sub b w h
        have pre2 := pre.swap (H2 := upd H a (.frz od (.dK kvs))) sw hn (fun b hb => upd_ne hb) sub2
        refine lc_semAt (kI _ _ od pre2 upd_same) hsl pre2 e1 fun p H' F' kv2 s hp hF hm' hH' hz hr => ?_
        have ha : H' a = some (.frz od (.dK kvs)) := s.same a _ hm upd_same
        have hFa : F'.h a = some (.frz od (.dK kvs)) := s.ext.h a _ upd_same
        have pa : p ≠ a := fun e => by rw [e, upd_same] at hp; cases hp
        have sw2 : Swp a kvs F' ⟨upd F'.h a (.dK kvs), F'.mu⟩ := ⟨rfl, fun b hb => upd_ne hb, .inr ⟨od, hFa⟩, .inl upd_same⟩
        have sub3 : Same (upd F'.h a (.dK kvs)) (upd H' a (.dK kvs)) := fun b w h => by
          by_cases e : b = a
          · subst e; rw [upd_same] at h ⊢; exact h
          · rw [upd_ne e] at h ⊢; exact s.sub b w h
        refine ⟨ha, q p _ ⟨upd F'.h a (.dK kvs), F'.mu⟩ kv2 ⟨fun b w hb h => ?_, fun b h => ?_, ⟨fun b w h => ?_, s.ext.m⟩, fun b w h => ?_, fun b hb => ?_, sub3, s.rep.swap sw2 fun b hb => upd_ne hb⟩ ?_ ?_ hm' ?_ hz (hr.swap sw2)⟩
        · by_cases e : b = a
          · subst e; rw [hH] at h; rw [upd_same]; exact h
          · rw [upd_ne e]; exact s.same b w hb (by rw [upd_ne e]; exact h)
        · by_cases e : b = a
          · subst e; rw [upd_same] at h; cases h
          · rw [upd_ne e] at h
            have := s.mono b h
            rw [upd_ne e] at this
            exact this
        · by_cases e : b = a
          · subst e; rw [hR] at h; show upd F'.h b _ b = _; rw [upd_same]; exact h
          · show upd F'.h a _ b = _
            rw [upd_ne e]; exact s.ext.h b w (by show upd F.h a _ b = _; rw [upd_ne e]; exact h)
        · by_cases e : b = a
          · subst e; exact .inl ⟨_, hR⟩
          · have h : upd F'.h a (.dK kvs) b = some w := h
            rw [upd_ne e] at h
            rcases s.new b w h with ⟨u, hu⟩ | hu
            · have hu : upd F.h a (.frz od (.dK kvs)) b = some u := hu
              rw [upd_ne e] at hu
              exact .inl ⟨u, hu⟩
            · rw [upd_ne e] at hu; exact .inr hu
        · rcases s.newM b hb with h | h
          · exact .inl h
          · by_cases e : b = a
            · subst e; rw [upd_same] at h; cases h
            · rw [upd_ne e] at h; exact .inr h
        · rw [upd_ne pa] at hp; exact hp
        · show upd F'.h a _ p = none
          rw [upd_ne pa]; exact hF
        · rw [upd_ne pa]; exact hH'
      · left
        exact lc_semAt (kI F H o pre hR) hsl pre e1 q
  · rw [if_neg hn] at e1
    cases e1
end
end PD
end
section
set_option Elab.async false
set_option linter.all false
set_option maxRecDepth 100000
set_option maxHeartbeats 4000000
set_option autoImplicit false
/-! Pd91: sorted(tuple of ints). -/
namespace PD
open PySem PySem.Spec L2 PySem.W PySem.Calls
open PyProof.Rows hiding St
variable [Live]
def rSrtTI (K : PySem.W.Frag) : List V → Hp → VK → Prop := fun vs H Q => ∃ (a : Addr) (ns : List Int), vs = [V.ref a] ∧ SqT K H a (ns.map V.int) ∧
  ∀ (ns' : List Int) (p : Addr), ns'.Perm ns → ns'.Pairwise (· ≤ ·) → H p = none → Q (.ref p) (upd H p (.lst (ns'.map V.int)))
theorem sorted_tup {prog : Program} {w : World} {A : Around} {E : Value → Shared → Prop} {s : Shared} {l : Addr} {vs : List Value} {ns : List Int} {Q : Value → Shared → Prop} (hl : IsTup s.heap l vs.toArray) (hI : IntsAre vs ns) (hz : vs.length ≤ sizeLine)
    (h : ∀ (h1 h' : Heap) (out : Array Value) (ns' : List Int) (e : Nat), (∀ b o, s.heap.get? b = some o → h1.get? b = some o) → (∀ b o, h1.get? b = some o → h'.get? b = some o) → h'.get? h1.objs.size = some (seqObj "list" out e) → IntsAre out.toList ns' → ns'.Perm ns → ns'.Pairwise (· ≤ ·) → Q (.ref h1.objs.size) { s with heap := h' }) :
    wpAny (model prog w) A (call (.builtin "sorted") [.ref l]) Q E s := by
  refine Calls.call_function_entry kind_sorted plain_sorted entry_sorted (args_sorted1 _) ?_
  unfold Builtin.«sorted»
  refine wpAny_bind (m := checkCount "sorted" 1 1 _) (wpAny_pure ?_)
  obtain ⟨o, ho, hc, n, hd⟩ := id hl
  refine wpAny_bind (wpAny_collect_seq l (T := "tuple") (items := vs.toArray) (n := n) (.inr rfl) ho hc hd (fun h1 k1 => ?_) (by rw [List.size_toArray]; exact hz))
  have e0 : vs.toArray.toList = vs := rfl
  rw [e0]
  refine wpAny_bind (wpAny_newList ?_ hz)
  have hoL : (h1.push (seqObj "list" vs.toArray 0)).get? h1.objs.size = some (seqObj "list" vs.toArray 0) := Heap.get?_push_size _ rfl
  show wpAny _ _ _ _ _ { s with heap := h1.push (seqObj "list" vs.toArray 0) }
  refine wpAny_bind (wpAny_holding (wpAny_call_entry slot_list_sort ⟨_, hoL, rfl⟩ entry_list_sort (list_sort_treeAny hoL hI hz fun out ns' b1 b2 b3 => ⟨_, rfl, ?_⟩) (args_list_sort _)))
  obtain ⟨e, he⟩ := sortedHeap_at (vs := vs) (out := out) hoL
  refine wpAny_pure ⟨_, rfl, h h1 _ out ns' e k1 (fun b o hb => ?_) he b1 b2 b3⟩
  have hlt := Heap.lt_size hb
  rw [sortedHeap_old (Nat.ne_of_lt hlt) (by rw [size_push']; exact Nat.lt_succ_of_lt hlt)]
  exact Heap.get?_push_of_some _ hb
theorem cr_srtTI {X : Cx} : CallR X (.builtin "sorted") (rSrtTI X.K) := by
  intro pins s σ H vs us Q I r h
  obtain ⟨a, ns, rfl, hs, q⟩ := h
  obtain ⟨its, rv, hl, hz⟩ := I.tuple hs
  rw [Vals.ref1 r]
  have hi := rv.ints
  rw [List.length_map] at hz
  have hlen0 := rv.length
  rw [List.length_map] at hlen0
  refine sorted_tup hl hi (by omega) fun h1 h' out ns' e k1 k2 he b1 b2 b3 => ?_
  have I1 : Inv X pins σ H { s with heap := h1 } := I.kept (t' := s.toks) k1
  have hz2 : (ns'.map V.int).length ≤ sizeLine := by rw [List.length_map, b2.length_eq]; exact hz
  exact ⟨.ref _, upd H h1.objs.size (.lst (ns'.map V.int)), I1.laid (t' := s.toks) k2 (Nat.le_refl _) ⟨hz2, out.toList, e, vals_of_ints b1, he⟩, rfl, q _ _ b2 b3 (I1.hok.fresh (Nat.le_refl _))⟩
/-- sorted of a list as before, or of a tuple of ints -/
abbrev rSrt2 (K : PySem.W.Frag) : List V → Hp → VK → Prop := fun vs H Q => rSrt K vs H Q ∨ rSrtTI K vs H Q
theorem cr_srt2 {X : Cx} : CallR X (.builtin "sorted") (rSrt2 X.K) := fun pins s σ H vs us Q I r h => h.elim (cr_srt pins s σ H vs us Q I r) (cr_srtTI pins s σ H vs us Q I r)
def sortedTM (ds : List D) : Option D := match ds with
  | [.lst l] => (sortD l).map D.lst
  | [.tup l] => if l.all isInt = true then some (.lst (isoD l)) else none
  | _ => none
theorem sortedTM_ok {K : PySem.W.Frag} : CallD K (rSrt2 K) sortedTM := fun F H g vs ds d s r rv e Q q => by
  unfold sortedTM at e
  split at e
  · rename_i l
    exact .inl (sortedM_ok F H g vs [.lst l] d s r rv e Q q)
  · rename_i l
    split at e
    · rename_i hk
      cases e
      obtain ⟨ns, rfl⟩ := isInt_all hk
      cases rv with
      | cons rl t =>
        cases t
        obtain ⟨a, xs, rfl, h1, h2, h3⟩ := rp_tup rl
        have := h3.ints
        subst this
        refine .inr ⟨a, ns, rfl, sqT_mono s h1, fun ns' p p1 p2 hp => ?_⟩
        rw [isoI p1 p2] at q
        exact q _ _ _ (.alloc s r hp) (rp_new_lst (s.free hp) (by rw [List.length_map, p1.length_eq]; rw [List.length_map] at h2; exact h2) (RpA.ofInts ns'))
    · cases e
  · cases e
section
variable {X : Cx} {e : Expr} {fs : EA} {p pos : Pos}
theorem pd_sortedT (hm : X.mg "sorted" = none) (ha : PDA X [e] fs) (hg : Gl X "sorted" := by rfl) (he : starEach [e] X.env = (false, eval e X.env) :: starEach [] X.env := by rfl) : PD X (.Call (.Name "sorted" p) [e] [] pos) (eBi sortedTM fs) :=
  pd_biD cr_srt2 sortedTM_ok hm ha (by decide +kernel) hg (by decide) (by decide) he (by rfl)
end
end PD
end
section
set_option Elab.async false
set_option linter.all false
set_option maxRecDepth 100000
set_option maxHeartbeats 4000000
set_option autoImplicit false
namespace PD
open PySem PySem.Spec L2
open PyProof.Rows hiding St
variable [Live]
/-! ### the new forms, reckoned -/
section
variable {ρ : Rho} {g : G}
@[simp] theorem sAug_ap (i : Nat) (f : E) : sAug i f ρ g = (eVar i ρ g).bind fun p => (f ρ p.2).bind fun q => match p.1, q.1 with
    | .int a, .int b => some (.nx (setR ρ i (.int (a + b))), q.2)
    | _, _ => none := by
  unfold sAug
  rw [mb_ap]
  congr 1
  funext p
  rw [mb_ap]
  congr 1
  funext q
  cases p.1 <;> cases q.1 <;> rfl
@[simp] theorem eGet_ap (a b : E) : eGet a b ρ g = (a ρ g).bind fun p => (b ρ p.2).bind fun q => (getD1 p.1 q.1 .non).map fun d => (d, q.2) := by simp [eGet]
@[simp] theorem eGet2_ap (a b c : E) : eGet2 a b c ρ g = (a ρ g).bind fun p => (b ρ p.2).bind fun q => (c ρ q.2).bind fun r => (getD1 p.1 q.1 r.1).map fun d => (d, r.2) := by simp [eGet2]
@[simp] theorem eCallB_ap (F : List D → M D) (as : EA) : eCallB F as ρ g = (as ρ g).bind fun p => if noHA p.1 = true then (match F p.1 [] with
    | some (d, []) => some (d, p.2)
    | _ => none) else none := by
  unfold eCallB
  exact mb_ap _ _ _
@[simp] theorem eFl_ap (f : E) : eFl f ρ g = (f ρ g).bind fun p => if flatD p.1 = true then some p else none := by
  unfold eFl
  rw [mb_ap]
  congr 1
  funext p
  by_cases h : flatD p.1 = true
  · rw [if_pos h, if_pos h]; rfl
  · rw [if_neg h, if_neg h]; rfl
@[simp] theorem aCopy_ap (i : Nat) : aCopy i ρ g = (olAt ρ i).map fun l => (l, g) := by
  unfold aCopy
  exact ml_ap _ _
@[simp] theorem sStar_ap (n i : Nat) (bd : Bs) (f : E) : sStar n i bd f ρ g = (f ρ g).bind fun p => (match p.1 with
    | .tup l => (starD n i l).bind fun ds => (bd ds ρ).map Fl.nx
    | _ => none).map fun fl => (fl, p.2) := by
  unfold sStar
  rw [mb_ap]
  congr 1
  funext p
  exact ml_ap _ _
@[simp] theorem inG_ap (t : List (Str × Int)) (neg : Bool) (f : E) : inG t neg f ρ g = (f ρ g).bind fun p => match p.1 with
    | .str z => some (.bl (if neg = true then !(tblAt t z).isSome else (tblAt t z).isSome), p.2)
    | _ => none := by
  unfold inG
  rw [mb_ap]
  congr 1
  funext p
  cases p.1 <;> rfl
@[simp] theorem ixG_ap (t : List (Str × Int)) (f : E) : ixG t f ρ g = (f ρ g).bind fun p => match p.1 with
    | .str z => (tblAt t z).map fun i => (.int i, p.2)
    | _ => none := by
  unfold ixG
  rw [mb_ap]
  congr 1
  funext p
  cases p.1 <;> try rfl
  simp only [ml_ap, Option.map_map]
  rfl
@[simp] theorem qSet_ap (i : Nat) (f : E) : qSet i f ρ g = (f ρ g).map fun p => (setR ρ i p.1, p.2) := by
  refine (mb_ap _ _ _).trans ?_
  cases f ρ g <;> rfl
@[simp] theorem gFin_ap (a b : E) : gFin a b ρ g = (a ρ g).bind fun p => (b ρ p.2).map fun q => ((ρ, p.1, q.1), q.2) := by
  refine (mb_ap _ _ _).trans ?_
  congr 1
  funext p
  refine (mb_ap _ _ _).trans ?_
  cases b ρ p.2 <;> rfl
@[simp] theorem gSeq_ap (q : Rho → M Rho) (f : Rho → M (Rho × D × D)) : gSeq q f ρ g = (q ρ g).bind fun p => f p.1 p.2 := mb_ap _ _ _
@[simp] theorem sForG_ap (i : Nat) (it : EA) (bd : B) (b : Rho → M (Rho × D × D)) : sForG i it bd b ρ g = (it ρ g).bind fun p => if isOk0 ρ[i]? = true then (forG bd b p.1 (ρ.set i none) [] p.2).bind fun r => if r.1.2 = [] then none else some (.nx (setR r.1.1 i (dtG r.1.2)), r.2) else none := by
  unfold sForG
  rw [mb_ap]
  congr 1
  funext p
  by_cases h : isOk0 ρ[i]? = true
  · rw [if_pos h, if_pos h, mb_ap]
    congr 1
    funext r
    by_cases h2 : r.1.2 = []
    · rw [if_pos h2, if_pos h2]; rfl
    · rw [if_neg h2, if_neg h2]; rfl
  · rw [if_neg h, if_neg h]; rfl
end
end PD
end
section
set_option Elab.async false
set_option linter.all false
set_option maxRecDepth 100000
set_option maxHeartbeats 0
namespace L_k48
open PySem PySem.Spec PyProof.Rows L2
def top (i : Nat) : Stmt := PySem.Challenge.pw_whocan_k48_blocks_by_hand.main.body.getD i (.Pass ⟨0, 0, 0, 0⟩)
def d_is_whole : He.DefD := ⟨("is_whole", none), "is_whole", "is_whole", defArgs (top 7), defBody (top 7), defScope (top 7), [], []⟩
def d_is_of : He.DefD := ⟨("is_of", none), "is_of", "is_of", defArgs (top 8), defBody (top 8), defScope (top 8), [], []⟩
def d_is_name : He.DefD := ⟨("is_name", none), "is_name", "is_name", defArgs (top 9), defBody (top 9), defScope (top 9), [], []⟩
def d_is_rising : He.DefD := ⟨("is_rising", none), "is_rising", "is_rising", defArgs (top 10), defBody (top 10), defScope (top 10), [], []⟩
def d_rows_of_counts : He.DefD := ⟨("rows_of_counts", none), "rows_of_counts", "rows_of_counts", defArgs (top 17), defBody (top 17), defScope (top 17), [], []⟩
def d_is_tuple : He.DefD := ⟨("is_tuple", none), "is_tuple", "is_tuple", defArgs (top 18), defBody (top 18), defScope (top 18), [], []⟩
def d_is_right_place : He.DefD := ⟨("is_right_place", none), "is_right_place", "is_right_place", defArgs (top 19), defBody (top 19), defScope (top 19), [], []⟩
def d_need_arena : He.DefD := ⟨("need_arena", none), "need_arena", "need_arena", defArgs (top 20), defBody (top 20), defScope (top 20), [], []⟩
def d_next_of : He.DefD := ⟨("next_of", none), "next_of", "next_of", defArgs (top 21), defBody (top 21), defScope (top 21), [], []⟩
def d_is_group : He.DefD := ⟨("is_group", none), "is_group", "is_group", defArgs (top 23), defBody (top 23), defScope (top 23), [], []⟩
def d_rest_of : He.DefD := ⟨("rest_of", none), "rest_of", "rest_of", defArgs (top 24), defBody (top 24), defScope (top 24), [], []⟩
def d_counts_of : He.DefD := ⟨("counts_of", none), "counts_of", "counts_of", defArgs (top 25), defBody (top 25), defScope (top 25), [], []⟩
def d_choices_of : He.DefD := ⟨("choices_of", none), "choices_of", "choices_of", defArgs (top 26), defBody (top 26), defScope (top 26), [], []⟩
def d_answers_of : He.DefD := ⟨("answers_of", none), "answers_of", "answers_of", defArgs (top 27), defBody (top 27), defScope (top 27), [], []⟩
def d_outcome : He.DefD := ⟨("outcome", none), "outcome", "outcome", defArgs (top 28), defBody (top 28), defScope (top 28), [], []⟩
def d_outcomes : He.DefD := ⟨("outcomes", none), "outcomes", "outcomes", defArgs (top 29), defBody (top 29), defScope (top 29), [], []⟩
def d_need_groups : He.DefD := ⟨("need_groups", none), "need_groups", "need_groups", defArgs (top 32), defBody (top 32), defScope (top 32), [], []⟩
def d_kinds_led_to : He.DefD := ⟨("kinds_led_to", none), "kinds_led_to", "kinds_led_to", defArgs (top 33), defBody (top 33), defScope (top 33), [], []⟩
def d_are_covered : He.DefD := ⟨("are_covered", none), "are_covered", "are_covered", defArgs (top 34), defBody (top 34), defScope (top 34), [], []⟩
def d_are_paired : He.DefD := ⟨("are_paired", none), "are_paired", "are_paired", defArgs (top 35), defBody (top 35), defScope (top 35), [], []⟩
def d_tables_of : He.DefD := ⟨("tables_of", none), "tables_of", "tables_of", defArgs (top 36), defBody (top 36), defScope (top 36), [], []⟩
def d_kinds_by_marks : He.DefD := ⟨("kinds_by_marks", none), "kinds_by_marks", "kinds_by_marks", defArgs (top 37), defBody (top 37), defScope (top 37), [], []⟩
def d_split_kinds : He.DefD := ⟨("split_kinds", none), "split_kinds", "split_kinds", defArgs (top 38), defBody (top 38), defScope (top 38), [], []⟩
def d_levels : He.DefD := ⟨("levels", none), "levels", "levels", defArgs (top 39), defBody (top 39), defScope (top 39), [], []⟩
def d_sets_of : He.DefD := ⟨("sets_of", none), "sets_of", "sets_of", defArgs (top 40), defBody (top 40), defScope (top 40), [], []⟩
def d_blocks : He.DefD := ⟨("blocks", none), "blocks", "blocks", defArgs (top 41), defBody (top 41), defScope (top 41), [], []⟩
def d__law_mixed : He.DefD := ⟨("_law_mixed", none), "_law_mixed", "_law_mixed", defArgs (top 43), defBody (top 43), defScope (top 43), [], []⟩
def d__law_folded : He.DefD := ⟨("_law_folded", none), "_law_folded", "_law_folded", defArgs (top 44), defBody (top 44), defScope (top 44), [], []⟩
def d__law_draw : He.DefD := ⟨("_law_draw", none), "_law_draw", "_law_draw", defArgs (top 45), defBody (top 45), defScope (top 45), [], []⟩
def d__law_begun : He.DefD := ⟨("_law_begun", none), "_law_begun", "_law_begun", defArgs (top 46), defBody (top 46), defScope (top 46), [], []⟩
def d__law_tuples : He.DefD := ⟨("_law_tuples", none), "_law_tuples", "_law_tuples", defArgs (top 47), defBody (top 47), defScope (top 47), [], []⟩
def d__law_arena : He.DefD := ⟨("_law_arena", none), "_law_arena", "_law_arena", defArgs (top 48), defBody (top 48), defScope (top 48), [], []⟩
def d__law_twinned : He.DefD := ⟨("_law_twinned", none), "_law_twinned", "_law_twinned", defArgs (top 49), defBody (top 49), defScope (top 49), [], []⟩
def d__law_team : He.DefD := ⟨("_law_team", none), "_law_team", "_law_team", defArgs (top 50), defBody (top 50), defScope (top 50), [], []⟩
def d__law_is_right : He.DefD := ⟨("_law_is_right", none), "_law_is_right", "_law_is_right", defArgs (top 51), defBody (top 51), defScope (top 51), [], []⟩
def d__law_within : He.DefD := ⟨("_law_within", none), "_law_within", "_law_within", defArgs (top 52), defBody (top 52), defScope (top 52), [], []⟩
def d__law_chain : He.DefD := ⟨("_law_chain", none), "_law_chain", "_law_chain", defArgs (top 53), defBody (top 53), defScope (top 53), [], []⟩
def d__law_chains_right : He.DefD := ⟨("_law_chains_right", none), "_law_chains_right", "_law_chains_right", defArgs (top 54), defBody (top 54), defScope (top 54), [], []⟩
def d_law : He.DefD := ⟨("law", none), "law", "law", defArgs (top 55), defBody (top 55), defScope (top 55), [], []⟩
def fn : List He.DefD := ([d_is_whole, d_is_of, d_is_name, d_is_rising, d_rows_of_counts, d_is_tuple, d_is_right_place, d_need_arena, d_next_of, d_is_group, d_rest_of, d_counts_of, d_choices_of, d_answers_of, d_outcome, d_outcomes, d_need_groups, d_kinds_led_to] : List He.DefD) ++ ([d_are_covered, d_are_paired, d_tables_of, d_kinds_by_marks, d_split_kinds, d_levels, d_sets_of, d_blocks, d__law_mixed, d__law_folded, d__law_draw, d__law_begun, d__law_tuples, d__law_arena, d__law_twinned, d__law_team, d__law_is_right, d__law_within] : List He.DefD) ++ ([d__law_chain, d__law_chains_right, d_law] : List He.DefD)
def fa : List He.Fa := ([.glo "is_whole", .glo "is_of", .glo "is_name", .glo "is_rising", .glo "rows_of_counts", .glo "is_tuple", .glo "is_right_place", .glo "need_arena", .glo "next_of", .glo "is_group", .glo "rest_of", .glo "counts_of", .glo "choices_of", .glo "answers_of", .glo "outcome", .glo "outcomes", .glo "need_groups", .glo "kinds_led_to"] : List He.Fa) ++ ([.glo "are_covered", .glo "are_paired", .glo "tables_of", .glo "kinds_by_marks", .glo "split_kinds", .glo "levels", .glo "sets_of", .glo "blocks", .glo "_law_mixed", .glo "_law_folded", .glo "_law_draw", .glo "_law_begun", .glo "_law_tuples", .glo "_law_arena", .glo "_law_twinned", .glo "_law_team", .glo "_law_is_right", .glo "_law_within"] : List He.Fa) ++ ([.glo "_law_chain", .glo "_law_chains_right", .glo "law", .free "ValueError", .free "all", .free "any", .free "bool", .free "enumerate", .free "int", .free "isinstance", .free "len", .free "list", .free "min", .free "range", .free "repr", .free "sorted", .free "str", .free "tuple"] : List He.Fa) ++ ([.free "zip", .str "SMALL" "abcdefghijklmnopqrstuvwxyz", .int "LONGEST" 8, .int "MOST_PLAYERS" 4, .int "MOST_PLACES" 10, .int "MOST_MARKS" 4, .int "MOST_MOVES" 3, .int "MOST_JOINTS" 36, .int "MOST_GROUPS" 6] : List He.Fa)
abbrev R : PySem.W.OpenRow := PySem.W.OpenLaw.row PySem.Challenge.rw_whocan_k48_blocks_by_hand
abbrev hk : PySem.W.Hook := He.hookD 4 fa fn
def ob (s : PySem.W.SharedT) : He.AlD := He.obsDG 4 fa fn (HandSHeadRun.getT s)
theorem ob_eq (s : PySem.W.SharedT) : ob s = hk.obs s.abs := He.obsDG_eq (HandSHeadRun.getT_eq s)
def loose : List PySem.Str := (["Refused", "BadArena", "BadGroup", "SMALL", "LONGEST", "is_whole", "is_of", "is_name", "is_rising", "MOST_PLAYERS", "MOST_PLACES", "MOST_MARKS", "MOST_MOVES", "MOST_JOINTS", "rows_of_counts", "is_tuple", "is_right_place", "need_arena"] : List PySem.Str) ++ (["next_of", "is_group", "rest_of", "counts_of", "choices_of", "answers_of", "outcome", "outcomes", "MOST_GROUPS", "need_groups", "kinds_led_to", "are_covered", "are_paired", "tables_of", "kinds_by_marks", "split_kinds", "levels", "sets_of"] : List PySem.Str) ++ (["blocks", "_law_mixed", "_law_folded", "_law_draw", "_law_begun", "_law_tuples", "_law_arena", "_law_twinned", "_law_team", "_law_is_right", "_law_within", "_law_chain", "_law_chains_right"] : List PySem.Str)
theorem run (w : World) : HandSHeadRun.RunEq R (PySem.W.view R.prog [55]) hk ob 3000 loose w := by
  intro os
  kernel_rfl
end L_k48
end
section
set_option Elab.async false
set_option linter.all false
set_option maxRecDepth 100000
set_option maxHeartbeats 0
set_option autoImplicit false
namespace L_k48
open PySem PySem.Spec L2 PD
open PyProof.Rows hiding St
structure Vn (K : PySem.W.Frag) (mg : Str → Option Value) : Prop where
  b_ValueError : mg "ValueError" = none
  b_all : mg "all" = none
  b_any : mg "any" = none
  b_bool : mg "bool" = none
  b_enumerate : mg "enumerate" = none
  b_int : mg "int" = none
  b_isinstance : mg "isinstance" = none
  b_len : mg "len" = none
  b_list : mg "list" = none
  b_min : mg "min" = none
  b_range : mg "range" = none
  b_repr : mg "repr" = none
  b_sorted : mg "sorted" = none
  b_str : mg "str" = none
  b_tuple : mg "tuple" = none
  b_zip : mg "zip" = none
  c_SMALL : ∃ t, mg "SMALL" = some (.str "abcdefghijklmnopqrstuvwxyz" t)
  c_LONGEST : ∃ t, mg "LONGEST" = some (.int 8 t)
  c_MOST_PLAYERS : ∃ t, mg "MOST_PLAYERS" = some (.int 4 t)
  c_MOST_PLACES : ∃ t, mg "MOST_PLACES" = some (.int 10 t)
  c_MOST_MARKS : ∃ t, mg "MOST_MARKS" = some (.int 4 t)
  c_MOST_MOVES : ∃ t, mg "MOST_MOVES" = some (.int 3 t)
  c_MOST_JOINTS : ∃ t, mg "MOST_JOINTS" = some (.int 36 t)
  c_MOST_GROUPS : ∃ t, mg "MOST_GROUPS" = some (.int 6 t)
  f_is_whole : ∃ a fd, mg "is_whole" = some (.ref a) ∧ FunD K "is_whole" "is_whole" (defArgs (top 7)) (defBody (top 7)) (defScope (top 7)) [] [] a fd
  f_is_of : ∃ a fd, mg "is_of" = some (.ref a) ∧ FunD K "is_of" "is_of" (defArgs (top 8)) (defBody (top 8)) (defScope (top 8)) [] [] a fd
  f_is_name : ∃ a fd, mg "is_name" = some (.ref a) ∧ FunD K "is_name" "is_name" (defArgs (top 9)) (defBody (top 9)) (defScope (top 9)) [] [] a fd
  f_is_rising : ∃ a fd, mg "is_rising" = some (.ref a) ∧ FunD K "is_rising" "is_rising" (defArgs (top 10)) (defBody (top 10)) (defScope (top 10)) [] [] a fd
  f_rows_of_counts : ∃ a fd, mg "rows_of_counts" = some (.ref a) ∧ FunD K "rows_of_counts" "rows_of_counts" (defArgs (top 17)) (defBody (top 17)) (defScope (top 17)) [] [] a fd
  f_is_tuple : ∃ a fd, mg "is_tuple" = some (.ref a) ∧ FunD K "is_tuple" "is_tuple" (defArgs (top 18)) (defBody (top 18)) (defScope (top 18)) [] [] a fd
  f_is_right_place : ∃ a fd, mg "is_right_place" = some (.ref a) ∧ FunD K "is_right_place" "is_right_place" (defArgs (top 19)) (defBody (top 19)) (defScope (top 19)) [] [] a fd
  f_need_arena : ∃ a fd, mg "need_arena" = some (.ref a) ∧ FunD K "need_arena" "need_arena" (defArgs (top 20)) (defBody (top 20)) (defScope (top 20)) [] [] a fd
  f_next_of : ∃ a fd, mg "next_of" = some (.ref a) ∧ FunD K "next_of" "next_of" (defArgs (top 21)) (defBody (top 21)) (defScope (top 21)) [] [] a fd
  f_is_group : ∃ a fd, mg "is_group" = some (.ref a) ∧ FunD K "is_group" "is_group" (defArgs (top 23)) (defBody (top 23)) (defScope (top 23)) [] [] a fd
  f_rest_of : ∃ a fd, mg "rest_of" = some (.ref a) ∧ FunD K "rest_of" "rest_of" (defArgs (top 24)) (defBody (top 24)) (defScope (top 24)) [] [] a fd
  f_counts_of : ∃ a fd, mg "counts_of" = some (.ref a) ∧ FunD K "counts_of" "counts_of" (defArgs (top 25)) (defBody (top 25)) (defScope (top 25)) [] [] a fd
  f_choices_of : ∃ a fd, mg "choices_of" = some (.ref a) ∧ FunD K "choices_of" "choices_of" (defArgs (top 26)) (defBody (top 26)) (defScope (top 26)) [] [] a fd
  f_answers_of : ∃ a fd, mg "answers_of" = some (.ref a) ∧ FunD K "answers_of" "answers_of" (defArgs (top 27)) (defBody (top 27)) (defScope (top 27)) [] [] a fd
  f_outcome : ∃ a fd, mg "outcome" = some (.ref a) ∧ FunD K "outcome" "outcome" (defArgs (top 28)) (defBody (top 28)) (defScope (top 28)) [] [] a fd
  f_outcomes : ∃ a fd, mg "outcomes" = some (.ref a) ∧ FunD K "outcomes" "outcomes" (defArgs (top 29)) (defBody (top 29)) (defScope (top 29)) [] [] a fd
  f_need_groups : ∃ a fd, mg "need_groups" = some (.ref a) ∧ FunD K "need_groups" "need_groups" (defArgs (top 32)) (defBody (top 32)) (defScope (top 32)) [] [] a fd
  f_kinds_led_to : ∃ a fd, mg "kinds_led_to" = some (.ref a) ∧ FunD K "kinds_led_to" "kinds_led_to" (defArgs (top 33)) (defBody (top 33)) (defScope (top 33)) [] [] a fd
  f_are_covered : ∃ a fd, mg "are_covered" = some (.ref a) ∧ FunD K "are_covered" "are_covered" (defArgs (top 34)) (defBody (top 34)) (defScope (top 34)) [] [] a fd
  f_are_paired : ∃ a fd, mg "are_paired" = some (.ref a) ∧ FunD K "are_paired" "are_paired" (defArgs (top 35)) (defBody (top 35)) (defScope (top 35)) [] [] a fd
  f_tables_of : ∃ a fd, mg "tables_of" = some (.ref a) ∧ FunD K "tables_of" "tables_of" (defArgs (top 36)) (defBody (top 36)) (defScope (top 36)) [] [] a fd
  f_kinds_by_marks : ∃ a fd, mg "kinds_by_marks" = some (.ref a) ∧ FunD K "kinds_by_marks" "kinds_by_marks" (defArgs (top 37)) (defBody (top 37)) (defScope (top 37)) [] [] a fd
  f_split_kinds : ∃ a fd, mg "split_kinds" = some (.ref a) ∧ FunD K "split_kinds" "split_kinds" (defArgs (top 38)) (defBody (top 38)) (defScope (top 38)) [] [] a fd
  f_levels : ∃ a fd, mg "levels" = some (.ref a) ∧ FunD K "levels" "levels" (defArgs (top 39)) (defBody (top 39)) (defScope (top 39)) [] [] a fd
  f_sets_of : ∃ a fd, mg "sets_of" = some (.ref a) ∧ FunD K "sets_of" "sets_of" (defArgs (top 40)) (defBody (top 40)) (defScope (top 40)) [] [] a fd
  f_blocks : ∃ a fd, mg "blocks" = some (.ref a) ∧ FunD K "blocks" "blocks" (defArgs (top 41)) (defBody (top 41)) (defScope (top 41)) [] [] a fd
  f__law_mixed : ∃ a fd, mg "_law_mixed" = some (.ref a) ∧ FunD K "_law_mixed" "_law_mixed" (defArgs (top 43)) (defBody (top 43)) (defScope (top 43)) [] [] a fd
  f__law_folded : ∃ a fd, mg "_law_folded" = some (.ref a) ∧ FunD K "_law_folded" "_law_folded" (defArgs (top 44)) (defBody (top 44)) (defScope (top 44)) [] [] a fd
  f__law_draw : ∃ a fd, mg "_law_draw" = some (.ref a) ∧ FunD K "_law_draw" "_law_draw" (defArgs (top 45)) (defBody (top 45)) (defScope (top 45)) [] [] a fd
  f__law_begun : ∃ a fd, mg "_law_begun" = some (.ref a) ∧ FunD K "_law_begun" "_law_begun" (defArgs (top 46)) (defBody (top 46)) (defScope (top 46)) [] [] a fd
  f__law_tuples : ∃ a fd, mg "_law_tuples" = some (.ref a) ∧ FunD K "_law_tuples" "_law_tuples" (defArgs (top 47)) (defBody (top 47)) (defScope (top 47)) [] [] a fd
  f__law_arena : ∃ a fd, mg "_law_arena" = some (.ref a) ∧ FunD K "_law_arena" "_law_arena" (defArgs (top 48)) (defBody (top 48)) (defScope (top 48)) [] [] a fd
  f__law_twinned : ∃ a fd, mg "_law_twinned" = some (.ref a) ∧ FunD K "_law_twinned" "_law_twinned" (defArgs (top 49)) (defBody (top 49)) (defScope (top 49)) [] [] a fd
  f__law_team : ∃ a fd, mg "_law_team" = some (.ref a) ∧ FunD K "_law_team" "_law_team" (defArgs (top 50)) (defBody (top 50)) (defScope (top 50)) [] [] a fd
  f__law_is_right : ∃ a fd, mg "_law_is_right" = some (.ref a) ∧ FunD K "_law_is_right" "_law_is_right" (defArgs (top 51)) (defBody (top 51)) (defScope (top 51)) [] [] a fd
  f__law_within : ∃ a fd, mg "_law_within" = some (.ref a) ∧ FunD K "_law_within" "_law_within" (defArgs (top 52)) (defBody (top 52)) (defScope (top 52)) [] [] a fd
  f__law_chain : ∃ a fd, mg "_law_chain" = some (.ref a) ∧ FunD K "_law_chain" "_law_chain" (defArgs (top 53)) (defBody (top 53)) (defScope (top 53)) [] [] a fd
  f__law_chains_right : ∃ a fd, mg "_law_chains_right" = some (.ref a) ∧ FunD K "_law_chains_right" "_law_chains_right" (defArgs (top 54)) (defBody (top 54)) (defScope (top 54)) [] [] a fd
  f_law : ∃ a fd, mg "law" = some (.ref a) ∧ FunD K "law" "law" (defArgs (top 55)) (defBody (top 55)) (defScope (top 55)) [] [] a fd
noncomputable def s_is_whole : S := (sRet (eAnd (eIsi .int (eVar 0)) (eAnd (eNot (eIsi .bool (eVar 0))) (eChain leD leD (eVar 1) (eVar 0) (eVar 2)))))
noncomputable def F_is_whole : List D → M D := runF 3 s_is_whole
theorem sc_is_whole : FnScope ["thing", "least", "most"] ["thing", "least", "most"] (defScope (top 7)) := ⟨rfl, rfl, rfl, by decide +kernel, rfl, by decide +kernel, by decide +kernel⟩
theorem g_is_whole {P : Program} {w : World} {K : PySem.W.Frag} {mg : Str → Option Value} {base : Heap} {a : Addr} {fd : FuncData} (V : Vn K mg) (FF : FunD K "is_whole" "is_whole" (defArgs (top 7)) (defBody (top 7)) (defScope (top 7)) [] [] a fd) : FnG P w K mg base CX0 1 a fd ["thing", "least", "most"] (spD K 3 F_is_whole) := by
  have sc := sc_is_whole
  refine fn_dG (k := 0) FF sc fun cdv A outer s H E hr gd => ?_
  exact (pdss_one (pds_ret (pd_and (pd_isi .int rfl V.b_isinstance V.b_int (pd_var 0).weak) (pd_and (pd_not (pd_isi .bool rfl V.b_isinstance V.b_bool (pd_var 0).weak)) (pd_one (pd_chain op_leA op_leA leD_ok leD_ok (pd_var 1).weak (pd_var 0).weak (pd_var 2).weak))))))
theorem w_is_whole {P : Program} {w : World} {K : PySem.W.Frag} {mg : Str → Option Value} {base : Heap} (V : Vn K mg) : FnD P w K mg base 1 "is_whole" 3 F_is_whole := by
  obtain ⟨a, fd, hm, FF⟩ := V.f_is_whole
  exact ⟨a, fd, ["thing", "least", "most"], hm, FF.kp, binds_of (FunD.bindsA (ps := ["thing", "least", "most"]) FF fun _ _ _ _ _ _ us hl => match us, hl with | [_, _, _], _ => rfl), g_is_whole V FF⟩
noncomputable def s_is_of : S := (sRet (eAnd (eIsi .str (eVar 0)) (eAnd (eChain leD leD (eC (.int 1)) (eBi lenD (aCons (eVar 0) aNil)) (eVar 2)) (eBi allD (aCons (eO (eLcA [3] (aItem (eVar 0)) (bName 3) tYesD (eCmp inD (eVar 3) (eVar 1)))) aNil)))))
noncomputable def F_is_of : List D → M D := runF 4 s_is_of
theorem sc_is_of : FnScope ["thing", "signs", "most", "sign"] ["thing", "signs", "most"] (defScope (top 8)) := ⟨rfl, rfl, rfl, by decide +kernel, rfl, by decide +kernel, by decide +kernel⟩
theorem g_is_of {P : Program} {w : World} {K : PySem.W.Frag} {mg : Str → Option Value} {base : Heap} {a : Addr} {fd : FuncData} (V : Vn K mg) (FF : FunD K "is_of" "is_of" (defArgs (top 8)) (defBody (top 8)) (defScope (top 8)) [] [] a fd) : FnG P w K mg base CX0 1 a fd ["thing", "signs", "most"] (spD K 3 F_is_of) := by
  have sc := sc_is_of
  refine fn_dG (k := 0) FF sc fun cdv A outer s H E hr gd => ?_
  exact (pdss_one (pds_ret (pd_and (pd_isi .str rfl V.b_isinstance V.b_str (pd_var 0).weak) (pd_and (pd_chain op_leA op_leA leD_ok leD_ok (pd_int).weak (pd_len V.b_len (pba_cons (pd_var 0).weak pba_nil)).weak (pd_var 2).weak) (pd_one (pd_all rfl V.b_all (pba_cons (pd_new (po_lc [("sign", 3)] rfl sc.nd (pdi_val (pd_var 0)).weak (blk_of (by rfl)) (fun _ _ _ _ _ => (pdg_name 3 sc.nd)) (fun _ _ _ _ _ => pdts_nil) (fun _ _ _ _ _ => (pd_cmp (op_inA (hu65 hr)) inD_ok (pd_var 3).weak (pd_var 1).weak)))).weak pba_nil)))))))
theorem w_is_of {P : Program} {w : World} {K : PySem.W.Frag} {mg : Str → Option Value} {base : Heap} (V : Vn K mg) : FnD P w K mg base 1 "is_of" 3 F_is_of := by
  obtain ⟨a, fd, hm, FF⟩ := V.f_is_of
  exact ⟨a, fd, ["thing", "signs", "most"], hm, FF.kp, binds_of (FunD.bindsA (ps := ["thing", "signs", "most"]) FF fun _ _ _ _ _ _ us hl => match us, hl with | [_, _, _], _ => rfl), g_is_of V FF⟩
noncomputable def s_is_name : S := (sRet (eCall F_is_of (aCons (eVar 0) (aCons (eC (.str "abcdefghijklmnopqrstuvwxyz")) (aCons (eC (.int 8)) aNil)))))
noncomputable def F_is_name : List D → M D := runF 1 s_is_name
theorem sc_is_name : FnScope ["thing"] ["thing"] (defScope (top 9)) := ⟨rfl, rfl, rfl, by decide +kernel, rfl, by decide +kernel, by decide +kernel⟩
theorem g_is_name {P : Program} {w : World} {K : PySem.W.Frag} {mg : Str → Option Value} {base : Heap} {a : Addr} {fd : FuncData} (V : Vn K mg) (FF : FunD K "is_name" "is_name" (defArgs (top 9)) (defBody (top 9)) (defScope (top 9)) [] [] a fd) : FnG P w K mg base CX0 2 a fd ["thing"] (spD K 1 F_is_name) := by
  have sc := sc_is_name
  refine fn_dG (k := 1) FF sc fun cdv A outer s H E hr gd => ?_
  exact (pdss_one (pds_ret (pd_call (w_is_of V) (hr.mono (by decide)) gd (pda_cons (pd_var 0) (pda_cons (pd_gstr V.c_SMALL) (pda_cons (pd_gint V.c_LONGEST) pda_nil))) (aCons_len (aCons_len (aCons_len aNil_len))))))
theorem w_is_name {P : Program} {w : World} {K : PySem.W.Frag} {mg : Str → Option Value} {base : Heap} (V : Vn K mg) : FnD P w K mg base 2 "is_name" 1 F_is_name := by
  obtain ⟨a, fd, hm, FF⟩ := V.f_is_name
  exact ⟨a, fd, ["thing"], hm, FF.kp, binds_of (FunD.bindsA (ps := ["thing"]) FF fun _ _ _ _ _ _ us hl => match us, hl with | [_], _ => rfl), g_is_name V FF⟩
noncomputable def s_is_rising : S := (sSeq (sIf (tOr (tNot (tE (eIsi .tup (eVar 0)))) (tNot (tE (eBi allD (aCons (eO (eLcA [1] (aItem (eVar 0)) (bName 1) tYesD (eCall F_is_name (aCons (eVar 1) aNil)))) aNil))))) (sRet (eC (.bl false))) sNil)
  (sRet (eBi allD (aCons (eO (eLcA [1, 2] (aIt zipM (aCons (eVar 0) (aCons (eSl (eVar 0) (pSome (eC (.int 1))) pNone) aNil))) (bTup (bsCons (bName 1) (bsCons (bName 2) bsNil))) tYesD (eCmp ltD (eVar 1) (eVar 2)))) aNil))))
noncomputable def F_is_rising : List D → M D := runF 3 s_is_rising
theorem sc_is_rising : FnScope ["thing", "one", "other"] ["thing"] (defScope (top 10)) := ⟨rfl, rfl, rfl, by decide +kernel, rfl, by decide +kernel, by decide +kernel⟩
theorem g_is_rising {P : Program} {w : World} {K : PySem.W.Frag} {mg : Str → Option Value} {base : Heap} {a : Addr} {fd : FuncData} (V : Vn K mg) (FF : FunD K "is_rising" "is_rising" (defArgs (top 10)) (defBody (top 10)) (defScope (top 10)) [] [] a fd) : FnG P w K mg base CX0 3 a fd ["thing"] (spD K 1 F_is_rising) := by
  have sc := sc_is_rising
  refine fn_dG (k := 2) FF sc fun cdv A outer s H E hr gd => ?_
  exact (pdss_cons (pds_if (pdw_or (pdt_not (pdt_val (pd_isi .tup rfl V.b_isinstance V.b_tuple (pd_var 0).weak))) (pdw_or1 (pdt_not (pdt_val (pd_all rfl V.b_all (pba_cons (pd_new (po_lc [("one", 1)] rfl sc.nd (pdi_val (pd_var 0)).weak (blk_of (by rfl)) (fun _ _ _ _ _ => (pdg_name 1 sc.nd)) (fun _ _ _ _ _ => pdts_nil) (fun _ _ _ _ _ => (pd_call (w_is_name V) (hr.mono (by decide)) gd (pda_cons (pd_var 1) pda_nil) (aCons_len aNil_len))))).weak pba_nil)))))).pt (pdss_one (pds_ret pd_bl)) pdss_nil)
  (pdss_one (pds_ret (pd_all rfl V.b_all (pba_cons (pd_new (po_lc [("one", 1), ("other", 2)] rfl sc.nd (pdi_zip V.b_zip (pda_cons (pd_var 0) (pda_cons (pd_slice (pd_var 0) (pdp_some pd_int) pdp_none) pda_nil))).weak (blk_of (by rfl)) (fun _ _ _ _ _ => (pdg_tup rfl (pdgs_cons (pdg_name 1 sc.nd) (pdgs_cons (pdg_name 2 sc.nd) pdgs_nil)))) (fun _ _ _ _ _ => pdts_nil) (fun _ _ _ _ _ => (pd_cmp (op_ltA (hu0 hr)) ltD_ok (pd_var 1).weak (pd_var 2).weak)))).weak pba_nil)))))
theorem w_is_rising {P : Program} {w : World} {K : PySem.W.Frag} {mg : Str → Option Value} {base : Heap} (V : Vn K mg) : FnD P w K mg base 3 "is_rising" 1 F_is_rising := by
  obtain ⟨a, fd, hm, FF⟩ := V.f_is_rising
  exact ⟨a, fd, ["thing"], hm, FF.kp, binds_of (FunD.bindsA (ps := ["thing"]) FF fun _ _ _ _ _ _ us hl => match us, hl with | [_], _ => rfl), g_is_rising V FF⟩
noncomputable def s_rows_of_counts : S := (sSeq (sSet 1 (eLst (aCons (eTup aNil) aNil)))
  (sSeq (sFor (aItem (eVar 0)) (bName 2) (sSet 1 (eO (eLc2A [3, 4] [4] (aItem (eVar 1)) (bName 3) tYesD (aIt range1M (aCons (eVar 2) aNil)) (bName 4) tYesD (eOp addD (eVar 3) (eTup (aCons (eVar 4) aNil)))))))
  (sRet (eVar 1))))
noncomputable def F_rows_of_counts : List D → M D := runF 5 s_rows_of_counts
theorem sc_rows_of_counts : FnScope ["counts", "found", "count", "row", "move"] ["counts"] (defScope (top 17)) := ⟨rfl, rfl, rfl, by decide +kernel, rfl, by decide +kernel, by decide +kernel⟩
theorem g_rows_of_counts {P : Program} {w : World} {K : PySem.W.Frag} {mg : Str → Option Value} {base : Heap} {a : Addr} {fd : FuncData} (V : Vn K mg) (FF : FunD K "rows_of_counts" "rows_of_counts" (defArgs (top 17)) (defBody (top 17)) (defScope (top 17)) [] [] a fd) : FnG P w K mg base CX0 1 a fd ["counts"] (spD K 1 F_rows_of_counts) := by
  have sc := sc_rows_of_counts
  refine fn_dG (k := 0) FF sc fun cdv A outer s H E hr gd => ?_
  exact (pdss_cons (pds_set 1 sc.nd (pd_lst (pda_cons (pd_tup pda_nil) pda_nil)))
  (pdss_cons (pds_for rfl (pdi_val (pd_var 0)) (pdg_name 2 sc.nd) (pdss_one (pds_setLc2 1 [("row", 3), ("move", 4)] [4] rfl sc.nd (pdi_val (pd_var 1)).weak (blk_of (by rfl)) (fun _ _ _ _ _ => (pdg_name 3 sc.nd)) (fun _ _ _ _ _ => pdts_nil) (fun _ _ _ _ _ => (pdi_range1 V.b_range (pda_cons (pd_var 2) pda_nil))) (fun _ _ _ _ _ => (pdg_name 4 sc.nd)) (fun _ _ _ _ _ => pdts_nil) (fun _ _ _ _ _ => (pd_add (pd_var 3) (pd_tup (pda_cons (pd_var 4) pda_nil)))) (sw_true rfl rfl rfl (by decide +kernel)))))
  (pdss_one (pds_ret (pd_var 1)))))
theorem w_rows_of_counts {P : Program} {w : World} {K : PySem.W.Frag} {mg : Str → Option Value} {base : Heap} (V : Vn K mg) : FnD P w K mg base 1 "rows_of_counts" 1 F_rows_of_counts := by
  obtain ⟨a, fd, hm, FF⟩ := V.f_rows_of_counts
  exact ⟨a, fd, ["counts"], hm, FF.kp, binds_of (FunD.bindsA (ps := ["counts"]) FF fun _ _ _ _ _ _ us hl => match us, hl with | [_], _ => rfl), g_rows_of_counts V FF⟩
noncomputable def s_is_tuple : S := (sRet (eAnd (eIsi .tup (eVar 0)) (eChain leD leD (eVar 1) (eBi lenD (aCons (eVar 0) aNil)) (eVar 2))))
noncomputable def F_is_tuple : List D → M D := runF 3 s_is_tuple
theorem sc_is_tuple : FnScope ["thing", "least", "most"] ["thing", "least", "most"] (defScope (top 18)) := ⟨rfl, rfl, rfl, by decide +kernel, rfl, by decide +kernel, by decide +kernel⟩
theorem g_is_tuple {P : Program} {w : World} {K : PySem.W.Frag} {mg : Str → Option Value} {base : Heap} {a : Addr} {fd : FuncData} (V : Vn K mg) (FF : FunD K "is_tuple" "is_tuple" (defArgs (top 18)) (defBody (top 18)) (defScope (top 18)) [] [] a fd) : FnG P w K mg base CX0 1 a fd ["thing", "least", "most"] (spD K 3 F_is_tuple) := by
  have sc := sc_is_tuple
  refine fn_dG (k := 0) FF sc fun cdv A outer s H E hr gd => ?_
  exact (pdss_one (pds_ret (pd_and (pd_isi .tup rfl V.b_isinstance V.b_tuple (pd_var 0).weak) (pd_one (pd_chain op_leA op_leA leD_ok leD_ok (pd_var 1).weak (pd_len V.b_len (pba_cons (pd_var 0).weak pba_nil)).weak (pd_var 2).weak)))))
theorem w_is_tuple {P : Program} {w : World} {K : PySem.W.Frag} {mg : Str → Option Value} {base : Heap} (V : Vn K mg) : FnD P w K mg base 1 "is_tuple" 3 F_is_tuple := by
  obtain ⟨a, fd, hm, FF⟩ := V.f_is_tuple
  exact ⟨a, fd, ["thing", "least", "most"], hm, FF.kp, binds_of (FunD.bindsA (ps := ["thing", "least", "most"]) FF fun _ _ _ _ _ _ us hl => match us, hl with | [_, _, _], _ => rfl), g_is_tuple V FF⟩
noncomputable def s_is_right_place : S := (sSeq (sIf (tNot (tE (eCall F_is_tuple (aCons (eVar 0) (aCons (eC (.int 3)) (aCons (eC (.int 3)) aNil)))))) (sRet (eC (.bl false))) sNil)
  (sSeq (sAsg (bTup (bsCons (bName 3) (bsCons (bName 4) (bsCons (bName 5) bsNil)))) (eVar 0))
  (sSeq (sIf (tOr (tNot (tE (eCall F_is_rising (aCons (eVar 3) aNil)))) (tOr (tCmp gtD (eBi lenD (aCons (eVar 3) aNil)) (eC (.int 4))) (tNot (tE (eCall F_is_tuple (aCons (eVar 4) (aCons (eVar 1) (aCons (eVar 1) aNil)))))))) (sRet (eC (.bl false))) sNil)
  (sSeq (sIf (tNot (tE (eBi allD (aCons (eO (eLcA [7] (aItem (eVar 4)) (bName 7) tYesD (eCall F_is_whole (aCons (eVar 7) (aCons (eC (.int 1)) (aCons (eC (.int 3)) aNil)))))) aNil)))) (sRet (eC (.bl false))) sNil)
  (sSeq (sSet 6 (eBi lenD (aCons (eCall F_rows_of_counts (aCons (eVar 4) aNil)) aNil)))
  (sRet (eAnd (eCmp leD (eVar 6) (eC (.int 36))) (eAnd (eCall F_is_tuple (aCons (eVar 5) (aCons (eVar 6) (aCons (eVar 6) aNil)))) (eBi allD (aCons (eO (eLcA [8] (aItem (eVar 5)) (bName 8) tYesD (eCall F_is_whole (aCons (eVar 8) (aCons (eC (.int 0)) (aCons (eOp subD (eVar 2) (eC (.int 1))) aNil)))))) aNil))))))))))
noncomputable def F_is_right_place : List D → M D := runF 9 s_is_right_place
theorem sc_is_right_place : FnScope ["thing", "players", "places", "marks", "counts", "nexts", "many", "count", "one"] ["thing", "players", "places"] (defScope (top 19)) := ⟨rfl, rfl, rfl, by decide +kernel, rfl, by decide +kernel, by decide +kernel⟩
theorem g_is_right_place {P : Program} {w : World} {K : PySem.W.Frag} {mg : Str → Option Value} {base : Heap} {a : Addr} {fd : FuncData} (V : Vn K mg) (FF : FunD K "is_right_place" "is_right_place" (defArgs (top 19)) (defBody (top 19)) (defScope (top 19)) [] [] a fd) : FnG P w K mg base CX0 4 a fd ["thing", "players", "places"] (spD K 3 F_is_right_place) := by
  have sc := sc_is_right_place
  refine fn_dG (k := 3) FF sc fun cdv A outer s H E hr gd => ?_
  exact (pdss_cons (pds_if (pdt_not (pdt_val (pd_call (w_is_tuple V) (hr.mono (by decide)) gd (pda_cons (pd_var 0) (pda_cons pd_int (pda_cons pd_int pda_nil))) (aCons_len (aCons_len (aCons_len aNil_len)))))) (pdss_one (pds_ret pd_bl)) pdss_nil)
  (pdss_cons (pds_asg (pd_var 0) (pdg_tup rfl (pdgs_cons (pdg_name 3 sc.nd) (pdgs_cons (pdg_name 4 sc.nd) (pdgs_cons (pdg_name 5 sc.nd) pdgs_nil)))))
  (pdss_cons (pds_if (pdw_or (pdt_not (pdt_val (pd_call (w_is_rising V) (hr.mono (by decide)) gd (pda_cons (pd_var 3) pda_nil) (aCons_len aNil_len)))) (pdw_or (pdt_cmp op_gtA gtD_ok (pd_len V.b_len (pba_cons (pd_var 3).weak pba_nil)).weak (pd_gint V.c_MOST_MARKS).weak) (pdw_or1 (pdt_not (pdt_val (pd_call (w_is_tuple V) (hr.mono (by decide)) gd (pda_cons (pd_var 4) (pda_cons (pd_var 1) (pda_cons (pd_var 1) pda_nil))) (aCons_len (aCons_len (aCons_len aNil_len))))))))).pt (pdss_one (pds_ret pd_bl)) pdss_nil)
  (pdss_cons (pds_if (pdt_not (pdt_val (pd_all rfl V.b_all (pba_cons (pd_new (po_lc [("count", 7)] rfl sc.nd (pdi_val (pd_var 4)).weak (blk_of (by rfl)) (fun _ _ _ _ _ => (pdg_name 7 sc.nd)) (fun _ _ _ _ _ => pdts_nil) (fun _ _ _ _ _ => (pd_call (w_is_whole V) (hr.mono (by decide)) gd (pda_cons (pd_var 7) (pda_cons pd_int (pda_cons (pd_gint V.c_MOST_MOVES) pda_nil))) (aCons_len (aCons_len (aCons_len aNil_len))))))).weak pba_nil)))) (pdss_one (pds_ret pd_bl)) pdss_nil)
  (pdss_cons (pds_set 6 sc.nd (pd_len V.b_len (pba_cons (pd_call (w_rows_of_counts V) (hr.mono (by decide)) gd (pda_cons (pd_var 4) pda_nil) (aCons_len aNil_len)).weak pba_nil)))
  (pdss_one (pds_ret (pd_and (pd_cmp op_leA leD_ok (pd_var 6).weak (pd_gint V.c_MOST_JOINTS).weak) (pd_and (pd_call (w_is_tuple V) (hr.mono (by decide)) gd (pda_cons (pd_var 5) (pda_cons (pd_var 6) (pda_cons (pd_var 6) pda_nil))) (aCons_len (aCons_len (aCons_len aNil_len)))) (pd_one (pd_all rfl V.b_all (pba_cons (pd_new (po_lc [("one", 8)] rfl sc.nd (pdi_val (pd_var 5)).weak (blk_of (by rfl)) (fun _ _ _ _ _ => (pdg_name 8 sc.nd)) (fun _ _ _ _ _ => pdts_nil) (fun _ _ _ _ _ => (pd_call (w_is_whole V) (hr.mono (by decide)) gd (pda_cons (pd_var 8) (pda_cons pd_int (pda_cons (pd_sub (pd_var 2) pd_int) pda_nil))) (aCons_len (aCons_len (aCons_len aNil_len))))))).weak pba_nil))))))))))))
theorem w_is_right_place {P : Program} {w : World} {K : PySem.W.Frag} {mg : Str → Option Value} {base : Heap} (V : Vn K mg) : FnD P w K mg base 4 "is_right_place" 3 F_is_right_place := by
  obtain ⟨a, fd, hm, FF⟩ := V.f_is_right_place
  exact ⟨a, fd, ["thing", "players", "places"], hm, FF.kp, binds_of (FunD.bindsA (ps := ["thing", "players", "places"]) FF fun _ _ _ _ _ _ us hl => match us, hl with | [_, _, _], _ => rfl), g_is_right_place V FF⟩
noncomputable def s_need_arena : S := (sSeq (sIf (tOr (tNot (tE (eCall F_is_tuple (aCons (eVar 0) (aCons (eC (.int 2)) (aCons (eC (.int 2)) aNil)))))) (tNot (tE (eCall F_is_tuple (aCons (eIx (eVar 0) (eC (.int 1))) (aCons (eC (.int 1)) (aCons (eC (.int 10)) aNil))))))) sNever sNil)
  (sSeq (sAsg (bTup (bsCons (bName 1) (bsCons (bName 2) bsNil))) (eVar 0))
  (sSeq (sIf (tOr (tNot (tE (eCall F_is_rising (aCons (eVar 1) aNil)))) (tNot (tE (eChain leD leD (eC (.int 1)) (eBi lenD (aCons (eVar 1) aNil)) (eC (.int 4)))))) sNever sNil)
  (sFor (aIt enumM (aCons (eVar 2) aNil)) (bTup (bsCons (bName 3) (bsCons (bName 4) bsNil))) (sIf (tNot (tE (eCall F_is_right_place (aCons (eVar 4) (aCons (eBi lenD (aCons (eVar 1) aNil)) (aCons (eBi lenD (aCons (eVar 2) aNil)) aNil)))))) sNever sNil)))))
noncomputable def F_need_arena : List D → M D := runF 5 s_need_arena
theorem sc_need_arena : FnScope ["thing", "players", "places", "number", "place"] ["thing"] (defScope (top 20)) := ⟨rfl, rfl, rfl, by decide +kernel, rfl, by decide +kernel, by decide +kernel⟩
theorem g_need_arena {P : Program} {w : World} {K : PySem.W.Frag} {mg : Str → Option Value} {base : Heap} {a : Addr} {fd : FuncData} (V : Vn K mg) (FF : FunD K "need_arena" "need_arena" (defArgs (top 20)) (defBody (top 20)) (defScope (top 20)) [] [] a fd) : FnG P w K mg base CX0 5 a fd ["thing"] (spD K 1 F_need_arena) := by
  have sc := sc_need_arena
  refine fn_dG (k := 4) FF sc fun cdv A outer s H E hr gd => ?_
  exact (pdss_cons (pds_if (pdw_or (pdt_not (pdt_val (pd_call (w_is_tuple V) (hr.mono (by decide)) gd (pda_cons (pd_var 0) (pda_cons pd_int (pda_cons pd_int pda_nil))) (aCons_len (aCons_len (aCons_len aNil_len)))))) (pdw_or1 (pdt_not (pdt_val (pd_call (w_is_tuple V) (hr.mono (by decide)) gd (pda_cons (pd_ix hr (pd_var 0) pd_int) (pda_cons pd_int (pda_cons (pd_gint V.c_MOST_PLACES) pda_nil))) (aCons_len (aCons_len (aCons_len aNil_len)))))))).pt (pdss_one pds_never) pdss_nil)
  (pdss_cons (pds_asg (pd_var 0) (pdg_tup rfl (pdgs_cons (pdg_name 1 sc.nd) (pdgs_cons (pdg_name 2 sc.nd) pdgs_nil))))
  (pdss_cons (pds_if (pdw_or (pdt_not (pdt_val (pd_call (w_is_rising V) (hr.mono (by decide)) gd (pda_cons (pd_var 1) pda_nil) (aCons_len aNil_len)))) (pdw_or1 (pdt_not (pdt_chain op_leA op_leA leD_ok leD_ok (pd_int).weak (pd_len V.b_len (pba_cons (pd_var 1).weak pba_nil)).weak (pd_gint V.c_MOST_PLAYERS).weak)))).pt (pdss_one pds_never) pdss_nil)
  (pdss_one (pds_for rfl (pdi_enum V.b_enumerate (pda_cons (pd_var 2) pda_nil)) (pdg_tup rfl (pdgs_cons (pdg_name 3 sc.nd) (pdgs_cons (pdg_name 4 sc.nd) pdgs_nil))) (pdss_one (pds_if (pdt_not (pdt_val (pd_call (w_is_right_place V) (hr.mono (by decide)) gd (pda_cons (pd_var 4) (pda_cons (pd_len V.b_len (pba_cons (pd_var 1).weak pba_nil)) (pda_cons (pd_len V.b_len (pba_cons (pd_var 2).weak pba_nil)) pda_nil))) (aCons_len (aCons_len (aCons_len aNil_len)))))) (pdss_one pds_never) pdss_nil)))))))
theorem w_need_arena {P : Program} {w : World} {K : PySem.W.Frag} {mg : Str → Option Value} {base : Heap} (V : Vn K mg) : FnD P w K mg base 5 "need_arena" 1 F_need_arena := by
  obtain ⟨a, fd, hm, FF⟩ := V.f_need_arena
  exact ⟨a, fd, ["thing"], hm, FF.kp, binds_of (FunD.bindsA (ps := ["thing"]) FF fun _ _ _ _ _ _ us hl => match us, hl with | [_], _ => rfl), g_need_arena V FF⟩
noncomputable def s_next_of : S := (sSeq (sAsg (bTup (bsCons (bName 3) (bsCons (bName 4) (bsCons (bName 5) bsNil)))) (eIx (eIx (eVar 0) (eC (.int 1))) (eVar 1)))
  (sSeq (sSet 6 (eC (.int 0)))
  (sSeq (sFor (aIt zipM (aCons (eVar 2) (aCons (eVar 4) aNil))) (bTup (bsCons (bName 7) (bsCons (bName 8) bsNil))) (sSet 6 (eOp addD (eOp dMul (eVar 6) (eVar 8)) (eVar 7))))
  (sRet (eIx (eVar 5) (eVar 6))))))
noncomputable def F_next_of : List D → M D := runF 9 s_next_of
theorem sc_next_of : FnScope ["arena", "place", "joint", "marks", "counts", "nexts", "at", "move", "count"] ["arena", "place", "joint"] (defScope (top 21)) := ⟨rfl, rfl, rfl, by decide +kernel, rfl, by decide +kernel, by decide +kernel⟩
theorem g_next_of {P : Program} {w : World} {K : PySem.W.Frag} {mg : Str → Option Value} {base : Heap} {a : Addr} {fd : FuncData} (V : Vn K mg) (FF : FunD K "next_of" "next_of" (defArgs (top 21)) (defBody (top 21)) (defScope (top 21)) [] [] a fd) : FnG P w K mg base CX0 1 a fd ["arena", "place", "joint"] (spD K 3 F_next_of) := by
  have sc := sc_next_of
  refine fn_dG (k := 0) FF sc fun cdv A outer s H E hr gd => ?_
  exact (pdss_cons (pds_asg (pd_ix hr (pd_ix hr (pd_var 0) pd_int) (pd_var 1)) (pdg_tup rfl (pdgs_cons (pdg_name 3 sc.nd) (pdgs_cons (pdg_name 4 sc.nd) (pdgs_cons (pdg_name 5 sc.nd) pdgs_nil)))))
  (pdss_cons (pds_set 6 sc.nd pd_int)
  (pdss_cons (pds_for rfl (pdi_zip V.b_zip (pda_cons (pd_var 2) (pda_cons (pd_var 4) pda_nil))) (pdg_tup rfl (pdgs_cons (pdg_name 7 sc.nd) (pdgs_cons (pdg_name 8 sc.nd) pdgs_nil))) (pdss_one (pds_set 6 sc.nd (pd_add (pd_mul (pd_var 6) (pd_var 8)) (pd_var 7)))))
  (pdss_one (pds_ret (pd_ix hr (pd_var 5) (pd_var 6)))))))
theorem w_next_of {P : Program} {w : World} {K : PySem.W.Frag} {mg : Str → Option Value} {base : Heap} (V : Vn K mg) : FnD P w K mg base 1 "next_of" 3 F_next_of := by
  obtain ⟨a, fd, hm, FF⟩ := V.f_next_of
  exact ⟨a, fd, ["arena", "place", "joint"], hm, FF.kp, binds_of (FunD.bindsA (ps := ["arena", "place", "joint"]) FF fun _ _ _ _ _ _ us hl => match us, hl with | [_, _, _], _ => rfl), g_next_of V FF⟩
noncomputable def s_is_group : S := (sRet (eAnd (eCall F_is_rising (aCons (eVar 1) aNil)) (eBi allD (aCons (eO (eLcA [2] (aItem (eVar 1)) (bName 2) tYesD (eCmp inD (eVar 2) (eIx (eVar 0) (eC (.int 0)))))) aNil))))
noncomputable def F_is_group : List D → M D := runF 3 s_is_group
theorem sc_is_group : FnScope ["arena", "thing", "name"] ["arena", "thing"] (defScope (top 23)) := ⟨rfl, rfl, rfl, by decide +kernel, rfl, by decide +kernel, by decide +kernel⟩
theorem g_is_group {P : Program} {w : World} {K : PySem.W.Frag} {mg : Str → Option Value} {base : Heap} {a : Addr} {fd : FuncData} (V : Vn K mg) (FF : FunD K "is_group" "is_group" (defArgs (top 23)) (defBody (top 23)) (defScope (top 23)) [] [] a fd) : FnG P w K mg base CX0 4 a fd ["arena", "thing"] (spD K 2 F_is_group) := by
  have sc := sc_is_group
  refine fn_dG (k := 3) FF sc fun cdv A outer s H E hr gd => ?_
  exact (pdss_one (pds_ret (pd_and (pd_call (w_is_rising V) (hr.mono (by decide)) gd (pda_cons (pd_var 1) pda_nil) (aCons_len aNil_len)) (pd_one (pd_all rfl V.b_all (pba_cons (pd_new (po_lc [("name", 2)] rfl sc.nd (pdi_val (pd_var 1)).weak (blk_of (by rfl)) (fun _ _ _ _ _ => (pdg_name 2 sc.nd)) (fun _ _ _ _ _ => pdts_nil) (fun _ _ _ _ _ => (pd_cmp (op_inA (hu65 hr)) inD_ok (pd_var 2).weak (pd_ix hr (pd_var 0) pd_int).weak)))).weak pba_nil))))))
theorem w_is_group {P : Program} {w : World} {K : PySem.W.Frag} {mg : Str → Option Value} {base : Heap} (V : Vn K mg) : FnD P w K mg base 4 "is_group" 2 F_is_group := by
  obtain ⟨a, fd, hm, FF⟩ := V.f_is_group
  exact ⟨a, fd, ["arena", "thing"], hm, FF.kp, binds_of (FunD.bindsA (ps := ["arena", "thing"]) FF fun _ _ _ _ _ _ us hl => match us, hl with | [_, _], _ => rfl), g_is_group V FF⟩
noncomputable def s_rest_of : S := (sRet (eBi tupleD (aCons (eO (eLcA [2] (aItem (eIx (eVar 0) (eC (.int 0)))) (bName 2) (tCmp notInD (eVar 2) (eVar 1)) (eVar 2))) aNil)))
noncomputable def F_rest_of : List D → M D := runF 3 s_rest_of
theorem sc_rest_of : FnScope ["arena", "group", "name"] ["arena", "group"] (defScope (top 24)) := ⟨rfl, rfl, rfl, by decide +kernel, rfl, by decide +kernel, by decide +kernel⟩
theorem g_rest_of {P : Program} {w : World} {K : PySem.W.Frag} {mg : Str → Option Value} {base : Heap} {a : Addr} {fd : FuncData} (V : Vn K mg) (FF : FunD K "rest_of" "rest_of" (defArgs (top 24)) (defBody (top 24)) (defScope (top 24)) [] [] a fd) : FnG P w K mg base CX0 1 a fd ["arena", "group"] (spD K 2 F_rest_of) := by
  have sc := sc_rest_of
  refine fn_dG (k := 0) FF sc fun cdv A outer s H E hr gd => ?_
  exact (pdss_one (pds_ret (pd_tuple V.b_tuple (pda_cons (pd_new (po_lc [("name", 2)] rfl sc.nd (pdi_val (pd_ix hr (pd_var 0) pd_int)).weak (blk_of (by rfl)) (fun _ _ _ _ _ => (pdg_name 2 sc.nd)) (fun _ _ _ _ _ => (pdts_one (pdt_cmp (op_notInA (hu65 hr)) notInD_ok (pd_var 2).weak (pd_var 1).weak))) (fun _ _ _ _ _ => (pd_var 2)))) pda_nil))))
theorem w_rest_of {P : Program} {w : World} {K : PySem.W.Frag} {mg : Str → Option Value} {base : Heap} (V : Vn K mg) : FnD P w K mg base 1 "rest_of" 2 F_rest_of := by
  obtain ⟨a, fd, hm, FF⟩ := V.f_rest_of
  exact ⟨a, fd, ["arena", "group"], hm, FF.kp, binds_of (FunD.bindsA (ps := ["arena", "group"]) FF fun _ _ _ _ _ _ us hl => match us, hl with | [_, _], _ => rfl), g_rest_of V FF⟩
noncomputable def s_counts_of : S := (sRet (eO (eLcA [3, 4] (aIt zipM (aCons (eIx (eVar 0) (eC (.int 0))) (aCons (eIx (eIx (eIx (eVar 0) (eC (.int 1))) (eVar 2)) (eC (.int 1))) aNil))) (bTup (bsCons (bName 3) (bsCons (bName 4) bsNil))) (tCmp inD (eVar 3) (eVar 1)) (eVar 4))))
noncomputable def F_counts_of : List D → M D := runF 5 s_counts_of
theorem sc_counts_of : FnScope ["arena", "group", "place", "name", "count"] ["arena", "group", "place"] (defScope (top 25)) := ⟨rfl, rfl, rfl, by decide +kernel, rfl, by decide +kernel, by decide +kernel⟩
theorem g_counts_of {P : Program} {w : World} {K : PySem.W.Frag} {mg : Str → Option Value} {base : Heap} {a : Addr} {fd : FuncData} (V : Vn K mg) (FF : FunD K "counts_of" "counts_of" (defArgs (top 25)) (defBody (top 25)) (defScope (top 25)) [] [] a fd) : FnG P w K mg base CX0 1 a fd ["arena", "group", "place"] (spD K 3 F_counts_of) := by
  have sc := sc_counts_of
  refine fn_dG (k := 0) FF sc fun cdv A outer s H E hr gd => ?_
  exact (pdss_one (pds_ret (pd_new (po_lc [("name", 3), ("count", 4)] rfl sc.nd (pdi_zip V.b_zip (pda_cons (pd_ix hr (pd_var 0) pd_int) (pda_cons (pd_ix hr (pd_ix hr (pd_ix hr (pd_var 0) pd_int) (pd_var 2)) pd_int) pda_nil))).weak (blk_of (by rfl)) (fun _ _ _ _ _ => (pdg_tup rfl (pdgs_cons (pdg_name 3 sc.nd) (pdgs_cons (pdg_name 4 sc.nd) pdgs_nil)))) (fun _ _ _ _ _ => (pdts_one (pdt_cmp (op_inA (hu65 hr)) inD_ok (pd_var 3).weak (pd_var 1).weak))) (fun _ _ _ _ _ => (pd_var 4))))))
theorem w_counts_of {P : Program} {w : World} {K : PySem.W.Frag} {mg : Str → Option Value} {base : Heap} (V : Vn K mg) : FnD P w K mg base 1 "counts_of" 3 F_counts_of := by
  obtain ⟨a, fd, hm, FF⟩ := V.f_counts_of
  exact ⟨a, fd, ["arena", "group", "place"], hm, FF.kp, binds_of (FunD.bindsA (ps := ["arena", "group", "place"]) FF fun _ _ _ _ _ _ us hl => match us, hl with | [_, _, _], _ => rfl), g_counts_of V FF⟩
noncomputable def s_choices_of : S := (sRet (eCall F_rows_of_counts (aCons (eCall F_counts_of (aCons (eVar 0) (aCons (eVar 1) (aCons (eVar 2) aNil)))) aNil)))
noncomputable def F_choices_of : List D → M D := runF 3 s_choices_of
theorem sc_choices_of : FnScope ["arena", "group", "place"] ["arena", "group", "place"] (defScope (top 26)) := ⟨rfl, rfl, rfl, by decide +kernel, rfl, by decide +kernel, by decide +kernel⟩
theorem g_choices_of {P : Program} {w : World} {K : PySem.W.Frag} {mg : Str → Option Value} {base : Heap} {a : Addr} {fd : FuncData} (V : Vn K mg) (FF : FunD K "choices_of" "choices_of" (defArgs (top 26)) (defBody (top 26)) (defScope (top 26)) [] [] a fd) : FnG P w K mg base CX0 2 a fd ["arena", "group", "place"] (spD K 3 F_choices_of) := by
  have sc := sc_choices_of
  refine fn_dG (k := 1) FF sc fun cdv A outer s H E hr gd => ?_
  exact (pdss_one (pds_ret (pd_call (w_rows_of_counts V) (hr.mono (by decide)) gd (pda_cons (pd_call (w_counts_of V) (hr.mono (by decide)) gd (pda_cons (pd_var 0) (pda_cons (pd_var 1) (pda_cons (pd_var 2) pda_nil))) (aCons_len (aCons_len (aCons_len aNil_len)))) pda_nil) (aCons_len aNil_len))))
theorem w_choices_of {P : Program} {w : World} {K : PySem.W.Frag} {mg : Str → Option Value} {base : Heap} (V : Vn K mg) : FnD P w K mg base 2 "choices_of" 3 F_choices_of := by
  obtain ⟨a, fd, hm, FF⟩ := V.f_choices_of
  exact ⟨a, fd, ["arena", "group", "place"], hm, FF.kp, binds_of (FunD.bindsA (ps := ["arena", "group", "place"]) FF fun _ _ _ _ _ _ us hl => match us, hl with | [_, _, _], _ => rfl), g_choices_of V FF⟩
noncomputable def s_answers_of : S := (sRet (eCall F_choices_of (aCons (eVar 0) (aCons (eCall F_rest_of (aCons (eVar 0) (aCons (eVar 1) aNil))) (aCons (eVar 2) aNil)))))
noncomputable def F_answers_of : List D → M D := runF 3 s_answers_of
theorem sc_answers_of : FnScope ["arena", "group", "place"] ["arena", "group", "place"] (defScope (top 27)) := ⟨rfl, rfl, rfl, by decide +kernel, rfl, by decide +kernel, by decide +kernel⟩
theorem g_answers_of {P : Program} {w : World} {K : PySem.W.Frag} {mg : Str → Option Value} {base : Heap} {a : Addr} {fd : FuncData} (V : Vn K mg) (FF : FunD K "answers_of" "answers_of" (defArgs (top 27)) (defBody (top 27)) (defScope (top 27)) [] [] a fd) : FnG P w K mg base CX0 3 a fd ["arena", "group", "place"] (spD K 3 F_answers_of) := by
  have sc := sc_answers_of
  refine fn_dG (k := 2) FF sc fun cdv A outer s H E hr gd => ?_
  exact (pdss_one (pds_ret (pd_call (w_choices_of V) (hr.mono (by decide)) gd (pda_cons (pd_var 0) (pda_cons (pd_call (w_rest_of V) (hr.mono (by decide)) gd (pda_cons (pd_var 0) (pda_cons (pd_var 1) pda_nil)) (aCons_len (aCons_len aNil_len))) (pda_cons (pd_var 2) pda_nil))) (aCons_len (aCons_len (aCons_len aNil_len))))))
theorem w_answers_of {P : Program} {w : World} {K : PySem.W.Frag} {mg : Str → Option Value} {base : Heap} (V : Vn K mg) : FnD P w K mg base 3 "answers_of" 3 F_answers_of := by
  obtain ⟨a, fd, hm, FF⟩ := V.f_answers_of
  exact ⟨a, fd, ["arena", "group", "place"], hm, FF.kp, binds_of (FunD.bindsA (ps := ["arena", "group", "place"]) FF fun _ _ _ _ _ _ us hl => match us, hl with | [_, _, _], _ => rfl), g_answers_of V FF⟩
noncomputable def s_outcome : S := (sSeq (sSetV 5 (vK (eDcA [6, 7] (aIt zipM (aCons (eVar 1) (aCons (eVar 3) aNil))) (bTup (bsCons (bName 6) (bsCons (bName 7) bsNil))) tYesD (eVar 6) (eVar 7))))
  (sSeq (sUpdate 5 (eDcA [6, 7] (aIt zipM (aCons (eCall F_rest_of (aCons (eVar 0) (aCons (eVar 1) aNil))) (aCons (eVar 4) aNil))) (bTup (bsCons (bName 6) (bsCons (bName 7) bsNil))) tYesD (eVar 6) (eVar 7)))
  (sRet (eCall F_next_of (aCons (eVar 0) (aCons (eVar 2) (aCons (eO (eLcA [6] (aItem (eIx (eVar 0) (eC (.int 0)))) (bName 6) tYesD (eIxO 5 (eVar 6)))) aNil)))))))
noncomputable def F_outcome : List D → M D := runF 8 s_outcome
theorem sc_outcome : FnScope ["arena", "group", "place", "choice", "answer", "moves", "name", "move"] ["arena", "group", "place", "choice", "answer"] (defScope (top 28)) := ⟨rfl, rfl, rfl, by decide +kernel, rfl, by decide +kernel, by decide +kernel⟩
theorem g_outcome {P : Program} {w : World} {K : PySem.W.Frag} {mg : Str → Option Value} {base : Heap} {a : Addr} {fd : FuncData} (V : Vn K mg) (FF : FunD K "outcome" "outcome" (defArgs (top 28)) (defBody (top 28)) (defScope (top 28)) [] [] a fd) : FnG P w K mg base CX0 2 a fd ["arena", "group", "place", "choice", "answer"] (spD K 5 F_outcome) := by
  have sc := sc_outcome
  refine fn_dG (k := 1) FF sc fun cdv A outer s H E hr gd => ?_
  exact (pdss_cons (pds_setV 5 sc.nd (pv_ok (pk_dc [("name", 6), ("move", 7)] rfl sc.nd (pdi_zip V.b_zip (pda_cons (pd_var 1) (pda_cons (pd_var 3) pda_nil))).weak (blk_of (by rfl)) (fun _ _ _ _ _ => (pdg_tup rfl (pdgs_cons (pdg_name 6 sc.nd) (pdgs_cons (pdg_name 7 sc.nd) pdgs_nil)))) (fun _ _ _ _ _ => pdts_nil) (fun _ _ _ _ _ => (pd_var 6)) (fun _ _ _ _ _ => (pd_var 7)))))
  (pdss_cons (pds_update 5 (pk_dc [("name", 6), ("move", 7)] rfl sc.nd (pdi_zip V.b_zip (pda_cons (pd_call (w_rest_of V) (hr.mono (by decide)) gd (pda_cons (pd_var 0) (pda_cons (pd_var 1) pda_nil)) (aCons_len (aCons_len aNil_len))) (pda_cons (pd_var 4) pda_nil))).weak (blk_of (by rfl)) (fun _ _ _ _ _ => (pdg_tup rfl (pdgs_cons (pdg_name 6 sc.nd) (pdgs_cons (pdg_name 7 sc.nd) pdgs_nil)))) (fun _ _ _ _ _ => pdts_nil) (fun _ _ _ _ _ => (pd_var 6)) (fun _ _ _ _ _ => (pd_var 7))))
  (pdss_one (pds_ret (pd_call (w_next_of V) (hr.mono (by decide)) gd (pda_cons (pd_var 0) (pda_cons (pd_var 2) (pda_cons (pd_new (po_lc [("name", 6)] rfl sc.nd (pdi_val (pd_ix hr (pd_var 0) pd_int)).weak (blk_of (by rfl)) (fun _ _ _ _ _ => (pdg_name 6 sc.nd)) (fun _ _ _ _ _ => pdts_nil) (fun _ _ _ _ _ => (pd_ixo hr 5 (pd_var 6))))) pda_nil))) (aCons_len (aCons_len (aCons_len aNil_len))))))))
theorem w_outcome {P : Program} {w : World} {K : PySem.W.Frag} {mg : Str → Option Value} {base : Heap} (V : Vn K mg) : FnD P w K mg base 2 "outcome" 5 F_outcome := by
  obtain ⟨a, fd, hm, FF⟩ := V.f_outcome
  exact ⟨a, fd, ["arena", "group", "place", "choice", "answer"], hm, FF.kp, binds_of (FunD.bindsA (ps := ["arena", "group", "place", "choice", "answer"]) FF fun _ _ _ _ _ _ us hl => match us, hl with | [_, _, _, _, _], _ => rfl), g_outcome V FF⟩
noncomputable def s_outcomes : S := (sSeq (sSetV 3 (vL (aSz aNil)))
  (sSeq (sFor (aItem (eCall F_choices_of (aCons (eVar 0) (aCons (eVar 1) (aCons (eVar 2) aNil))))) (bName 4) (sSeq (sSet 5 (eO (eLcA [6] (aItem (eCall F_answers_of (aCons (eVar 0) (aCons (eVar 1) (aCons (eVar 2) aNil))))) (bName 6) tYesD (eTup (aCons (eVar 6) (aCons (eCall F_outcome (aCons (eVar 0) (aCons (eVar 1) (aCons (eVar 2) (aCons (eVar 4) (aCons (eVar 6) aNil)))))) aNil))))))
  (sAppend 3 (eTup (aCons (eVar 4) (aCons (eVar 5) aNil))))))
  (sFrz 3 (sRet (eVar 3)))))
noncomputable def F_outcomes : List D → M D := runF 7 s_outcomes
theorem sc_outcomes : FnScope ["arena", "group", "place", "found", "choice", "rows", "one"] ["arena", "group", "place"] (defScope (top 29)) := ⟨rfl, rfl, rfl, by decide +kernel, rfl, by decide +kernel, by decide +kernel⟩
theorem g_outcomes {P : Program} {w : World} {K : PySem.W.Frag} {mg : Str → Option Value} {base : Heap} {a : Addr} {fd : FuncData} (V : Vn K mg) (FF : FunD K "outcomes" "outcomes" (defArgs (top 29)) (defBody (top 29)) (defScope (top 29)) [] [] a fd) : FnG P w K mg base CX0 4 a fd ["arena", "group", "place"] (spD K 3 F_outcomes) := by
  have sc := sc_outcomes
  refine fn_dG (k := 3) FF sc fun cdv A outer s H E hr gd => ?_
  exact (pdss_cons (pds_setV 3 sc.nd (pv_ol (po_lst pda_nil)))
  (pdss_cons (pds_for rfl (pdi_val (pd_call (w_choices_of V) (hr.mono (by decide)) gd (pda_cons (pd_var 0) (pda_cons (pd_var 1) (pda_cons (pd_var 2) pda_nil))) (aCons_len (aCons_len (aCons_len aNil_len))))) (pdg_name 4 sc.nd) (pdss_cons (pds_setLc 5 [("one", 6)] rfl sc.nd (pdi_val (pd_call (w_answers_of V) (hr.mono (by decide)) gd (pda_cons (pd_var 0) (pda_cons (pd_var 1) (pda_cons (pd_var 2) pda_nil))) (aCons_len (aCons_len (aCons_len aNil_len))))).weak (blk_of (by rfl)) (fun _ _ _ _ _ => (pdg_name 6 sc.nd)) (fun _ _ _ _ _ => pdts_nil) (fun _ _ _ _ _ => (pd_tup (pda_cons (pd_var 6) (pda_cons (pd_call (w_outcome V) (hr.mono (by decide)) gd (pda_cons (pd_var 0) (pda_cons (pd_var 1) (pda_cons (pd_var 2) (pda_cons (pd_var 4) (pda_cons (pd_var 6) pda_nil))))) (aCons_len (aCons_len (aCons_len (aCons_len (aCons_len aNil_len)))))) pda_nil)))) (sw_true rfl rfl rfl (by decide +kernel)))
  (pdss_one (pds_append 3 (pd_tup (pda_cons (pd_var 4) (pda_cons (pd_var 5) pda_nil)))))))
  (pdss_frz 3 (pdss_one (pds_ret (pd_var 3))))))
theorem w_outcomes {P : Program} {w : World} {K : PySem.W.Frag} {mg : Str → Option Value} {base : Heap} (V : Vn K mg) : FnD P w K mg base 4 "outcomes" 3 F_outcomes := by
  obtain ⟨a, fd, hm, FF⟩ := V.f_outcomes
  exact ⟨a, fd, ["arena", "group", "place"], hm, FF.kp, binds_of (FunD.bindsA (ps := ["arena", "group", "place"]) FF fun _ _ _ _ _ _ us hl => match us, hl with | [_, _, _], _ => rfl), g_outcomes V FF⟩
noncomputable def s_need_groups : S := (sSeq (sExpr (eCall F_need_arena (aCons (eVar 0) aNil)))
  (sSeq (sIf (tOr (tNot (tE (eIsi .tup (eVar 1)))) (tNot (tE (eChain leD leD (eC (.int 1)) (eBi lenD (aCons (eVar 1) aNil)) (eC (.int 6)))))) sNever sNil)
  (sIf (tNot (tE (eBi allD (aCons (eO (eLcA [2] (aItem (eVar 1)) (bName 2) tYesD (eCall F_is_group (aCons (eVar 0) (aCons (eVar 2) aNil))))) aNil)))) sNever sNil)))
noncomputable def F_need_groups : List D → M D := runF 3 s_need_groups
theorem sc_need_groups : FnScope ["arena", "groups", "group"] ["arena", "groups"] (defScope (top 32)) := ⟨rfl, rfl, rfl, by decide +kernel, rfl, by decide +kernel, by decide +kernel⟩
theorem g_need_groups {P : Program} {w : World} {K : PySem.W.Frag} {mg : Str → Option Value} {base : Heap} {a : Addr} {fd : FuncData} (V : Vn K mg) (FF : FunD K "need_groups" "need_groups" (defArgs (top 32)) (defBody (top 32)) (defScope (top 32)) [] [] a fd) : FnG P w K mg base CX0 6 a fd ["arena", "groups"] (spD K 2 F_need_groups) := by
  have sc := sc_need_groups
  refine fn_dG (k := 5) FF sc fun cdv A outer s H E hr gd => ?_
  exact (pdss_cons (pds_expr (pd_call (w_need_arena V) (hr.mono (by decide)) gd (pda_cons (pd_var 0) pda_nil) (aCons_len aNil_len)))
  (pdss_cons (pds_if (pdw_or (pdt_not (pdt_val (pd_isi .tup rfl V.b_isinstance V.b_tuple (pd_var 1).weak))) (pdw_or1 (pdt_not (pdt_chain op_leA op_leA leD_ok leD_ok (pd_int).weak (pd_len V.b_len (pba_cons (pd_var 1).weak pba_nil)).weak (pd_gint V.c_MOST_GROUPS).weak)))).pt (pdss_one pds_never) pdss_nil)
  (pdss_one (pds_if (pdt_not (pdt_val (pd_all rfl V.b_all (pba_cons (pd_new (po_lc [("group", 2)] rfl sc.nd (pdi_val (pd_var 1)).weak (blk_of (by rfl)) (fun _ _ _ _ _ => (pdg_name 2 sc.nd)) (fun _ _ _ _ _ => pdts_nil) (fun _ _ _ _ _ => (pd_call (w_is_group V) (hr.mono (by decide)) gd (pda_cons (pd_var 0) (pda_cons (pd_var 2) pda_nil)) (aCons_len (aCons_len aNil_len)))))).weak pba_nil)))) (pdss_one pds_never) pdss_nil))))
theorem w_need_groups {P : Program} {w : World} {K : PySem.W.Frag} {mg : Str → Option Value} {base : Heap} (V : Vn K mg) : FnD P w K mg base 6 "need_groups" 2 F_need_groups := by
  obtain ⟨a, fd, hm, FF⟩ := V.f_need_groups
  exact ⟨a, fd, ["arena", "groups"], hm, FF.kp, binds_of (FunD.bindsA (ps := ["arena", "groups"]) FF fun _ _ _ _ _ _ us hl => match us, hl with | [_, _], _ => rfl), g_need_groups V FF⟩
noncomputable def s_kinds_led_to : S := (sRet (eO (eLcA [3, 4] (aItem (eIx (eVar 0) (eVar 1))) (bTup (bsCons (bName 3) (bsCons (bName 4) bsNil))) tYesD (eKd (eDcA [5, 6] (aItem (eVar 4)) (bTup (bsCons (bName 5) (bsCons (bName 6) bsNil))) tYesD (eIx (eVar 2) (eVar 6)) (eC (.bl true)))))))
noncomputable def F_kinds_led_to : List D → M D := runF 7 s_kinds_led_to
theorem sc_kinds_led_to : FnScope ["table", "place", "kinds", "choice", "rows", "answer", "there"] ["table", "place", "kinds"] (defScope (top 33)) := ⟨rfl, rfl, rfl, by decide +kernel, rfl, by decide +kernel, by decide +kernel⟩
theorem g_kinds_led_to {P : Program} {w : World} {K : PySem.W.Frag} {mg : Str → Option Value} {base : Heap} {a : Addr} {fd : FuncData} (V : Vn K mg) (FF : FunD K "kinds_led_to" "kinds_led_to" (defArgs (top 33)) (defBody (top 33)) (defScope (top 33)) [] [] a fd) : FnG P w K mg base CX0 1 a fd ["table", "place", "kinds"] (spD K 3 F_kinds_led_to) := by
  have sc := sc_kinds_led_to
  refine fn_dG (k := 0) FF sc fun cdv A outer s H E hr gd => ?_
  exact (pdss_one (pds_ret (pd_new (po_lc [("choice", 3), ("rows", 4)] rfl sc.nd (pdi_val (pd_ix hr (pd_var 0) (pd_var 1))).weak (blk_of (by rfl)) (fun _ _ _ _ _ => (pdg_tup rfl (pdgs_cons (pdg_name 3 sc.nd) (pdgs_cons (pdg_name 4 sc.nd) pdgs_nil)))) (fun _ _ _ _ _ => pdts_nil) (fun _ _ _ _ _ => (pd_newK (pk_dc [("answer", 5), ("there", 6)] rfl sc.nd (pdi_val (pd_var 4)).weak (blk_of (by rfl)) (fun _ _ _ _ _ => (pdg_tup rfl (pdgs_cons (pdg_name 5 sc.nd) (pdgs_cons (pdg_name 6 sc.nd) pdgs_nil)))) (fun _ _ _ _ _ => pdts_nil) (fun _ _ _ _ _ => (pd_ix hr (pd_var 2) (pd_var 6))) (fun _ _ _ _ _ => pd_bl))))))))
theorem w_kinds_led_to {P : Program} {w : World} {K : PySem.W.Frag} {mg : Str → Option Value} {base : Heap} (V : Vn K mg) : FnD P w K mg base 1 "kinds_led_to" 3 F_kinds_led_to := by
  obtain ⟨a, fd, hm, FF⟩ := V.f_kinds_led_to
  exact ⟨a, fd, ["table", "place", "kinds"], hm, FF.kp, binds_of (FunD.bindsA (ps := ["table", "place", "kinds"]) FF fun _ _ _ _ _ _ us hl => match us, hl with | [_, _, _], _ => rfl), g_kinds_led_to V FF⟩
noncomputable def s_are_covered : S := (sRet (eBi allD (aCons (eO (eLcA [2] (aItem (eVar 0)) (bName 2) tYesD (eBi anyD (aCons (eO (eLcA [3] (aItem (eVar 1)) (bName 3) tYesD (eBi allD (aCons (eO (aLcK 3 [4] (bName 4) tYesD (eCmp inD (eVar 4) (eVar 2)))) aNil)))) aNil)))) aNil)))
noncomputable def F_are_covered : List D → M D := runF 5 s_are_covered
theorem sc_are_covered : FnScope ["some", "others", "mine", "theirs", "one"] ["some", "others"] (defScope (top 34)) := ⟨rfl, rfl, rfl, by decide +kernel, rfl, by decide +kernel, by decide +kernel⟩
theorem g_are_covered {P : Program} {w : World} {K : PySem.W.Frag} {mg : Str → Option Value} {base : Heap} {a : Addr} {fd : FuncData} (V : Vn K mg) (FF : FunD K "are_covered" "are_covered" (defArgs (top 34)) (defBody (top 34)) (defScope (top 34)) [] [] a fd) : FnG P w K mg base CX0 1 a fd ["some", "others"] (spD K 2 F_are_covered) := by
  have sc := sc_are_covered
  refine fn_dG (k := 0) FF sc fun cdv A outer s H E hr gd => ?_
  exact (pdss_one (pds_ret (pd_all rfl V.b_all (pba_cons (pd_new (po_lc [("mine", 2)] rfl sc.nd (pdi_val (pd_var 0)).weak (blk_of (by rfl)) (fun _ _ _ _ _ => (pdg_name 2 sc.nd)) (fun _ _ _ _ _ => pdts_nil) (fun _ _ _ _ _ => (pd_any rfl V.b_any (pba_cons (pd_new (po_lc [("theirs", 3)] rfl sc.nd (pdi_val (pd_var 1)).weak (blk_of (by rfl)) (fun _ _ _ _ _ => (pdg_name 3 sc.nd)) (fun _ _ _ _ _ => pdts_nil) (fun _ _ _ _ _ => (pd_all rfl V.b_all (pba_cons (pd_new (po_lcK 3 [("one", 4)] rfl sc.nd (blk_of (by rfl)) (fun _ _ _ _ _ => (pdg_name 4 sc.nd)) (fun _ _ _ _ _ => pdts_nil) (fun _ _ _ _ _ => (pd_cmp (op_inA (hu65 hr)) inD_ok (pd_var 4).weak (pd_var 2).weak)))).weak pba_nil))))).weak pba_nil))))).weak pba_nil))))
theorem w_are_covered {P : Program} {w : World} {K : PySem.W.Frag} {mg : Str → Option Value} {base : Heap} (V : Vn K mg) : FnD P w K mg base 1 "are_covered" 2 F_are_covered := by
  obtain ⟨a, fd, hm, FF⟩ := V.f_are_covered
  exact ⟨a, fd, ["some", "others"], hm, FF.kp, binds_of (FunD.bindsA (ps := ["some", "others"]) FF fun _ _ _ _ _ _ us hl => match us, hl with | [_, _], _ => rfl), g_are_covered V FF⟩
noncomputable def s_are_paired : S := (sSeq (sFor (aItem (eVar 0)) (bName 4) (sSeq (sParV [5, 6] (vCons (vD (eCall F_kinds_led_to (aCons (eVar 4) (aCons (eVar 2) (aCons (eVar 1) aNil))))) (vCons (vD (eCall F_kinds_led_to (aCons (eVar 4) (aCons (eVar 3) (aCons (eVar 1) aNil))))) vNil)))
  (sIf (tOr (tNot (tE (eCall F_are_covered (aCons (eVar 5) (aCons (eVar 6) aNil))))) (tNot (tE (eCall F_are_covered (aCons (eVar 6) (aCons (eVar 5) aNil)))))) (sRet (eC (.bl false))) sNil)))
  (sRet (eC (.bl true))))
noncomputable def F_are_paired : List D → M D := runF 7 s_are_paired
theorem sc_are_paired : FnScope ["tables", "kinds", "p", "q", "table", "mine", "theirs"] ["tables", "kinds", "p", "q"] (defScope (top 35)) := ⟨rfl, rfl, rfl, by decide +kernel, rfl, by decide +kernel, by decide +kernel⟩
theorem g_are_paired {P : Program} {w : World} {K : PySem.W.Frag} {mg : Str → Option Value} {base : Heap} {a : Addr} {fd : FuncData} (V : Vn K mg) (FF : FunD K "are_paired" "are_paired" (defArgs (top 35)) (defBody (top 35)) (defScope (top 35)) [] [] a fd) : FnG P w K mg base CX0 2 a fd ["tables", "kinds", "p", "q"] (spD K 4 F_are_paired) := by
  have sc := sc_are_paired
  refine fn_dG (k := 1) FF sc fun cdv A outer s H E hr gd => ?_
  exact (pdss_cons (pds_for rfl (pdi_val (pd_var 0)) (pdg_name 4 sc.nd) (pdss_cons (pds_par2 5 6 rfl sc.nd (pva_cons (pv_d (pd_call (w_kinds_led_to V) (hr.mono (by decide)) gd (pda_cons (pd_var 4) (pda_cons (pd_var 2) (pda_cons (pd_var 1) pda_nil))) (aCons_len (aCons_len (aCons_len aNil_len))))) (pva_cons (pv_d (pd_call (w_kinds_led_to V) (hr.mono (by decide)) gd (pda_cons (pd_var 4) (pda_cons (pd_var 3) (pda_cons (pd_var 1) pda_nil))) (aCons_len (aCons_len (aCons_len aNil_len))))) pva_nil)))
  (pdss_one (pds_if (pdw_or (pdt_not (pdt_val (pd_call (w_are_covered V) (hr.mono (by decide)) gd (pda_cons (pd_var 5) (pda_cons (pd_var 6) pda_nil)) (aCons_len (aCons_len aNil_len))))) (pdw_or1 (pdt_not (pdt_val (pd_call (w_are_covered V) (hr.mono (by decide)) gd (pda_cons (pd_var 6) (pda_cons (pd_var 5) pda_nil)) (aCons_len (aCons_len aNil_len))))))).pt (pdss_one (pds_ret pd_bl)) pdss_nil))))
  (pdss_one (pds_ret pd_bl)))
theorem w_are_paired {P : Program} {w : World} {K : PySem.W.Frag} {mg : Str → Option Value} {base : Heap} (V : Vn K mg) : FnD P w K mg base 2 "are_paired" 4 F_are_paired := by
  obtain ⟨a, fd, hm, FF⟩ := V.f_are_paired
  exact ⟨a, fd, ["tables", "kinds", "p", "q"], hm, FF.kp, binds_of (FunD.bindsA (ps := ["tables", "kinds", "p", "q"]) FF fun _ _ _ _ _ _ us hl => match us, hl with | [_, _, _, _], _ => rfl), g_are_paired V FF⟩
noncomputable def s_tables_of : S := (sRet (eO (eLcA [2] (aItem (eVar 1)) (bName 2) tYesD (eO (eLcA [3] (aIt range1M (aCons (eBi lenD (aCons (eIx (eVar 0) (eC (.int 1))) aNil)) aNil)) (bName 3) tYesD (eCall F_outcomes (aCons (eVar 0) (aCons (eVar 2) (aCons (eVar 3) aNil)))))))))
noncomputable def F_tables_of : List D → M D := runF 4 s_tables_of
theorem sc_tables_of : FnScope ["arena", "groups", "group", "place"] ["arena", "groups"] (defScope (top 36)) := ⟨rfl, rfl, rfl, by decide +kernel, rfl, by decide +kernel, by decide +kernel⟩
theorem g_tables_of {P : Program} {w : World} {K : PySem.W.Frag} {mg : Str → Option Value} {base : Heap} {a : Addr} {fd : FuncData} (V : Vn K mg) (FF : FunD K "tables_of" "tables_of" (defArgs (top 36)) (defBody (top 36)) (defScope (top 36)) [] [] a fd) : FnG P w K mg base CX0 5 a fd ["arena", "groups"] (spD K 2 F_tables_of) := by
  have sc := sc_tables_of
  refine fn_dG (k := 4) FF sc fun cdv A outer s H E hr gd => ?_
  exact (pdss_one (pds_ret (pd_new (po_lc [("group", 2)] rfl sc.nd (pdi_val (pd_var 1)).weak (blk_of (by rfl)) (fun _ _ _ _ _ => (pdg_name 2 sc.nd)) (fun _ _ _ _ _ => pdts_nil) (fun _ _ _ _ _ => (pd_new (po_lc [("place", 3)] rfl sc.nd (pdi_range1 V.b_range (pda_cons (pd_len V.b_len (pba_cons (pd_ix hr (pd_var 0) pd_int).weak pba_nil)) pda_nil)).weak (blk_of (by rfl)) (fun _ _ _ _ _ => (pdg_name 3 sc.nd)) (fun _ _ _ _ _ => pdts_nil) (fun _ _ _ _ _ => (pd_call (w_outcomes V) (hr.mono (by decide)) gd (pda_cons (pd_var 0) (pda_cons (pd_var 2) (pda_cons (pd_var 3) pda_nil))) (aCons_len (aCons_len (aCons_len aNil_len))))))))))))
theorem w_tables_of {P : Program} {w : World} {K : PySem.W.Frag} {mg : Str → Option Value} {base : Heap} (V : Vn K mg) : FnD P w K mg base 5 "tables_of" 2 F_tables_of := by
  obtain ⟨a, fd, hm, FF⟩ := V.f_tables_of
  exact ⟨a, fd, ["arena", "groups"], hm, FF.kp, binds_of (FunD.bindsA (ps := ["arena", "groups"]) FF fun _ _ _ _ _ _ us hl => match us, hl with | [_, _], _ => rfl), g_tables_of V FF⟩
noncomputable def s_kinds_by_marks : S := (sSeq (sSet 1 (eO (eLcA [2] (aItem (eIx (eVar 0) (eC (.int 1)))) (bName 2) tYesD (eIx (eVar 2) (eC (.int 0))))))
  (sRet (eO (eLcA [3] (aItem (eVar 1)) (bName 3) tYesD (eIndex (eVar 1) (eVar 3))))))
noncomputable def F_kinds_by_marks : List D → M D := runF 4 s_kinds_by_marks
theorem sc_kinds_by_marks : FnScope ["arena", "marks", "place", "own"] ["arena"] (defScope (top 37)) := ⟨rfl, rfl, rfl, by decide +kernel, rfl, by decide +kernel, by decide +kernel⟩
theorem g_kinds_by_marks {P : Program} {w : World} {K : PySem.W.Frag} {mg : Str → Option Value} {base : Heap} {a : Addr} {fd : FuncData} (V : Vn K mg) (FF : FunD K "kinds_by_marks" "kinds_by_marks" (defArgs (top 37)) (defBody (top 37)) (defScope (top 37)) [] [] a fd) : FnG P w K mg base CX0 1 a fd ["arena"] (spD K 1 F_kinds_by_marks) := by
  have sc := sc_kinds_by_marks
  refine fn_dG (k := 0) FF sc fun cdv A outer s H E hr gd => ?_
  exact (pdss_cons (pds_set 1 sc.nd (pd_new (po_lc [("place", 2)] rfl sc.nd (pdi_val (pd_ix hr (pd_var 0) pd_int)).weak (blk_of (by rfl)) (fun _ _ _ _ _ => (pdg_name 2 sc.nd)) (fun _ _ _ _ _ => pdts_nil) (fun _ _ _ _ _ => (pd_ix hr (pd_var 2) pd_int)))))
  (pdss_one (pds_ret (pd_new (po_lc [("own", 3)] rfl sc.nd (pdi_val (pd_var 1)).weak (blk_of (by rfl)) (fun _ _ _ _ _ => (pdg_name 3 sc.nd)) (fun _ _ _ _ _ => pdts_nil) (fun _ _ _ _ _ => (pd_index hr (hu65 hr) (pd_var 1) (pd_var 3))))))))
theorem w_kinds_by_marks {P : Program} {w : World} {K : PySem.W.Frag} {mg : Str → Option Value} {base : Heap} (V : Vn K mg) : FnD P w K mg base 1 "kinds_by_marks" 1 F_kinds_by_marks := by
  obtain ⟨a, fd, hm, FF⟩ := V.f_kinds_by_marks
  exact ⟨a, fd, ["arena"], hm, FF.kp, binds_of (FunD.bindsA (ps := ["arena"]) FF fun _ _ _ _ _ _ us hl => match us, hl with | [_], _ => rfl), g_kinds_by_marks V FF⟩
noncomputable def s_split_kinds : S := (sSeq (sSetV 2 (vL (aSz aNil)))
  (sSeq (sFor (aIt enumM (aCons (eVar 1) aNil)) (bTup (bsCons (bName 3) (bsCons (bName 4) bsNil))) (sSeq (sSet 5 (eO (eLcA [6] (aIt range1M (aCons (eVar 3) aNil)) (bName 6) (tAnd (tCmp eqD (eIx (eVar 1) (eVar 6)) (eVar 4)) (tE (eCall F_are_paired (aCons (eVar 0) (aCons (eVar 1) (aCons (eVar 6) (aCons (eVar 3) aNil))))))) (eVar 6))))
  (sAppend 2 (eIf (tCmp neD (eVar 5) (eLst aNil)) (eIxO 2 (eIx (eVar 5) (eC (.int 0)))) (eVar 3)))))
  (sFrz 2 (sRet (eVar 2)))))
noncomputable def F_split_kinds : List D → M D := runF 7 s_split_kinds
theorem sc_split_kinds : FnScope ["tables", "kinds", "found", "place", "kind", "some", "one"] ["tables", "kinds"] (defScope (top 38)) := ⟨rfl, rfl, rfl, by decide +kernel, rfl, by decide +kernel, by decide +kernel⟩
theorem g_split_kinds {P : Program} {w : World} {K : PySem.W.Frag} {mg : Str → Option Value} {base : Heap} {a : Addr} {fd : FuncData} (V : Vn K mg) (FF : FunD K "split_kinds" "split_kinds" (defArgs (top 38)) (defBody (top 38)) (defScope (top 38)) [] [] a fd) : FnG P w K mg base CX0 3 a fd ["tables", "kinds"] (spD K 2 F_split_kinds) := by
  have sc := sc_split_kinds
  refine fn_dG (k := 2) FF sc fun cdv A outer s H E hr gd => ?_
  exact (pdss_cons (pds_setV 2 sc.nd (pv_ol (po_lst pda_nil)))
  (pdss_cons (pds_for rfl (pdi_enum V.b_enumerate (pda_cons (pd_var 1) pda_nil)) (pdg_tup rfl (pdgs_cons (pdg_name 3 sc.nd) (pdgs_cons (pdg_name 4 sc.nd) pdgs_nil))) (pdss_cons (pds_setLc 5 [("one", 6)] rfl sc.nd (pdi_range1 V.b_range (pda_cons (pd_var 3) pda_nil)).weak (blk_of (by rfl)) (fun _ _ _ _ _ => (pdg_name 6 sc.nd)) (fun _ _ _ _ _ => (pdts_one (pdw_and (pdt_cmp (op_eqD (hu64 hr)) eqD_ok (pd_ix hr (pd_var 1) (pd_var 6)).weak (pd_var 4).weak) (pdw_and1 (pdt_val (pd_call (w_are_paired V) (hr.mono (by decide)) gd (pda_cons (pd_var 0) (pda_cons (pd_var 1) (pda_cons (pd_var 6) (pda_cons (pd_var 3) pda_nil)))) (aCons_len (aCons_len (aCons_len (aCons_len aNil_len)))))))).pt)) (fun _ _ _ _ _ => (pd_var 6)) (sw_true rfl rfl rfl (by decide +kernel)))
  (pdss_one (pds_append 2 (pd_if (pdt_cmp (op_neD (hu64 hr)) neD_ok (pd_var 5).weak (pd_lst pda_nil).weak) (pd_ixo hr 2 (pd_ix hr (pd_var 5) pd_int)) (pd_var 3))))))
  (pdss_frz 2 (pdss_one (pds_ret (pd_var 2))))))
theorem w_split_kinds {P : Program} {w : World} {K : PySem.W.Frag} {mg : Str → Option Value} {base : Heap} (V : Vn K mg) : FnD P w K mg base 3 "split_kinds" 2 F_split_kinds := by
  obtain ⟨a, fd, hm, FF⟩ := V.f_split_kinds
  exact ⟨a, fd, ["tables", "kinds"], hm, FF.kp, binds_of (FunD.bindsA (ps := ["tables", "kinds"]) FF fun _ _ _ _ _ _ us hl => match us, hl with | [_, _], _ => rfl), g_split_kinds V FF⟩
noncomputable def s_levels : S := (sSeq (sParV [2, 3] (vCons (vD (eCall F_tables_of (aCons (eVar 0) (aCons (eVar 1) aNil)))) (vCons (vL (aSz (aCons (eCall F_kinds_by_marks (aCons (eVar 0) aNil)) aNil))) vNil)))
  (sSeq (sSet 4 (eCall F_split_kinds (aCons (eVar 2) (aCons (eIxO 3 (eNeg (eC (.int 1)))) aNil))))
  (sSeq (sWhile 100 (tCmp neD (eVar 4) (eIxO 3 (eNeg (eC (.int 1))))) (sSeq (sAppend 3 (eVar 4))
  (sSet 4 (eCall F_split_kinds (aCons (eVar 2) (aCons (eIxO 3 (eNeg (eC (.int 1)))) aNil))))))
  (sFrz 3 (sRet (eVar 3))))))
noncomputable def F_levels : List D → M D := runF 5 s_levels
theorem sc_levels : FnScope ["arena", "groups", "tables", "found", "further"] ["arena", "groups"] (defScope (top 39)) := ⟨rfl, rfl, rfl, by decide +kernel, rfl, by decide +kernel, by decide +kernel⟩
theorem g_levels {P : Program} {w : World} {K : PySem.W.Frag} {mg : Str → Option Value} {base : Heap} {a : Addr} {fd : FuncData} (V : Vn K mg) (FF : FunD K "levels" "levels" (defArgs (top 39)) (defBody (top 39)) (defScope (top 39)) [] [] a fd) : FnG P w K mg base CX0 6 a fd ["arena", "groups"] (spD K 2 F_levels) := by
  have sc := sc_levels
  refine fn_dG (k := 5) FF sc fun cdv A outer s H E hr gd => ?_
  exact (pdss_cons (pds_par2 2 3 rfl sc.nd (pva_cons (pv_d (pd_call (w_tables_of V) (hr.mono (by decide)) gd (pda_cons (pd_var 0) (pda_cons (pd_var 1) pda_nil)) (aCons_len (aCons_len aNil_len)))) (pva_cons (pv_ol (po_lst (pda_cons (pd_call (w_kinds_by_marks V) (hr.mono (by decide)) gd (pda_cons (pd_var 0) pda_nil) (aCons_len aNil_len)) pda_nil))) pva_nil)))
  (pdss_cons (pds_set 4 sc.nd (pd_call (w_split_kinds V) (hr.mono (by decide)) gd (pda_cons (pd_var 2) (pda_cons (pd_ixo hr 3 (pd_neg pd_int)) pda_nil)) (aCons_len (aCons_len aNil_len))))
  (pdss_cons (pds_while 100 (pdt_cmp (op_neD (hu64 hr)) neD_ok (pd_var 4).weak (pd_ixo hr 3 (pd_neg pd_int)).weak) (pdss_cons (pds_append 3 (pd_var 4))
  (pdss_one (pds_set 4 sc.nd (pd_call (w_split_kinds V) (hr.mono (by decide)) gd (pda_cons (pd_var 2) (pda_cons (pd_ixo hr 3 (pd_neg pd_int)) pda_nil)) (aCons_len (aCons_len aNil_len)))))))
  (pdss_frz 3 (pdss_one (pds_ret (pd_var 3)))))))
theorem w_levels {P : Program} {w : World} {K : PySem.W.Frag} {mg : Str → Option Value} {base : Heap} (V : Vn K mg) : FnD P w K mg base 6 "levels" 2 F_levels := by
  obtain ⟨a, fd, hm, FF⟩ := V.f_levels
  exact ⟨a, fd, ["arena", "groups"], hm, FF.kp, binds_of (FunD.bindsA (ps := ["arena", "groups"]) FF fun _ _ _ _ _ _ us hl => match us, hl with | [_, _], _ => rfl), g_levels V FF⟩
noncomputable def s_sets_of : S := (sRet (eO (eLcA [2] (aItem (eSrtSet (scA [1] (aItem (eVar 0)) (bName 1) tYesD (eVar 1)))) (bName 2) tYesD (eBi tupleD (aCons (eO (eLcA [3, 1] (aIt enumM (aCons (eVar 0) aNil)) (bTup (bsCons (bName 3) (bsCons (bName 1) bsNil))) (tCmp eqD (eVar 1) (eVar 2)) (eVar 3))) aNil)))))
noncomputable def F_sets_of : List D → M D := runF 4 s_sets_of
theorem sc_sets_of : FnScope ["kinds", "one", "kind", "at"] ["kinds"] (defScope (top 40)) := ⟨rfl, rfl, rfl, by decide +kernel, rfl, by decide +kernel, by decide +kernel⟩
theorem g_sets_of {P : Program} {w : World} {K : PySem.W.Frag} {mg : Str → Option Value} {base : Heap} {a : Addr} {fd : FuncData} (V : Vn K mg) (FF : FunD K "sets_of" "sets_of" (defArgs (top 40)) (defBody (top 40)) (defScope (top 40)) [] [] a fd) : FnG P w K mg base CX0 1 a fd ["kinds"] (spD K 1 F_sets_of) := by
  have sc := sc_sets_of
  refine fn_dG (k := 0) FF sc fun cdv A outer s H E hr gd => ?_
  exact (pdss_one (pds_ret (pd_new (po_lc [("kind", 2)] rfl sc.nd (pdi_val (pd_sortedSet rfl V.b_sorted (ps_sc [("one", 1)] rfl sc.nd (pdi_val (pd_var 0)).weak (blk_of (by rfl)) (fun _ _ _ _ _ => (pdg_name 1 sc.nd)) (fun _ _ _ _ _ => pdts_nil) (fun _ _ _ _ _ => (pd_var 1))))).weak (blk_of (by rfl)) (fun _ _ _ _ _ => (pdg_name 2 sc.nd)) (fun _ _ _ _ _ => pdts_nil) (fun _ _ _ _ _ => (pd_tuple V.b_tuple (pda_cons (pd_new (po_lc [("at", 3), ("one", 1)] rfl sc.nd (pdi_enum V.b_enumerate (pda_cons (pd_var 0) pda_nil)).weak (blk_of (by rfl)) (fun _ _ _ _ _ => (pdg_tup rfl (pdgs_cons (pdg_name 3 sc.nd) (pdgs_cons (pdg_name 1 sc.nd) pdgs_nil)))) (fun _ _ _ _ _ => (pdts_one (pdt_cmp (op_eqD (hu64 hr)) eqD_ok (pd_var 1).weak (pd_var 2).weak))) (fun _ _ _ _ _ => (pd_var 3)))) pda_nil)))))))
theorem w_sets_of {P : Program} {w : World} {K : PySem.W.Frag} {mg : Str → Option Value} {base : Heap} (V : Vn K mg) : FnD P w K mg base 1 "sets_of" 1 F_sets_of := by
  obtain ⟨a, fd, hm, FF⟩ := V.f_sets_of
  exact ⟨a, fd, ["kinds"], hm, FF.kp, binds_of (FunD.bindsA (ps := ["kinds"]) FF fun _ _ _ _ _ _ us hl => match us, hl with | [_], _ => rfl), g_sets_of V FF⟩
noncomputable def s_blocks : S := (sSeq (sExpr (eCall F_need_groups (aCons (eVar 0) (aCons (eVar 1) aNil))))
  (sRet (eCall F_sets_of (aCons (eIx (eCall F_levels (aCons (eVar 0) (aCons (eVar 1) aNil))) (eNeg (eC (.int 1)))) aNil))))
noncomputable def F_blocks : List D → M D := runF 2 s_blocks
theorem sc_blocks : FnScope ["arena", "groups"] ["arena", "groups"] (defScope (top 41)) := ⟨rfl, rfl, rfl, by decide +kernel, rfl, by decide +kernel, by decide +kernel⟩
theorem g_blocks {P : Program} {w : World} {K : PySem.W.Frag} {mg : Str → Option Value} {base : Heap} {a : Addr} {fd : FuncData} (V : Vn K mg) (FF : FunD K "blocks" "blocks" (defArgs (top 41)) (defBody (top 41)) (defScope (top 41)) [] [] a fd) : FnG P w K mg base CX0 7 a fd ["arena", "groups"] (spD K 2 F_blocks) := by
  have sc := sc_blocks
  refine fn_dG (k := 6) FF sc fun cdv A outer s H E hr gd => ?_
  exact (pdss_cons (pds_expr (pd_call (w_need_groups V) (hr.mono (by decide)) gd (pda_cons (pd_var 0) (pda_cons (pd_var 1) pda_nil)) (aCons_len (aCons_len aNil_len))))
  (pdss_one (pds_ret (pd_call (w_sets_of V) (hr.mono (by decide)) gd (pda_cons (pd_ix hr (pd_call (w_levels V) (hr.mono (by decide)) gd (pda_cons (pd_var 0) (pda_cons (pd_var 1) pda_nil)) (aCons_len (aCons_len aNil_len))) (pd_neg pd_int)) pda_nil) (aCons_len aNil_len)))))
theorem w_blocks {P : Program} {w : World} {K : PySem.W.Frag} {mg : Str → Option Value} {base : Heap} (V : Vn K mg) : FnD P w K mg base 7 "blocks" 2 F_blocks := by
  obtain ⟨a, fd, hm, FF⟩ := V.f_blocks
  exact ⟨a, fd, ["arena", "groups"], hm, FF.kp, binds_of (FunD.bindsA (ps := ["arena", "groups"]) FF fun _ _ _ _ _ _ us hl => match us, hl with | [_, _], _ => rfl), g_blocks V FF⟩
theorem wk_blocks_0_1_0 {P : Program} {w : World} {K : PySem.W.Frag} {mg : Str → Option Value} {base : Heap} (V : Vn K mg) : FnDK P w K mg base 7 "blocks" 2 F_blocks ["groups", "arena"] [1, 0] := by
  obtain ⟨a, fd, hm, FF⟩ := V.f_blocks
  have GG := g_blocks (P := P) (w := w) (base := base) V FF
  have kp := FF.kp
  obtain ⟨oc, od, dV, kV, doc, pm, an, cdv, ct, osl, rfl, lk, hcd, hD, hK⟩ := FF.ex
  rcases hD with ⟨_, rfl⟩ | ⟨e, _⟩
  · exact ⟨a, _, ["arena", "groups"], hm, kp, GG, rfl, rfl, fun s us ws h1 h2 => match us, ws, h1, h2 with | [], [_, _], _, _ => .of_eq rfl⟩
  · exact absurd rfl e
noncomputable def s__law_mixed : S := (sSeq (sSet 2 (eOp dMul (eOp dFdiv (eVar 0) (eC (.int 2147483629))) (eOp addD (eVar 1) (eC (.int 3)))))
  (sSeq (sSet 3 (eOp dMod (eOp dMul (eOp addD (eOp addD (eOp addD (eOp addD (eVar 0) (eVar 2)) (eOp dMul (eOp dMul (eC (.int 104729)) (eVar 1)) (eVar 1))) (eOp dMul (eC (.int 15485863)) (eVar 1))) (eC (.int 7))) (eC (.int 69621))) (eC (.int 2147483629))))
  (sRet (eOp dFdiv (eOp dMod (eOp dMul (eVar 3) (eC (.int 48271))) (eC (.int 2147483647))) (eC (.int 11))))))
noncomputable def F__law_mixed : List D → M D := runF 4 s__law_mixed
theorem sc__law_mixed : FnScope ["_law_cell", "_law_k", "_law_high", "_law_number"] ["_law_cell", "_law_k"] (defScope (top 43)) := ⟨rfl, rfl, rfl, by decide +kernel, rfl, by decide +kernel, by decide +kernel⟩
theorem g__law_mixed {P : Program} {w : World} {K : PySem.W.Frag} {mg : Str → Option Value} {base : Heap} {a : Addr} {fd : FuncData} (V : Vn K mg) (FF : FunD K "_law_mixed" "_law_mixed" (defArgs (top 43)) (defBody (top 43)) (defScope (top 43)) [] [] a fd) : FnG P w K mg base CX0 1 a fd ["_law_cell", "_law_k"] (spD K 2 F__law_mixed) := by
  have sc := sc__law_mixed
  refine fn_dG (k := 0) FF sc fun cdv A outer s H E hr gd => ?_
  exact (pdss_cons (pds_set 2 sc.nd (pd_mul (pd_fdiv (pd_var 0) pd_int) (pd_add (pd_var 1) pd_int)))
  (pdss_cons (pds_set 3 sc.nd (pd_mod (pd_mul (pd_add (pd_add (pd_add (pd_add (pd_var 0) (pd_var 2)) (pd_mul (pd_mul pd_int (pd_var 1)) (pd_var 1))) (pd_mul pd_int (pd_var 1))) pd_int) pd_int) pd_int))
  (pdss_one (pds_ret (pd_fdiv (pd_mod (pd_mul (pd_var 3) pd_int) pd_int) pd_int)))))
theorem w__law_mixed {P : Program} {w : World} {K : PySem.W.Frag} {mg : Str → Option Value} {base : Heap} (V : Vn K mg) : FnD P w K mg base 1 "_law_mixed" 2 F__law_mixed := by
  obtain ⟨a, fd, hm, FF⟩ := V.f__law_mixed
  exact ⟨a, fd, ["_law_cell", "_law_k"], hm, FF.kp, binds_of (FunD.bindsA (ps := ["_law_cell", "_law_k"]) FF fun _ _ _ _ _ _ us hl => match us, hl with | [_, _], _ => rfl), g__law_mixed V FF⟩
noncomputable def s__law_folded : S := (sSeq (sOwn 1 (eLcA [2] (aIt range1M (aCons (eC (.int 61)) aNil)) (bName 2) tYesD (eOp addD (eC (.int 101)) (eOp dMul (eC (.int 3)) (eVar 2)))))
  (sSeq (sFor (aIt enumM (aCons (eVar 0) aNil)) (bTup (bsCons (bName 2) (bsCons (bName 3) bsNil))) (sSetO 1 (eOp dMod (eVar 2) (eC (.int 61))) (eOp dMod (eOp addD (eOp dMul (eIxO 1 (eOp dMod (eVar 2) (eC (.int 61)))) (eC (.int 40692))) (eVar 3)) (eC (.int 2305843009213693951)))))
  (sSeq (sFor (aIt range2M (aCons (eC (.int 1)) (aCons (eC (.int 61)) aNil))) (bName 2) (sSetO 1 (eVar 2) (eOp dMod (eOp addD (eIxO 1 (eVar 2)) (eOp dMul (eIxO 1 (eOp subD (eVar 2) (eC (.int 1)))) (eC (.int 39373)))) (eC (.int 2305843009213693951)))))
  (sFrz 1 (sRet (eVar 1))))))
noncomputable def F__law_folded : List D → M D := runF 4 s__law_folded
theorem sc__law_folded : FnScope ["_law_script", "_law_found", "_law_k", "_law_cell"] ["_law_script"] (defScope (top 44)) := ⟨rfl, rfl, rfl, by decide +kernel, rfl, by decide +kernel, by decide +kernel⟩
theorem g__law_folded {P : Program} {w : World} {K : PySem.W.Frag} {mg : Str → Option Value} {base : Heap} {a : Addr} {fd : FuncData} (V : Vn K mg) (FF : FunD K "_law_folded" "_law_folded" (defArgs (top 44)) (defBody (top 44)) (defScope (top 44)) [] [] a fd) : FnG P w K mg base CX0 1 a fd ["_law_script"] (spD K 1 F__law_folded) := by
  have sc := sc__law_folded
  refine fn_dG (k := 0) FF sc fun cdv A outer s H E hr gd => ?_
  exact (pdss_cons (pds_ownLc 1 [("_law_k", 2)] rfl sc.nd (pdi_range1 V.b_range (pda_cons pd_int pda_nil)).weak (blk_of (by rfl)) (fun _ _ _ _ _ => (pdg_name 2 sc.nd)) (fun _ _ _ _ _ => pdts_nil) (fun _ _ _ _ _ => (pd_add pd_int (pd_mul pd_int (pd_var 2)))) (sw_true rfl rfl rfl (by decide +kernel)))
  (pdss_cons (pds_for rfl (pdi_enum V.b_enumerate (pda_cons (pd_var 0) pda_nil)) (pdg_tup rfl (pdgs_cons (pdg_name 2 sc.nd) (pdgs_cons (pdg_name 3 sc.nd) pdgs_nil))) (pdss_one (pds_setO 1 (pd_mod (pd_var 2) pd_int) (pd_mod (pd_add (pd_mul (pd_ixo hr 1 (pd_mod (pd_var 2) pd_int)) pd_int) (pd_var 3)) pd_int))))
  (pdss_cons (pds_for rfl (pdi_range2 V.b_range (pda_cons pd_int (pda_cons pd_int pda_nil))) (pdg_name 2 sc.nd) (pdss_one (pds_setO 1 (pd_var 2) (pd_mod (pd_add (pd_ixo hr 1 (pd_var 2)) (pd_mul (pd_ixo hr 1 (pd_sub (pd_var 2) pd_int)) pd_int)) pd_int))))
  (pdss_frz 1 (pdss_one (pds_ret (pd_var 1)))))))
theorem w__law_folded {P : Program} {w : World} {K : PySem.W.Frag} {mg : Str → Option Value} {base : Heap} (V : Vn K mg) : FnD P w K mg base 1 "_law_folded" 1 F__law_folded := by
  obtain ⟨a, fd, hm, FF⟩ := V.f__law_folded
  exact ⟨a, fd, ["_law_script"], hm, FF.kp, binds_of (FunD.bindsA (ps := ["_law_script"]) FF fun _ _ _ _ _ _ us hl => match us, hl with | [_], _ => rfl), g__law_folded V FF⟩
noncomputable def s__law_draw : S := (sSeq (sSet 2 (eIx (eVar 0) (eC (.str "at"))))
  (sSeq (sStore (eVar 0) (eC (.str "at")) (eOp addD (eVar 2) (eC (.int 1))))
  (sSeq (sIf (tCmpR neD (eIx (eVar 0) (eC (.str "left"))) (eLst aNil)) (sSeq (sSet 3 (eOp dMod (eVar 2) (eBiR lenD (aCons (eIx (eVar 0) (eC (.str "left"))) aNil))))
  (sSeq (sSet 4 (eIx (eIx (eVar 0) (eC (.str "left"))) (eVar 3)))
  (sIf (tCmp gtD (eVar 4) (eC (.int 0))) (sSeq (sStore (eIx (eVar 0) (eC (.str "left"))) (eVar 3) (eOp dFdiv (eVar 4) (eVar 1)))
  (sRet (eOp dMod (eVar 4) (eVar 1)))) sNil))) sNil)
  (sRet (eOp dMod (eCall F__law_mixed (aCons (eCall F__law_mixed (aCons (eOp addD (eIx (eIx (eVar 0) (eC (.str "cells"))) (eOp dMod (eVar 2) (eC (.int 61)))) (eOp dMul (eC (.int 37)) (eOp dFdiv (eVar 2) (eC (.int 61))))) (aCons (eVar 2) aNil))) (aCons (eOp addD (eVar 2) (eC (.int 5))) aNil))) (eVar 1))))))
noncomputable def F__law_draw : List D → M D := runF 5 s__law_draw
theorem sc__law_draw : FnScope ["_law_m", "_law_many", "_law_k", "_law_at", "_law_cell"] ["_law_m", "_law_many"] (defScope (top 45)) := ⟨rfl, rfl, rfl, by decide +kernel, rfl, by decide +kernel, by decide +kernel⟩
theorem g__law_draw {P : Program} {w : World} {K : PySem.W.Frag} {mg : Str → Option Value} {base : Heap} {a : Addr} {fd : FuncData} (V : Vn K mg) (FF : FunD K "_law_draw" "_law_draw" (defArgs (top 45)) (defBody (top 45)) (defScope (top 45)) [] [] a fd) : FnG P w K mg base CX0 2 a fd ["_law_m", "_law_many"] (spD K 2 F__law_draw) := by
  have sc := sc__law_draw
  refine fn_dG (k := 1) FF sc fun cdv A outer s H E hr gd => ?_
  exact (pdss_cons (pds_set 2 sc.nd (pd_ix hr (pd_var 0) (pd_str)))
  (pdss_cons (pds_store hr (pd_var 0) (pd_str) (pd_add (pd_var 2) pd_int))
  (pdss_cons (pds_if (pdt_cmpR (op_neD (hu64 hr)) neD_ok (pd_ix hr (pd_var 0) (pd_str)) (pd_lst pda_nil)) (pdss_cons (pds_set 3 sc.nd (pd_mod (pd_var 2) (pd_lenR V.b_len (pda_cons (pd_ix hr (pd_var 0) (pd_str)) pda_nil))))
  (pdss_cons (pds_set 4 sc.nd (pd_ix hr (pd_ix hr (pd_var 0) (pd_str)) (pd_var 3)))
  (pdss_one (pds_if (pdt_cmp op_gtA gtD_ok (pd_var 4).weak (pd_int).weak) (pdss_cons (pds_store hr (pd_ix hr (pd_var 0) (pd_str)) (pd_var 3) (pd_fdiv (pd_var 4) (pd_var 1)))
  (pdss_one (pds_ret (pd_mod (pd_var 4) (pd_var 1))))) pdss_nil)))) pdss_nil)
  (pdss_one (pds_ret (pd_mod (pd_call (w__law_mixed V) (hr.mono (by decide)) gd (pda_cons (pd_call (w__law_mixed V) (hr.mono (by decide)) gd (pda_cons (pd_add (pd_ix hr (pd_ix hr (pd_var 0) (pd_str)) (pd_mod (pd_var 2) pd_int)) (pd_mul pd_int (pd_fdiv (pd_var 2) pd_int))) (pda_cons (pd_var 2) pda_nil)) (aCons_len (aCons_len aNil_len))) (pda_cons (pd_add (pd_var 2) pd_int) pda_nil)) (aCons_len (aCons_len aNil_len))) (pd_var 1)))))))
theorem w__law_draw {P : Program} {w : World} {K : PySem.W.Frag} {mg : Str → Option Value} {base : Heap} (V : Vn K mg) : FnD P w K mg base 2 "_law_draw" 2 F__law_draw := by
  obtain ⟨a, fd, hm, FF⟩ := V.f__law_draw
  exact ⟨a, fd, ["_law_m", "_law_many"], hm, FF.kp, binds_of (FunD.bindsA (ps := ["_law_m", "_law_many"]) FF fun _ _ _ _ _ _ us hl => match us, hl with | [_, _], _ => rfl), g__law_draw V FF⟩
noncomputable def s__law_begun : S := (sSeq (sSet 1 (eMk (eDisp (pCons (eC (.str "cells")) (eCall F__law_folded (aCons (eVar 0) aNil)) (pCons (eC (.str "left")) (eLst aNil) (pCons (eC (.str "at")) (eC (.int 0)) pNil))))))
  (sSeq (sStore (eVar 1) (eC (.str "left")) (eMl (eLcA [2] (aItem (eVar 0)) (bName 2) tYesD (eIf (tCmp geD (eVar 2) (eOp dPow (eC (.int 10)) (eC (.int 18)))) (eVar 2) (eC (.int 0))))))
  (sRet (eVar 1))))
noncomputable def F__law_begun : List D → M D := runF 3 s__law_begun
theorem sc__law_begun : FnScope ["_law_script", "_law_m", "_law_cell"] ["_law_script"] (defScope (top 46)) := ⟨rfl, rfl, rfl, by decide +kernel, rfl, by decide +kernel, by decide +kernel⟩
theorem g__law_begun {P : Program} {w : World} {K : PySem.W.Frag} {mg : Str → Option Value} {base : Heap} {a : Addr} {fd : FuncData} (V : Vn K mg) (FF : FunD K "_law_begun" "_law_begun" (defArgs (top 46)) (defBody (top 46)) (defScope (top 46)) [] [] a fd) : FnG P w K mg base CX0 2 a fd ["_law_script"] (spD K 1 F__law_begun) := by
  have sc := sc__law_begun
  refine fn_dG (k := 1) FF sc fun cdv A outer s H E hr gd => ?_
  exact (pdss_cons (pds_set 1 sc.nd (pd_mk (pk_disp (ppd_cons (pd_str) (pd_call (w__law_folded V) (hr.mono (by decide)) gd (pda_cons (pd_var 0) pda_nil) (aCons_len aNil_len)) (ppd_cons (pd_str) (pd_lst pda_nil) (ppd_cons (pd_str) pd_int ppd_nil))))))
  (pdss_cons (pds_store hr (pd_var 1) (pd_str) (pd_ml (po_lc [("_law_cell", 2)] rfl sc.nd (pdi_val (pd_var 0)).weak (blk_of (by rfl)) (fun _ _ _ _ _ => (pdg_name 2 sc.nd)) (fun _ _ _ _ _ => pdts_nil) (fun _ _ _ _ _ => (pd_if (pdt_cmp op_geA geD_ok (pd_var 2).weak (pd_pow pd_int pd_int).weak) (pd_var 2) pd_int)))))
  (pdss_one (pds_ret (pd_var 1)))))
theorem w__law_begun {P : Program} {w : World} {K : PySem.W.Frag} {mg : Str → Option Value} {base : Heap} (V : Vn K mg) : FnD P w K mg base 2 "_law_begun" 1 F__law_begun := by
  obtain ⟨a, fd, hm, FF⟩ := V.f__law_begun
  exact ⟨a, fd, ["_law_script"], hm, FF.kp, binds_of (FunD.bindsA (ps := ["_law_script"]) FF fun _ _ _ _ _ _ us hl => match us, hl with | [_], _ => rfl), g__law_begun V FF⟩
noncomputable def s__law_tuples : S := (sSeq (sSetV 1 (vL (aSz (aCons (eTup aNil) aNil))))
  (sSeq (sFor (aItem (eVar 0)) (bName 2) (sFrz 1 (sSeq (sParV [3, 1] (vCons (vD (eVar 1)) (vCons (vL (aSz aNil)) vNil)))
  (sFor (aItem (eVar 3)) (bName 4) (sExtend 1 (eLcA [5] (aIt range1M (aCons (eVar 2) aNil)) (bName 5) tYesD (eOp addD (eVar 4) (eTup (aCons (eVar 5) aNil)))))))))
  (sFrz 1 (sRet (eVar 1)))))
noncomputable def F__law_tuples : List D → M D := runF 6 s__law_tuples
theorem sc__law_tuples : FnScope ["_law_counts", "_law_found", "_law_many", "_law_older", "_law_row", "_law_one"] ["_law_counts"] (defScope (top 47)) := ⟨rfl, rfl, rfl, by decide +kernel, rfl, by decide +kernel, by decide +kernel⟩
theorem g__law_tuples {P : Program} {w : World} {K : PySem.W.Frag} {mg : Str → Option Value} {base : Heap} {a : Addr} {fd : FuncData} (V : Vn K mg) (FF : FunD K "_law_tuples" "_law_tuples" (defArgs (top 47)) (defBody (top 47)) (defScope (top 47)) [] [] a fd) : FnG P w K mg base CX0 1 a fd ["_law_counts"] (spD K 1 F__law_tuples) := by
  have sc := sc__law_tuples
  refine fn_dG (k := 0) FF sc fun cdv A outer s H E hr gd => ?_
  exact (pdss_cons (pds_setV 1 sc.nd (pv_ol (po_lst (pda_cons (pd_tup pda_nil) pda_nil))))
  (pdss_cons (pds_for rfl (pdi_val (pd_var 0)) (pdg_name 2 sc.nd) (pdss_frz 1 (pdss_cons (pds_par2 3 1 rfl sc.nd (pva_cons (pv_d (pd_var 1)) (pva_cons (pv_ol (po_lst pda_nil)) pva_nil)))
  (pdss_one (pds_for rfl (pdi_val (pd_var 3)) (pdg_name 4 sc.nd) (pdss_one (pds_extend 1 (po_lc [("_law_one", 5)] rfl sc.nd (pdi_range1 V.b_range (pda_cons (pd_var 2) pda_nil)).weak (blk_of (by rfl)) (fun _ _ _ _ _ => (pdg_name 5 sc.nd)) (fun _ _ _ _ _ => pdts_nil) (fun _ _ _ _ _ => (pd_add (pd_var 4) (pd_tup (pda_cons (pd_var 5) pda_nil))))))))))))
  (pdss_frz 1 (pdss_one (pds_ret (pd_var 1))))))
theorem w__law_tuples {P : Program} {w : World} {K : PySem.W.Frag} {mg : Str → Option Value} {base : Heap} (V : Vn K mg) : FnD P w K mg base 1 "_law_tuples" 1 F__law_tuples := by
  obtain ⟨a, fd, hm, FF⟩ := V.f__law_tuples
  exact ⟨a, fd, ["_law_counts"], hm, FF.kp, binds_of (FunD.bindsA (ps := ["_law_counts"]) FF fun _ _ _ _ _ _ us hl => match us, hl with | [_], _ => rfl), g__law_tuples V FF⟩
noncomputable def s__law_arena : S := (sSeq (sSet 3 (eMl (aSz (aCons (eC (.str "a")) (aCons (eC (.str "ab")) (aCons (eC (.str "abc")) (aCons (eC (.str "b")) (aCons (eC (.str "can")) (aCons (eC (.str "keep")) (aCons (eC (.str "next")) (aCons (eC (.str "till")) (aCons (eC (.str "zz")) (aCons (eC (.str "zzzzzzzz")) aNil)))))))))))))
  (sSeq (sParV [4, 5] (vCons (vD (eOp addD (eC (.int 1)) (eCall F__law_draw (aCons (eVar 0) (aCons (eVar 2) aNil))))) (vCons (vD (eOp addD (eC (.int 1)) (eCall F__law_draw (aCons (eVar 0) (aCons (eVar 1) aNil))))) vNil)))
  (sSeq (sParV [6, 7] (vCons (vD (eO (eLcA [8] (aIt range1M (aCons (eVar 4) aNil)) (bName 8) tYesD (ePopH 3 (eCall F__law_draw (aCons (eVar 0) (aCons (eBiR lenD (aCons (eVar 3) aNil)) aNil))))))) (vCons (vL (aSz aNil)) vNil)))
  (sSeq (sFor (aIt range1M (aCons (eVar 5) aNil)) (bName 8) (sSeq (sOwn 9 (eLcA [12] (aItem (eVar 6)) (bName 12) tYesD (eIx (eLst (aCons (eC (.int 1)) (aCons (eC (.int 2)) (aCons (eC (.int 2)) (aCons (eC (.int 3)) aNil))))) (eCall F__law_draw (aCons (eVar 0) (aCons (eC (.int 4)) aNil))))))
  (sSeq (sSetO 9 (eC (.int 0)) (eIf (tAnd (tCmp eqD (eVar 4) (eC (.int 4))) (tCmp gtD (eCntO 9 (eC (.int 3))) (eC (.int 1)))) (eC (.int 1)) (eIxO 9 (eC (.int 0)))))
  (sFrz 9 (sSeq (sSet 10 (eO (eLcA [13] (aItem (eCall F__law_tuples (aCons (eVar 9) aNil))) (bName 13) tYesD (eCall F__law_draw (aCons (eVar 0) (aCons (eVar 5) aNil))))))
  (sSeq (sSet 11 (eO (eLcA [12] (aItem (eTup (aCons (eC (.str "p")) (aCons (eC (.str "q")) (aCons (eC (.str "r")) aNil))))) (bName 12) (tCmp eqD (eCall F__law_draw (aCons (eVar 0) (aCons (eC (.int 4)) aNil))) (eC (.int 0))) (eVar 12))))
  (sFrz 9 (sAppend 7 (eTup (aCons (eBi tupleD (aCons (eVar 11) aNil)) (aCons (eBi tupleD (aCons (eVar 9) aNil)) (aCons (eBi tupleD (aCons (eVar 10) aNil)) aNil))))))))))))
  (sFrz 7 (sRet (eTup (aCons (eBi tupleD (aCons (eBi sortedM (aCons (eVar 6) aNil)) aNil)) (aCons (eBi tupleD (aCons (eVar 7) aNil)) aNil)))))))))
noncomputable def F__law_arena : List D → M D := runF 14 s__law_arena
theorem sc__law_arena : FnScope ["_law_m", "_law_wide", "_law_crowd", "_law_pool", "_law_many", "_law_size", "_law_called", "_law_kinds", "_law_k", "_law_counts", "_law_nexts", "_law_marks", "_law_one", "_law_moves"] ["_law_m", "_law_wide", "_law_crowd"] (defScope (top 48)) := ⟨rfl, rfl, rfl, by decide +kernel, rfl, by decide +kernel, by decide +kernel⟩
theorem g__law_arena {P : Program} {w : World} {K : PySem.W.Frag} {mg : Str → Option Value} {base : Heap} {a : Addr} {fd : FuncData} (V : Vn K mg) (FF : FunD K "_law_arena" "_law_arena" (defArgs (top 48)) (defBody (top 48)) (defScope (top 48)) [] [] a fd) : FnG P w K mg base CX0 3 a fd ["_law_m", "_law_wide", "_law_crowd"] (spD K 3 F__law_arena) := by
  have sc := sc__law_arena
  refine fn_dG (k := 2) FF sc fun cdv A outer s H E hr gd => ?_
  exact (pdss_cons (pds_set 3 sc.nd (pd_ml (po_lst (pda_cons (pd_str) (pda_cons (pd_str) (pda_cons (pd_str) (pda_cons (pd_str) (pda_cons (pd_str) (pda_cons (pd_str) (pda_cons (pd_str) (pda_cons (pd_str) (pda_cons (pd_str) (pda_cons (pd_str) pda_nil)))))))))))))
  (pdss_cons (pds_parN rfl (pgn_cons 4 sc.nd (pgn_cons 5 sc.nd pgn_nil)) (pva_cons (pv_d (pd_add pd_int (pd_call (w__law_draw V) (hr.mono (by decide)) gd (pda_cons (pd_var 0) (pda_cons (pd_var 2) pda_nil)) (aCons_len (aCons_len aNil_len))))) (pva_cons (pv_d (pd_add pd_int (pd_call (w__law_draw V) (hr.mono (by decide)) gd (pda_cons (pd_var 0) (pda_cons (pd_var 1) pda_nil)) (aCons_len (aCons_len aNil_len))))) pva_nil)))
  (pdss_cons (pds_par2 6 7 rfl sc.nd (pva_cons (pv_d (pd_new (po_lc [("_law_k", 8)] rfl sc.nd (pdi_range1 V.b_range (pda_cons (pd_var 4) pda_nil)).weak (blk_of (by rfl)) (fun _ _ _ _ _ => (pdg_name 8 sc.nd)) (fun _ _ _ _ _ => pdts_nil) (fun _ _ _ _ _ => (pd_popH 3 (pd_call (w__law_draw V) (hr.mono (by decide)) gd (pda_cons (pd_var 0) (pda_cons (pd_lenR V.b_len (pda_cons (pd_var 3) pda_nil)) pda_nil)) (aCons_len (aCons_len aNil_len)))))))) (pva_cons (pv_ol (po_lst pda_nil)) pva_nil)))
  (pdss_cons (pds_for rfl (pdi_range1 V.b_range (pda_cons (pd_var 5) pda_nil)) (pdg_name 8 sc.nd) (pdss_cons (pds_ownLc 9 [("_law_one", 12)] rfl sc.nd (pdi_val (pd_var 6)).weak (blk_of (by rfl)) (fun _ _ _ _ _ => (pdg_name 12 sc.nd)) (fun _ _ _ _ _ => pdts_nil) (fun _ _ _ _ _ => (pd_ix hr (pd_lst (pda_cons pd_int (pda_cons pd_int (pda_cons pd_int (pda_cons pd_int pda_nil))))) (pd_call (w__law_draw V) (hr.mono (by decide)) gd (pda_cons (pd_var 0) (pda_cons pd_int pda_nil)) (aCons_len (aCons_len aNil_len))))) (sw_true rfl rfl rfl (by decide +kernel)))
  (pdss_cons (pds_setO 9 pd_int (pd_if (pdw_and (pdt_cmp (op_eqD (hu64 hr)) eqD_ok (pd_var 4).weak (pd_int).weak) (pdw_and1 (pdt_cmp op_gtA gtD_ok (pd_cntO 9 pd_int).weak (pd_int).weak))).pt pd_int (pd_ixo hr 9 pd_int)))
  (pdss_frz 9 (pdss_cons (pds_setLc 10 [("_law_moves", 13)] rfl sc.nd (pdi_val (pd_call (w__law_tuples V) (hr.mono (by decide)) gd (pda_cons (pd_var 9) pda_nil) (aCons_len aNil_len))).weak (blk_of (by rfl)) (fun _ _ _ _ _ => (pdg_name 13 sc.nd)) (fun _ _ _ _ _ => pdts_nil) (fun _ _ _ _ _ => (pd_call (w__law_draw V) (hr.mono (by decide)) gd (pda_cons (pd_var 0) (pda_cons (pd_var 5) pda_nil)) (aCons_len (aCons_len aNil_len)))) (sw_true rfl rfl rfl (by decide +kernel)))
  (pdss_cons (pds_setLc 11 [("_law_one", 12)] rfl sc.nd (pdi_val (pd_tup (pda_cons (pd_str) (pda_cons (pd_str) (pda_cons (pd_str) pda_nil))))).weak (blk_of (by rfl)) (fun _ _ _ _ _ => (pdg_name 12 sc.nd)) (fun _ _ _ _ _ => (pdts_one (pdt_cmp (op_eqD (hu64 hr)) eqD_ok (pd_call (w__law_draw V) (hr.mono (by decide)) gd (pda_cons (pd_var 0) (pda_cons pd_int pda_nil)) (aCons_len (aCons_len aNil_len))).weak (pd_int).weak))) (fun _ _ _ _ _ => (pd_var 12)) (sw_true rfl rfl rfl (by decide +kernel)))
  (pdss_frz 9 (pdss_one (pds_append 7 (pd_tup (pda_cons (pd_tuple V.b_tuple (pda_cons (pd_var 11) pda_nil)) (pda_cons (pd_tuple V.b_tuple (pda_cons (pd_var 9) pda_nil)) (pda_cons (pd_tuple V.b_tuple (pda_cons (pd_var 10) pda_nil)) pda_nil)))))))))))))
  (pdss_frz 7 (pdss_one (pds_ret (pd_tup (pda_cons (pd_tuple V.b_tuple (pda_cons (pd_sorted V.b_sorted (pda_cons (pd_var 6) pda_nil)) pda_nil)) (pda_cons (pd_tuple V.b_tuple (pda_cons (pd_var 7) pda_nil)) pda_nil))))))))))
theorem w__law_arena {P : Program} {w : World} {K : PySem.W.Frag} {mg : Str → Option Value} {base : Heap} (V : Vn K mg) : FnD P w K mg base 3 "_law_arena" 3 F__law_arena := by
  obtain ⟨a, fd, hm, FF⟩ := V.f__law_arena
  exact ⟨a, fd, ["_law_m", "_law_wide", "_law_crowd"], hm, FF.kp, binds_of (FunD.bindsA (ps := ["_law_m", "_law_wide", "_law_crowd"]) FF fun _ _ _ _ _ _ us hl => match us, hl with | [_, _, _], _ => rfl), g__law_arena V FF⟩
noncomputable def s__law_twinned : S := (sSeq (sParV [2, 3] (vCons (vD (eBi lenD (aCons (eIx (eVar 1) (eC (.int 1))) aNil))) (vCons (vK eK0) vNil)))
  (sSeq (sFor (aIt range1M (aCons (eVar 2) aNil)) (bName 4) (sIf (tAnd (tCmp ltD (eOp addD (eVar 2) (eBi lenD (aCons (eOwn 3) aNil))) (eC (.int 7))) (tCmp eqD (eCall F__law_draw (aCons (eVar 0) (aCons (eC (.int 2)) aNil))) (eC (.int 0)))) (sSetK 3 (eVar 4) (eOp addD (eVar 2) (eBi lenD (aCons (eOwn 3) aNil)))) sNil))
  (sSeq (sSetV 5 (vL (aSz aNil)))
  (sSeq (sFor (aItem (eOp addD (eO (aLstRg (eVar 2))) (eO (aKeysL 3)))) (bName 4) (sSeq (sAsg (bTup (bsCons (bName 6) (bsCons (bName 7) (bsCons (bName 8) bsNil)))) (eIx (eIx (eVar 1) (eC (.int 1))) (eVar 4)))
  (sFrz 3 (sSeq (sSet 8 (eO (eLcA [9] (aItem (eVar 8)) (bName 9) tYesD (eIx (eLst (aCons (eVar 9) (aCons (eGet2 (eVar 3) (eVar 9) (eVar 9)) aNil))) (eCall F__law_draw (aCons (eVar 0) (aCons (eC (.int 2)) aNil)))))))
  (sAppend 5 (eTup (aCons (eVar 6) (aCons (eVar 7) (aCons (eBi tupleD (aCons (eVar 8) aNil)) aNil)))))))))
  (sFrz 5 (sRet (eTup (aCons (eIx (eVar 1) (eC (.int 0))) (aCons (eBi tupleD (aCons (eVar 5) aNil)) aNil)))))))))
noncomputable def F__law_twinned : List D → M D := runF 10 s__law_twinned
theorem sc__law_twinned : FnScope ["_law_m", "_law_ground", "_law_size", "_law_twins", "_law_k", "_law_kinds", "_law_marks", "_law_counts", "_law_nexts", "_law_one"] ["_law_m", "_law_ground"] (defScope (top 49)) := ⟨rfl, rfl, rfl, by decide +kernel, rfl, by decide +kernel, by decide +kernel⟩
theorem g__law_twinned {P : Program} {w : World} {K : PySem.W.Frag} {mg : Str → Option Value} {base : Heap} {a : Addr} {fd : FuncData} (V : Vn K mg) (FF : FunD K "_law_twinned" "_law_twinned" (defArgs (top 49)) (defBody (top 49)) (defScope (top 49)) [] [] a fd) : FnG P w K mg base CX0 3 a fd ["_law_m", "_law_ground"] (spD K 2 F__law_twinned) := by
  have sc := sc__law_twinned
  refine fn_dG (k := 2) FF sc fun cdv A outer s H E hr gd => ?_
  exact (pdss_cons (pds_parN rfl (pgn_cons 2 sc.nd (pgn_cons 3 sc.nd pgn_nil)) (pva_cons (pv_d (pd_len V.b_len (pba_cons (pd_ix hr (pd_var 1) pd_int).weak pba_nil))) (pva_cons (pv_ok pk_nil) pva_nil)))
  (pdss_cons (pds_for rfl (pdi_range1 V.b_range (pda_cons (pd_var 2) pda_nil)) (pdg_name 4 sc.nd) (pdss_one (pds_if (pdw_and (pdt_cmp (op_ltA (hu0 hr)) ltD_ok (pd_add (pd_var 2) (pd_len V.b_len (pba_cons (pb_own 3) pba_nil))).weak (pd_int).weak) (pdw_and1 (pdt_cmp (op_eqD (hu64 hr)) eqD_ok (pd_call (w__law_draw V) (hr.mono (by decide)) gd (pda_cons (pd_var 0) (pda_cons pd_int pda_nil)) (aCons_len (aCons_len aNil_len))).weak (pd_int).weak))).pt (pdss_one (pds_setK 3 hr (pd_var 4) (pd_add (pd_var 2) (pd_len V.b_len (pba_cons (pb_own 3) pba_nil))))) pdss_nil)))
  (pdss_cons (pds_setV 5 sc.nd (pv_ol (po_lst pda_nil)))
  (pdss_cons (pds_for rfl (pdi_val (pd_add (pd_new (po_lstRg rfl V.b_list V.b_range (pd_var 2))) (pd_new (po_keysL 3 rfl V.b_list)))) (pdg_name 4 sc.nd) (pdss_cons (pds_asg (pd_ix hr (pd_ix hr (pd_var 1) pd_int) (pd_var 4)) (pdg_tup rfl (pdgs_cons (pdg_name 6 sc.nd) (pdgs_cons (pdg_name 7 sc.nd) (pdgs_cons (pdg_name 8 sc.nd) pdgs_nil)))))
  (pdss_frz 3 (pdss_cons (pds_setLc 8 [("_law_one", 9)] rfl sc.nd (pdi_val (pd_var 8)).weak (blk_of (by rfl)) (fun _ _ _ _ _ => (pdg_name 9 sc.nd)) (fun _ _ _ _ _ => pdts_nil) (fun _ _ _ _ _ => (pd_ix hr (pd_lst (pda_cons (pd_var 9) (pda_cons (pd_get2 hr (pd_var 3) (pd_var 9) (pd_var 9)) pda_nil))) (pd_call (w__law_draw V) (hr.mono (by decide)) gd (pda_cons (pd_var 0) (pda_cons pd_int pda_nil)) (aCons_len (aCons_len aNil_len))))) (sw_true rfl rfl rfl (by decide +kernel)))
  (pdss_one (pds_append 5 (pd_tup (pda_cons (pd_var 6) (pda_cons (pd_var 7) (pda_cons (pd_tuple V.b_tuple (pda_cons (pd_var 8) pda_nil)) pda_nil))))))))))
  (pdss_frz 5 (pdss_one (pds_ret (pd_tup (pda_cons (pd_ix hr (pd_var 1) pd_int) (pda_cons (pd_tuple V.b_tuple (pda_cons (pd_var 5) pda_nil)) pda_nil))))))))))
theorem w__law_twinned {P : Program} {w : World} {K : PySem.W.Frag} {mg : Str → Option Value} {base : Heap} (V : Vn K mg) : FnD P w K mg base 3 "_law_twinned" 2 F__law_twinned := by
  obtain ⟨a, fd, hm, FF⟩ := V.f__law_twinned
  exact ⟨a, fd, ["_law_m", "_law_ground"], hm, FF.kp, binds_of (FunD.bindsA (ps := ["_law_m", "_law_ground"]) FF fun _ _ _ _ _ _ us hl => match us, hl with | [_, _], _ => rfl), g__law_twinned V FF⟩
noncomputable def s__law_team : S := (sRet (eBi tupleD (aCons (eO (eLcA [2] (aItem (eIx (eVar 1) (eC (.int 0)))) (bName 2) (tCmp eqD (eCall F__law_draw (aCons (eVar 0) (aCons (eC (.int 2)) aNil))) (eC (.int 0))) (eVar 2))) aNil)))
noncomputable def F__law_team : List D → M D := runF 3 s__law_team
theorem sc__law_team : FnScope ["_law_m", "_law_ground", "_law_one"] ["_law_m", "_law_ground"] (defScope (top 50)) := ⟨rfl, rfl, rfl, by decide +kernel, rfl, by decide +kernel, by decide +kernel⟩
theorem g__law_team {P : Program} {w : World} {K : PySem.W.Frag} {mg : Str → Option Value} {base : Heap} {a : Addr} {fd : FuncData} (V : Vn K mg) (FF : FunD K "_law_team" "_law_team" (defArgs (top 50)) (defBody (top 50)) (defScope (top 50)) [] [] a fd) : FnG P w K mg base CX0 3 a fd ["_law_m", "_law_ground"] (spD K 2 F__law_team) := by
  have sc := sc__law_team
  refine fn_dG (k := 2) FF sc fun cdv A outer s H E hr gd => ?_
  exact (pdss_one (pds_ret (pd_tuple V.b_tuple (pda_cons (pd_new (po_lc [("_law_one", 2)] rfl sc.nd (pdi_val (pd_ix hr (pd_var 1) pd_int)).weak (blk_of (by rfl)) (fun _ _ _ _ _ => (pdg_name 2 sc.nd)) (fun _ _ _ _ _ => (pdts_one (pdt_cmp (op_eqD (hu64 hr)) eqD_ok (pd_call (w__law_draw V) (hr.mono (by decide)) gd (pda_cons (pd_var 0) (pda_cons pd_int pda_nil)) (aCons_len (aCons_len aNil_len))).weak (pd_int).weak))) (fun _ _ _ _ _ => (pd_var 2)))) pda_nil))))
theorem w__law_team {P : Program} {w : World} {K : PySem.W.Frag} {mg : Str → Option Value} {base : Heap} (V : Vn K mg) : FnD P w K mg base 3 "_law_team" 2 F__law_team := by
  obtain ⟨a, fd, hm, FF⟩ := V.f__law_team
  exact ⟨a, fd, ["_law_m", "_law_ground"], hm, FF.kp, binds_of (FunD.bindsA (ps := ["_law_m", "_law_ground"]) FF fun _ _ _ _ _ _ us hl => match us, hl with | [_, _], _ => rfl), g__law_team V FF⟩
noncomputable def s__law_is_right : S := (sSeq (sIf (tOr (tNot (tE (eIsi .lst (eVar 0)))) (tCmp neD (eVar 0) (eBi sortedTM (aCons (eVar 0) aNil)))) (sRet (eC (.bl false))) sNil)
  (sSeq (sSetV 2 (vL (aSz aNil)))
  (sSeq (sFor (aItem (eVar 0)) (bName 3) (sSeq (sIf (tOr (tNot (tE (eIsi .tup (eVar 3)))) (tOr (tCmp eqD (eVar 3) (eTup aNil)) (tCmp neD (eBi listD (aCons (eVar 3) aNil)) (eBi sortedTM (aCons (eVar 3) aNil))))) (sRet (eC (.bl false))) sNil)
  (sExtV 2 (eVar 3))))
  (sFrz 2 (sRet (eCmp eqD (eBi reprD (aCons (eBi sortedTM (aCons (eVar 2) aNil)) aNil)) (eBi reprD (aCons (eO (aLstRg (eVar 1))) aNil))))))))
noncomputable def F__law_is_right : List D → M D := runF 4 s__law_is_right
theorem sc__law_is_right : FnScope ["_law_told", "_law_size", "_law_flat", "_law_row"] ["_law_told", "_law_size"] (defScope (top 51)) := ⟨rfl, rfl, rfl, by decide +kernel, rfl, by decide +kernel, by decide +kernel⟩
theorem g__law_is_right {P : Program} {w : World} {K : PySem.W.Frag} {mg : Str → Option Value} {base : Heap} {a : Addr} {fd : FuncData} (V : Vn K mg) (FF : FunD K "_law_is_right" "_law_is_right" (defArgs (top 51)) (defBody (top 51)) (defScope (top 51)) [] [] a fd) : FnG P w K mg base CX0 1 a fd ["_law_told", "_law_size"] (spD K 2 F__law_is_right) := by
  have sc := sc__law_is_right
  refine fn_dG (k := 0) FF sc fun cdv A outer s H E hr gd => ?_
  exact (pdss_cons (pds_if (pdw_or (pdt_not (pdt_val (pd_isi .lst rfl V.b_isinstance V.b_list (pd_var 0).weak))) (pdw_or1 (pdt_cmp (op_neD (hu64 hr)) neD_ok (pd_var 0).weak (pd_sortedT V.b_sorted (pda_cons (pd_var 0) pda_nil)).weak))).pt (pdss_one (pds_ret pd_bl)) pdss_nil)
  (pdss_cons (pds_setV 2 sc.nd (pv_ol (po_lst pda_nil)))
  (pdss_cons (pds_for rfl (pdi_val (pd_var 0)) (pdg_name 3 sc.nd) (pdss_cons (pds_if (pdw_or (pdt_not (pdt_val (pd_isi .tup rfl V.b_isinstance V.b_tuple (pd_var 3).weak))) (pdw_or (pdt_cmp (op_eqD (hu64 hr)) eqD_ok (pd_var 3).weak (pd_tup pda_nil).weak) (pdw_or1 (pdt_cmp (op_neD (hu64 hr)) neD_ok (pd_list V.b_list (pda_cons (pd_var 3) pda_nil)).weak (pd_sortedT V.b_sorted (pda_cons (pd_var 3) pda_nil)).weak)))).pt (pdss_one (pds_ret pd_bl)) pdss_nil)
  (pdss_one (pds_extV 2 (pd_var 3)))))
  (pdss_frz 2 (pdss_one (pds_ret (pd_cmp (op_eqD (hu64 hr)) eqD_ok (pd_repr hr gd V.b_repr (pba_cons (pd_sortedT V.b_sorted (pda_cons (pd_var 2) pda_nil)).weak pba_nil)).weak (pd_repr hr gd V.b_repr (pba_cons (pd_new (po_lstRg rfl V.b_list V.b_range (pd_var 1))).weak pba_nil)).weak)))))))
theorem w__law_is_right {P : Program} {w : World} {K : PySem.W.Frag} {mg : Str → Option Value} {base : Heap} (V : Vn K mg) : FnD P w K mg base 1 "_law_is_right" 2 F__law_is_right := by
  obtain ⟨a, fd, hm, FF⟩ := V.f__law_is_right
  exact ⟨a, fd, ["_law_told", "_law_size"], hm, FF.kp, binds_of (FunD.bindsA (ps := ["_law_told", "_law_size"]) FF fun _ _ _ _ _ _ us hl => match us, hl with | [_, _], _ => rfl), g__law_is_right V FF⟩
noncomputable def s__law_within : S := (sSeq (sFor (aItem (eVar 0)) (bName 2) (sIf (tCmp eqD (eO (eLcA [3] (aItem (eVar 1)) (bName 3) (tCmp eqD (eO (eLcA [4] (aItem (eVar 2)) (bName 4) (tCmp notInD (eVar 4) (eVar 3)) (eVar 4))) (eLst aNil)) (eVar 3))) (eLst aNil)) (sRet (eC (.bl false))) sNil))
  (sRet (eC (.bl true))))
noncomputable def F__law_within : List D → M D := runF 5 s__law_within
theorem sc__law_within : FnScope ["_law_fine", "_law_coarse", "_law_row", "_law_one", "_law_a"] ["_law_fine", "_law_coarse"] (defScope (top 52)) := ⟨rfl, rfl, rfl, by decide +kernel, rfl, by decide +kernel, by decide +kernel⟩
theorem g__law_within {P : Program} {w : World} {K : PySem.W.Frag} {mg : Str → Option Value} {base : Heap} {a : Addr} {fd : FuncData} (V : Vn K mg) (FF : FunD K "_law_within" "_law_within" (defArgs (top 52)) (defBody (top 52)) (defScope (top 52)) [] [] a fd) : FnG P w K mg base CX0 1 a fd ["_law_fine", "_law_coarse"] (spD K 2 F__law_within) := by
  have sc := sc__law_within
  refine fn_dG (k := 0) FF sc fun cdv A outer s H E hr gd => ?_
  exact (pdss_cons (pds_for rfl (pdi_val (pd_var 0)) (pdg_name 2 sc.nd) (pdss_one (pds_if (pdt_cmp (op_eqD (hu64 hr)) eqD_ok (pd_new (po_lc [("_law_one", 3)] rfl sc.nd (pdi_val (pd_var 1)).weak (blk_of (by rfl)) (fun _ _ _ _ _ => (pdg_name 3 sc.nd)) (fun _ _ _ _ _ => (pdts_one (pdt_cmp (op_eqD (hu64 hr)) eqD_ok (pd_new (po_lc [("_law_a", 4)] rfl sc.nd (pdi_val (pd_var 2)).weak (blk_of (by rfl)) (fun _ _ _ _ _ => (pdg_name 4 sc.nd)) (fun _ _ _ _ _ => (pdts_one (pdt_cmp (op_notInA (hu65 hr)) notInD_ok (pd_var 4).weak (pd_var 3).weak))) (fun _ _ _ _ _ => (pd_var 4)))).weak (pd_lst pda_nil).weak))) (fun _ _ _ _ _ => (pd_var 3)))).weak (pd_lst pda_nil).weak) (pdss_one (pds_ret pd_bl)) pdss_nil)))
  (pdss_one (pds_ret pd_bl)))
theorem w__law_within {P : Program} {w : World} {K : PySem.W.Frag} {mg : Str → Option Value} {base : Heap} (V : Vn K mg) : FnD P w K mg base 1 "_law_within" 2 F__law_within := by
  obtain ⟨a, fd, hm, FF⟩ := V.f__law_within
  exact ⟨a, fd, ["_law_fine", "_law_coarse"], hm, FF.kp, binds_of (FunD.bindsA (ps := ["_law_fine", "_law_coarse"]) FF fun _ _ _ _ _ _ us hl => match us, hl with | [_, _], _ => rfl), g__law_within V FF⟩
noncomputable def s__law_chain : S := (sSeq (sSetV 3 (vL (aSz aNil)))
  (sSeq (sFor (aIt range1M (aCons (eVar 0) aNil)) (bName 4) (sSeq (sSet 5 (eBi min2D (aCons (eOp addD (eVar 4) (eC (.int 1))) (aCons (eOp subD (eVar 0) (eC (.int 1))) aNil))))
  (sSeq (sSet 6 (eIf (tE (eVar 2)) (eTup (aCons (eVar 4) (aCons (eVar 5) (aCons (eVar 4) (aCons (eVar 5) aNil))))) (eTup (aCons (eVar 4) (aCons (eVar 4) (aCons (eVar 5) (aCons (eVar 5) aNil)))))))
  (sAppend 3 (eTup (aCons (eIf (tCmp eqD (eVar 4) (eOp subD (eVar 0) (eC (.int 1)))) (eTup (aCons (eC (.str "goal")) aNil)) (eTup aNil)) (aCons (eTup (aCons (eC (.int 2)) (aCons (eC (.int 2)) aNil))) (aCons (eVar 6) aNil))))))))
  (sFrz 3 (sRet (eTup (aCons (eVar 1) (aCons (eBi tupleD (aCons (eVar 3) aNil)) aNil)))))))
noncomputable def F__law_chain : List D → M D := runF 7 s__law_chain
theorem sc__law_chain : FnScope ["_law_size", "_law_called", "_law_second", "_law_kinds", "_law_k", "_law_on", "_law_nexts"] ["_law_size", "_law_called", "_law_second"] (defScope (top 53)) := ⟨rfl, rfl, rfl, by decide +kernel, rfl, by decide +kernel, by decide +kernel⟩
theorem g__law_chain {P : Program} {w : World} {K : PySem.W.Frag} {mg : Str → Option Value} {base : Heap} {a : Addr} {fd : FuncData} (V : Vn K mg) (FF : FunD K "_law_chain" "_law_chain" (defArgs (top 53)) (defBody (top 53)) (defScope (top 53)) [] [] a fd) : FnG P w K mg base CX0 1 a fd ["_law_size", "_law_called", "_law_second"] (spD K 3 F__law_chain) := by
  have sc := sc__law_chain
  refine fn_dG (k := 0) FF sc fun cdv A outer s H E hr gd => ?_
  exact (pdss_cons (pds_setV 3 sc.nd (pv_ol (po_lst pda_nil)))
  (pdss_cons (pds_for rfl (pdi_range1 V.b_range (pda_cons (pd_var 0) pda_nil)) (pdg_name 4 sc.nd) (pdss_cons (pds_set 5 sc.nd (pd_min2 rfl V.b_min (pba_cons (pd_add (pd_var 4) pd_int).weak (pba_cons (pd_sub (pd_var 0) pd_int).weak pba_nil))))
  (pdss_cons (pds_set 6 sc.nd (pd_if (pdt_val (pd_var 2)) (pd_tup (pda_cons (pd_var 4) (pda_cons (pd_var 5) (pda_cons (pd_var 4) (pda_cons (pd_var 5) pda_nil))))) (pd_tup (pda_cons (pd_var 4) (pda_cons (pd_var 4) (pda_cons (pd_var 5) (pda_cons (pd_var 5) pda_nil)))))))
  (pdss_one (pds_append 3 (pd_tup (pda_cons (pd_if (pdt_cmp (op_eqD (hu64 hr)) eqD_ok (pd_var 4).weak (pd_sub (pd_var 0) pd_int).weak) (pd_tup (pda_cons (pd_str) pda_nil)) (pd_tup pda_nil)) (pda_cons (pd_tup (pda_cons pd_int (pda_cons pd_int pda_nil))) (pda_cons (pd_var 6) pda_nil)))))))))
  (pdss_frz 3 (pdss_one (pds_ret (pd_tup (pda_cons (pd_var 1) (pda_cons (pd_tuple V.b_tuple (pda_cons (pd_var 3) pda_nil)) pda_nil))))))))
theorem w__law_chain {P : Program} {w : World} {K : PySem.W.Frag} {mg : Str → Option Value} {base : Heap} (V : Vn K mg) : FnD P w K mg base 1 "_law_chain" 3 F__law_chain := by
  obtain ⟨a, fd, hm, FF⟩ := V.f__law_chain
  exact ⟨a, fd, ["_law_size", "_law_called", "_law_second"], hm, FF.kp, binds_of (FunD.bindsA (ps := ["_law_size", "_law_called", "_law_second"]) FF fun _ _ _ _ _ _ us hl => match us, hl with | [_, _, _], _ => rfl), g__law_chain V FF⟩
noncomputable def s__law_chains_right : S := (sSeq (sSet 2 (eO (eLcA [7] (aIt range1M (aCons (eVar 0) aNil)) (bName 7) tYesD (eTup (aCons (eVar 7) aNil)))))
  (sSeq (sFor (aItem (eTup (aCons (eC (.bl false)) (aCons (eC (.bl true)) aNil)))) (bName 3) (sSeq (sSet 4 (eCall F__law_chain (aCons (eVar 0) (aCons (eVar 1) (aCons (eVar 3) aNil)))))
  (sSeq (sSet 5 (eTup (aCons (eVar 1) (aCons (eBi tupleD (aCons (eO (eLcA [8] (aItem (eIx (eVar 4) (eC (.int 1)))) (bName 8) tYesD (eOp addD (eTup (aCons (eTup aNil) aNil)) (eSl (eVar 8) (pSome (eC (.int 1))) pNone)))) aNil)) aNil))))
  (sFor (aItem (eTup (aCons (eSl (eVar 1) pNone (pSome (eC (.int 1)))) (aCons (eSl (eVar 1) (pSome (eC (.int 1))) pNone) (aCons (eVar 1) (aCons (eTup aNil) aNil)))))) (bName 6) (sIf (tOr (tCmp neD (eCall F_blocks (aCons (eVar 4) (aCons (eTup (aCons (eVar 6) aNil)) aNil))) (eVar 2)) (tCmp neD (eCall F_blocks (aCons (eVar 5) (aCons (eTup (aCons (eVar 6) (aCons (eTup aNil) aNil))) aNil))) (eLst (aCons (eTupRg (eVar 0)) aNil)))) (sRet (eC (.bl false))) sNil)))))
  (sRet (eC (.bl true)))))
noncomputable def F__law_chains_right : List D → M D := runF 9 s__law_chains_right
theorem sc__law_chains_right : FnScope ["_law_size", "_law_called", "_law_apart", "_law_second", "_law_own", "_law_bare", "_law_team_here", "_law_k", "_law_kind"] ["_law_size", "_law_called"] (defScope (top 54)) := ⟨rfl, rfl, rfl, by decide +kernel, rfl, by decide +kernel, by decide +kernel⟩
theorem g__law_chains_right {P : Program} {w : World} {K : PySem.W.Frag} {mg : Str → Option Value} {base : Heap} {a : Addr} {fd : FuncData} (V : Vn K mg) (FF : FunD K "_law_chains_right" "_law_chains_right" (defArgs (top 54)) (defBody (top 54)) (defScope (top 54)) [] [] a fd) : FnG P w K mg base CX0 8 a fd ["_law_size", "_law_called"] (spD K 2 F__law_chains_right) := by
  have sc := sc__law_chains_right
  refine fn_dG (k := 7) FF sc fun cdv A outer s H E hr gd => ?_
  exact (pdss_cons (pds_setLc 2 [("_law_k", 7)] rfl sc.nd (pdi_range1 V.b_range (pda_cons (pd_var 0) pda_nil)).weak (blk_of (by rfl)) (fun _ _ _ _ _ => (pdg_name 7 sc.nd)) (fun _ _ _ _ _ => pdts_nil) (fun _ _ _ _ _ => (pd_tup (pda_cons (pd_var 7) pda_nil))) (sw_true rfl rfl rfl (by decide +kernel)))
  (pdss_cons (pds_for rfl (pdi_val (pd_tup (pda_cons pd_bl (pda_cons pd_bl pda_nil)))) (pdg_name 3 sc.nd) (pdss_cons (pds_set 4 sc.nd (pd_call (w__law_chain V) (hr.mono (by decide)) gd (pda_cons (pd_var 0) (pda_cons (pd_var 1) (pda_cons (pd_var 3) pda_nil))) (aCons_len (aCons_len (aCons_len aNil_len)))))
  (pdss_cons (pds_set 5 sc.nd (pd_tup (pda_cons (pd_var 1) (pda_cons (pd_tuple V.b_tuple (pda_cons (pd_new (po_lc [("_law_kind", 8)] rfl sc.nd (pdi_val (pd_ix hr (pd_var 4) pd_int)).weak (blk_of (by rfl)) (fun _ _ _ _ _ => (pdg_name 8 sc.nd)) (fun _ _ _ _ _ => pdts_nil) (fun _ _ _ _ _ => (pd_add (pd_tup (pda_cons (pd_tup pda_nil) pda_nil)) (pd_slice (pd_var 8) (pdp_some pd_int) pdp_none))))) pda_nil)) pda_nil))))
  (pdss_one (pds_for rfl (pdi_val (pd_tup (pda_cons (pd_slice (pd_var 1) pdp_none (pdp_some pd_int)) (pda_cons (pd_slice (pd_var 1) (pdp_some pd_int) pdp_none) (pda_cons (pd_var 1) (pda_cons (pd_tup pda_nil) pda_nil)))))) (pdg_name 6 sc.nd) (pdss_one (pds_if (pdw_or (pdt_cmp (op_neD (hu64 hr)) neD_ok (pd_call (w_blocks V) (hr.mono (by decide)) gd (pda_cons (pd_var 4) (pda_cons (pd_tup (pda_cons (pd_var 6) pda_nil)) pda_nil)) (aCons_len (aCons_len aNil_len))).weak (pd_var 2).weak) (pdw_or1 (pdt_cmp (op_neD (hu64 hr)) neD_ok (pd_call (w_blocks V) (hr.mono (by decide)) gd (pda_cons (pd_var 5) (pda_cons (pd_tup (pda_cons (pd_var 6) (pda_cons (pd_tup pda_nil) pda_nil))) pda_nil)) (aCons_len (aCons_len aNil_len))).weak (pd_lst (pda_cons (pd_tupRg rfl V.b_tuple V.b_range (pd_var 0)) pda_nil)).weak))).pt (pdss_one (pds_ret pd_bl)) pdss_nil)))))))
  (pdss_one (pds_ret pd_bl))))
theorem w__law_chains_right {P : Program} {w : World} {K : PySem.W.Frag} {mg : Str → Option Value} {base : Heap} (V : Vn K mg) : FnD P w K mg base 8 "_law_chains_right" 2 F__law_chains_right := by
  obtain ⟨a, fd, hm, FF⟩ := V.f__law_chains_right
  exact ⟨a, fd, ["_law_size", "_law_called"], hm, FF.kp, binds_of (FunD.bindsA (ps := ["_law_size", "_law_called"]) FF fun _ _ _ _ _ _ us hl => match us, hl with | [_, _], _ => rfl), g__law_chains_right V FF⟩
noncomputable def s_law : S := (sSeq (sSet 1 (eCall F__law_begun (aCons (eVar 0) aNil)))
  (sSeq (sParV [2, 3] (vCons (vD (eOp addD (eC (.int 1)) (eCall F__law_draw (aCons (eVar 1) (aCons (eC (.int 4)) aNil))))) (vCons (vD (eOp addD (eC (.int 1)) (eCall F__law_draw (aCons (eVar 1) (aCons (eC (.int 10)) aNil))))) vNil)))
  (sSeq (sSet 4 (eCall F__law_arena (aCons (eVar 1) (aCons (eC (.int 5)) (aCons (eC (.int 3)) aNil)))))
  (sSeq (sSet 5 (eCall F__law_twinned (aCons (eVar 1) (aCons (eVar 4) aNil))))
  (sSeq (sSet 6 (eO (eLcA [13] (aIt range1M (aCons (eVar 2) aNil)) (bName 13) tYesD (eCall F__law_team (aCons (eVar 1) (aCons (eVar 4) aNil))))))
  (sSeq (sSet 7 (eCall F_blocks (aCons (eVar 5) (aCons (eBi tupleD (aCons (eVar 6) aNil)) aNil))))
  (sSeq (sIf (tNot (tE (eCall F__law_is_right (aCons (eVar 7) (aCons (eBi lenD (aCons (eIx (eVar 5) (eC (.int 1))) aNil)) aNil))))) (sRet (eC (.bl false))) sNil)
  (sSeq (sSet 8 (eCallK F_blocks [1, 0] aNil (aCons (eBi tupleD (aCons (eOp addD (eO (aRev (eVar 6))) (eSl (eVar 6) pNone (pSome (eC (.int 1))))) aNil)) (aCons (eVar 5) aNil))))
  (sSeq (sSet 9 (eCall F_blocks (aCons (eVar 5) (aCons (eBi tupleD (aCons (eOp addD (eVar 6) (eLst (aCons (eCall F__law_team (aCons (eVar 1) (aCons (eVar 4) aNil))) aNil))) aNil)) aNil))))
  (sSeq (sIf (tOr (tCmp neD (eVar 8) (eVar 7)) (tOr (tNot (tE (eCall F__law_is_right (aCons (eVar 9) (aCons (eBi lenD (aCons (eIx (eVar 5) (eC (.int 1))) aNil)) aNil))))) (tNot (tE (eCall F__law_within (aCons (eVar 9) (aCons (eVar 7) aNil))))))) (sRet (eC (.bl false))) sNil)
  (sSeq (sIf (tCmp neD (eO (eLcA [14] (aItem (eVar 7)) (bName 14) (tCmp eqD (eO (eLcA [15] (aItem (eVar 14)) (bName 15) (tCmp ltD (eVar 15) (eBi lenD (aCons (eIx (eVar 4) (eC (.int 1))) aNil))) (eVar 15))) (eLst aNil)) (eVar 14))) (eLst aNil)) (sRet (eC (.bl false))) sNil)
  (sSeq (sSet 10 (eTup (aCons (eIx (eVar 5) (eC (.int 0))) (aCons (eBi tupleD (aCons (eO (eLcA [16] (aItem (eIx (eVar 5) (eC (.int 1)))) (bName 16) tYesD (eOp addD (eTup (aCons (eTup aNil) aNil)) (eSl (eVar 16) (pSome (eC (.int 1))) pNone)))) aNil)) aNil))))
  (sSeq (sIf (tCmp neD (eCall F_blocks (aCons (eVar 10) (aCons (eBi tupleD (aCons (eVar 6) aNil)) aNil))) (eLst (aCons (eTupRg (eBi lenD (aCons (eIx (eVar 5) (eC (.int 1))) aNil))) aNil))) (sRet (eC (.bl false))) sNil)
  (sSeq (sSet 11 (eMl (aSz (aCons (eC (.str "a")) (aCons (eC (.str "b")) (aCons (eC (.str "can")) (aCons (eC (.str "me")) (aCons (eC (.str "you")) (aCons (eC (.str "zzzzzzzz")) aNil)))))))))
  (sSeq (sSet 12 (eBi sortedM (aCons (eO (eLcA [13] (aIt range1M (aCons (eC (.int 2)) aNil)) (bName 13) tYesD (ePopH 11 (eCall F__law_draw (aCons (eVar 1) (aCons (eBiR lenD (aCons (eVar 11) aNil)) aNil)))))) aNil)))
  (sRet (eCall F__law_chains_right (aCons (eVar 3) (aCons (eBi tupleD (aCons (eVar 12) aNil)) aNil)))))))))))))))))))
noncomputable def F_law : List D → M D := runF 17 s_law
theorem sc_law : FnScope ["_law_script", "_law_m", "_law_many", "_law_size", "_law_ground", "_law_wide", "_law_teams", "_law_told", "_law_again", "_law_more", "_law_bare", "_law_pool", "_law_called", "_law_k", "_law_row", "_law_one", "_law_kind"] ["_law_script"] (defScope (top 55)) := ⟨rfl, rfl, rfl, by decide +kernel, rfl, by decide +kernel, by decide +kernel⟩
theorem g_law {P : Program} {w : World} {K : PySem.W.Frag} {mg : Str → Option Value} {base : Heap} {a : Addr} {fd : FuncData} (V : Vn K mg) (FF : FunD K "law" "law" (defArgs (top 55)) (defBody (top 55)) (defScope (top 55)) [] [] a fd) : FnG P w K mg base CX0 9 a fd ["_law_script"] (spD K 1 F_law) := by
  have sc := sc_law
  refine fn_dG (k := 8) FF sc fun cdv A outer s H E hr gd => ?_
  exact (pdss_cons (pds_set 1 sc.nd (pd_call (w__law_begun V) (hr.mono (by decide)) gd (pda_cons (pd_var 0) pda_nil) (aCons_len aNil_len)))
  (pdss_cons (pds_par2 2 3 rfl sc.nd (pva_cons (pv_d (pd_add pd_int (pd_call (w__law_draw V) (hr.mono (by decide)) gd (pda_cons (pd_var 1) (pda_cons pd_int pda_nil)) (aCons_len (aCons_len aNil_len))))) (pva_cons (pv_d (pd_add pd_int (pd_call (w__law_draw V) (hr.mono (by decide)) gd (pda_cons (pd_var 1) (pda_cons pd_int pda_nil)) (aCons_len (aCons_len aNil_len))))) pva_nil)))
  (pdss_cons (pds_set 4 sc.nd (pd_call (w__law_arena V) (hr.mono (by decide)) gd (pda_cons (pd_var 1) (pda_cons pd_int (pda_cons pd_int pda_nil))) (aCons_len (aCons_len (aCons_len aNil_len)))))
  (pdss_cons (pds_set 5 sc.nd (pd_call (w__law_twinned V) (hr.mono (by decide)) gd (pda_cons (pd_var 1) (pda_cons (pd_var 4) pda_nil)) (aCons_len (aCons_len aNil_len))))
  (pdss_cons (pds_setLc 6 [("_law_k", 13)] rfl sc.nd (pdi_range1 V.b_range (pda_cons (pd_var 2) pda_nil)).weak (blk_of (by rfl)) (fun _ _ _ _ _ => (pdg_name 13 sc.nd)) (fun _ _ _ _ _ => pdts_nil) (fun _ _ _ _ _ => (pd_call (w__law_team V) (hr.mono (by decide)) gd (pda_cons (pd_var 1) (pda_cons (pd_var 4) pda_nil)) (aCons_len (aCons_len aNil_len)))) (sw_true rfl rfl rfl (by decide +kernel)))
  (pdss_cons (pds_set 7 sc.nd (pd_call (w_blocks V) (hr.mono (by decide)) gd (pda_cons (pd_var 5) (pda_cons (pd_tuple V.b_tuple (pda_cons (pd_var 6) pda_nil)) pda_nil)) (aCons_len (aCons_len aNil_len))))
  (pdss_cons (pds_if (pdt_not (pdt_val (pd_call (w__law_is_right V) (hr.mono (by decide)) gd (pda_cons (pd_var 7) (pda_cons (pd_len V.b_len (pba_cons (pd_ix hr (pd_var 5) pd_int).weak pba_nil)) pda_nil)) (aCons_len (aCons_len aNil_len))))) (pdss_one (pds_ret pd_bl)) pdss_nil)
  (pdss_cons (pds_set 8 sc.nd (pd_callK0 (wk_blocks_0_1_0 V) (hr.mono (by decide)) gd (pka_cons (pd_tuple V.b_tuple (pda_cons (pd_add (pd_new (po_rev (pd_var 6))) (pd_slice (pd_var 6) pdp_none (pdp_some pd_int))) pda_nil)) (pka_cons (pd_var 5) pka_nil)) (aCons_len (aCons_len aNil_len))))
  (pdss_cons (pds_set 9 sc.nd (pd_call (w_blocks V) (hr.mono (by decide)) gd (pda_cons (pd_var 5) (pda_cons (pd_tuple V.b_tuple (pda_cons (pd_add (pd_var 6) (pd_lst (pda_cons (pd_call (w__law_team V) (hr.mono (by decide)) gd (pda_cons (pd_var 1) (pda_cons (pd_var 4) pda_nil)) (aCons_len (aCons_len aNil_len))) pda_nil))) pda_nil)) pda_nil)) (aCons_len (aCons_len aNil_len))))
  (pdss_cons (pds_if (pdw_or (pdt_cmp (op_neD (hu64 hr)) neD_ok (pd_var 8).weak (pd_var 7).weak) (pdw_or (pdt_not (pdt_val (pd_call (w__law_is_right V) (hr.mono (by decide)) gd (pda_cons (pd_var 9) (pda_cons (pd_len V.b_len (pba_cons (pd_ix hr (pd_var 5) pd_int).weak pba_nil)) pda_nil)) (aCons_len (aCons_len aNil_len))))) (pdw_or1 (pdt_not (pdt_val (pd_call (w__law_within V) (hr.mono (by decide)) gd (pda_cons (pd_var 9) (pda_cons (pd_var 7) pda_nil)) (aCons_len (aCons_len aNil_len)))))))).pt (pdss_one (pds_ret pd_bl)) pdss_nil)
  (pdss_cons (pds_if (pdt_cmp (op_neD (hu64 hr)) neD_ok (pd_new (po_lc [("_law_row", 14)] rfl sc.nd (pdi_val (pd_var 7)).weak (blk_of (by rfl)) (fun _ _ _ _ _ => (pdg_name 14 sc.nd)) (fun _ _ _ _ _ => (pdts_one (pdt_cmp (op_eqD (hu64 hr)) eqD_ok (pd_new (po_lc [("_law_one", 15)] rfl sc.nd (pdi_val (pd_var 14)).weak (blk_of (by rfl)) (fun _ _ _ _ _ => (pdg_name 15 sc.nd)) (fun _ _ _ _ _ => (pdts_one (pdt_cmp (op_ltA (hu0 hr)) ltD_ok (pd_var 15).weak (pd_len V.b_len (pba_cons (pd_ix hr (pd_var 4) pd_int).weak pba_nil)).weak))) (fun _ _ _ _ _ => (pd_var 15)))).weak (pd_lst pda_nil).weak))) (fun _ _ _ _ _ => (pd_var 14)))).weak (pd_lst pda_nil).weak) (pdss_one (pds_ret pd_bl)) pdss_nil)
  (pdss_cons (pds_set 10 sc.nd (pd_tup (pda_cons (pd_ix hr (pd_var 5) pd_int) (pda_cons (pd_tuple V.b_tuple (pda_cons (pd_new (po_lc [("_law_kind", 16)] rfl sc.nd (pdi_val (pd_ix hr (pd_var 5) pd_int)).weak (blk_of (by rfl)) (fun _ _ _ _ _ => (pdg_name 16 sc.nd)) (fun _ _ _ _ _ => pdts_nil) (fun _ _ _ _ _ => (pd_add (pd_tup (pda_cons (pd_tup pda_nil) pda_nil)) (pd_slice (pd_var 16) (pdp_some pd_int) pdp_none))))) pda_nil)) pda_nil))))
  (pdss_cons (pds_if (pdt_cmp (op_neD (hu64 hr)) neD_ok (pd_call (w_blocks V) (hr.mono (by decide)) gd (pda_cons (pd_var 10) (pda_cons (pd_tuple V.b_tuple (pda_cons (pd_var 6) pda_nil)) pda_nil)) (aCons_len (aCons_len aNil_len))).weak (pd_lst (pda_cons (pd_tupRg rfl V.b_tuple V.b_range (pd_len V.b_len (pba_cons (pd_ix hr (pd_var 5) pd_int).weak pba_nil))) pda_nil)).weak) (pdss_one (pds_ret pd_bl)) pdss_nil)
  (pdss_cons (pds_set 11 sc.nd (pd_ml (po_lst (pda_cons (pd_str) (pda_cons (pd_str) (pda_cons (pd_str) (pda_cons (pd_str) (pda_cons (pd_str) (pda_cons (pd_str) pda_nil)))))))))
  (pdss_cons (pds_set 12 sc.nd (pd_sorted V.b_sorted (pda_cons (pd_new (po_lc [("_law_k", 13)] rfl sc.nd (pdi_range1 V.b_range (pda_cons pd_int pda_nil)).weak (blk_of (by rfl)) (fun _ _ _ _ _ => (pdg_name 13 sc.nd)) (fun _ _ _ _ _ => pdts_nil) (fun _ _ _ _ _ => (pd_popH 11 (pd_call (w__law_draw V) (hr.mono (by decide)) gd (pda_cons (pd_var 1) (pda_cons (pd_lenR V.b_len (pda_cons (pd_var 11) pda_nil)) pda_nil)) (aCons_len (aCons_len aNil_len))))))) pda_nil)))
  (pdss_one (pds_ret (pd_call (w__law_chains_right V) (hr.mono (by decide)) gd (pda_cons (pd_var 3) (pda_cons (pd_tuple V.b_tuple (pda_cons (pd_var 12) pda_nil)) pda_nil)) (aCons_len (aCons_len aNil_len))))))))))))))))))))
theorem vn {K : PySem.W.Frag} {h : Heap} {mg : Str → Option Value} (X : K.In h) (Gl : h.Ns mainGlobals mg) (c : He.SaysD fa fn K) : Vn K mg := by
  have q0 := He.glo_ok X Gl (c.fact 0 (f := .glo "is_whole") rfl)
  have q1 := He.glo_ok X Gl (c.fact 1 (f := .glo "is_of") rfl)
  have q2 := He.glo_ok X Gl (c.fact 2 (f := .glo "is_name") rfl)
  have q3 := He.glo_ok X Gl (c.fact 3 (f := .glo "is_rising") rfl)
  have q4 := He.glo_ok X Gl (c.fact 4 (f := .glo "rows_of_counts") rfl)
  have q5 := He.glo_ok X Gl (c.fact 5 (f := .glo "is_tuple") rfl)
  have q6 := He.glo_ok X Gl (c.fact 6 (f := .glo "is_right_place") rfl)
  have q7 := He.glo_ok X Gl (c.fact 7 (f := .glo "need_arena") rfl)
  have q8 := He.glo_ok X Gl (c.fact 8 (f := .glo "next_of") rfl)
  have q9 := He.glo_ok X Gl (c.fact 9 (f := .glo "is_group") rfl)
  have q10 := He.glo_ok X Gl (c.fact 10 (f := .glo "rest_of") rfl)
  have q11 := He.glo_ok X Gl (c.fact 11 (f := .glo "counts_of") rfl)
  have q12 := He.glo_ok X Gl (c.fact 12 (f := .glo "choices_of") rfl)
  have q13 := He.glo_ok X Gl (c.fact 13 (f := .glo "answers_of") rfl)
  have q14 := He.glo_ok X Gl (c.fact 14 (f := .glo "outcome") rfl)
  have q15 := He.glo_ok X Gl (c.fact 15 (f := .glo "outcomes") rfl)
  have q16 := He.glo_ok X Gl (c.fact 16 (f := .glo "need_groups") rfl)
  have q17 := He.glo_ok X Gl (c.fact 17 (f := .glo "kinds_led_to") rfl)
  have q18 := He.glo_ok X Gl (c.fact 18 (f := .glo "are_covered") rfl)
  have q19 := He.glo_ok X Gl (c.fact 19 (f := .glo "are_paired") rfl)
  have q20 := He.glo_ok X Gl (c.fact 20 (f := .glo "tables_of") rfl)
  have q21 := He.glo_ok X Gl (c.fact 21 (f := .glo "kinds_by_marks") rfl)
  have q22 := He.glo_ok X Gl (c.fact 22 (f := .glo "split_kinds") rfl)
  have q23 := He.glo_ok X Gl (c.fact 23 (f := .glo "levels") rfl)
  have q24 := He.glo_ok X Gl (c.fact 24 (f := .glo "sets_of") rfl)
  have q25 := He.glo_ok X Gl (c.fact 25 (f := .glo "blocks") rfl)
  have q26 := He.glo_ok X Gl (c.fact 26 (f := .glo "_law_mixed") rfl)
  have q27 := He.glo_ok X Gl (c.fact 27 (f := .glo "_law_folded") rfl)
  have q28 := He.glo_ok X Gl (c.fact 28 (f := .glo "_law_draw") rfl)
  have q29 := He.glo_ok X Gl (c.fact 29 (f := .glo "_law_begun") rfl)
  have q30 := He.glo_ok X Gl (c.fact 30 (f := .glo "_law_tuples") rfl)
  have q31 := He.glo_ok X Gl (c.fact 31 (f := .glo "_law_arena") rfl)
  have q32 := He.glo_ok X Gl (c.fact 32 (f := .glo "_law_twinned") rfl)
  have q33 := He.glo_ok X Gl (c.fact 33 (f := .glo "_law_team") rfl)
  have q34 := He.glo_ok X Gl (c.fact 34 (f := .glo "_law_is_right") rfl)
  have q35 := He.glo_ok X Gl (c.fact 35 (f := .glo "_law_within") rfl)
  have q36 := He.glo_ok X Gl (c.fact 36 (f := .glo "_law_chain") rfl)
  have q37 := He.glo_ok X Gl (c.fact 37 (f := .glo "_law_chains_right") rfl)
  have q38 := He.glo_ok X Gl (c.fact 38 (f := .glo "law") rfl)
  obtain ⟨fd0, F0⟩ := c.def_ 0 (d := d_is_whole) rfl
  obtain ⟨fd1, F1⟩ := c.def_ 1 (d := d_is_of) rfl
  obtain ⟨fd2, F2⟩ := c.def_ 2 (d := d_is_name) rfl
  obtain ⟨fd3, F3⟩ := c.def_ 3 (d := d_is_rising) rfl
  obtain ⟨fd4, F4⟩ := c.def_ 4 (d := d_rows_of_counts) rfl
  obtain ⟨fd5, F5⟩ := c.def_ 5 (d := d_is_tuple) rfl
  obtain ⟨fd6, F6⟩ := c.def_ 6 (d := d_is_right_place) rfl
  obtain ⟨fd7, F7⟩ := c.def_ 7 (d := d_need_arena) rfl
  obtain ⟨fd8, F8⟩ := c.def_ 8 (d := d_next_of) rfl
  obtain ⟨fd9, F9⟩ := c.def_ 9 (d := d_is_group) rfl
  obtain ⟨fd10, F10⟩ := c.def_ 10 (d := d_rest_of) rfl
  obtain ⟨fd11, F11⟩ := c.def_ 11 (d := d_counts_of) rfl
  obtain ⟨fd12, F12⟩ := c.def_ 12 (d := d_choices_of) rfl
  obtain ⟨fd13, F13⟩ := c.def_ 13 (d := d_answers_of) rfl
  obtain ⟨fd14, F14⟩ := c.def_ 14 (d := d_outcome) rfl
  obtain ⟨fd15, F15⟩ := c.def_ 15 (d := d_outcomes) rfl
  obtain ⟨fd16, F16⟩ := c.def_ 16 (d := d_need_groups) rfl
  obtain ⟨fd17, F17⟩ := c.def_ 17 (d := d_kinds_led_to) rfl
  obtain ⟨fd18, F18⟩ := c.def_ 18 (d := d_are_covered) rfl
  obtain ⟨fd19, F19⟩ := c.def_ 19 (d := d_are_paired) rfl
  obtain ⟨fd20, F20⟩ := c.def_ 20 (d := d_tables_of) rfl
  obtain ⟨fd21, F21⟩ := c.def_ 21 (d := d_kinds_by_marks) rfl
  obtain ⟨fd22, F22⟩ := c.def_ 22 (d := d_split_kinds) rfl
  obtain ⟨fd23, F23⟩ := c.def_ 23 (d := d_levels) rfl
  obtain ⟨fd24, F24⟩ := c.def_ 24 (d := d_sets_of) rfl
  obtain ⟨fd25, F25⟩ := c.def_ 25 (d := d_blocks) rfl
  obtain ⟨fd26, F26⟩ := c.def_ 26 (d := d__law_mixed) rfl
  obtain ⟨fd27, F27⟩ := c.def_ 27 (d := d__law_folded) rfl
  obtain ⟨fd28, F28⟩ := c.def_ 28 (d := d__law_draw) rfl
  obtain ⟨fd29, F29⟩ := c.def_ 29 (d := d__law_begun) rfl
  obtain ⟨fd30, F30⟩ := c.def_ 30 (d := d__law_tuples) rfl
  obtain ⟨fd31, F31⟩ := c.def_ 31 (d := d__law_arena) rfl
  obtain ⟨fd32, F32⟩ := c.def_ 32 (d := d__law_twinned) rfl
  obtain ⟨fd33, F33⟩ := c.def_ 33 (d := d__law_team) rfl
  obtain ⟨fd34, F34⟩ := c.def_ 34 (d := d__law_is_right) rfl
  obtain ⟨fd35, F35⟩ := c.def_ 35 (d := d__law_within) rfl
  obtain ⟨fd36, F36⟩ := c.def_ 36 (d := d__law_chain) rfl
  obtain ⟨fd37, F37⟩ := c.def_ 37 (d := d__law_chains_right) rfl
  obtain ⟨fd38, F38⟩ := c.def_ 38 (d := d_law) rfl
  exact { b_ValueError := He.free_ok X Gl (c.fact 39 (f := .free "ValueError") rfl), b_all := He.free_ok X Gl (c.fact 40 (f := .free "all") rfl), b_any := He.free_ok X Gl (c.fact 41 (f := .free "any") rfl), b_bool := He.free_ok X Gl (c.fact 42 (f := .free "bool") rfl), b_enumerate := He.free_ok X Gl (c.fact 43 (f := .free "enumerate") rfl), b_int := He.free_ok X Gl (c.fact 44 (f := .free "int") rfl), b_isinstance := He.free_ok X Gl (c.fact 45 (f := .free "isinstance") rfl), b_len := He.free_ok X Gl (c.fact 46 (f := .free "len") rfl), b_list := He.free_ok X Gl (c.fact 47 (f := .free "list") rfl), b_min := He.free_ok X Gl (c.fact 48 (f := .free "min") rfl), b_range := He.free_ok X Gl (c.fact 49 (f := .free "range") rfl), b_repr := He.free_ok X Gl (c.fact 50 (f := .free "repr") rfl), b_sorted := He.free_ok X Gl (c.fact 51 (f := .free "sorted") rfl), b_str := He.free_ok X Gl (c.fact 52 (f := .free "str") rfl), b_tuple := He.free_ok X Gl (c.fact 53 (f := .free "tuple") rfl), b_zip := He.free_ok X Gl (c.fact 54 (f := .free "zip") rfl), c_SMALL := He.str_ok X Gl (c.fact 55 (f := .str "SMALL" "abcdefghijklmnopqrstuvwxyz") rfl), c_LONGEST := He.int_ok X Gl (c.fact 56 (f := .int "LONGEST" 8) rfl), c_MOST_PLAYERS := He.int_ok X Gl (c.fact 57 (f := .int "MOST_PLAYERS" 4) rfl), c_MOST_PLACES := He.int_ok X Gl (c.fact 58 (f := .int "MOST_PLACES" 10) rfl), c_MOST_MARKS := He.int_ok X Gl (c.fact 59 (f := .int "MOST_MARKS" 4) rfl), c_MOST_MOVES := He.int_ok X Gl (c.fact 60 (f := .int "MOST_MOVES" 3) rfl), c_MOST_JOINTS := He.int_ok X Gl (c.fact 61 (f := .int "MOST_JOINTS" 36) rfl), c_MOST_GROUPS := He.int_ok X Gl (c.fact 62 (f := .int "MOST_GROUPS" 6) rfl), f_is_whole := ⟨_, fd0, q0, F0⟩, f_is_of := ⟨_, fd1, q1, F1⟩, f_is_name := ⟨_, fd2, q2, F2⟩, f_is_rising := ⟨_, fd3, q3, F3⟩, f_rows_of_counts := ⟨_, fd4, q4, F4⟩, f_is_tuple := ⟨_, fd5, q5, F5⟩, f_is_right_place := ⟨_, fd6, q6, F6⟩, f_need_arena := ⟨_, fd7, q7, F7⟩, f_next_of := ⟨_, fd8, q8, F8⟩, f_is_group := ⟨_, fd9, q9, F9⟩, f_rest_of := ⟨_, fd10, q10, F10⟩, f_counts_of := ⟨_, fd11, q11, F11⟩, f_choices_of := ⟨_, fd12, q12, F12⟩, f_answers_of := ⟨_, fd13, q13, F13⟩, f_outcome := ⟨_, fd14, q14, F14⟩, f_outcomes := ⟨_, fd15, q15, F15⟩, f_need_groups := ⟨_, fd16, q16, F16⟩, f_kinds_led_to := ⟨_, fd17, q17, F17⟩, f_are_covered := ⟨_, fd18, q18, F18⟩, f_are_paired := ⟨_, fd19, q19, F19⟩, f_tables_of := ⟨_, fd20, q20, F20⟩, f_kinds_by_marks := ⟨_, fd21, q21, F21⟩, f_split_kinds := ⟨_, fd22, q22, F22⟩, f_levels := ⟨_, fd23, q23, F23⟩, f_sets_of := ⟨_, fd24, q24, F24⟩, f_blocks := ⟨_, fd25, q25, F25⟩, f__law_mixed := ⟨_, fd26, q26, F26⟩, f__law_folded := ⟨_, fd27, q27, F27⟩, f__law_draw := ⟨_, fd28, q28, F28⟩, f__law_begun := ⟨_, fd29, q29, F29⟩, f__law_tuples := ⟨_, fd30, q30, F30⟩, f__law_arena := ⟨_, fd31, q31, F31⟩, f__law_twinned := ⟨_, fd32, q32, F32⟩, f__law_team := ⟨_, fd33, q33, F33⟩, f__law_is_right := ⟨_, fd34, q34, F34⟩, f__law_within := ⟨_, fd35, q35, F35⟩, f__law_chain := ⟨_, fd36, q36, F36⟩, f__law_chains_right := ⟨_, fd37, q37, F37⟩, f_law := ⟨_, fd38, q38, F38⟩ }
end L_k48
end
section
set_option Elab.async false
set_option linter.all false
set_option maxRecDepth 100000
set_option maxHeartbeats 4000000
set_option autoImplicit false
namespace PD
open PySem
theorem optA_id {f : D → Option D} : ∀ {l : List D}, (∀ d ∈ l, f d = some d) → optA f l = some l
  | [], _ => rfl
  | d :: l, h => by
    show (f d).bind _ = _
    rw [h d List.mem_cons_self, Option.bind_some, optA_id fun x hx => h x (List.mem_cons_of_mem _ hx)]
    rfl
theorem rsv_int (k : Nat) (g : G) (i : Int) : rsv k g (.int i) = some (.int i) := by cases k <;> rfl
theorem optA_ints (k : Nat) (g : G) (ns : List Int) : optA (rsv k g) (ns.map .int) = some (ns.map .int) := optA_id fun d hd => by
  obtain ⟨n, _, rfl⟩ := List.mem_map.mp hd
  exact rsv_int k g n
end PD
namespace L_k48
open PySem PD
/-! ### the numbers drawn by -/
structure Ds where
  cells : List Int
  left : List Int
  at_ : Int
def gS (s : Ds) (r : G) : G := .mk [.inr "cells", .inr "left", .inr "at"] [.lst (s.cells.map .int), .hd 1, .int s.at_] :: .ml (s.left.map .int) :: r
structure Ok (s : Ds) (b : Nat) : Prop where
  len : s.cells.length = 61
  lo : 0 ≤ s.at_
  hi : s.at_ + b ≤ 1000000000
theorem Ok.mono {s : Ds} {a b : Nat} (h : Ok s a) (hb : b ≤ a) : Ok s b := ⟨h.len, h.lo, by have := h.hi; omega⟩
theorem look_at (s : Ds) (r : G) : ixD (gS s r) (.hd 0) (.str "at") = some (.int s.at_) := rfl
theorem look_left (s : Ds) (r : G) : ixD (gS s r) (.hd 0) (.str "left") = some (.hd 1) := rfl
theorem look_cells (s : Ds) (r : G) : ixD (gS s r) (.hd 0) (.str "cells") = some (.lst (s.cells.map .int)) := rfl
theorem put_at (s : Ds) (r : G) (t : Int) : storeD (gS s r) (.hd 0) (.str "at") (.int t) = some (gS ⟨s.cells, s.left, t⟩ r) := rfl
theorem rs_left (s : Ds) (r : G) (k : Nat) : rsv (k + 1) (gS s r) (.hd 1) = some (.lst (s.left.map .int)) := by
  show (optA (rsv k (gS s r)) (s.left.map .int)).map D.lst = _
  rw [optA_ints]
  rfl
theorem ne_left (s : Ds) (r : G) : rs2 neD (gS s r) (.hd 1) (.lst []) = some (!decide (s.left = [])) := by
  unfold rs2
  rw [rs_left, Option.bind_some]
  show neD (.lst (s.left.map .int)) (.lst []) = _
  rw [neD_of (kdI.lst.ok (by decide) s.left) (by decide), eqq_lst]
  have := eqqA_map eqq_int s.left []
  rw [List.map_nil] at this
  rw [this]
theorem len_left (s : Ds) (r : G) : optA (rsv 4 (gS s r)) [.hd 1] = some [.lst (s.left.map .int)] := by
  show (rsv 4 (gS s r) (.hd 1)).bind (fun x => some [x]) = _
  rw [rs_left]
  rfl
theorem len_ints (ns : List Int) : lenD [.lst (ns.map .int)] = some (.int ns.length) := by
  show some (D.int ((ns.map D.int).length : Int)) = _
  rw [List.length_map]
theorem ix_left (s : Ds) (r : G) (i : Int) : ixD (gS s r) (.hd 1) (.int i) = L2.atI (s.left.map .int) i := rfl
theorem put_left (s : Ds) (r : G) {j : Nat} (hj : j < s.left.length) (v : Int) : storeD (gS s r) (.hd 1) (.int (j : Int)) (.int v) = some (gS ⟨s.cells, s.left.set j v, s.at_⟩ r) := by
  have hn : L2.ixN s.left.length (j : Int) = some j := by
    unfold L2.ixN
    rw [if_pos (by omega), if_pos (by omega)]
    simp
  show (L2.ixN (s.left.map D.int).length (j : Int)).map _ = _
  rw [List.length_map, hn]
  show some (updG (gS s r) 1 (.ml ((s.left.map D.int).set j (.int v)))) = _
  unfold gS updG
  rw [List.set_cons_succ, List.set_cons_zero, List.map_set]
theorem mixed_ok (c : Int) {k : Int} (h0 : 0 ≤ k) (h1 : k < 2000000000) (g : G) : ∃ v, F__law_mixed [.int c, .int k] g = some (.int v, g) := by
  have f1 := dFdiv_ok c 2147483629 (by decide) (by decide)
  have m1 := dMul_ok2 (c / 2147483629) (k + 3) (by omega)
  have m2 := dMul_ok 104729 k (by decide)
  have m3 := dMul_ok2 (104729 * k) k (by omega)
  have m4 := dMul_ok 15485863 k (by decide)
  have m5 := dMul_ok2 (c + c / 2147483629 * (k + 3) + 104729 * k * k + 15485863 * k + 7) 69621 (by decide)
  have m6 := dMod_ok ((c + c / 2147483629 * (k + 3) + 104729 * k * k + 15485863 * k + 7) * 69621) 2147483629 (by decide)
  generalize (c + c / 2147483629 * (k + 3) + 104729 * k * k + 15485863 * k + 7) * 69621 % 2147483629 = Y at *
  have m7 := dMul_ok2 Y 48271 (by decide)
  have m8 := dMod_ok (Y * 48271) 2147483647 (by decide)
  have m9 := dFdiv_ok (Y * 48271 % 2147483647) 11 (by decide) (by decide)
  refine ⟨Y * 48271 % 2147483647 / 11, runF_rt ?_⟩
  generalize Y * 48271 % 2147483647 / 11 = R at *
  simp -implicitDefEqProofs [s__law_mixed, slots0, f1, m1, m2, m3, m4, m5, m6, m7, m8, m9]
theorem draw_ok {s : Ds} {b : Nat} (ok : Ok s (b + 1)) {m : Int} (h1 : 0 < m) (h2 : m < 1000000) (r : G) : ∃ (x : Int) (s' : Ds), F__law_draw [.hd 0, .int m] (gS s r) = some (.int x, gS s' r) ∧ 0 ≤ x ∧ x < m ∧ Ok s' b := by
  have a0 := ok.lo
  have a1 := ok.hi
  have l1 := look_at s r
  have p1 := put_at s r (s.at_ + 1)
  have z2 : (2 : Nat) ≤ sizeLine := by rw [sizeLine_eq]; omega
  -- the mixed number
  have MIX : ∀ o3 o4 : Option LV, ∃ x : Int, 0 ≤ x ∧ x < m ∧ (sRet (eOp dMod (eCall F__law_mixed (aCons (eCall F__law_mixed (aCons (eOp addD (eIx (eIx (eVar 0) (eC (.str "cells"))) (eOp dMod (eVar 2) (eC (.int 61)))) (eOp dMul (eC (.int 37)) (eOp dFdiv (eVar 2) (eC (.int 61))))) (aCons (eVar 2) aNil))) (aCons (eOp addD (eVar 2) (eC (.int 5))) aNil))) (eVar 1)))
      [some (.d (.hd 0)), some (.d (.int m)), some (.d (.int s.at_)), o3, o4] (gS ⟨s.cells, s.left, s.at_ + 1⟩ r) = some (.rt (.int x), gS ⟨s.cells, s.left, s.at_ + 1⟩ r) := by
    intro o3 o4
    have q1 := dMod_ok s.at_ 61 (by decide)
    have b0 := Int.emod_nonneg s.at_ (b := 61) (by decide)
    have b1 := Int.emod_lt_of_pos s.at_ (b := 61) (by decide)
    obtain ⟨c, hc⟩ : ∃ c : Int, s.cells[(s.at_ % 61).toNat]? = some c := ⟨_, List.getElem?_eq_getElem (by rw [ok.len]; omega)⟩
    have lc := look_cells ⟨s.cells, s.left, s.at_ + 1⟩ r
    have ix : ∀ g : G, ixD g (.lst (s.cells.map .int)) (.int (s.at_ % 61)) = some (.int c) := fun g => by
      show L2.atI (s.cells.map D.int) (s.at_ % 61) = _
      rw [atI_of (by omega) (by rw [List.length_map, ok.len]; omega), List.getElem?_map, hc]
      rfl
    have ix := ix (gS ⟨s.cells, s.left, s.at_ + 1⟩ r)
    have f1 := dFdiv_ok s.at_ 61 (by decide) (by decide)
    have m1 := dMul_ok 37 (s.at_ / 61) (by decide)
    obtain ⟨v, hv⟩ := mixed_ok (c + 37 * (s.at_ / 61)) (k := s.at_) a0 (by omega) (gS ⟨s.cells, s.left, s.at_ + 1⟩ r)
    obtain ⟨w, hw⟩ := mixed_ok v (k := s.at_ + 5) (by omega) (by omega) (gS ⟨s.cells, s.left, s.at_ + 1⟩ r)
    have q2 := dMod_ok w m h1
    refine ⟨w % m, Int.emod_nonneg _ (by omega), Int.emod_lt_of_pos _ h1, ?_⟩
    generalize w % m = R at *
    generalize D.lst (s.cells.map D.int) = CL at *
    generalize s.at_ % 61 = I at *
    generalize s.at_ / 61 = J at *
    generalize gS ⟨s.cells, s.left, s.at_ + 1⟩ r = G1 at *
    generalize s.at_ = AT at *
    simp -implicitDefEqProofs [lc, q1, ix, f1, m1, hv, hw, q2]
  have ok' : Ok ⟨s.cells, s.left, s.at_ + 1⟩ b := ⟨ok.len, by show 0 ≤ s.at_ + 1; omega, by show s.at_ + 1 + b ≤ _; omega⟩
  have ll := look_left ⟨s.cells, s.left, s.at_ + 1⟩ r
  have ng := ne_left ⟨s.cells, s.left, s.at_ + 1⟩ r
  by_cases hg : s.left = []
  · rw [decide_eq_true hg] at ng
    obtain ⟨x, x0, x1, e⟩ := MIX none none
    refine ⟨x, ⟨s.cells, s.left, s.at_ + 1⟩, runF_rt ?_, x0, x1, ok'⟩
    simp -implicitDefEqProofs only [s__law_draw, slots0]
    generalize hRB : (sRet (eOp dMod (eCall F__law_mixed (aCons (eCall F__law_mixed (aCons (eOp addD (eIx (eIx (eVar 0) (eC (.str "cells"))) (eOp dMod (eVar 2) (eC (.int 61)))) (eOp dMul (eC (.int 37)) (eOp dFdiv (eVar 2) (eC (.int 61))))) (aCons (eVar 2) aNil))) (aCons (eOp addD (eVar 2) (eC (.int 5))) aNil))) (eVar 1))) = RB at *
    generalize gS ⟨s.cells, s.left, s.at_ + 1⟩ r = G1 at *
    generalize gS s r = G0 at *
    simp -implicitDefEqProofs [z2, l1, p1, ll, ng]
    exact e
  · have hp := List.length_pos_iff.mpr hg
    rw [decide_eq_false hg] at ng
    have ln := len_left ⟨s.cells, s.left, s.at_ + 1⟩ r
    have ln2 := len_ints s.left
    have q1 := dMod_ok s.at_ s.left.length (by omega)
    have b0 := Int.emod_nonneg s.at_ (b := (s.left.length : Int)) (by omega)
    have b1 := Int.emod_lt_of_pos s.at_ (b := (s.left.length : Int)) (by omega)
    obtain ⟨j, hj⟩ : ∃ j : Nat, s.at_ % (s.left.length : Int) = j := ⟨(s.at_ % (s.left.length : Int)).toNat, by omega⟩
    rw [hj] at q1
    have hjl : j < s.left.length := by omega
    have hjl2 : ((j : Nat) : Int).toNat < (s.left.map D.int).length := by rw [List.length_map]; omega
    obtain ⟨c, hc⟩ : ∃ c : Int, s.left[j]? = some c := ⟨_, List.getElem?_eq_getElem hjl⟩
    have ix : ixD (gS ⟨s.cells, s.left, s.at_ + 1⟩ r) (.hd 1) (.int (j : Int)) = some (.int c) := by
      rw [ix_left, atI_of (by omega) (by simp only [List.length_map]; omega), List.getElem?_map]
      show (s.left[j]?).map D.int = _
      rw [hc]
      rfl
    have cg : gtD (.int c) (.int 0) = some (decide (c > 0)) := rfl
    by_cases c0 : c > 0
    · rw [decide_eq_true c0] at cg
      have f1 := dFdiv_ok c m h1 (by omega)
      have q2 := dMod_ok c m h1
      have pl := put_left ⟨s.cells, s.left, s.at_ + 1⟩ r (j := j) hjl (c / m)
      refine ⟨c % m, ⟨s.cells, s.left.set j (c / m), s.at_ + 1⟩, runF_rt ?_, Int.emod_nonneg _ (by omega), Int.emod_lt_of_pos _ h1, ⟨ok.len, ok'.lo, ok'.hi⟩⟩
      generalize c % m = R at *
      generalize hQ : c / m = Q at *
      generalize (s.left.length : Int) = LL at *
      generalize s.left.map D.int = LM at *
      generalize gS ⟨s.cells, s.left.set j Q, s.at_ + 1⟩ r = G2 at *
      generalize gS ⟨s.cells, s.left, s.at_ + 1⟩ r = G1 at *
      generalize gS s r = G0 at *
      simp -implicitDefEqProofs [s__law_draw, slots0, z2, l1, p1, ll, ng, ln, ln2, q1, ix, cg, f1, q2, pl]
    · rw [decide_eq_false c0] at cg
      obtain ⟨x, x0, x1, e⟩ := MIX (some (.d (.int j))) (some (.d (.int c)))
      refine ⟨x, ⟨s.cells, s.left, s.at_ + 1⟩, runF_rt ?_, x0, x1, ok'⟩
      simp -implicitDefEqProofs only [s__law_draw, slots0]
      generalize hRB : (sRet (eOp dMod (eCall F__law_mixed (aCons (eCall F__law_mixed (aCons (eOp addD (eIx (eIx (eVar 0) (eC (.str "cells"))) (eOp dMod (eVar 2) (eC (.int 61)))) (eOp dMul (eC (.int 37)) (eOp dFdiv (eVar 2) (eC (.int 61))))) (aCons (eVar 2) aNil))) (aCons (eOp addD (eVar 2) (eC (.int 5))) aNil))) (eVar 1))) = RB at *
      generalize (s.left.length : Int) = LL at *
      generalize s.left.map D.int = LM at *
      generalize gS ⟨s.cells, s.left, s.at_ + 1⟩ r = G1 at *
      generalize gS s r = G0 at *
      simp -implicitDefEqProofs [z2, l1, p1, ll, ng, ln, ln2, q1, ix, cg]
      exact e
end L_k48
end
section
set_option Elab.async false
set_option linter.all false
set_option maxRecDepth 100000
set_option maxHeartbeats 4000000
set_option autoImplicit false
namespace L_k48
open PySem PD
def abc : Str := "abcdefghijklmnopqrstuvwxyz"
theorem abc_cs : abc.cps.toList = [97, 98, 99, 100, 101, 102, 103, 104, 105, 106, 107, 108, 109, 110, 111, 112, 113, 114, 115, 116, 117, 118, 119, 120, 121, 122] := by rfl
def Letter (c : Nat) : Prop := 97 ≤ c ∧ c ≤ 122
theorem abc_letter {c : Nat} : c ∈ abc.cps.toList ↔ Letter c := by
  rw [abc_cs]
  unfold Letter
  constructor
  · intro h
    simp only [List.mem_cons, List.not_mem_nil, or_false] at h
    omega
  · intro h
    simp only [List.mem_cons, List.not_mem_nil, or_false]
    omega
structure NameOk (x : Str) : Prop where
  lo : 1 ≤ (cs x).length
  hi : (cs x).length ≤ 8
  ch : ∀ c ∈ cs x, Letter c
/-- names, rising -/
structure Names (xs : List Str) : Prop where
  nm : ∀ x ∈ xs, NameOk x
  up : xs.Pairwise fun x y => x.cps.toList < y.cps.toList
theorem range1_ok {n : Int} (h1 : 0 ≤ n) (h2 : n < 1000000) : range1M [.int n] = some (rangeD 0 n.toNat) := by
  show (if -(2 ^ 62) ≤ n ∧ n < 2 ^ 62 then some (rangeD 0 n.toNat) else none) = _
  rw [if_pos ⟨by omega, by omega⟩]theorem lcL_on {α : Type} {bd : B} {e : E} {ρ : Rho} {g : G} {f h : α → D} : ∀ {xs : List α}, (∀ x ∈ xs, ∃ ρ', bd (f x) ρ = some ρ' ∧ e ρ' g = some (h x, g)) → lcL bd tYesD e ρ (xs.map f) g = some (xs.map h, g)
  | [], _ => rfl
  | x :: xs, hx => by
    obtain ⟨ρ', h1, h2⟩ := hx x List.mem_cons_self
    rw [List.map_cons, lcL_cons, h1]
    simp [h2, lcL_on fun y hy => hx y (List.mem_cons_of_mem _ hy)]
theorem range_nat {n : Int} (h1 : 0 ≤ n) : rangeD 0 n.toNat = (List.range n.toNat).map fun j : Nat => D.int j := by
  rw [rangeD_eq]
  exact List.map_congr_left fun m _ => by simp
end L_k48
end
section
set_option Elab.async false
set_option linter.all false
set_option maxRecDepth 100000
set_option maxHeartbeats 4000000
set_option autoImplicit false
namespace L_k48
open PySem PD
/-! ### words -/
theorem isWhole_ok (i lo hi : Int) (g : G) : F_is_whole [.int i, .int lo, .int hi] g = some (.bl (decide (lo ≤ i) && decide (i ≤ hi)), g) := by
  refine runF_rt ?_
  by_cases h : lo ≤ i
  · simp [s_is_whole, slots0, isiD, h]
  · simp [s_is_whole, slots0, isiD, h]
theorem inStr_abc {c : Nat} (h : Letter c) : inD (.str ⟨#[c]⟩) (.str abc) = some true := by
  show some (inStr ⟨#[c]⟩ abc) = _
  have : inStr ⟨#[c]⟩ abc = decide (c ∈ abc.cps.toList) := by
    unfold inStr
    rw [if_pos (by simp)]
    rfl
  rw [this, decide_eq_true (abc_letter.mpr h)]
theorem isName_ok {x : Str} (h : NameOk x) (g : G) : F_is_name [.str x] g = some (.bl true, g) := by
  have sz := sizeLine_eq
  have h1 : F_is_of [.str x, .str abc, .int 8] g = some (.bl true, g) := by
    refine runF_rt ?_
    have hl : lenD [.str x] = some (.int (cs x).length) := by
      rw [cs_len]
      rfl
    have hlc : lcL (bName 3) tYesD (eCmp inD (eVar 3) (eVar 1)) [some (.d (.str x)), some (.d (.str abc)), some (.d (.int 8)), none] (strItems x) g = some (((cs x).map fun _ => true).map .bl, g) := by
      refine lc_bools (f := fun c => .str ⟨#[c]⟩) (cs x) fun c hc => ⟨_, rfl, ?_⟩
      simp [setR, inStr_abc (h.ch c hc)]
    have ha : ((cs x).map fun _ => true).all id = true := by simp
    have hi : (cs x).length ≤ sizeLine := by have := h.hi; omega
    have h1 := h.lo
    have h8 := h.hi
    have d1 : (1 : Int) ≤ (cs x).length := by omega
    have d2 : ((cs x).length : Int) ≤ 8 := by omega
    have ha := allD_lst ((cs x).map fun _ => true)
    simp [s_is_of, slots0, isiD, hl, hlc, hi, d1, d2, ha] <;> simp_all
  refine runF_rt ?_
  have h1 : F_is_of [.str x, .str "abcdefghijklmnopqrstuvwxyz", .int 8] g = some (.bl true, g) := h1
  simp [s_is_name, slots0, h1]
theorem up_zip : ∀ {xs : List Str}, xs.Pairwise (fun x y => x.cps.toList < y.cps.toList) → ∀ p ∈ xs.zip (xs.drop 1), p.1.cps.toList < p.2.cps.toList
  | [], _, p, h => absurd h (by simp)
  | [x], _, p, h => absurd h (by simp)
  | x :: y :: xs, hp, p, h => by
    obtain ⟨h1, h2⟩ := List.pairwise_cons.mp hp
    simp only [List.drop_succ_cons, List.drop_zero, List.zip_cons_cons, List.mem_cons] at h
    rcases h with rfl | h
    · exact h1 y List.mem_cons_self
    · exact up_zip (xs := y :: xs) h2 p (by simpa using h)
theorem isRising_ok {xs : List Str} (h : Names xs) (hl : xs.length ≤ 100) (g : G) : F_is_rising [.tup (xs.map .str)] g = some (.bl true, g) := by
  have sz := sizeLine_eq
  refine runF_rt ?_
  have e1 : lcL (bName 1) tYesD (eCall F_is_name (aCons (eVar 1) aNil)) [some (.d (.tup (xs.map .str))), none, none] (xs.map .str) g = some ((xs.map fun _ => true).map .bl, g) := by
    refine lc_bools xs fun x hx => ⟨_, rfl, ?_⟩
    simp [setR, isName_ok (h.nm x hx)]
  have e2 : lcL (bTup (bsCons (bName 1) (bsCons (bName 2) bsNil))) tYesD (eCmp ltD (eVar 1) (eVar 2)) [some (.d (.tup (xs.map .str))), none, none] ((xs.zip (xs.drop 1)).map fun p => .tup [.str p.1, .str p.2]) g = some (((xs.zip (xs.drop 1)).map fun _ => true).map .bl, g) := by
    refine lc_bools (xs.zip (xs.drop 1)) fun p hp => ⟨_, rfl, ?_⟩
    have hlt : ltD (.str p.1) (.str p.2) = some true := by
      show some (decide (p.1.cps.toList < p.2.cps.toList)) = _
      rw [decide_eq_true (up_zip h.up p hp)]
    simp [setR, hlt]
  have a1 := allD_lst (xs.map fun _ => true)
  have a2 := allD_lst ((xs.zip (xs.drop 1)).map fun _ => true)
  have b1 : (xs.map fun _ => true).all id = true := by simp
  have b2 : ((xs.zip (xs.drop 1)).map fun _ => true).all id = true := by simp
  rw [b1] at a1
  rw [b2] at a2
  have hz : zipM [.tup (xs.map .str), .tup ((xs.drop 1).map .str)] = some ((xs.zip (xs.drop 1)).map fun p => .tup [.str p.1, .str p.2]) := by
    rw [zipM_of (seqD_tup _) (seqD_tup _), zip2L_map]
  have hs : slD (.tup (xs.map .str)) (some 1) none = some (.tup ((xs.drop 1).map .str)) := by
    show some (D.tup (cutL (xs.map D.str) (some 1) none)) = _
    rw [cutL_one, List.map_drop]
  have l1 : (xs.map fun _ => true).length ≤ sizeLine := by simp; omega
  have l2 : ((xs.zip (xs.drop 1)).map fun _ => true).length ≤ sizeLine := by simp; omega
  generalize (xs.map fun _ => true) = bs at e1 a1 l1
  generalize ((xs.zip (xs.drop 1)).map fun _ => true) = ds at e2 a2 l2
  generalize ((xs.zip (xs.drop 1)).map fun p => D.tup [D.str p.1, D.str p.2]) = zs at hz e2
  have m1 : (bs.map D.bl).length ≤ sizeLine := by rw [List.length_map]; exact l1
  have m2 : (ds.map D.bl).length ≤ sizeLine := by rw [List.length_map]; exact l2
  generalize bs.map D.bl = bl at e1 a1 m1
  generalize ds.map D.bl = dl at e2 a2 m2
  generalize (xs.drop 1).map D.str = tl at hz hs
  simp [s_is_rising, slots0, isiD, e1, a1, m1, hs, hz, e2, m2, a2]
/-! ### rows of counts -/
def tupI (r : List Int) : D := .tup (r.map .int)
def rowsE (found : List (List Int)) (c : Int) : List (List Int) := found.flatMap fun row => (upto c).map fun m => row ++ [m]
def rowsC (counts : List Int) : List (List Int) := counts.foldl rowsE [[]]
theorem rowsE_len (found : List (List Int)) (c : Int) : (rowsE found c).length = found.length * c.toNat := by
  unfold rowsE
  rw [List.length_flatMap]
  simp only [List.length_map, upto_len]
  induction found with
  | nil => simp
  | cons x xs ih => simp only [List.map_cons, List.sum_cons, List.length_cons, Nat.add_mul, Nat.one_mul, ih]; omega
theorem addD_tup (r : List Int) (m : Int) (h : r.length < 1000) : addD (tupI r) (.tup [.int m]) = some (tupI (r ++ [m])) := by
  show szD ((r.map D.int).length + 1) (.tup (r.map D.int ++ [D.int m])) = _
  rw [szD_ok (by rw [sizeLine_eq, List.length_map]; omega)]
  simp [tupI]
theorem rows_inner {ρ : Rho} {g : G} {row : List Int} {c : Int} (hr : row.length < 1000) {o0 o1 o2 o4 : Option LV} :
    lcL (bName 4) tYesD (eOp addD (eVar 3) (eTup (aCons (eVar 4) aNil))) [o0, o1, o2, some (.d (tupI row)), o4] ((upto c).map .int) g = some (((upto c).map fun m => row ++ [m]).map tupI, g) := by
  refine lc_typed (upto c) fun m _ => ⟨_, rfl, ?_⟩
  have sz : (1 : Nat) ≤ sizeLine := by rw [sizeLine_eq]; decide
  simp [setR, sz, addD_tup _ _ hr]
theorem rows_lc2 {g : G} {c : Int} (h0 : 0 ≤ c) (h1 : c < 1000000) {o0 o1 o3 o4 : Option LV} : ∀ found : List (List Int), (∀ r ∈ found, r.length < 1000) →
    lc2L (bName 3) tYesD (aIt range1M (aCons (eVar 2) aNil)) [4] (bName 4) tYesD (eOp addD (eVar 3) (eTup (aCons (eVar 4) aNil))) [o0, o1, some (.d (.int c)), o3, o4] (found.map tupI) g = some ((rowsE found c).map tupI, g)
  | [], _ => rfl
  | row :: found, h => by
    have ih := rows_lc2 (g := g) h0 h1 (o0 := o0) (o1 := o1) (o3 := o3) (o4 := o4) found fun r hr => h r (List.mem_cons_of_mem _ hr)
    have e := rows_inner (ρ := []) (g := g) (row := row) (c := c) (h row List.mem_cons_self) (o0 := o0) (o1 := o1) (o2 := some (.d (.int c))) (o4 := none)
    have r1 := range1_ok h0 h1
    rw [rangeD_upto] at r1
    rw [List.map_cons, lc2L_cons]
    have e2 : rowsE (row :: found) c = ((upto c).map fun m => row ++ [m]) ++ rowsE found c := by simp [rowsE]
    rw [e2, List.map_append]
    generalize ((upto c).map fun m => row ++ [m]).map tupI = L at e
    generalize (rowsE found c).map tupI = L2 at ih
    simp [bName, setR, r1, e, ih]
theorem rowsE_mem {found : List (List Int)} {c : Int} {r : List Int} : r ∈ rowsE found c ↔ ∃ q ∈ found, ∃ m, 0 ≤ m ∧ m < c ∧ r = q ++ [m] := by
  unfold rowsE
  simp only [List.mem_flatMap, List.mem_map, upto_mem]
  constructor
  · rintro ⟨q, hq, m, ⟨h1, h2⟩, rfl⟩; exact ⟨q, hq, m, h1, h2, rfl⟩
  · rintro ⟨q, hq, m, h1, h2, rfl⟩; exact ⟨q, hq, m, ⟨h1, h2⟩, rfl⟩
/-- the counts that come: few, small -/
def Counts (cs : List Int) : Prop := cs.length ≤ 4 ∧ ∀ c ∈ cs, 1 ≤ c ∧ c ≤ 3
theorem rows_for {x : D} {g : G} : ∀ (cs : List Int) (found : List (List Int)) (k : Nat) {o2 : Option LV}, (∀ c ∈ cs, 1 ≤ c ∧ c ≤ 3) → (∀ r ∈ found, r.length ≤ k) → k + cs.length ≤ 4 → found.length ≤ 3 ^ k → ∃ o2', 
    forL (bName 2) (sSet 1 (eO (eLc2A [3, 4] [4] (aItem (eVar 1)) (bName 3) tYesD (aIt range1M (aCons (eVar 2) aNil)) (bName 4) tYesD (eOp addD (eVar 3) (eTup (aCons (eVar 4) aNil)))))) (cs.map .int) [some (.d x), some (.d (.lst (found.map tupI))), o2, none, none] g
      = some (.nx [some (.d x), some (.d (.lst ((cs.foldl rowsE found).map tupI))), o2', none, none], g) := by
  intro cs
  induction cs with
  | nil => intro found k o2 _ _ _ _; exact ⟨o2, rfl⟩
  | cons c cs ih =>
    intro found k o2 hc hf hk hl
    obtain ⟨c1, c2⟩ := hc c List.mem_cons_self
    have hk4 : k ≤ 3 := by simp at hk; omega
    have hp : 3 ^ k ≤ 27 := by
      have : k = 0 ∨ k = 1 ∨ k = 2 ∨ k = 3 := by omega
      rcases this with rfl | rfl | rfl | rfl <;> decide
    have hl2 : (rowsE found c).length ≤ 3 ^ (k + 1) := by
      rw [rowsE_len, Nat.pow_succ]
      exact Nat.mul_le_mul hl (by omega)
    have hf2 : ∀ r ∈ rowsE found c, r.length ≤ k + 1 := fun r hr => by
      obtain ⟨q, hq, m, _, _, rfl⟩ := rowsE_mem.mp hr
      have := hf q hq
      simp
      omega
    have e := rows_lc2 (g := g) (c := c) (by omega) (by omega) (o0 := some (.d x)) (o1 := some (.d (.lst (found.map tupI)))) (o3 := none) (o4 := none) found (fun r hr => by have := hf r hr; omega)
    obtain ⟨o2', ih⟩ := ih (rowsE found c) (k + 1) (o2 := some (.d (.int c))) (fun y hy => hc y (List.mem_cons_of_mem _ hy)) hf2 (by simp at hk; omega) hl2
    refine ⟨o2', ?_⟩
    have hz : ((rowsE found c).map tupI).length ≤ sizeLine := by
      rw [List.length_map, sizeLine_eq]
      have : 3 ^ (k + 1) = 3 ^ k * 3 := Nat.pow_succ ..
      omega
    rw [List.map_cons, forL_cons, List.foldl_cons]
    generalize (rowsE found c).map tupI = L at e hz ih
    generalize (cs.foldl rowsE (rowsE found c)).map tupI = L2 at ih
    simp [bName, setR, e, hz, ih]
theorem rows_ok {x : D} {cs : List Int} (hx : itemsD x = some (cs.map .int)) (h : Counts cs) (g : G) : F_rows_of_counts [x] g = some (.lst ((rowsC cs).map tupI), g) := by
  refine runF_rt ?_
  obtain ⟨o2, e⟩ := rows_for (x := x) (g := g) cs [[]] 0 (o2 := none) h.2 (by simp) (by have := h.1; omega) (by simp)
  have e : forL (bName 2) (sSet 1 (eO (eLc2A [3, 4] [4] (aItem (eVar 1)) (bName 3) tYesD (aIt range1M (aCons (eVar 2) aNil)) (bName 4) tYesD (eOp addD (eVar 3) (eTup (aCons (eVar 4) aNil)))))) (cs.map .int) [some (.d x), some (.d (.lst [.tup []])), none, none, none] g
      = some (.nx [some (.d x), some (.d (.lst ((rowsC cs).map tupI))), o2, none, none], g) := e
  have sz : (1 : Nat) ≤ sizeLine := by rw [sizeLine_eq]; decide
  generalize (rowsC cs).map tupI = L at e
  simp [s_rows_of_counts, slots0, sz, hx, e]
end L_k48
end
section
set_option Elab.async false
set_option linter.all false
set_option maxRecDepth 100000
set_option maxHeartbeats 4000000
set_option autoImplicit false
namespace L_k48
open PySem PD
/-! ### arenas -/
structure Place where
  marks : List Str
  counts : List Int
  nexts : List Int
def Place.d (p : Place) : D := .tup [.tup (p.marks.map .str), tupI p.counts, tupI p.nexts]
structure Arena where
  names : List Str
  places : List Place
def Arena.d (a : Arena) : D := .tup [.tup (a.names.map .str), .tup (a.places.map Place.d)]
structure PlaceOk (n k : Nat) (p : Place) : Prop where
  mks : Names p.marks
  ml : p.marks.length ≤ 4
  cl : p.counts.length = n
  cn : ∀ c ∈ p.counts, 1 ≤ c ∧ c ≤ 3
  nl : p.nexts.length = (rowsC p.counts).length
  n36 : (rowsC p.counts).length ≤ 36
  nx : ∀ x ∈ p.nexts, 0 ≤ x ∧ x < k
structure ArenaOk (a : Arena) : Prop where
  nm : Names a.names
  n1 : 1 ≤ a.names.length
  n4 : a.names.length ≤ 4
  p1 : 1 ≤ a.places.length
  p10 : a.places.length ≤ 10
  pl : ∀ p ∈ a.places, PlaceOk a.names.length a.places.length p
theorem isTuple_ok (l : List D) (lo hi : Int) (g : G) : F_is_tuple [.tup l, .int lo, .int hi] g = some (.bl (decide (lo ≤ l.length) && decide ((l.length : Int) ≤ hi)), g) := by
  refine runF_rt ?_
  by_cases h : lo ≤ l.length
  · simp [s_is_tuple, slots0, isiD, h]
  · simp [s_is_tuple, slots0, isiD, h]
theorem isTuple_yes {l : List D} {lo hi : Int} (h1 : lo ≤ l.length) (h2 : (l.length : Int) ≤ hi) (g : G) : F_is_tuple [.tup l, .int lo, .int hi] g = some (.bl true, g) := by
  rw [isTuple_ok, decide_eq_true h1, decide_eq_true h2]
  rfl
theorem isWhole_yes {i lo hi : Int} (h1 : lo ≤ i) (h2 : i ≤ hi) (g : G) : F_is_whole [.int i, .int lo, .int hi] g = some (.bl true, g) := by
  rw [isWhole_ok, decide_eq_true h1, decide_eq_true h2]
  rfl
theorem all_yes {α : Type} (xs : List α) : allD [.lst ((xs.map fun _ => true).map .bl)] = some (.bl true) := by
  rw [allD_lst]
  simp
theorem place_ok {n k : Nat} {p : Place} (h : PlaceOk n k p) (hn : n ≤ 4) (g : G) : F_is_right_place [p.d, .int n, .int k] g = some (.bl true, g) := by
  have sz := sizeLine_eq
  refine runF_rt ?_
  have t1 := isTuple_yes (l := [.tup (p.marks.map .str), tupI p.counts, tupI p.nexts]) (lo := 3) (hi := 3) (by simp) (by simp) g
  have t2 := isRising_ok h.mks (by have := h.ml; omega) g
  have t3 := isTuple_yes (l := p.counts.map .int) (lo := n) (hi := n) (by rw [List.length_map, h.cl]; omega) (by rw [List.length_map, h.cl]; omega) g
  have hcl : (p.counts.map D.int).length = n := by rw [List.length_map]; exact h.cl
  have e1 : lcL (bName 7) tYesD (eCall F_is_whole (aCons (eVar 7) (aCons (eC (.int 1)) (aCons (eC (.int 3)) aNil)))) [some (.d p.d), some (.d (.int n)), some (.d (.int k)), some (.d (.tup (p.marks.map .str))), some (.d (tupI p.counts)), some (.d (tupI p.nexts)), none, none, none] (p.counts.map .int) g = some ((p.counts.map fun _ => true).map .bl, g) := by
    refine lc_bools p.counts fun c hc => ⟨_, rfl, ?_⟩
    simp [setR, isWhole_yes (h.cn c hc).1 (h.cn c hc).2]
  have a1 := all_yes p.counts
  have r := rows_ok (x := tupI p.counts) (cs := p.counts) rfl ⟨by rw [h.cl]; exact hn, h.cn⟩ g
  have hrl : ((rowsC p.counts).map tupI).length = p.nexts.length := by rw [List.length_map, h.nl]
  have t4 := isTuple_yes (l := p.nexts.map .int) (lo := p.nexts.length) (hi := p.nexts.length) (by simp) (by simp) g
  have h36 : (p.nexts.length : Int) ≤ 36 := by have := h.n36; have := h.nl; omega
  have e2 : lcL (bName 8) tYesD (eCall F_is_whole (aCons (eVar 8) (aCons (eC (.int 0)) (aCons (eOp subD (eVar 2) (eC (.int 1))) aNil)))) [some (.d p.d), some (.d (.int n)), some (.d (.int k)), some (.d (.tup (p.marks.map .str))), some (.d (tupI p.counts)), some (.d (tupI p.nexts)), some (.d (.int p.nexts.length)), none, none] (p.nexts.map .int) g = some ((p.nexts.map fun _ => true).map .bl, g) := by
    refine lc_bools p.nexts fun c hc => ⟨_, rfl, ?_⟩
    have := h.nx c hc
    simp [setR, isWhole_yes (i := c) (lo := 0) (hi := (k : Int) - 1) (by omega) (by omega)]
  have a2 := all_yes p.nexts
  have z1 : ((p.counts.map fun _ => true).map D.bl).length ≤ sizeLine := by rw [List.length_map, List.length_map, h.cl]; omega
  have z2 : ((p.nexts.map fun _ => true).map D.bl).length ≤ sizeLine := by rw [List.length_map, List.length_map]; omega
  have hml : ¬ (4 : Int) < ((p.marks.map D.str).length : Int) := by rw [List.length_map]; have := h.ml; omega
  have q1 : itemsD (tupI p.counts) = some (p.counts.map .int) := rfl
  have q2 : itemsD (tupI p.nexts) = some (p.nexts.map .int) := rfl
  have q3 : p.d = .tup [.tup (p.marks.map .str), tupI p.counts, tupI p.nexts] := rfl
  have t3 : F_is_tuple [tupI p.counts, .int n, .int n] g = some (.bl true, g) := t3
  have t4 : F_is_tuple [tupI p.nexts, .int p.nexts.length, .int p.nexts.length] g = some (.bl true, g) := t4
  generalize (p.counts.map fun _ => true).map D.bl = b1 at e1 a1 z1
  generalize (p.nexts.map fun _ => true).map D.bl = b2 at e2 a2 z2
  generalize (rowsC p.counts).map tupI = R at r hrl
  generalize p.counts.map D.int = C at q1 e1 hcl
  generalize p.nexts.map D.int = N at q2 e2
  generalize p.marks.map D.str = Mk at *
  generalize tupI p.counts = tc at *
  generalize tupI p.nexts = tn at *
  rw [q3] at *
  generalize p.nexts.length = nn at *
  simp [s_is_right_place, slots0, t1, bTup, bsCons, bsNil, bName, setR, t2, hml, t3, q1, e1, a1, z1, r, hrl, h36, t4, q2, e2, z2, a2]
theorem arena_for {x : D} {ns ps : List D} {g : G} : ∀ (l : List D) (i : Nat) {o3 o4 : Option LV}, (∀ d ∈ l, F_is_right_place [d, .int ns.length, .int ps.length] g = some (.bl true, g)) → ∃ o3' o4',
    forL (bTup (bsCons (bName 3) (bsCons (bName 4) bsNil))) (sIf (tNot (tE (eCall F_is_right_place (aCons (eVar 4) (aCons (eBi lenD (aCons (eVar 1) aNil)) (aCons (eBi lenD (aCons (eVar 2) aNil)) aNil)))))) sNever sNil) (enumL i l) [some (.d x), some (.d (.tup ns)), some (.d (.tup ps)), o3, o4] g
      = some (.nx [some (.d x), some (.d (.tup ns)), some (.d (.tup ps)), o3', o4'], g) := by
  intro l
  induction l with
  | nil => intro i o3 o4 _; exact ⟨o3, o4, rfl⟩
  | cons d l ih =>
    intro i o3 o4 h
    obtain ⟨p3, p4, e⟩ := ih (i + 1) (o3 := some (.d (.int i))) (o4 := some (.d d)) fun y hy => h y (List.mem_cons_of_mem _ hy)
    refine ⟨p3, p4, ?_⟩
    have hd := h d List.mem_cons_self
    show forL _ _ (D.tup [.int i, d] :: enumL (i + 1) l) _ g = _
    rw [forL_cons]
    simp [bTup, bsCons, bsNil, bName, setR, hd, e]
theorem needArena_ok {a : Arena} (h : ArenaOk a) (g : G) : F_need_arena [a.d] g = some (.non, g) := by
  have hl1 : (a.names.map D.str).length = a.names.length := List.length_map _
  have hl2 : (a.places.map Place.d).length = a.places.length := List.length_map _
  have t1 := isTuple_yes (l := [.tup (a.names.map .str), .tup (a.places.map Place.d)]) (lo := 2) (hi := 2) (by simp) (by simp) g
  have t2 := isTuple_yes (l := a.places.map Place.d) (lo := 1) (hi := 10) (by rw [hl2]; have := h.p1; omega) (by rw [hl2]; have := h.p10; omega) g
  have t3 := isRising_ok h.nm (by have := h.n4; omega) g
  have t4 : ∀ d ∈ a.places.map Place.d, F_is_right_place [d, .int (a.names.map D.str).length, .int (a.places.map Place.d).length] g = some (.bl true, g) := fun d hd => by
    obtain ⟨p, hp, rfl⟩ := List.mem_map.mp hd
    rw [hl1, hl2]
    exact place_ok (h.pl p hp) h.n4 g
  have c1 : (1 : Int) ≤ ((a.names.map D.str).length : Int) := by rw [hl1]; have := h.n1; omega
  have c2 : ((a.names.map D.str).length : Int) ≤ 4 := by rw [hl1]; have := h.n4; omega
  have q3 : a.d = .tup [.tup (a.names.map .str), .tup (a.places.map Place.d)] := rfl
  rw [q3]
  generalize a.names.map D.str = ns at *
  generalize a.places.map Place.d = ps at *
  obtain ⟨o3, o4, e⟩ := arena_for (x := .tup [.tup ns, .tup ps]) (ns := ns) (ps := ps) (g := g) ps 0 (o3 := none) (o4 := none) t4
  refine runF_nx (ρ := [some (.d (.tup [.tup ns, .tup ps])), some (.d (.tup ns)), some (.d (.tup ps)), o3, o4]) ?_
  have ix : L2.atI [D.tup ns, D.tup ps] 1 = some (.tup ps) := rfl
  have en : enumM [.tup ps] = some (enumL 0 ps) := rfl
  simp [s_need_arena, slots0, t1, ix, t2, bTup, bsCons, bsNil, bName, setR, t3, c1, c2, en]
  exact e
end L_k48
end
section
set_option Elab.async false
set_option linter.all false
set_option maxRecDepth 100000
set_option maxHeartbeats 4000000
set_option autoImplicit false
namespace L_k48
open PySem PD
/-! ### groups -/
def tupS (xs : List Str) : D := .tup (xs.map .str)
theorem Names.nd {xs : List Str} (h : Names xs) : xs.Nodup := h.up.imp fun {x y} q e => by subst e; exact List.lt_irrefl _ q
structure GroupOk (a : Arena) (gr : List Str) : Prop where
  nm : Names gr
  sub : ∀ x ∈ gr, x ∈ a.names
theorem GroupOk.len {a : Arena} {gr : List Str} (h : GroupOk a gr) : gr.length ≤ a.names.length := nodup_len h.nm.nd h.sub
theorem a_ix0 (a : Arena) (g : G) : ixD g a.d (.int 0) = some (tupS a.names) := rfl
theorem a_ix1 (a : Arena) (g : G) : ixD g a.d (.int 1) = some (.tup (a.places.map Place.d)) := rfl
theorem inD_tupS (x : Str) (xs : List Str) : inD (.str x) (tupS xs) = some (decide (x ∈ xs)) := inD_strsT x xs
theorem notInD_tupS (x : Str) (xs : List Str) : notInD (.str x) (tupS xs) = some (!decide (x ∈ xs)) := notInD_strsT x xs
theorem isGroup_ok {a : Arena} {gr : List Str} (ha : ArenaOk a) (h : GroupOk a gr) (g : G) : F_is_group [a.d, tupS gr] g = some (.bl true, g) := by
  have hl := h.len
  have h4 := ha.n4
  have sz := sizeLine_eq
  have t1 : F_is_rising [tupS gr] g = some (.bl true, g) := isRising_ok h.nm (by omega) g
  have e1 : lcL (bName 2) tYesD (eCmp inD (eVar 2) (eIx (eVar 0) (eC (.int 0)))) [some (.d a.d), some (.d (tupS gr)), none] (gr.map .str) g = some ((gr.map fun _ => true).map .bl, g) := by
    refine lc_bools gr fun x hx => ⟨_, rfl, ?_⟩
    simp [setR, a_ix0, inD_tupS, h.sub x hx]
  have a1 := all_yes gr
  have z1 : ((gr.map fun _ => true).map D.bl).length ≤ sizeLine := by rw [List.length_map, List.length_map]; omega
  have q : itemsD (tupS gr) = some (gr.map .str) := rfl
  generalize (gr.map fun _ => true).map D.bl = b1 at e1 a1 z1
  generalize gr.map D.str = Gs at e1 q
  refine runF_rt ?_
  simp [s_is_group, slots0, t1, q, e1, a1, z1]
def restOf (a : Arena) (gr : List Str) : List Str := a.names.filter fun x => !decide (x ∈ gr)
theorem rest_ok {a : Arena} {gr : List Str} (ha : ArenaOk a) (g : G) : F_rest_of [a.d, tupS gr] g = some (tupS (restOf a gr), g) := by
  have sz := sizeLine_eq
  have h4 := ha.n4
  have e1 : lcL (bName 2) (tCmp notInD (eVar 2) (eVar 1)) (eVar 2) [some (.d a.d), some (.d (tupS gr)), none] (a.names.map .str) g = some (((a.names.filter fun x => !decide (x ∈ gr)).map id).map .str, g) := by
    refine lc_typedF a.names fun x hx => ⟨_, rfl, ?_, fun _ => ?_⟩
    · simp [setR, notInD_tupS]
    · simp [setR]
  rw [List.map_id] at e1
  have z1 : ((restOf a gr).map D.str).length ≤ sizeLine := by
    rw [List.length_map]
    have := List.length_filter_le (fun x => !decide (x ∈ gr)) a.names
    unfold restOf
    omega
  have e1 : lcL (bName 2) (tCmp notInD (eVar 2) (eVar 1)) (eVar 2) [some (.d a.d), some (.d (tupS gr)), none] (a.names.map .str) g = some ((restOf a gr).map .str, g) := e1
  have q : itemsD (tupS a.names) = some (a.names.map .str) := rfl
  refine runF_rt ?_
  show s_rest_of _ g = some (.rt (.tup ((restOf a gr).map .str)), g)
  generalize (restOf a gr).map D.str = R at e1 z1
  generalize a.names.map D.str = Ns at e1 q
  simp [s_rest_of, slots0, a_ix0, q, e1, z1, tupleD_lst]
def countsOf (a : Arena) (p : Place) (gr : List Str) : List Int := ((a.names.zip p.counts).filter fun q => decide (q.1 ∈ gr)).map (·.2)
theorem p_ix1 (p : Place) (g : G) : ixD g p.d (.int 1) = some (tupI p.counts) := rfl
theorem pl_ix {a : Arena} {pl : Nat} {p : Place} (h : a.places[pl]? = some p) (g : G) : ixD g (.tup (a.places.map Place.d)) (.int pl) = some p.d := by
  have hl := (List.getElem?_eq_some_iff.mp h).1
  rw [ixD_tup, atI_of (by omega) (by rw [List.length_map]; omega), List.getElem?_map]
  simp [h]
theorem counts_ok {a : Arena} {gr : List Str} {pl : Nat} {p : Place} (ha : ArenaOk a) (hp : a.places[pl]? = some p) (g : G) : F_counts_of [a.d, tupS gr, .int pl] g = some (.lst ((countsOf a p gr).map .int), g) := by
  have sz := sizeLine_eq
  have h4 := ha.n4
  have e1 : lcL (bTup (bsCons (bName 3) (bsCons (bName 4) bsNil))) (tCmp inD (eVar 3) (eVar 1)) (eVar 4) [some (.d a.d), some (.d (tupS gr)), some (.d (.int pl)), none, none] ((a.names.zip p.counts).map fun q => .tup [.str q.1, .int q.2]) g
      = some ((((a.names.zip p.counts).filter fun q => decide (q.1 ∈ gr)).map (·.2)).map .int, g) := by
    refine lc_typedF (a.names.zip p.counts) fun q hq => ⟨_, rfl, ?_, fun _ => ?_⟩
    · simp [setR, inD_tupS]
    · simp [setR]
  have e1 : lcL (bTup (bsCons (bName 3) (bsCons (bName 4) bsNil))) (tCmp inD (eVar 3) (eVar 1)) (eVar 4) [some (.d a.d), some (.d (tupS gr)), some (.d (.int pl)), none, none] ((a.names.zip p.counts).map fun q => .tup [.str q.1, .int q.2]) g
      = some ((countsOf a p gr).map .int, g) := e1
  have z1 : ((countsOf a p gr).map D.int).length ≤ sizeLine := by
    rw [List.length_map]
    unfold countsOf
    rw [List.length_map]
    have := List.length_filter_le (fun q : Str × Int => decide (q.1 ∈ gr)) (a.names.zip p.counts)
    have := List.length_zip (l₁ := a.names) (l₂ := p.counts)
    omega
  have hz : zipM [tupS a.names, tupI p.counts] = some ((a.names.zip p.counts).map fun q => .tup [.str q.1, .int q.2]) := by
    rw [zipM_of (l := a.names.map .str) (m := p.counts.map .int) rfl rfl, zip2L_map]
  have x1 := a_ix1 a g
  have x2 := pl_ix hp g
  generalize a.places.map Place.d = ps at x1 x2
  generalize ((a.names.zip p.counts).map fun q => D.tup [D.str q.1, D.int q.2]) = zs at hz e1
  generalize (countsOf a p gr).map D.int = R at e1 z1
  refine runF_rt ?_
  simp [s_counts_of, slots0, a_ix0, x1, x2, p_ix1, hz, e1, z1]
theorem countsOf_ok {a : Arena} {p : Place} {gr : List Str} (ha : ArenaOk a) (hp : p ∈ a.places) : Counts (countsOf a p gr) := by
  have h4 := ha.n4
  refine ⟨?_, fun c hc => ?_⟩
  · unfold countsOf
    rw [List.length_map]
    have := List.length_filter_le (fun q : Str × Int => decide (q.1 ∈ gr)) (a.names.zip p.counts)
    have := List.length_zip (l₁ := a.names) (l₂ := p.counts)
    omega
  · unfold countsOf at hc
    obtain ⟨q, hq, rfl⟩ := List.mem_map.mp hc
    exact (ha.pl p hp).cn _ (List.of_mem_zip (List.mem_filter.mp hq).1).2
def choices (a : Arena) (p : Place) (gr : List Str) : List (List Int) := rowsC (countsOf a p gr)
theorem choices_ok {a : Arena} {gr : List Str} {pl : Nat} {p : Place} (ha : ArenaOk a) (hp : a.places[pl]? = some p) (g : G) : F_choices_of [a.d, tupS gr, .int pl] g = some (.lst ((choices a p gr).map tupI), g) := by
  have t1 := counts_ok (gr := gr) ha hp g
  have t2 := rows_ok (x := .lst ((countsOf a p gr).map .int)) (cs := countsOf a p gr) rfl (countsOf_ok ha (List.mem_of_getElem? hp)) g
  refine runF_rt ?_
  show s_choices_of _ g = some (.rt (.lst ((rowsC (countsOf a p gr)).map tupI)), g)
  generalize (rowsC (countsOf a p gr)).map tupI = R at t2
  generalize (countsOf a p gr).map D.int = C at t1 t2
  simp [s_choices_of, slots0, t1, t2]
theorem answers_ok {a : Arena} {gr : List Str} {pl : Nat} {p : Place} (ha : ArenaOk a) (hp : a.places[pl]? = some p) (g : G) : F_answers_of [a.d, tupS gr, .int pl] g = some (.lst ((choices a p (restOf a gr)).map tupI), g) := by
  have t1 := rest_ok (gr := gr) ha g
  have t2 := choices_ok (gr := restOf a gr) ha hp g
  refine runF_rt ?_
  generalize (choices a p (restOf a gr)).map tupI = R at t2 ⊢
  simp [s_answers_of, slots0, t1, t2]
/-! ### what rows are -/
theorem foldl_rows : ∀ (cs : List Int) (found : List (List Int)) (r : List Int), r ∈ cs.foldl rowsE found ↔ ∃ q ∈ found, ∃ t : List Int, r = q ++ t ∧ t.length = cs.length ∧ ∀ z ∈ t.zip cs, 0 ≤ z.1 ∧ z.1 < z.2
  | [], found, r => by
    constructor
    · intro h; exact ⟨r, h, [], by simp, rfl, by simp⟩
    · rintro ⟨q, hq, t, rfl, ht, _⟩
      rw [List.length_eq_zero_iff.mp ht]
      simpa using hq
  | c :: cs, found, r => by
    rw [List.foldl_cons, foldl_rows cs]
    constructor
    · rintro ⟨q, hq, t, rfl, ht, hz⟩
      obtain ⟨q', hq', m, h1, h2, rfl⟩ := rowsE_mem.mp hq
      refine ⟨q', hq', m :: t, by simp, by simp [ht], fun z h => ?_⟩
      rcases List.mem_cons.mp (by simpa using h) with rfl | h
      · exact ⟨h1, h2⟩
      · exact hz z h
    · rintro ⟨q, hq, t, rfl, ht, hz⟩
      match t, ht with
      | m :: t, ht =>
        have hm := hz (m, c) (by simp)
        exact ⟨q ++ [m], rowsE_mem.mpr ⟨q, hq, m, hm.1, hm.2, rfl⟩, t, by simp, by simpa using ht, fun z h => hz z (by simp [h])⟩
/-- a row fits the counts -/
def Fits (r cs : List Int) : Prop := r.length = cs.length ∧ ∀ z ∈ r.zip cs, 0 ≤ z.1 ∧ z.1 < z.2
theorem rowsC_mem {cs r : List Int} : r ∈ rowsC cs ↔ Fits r cs := by
  unfold rowsC Fits
  rw [foldl_rows]
  constructor
  · rintro ⟨q, hq, t, rfl, ht, hz⟩
    rw [List.mem_singleton.mp hq]
    exact ⟨by simpa using ht, by simpa using hz⟩
  · rintro ⟨h1, h2⟩
    exact ⟨[], List.mem_singleton.mpr rfl, r, by simp, h1, h2⟩
def prodZ : List Int → Int
  | [] => 1
  | c :: cs => c * prodZ cs
theorem foldl_len : ∀ (cs : List Int) (found : List (List Int)), (∀ c ∈ cs, 0 ≤ c) → ((cs.foldl rowsE found).length : Int) = found.length * prodZ cs
  | [], found, _ => by simp [prodZ]
  | c :: cs, found, h => by
    rw [List.foldl_cons, foldl_len cs _ fun y hy => h y (List.mem_cons_of_mem _ hy), rowsE_len]
    have := h c List.mem_cons_self
    simp only [prodZ]
    rw [Int.natCast_mul, Int.toNat_of_nonneg this, Int.mul_assoc]
theorem rowsC_len {cs : List Int} (h : ∀ c ∈ cs, 0 ≤ c) : ((rowsC cs).length : Int) = prodZ cs := by
  unfold rowsC
  rw [foldl_len cs _ h]
  simp
/-! ### the place to which a joint leads -/
def idx (at0 : Int) : List (Int × Int) → Int
  | [] => at0
  | (m, c) :: l => idx (at0 * c + m) l
theorem idx_lt : ∀ (l : List (Int × Int)) (a n : Int), 0 ≤ a → a < n → (∀ z ∈ l, 0 ≤ z.1 ∧ z.1 < z.2) → 0 ≤ idx a l ∧ idx a l < n * prodZ (l.map (·.2))
  | [], a, n, h1, h2, _ => by simp [idx, prodZ]; omega
  | (m, c) :: l, a, n, h1, h2, hz => by
    obtain ⟨m1, m2⟩ := hz (m, c) List.mem_cons_self
    have m1 : 0 ≤ m := m1
    have m2 : m < c := m2
    have k1 : 0 ≤ a * c := Int.mul_nonneg h1 (by omega)
    have k2 : a * c + m < n * c := by
      have : (a + 1) * c ≤ n * c := Int.mul_le_mul_of_nonneg_right (by omega) (by omega)
      rw [Int.add_mul, Int.one_mul] at this
      omega
    have ih := idx_lt l (a * c + m) (n * c) (by omega) k2 fun z h => hz z (List.mem_cons_of_mem _ h)
    simp only [idx, List.map_cons, prodZ]
    rw [← Int.mul_assoc]
    exact ih
def nextZ (p : Place) (joint : List Int) : Int := (L2.atI p.nexts (idx 0 (joint.zip p.counts))).getD 0
theorem zip_snd {r cs : List Int} (h : r.length = cs.length) : (r.zip cs).map (·.2) = cs := List.map_snd_zip (by omega)
theorem next_at {n k : Nat} {p : Place} (h : PlaceOk n k p) {joint : List Int} (hj : Fits joint p.counts) : L2.atI p.nexts (idx 0 (joint.zip p.counts)) = some (nextZ p joint) ∧ 0 ≤ nextZ p joint ∧ nextZ p joint < k := by
  obtain ⟨i1, i2⟩ := idx_lt (joint.zip p.counts) 0 1 (by omega) (by omega) hj.2
  rw [zip_snd hj.1, Int.one_mul, ← rowsC_len fun c hc => by have := h.cn c hc; omega, ← h.nl] at i2
  obtain ⟨x, e, hm⟩ := atI_mem i1 i2
  unfold nextZ
  rw [e]
  exact ⟨rfl, h.nx x hm⟩
end L_k48
end
section
set_option Elab.async false
set_option linter.all false
set_option maxRecDepth 100000
set_option maxHeartbeats 4000000
set_option autoImplicit false
namespace L_k48
open PySem PD
theorem next_for {x0 x1 x2 x3 x4 x5 : Option LV} {g : G} : ∀ (l : List (Int × Int)) (a : Int) {o7 o8 : Option LV}, (∀ z ∈ l, 1 ≤ z.2 ∧ z.2 ≤ 3) → ∃ o7' o8',
    forL (bTup (bsCons (bName 7) (bsCons (bName 8) bsNil))) (sSet 6 (eOp addD (eOp dMul (eVar 6) (eVar 8)) (eVar 7))) (l.map fun z => .tup [.int z.1, .int z.2]) [x0, x1, x2, x3, x4, x5, some (.d (.int a)), o7, o8] g
      = some (.nx [x0, x1, x2, x3, x4, x5, some (.d (.int (idx a l))), o7', o8'], g) := by
  intro l
  induction l with
  | nil => intro a o7 o8 _; exact ⟨o7, o8, rfl⟩
  | cons z l ih =>
    intro a o7 o8 h
    obtain ⟨p7, p8, e⟩ := ih (a * z.2 + z.1) (o7 := some (.d (.int z.1))) (o8 := some (.d (.int z.2))) fun y hy => h y (List.mem_cons_of_mem _ hy)
    refine ⟨p7, p8, ?_⟩
    have hz := h z List.mem_cons_self
    have hm := dMul_ok2 a z.2 (by omega)
    rw [List.map_cons, forL_cons]
    have ei : idx a (z :: l) = idx (a * z.2 + z.1) l := rfl
    rw [ei]
    simp [bTup, bsCons, bsNil, bName, setR, hm, e]
theorem nextOf_ok {a : Arena} {pl : Nat} {p : Place} {joint : List Int} {x : D} (ha : ArenaOk a) (hp : a.places[pl]? = some p) (hx : seqD x = some (joint.map .int)) (hj : Fits joint p.counts) (g : G) : F_next_of [a.d, .int pl, x] g = some (.int (nextZ p joint), g) := by
  have hpo := ha.pl p (List.mem_of_getElem? hp)
  obtain ⟨na, _, _⟩ := next_at hpo hj
  have hz : zipM [x, tupI p.counts] = some ((joint.zip p.counts).map fun z => .tup [.int z.1, .int z.2]) := by
    rw [zipM_of (m := p.counts.map .int) hx rfl, zip2L_map]
  obtain ⟨o7, o8, e⟩ := next_for (x0 := some (.d a.d)) (x1 := some (.d (.int pl))) (x2 := some (.d x)) (x3 := some (.d (tupS p.marks))) (x4 := some (.d (tupI p.counts))) (x5 := some (.d (tupI p.nexts))) (g := g) (joint.zip p.counts) 0 (o7 := none) (o8 := none) fun z hz => hpo.cn _ (List.of_mem_zip hz).2
  have x1 := a_ix1 a g
  have x2 := pl_ix hp g
  have q3 : p.d = .tup [tupS p.marks, tupI p.counts, tupI p.nexts] := rfl
  have x5 : ixD g (tupI p.nexts) (.int (idx 0 (joint.zip p.counts))) = some (.int (nextZ p joint)) := by
    show L2.atI (p.nexts.map D.int) _ = _
    unfold L2.atI at na ⊢
    rw [List.length_map]
    obtain ⟨j, h1, h2⟩ := Option.bind_eq_some_iff.mp na
    rw [h1]
    simp [h2]
  generalize a.places.map Place.d = ps at x1 x2
  generalize ((joint.zip p.counts).map fun z => D.tup [D.int z.1, D.int z.2]) = zs at hz e
  generalize idx 0 (joint.zip p.counts) = ii at e x5
  rw [q3] at x2
  refine runF_rt ?_
  have hb : bTup (bsCons (bName 3) (bsCons (bName 4) (bsCons (bName 5) bsNil))) (.tup [tupS p.marks, tupI p.counts, tupI p.nexts]) [some (.d a.d), some (.d (.int pl)), some (.d x), none, none, none, none, none, none]
      = some [some (.d a.d), some (.d (.int pl)), some (.d x), some (.d (tupS p.marks)), some (.d (tupI p.counts)), some (.d (tupI p.nexts)), none, none, none] := rfl
  simp [s_next_of, slots0, x1, x2, hb, hz, e, x5]
end L_k48
end
section
set_option Elab.async false
set_option linter.all false
set_option maxRecDepth 100000
set_option maxHeartbeats 4000000
set_option autoImplicit false
namespace PD
open PySem
/-! ### parts of a joint (plain) -/
section
variable {α : Type}
/-- the values at the names that f has -/
def res (f : α → Bool) (ns : List α) (J : List Int) : List Int := ((ns.zip J).filter fun q => f q.1).map (·.2)
/-- t at the names that f has, u at the others -/
def mrg (f : α → Bool) : List α → List Int → List Int → List Int
  | [], _, _ => []
  | x :: ns, t, u => if f x = true then t.headD 0 :: mrg f ns t.tail u else u.headD 0 :: mrg f ns t u.tail
theorem res_nil (f : α → Bool) (J : List Int) : res f [] J = [] := rfl
theorem res_cons (f : α → Bool) (x : α) (ns : List α) (j : Int) (J : List Int) : res f (x :: ns) (j :: J) = if f x = true then j :: res f ns J else res f ns J := by
  unfold res
  rw [List.zip_cons_cons, List.filter_cons]
  split <;> simp_all
theorem mrg_len (f : α → Bool) : ∀ (ns : List α) (t u : List Int), (mrg f ns t u).length = ns.length
  | [], _, _ => rfl
  | x :: ns, t, u => by
    unfold mrg
    split <;> simp [mrg_len f ns]
def Fit (r cs : List Int) : Prop := r.length = cs.length ∧ ∀ z ∈ r.zip cs, 0 ≤ z.1 ∧ z.1 < z.2
theorem fit_nil {r : List Int} : Fit r [] ↔ r = [] := by
  constructor
  · intro h; exact List.length_eq_zero_iff.mp h.1
  · rintro rfl; exact ⟨rfl, by simp⟩
theorem fit_cons {m c : Int} {r cs : List Int} : Fit (m :: r) (c :: cs) ↔ (0 ≤ m ∧ m < c) ∧ Fit r cs := by
  unfold Fit
  simp only [List.length_cons, List.zip_cons_cons, List.mem_cons, forall_eq_or_imp, Nat.add_right_cancel_iff]
  constructor
  · rintro ⟨h1, h2, h3⟩; exact ⟨h2, h1, h3⟩
  · rintro ⟨h1, h2, h3⟩; exact ⟨h2, h1, h3⟩
theorem fit_head {c : Int} {r cs : List Int} (h : Fit r (c :: cs)) : ∃ m t, r = m :: t ∧ (0 ≤ m ∧ m < c) ∧ Fit t cs := by
  match r, h with
  | m :: t, h => exact ⟨m, t, rfl, fit_cons.mp h⟩
  | [], h => exact absurd h.1 (by simp)
theorem mrg_fit (f : α → Bool) : ∀ (ns : List α) (cs t u : List Int), cs.length = ns.length → Fit t (res f ns cs) → Fit u (res (fun x => !f x) ns cs) →
    Fit (mrg f ns t u) cs ∧ res f ns (mrg f ns t u) = t ∧ res (fun x => !f x) ns (mrg f ns t u) = u
  | [], [], t, u, _, h1, h2 => by
    rw [res_nil] at h1 h2
    rw [fit_nil.mp h1, fit_nil.mp h2]
    exact ⟨⟨rfl, by simp [mrg]⟩, rfl, rfl⟩
  | x :: ns, c :: cs, t, u, h, h1, h2 => by
    have hl : cs.length = ns.length := by simpa using h
    rw [res_cons] at h1 h2
    cases hf : f x with
    | true =>
      simp only [hf, if_true, Bool.not_true, Bool.false_eq_true, if_false] at h1 h2
      obtain ⟨m, t', rfl, hm, ht⟩ := fit_head h1
      obtain ⟨i1, i2, i3⟩ := mrg_fit f ns cs t' u hl ht h2
      have e : mrg f (x :: ns) (m :: t') u = m :: mrg f ns t' u := by
        conv => lhs; unfold mrg
        simp [hf]
      rw [e, res_cons, res_cons, i2, i3]
      exact ⟨fit_cons.mpr ⟨hm, i1⟩, by simp [hf], by simp [hf]⟩
    | false =>
      simp only [hf, if_true, Bool.not_false, Bool.false_eq_true, if_false] at h1 h2
      obtain ⟨m, u', rfl, hm, hu⟩ := fit_head h2
      obtain ⟨i1, i2, i3⟩ := mrg_fit f ns cs t u' hl h1 hu
      have e : mrg f (x :: ns) t (m :: u') = m :: mrg f ns t u' := by
        conv => lhs; unfold mrg
        simp [hf]
      rw [e, res_cons, res_cons, i2, i3]
      exact ⟨fit_cons.mpr ⟨hm, i1⟩, by simp [hf], by simp [hf]⟩
theorem res_congr {f h : α → Bool} {ns : List α} {J : List Int} (e : ∀ x ∈ ns, f x = h x) : res f ns J = res h ns J := by
  unfold res
  congr 1
  exact List.filter_congr fun q hq => e _ (List.of_mem_zip hq).1
end
end PD
end
section
set_option Elab.async false
set_option linter.all false
set_option maxRecDepth 100000
set_option maxHeartbeats 4000000
set_option autoImplicit false
namespace PD
open PySem
/-! ### small dicts of names -/
def kyS (q : Str × Int) : L2.Key := .inr q.1
def vlS (q : Str × Int) : D := .int q.2
theorem putD_new {k : L2.Key} {d : D} {ks : List L2.Key} {l : List D} (h : k ∉ ks) (hl : ks.length = l.length) : putD ks l k d = (ks ++ [k], l ++ [d]) := by
  induction ks generalizing l with
  | nil => cases l with
    | nil => rfl
    | cons _ _ => simp at hl
  | cons k' ks ih => cases l with
    | nil => simp at hl
    | cons d' l =>
      have h1 : k' ≠ k := fun e => h (by rw [e]; exact List.mem_cons_self)
      have h2 := ih (l := l) (fun z => h (List.mem_cons_of_mem _ z)) (by simpa using hl)
      unfold putD
      rw [if_neg h1, h2]
      rfl
theorem key_notin {A : List (Str × Int)} {x : Str} (h : x ∉ A.map (·.1)) : (.inr x : L2.Key) ∉ A.map kyS := fun z => by
  obtain ⟨q, hq, e⟩ := List.mem_map.mp z
  exact h (List.mem_map.mpr ⟨q, hq, Sum.inr.inj e⟩)
theorem dcL_names {ρ : Rho} {g : G} {k v : E} {bd : B} : ∀ (l A : List (Str × Int)), ((A ++ l).map (·.1)).Nodup → A.length + l.length < 1000 → (∀ q ∈ l, ∃ ρ', bd (.tup [.str q.1, .int q.2]) ρ = some ρ' ∧ k ρ' g = some (.str q.1, g) ∧ v ρ' g = some (.int q.2, g)) →
    dcL bd tYesD k v ρ (A.map kyS, A.map vlS) (l.map fun q => .tup [.str q.1, .int q.2]) g = some (((A ++ l).map kyS, (A ++ l).map vlS), g) := by
  intro l
  induction l with
  | nil => intro A _ _ _; simp [dcL]
  | cons q l ih =>
    intro A hn hz h
    obtain ⟨ρ', h1, h2, h3⟩ := h q List.mem_cons_self
    have hq : q.1 ∉ A.map (·.1) := by
      rw [List.map_append, List.map_cons] at hn
      have := (List.nodup_append.mp hn).2.2
      intro z
      exact this _ z _ List.mem_cons_self rfl
    have e : A ++ q :: l = (A ++ [q]) ++ l := by simp
    have ih := ih (A ++ [q]) (by rw [← e]; exact hn) (by simp at hz ⊢; omega) fun y hy => h y (List.mem_cons_of_mem _ hy)
    rw [e]
    rw [List.map_cons]
    conv => lhs; unfold dcL
    have sz : (A.map kyS).length < sizeLine := by rw [sizeLine_eq, List.length_map]; omega
    have hp := putD_new (d := .int q.2) (key_notin hq) (l := A.map vlS) (by simp)
    simp only [h1, mb_ap, tYesD_ap, Option.bind_some, ite_ap, if_true, h2, h3, keyD, sz, hp]
    have e3 : (A.map kyS ++ [(.inr q.1 : L2.Key)], A.map vlS ++ [D.int q.2]) = ((A ++ [q]).map kyS, (A ++ [q]).map vlS) := by simp [kyS, vlS]
    rw [e3]
    exact ih
theorem mergeD_names : ∀ (l A : List (Str × Int)), ((A ++ l).map (·.1)).Nodup → mergeD (A.map kyS, A.map vlS) (l.map kyS) (l.map vlS) = ((A ++ l).map kyS, (A ++ l).map vlS) := by
  intro l
  induction l with
  | nil => intro A _; simp [mergeD]
  | cons q l ih =>
    intro A hn
    have hq : q.1 ∉ A.map (·.1) := by
      rw [List.map_append, List.map_cons] at hn
      have := (List.nodup_append.mp hn).2.2
      intro z
      exact this _ z _ List.mem_cons_self rfl
    have e : A ++ q :: l = (A ++ [q]) ++ l := by simp
    have ih := ih (A ++ [q]) (by rw [← e]; exact hn)
    rw [e, List.map_cons, List.map_cons]
    conv => lhs; unfold mergeD
    have hp := putD_new (k := kyS q) (d := vlS q) (key_notin hq) (l := A.map vlS) (by simp)
    show mergeD (putD (A.map kyS) (A.map vlS) (kyS q) (vlS q)) _ _ = _
    rw [hp]
    have e3 : (A.map kyS ++ [kyS q], A.map vlS ++ [vlS q]) = ((A ++ [q]).map kyS, (A ++ [q]).map vlS) := by simp
    rw [e3]
    exact ih
theorem lookD_names {x : Str} : ∀ {A : List (Str × Int)} {m : Int}, (x, m) ∈ A → (A.map (·.1)).Nodup → lookD (A.map kyS) (A.map vlS) (.inr x) = some (.int m)
  | (y, n) :: A, m, h, hn => by
    have hn : (y :: A.map (·.1)).Nodup := hn
    obtain ⟨n1, n2⟩ := List.nodup_cons.mp hn
    show (if (.inr y : L2.Key) = .inr x then some (D.int n) else lookD (A.map kyS) (A.map vlS) (.inr x)) = _
    rcases List.mem_cons.mp h with e | h
    · cases e
      rw [if_pos rfl]
    · have : y ≠ x := fun e => n1 (by rw [e]; exact List.mem_map.mpr ⟨_, h, rfl⟩)
      rw [if_neg (fun e => this (Sum.inr.inj e))]
      exact lookD_names h n2
end PD
end
section
set_option Elab.async false
set_option linter.all false
set_option maxRecDepth 100000
set_option maxHeartbeats 4000000
set_option autoImplicit false
namespace PD
open PySem
theorem pw_uniq {α : Type} {R : α → α → Prop} (as : ∀ x y, R x y → R y x → False) : ∀ {l m : List α}, l.Pairwise R → m.Pairwise R → (∀ x, x ∈ l ↔ x ∈ m) → l = m
  | [], [], _, _, _ => rfl
  | [], y :: m, _, _, h => absurd ((h y).mpr List.mem_cons_self) (by simp)
  | x :: l, [], _, _, h => absurd ((h x).mp List.mem_cons_self) (by simp)
  | x :: l, y :: m, hl, hm, h => by
    obtain ⟨l1, l2⟩ := List.pairwise_cons.mp hl
    obtain ⟨m1, m2⟩ := List.pairwise_cons.mp hm
    have e : x = y := by
      rcases List.mem_cons.mp ((h x).mp List.mem_cons_self) with a | a
      · exact a
      · rcases List.mem_cons.mp ((h y).mpr List.mem_cons_self) with b | b
        · exact b.symm
        · exact (as _ _ (l1 y b) (m1 x a)).elim
    subst e
    congr 1
    refine pw_uniq as l2 m2 fun k => ?_
    constructor
    · intro hk
      rcases List.mem_cons.mp ((h k).mp (List.mem_cons_of_mem _ hk)) with e | e
      · subst e; exact (as _ _ (l1 k hk) (l1 k hk)).elim
      · exact e
    · intro hk
      rcases List.mem_cons.mp ((h k).mpr (List.mem_cons_of_mem _ hk)) with e | e
      · subst e; exact (as _ _ (m1 k hk) (m1 k hk)).elim
      · exact e
theorem mrg_pairs {α : Type} (f : α → Bool) : ∀ (ns : List α) (t u : List Int), t.length = (ns.filter f).length → u.length = (ns.filter fun x => !f x).length → ∀ q ∈ ns.zip (mrg f ns t u), q ∈ (ns.filter f).zip t ++ (ns.filter fun x => !f x).zip u
  | [], _, _, _, _, q, h => absurd h (by simp)
  | x :: ns, t, u, h1, h2, q, h => by
    cases hf : f x with
    | true =>
      have e1 : (x :: ns).filter f = x :: ns.filter f := by simp [hf]
      have e2 : ((x :: ns).filter fun x => !f x) = ns.filter fun x => !f x := by simp [hf]
      rw [e1] at h1 ⊢
      rw [e2] at h2 ⊢
      match t, h1 with
      | m :: t, h1 =>
        have e : mrg f (x :: ns) (m :: t) u = m :: mrg f ns t u := by
          conv => lhs; unfold mrg
          simp [hf]
        rw [e, List.zip_cons_cons] at h
        rw [List.zip_cons_cons, List.cons_append]
        rcases List.mem_cons.mp h with rfl | h
        · exact List.mem_cons_self
        · exact List.mem_cons_of_mem _ (mrg_pairs f ns t u (by simpa using h1) h2 q h)
    | false =>
      have e1 : (x :: ns).filter f = ns.filter f := by simp [hf]
      have e2 : ((x :: ns).filter fun x => !f x) = x :: ns.filter fun x => !f x := by simp [hf]
      rw [e1] at h1 ⊢
      rw [e2] at h2 ⊢
      match u, h2 with
      | m :: u, h2 =>
        have e : mrg f (x :: ns) t (m :: u) = m :: mrg f ns t u := by
          conv => lhs; unfold mrg
          simp [hf]
        rw [e, List.zip_cons_cons] at h
        rw [List.zip_cons_cons]
        rcases List.mem_cons.mp h with rfl | h
        · exact List.mem_append_right _ List.mem_cons_self
        · rcases List.mem_append.mp (mrg_pairs f ns t u h1 (by simpa using h2) q h) with h | h
          · exact List.mem_append_left _ h
          · exact List.mem_append_right _ (List.mem_cons_of_mem _ h)
theorem res_length {α : Type} (f : α → Bool) : ∀ (ns : List α) (J : List Int), J.length = ns.length → (res f ns J).length = (ns.filter f).length
  | [], [], _ => rfl
  | x :: ns, j :: J, h => by
    have ih := res_length f ns J (by simpa using h)
    rw [res_cons, List.filter_cons]
    split <;> simp [ih]
end PD
namespace L_k48
open PySem PD
theorem up_asym (x y : Str) (h1 : x.cps.toList < y.cps.toList) (h2 : y.cps.toList < x.cps.toList) : False := List.lt_asymm h1 h2
/-- a group is the arena's players that are in it -/
theorem group_eq {a : Arena} {gr : List Str} (ha : ArenaOk a) (h : GroupOk a gr) : gr = a.names.filter fun x => decide (x ∈ gr) := by
  refine pw_uniq up_asym h.nm.up (ha.nm.up.filter _) fun x => ?_
  rw [List.mem_filter]
  simp only [decide_eq_true_eq]
  exact ⟨fun hx => ⟨h.sub x hx, hx⟩, fun hx => hx.2⟩
def inG (gr : List Str) (x : Str) : Bool := decide (x ∈ gr)
theorem rest_group {a : Arena} {gr : List Str} (ha : ArenaOk a) : GroupOk a (restOf a gr) := ⟨⟨fun x hx => ha.nm.nm x ((List.mem_filter.mp hx).1), ha.nm.up.filter _⟩, fun x hx => (List.mem_filter.mp hx).1⟩
theorem rest_in {a : Arena} {gr : List Str} : ∀ x ∈ a.names, inG (restOf a gr) x = !inG gr x := fun x hx => by
  unfold inG restOf
  rw [Bool.eq_iff_iff]
  simp [List.mem_filter, hx]
theorem countsOf_res (a : Arena) (p : Place) (gr : List Str) : countsOf a p gr = res (inG gr) a.names p.counts := rfl
theorem fits_fit {r cs : List Int} : Fits r cs ↔ Fit r cs := Iff.rfl
theorem choice_mem {a : Arena} {p : Place} {gr : List Str} {r : List Int} : r ∈ choices a p gr ↔ Fit r (res (inG gr) a.names p.counts) := by
  unfold choices
  rw [rowsC_mem, countsOf_res]
  exact Iff.rfl
theorem answer_mem {a : Arena} {p : Place} {gr : List Str} {r : List Int} : r ∈ choices a p (restOf a gr) ↔ Fit r (res (fun x => !inG gr x) a.names p.counts) := by
  rw [choice_mem, res_congr rest_in]
/-- the joint that a choice and an answer make -/
def joint (a : Arena) (gr : List Str) (c u : List Int) : List Int := mrg (inG gr) a.names c u
end L_k48
end
section
set_option Elab.async false
set_option linter.all false
set_option maxRecDepth 100000
set_option maxHeartbeats 4000000
set_option autoImplicit false
namespace L_k48
open PySem PD
theorem joint_fit {a : Arena} {p : Place} {gr : List Str} {c u : List Int} (ha : ArenaOk a) (hp : p ∈ a.places) (hc : c ∈ choices a p gr) (hu : u ∈ choices a p (restOf a gr)) : Fit (joint a gr c u) p.counts :=
  (mrg_fit (inG gr) a.names p.counts c u (ha.pl p hp).cl (choice_mem.mp hc) (answer_mem.mp hu)).1
theorem outcome_ok {a : Arena} {gr : List Str} {pl : Nat} {p : Place} {c u : List Int} (ha : ArenaOk a) (hg : GroupOk a gr) (hp : a.places[pl]? = some p) (hc : c ∈ choices a p gr) (hu : u ∈ choices a p (restOf a gr)) (g : G) :
    F_outcome [a.d, tupS gr, .int pl, tupI c, tupI u] g = some (.int (nextZ p (joint a gr c u)), g) := by
  have hpm := List.mem_of_getElem? hp
  have sz := sizeLine_eq
  have h4 := ha.n4
  have cl := (ha.pl p hpm).cl
  have jf := joint_fit ha hpm hc hu
  have fc := choice_mem.mp hc
  have fu := answer_mem.mp hu
  have gl := hg.len
  have lc : c.length = gr.length := by
    rw [fc.1, res_length _ _ _ cl]
    conv => rhs; rw [group_eq ha hg]
    rfl
  have lu : u.length = (restOf a gr).length := by
    rw [fu.1, res_length _ _ _ cl]
    rfl
  have lr : (restOf a gr).length ≤ a.names.length := List.length_filter_le _ _
  have ndg := hg.nm.nd
  have ndr := (rest_group (gr := gr) ha).nm.nd
  have k1 : (gr.zip c).map (·.1) = gr := List.map_fst_zip (by omega)
  have k2 : ((restOf a gr).zip u).map (·.1) = restOf a gr := List.map_fst_zip (by omega)
  have ndA : ((gr.zip c ++ (restOf a gr).zip u).map (·.1)).Nodup := by
    rw [List.map_append, k1, k2]
    refine List.nodup_append.mpr ⟨ndg, ndr, fun x hx y hy e => ?_⟩
    subst e
    have := (List.mem_filter.mp hy).2
    simp [hx] at this
  have d1 : dcL (bTup (bsCons (bName 6) (bsCons (bName 7) bsNil))) tYesD (eVar 6) (eVar 7) [some (.d a.d), some (.d (tupS gr)), some (.d (.int pl)), some (.d (tupI c)), some (.d (tupI u)), none, none, none] ([], []) ((gr.zip c).map fun q => .tup [.str q.1, .int q.2]) g = some (((gr.zip c).map kyS, (gr.zip c).map vlS), g) :=
    dcL_names (gr.zip c) [] (by rw [List.nil_append, k1]; exact ndg) (by rw [List.length_zip]; simp; omega) fun q _ => ⟨_, rfl, by simp [setR], by simp [setR]⟩
  have d2 : dcL (bTup (bsCons (bName 6) (bsCons (bName 7) bsNil))) tYesD (eVar 6) (eVar 7) [some (.d a.d), some (.d (tupS gr)), some (.d (.int pl)), some (.d (tupI c)), some (.d (tupI u)), some (.ok ((gr.zip c).map kyS) ((gr.zip c).map vlS)), none, none] ([], []) (((restOf a gr).zip u).map fun q => .tup [.str q.1, .int q.2]) g = some ((((restOf a gr).zip u).map kyS, ((restOf a gr).zip u).map vlS), g) :=
    dcL_names ((restOf a gr).zip u) [] (by rw [List.nil_append, k2]; exact ndr) (by rw [List.length_zip]; simp; omega) fun q _ => ⟨_, rfl, by simp [setR], by simp [setR]⟩
  have mg := mergeD_names ((restOf a gr).zip u) (gr.zip c) ndA
  have z1 : zipM [tupS gr, tupI c] = some ((gr.zip c).map fun q => .tup [.str q.1, .int q.2]) := by
    rw [zipM_of (l := gr.map .str) (m := c.map .int) rfl rfl, zip2L_map]
  have z2 : zipM [tupS (restOf a gr), tupI u] = some (((restOf a gr).zip u).map fun q => .tup [.str q.1, .int q.2]) := by
    rw [zipM_of (l := (restOf a gr).map .str) (m := u.map .int) rfl rfl, zip2L_map]
  have nd1 : ((gr.zip c).map kyS).Nodup := by
    have e : (gr.zip c).map kyS = gr.map Sum.inr := by rw [← k1, List.map_map, k1]; rfl
    rw [e]
    exact List.pairwise_map.mpr (ndg.imp fun {x y} h e => h (Sum.inr.inj e))
  have jl : (joint a gr c u).length = a.names.length := mrg_len _ _ _ _
  have l1 : lcL (bName 6) tYesD (eIxO 5 (eVar 6)) [some (.d a.d), some (.d (tupS gr)), some (.d (.int pl)), some (.d (tupI c)), some (.d (tupI u)), some (.ok ((gr.zip c ++ (restOf a gr).zip u).map kyS) ((gr.zip c ++ (restOf a gr).zip u).map vlS)), none, none] (a.names.map .str) g = some ((joint a gr c u).map .int, g) := by
    have e1 : a.names.map D.str = (a.names.zip (joint a gr c u)).map fun q => D.str q.1 := by
      conv => lhs; rw [← List.map_fst_zip (l₁ := a.names) (l₂ := joint a gr c u) (by omega), List.map_map]
      rfl
    have e2 : joint a gr c u = (a.names.zip (joint a gr c u)).map (·.2) := (List.map_snd_zip (by omega)).symm
    rw [e1]
    conv => rhs; rw [e2]
    refine lc_typed (f := fun q : Str × Int => D.str q.1) (f' := D.int) (q := fun q : Str × Int => q.2) _ fun q hq => ⟨_, rfl, ?_⟩
    have eg : (a.names.filter (inG gr)) = gr := (group_eq ha hg).symm
    have hm := mrg_pairs (inG gr) a.names c u (by rw [lc, eg]) (by rw [lu]; rfl) q hq
    have hm : (q.1, q.2) ∈ gr.zip c ++ (restOf a gr).zip u := by
      rw [eg] at hm
      exact hm
    have hl := lookD_names hm ndA
    generalize (gr.zip c ++ (restOf a gr).zip u).map kyS = KS at hl
    generalize (gr.zip c ++ (restOf a gr).zip u).map vlS = VS at hl
    simp [setR, ixO, keyD, hl]
  have nx := nextOf_ok (x := .lst ((joint a gr c u).map .int)) ha hp rfl (fits_fit.mpr jf) g
  have jz : ((joint a gr c u).map D.int).length ≤ sizeLine := by rw [List.length_map, jl]; omega
  have szz : ((gr.zip c).map kyS).length + (((restOf a gr).zip u).map kyS).length ≤ sizeLine := by
    rw [List.length_map, List.length_map, List.length_zip, List.length_zip]
    omega
  have rs := rest_ok (gr := gr) ha g
  have q0 : itemsD (tupS a.names) = some (a.names.map .str) := rfl
  generalize ((restOf a gr).zip u).map kyS = K2 at *
  generalize ((restOf a gr).zip u).map vlS = V2 at *
  generalize (gr.zip c ++ (restOf a gr).zip u).map kyS = KS at *
  generalize (gr.zip c ++ (restOf a gr).zip u).map vlS = VS at *
  generalize (gr.zip c).map kyS = K1 at *
  generalize (gr.zip c).map vlS = V1 at *
  generalize ((gr.zip c).map fun q => D.tup [D.str q.1, D.int q.2]) = Z1 at *
  generalize (((restOf a gr).zip u).map fun q => D.tup [D.str q.1, D.int q.2]) = Z2 at *
  generalize (joint a gr c u).map D.int = JJ at *
  generalize a.names.map D.str = NN at *
  refine runF_rt ?_
  simp [s_outcome, slots0, z1, d1, rs, z2, d2, nd1, szz, mg, a_ix0, q0, l1, jz, nx]
end L_k48
end
section
set_option Elab.async false
set_option linter.all false
set_option maxRecDepth 100000
set_option maxHeartbeats 4000000
set_option autoImplicit false
namespace L_k48
open PySem PD
/-! ### outcomes -/
def outZ (a : Arena) (p : Place) (gr : List Str) (c u : List Int) : Int := nextZ p (joint a gr c u)
def rowD (a : Arena) (p : Place) (gr : List Str) (c : List Int) : D := .lst ((choices a p (restOf a gr)).map fun u => .tup [tupI u, .int (outZ a p gr c u)])
def outD (a : Arena) (p : Place) (gr : List Str) (c : List Int) : D := .tup [tupI c, rowD a p gr c]
theorem choices_len {a : Arena} {p : Place} {gr : List Str} (ha : ArenaOk a) (hp : p ∈ a.places) : (choices a p gr).length ≤ 81 := by
  have h := countsOf_ok (gr := gr) ha hp
  have key : ∀ (cs : List Int) (k : Nat), cs.length ≤ k → (∀ c ∈ cs, 1 ≤ c ∧ c ≤ 3) → 0 ≤ prodZ cs ∧ prodZ cs ≤ 3 ^ k := by
    intro cs
    induction cs with
    | nil =>
      intro k _ _
      refine ⟨by decide, ?_⟩
      have : (1 : Int) ≤ 3 ^ k := by have := Int.pow_pos (n := 3) (m := k) (by decide); omega
      exact this
    | cons c cs ih =>
      intro k hk hc
      obtain ⟨k, rfl⟩ : ∃ k', k = k' + 1 := ⟨k - 1, by simp at hk; omega⟩
      obtain ⟨i1, i2⟩ := ih k (by simpa using hk) fun y hy => hc y (List.mem_cons_of_mem _ hy)
      have h1 := hc c List.mem_cons_self
      simp only [prodZ]
      refine ⟨Int.mul_nonneg (by omega) i1, ?_⟩
      rw [Int.pow_succ, Int.mul_comm]
      exact Int.mul_le_mul i2 h1.2 (by omega) (by omega)
  have h2 := (key _ 4 h.1 h.2).2
  have h3 := rowsC_len (cs := countsOf a p gr) fun c hc => by have := h.2 c hc; omega
  unfold choices
  omega
theorem outcomes_for {a : Arena} {gr : List Str} {pl : Nat} {p : Place} (ha : ArenaOk a) (hg : GroupOk a gr) (hp : a.places[pl]? = some p) (g : G) : ∀ (cs done : List (List Int)) {o4 o5 : Option LV}, (∀ c ∈ cs, c ∈ choices a p gr) → done.length + cs.length ≤ 81 → ∃ o4' o5',
    forL (bName 4) (sSeq (sSet 5 (eO (eLcA [6] (aItem (eCall F_answers_of (aCons (eVar 0) (aCons (eVar 1) (aCons (eVar 2) aNil))))) (bName 6) tYesD (eTup (aCons (eVar 6) (aCons (eCall F_outcome (aCons (eVar 0) (aCons (eVar 1) (aCons (eVar 2) (aCons (eVar 4) (aCons (eVar 6) aNil)))))) aNil))))))
  (sAppend 3 (eTup (aCons (eVar 4) (aCons (eVar 5) aNil))))) (cs.map tupI) [some (.d a.d), some (.d (tupS gr)), some (.d (.int pl)), some (.ol (done.map (outD a p gr))), o4, o5, none] g
      = some (.nx [some (.d a.d), some (.d (tupS gr)), some (.d (.int pl)), some (.ol ((done ++ cs).map (outD a p gr))), o4', o5', none], g) := by
  have hpm := List.mem_of_getElem? hp
  have sz := sizeLine_eq
  intro cs
  induction cs with
  | nil => intro done o4 o5 _ _; exact ⟨o4, o5, by simp⟩
  | cons c cs ih =>
    intro done o4 o5 hc hl
    obtain ⟨p4, p5, e⟩ := ih (done ++ [c]) (o4 := some (.d (tupI c))) (o5 := some (.d (rowD a p gr c))) (fun y hy => hc y (List.mem_cons_of_mem _ hy)) (by simp at hl ⊢; omega)
    refine ⟨p4, p5, ?_⟩
    have an := answers_ok (gr := gr) ha hp g
    have l1 : lcL (bName 6) tYesD (eTup (aCons (eVar 6) (aCons (eCall F_outcome (aCons (eVar 0) (aCons (eVar 1) (aCons (eVar 2) (aCons (eVar 4) (aCons (eVar 6) aNil)))))) aNil))) [some (.d a.d), some (.d (tupS gr)), some (.d (.int pl)), some (.ol (done.map (outD a p gr))), some (.d (tupI c)), o5, none] ((choices a p (restOf a gr)).map tupI) g
        = some ((choices a p (restOf a gr)).map fun u => .tup [tupI u, .int (outZ a p gr c u)], g) := by
      have := lc_typed (f := tupI) (f' := id) (bd := bName 6) (e := eTup (aCons (eVar 6) (aCons (eCall F_outcome (aCons (eVar 0) (aCons (eVar 1) (aCons (eVar 2) (aCons (eVar 4) (aCons (eVar 6) aNil)))))) aNil))) (ρ := [some (.d a.d), some (.d (tupS gr)), some (.d (.int pl)), some (.ol (done.map (outD a p gr))), some (.d (tupI c)), o5, none]) (g := g)
        (q := fun u => D.tup [tupI u, .int (outZ a p gr c u)]) (choices a p (restOf a gr)) fun u hu => ⟨_, rfl, by
          have oc := outcome_ok ha hg hp (hc c List.mem_cons_self) hu g
          have z2 : (2 : Nat) ≤ sizeLine := by omega
          generalize done.map (outD a p gr) = DD
          simp [setR, oc, z2, outZ]⟩
      rw [List.map_id] at this
      exact this
    have lz : ((choices a p (restOf a gr)).map fun u => D.tup [tupI u, .int (outZ a p gr c u)]).length ≤ sizeLine := by
      rw [List.length_map]
      have := choices_len (gr := restOf a gr) ha hpm
      omega
    have dz : (done.map (outD a p gr)).length < sizeLine := by rw [List.length_map]; simp at hl; omega
    have e2 : (done ++ [c]).map (outD a p gr) = done.map (outD a p gr) ++ [.tup [tupI c, rowD a p gr c]] := by simp [outD]
    have e3 : done ++ c :: cs = (done ++ [c]) ++ cs := by simp
    rw [e2] at e
    rw [e3, List.map_cons, forL_cons]
    have er : rowD a p gr c = .lst ((choices a p (restOf a gr)).map fun u => .tup [tupI u, .int (outZ a p gr c u)]) := rfl
    have z2 : (2 : Nat) ≤ sizeLine := by omega
    rw [er] at e
    generalize ((choices a p (restOf a gr)).map fun u => D.tup [tupI u, .int (outZ a p gr c u)]) = RR at *
    generalize (choices a p (restOf a gr)).map tupI = AA at *
    generalize ((done ++ [c]) ++ cs).map (outD a p gr) = EE at *
    generalize done.map (outD a p gr) = DD at *
    simp [bName, setR, an, l1, lz, dz, z2]
    exact e
theorem outcomes_ok {a : Arena} {gr : List Str} {pl : Nat} {p : Place} (ha : ArenaOk a) (hg : GroupOk a gr) (hp : a.places[pl]? = some p) (g : G) : F_outcomes [a.d, tupS gr, .int pl] g = some (.lst ((choices a p gr).map (outD a p gr)), g) := by
  have hpm := List.mem_of_getElem? hp
  obtain ⟨o4, o5, e⟩ := outcomes_for ha hg hp g (choices a p gr) [] (o4 := none) (o5 := none) (fun _ h => h) (by have := choices_len (gr := gr) ha hpm; simpa using this)
  have ch := choices_ok (gr := gr) ha hp g
  rw [List.nil_append, List.map_nil] at e
  generalize (choices a p gr).map (outD a p gr) = EE at *
  generalize (choices a p gr).map tupI = CC at *
  refine runF_rt ?_
  simp [s_outcomes, slots0, ch, e]
/-- into which a choice leads: the places, rising -/
def into (a : Arena) (p : Place) (gr : List Str) (c : List Int) : List Int := sortU ((choices a p (restOf a gr)).map (outZ a p gr c))
end L_k48
end
section
set_option Elab.async false
set_option linter.all false
set_option maxRecDepth 100000
set_option maxHeartbeats 4000000
set_option autoImplicit false
namespace L_k48
open PySem PD
theorem prod_res {α : Type} (f : α → Bool) : ∀ (ns : List α) (cs : List Int), cs.length = ns.length → (∀ c ∈ cs, 1 ≤ c) → 1 ≤ prodZ (res f ns cs) ∧ prodZ (res f ns cs) ≤ prodZ cs
  | [], [], _, _ => by simp [res_nil, prodZ]
  | x :: ns, c :: cs, h, hc => by
    obtain ⟨i1, i2⟩ := prod_res f ns cs (by simpa using h) fun y hy => hc y (List.mem_cons_of_mem _ hy)
    have h1 := hc c List.mem_cons_self
    rw [res_cons]
    split
    · simp only [prodZ]
      refine ⟨?_, Int.mul_le_mul_of_nonneg_left i2 (by omega)⟩
      have := Int.mul_le_mul h1 i1 (by omega) (by omega)
      simpa using this
    · simp only [prodZ]
      refine ⟨i1, ?_⟩
      have := Int.mul_le_mul_of_nonneg_right h1 (show 0 ≤ prodZ cs by omega)
      rw [Int.one_mul] at this
      omega
theorem choices_36 {a : Arena} {p : Place} {gr : List Str} (ha : ArenaOk a) (hp : p ∈ a.places) : 1 ≤ (choices a p gr).length ∧ (choices a p gr).length ≤ 36 := by
  have po := ha.pl p hp
  have h := countsOf_ok (gr := gr) ha hp
  have h3 := rowsC_len (cs := countsOf a p gr) fun c hc => by have := h.2 c hc; omega
  have h4 := rowsC_len (cs := p.counts) fun c hc => by have := po.cn c hc; omega
  obtain ⟨h5, h6⟩ := prod_res (inG gr) a.names p.counts po.cl fun c hc => (po.cn c hc).1
  rw [← countsOf_res] at h5 h6
  have := po.n36
  unfold choices
  omega
end L_k48
end
section
set_option Elab.async false
set_option linter.all false
set_option maxRecDepth 100000
set_option maxHeartbeats 4000000
set_option autoImplicit false
namespace L_k48
open PySem PD
/-! ### the law's tuples -/
noncomputable def tpIn : S := (sExtend 1 (eLcA [5] (aIt range1M (aCons (eVar 2) aNil)) (bName 5) tYesD (eOp addD (eVar 4) (eTup (aCons (eVar 5) aNil)))))
theorem tp_in {g : G} {c : Int} (h0 : 0 ≤ c) (h1 : c < 1000) {x o3 : Option LV} : ∀ (found done : List (List Int)) {o4 : Option LV}, (∀ r ∈ found, r.length < 1000) → done.length + (rowsE found c).length ≤ 10000 → ∃ o4',
    forL (bName 4) tpIn (found.map tupI) [x, some (.ol (done.map tupI)), some (.d (.int c)), o3, o4, none] g = some (.nx [x, some (.ol ((done ++ rowsE found c).map tupI)), some (.d (.int c)), o3, o4', none], g)
  | [], done, o4, _, _ => ⟨o4, by simp [rowsE]⟩
  | row :: found, done, o4, h, hz => by
    have sz := sizeLine_eq
    have r1 := range1_ok h0 (by omega : c < 1000000)
    rw [rangeD_upto] at r1
    have e2 : rowsE (row :: found) c = ((upto c).map fun m => row ++ [m]) ++ rowsE found c := by simp [rowsE]
    have e1 : ∀ o4 : Option LV, lcL (bName 5) tYesD (eOp addD (eVar 4) (eTup (aCons (eVar 5) aNil))) [x, some (.ol (done.map tupI)), some (.d (.int c)), o3, some (.d (tupI row)), none] ((upto c).map .int) g = some (((upto c).map fun m => row ++ [m]).map tupI, g) := fun o4 => by
      refine lc_typed (upto c) fun m _ => ⟨_, rfl, ?_⟩
      have s1 : (1 : Nat) ≤ sizeLine := by rw [sizeLine_eq]; decide
      generalize done.map tupI = DN
      simp [setR, s1, addD_tup _ _ (h row List.mem_cons_self)]
    have e1 := e1 none
    rw [e2] at hz
    rw [List.length_append] at hz
    have zl : ((upto c).map fun m => row ++ [m]).length ≤ 10000 := by omega
    obtain ⟨o4', ih⟩ := tp_in (g := g) h0 h1 (x := x) (o3 := o3) found (done ++ (upto c).map fun m => row ++ [m]) (o4 := some (.d (tupI row))) (fun r hr => h r (List.mem_cons_of_mem _ hr)) (by rw [List.length_append]; omega)
    refine ⟨o4', ?_⟩
    rw [List.map_cons, forL_cons]
    rw [e2, ← List.append_assoc]
    rw [List.map_append] at ih
    have z1 : (((upto c).map fun m => row ++ [m]).map tupI).length ≤ sizeLine := by rw [List.length_map]; omega
    have z2 : (done.map tupI).length + (((upto c).map fun m => row ++ [m]).map tupI).length ≤ sizeLine := by rw [List.length_map, List.length_map]; omega
    generalize ((done ++ (upto c).map fun m => row ++ [m]) ++ rowsE found c).map tupI = R3 at *
    generalize ((upto c).map fun m => row ++ [m]).map tupI = NW at *
    generalize done.map tupI = DN at *
    generalize found.map tupI = FD at *
    have eb : tpIn [x, some (.ol DN), some (.d (.int c)), o3, some (.d (tupI row)), none] g = some (.nx [x, some (.ol (DN ++ NW)), some (.d (.int c)), o3, some (.d (tupI row)), none], g) := by
      unfold tpIn
      simp -implicitDefEqProofs [r1, e1, z1, z2, wipeR]
    simp -implicitDefEqProofs [bName, setR, eb, ih]
theorem tp_for {x : D} {g : G} : ∀ (cs : List Int) (found : List (List Int)) (k : Nat) {o2 o3 o4 : Option LV}, (∀ c ∈ cs, 1 ≤ c ∧ c ≤ 3) → (∀ r ∈ found, r.length ≤ k) → k + cs.length ≤ 4 → found.length ≤ 3 ^ k → ∃ o1' o2' o3' o4',
    forL (bName 2) (sFrz 1 (sSeq (sParV [3, 1] (vCons (vD (eVar 1)) (vCons (vL (aSz aNil)) vNil))) (sFor (aItem (eVar 3)) (bName 4) tpIn))) (cs.map .int) [some (.d x), some (.ol (found.map tupI)), o2, o3, o4, none] g
      = some (.nx [some (.d x), o1', o2', o3', o4', none], g) ∧ (frzR [some (.d x), o1', o2', o3', o4', none] 1) = [some (.d x), some (.d (.lst ((cs.foldl rowsE found).map tupI))), o2', o3', o4', none] := by
  intro cs
  induction cs with
  | nil => intro found k o2 o3 o4 _ _ _ _; exact ⟨_, _, _, _, rfl, rfl⟩
  | cons c cs ih =>
    intro found k o2 o3 o4 hc hf hk hl
    have sz := sizeLine_eq
    obtain ⟨c1, c2⟩ := hc c List.mem_cons_self
    have hk4 : k ≤ 3 := by simp at hk; omega
    have hp : 3 ^ k ≤ 27 := by
      have : k = 0 ∨ k = 1 ∨ k = 2 ∨ k = 3 := by omega
      rcases this with rfl | rfl | rfl | rfl <;> decide
    have hl2 : (rowsE found c).length ≤ 3 ^ (k + 1) := by
      rw [rowsE_len, Nat.pow_succ]
      exact Nat.mul_le_mul hl (by omega)
    have hp2 : 3 ^ (k + 1) = 3 ^ k * 3 := Nat.pow_succ ..
    have hf2 : ∀ r ∈ rowsE found c, r.length ≤ k + 1 := fun r hr => by
      obtain ⟨q, hq, m, _, _, rfl⟩ := rowsE_mem.mp hr
      have := hf q hq
      simp
      omega
    obtain ⟨o4', e⟩ := tp_in (g := g) (c := c) (by omega) (by omega) (x := some (.d x)) (o3 := some (.d (.lst (found.map tupI)))) found [] (o4 := o4) (fun r hr => by have := hf r hr; omega) (by simp; omega)
    obtain ⟨p1, p2, p3, p4, ih, fz⟩ := ih (rowsE found c) (k + 1) (o2 := some (.d (.int c))) (o3 := some (.d (.lst (found.map tupI)))) (o4 := o4') (fun y hy => hc y (List.mem_cons_of_mem _ hy)) hf2 (by simp at hk; omega) hl2
    refine ⟨p1, p2, p3, p4, ?_, fz⟩
    rw [List.map_cons, forL_cons]
    rw [List.nil_append, List.map_nil] at e
    generalize hT : tpIn = TP at *
    generalize (rowsE found c).map tupI = L at *
    generalize found.map tupI = FD at *
    simp -implicitDefEqProofs [bName, setR, e, ih]
theorem tuples_ok {x : D} {cs : List Int} (hx : itemsD x = some (cs.map .int)) (h : Counts cs) (g : G) : F__law_tuples [x] g = some (.lst ((rowsC cs).map tupI), g) := by
  refine runF_rt ?_
  obtain ⟨o1, o2, o3, o4, e, fz⟩ := tp_for (x := x) (g := g) cs [[]] 0 (o2 := none) (o3 := none) (o4 := none) h.2 (by simp) (by have := h.1; omega) (by simp)
  have e : forL (bName 2) (sFrz 1 (sSeq (sParV [3, 1] (vCons (vD (eVar 1)) (vCons (vL (aSz aNil)) vNil))) (sFor (aItem (eVar 3)) (bName 4) tpIn))) (cs.map .int) [some (.d x), some (.ol [.tup []]), none, none, none, none] g
      = some (.nx [some (.d x), o1, o2, o3, o4, none], g) := e
  have sz : (1 : Nat) ≤ sizeLine := by rw [sizeLine_eq]; decide
  have fz : (frzR [some (.d x), o1, o2, o3, o4, none] 1) = [some (.d x), some (.d (.lst ((rowsC cs).map tupI))), o2, o3, o4, none] := fz
  have fz2 : dAt (frzR [o1, o2, o3, o4, none] 0) 0 = some (.lst ((rowsC cs).map tupI)) := by
    have h9 := congrArg (fun ρ : Rho => dAt ρ 1) fz
    simpa using h9
  unfold tpIn at e
  generalize (rowsC cs).map tupI = L at *
  simp -implicitDefEqProofs [s__law_tuples, slots0, sz, hx, e]
  exact fz2
/-! ### what all is drawn by -/
theorem set_lst {j : Nat} {l : List Int} (v : Int) : (l.map D.int).set j (.int v) = (l.set j v).map D.int := by rw [List.map_set]
theorem fold1_for {x : D} {g : G} : ∀ (ns : List Int) (i : Nat) (l : List Int) {o2 o3 : Option LV}, l.length = 61 → i + ns.length < 1000 → ∃ (l' : List Int) (o2' o3' : Option LV), l'.length = 61 ∧
    forL (bTup (bsCons (bName 2) (bsCons (bName 3) bsNil))) (sSetO 1 (eOp dMod (eVar 2) (eC (.int 61))) (eOp dMod (eOp addD (eOp dMul (eIxO 1 (eOp dMod (eVar 2) (eC (.int 61)))) (eC (.int 40692))) (eVar 3)) (eC (.int 2305843009213693951)))) (enumL i (ns.map .int)) [some (.d x), some (.ol (l.map .int)), o2, o3] g
      = some (.nx [some (.d x), some (.ol (l'.map .int)), o2', o3'], g)
  | [], i, l, o2, o3, hl, _ => ⟨l, o2, o3, hl, rfl⟩
  | n :: ns, i, l, o2, o3, hl, hi => by
    have q1 := dMod_ok (i : Int) 61 (by decide)
    have b0 := Int.emod_nonneg (i : Int) (b := 61) (by decide)
    have b1 := Int.emod_lt_of_pos (i : Int) (b := 61) (by decide)
    obtain ⟨j, hj⟩ : ∃ j : Nat, (i : Int) % 61 = j := ⟨((i : Int) % 61).toNat, by omega⟩
    rw [hj] at q1
    have hjl : j < l.length := by omega
    obtain ⟨c, hc⟩ : ∃ c : Int, l[j]? = some c := ⟨_, List.getElem?_eq_getElem hjl⟩
    have ix : L2.atI (l.map D.int) (j : Int) = some (.int c) := by
      rw [atI_of (by omega) (by simp only [List.length_map]; omega), List.getElem?_map]
      show (l[j]?).map D.int = _
      rw [hc]
      rfl
    have hn : L2.ixN (l.map D.int).length (j : Int) = some j := by
      unfold L2.ixN
      rw [List.length_map, if_pos (by omega), if_pos (by omega)]
      simp
    have m1 := dMul_ok2 c 40692 (by decide)
    have q2 := dMod_ok (c * 40692 + n) 2305843009213693951 (by decide)
    generalize (c * 40692 + n) % 2305843009213693951 = V at *
    have st := set_lst (j := j) (l := l) V
    obtain ⟨l', p2, p3, hl', ih⟩ := fold1_for (x := x) (g := g) ns (i + 1) (l.set j V) (o2 := some (.d (.int i))) (o3 := some (.d (.int n))) (by rw [List.length_set]; exact hl) (by simp at hi; omega)
    refine ⟨l', p2, p3, hl', ?_⟩
    show forL _ _ (D.tup [.int i, .int n] :: enumL (i + 1) (ns.map .int)) _ g = _
    rw [forL_cons]
    generalize (l.set j V).map D.int = LS at *
    generalize l.map D.int = LM at *
    generalize l'.map D.int = LZ at *
    generalize enumL (i + 1) (ns.map D.int) = EN at *
    simp -implicitDefEqProofs [bTup, bsCons, bsNil, bName, setR, sSetO, q1, ix, m1, q2, hn, st, ih, olAt, ixO]
theorem fold2_for {x : D} {o3 : Option LV} {g : G} : ∀ (ks : List Nat) (l : List Int) {o2 : Option LV}, l.length = 61 → (∀ k ∈ ks, 1 ≤ k ∧ k < 61) → ∃ (l' : List Int) (o2' : Option LV), l'.length = 61 ∧
    forL (bName 2) (sSetO 1 (eVar 2) (eOp dMod (eOp addD (eIxO 1 (eVar 2)) (eOp dMul (eIxO 1 (eOp subD (eVar 2) (eC (.int 1)))) (eC (.int 39373)))) (eC (.int 2305843009213693951)))) (ks.map fun k : Nat => D.int (k : Int)) [some (.d x), some (.ol (l.map .int)), o2, o3] g
      = some (.nx [some (.d x), some (.ol (l'.map .int)), o2', o3], g)
  | [], l, o2, hl, _ => ⟨l, o2, hl, rfl⟩
  | k :: ks, l, o2, hl, hi => by
    obtain ⟨k1, k2⟩ := hi k List.mem_cons_self
    obtain ⟨c, hc⟩ : ∃ c : Int, l[k]? = some c := ⟨_, List.getElem?_eq_getElem (by omega)⟩
    obtain ⟨c2, hc2⟩ : ∃ c : Int, l[k - 1]? = some c := ⟨_, List.getElem?_eq_getElem (by omega)⟩
    have ix : L2.atI (l.map D.int) (k : Int) = some (.int c) := by
      rw [atI_of (by omega) (by simp only [List.length_map]; omega), List.getElem?_map]
      show (l[k]?).map D.int = _
      rw [hc]
      rfl
    have ix2 : L2.atI (l.map D.int) ((k : Int) - 1) = some (.int c2) := by
      rw [atI_of (by omega) (by simp only [List.length_map]; omega), List.getElem?_map]
      have e : ((k : Int) - 1).toNat = k - 1 := by omega
      rw [e, hc2]
      rfl
    have hn : L2.ixN (l.map D.int).length (k : Int) = some k := by
      unfold L2.ixN
      rw [List.length_map, if_pos (by omega), if_pos (by omega)]
      simp
    have m1 := dMul_ok2 c2 39373 (by decide)
    have q2 := dMod_ok (c + c2 * 39373) 2305843009213693951 (by decide)
    generalize (c + c2 * 39373) % 2305843009213693951 = V at *
    have st := set_lst (j := k) (l := l) V
    obtain ⟨l', p2, hl', ih⟩ := fold2_for (x := x) (o3 := o3) (g := g) ks (l.set k V) (o2 := some (.d (.int k))) (by rw [List.length_set]; exact hl) (fun k hk => hi k (List.mem_cons_of_mem _ hk))
    refine ⟨l', p2, hl', ?_⟩
    rw [List.map_cons, forL_cons]
    generalize (l.set k V).map D.int = LS at *
    generalize l.map D.int = LM at *
    generalize l'.map D.int = LZ at *
    generalize (ks.map fun k : Nat => D.int (k : Int)) = KS at *
    simp -implicitDefEqProofs [bName, setR, sSetO, ix, ix2, m1, q2, hn, st, ih, olAt, ixO]
theorem folded_ok {ns : List Int} (h : ns.length ≤ 63) (g : G) : ∃ l : List Int, l.length = 61 ∧ F__law_folded [.lst (ns.map .int)] g = some (.lst (l.map .int), g) := by
  have sz := sizeLine_eq
  have r0 := range1_ok (n := 61) (by decide) (by decide)
  rw [range_nat (by decide)] at r0
  have l0 : lcL (bName 2) tYesD (eOp addD (eC (.int 101)) (eOp dMul (eC (.int 3)) (eVar 2))) [some (.d (.lst (ns.map .int))), none, none, none] ((List.range (61 : Int).toNat).map fun j : Nat => D.int j) g = some (((List.range (61 : Int).toNat).map fun j : Nat => D.int (101 + 3 * (j : Int))), g) := by
    generalize D.lst (ns.map D.int) = SC
    refine lcL_on fun j _ => ⟨_, rfl, ?_⟩
    have m1 := dMul_ok 3 (j : Int) (by decide)
    simp -implicitDefEqProofs [m1, setR]
  have ez : ((List.range (61 : Int).toNat).map fun j : Nat => D.int (101 + 3 * (j : Int))) = ((List.range 61).map fun j : Nat => (101 + 3 * (j : Int))).map D.int := by rw [List.map_map]; rfl
  rw [ez] at l0
  obtain ⟨l1, o2, o3, hl1, e1⟩ := fold1_for (x := .lst (ns.map .int)) (g := g) ns 0 ((List.range 61).map fun j : Nat => (101 + 3 * (j : Int))) (o2 := none) (o3 := none) (by rw [List.length_map, List.length_range]) (by omega)
  have r2 : range2M [.int 1, .int 61] = some ((List.range' 1 60).map fun k : Nat => D.int (k : Int)) := by rfl
  obtain ⟨l2, o2', hl2, e2⟩ := fold2_for (x := .lst (ns.map .int)) (o3 := o3) (g := g) (List.range' 1 60) l1 (o2 := o2) hl1 (fun k hk => by have := List.mem_range'_1.mp hk; omega)
  refine ⟨l2, hl2, runF_rt ?_⟩
  have en : enumM [.lst (ns.map .int)] = some (enumL 0 (ns.map .int)) := rfl
  have z1 : (((List.range 61).map fun j : Nat => (101 + 3 * (j : Int))).map D.int).length ≤ sizeLine := by rw [List.length_map, List.length_map, List.length_range]; omega
  generalize ((List.range 61).map fun j : Nat => (101 + 3 * (j : Int))).map D.int = L0 at *
  generalize ((List.range (61 : Int).toNat).map fun j : Nat => D.int j) = RG at *
  generalize ((List.range' 1 60).map fun k : Nat => D.int (k : Int)) = R2 at *
  generalize enumL 0 (ns.map D.int) = EN at *
  generalize D.lst (ns.map D.int) = SC at *
  generalize l1.map D.int = L1 at *
  generalize l2.map D.int = L2X at *
  simp -implicitDefEqProofs [s__law_folded, slots0, r0, l0, z1, en, e1, r2, e2]
theorem begun_ok {ns : List Int} (h : ns.length ≤ 63) : ∃ s : Ds, F__law_begun [.lst (ns.map .int)] [] = some (.hd 0, gS s []) ∧ Ok s 100000000 := by
  have sz := sizeLine_eq
  obtain ⟨cl, hcl, e0⟩ := folded_ok h []
  have q : itemsD (.lst (ns.map D.int)) = some (ns.map D.int) := rfl
  refine ⟨⟨cl, ns.map fun c => if 1000000000000000000 ≤ c then c else 0, 0⟩, runF_rt ?_, ⟨hcl, Int.le_refl _, by show (0 : Int) + 100000000 ≤ 1000000000; decide⟩⟩
  have l1 : ∀ g : G, lcL (bName 2) tYesD (eIf (tCmp geD (eVar 2) (eOp dPow (eC (.int 10)) (eC (.int 18)))) (eVar 2) (eC (.int 0))) [some (.d (.lst (ns.map .int))), some (.d (.hd 0)), none] (ns.map .int) g = some ((ns.map fun c => if 1000000000000000000 ≤ c then c else 0).map .int, g) := by
    intro g
    generalize D.lst (ns.map D.int) = SC
    refine lc_typed ns fun c _ => ⟨_, rfl, ?_⟩
    by_cases hc : (1000000000000000000 : Int) ≤ c
    · simp -implicitDefEqProofs [setR, hc]
    · simp -implicitDefEqProofs [setR, hc]
  have z1 : ((ns.map fun c => if (1000000000000000000 : Int) ≤ c then c else 0).map D.int).length ≤ sizeLine := by rw [List.length_map, List.length_map]; omega
  have kd : keysD [.str "cells", .str "left", .str "at"] = some [.inr "cells", .inr "left", .inr "at"] := rfl
  unfold gS
  have g0 : ∀ (A : D) (Y : List D), (storeD ([.mk (mergeD ([], []) [.inr "cells", .inr "left", .inr "at"] [A, .lst [], .int 0]).1 (mergeD ([], []) [.inr "cells", .inr "left", .inr "at"] [A, .lst [], .int 0]).2, .ml Y] : G) (.hd 0) (.str "left") (.hd 1)) = some ([.mk [.inr "cells", .inr "left", .inr "at"] [A, .hd 1, .int 0], .ml Y] : G) := fun _ _ => rfl
  show s__law_begun _ _ = some (_, [MO.mk [.inr "cells", .inr "left", .inr "at"] [.lst (cl.map .int), .hd 1, .int 0], .ml ((ns.map fun c => if 1000000000000000000 ≤ c then c else 0).map .int)])
  generalize ((ns.map fun c => if (1000000000000000000 : Int) ≤ c then c else 0).map D.int) = LF at *
  generalize D.lst (ns.map D.int) = SC at *
  generalize ns.map D.int = NS at *
  generalize D.lst (cl.map D.int) = CL at *
  simp -implicitDefEqProofs [s__law_begun, slots0, e0, kd, q, l1, z1, g0]
end L_k48
end
section
set_option Elab.async false
set_option linter.all false
set_option maxRecDepth 100000
set_option maxHeartbeats 4000000
set_option autoImplicit false
namespace L_k48
open PySem PD
theorem perm_erase {α : Type} : ∀ {l : List α} {i : Nat} {x : α}, l[i]? = some x → (x :: l.eraseIdx i).Perm l
  | [], i, x, h => by simp at h
  | y :: l, 0, x, h => by
    simp at h
    subst h
    exact List.Perm.refl _
  | y :: l, i + 1, x, h => by
    have h : l[i]? = some x := by simpa using h
    rw [List.eraseIdx_cons_succ]
    exact (List.Perm.swap y x _).trans ((perm_erase h).cons y)
theorem map_erase {α β : Type} (f : α → β) : ∀ (l : List α) (i : Nat), (l.map f).eraseIdx i = (l.eraseIdx i).map f
  | [], _ => rfl
  | _ :: _, 0 => rfl
  | x :: l, i + 1 => by rw [List.map_cons, List.eraseIdx_cons_succ, List.eraseIdx_cons_succ, List.map_cons, map_erase f l i]
theorem rsv_str (k : Nat) (g : G) (x : Str) : rsv k g (.str x) = some (.str x) := by cases k <;> rfl
theorem optA_strs (k : Nat) (g : G) (ns : List Str) : optA (rsv k g) (ns.map .str) = some (ns.map .str) := optA_id fun d hd => by
  obtain ⟨n, _, rfl⟩ := List.mem_map.mp hd
  exact rsv_str k g n
/-- the store with a pool of names behind -/
def gP (s : Ds) (P : List Str) : G := gS s [.ml (P.map .str)]
theorem len_pool (s : Ds) (P : List Str) : optA (rsv 4 (gP s P)) [.hd 2] = some [.lst (P.map .str)] := by
  have e : rsv 4 (gP s P) (.hd 2) = some (.lst (P.map .str)) := by
    show (optA (rsv 3 (gP s P)) (P.map .str)).map D.lst = _
    rw [optA_strs]
    rfl
  show (rsv 4 (gP s P) (.hd 2)).bind (fun x => some [x]) = _
  rw [e]
  rfl
theorem len_strs (P : List Str) : lenD [.lst (P.map .str)] = some (.int P.length) := by
  show some (D.int ((P.map D.str).length : Int)) = _
  rw [List.length_map]
theorem pop_pool (s : Ds) {P : List Str} {j : Nat} {y : Str} (h : P[j]? = some y) : popH (gP s P) 2 (.int (j : Int)) = some (.str y, gP s (P.eraseIdx j)) := by
  have hj := (List.getElem?_eq_some_iff.mp h).1
  have hn : L2.ixN (P.map D.str).length (j : Int) = some j := by
    unfold L2.ixN
    rw [List.length_map, if_pos (by omega), if_pos (by omega)]
    simp
  have e1 : ((P.map D.str)[j]?) = some (.str y) := by rw [List.getElem?_map, h]; rfl
  show (L2.ixN (P.map D.str).length (j : Int)).bind _ = _
  rw [hn, Option.bind_some, e1]
  show some (D.str y, updG (gP s P) 2 (.ml ((P.map D.str).eraseIdx j))) = _
  unfold gP gS updG
  rw [List.set_cons_succ, List.set_cons_succ, List.set_cons_zero, map_erase]
theorem pops_lc {o1 o2 o4 o5 o6 o7 : Option LV} {tl : Rho} : ∀ (ds : List D) {P : List Str} {s : Ds} {b : Nat}, Ok s (b + ds.length) → ds.length ≤ P.length → P.length < 1000 → ∃ (xs P' : List Str) (s' : Ds),
    lcL (bName 8) tYesD (ePopH 3 (eCall F__law_draw (aCons (eVar 0) (aCons (eBiR lenD (aCons (eVar 3) aNil)) aNil)))) (some (.d (.hd 0)) :: o1 :: o2 :: some (.d (.hd 2)) :: o4 :: o5 :: o6 :: o7 :: none :: tl) ds (gP s P) = some (xs.map .str, gP s' P') ∧ (xs ++ P').Perm P ∧ xs.length = ds.length ∧ Ok s' b
  | [], P, s, b, ok, _, _ => ⟨[], P, s, rfl, List.Perm.refl _, rfl, ok⟩
  | d :: ds, P, s, b, ok, hl, hz => by
    rw [List.length_cons] at hl
    obtain ⟨x, s1, e0, x0, x1, ok1⟩ := draw_ok (s := s) (b := b + ds.length) (by simpa [Nat.add_assoc] using ok) (m := (P.length : Int)) (by omega) (by omega) [.ml (P.map .str)]
    obtain ⟨j, rfl⟩ : ∃ j : Nat, x = j := ⟨x.toNat, by omega⟩
    have hj : j < P.length := by omega
    obtain ⟨y, hy⟩ : ∃ y, P[j]? = some y := ⟨_, List.getElem?_eq_getElem hj⟩
    have pm := perm_erase hy
    have pl : (P.eraseIdx j).length = P.length - 1 := List.length_eraseIdx_of_lt hj
    obtain ⟨xs, P', s2, e2, pm2, l2, ok2⟩ := pops_lc (o1 := o1) (o2 := o2) (o4 := o4) (o5 := o5) (o6 := o6) (o7 := o7) (tl := tl) ds (P := P.eraseIdx j) ok1 (by omega) (by omega)
    refine ⟨y :: xs, P', s2, ?_, (pm2.cons y).trans pm, by simp [l2], ok2⟩
    have e1 : F__law_draw [.hd 0, .int (P.length : Int)] (gP s P) = some (.int (j : Int), gP s1 P) := e0
    clear e0
    have pp := pop_pool s1 hy
    have ln := len_pool s P
    have ln2 := len_strs P
    have gt : (gP s P)[2]? = some (.ml (P.map .str)) := rfl
    rw [lcL_cons, List.map_cons]
    generalize (P.length : Int) = PL at *
    generalize xs.map D.str = XS at *
    generalize gP s2 P' = G3 at *
    generalize gP s1 (P.eraseIdx j) = G2 at *
    generalize gP s1 P = G1 at *
    generalize gP s P = G0 at *
    generalize P.map D.str = PM at *
    simp -implicitDefEqProofs [bName, setR, gt, ln, ln2, e1, pp, e2]
/-- some of the things, by draws -/
theorem pick_lc {m : Int} (m1 : 0 < m) (m2 : m < 1000) {o1 o2 o3 o4 o5 o6 o7 o8 o9 o10 o11 o13 : Option LV} {r : G} : ∀ (ds : List Str) {s : Ds} {b : Nat}, Ok s (b + ds.length) → ∃ (xs : List Str) (s' : Ds),
    lcL (bName 12) (tCmp eqD (eCall F__law_draw (aCons (eVar 0) (aCons (eC (.int m)) aNil))) (eC (.int 0))) (eVar 12) [some (.d (.hd 0)), o1, o2, o3, o4, o5, o6, o7, o8, o9, o10, o11, none, o13] (ds.map .str) (gS s r) = some (xs.map .str, gS s' r) ∧ xs.Sublist ds ∧ Ok s' b
  | [], s, b, ok => ⟨[], s, rfl, List.Sublist.refl _, ok⟩
  | d :: ds, s, b, ok => by
    obtain ⟨x, s1, e1, x0, x1, ok1⟩ := draw_ok (s := s) (b := b + ds.length) (by simpa [Nat.add_assoc] using ok) (m := m) m1 (by omega) r
    obtain ⟨xs, s2, e2, sb, ok2⟩ := pick_lc m1 m2 (o1 := o1) (o2 := o2) (o3 := o3) (o4 := o4) (o5 := o5) (o6 := o6) (o7 := o7) (o8 := o8) (o9 := o9) (o10 := o10) (o11 := o11) (o13 := o13) (r := r) ds ok1
    have q : eqD (.int x) (.int 0) = some (decide (x = 0)) := by rw [eqD_of rfl rfl, eqq_int]
    rw [List.map_cons, lcL_cons]
    generalize ds.map D.str = DS at *
    by_cases h0 : x = 0
    · rw [decide_eq_true h0] at q
      refine ⟨d :: xs, s2, ?_, sb.cons₂ d, ok2⟩
      rw [List.map_cons]
      generalize xs.map D.str = XS at *
      generalize gS s2 r = G2 at *
      generalize gS s1 r = G1 at *
      generalize gS s r = G0 at *
      simp -implicitDefEqProofs [bName, setR, e1, q, e2]
    · rw [decide_eq_false h0] at q
      refine ⟨xs, s2, ?_, sb.cons d, ok2⟩
      generalize xs.map D.str = XS at *
      generalize gS s2 r = G2 at *
      generalize gS s1 r = G1 at *
      generalize gS s r = G0 at *
      simp -implicitDefEqProofs [bName, setR, e1, q, e2]
theorem Names.sub {xs ys : List Str} (h : Names ys) (s : xs.Sublist ys) : Names xs := ⟨fun x hx => h.nm x (s.subset hx), h.up.sublist s⟩
theorem counts_lc {o1 o2 o3 o4 o5 o6 o7 o8 o9 o10 o11 o13 : Option LV} {r : G} : ∀ (ds : List D) {s : Ds} {b : Nat}, Ok s (b + ds.length) → ∃ (xs : List Int) (s' : Ds),
    lcL (bName 12) tYesD (eIx (eLst (aCons (eC (.int 1)) (aCons (eC (.int 2)) (aCons (eC (.int 2)) (aCons (eC (.int 3)) aNil))))) (eCall F__law_draw (aCons (eVar 0) (aCons (eC (.int 4)) aNil)))) [some (.d (.hd 0)), o1, o2, o3, o4, o5, o6, o7, o8, o9, o10, o11, none, o13] ds (gS s r) = some (xs.map .int, gS s' r) ∧ xs.length = ds.length ∧ (∀ c ∈ xs, 1 ≤ c ∧ c ≤ 3) ∧ Ok s' b
  | [], s, b, ok => ⟨[], s, rfl, rfl, fun c hc => absurd hc (by simp), ok⟩
  | d :: ds, s, b, ok => by
    obtain ⟨x, s1, e1, x0, x1, ok1⟩ := draw_ok (s := s) (b := b + ds.length) (by simpa [Nat.add_assoc] using ok) (m := 4) (by decide) (by decide) r
    obtain ⟨xs, s2, e2, l2, h2, ok2⟩ := counts_lc (o1 := o1) (o2 := o2) (o3 := o3) (o4 := o4) (o5 := o5) (o6 := o6) (o7 := o7) (o8 := o8) (o9 := o9) (o10 := o10) (o11 := o11) (o13 := o13) (r := r) ds ok1
    have ha : ∃ w : Int, L2.atI [D.int 1, D.int 2, D.int 2, D.int 3] x = some (.int w) ∧ 1 ≤ w ∧ w ≤ 3 := by
      have : x = 0 ∨ x = 1 ∨ x = 2 ∨ x = 3 := by omega
      rcases this with rfl | rfl | rfl | rfl
      · exact ⟨1, rfl, by decide, by decide⟩
      · exact ⟨2, rfl, by decide, by decide⟩
      · exact ⟨2, rfl, by decide, by decide⟩
      · exact ⟨3, rfl, by decide, by decide⟩
    obtain ⟨w, hw, w1, w2⟩ := ha
    have hw : ∀ g : G, ixD g (.lst [D.int 1, D.int 2, D.int 2, D.int 3]) (.int x) = some (.int w) := fun g => hw
    have z4 : (4 : Nat) ≤ sizeLine := by rw [sizeLine_eq]; omega
    refine ⟨w :: xs, s2, ?_, by simp [l2], fun y hy => ?_, ok2⟩
    · rw [lcL_cons, List.map_cons]
      have hw := hw (gS s1 r)
      generalize xs.map D.int = XX at *
      generalize gS s2 r = G2 at *
      generalize gS s1 r = G1 at *
      generalize gS s r = G0 at *
      simp -implicitDefEqProofs [bName, setR, z4, e1, hw, e2]
    · rcases List.mem_cons.mp hy with rfl | hy
      · exact ⟨w1, w2⟩
      · exact h2 y hy
theorem nexts_lc {m : Int} (m1 : 0 < m) (m2 : m < 1000) {o1 o2 o3 o4 o6 o7 o8 o9 o10 o11 o12 : Option LV} {r : G} : ∀ (ds : List D) {s : Ds} {b : Nat}, Ok s (b + ds.length) → ∃ (xs : List Int) (s' : Ds),
    lcL (bName 13) tYesD (eCall F__law_draw (aCons (eVar 0) (aCons (eVar 5) aNil))) [some (.d (.hd 0)), o1, o2, o3, o4, some (.d (.int m)), o6, o7, o8, o9, o10, o11, o12, none] ds (gS s r) = some (xs.map .int, gS s' r) ∧ xs.length = ds.length ∧ (∀ c ∈ xs, 0 ≤ c ∧ c < m) ∧ Ok s' b
  | [], s, b, ok => ⟨[], s, rfl, rfl, fun c hc => absurd hc (by simp), ok⟩
  | d :: ds, s, b, ok => by
    obtain ⟨x, s1, e1, x0, x1, ok1⟩ := draw_ok (s := s) (b := b + ds.length) (by simpa [Nat.add_assoc] using ok) (m := m) m1 (by omega) r
    obtain ⟨xs, s2, e2, l2, h2, ok2⟩ := nexts_lc m1 m2 (o1 := o1) (o2 := o2) (o3 := o3) (o4 := o4) (o6 := o6) (o7 := o7) (o8 := o8) (o9 := o9) (o10 := o10) (o11 := o11) (o12 := o12) (r := r) ds ok1
    refine ⟨x :: xs, s2, ?_, by simp [l2], fun y hy => ?_, ok2⟩
    · rw [lcL_cons, List.map_cons]
      generalize xs.map D.int = XX at *
      generalize gS s2 r = G2 at *
      generalize gS s1 r = G1 at *
      generalize gS s r = G0 at *
      simp -implicitDefEqProofs [bName, setR, e1, e2]
    · rcases List.mem_cons.mp hy with rfl | hy
      · exact ⟨x0, x1⟩
      · exact h2 y hy
end L_k48
end
section
set_option Elab.async false
set_option linter.all false
set_option maxRecDepth 100000
set_option maxHeartbeats 4000000
set_option autoImplicit false
namespace L_k48
open PySem PD
theorem prodZ_pos : ∀ {cs : List Int}, (∀ c ∈ cs, 1 ≤ c) → 1 ≤ prodZ cs
  | [], _ => by simp [prodZ]
  | c :: cs, h => by
    have h1 := h c List.mem_cons_self
    have h2 := prodZ_pos (cs := cs) fun y hy => h y (List.mem_cons_of_mem _ hy)
    show 1 ≤ c * prodZ cs
    have := Int.mul_le_mul h1 h2 (by omega) (by omega)
    omega
theorem prodZ_le3 : ∀ {cs : List Int}, (∀ c ∈ cs, 1 ≤ c ∧ c ≤ 3) → prodZ cs ≤ 3 ^ cs.length
  | [], _ => by simp [prodZ]
  | c :: cs, h => by
    have h1 := h c List.mem_cons_self
    have h2 := prodZ_le3 (cs := cs) fun y hy => h y (List.mem_cons_of_mem _ hy)
    have h3 := prodZ_pos (cs := cs) fun y hy => (h y (List.mem_cons_of_mem _ hy)).1
    show c * prodZ cs ≤ 3 ^ (cs.length + 1)
    have := Int.mul_le_mul h1.2 h2 (by omega) (by omega)
    rw [Int.pow_succ, Int.mul_comm _ 3]
    exact this
theorem eqD_int (i j : Int) : eqD (.int i) (.int j) = some (decide (i = j)) := by rw [eqD_of rfl rfl, eqq_int]
/-- the first count is put right -/
def fixC (cs : List Int) : List Int := if cs.length = 4 ∧ 1 < cs.count 3 then cs.set 0 1 else cs
theorem fixC_len (cs : List Int) : (fixC cs).length = cs.length := by unfold fixC; split <;> simp
theorem fixC_in {cs : List Int} (h : ∀ c ∈ cs, 1 ≤ c ∧ c ≤ 3) : ∀ c ∈ fixC cs, 1 ≤ c ∧ c ≤ 3 := by
  unfold fixC
  split
  · intro c hc
    rcases List.mem_or_eq_of_mem_set hc with hc | rfl
    · exact h c hc
    · decide
  · exact h
theorem fixC_36 {cs : List Int} (h : ∀ c ∈ cs, 1 ≤ c ∧ c ≤ 3) (hl : cs.length ≤ 4) : prodZ (fixC cs) ≤ 36 := by
  by_cases h4 : cs.length = 4
  · match cs, h4, h with
    | [a, b, c, d], _, h =>
      have ha := h a (by simp)
      have hb := h b (by simp)
      have hc := h c (by simp)
      have hd := h d (by simp)
      have ca : a = 1 ∨ a = 2 ∨ a = 3 := by omega
      have cb : b = 1 ∨ b = 2 ∨ b = 3 := by omega
      have cc : c = 1 ∨ c = 2 ∨ c = 3 := by omega
      have cd : d = 1 ∨ d = 2 ∨ d = 3 := by omega
      rcases ca with rfl | rfl | rfl <;> rcases cb with rfl | rfl | rfl <;> rcases cc with rfl | rfl | rfl <;> rcases cd with rfl | rfl | rfl <;> decide
  · have e : fixC cs = cs := by unfold fixC; rw [if_neg fun q => h4 q.1]
    rw [e]
    have h1 := prodZ_le3 h
    have h2 : ((3 : Int) ^ cs.length) ≤ 27 := by
      have : cs.length = 0 ∨ cs.length = 1 ∨ cs.length = 2 ∨ cs.length = 3 := by omega
      rcases this with q | q | q | q <;> rw [q] <;> decide
    omega
noncomputable def arBody : S := (sSeq (sOwn 9 (eLcA [12] (aItem (eVar 6)) (bName 12) tYesD (eIx (eLst (aCons (eC (.int 1)) (aCons (eC (.int 2)) (aCons (eC (.int 2)) (aCons (eC (.int 3)) aNil))))) (eCall F__law_draw (aCons (eVar 0) (aCons (eC (.int 4)) aNil)))))) (sSeq (sSetO 9 (eC (.int 0)) (eIf (tAnd (tCmp eqD (eVar 4) (eC (.int 4))) (tCmp gtD (eCntO 9 (eC (.int 3))) (eC (.int 1)))) (eC (.int 1)) (eIxO 9 (eC (.int 0))))) (sFrz 9 (sSeq (sSet 10 (eO (eLcA [13] (aItem (eCall F__law_tuples (aCons (eVar 9) aNil))) (bName 13) tYesD (eCall F__law_draw (aCons (eVar 0) (aCons (eVar 5) aNil)))))) (sSeq (sSet 11 (eO (eLcA [12] (aItem (eTup (aCons (eC (.str "p")) (aCons (eC (.str "q")) (aCons (eC (.str "r")) aNil))))) (bName 12) (tCmp eqD (eCall F__law_draw (aCons (eVar 0) (aCons (eC (.int 4)) aNil))) (eC (.int 0))) (eVar 12)))) (sFrz 9 (sAppend 7 (eTup (aCons (eBi tupleD (aCons (eVar 11) aNil)) (aCons (eBi tupleD (aCons (eVar 9) aNil)) (aCons (eBi tupleD (aCons (eVar 10) aNil)) aNil)))))))))))
def pqr : List Str := ["p", "q", "r"]
theorem one_name {x : Str} {c : Nat} (e : cs x = [c]) (h : Letter c) : NameOk x := ⟨by rw [e]; simp, by rw [e]; simp, fun d hd => by rw [e] at hd; rw [List.mem_singleton.mp hd]; exact h⟩
theorem pqr_names : Names pqr := ⟨fun x hx => by
  simp only [pqr, List.mem_cons, List.not_mem_nil, or_false] at hx
  rcases hx with rfl | rfl | rfl
  · exact one_name (c := 112) rfl ⟨by decide, by decide⟩
  · exact one_name (c := 113) rfl ⟨by decide, by decide⟩
  · exact one_name (c := 114) rfl ⟨by decide, by decide⟩, by decide +kernel⟩
theorem ar_body {n w : Int} {called : List Str} (hn : (called.length : Int) = n) (n4 : n ≤ 4) (n1 : 1 ≤ n) (w1 : 1 ≤ w) (w2 : w ≤ 10) {o1 o2 o8 o9 o10 o11 : Option LV} {s : Ds} {b : Nat} (ok : Ok s (b + 50)) {P : List Str} (done : List Place) (hd : done.length < 100) : ∃ (p : Place) (o9' o10' o11' : Option LV) (s' : Ds),
    arBody [some (.d (.hd 0)), o1, o2, some (.d (.hd 2)), some (.d (.int n)), some (.d (.int w)), some (.d (.lst (called.map .str))), some (.ol (done.map Place.d)), o8, o9, o10, o11, none, none] (gP s P)
      = some (.nx [some (.d (.hd 0)), o1, o2, some (.d (.hd 2)), some (.d (.int n)), some (.d (.int w)), some (.d (.lst (called.map .str))), some (.ol ((done ++ [p]).map Place.d)), o8, o9', o10', o11', none, none], gP s' P) ∧ PlaceOk called.length w.toNat p ∧ p.marks.Sublist pqr ∧ Ok s' b := by
  have sz := sizeLine_eq
  have z4 : (4 : Nat) ≤ sizeLine := by omega
  have z3 : (3 : Nat) ≤ sizeLine := by omega
  have q6 : itemsD (.lst (called.map D.str)) = some (called.map D.str) := rfl
  obtain ⟨cs, s1, e1, l1, h1, ok1⟩ := counts_lc (o1 := o1) (o2 := o2) (o3 := some (.d (.hd 2))) (o4 := some (.d (.int n))) (o5 := some (.d (.int w))) (o6 := some (.d (.lst (called.map .str)))) (o7 := some (.ol (done.map Place.d))) (o8 := o8) (o9 := o9) (o10 := o10) (o11 := o11) (o13 := none) (r := [.ml (P.map .str)]) (called.map D.str) (s := s) (b := b + 42) (ok.mono (by rw [List.length_map]; omega))
  rw [List.length_map] at l1
  have zc : (cs.map D.int).length ≤ sizeLine := by rw [List.length_map]; omega
  -- the counts put right
  have q4 := eqD_int n 4
  have ct : cntD (.ol (cs.map D.int)) (.int 3) = some (.int ((cs.count 3 : Nat) : Int)) := by
    show (intsD (cs.map D.int)).map (fun ns => D.int (ns.count 3 : Nat)) = _
    rw [intsD_map]
    rfl
  have cg : gtD (.int ((cs.count 3 : Nat) : Int)) (.int 1) = some (decide (((cs.count 3 : Nat) : Int) > 1)) := rfl
  obtain ⟨c0, hc0⟩ : ∃ c, cs[0]? = some c := ⟨_, List.getElem?_eq_getElem (by omega)⟩
  have ix0 : L2.atI (cs.map D.int) 0 = some (.int c0) := by
    rw [atI_of (by omega) (by simp only [List.length_map]; omega), List.getElem?_map]
    show (cs[0]?).map D.int = _
    rw [hc0]
    rfl
  have hn0 : L2.ixN (cs.map D.int).length 0 = some 0 := by
    unfold L2.ixN
    rw [List.length_map, if_pos (by omega), if_pos (by omega)]
    rfl
  have fx : ∀ (ρ : Rho) (g : G), ρ = [some (.d (.hd 0)), o1, o2, some (.d (.hd 2)), some (.d (.int n)), some (.d (.int w)), some (.d (.lst (called.map .str))), some (.ol (done.map Place.d)), o8, some (.ol (cs.map D.int)), o10, o11, none, none] →
      (sSetO 9 (eC (.int 0)) (eIf (tAnd (tCmp eqD (eVar 4) (eC (.int 4))) (tCmp gtD (eCntO 9 (eC (.int 3))) (eC (.int 1)))) (eC (.int 1)) (eIxO 9 (eC (.int 0))))) ρ g
        = some (.nx [some (.d (.hd 0)), o1, o2, some (.d (.hd 2)), some (.d (.int n)), some (.d (.int w)), some (.d (.lst (called.map .str))), some (.ol (done.map Place.d)), o8, some (.ol ((fixC cs).map D.int)), o10, o11, none, none], g) := by
    intro ρ g hρ
    subst hρ
    have st1 := set_lst (j := 0) (l := cs) 1
    have st2 := set_lst (j := 0) (l := cs) c0
    have self : cs.set 0 c0 = cs := by
      match cs, hc0 with
      | x :: cs, h => simp at h; rw [← h]; rfl
    rw [self] at st2
    by_cases hq : n = 4
    · rw [decide_eq_true hq] at q4
      by_cases hk : ((cs.count 3 : Nat) : Int) > 1
      · have ef : fixC cs = cs.set 0 1 := by unfold fixC; rw [if_pos ⟨by omega, by omega⟩]
        rw [decide_eq_true hk] at cg
        rw [ef]
        generalize (cs.set 0 1).map D.int = F1 at *
        generalize ((cs.count 3 : Nat) : Int) = CN at *
        generalize cs.map D.int = CM at *
        generalize done.map Place.d = DN at *
        generalize D.lst (called.map D.str) = CL at *
        simp -implicitDefEqProofs [sSetO, q4, ct, cg, hn0, st1, olAt]
      · have ef : fixC cs = cs := by unfold fixC; rw [if_neg fun q => hk (by have := q.2; omega)]
        rw [decide_eq_false hk] at cg
        rw [ef]
        generalize ((cs.count 3 : Nat) : Int) = CN at *
        generalize cs.map D.int = CM at *
        generalize done.map Place.d = DN at *
        generalize D.lst (called.map D.str) = CL at *
        simp -implicitDefEqProofs [sSetO, q4, ct, cg, ix0, hn0, st2, olAt, ixO]
    · rw [decide_eq_false hq] at q4
      have ef : fixC cs = cs := by unfold fixC; rw [if_neg fun q => hq (by have := q.1; omega)]
      rw [ef]
      generalize cs.map D.int = CM at *
      generalize done.map Place.d = DN at *
      generalize D.lst (called.map D.str) = CL at *
      simp -implicitDefEqProofs [sSetO, q4, ix0, hn0, st2, olAt, ixO]
  have f1 := fixC_len cs
  have f2 := fixC_in h1
  have f3 := fixC_36 h1 (by omega)
  have f4 := prodZ_pos (cs := fixC cs) fun c hc => (f2 c hc).1
  have rl := rowsC_len (cs := fixC cs) fun c h => by have := f2 c h; omega
  have tp := tuples_ok (x := .lst ((fixC cs).map .int)) (cs := fixC cs) rfl ⟨by omega, f2⟩ (gP s1 P)
  have q8 : itemsD (.lst ((rowsC (fixC cs)).map tupI)) = some ((rowsC (fixC cs)).map tupI) := rfl
  obtain ⟨xs, s2, e2, l2, h2, ok2⟩ := nexts_lc (m := w) (by omega) (by omega) (o1 := o1) (o2 := o2) (o3 := some (.d (.hd 2))) (o4 := some (.d (.int n))) (o6 := some (.d (.lst (called.map .str)))) (o7 := some (.ol (done.map Place.d))) (o8 := o8) (o9 := some (.d (.lst ((fixC cs).map .int)))) (o10 := o10) (o11 := o11) (o12 := none) (r := [.ml (P.map .str)]) ((rowsC (fixC cs)).map tupI) (s := s1) (b := b + 3) (ok1.mono (by rw [List.length_map]; omega))
  rw [List.length_map] at l2
  obtain ⟨mk, s3, e3, sb, ok3⟩ := pick_lc (m := 4) (by decide) (by decide) (o1 := o1) (o2 := o2) (o3 := some (.d (.hd 2))) (o4 := some (.d (.int n))) (o5 := some (.d (.int w))) (o6 := some (.d (.lst (called.map .str)))) (o7 := some (.ol (done.map Place.d))) (o8 := o8) (o9 := some (.d (.lst ((fixC cs).map .int)))) (o10 := some (.d (.lst (xs.map .int)))) (o11 := o11) (o13 := none) (r := [.ml (P.map .str)]) pqr (s := s2) (b := b) ok2
  have ml := sb.length_le
  have ml3 : mk.length ≤ 3 := ml
  refine ⟨⟨mk, fixC cs, xs⟩, some (.d (.lst ((fixC cs).map .int))), some (.d (.lst (xs.map .int))), some (.d (.lst (mk.map .str))), s3, ?_, ⟨pqr_names.sub sb, by show mk.length ≤ 4; omega, by show (fixC cs).length = _; omega, f2, by show xs.length = _; omega, by show (rowsC (fixC cs)).length ≤ 36; omega, fun x hx => ⟨(h2 x hx).1, by have := (h2 x hx).2; omega⟩⟩, sb, ok3⟩
  have zx : (xs.map D.int).length ≤ sizeLine := by rw [List.length_map]; omega
  have zm : (mk.map D.str).length ≤ sizeLine := by rw [List.length_map]; omega
  have zd : (done.map Place.d).length < sizeLine := by rw [List.length_map]; omega
  have qp : itemsD (.tup [.str "p", .str "q", .str "r"]) = some (pqr.map D.str) := rfl
  have tx : tupleD [.lst (xs.map D.int)] = some (tupI xs) := rfl
  have tc : tupleD [.lst ((fixC cs).map D.int)] = some (tupI (fixC cs)) := rfl
  have tm : tupleD [.lst (mk.map D.str)] = some (.tup (mk.map D.str)) := rfl
  have hpd : (done ++ [(⟨mk, fixC cs, xs⟩ : Place)]).map Place.d = done.map Place.d ++ [.tup [.tup (mk.map .str), tupI (fixC cs), tupI xs]] := by rw [List.map_append]; rfl
  rw [hpd]
  have d1 : lcL (bName 12) tYesD _ _ _ (gP s P) = some (_, gP s1 P) := e1
  have d2 : lcL (bName 13) tYesD _ _ _ (gP s1 P) = some (_, gP s2 P) := e2
  have d3 : lcL (bName 12) _ _ _ _ (gP s2 P) = some (_, gP s3 P) := e3
  have fx := fx _ (gP s1 P) rfl
  clear e1 e2 e3 h1 h2 f1 f2 f3 f4 rl l1 l2 q4 ct cg ix0 hn0 ok ok1 ok2 ok3 sb ml ml3 hpd
  generalize hSO : (sSetO 9 (eC (.int 0)) (eIf (tAnd (tCmp eqD (eVar 4) (eC (.int 4))) (tCmp gtD (eCntO 9 (eC (.int 3))) (eC (.int 1)))) (eC (.int 1)) (eIxO 9 (eC (.int 0))))) = SO at *
  generalize gP s3 P = G3 at *
  generalize gP s2 P = G2 at *
  generalize gP s1 P = G1 at *
  generalize gP s P = G0 at *
  generalize (rowsC (fixC cs)).map tupI = RC at *
  generalize tupI (fixC cs) = TF at *
  generalize (fixC cs).map D.int = FC at *
  generalize cs.map D.int = CM at *
  generalize tupI xs = TX at *
  generalize xs.map D.int = XM at *
  generalize mk.map D.str = MK at *
  generalize pqr.map D.str = PQ at *
  generalize done.map Place.d = DN at *
  generalize called.map D.str = CL at *
  unfold arBody
  rw [hSO]
  simp -implicitDefEqProofs [q6, d1, zc, fx, tp, q8, d2, zx, z3, qp, d3, zm, tm, tc, tx, zd]
end L_k48
end
section
set_option Elab.async false
set_option linter.all false
set_option maxRecDepth 100000
set_option maxHeartbeats 4000000
set_option autoImplicit false
namespace L_k48
open PySem PD
theorem ar_for {n w : Int} {called : List Str} (hn : (called.length : Int) = n) (n4 : n ≤ 4) (n1 : 1 ≤ n) (w1 : 1 ≤ w) (w2 : w ≤ 10) {o1 o2 : Option LV} {P : List Str} : ∀ (ds : List D) (done : List Place) (o8 o9 o10 o11 : Option LV) (s : Ds) (b : Nat), Ok s (b + 50 * ds.length) → done.length + ds.length < 100 → ∃ (ps : List Place) (o8' o9' o10' o11' : Option LV) (s' : Ds),
    forL (bName 8) arBody ds [some (.d (.hd 0)), o1, o2, some (.d (.hd 2)), some (.d (.int n)), some (.d (.int w)), some (.d (.lst (called.map .str))), some (.ol (done.map Place.d)), o8, o9, o10, o11, none, none] (gP s P)
      = some (.nx [some (.d (.hd 0)), o1, o2, some (.d (.hd 2)), some (.d (.int n)), some (.d (.int w)), some (.d (.lst (called.map .str))), some (.ol ((done ++ ps).map Place.d)), o8', o9', o10', o11', none, none], gP s' P) ∧ ps.length = ds.length ∧ (∀ p ∈ ps, PlaceOk called.length w.toNat p ∧ p.marks.Sublist pqr) ∧ Ok s' b
  | [], done, o8, o9, o10, o11, s, b, ok, _ => ⟨[], o8, o9, o10, o11, s, by rw [List.append_nil]; rfl, rfl, fun p hp => absurd hp (by simp), ok⟩
  | d :: ds, done, o8, o9, o10, o11, s, b, ok, hd => by
    rw [List.length_cons] at hd ok
    obtain ⟨p, q9, q10, q11, s1, e1, hp, hs, ok1⟩ := ar_body hn n4 n1 w1 w2 (o1 := o1) (o2 := o2) (o8 := some (.d d)) (o9 := o9) (o10 := o10) (o11 := o11) (s := s) (b := b + 50 * ds.length) (ok.mono (by omega)) (P := P) done (by omega)
    obtain ⟨ps, r8, r9, r10, r11, s2, e2, l2, h2, ok2⟩ := ar_for hn n4 n1 w1 w2 (o1 := o1) (o2 := o2) (P := P) ds (done ++ [p]) (some (.d d)) q9 q10 q11 s1 b ok1 (by rw [List.length_append]; simp; omega)
    refine ⟨p :: ps, r8, r9, r10, r11, s2, ?_, by simp [l2], fun q hq => ?_, ok2⟩
    · rw [List.append_assoc] at e2
      have e2 : forL (bName 8) arBody ds _ (gP s1 P) = some (.nx [some (.d (.hd 0)), o1, o2, some (.d (.hd 2)), some (.d (.int n)), some (.d (.int w)), some (.d (.lst (called.map .str))), some (.ol ((done ++ p :: ps).map Place.d)), r8, r9, r10, r11, none, none], gP s2 P) := e2
      rw [forL_cons]
      generalize (done ++ p :: ps).map Place.d = D3 at *
      generalize (done ++ [p]).map Place.d = D2 at *
      generalize done.map Place.d = D1 at *
      generalize called.map D.str = CL at *
      generalize arBody = AB at *
      generalize gP s2 P = G2 at *
      generalize gP s1 P = G1 at *
      generalize gP s P = G0 at *
      simp -implicitDefEqProofs [bName, setR, e1, e2]
    · rcases List.mem_cons.mp hq with rfl | hq
      · exact ⟨hp, hs⟩
      · exact h2 q hq
def poolS : List Str := ["a", "ab", "abc", "b", "can", "keep", "next", "till", "zz", "zzzzzzzz"]
theorem pool_nm : ∀ x ∈ poolS, NameOk x := by
  have key : ∀ x : Str, decide (1 ≤ (cs x).length) = true → decide ((cs x).length ≤ 8) = true → (cs x).all (fun c => decide (97 ≤ c) && decide (c ≤ 122)) = true → NameOk x := fun x h1 h2 h3 =>
    ⟨of_decide_eq_true h1, of_decide_eq_true h2, fun c hc => by
      have := List.all_eq_true.mp h3 c hc
      rw [Bool.and_eq_true] at this
      exact ⟨of_decide_eq_true this.1, of_decide_eq_true this.2⟩⟩
  intro x hx
  simp only [poolS, List.mem_cons, List.not_mem_nil, or_false] at hx
  rcases hx with rfl | rfl | rfl | rfl | rfl | rfl | rfl | rfl | rfl | rfl <;> exact key _ (by decide +kernel) (by decide +kernel) (by decide +kernel)
theorem pool_nd : poolS.Nodup := by decide +kernel
theorem arena_ok {w c : Int} (w1 : 1 ≤ w) (w2 : w ≤ 10) (c1 : 1 ≤ c) (c2 : c ≤ 4) {s : Ds} {b : Nat} (ok : Ok s (b + 600)) : ∃ (a : Arena) (s' : Ds) (P : List Str),
    F__law_arena [.hd 0, .int w, .int c] (gS s []) = some (a.d, gP s' P) ∧ ArenaOk a ∧ (a.names.length : Int) ≤ c ∧ (a.places.length : Int) ≤ w ∧ (∀ p ∈ a.places, p.marks.Sublist pqr) ∧ Ok s' b := by
  have sz := sizeLine_eq
  have z2 : (2 : Nat) ≤ sizeLine := by omega
  have z0 : (0 : Nat) ≤ sizeLine := by omega
  have z10 : (10 : Nat) ≤ sizeLine := by omega
  obtain ⟨x, s1, e1, x0, x1, ok1⟩ := draw_ok (s := s) (b := b + 599) (ok.mono (by omega)) (m := c) (by omega) (by omega) [.ml (poolS.map .str)]
  obtain ⟨y, s2, e2, y0, y1, ok2⟩ := draw_ok (s := s1) (b := b + 598) ok1 (m := w) (by omega) (by omega) [.ml (poolS.map .str)]
  have r1 := range1_ok (n := 1 + x) (by omega) (by omega)
  have rl1 := rangeD_length 0 (1 + x).toNat
  have pl : poolS.length = 10 := rfl
  obtain ⟨xs, P, s3, e3, pm, l3, ok3⟩ := pops_lc (o1 := some (.d (.int w))) (o2 := some (.d (.int c))) (o4 := some (.d (.int (1 + x)))) (o5 := some (.d (.int (1 + y)))) (o6 := none) (o7 := none) (tl := [none, none, none, none, none]) (rangeD 0 (1 + x).toNat) (P := poolS) (s := s2) (b := b + 590) (ok2.mono (by omega)) (by omega) (by omega)
  have r2 := range1_ok (n := 1 + y) (by omega) (by omega)
  have rl2 := rangeD_length 0 (1 + y).toNat
  obtain ⟨ps, p8, p9, p10, p11, s4, e4, l4, h4, ok4⟩ := ar_for (n := 1 + x) (w := 1 + y) (called := xs) (by omega) (by omega) (by omega) (by omega) (by omega) (o1 := some (.d (.int w))) (o2 := some (.d (.int c))) (P := P) (rangeD 0 (1 + y).toNat) [] none none none none s3 b (ok3.mono (by omega)) (by simp; omega)
  have so := sortedM_strs xs
  have nd : xs.Nodup := (List.nodup_append.mp (pm.nodup_iff.mpr pool_nd)).1
  have nm : Names (sortS xs) := ⟨fun z hz => pool_nm z (pm.subset (List.mem_append_left _ ((sortS_perm xs).mem_iff.mp hz))), sortS_lt nd⟩
  have sl : (sortS xs).length = xs.length := (sortS_perm xs).length_eq
  refine ⟨⟨sortS xs, ps⟩, s4, P, runF_rt ?_, ⟨nm, by show 1 ≤ (sortS xs).length; omega, by show (sortS xs).length ≤ 4; omega, by show 1 ≤ ps.length; omega, by show ps.length ≤ 10; omega, fun p hp => ?_⟩, by show ((sortS xs).length : Int) ≤ c; omega, by show (ps.length : Int) ≤ w; omega, fun p hp => (h4 p hp).2, ok4⟩
  · have ts : tupleD [.lst ((sortS xs).map .str)] = some (.tup ((sortS xs).map .str)) := rfl
    have tp : tupleD [.lst (ps.map Place.d)] = some (.tup (ps.map Place.d)) := rfl
    have ad : Arena.d ⟨sortS xs, ps⟩ = .tup [.tup ((sortS xs).map .str), .tup (ps.map Place.d)] := rfl
    rw [ad]
    have zx : (xs.map D.str).length ≤ sizeLine := by rw [List.length_map]; omega
    have g0 : gS s [] ++ [MO.ml (poolS.map .str)] = gP s poolS := rfl
    have gl : (gS s []).length = 2 := rfl
    have pd : [D.str "a", D.str "ab", D.str "abc", D.str "b", D.str "can", D.str "keep", D.str "next", D.str "till", D.str "zz", D.str "zzzzzzzz"] = poolS.map D.str := rfl
    have d1 : F__law_draw [.hd 0, .int c] (gP s poolS) = some (.int x, gP s1 poolS) := e1
    have d2 : F__law_draw [.hd 0, .int w] (gP s1 poolS) = some (.int y, gP s2 poolS) := e2
    rw [List.nil_append] at e4
    have e4 : forL (bName 8) arBody _ [some (.d (.hd 0)), some (.d (.int w)), some (.d (.int c)), some (.d (.hd 2)), some (.d (.int (1 + x))), some (.d (.int (1 + y))), some (.d (.lst (xs.map .str))), some (.ol []), none, none, none, none, none, none] _ = _ := e4
    unfold arBody at e4
    clear e1 e2 ok ok1 ok2 ok3 ok4 h4 pm nm
    generalize gP s4 P = G4 at *
    generalize gP s3 P = G3 at *
    generalize gP s2 poolS = G2 at *
    generalize gP s1 poolS = G1 at *
    generalize gP s poolS = G0 at *
    generalize gS s [] = GB at *
    generalize (sortS xs).map D.str = SX at *
    generalize xs.map D.str = XS at *
    generalize ps.map Place.d = PS at *
    generalize rangeD 0 (1 + x).toNat = R1 at *
    generalize rangeD 0 (1 + y).toNat = R2 at *
    simp -implicitDefEqProofs [s__law_arena, slots0, z10, pl, pd, gl, g0, d1, d2, r1, e3, zx, z0, r2, e4, so, ts, tp, z2]
  · have q := (h4 p hp).1
    rw [show xs.length = (⟨sortS xs, ps⟩ : Arena).names.length from sl.symm, show (1 + y).toNat = (⟨sortS xs, ps⟩ : Arena).places.length by show _ = ps.length; omega] at q
    exact q
end L_k48
end
section
set_option Elab.async false
set_option linter.all false
set_option maxRecDepth 100000
set_option maxHeartbeats 4000000
set_option autoImplicit false
namespace L_k48
open PySem PD
/-! ### an arena with twins -/
def twK (T : List Nat) : List L2.Key := T.map fun t : Nat => (.inl (t : Int) : L2.Key)
def twV (n : Nat) (T : List Nat) : List D := (List.range' n T.length).map fun v : Nat => .int (v : Int)
theorem twK_notin {T : List Nat} {k : Nat} (h : k ∉ T) : (.inl (k : Int) : L2.Key) ∉ twK T := fun q => by
  obtain ⟨t, ht, e⟩ := List.mem_map.mp q
  have : (t : Int) = k := by injection e
  have : t = k := by omega
  rw [this] at ht
  exact h ht
theorem tw_len (n : Nat) (T : List Nat) : (twK T).length = (twV n T).length := by unfold twK twV; rw [List.length_map, List.length_map, List.length_range']
theorem twK_len (T : List Nat) : (twK T).length = T.length := List.length_map _
theorem tw_put (n : Nat) {T : List Nat} {k : Nat} (h : k ∉ T) : putD (twK T) (twV n T) (.inl (k : Int)) (.int ((n : Int) + (T.length : Int))) = (twK (T ++ [k]), twV n (T ++ [k])) := by
  rw [putD_new (twK_notin h) (tw_len n T)]
  unfold twK twV
  rw [List.map_append, List.length_append]
  show _ = (_, (List.range' n (T.length + 1)).map _)
  rw [List.range'_1_concat, List.map_append]
  rfl
theorem twK_nd {T : List Nat} (h : T.Nodup) : (twK T).Nodup := by
  unfold twK
  refine List.pairwise_map.mpr (h.imp fun {a b} hab q => hab ?_)
  have : (a : Int) = b := by injection q
  omega
theorem lookD_tw (x : Nat) : ∀ (T : List Nat) (o : Nat), (lookD (T.map fun t : Nat => (.inl (t : Int) : L2.Key)) ((List.range' o T.length).map fun v : Nat => D.int (v : Int)) (.inl (x : Int)) = none) ∨
    ∃ i, T[i]? = some x ∧ lookD (T.map fun t : Nat => (.inl (t : Int) : L2.Key)) ((List.range' o T.length).map fun v : Nat => D.int (v : Int)) (.inl (x : Int)) = some (.int ((o + i : Nat) : Int))
  | [], o => .inl rfl
  | t :: T, o => by
    rw [List.length_cons, List.range'_succ, List.map_cons, List.map_cons]
    unfold lookD
    by_cases h : t = x
    · subst h
      right
      exact ⟨0, rfl, by rw [if_pos rfl]; rfl⟩
    · have h' : ¬ ((.inl (t : Int) : L2.Key) = .inl (x : Int)) := fun e => by
        have : (t : Int) = x := by injection e
        omega
      rw [if_neg h']
      rcases lookD_tw x T (o + 1) with q | ⟨i, h1, h2⟩
      · exact .inl q
      · exact .inr ⟨i + 1, h1, by rw [h2, Nat.add_assoc, Nat.add_comm 1 i]⟩
/-- the place that a place is a twin of, if it is one -/
def bsOf (n : Nat) (T : List Nat) : List Nat := List.range n ++ T
theorem bs_low {n : Nat} {T : List Nat} {i : Nat} (h : i < n) : (bsOf n T)[i]? = some i := by
  unfold bsOf
  rw [List.getElem?_append_left (by rw [List.length_range]; exact h), List.getElem?_range h]
theorem bs_high {n : Nat} {T : List Nat} {i : Nat} : (bsOf n T)[n + i]? = T[i]? := by
  unfold bsOf
  rw [List.getElem?_append_right (by rw [List.length_range]; omega), List.length_range]
  congr 1
  omega
theorem get_tw {n : Nat} {T : List Nat} {x : Nat} (hx : x < n) : ∃ z : Nat, getD1 (.dk (twK T) (twV n T)) (.int (x : Int)) (.int (x : Int)) = some (.int (z : Int)) ∧ (bsOf n T)[z]? = some x := by
  rcases lookD_tw x T n with q | ⟨i, h1, h2⟩
  · refine ⟨x, ?_, bs_low hx⟩
    show (keyD (.int (x : Int))).map (fun k => (lookD (twK T) (twV n T) k).getD (.int (x : Int))) = _
    show some ((lookD (twK T) (twV n T) (.inl (x : Int))).getD (.int (x : Int))) = _
    unfold twK twV
    rw [q]
    rfl
  · refine ⟨n + i, ?_, by rw [bs_high]; exact h1⟩
    show some ((lookD (twK T) (twV n T) (.inl (x : Int))).getD (.int (x : Int))) = _
    unfold twK twV
    rw [h2]
    rfl
noncomputable def tw1 : S := (sIf (tAnd (tCmp ltD (eOp addD (eVar 2) (eBi lenD (aCons (eOwn 3) aNil))) (eC (.int 7))) (tCmp eqD (eCall F__law_draw (aCons (eVar 0) (aCons (eC (.int 2)) aNil))) (eC (.int 0)))) (sSetK 3 (eVar 4) (eOp addD (eVar 2) (eBi lenD (aCons (eOwn 3) aNil)))) sNil)
theorem tw1_for {n : Nat} (hn : n ≤ 10) {x1 o5 o6 o7 o8 o9 : Option LV} {r : G} : ∀ (todo : List Nat) (T : List Nat) (o4 : Option LV) (s : Ds) (b : Nat), Ok s (b + todo.length) → todo.Nodup → T.Nodup → (∀ k ∈ todo, k ∉ T ∧ k < n) → (∀ t ∈ T, t < n) → n + T.length ≤ max n 7 → ∃ (T' : List Nat) (o4' : Option LV) (s' : Ds),
    forL (bName 4) tw1 (todo.map fun k : Nat => .int (k : Int)) [some (.d (.hd 0)), x1, some (.d (.int (n : Int))), some (.ok (twK T) (twV n T)), o4, o5, o6, o7, o8, o9] (gS s r)
      = some (.nx [some (.d (.hd 0)), x1, some (.d (.int (n : Int))), some (.ok (twK T') (twV n T')), o4', o5, o6, o7, o8, o9], gS s' r) ∧ T'.Nodup ∧ (∀ t ∈ T', t < n) ∧ n + T'.length ≤ max n 7 ∧ Ok s' b
  | [], T, o4, s, b, ok, _, h2, _, h4, h5 => ⟨T, o4, s, rfl, h2, h4, h5, ok⟩
  | k :: todo, T, o4, s, b, ok, h1, h2, h3, h4, h5 => by
    have sz := sizeLine_eq
    rw [List.length_cons] at ok
    obtain ⟨n1, n2⟩ := List.nodup_cons.mp h1
    obtain ⟨kT, kn⟩ := h3 k List.mem_cons_self
    have ln : lenD [.dk (twK T) (twV n T)] = some (.int (T.length : Int)) := by
      show some (D.int ((twK T).length : Int)) = _
      rw [twK_len]
    have lt : ltD (.int ((n : Int) + (T.length : Int))) (.int 7) = some (decide ((n : Int) + (T.length : Int) < 7)) := rfl
    rw [List.map_cons, forL_cons]
    generalize hTD : (todo.map fun k : Nat => D.int (k : Int)) = TD at *
    by_cases hlt : (n : Int) + (T.length : Int) < 7
    · obtain ⟨x, s1, e1, x0, x1', ok1⟩ := draw_ok (s := s) (b := b + todo.length) (by simpa [Nat.add_assoc] using ok) (m := 2) (by decide) (by decide) r
      have q := eqD_int x 0
      rw [decide_eq_true hlt] at lt
      by_cases h0 : x = 0
      · have pt := tw_put n kT
        have hnd := twK_nd h2
        have hz : (twK T).length < sizeLine := by rw [twK_len]; omega
        have c1 : (twK T).Nodup ∧ (twK T).length < sizeLine := ⟨hnd, hz⟩
        obtain ⟨T', o4', s2, e2, g1, g2, g3, g4⟩ := tw1_for hn (x1 := x1) (o5 := o5) (o6 := o6) (o7 := o7) (o8 := o8) (o9 := o9) (r := r) todo (T ++ [k]) (some (.d (.int (k : Int)))) s1 b ok1 n2
          (List.nodup_append.mpr ⟨h2, by simp, fun a ha c hc => by rw [List.mem_singleton.mp hc]; exact fun e => kT (e ▸ ha)⟩)
          (fun j hj => ⟨fun q => by
            rcases List.mem_append.mp q with q | q
            · exact (h3 j (List.mem_cons_of_mem _ hj)).1 q
            · exact n1 (List.mem_singleton.mp q ▸ hj), (h3 j (List.mem_cons_of_mem _ hj)).2⟩)
          (fun t ht => by
            rcases List.mem_append.mp ht with q | q
            · exact h4 t q
            · rw [List.mem_singleton.mp q]; exact kn) (by rw [List.length_append]; simp; omega)
        rw [hTD] at e2
        rw [decide_eq_true h0] at q
        refine ⟨T', o4', s2, ?_, g1, g2, g3, g4⟩
        have kd : keyD (.int (k : Int)) = some (.inl (k : Int)) := rfl
        generalize twV n (T ++ [k]) = V2 at *
        generalize twK (T ++ [k]) = K2 at *
        generalize twV n T = V1 at *
        generalize twK T = K1 at *
        generalize twV n T' = V3 at *
        generalize twK T' = K3 at *
        generalize gS s2 r = G2 at *
        generalize gS s1 r = G1 at *
        generalize gS s r = G0 at *
        have eb : tw1 [some (.d (.hd 0)), x1, some (.d (.int (n : Int))), some (.ok K1 V1), some (.d (.int (k : Int))), o5, o6, o7, o8, o9] G0 = some (.nx [some (.d (.hd 0)), x1, some (.d (.int (n : Int))), some (.ok K2 V2), some (.d (.int (k : Int))), o5, o6, o7, o8, o9], G1) := by
          unfold tw1
          simp -implicitDefEqProofs [ln, lt, e1, q, kd, pt, hnd, hz]
        generalize tw1 = TW at *
        simp -implicitDefEqProofs [bName, setR, eb, e2]
      · obtain ⟨T', o4', s2, e2, g1, g2, g3, g4⟩ := tw1_for hn (x1 := x1) (o5 := o5) (o6 := o6) (o7 := o7) (o8 := o8) (o9 := o9) (r := r) todo T (some (.d (.int (k : Int)))) s1 b ok1 n2 h2 (fun j hj => h3 j (List.mem_cons_of_mem _ hj)) h4 h5
        rw [hTD] at e2
        rw [decide_eq_false h0] at q
        refine ⟨T', o4', s2, ?_, g1, g2, g3, g4⟩
        generalize twV n T = V1 at *
        generalize twK T = K1 at *
        generalize twV n T' = V3 at *
        generalize twK T' = K3 at *
        generalize gS s2 r = G2 at *
        generalize gS s1 r = G1 at *
        generalize gS s r = G0 at *
        have eb : tw1 [some (.d (.hd 0)), x1, some (.d (.int (n : Int))), some (.ok K1 V1), some (.d (.int (k : Int))), o5, o6, o7, o8, o9] G0 = some (.nx [some (.d (.hd 0)), x1, some (.d (.int (n : Int))), some (.ok K1 V1), some (.d (.int (k : Int))), o5, o6, o7, o8, o9], G1) := by
          unfold tw1
          simp -implicitDefEqProofs [ln, lt, e1, q]
        generalize tw1 = TW at *
        simp -implicitDefEqProofs [bName, setR, eb, e2]
    · obtain ⟨T', o4', s2, e2, g1, g2, g3, g4⟩ := tw1_for hn (x1 := x1) (o5 := o5) (o6 := o6) (o7 := o7) (o8 := o8) (o9 := o9) (r := r) todo T (some (.d (.int (k : Int)))) s b (ok.mono (by omega)) n2 h2 (fun j hj => h3 j (List.mem_cons_of_mem _ hj)) h4 h5
      rw [hTD] at e2
      rw [decide_eq_false hlt] at lt
      refine ⟨T', o4', s2, ?_, g1, g2, g3, g4⟩
      generalize twV n T = V1 at *
      generalize twK T = K1 at *
      generalize twV n T' = V3 at *
      generalize twK T' = K3 at *
      generalize gS s2 r = G2 at *
      generalize gS s r = G0 at *
      have eb : tw1 [some (.d (.hd 0)), x1, some (.d (.int (n : Int))), some (.ok K1 V1), some (.d (.int (k : Int))), o5, o6, o7, o8, o9] G0 = some (.nx [some (.d (.hd 0)), x1, some (.d (.int (n : Int))), some (.ok K1 V1), some (.d (.int (k : Int))), o5, o6, o7, o8, o9], G0) := by
        unfold tw1
        simp -implicitDefEqProofs [ln, lt]
      generalize tw1 = TW at *
      simp -implicitDefEqProofs [bName, setR, eb, e2]
/-- from each place to where it led, or to the twin of that -/
theorem twn_lc {n : Nat} {T : List Nat} {o1 o2 o4 o5 o6 o7 o8 : Option LV} {r : G} : ∀ (xs : List Int) {s : Ds} {b : Nat}, Ok s (b + xs.length) → (∀ x ∈ xs, 0 ≤ x ∧ x < n) → ∃ (ys : List Int) (s' : Ds),
    lcL (bName 9) tYesD (eIx (eLst (aCons (eVar 9) (aCons (eGet2 (eVar 3) (eVar 9) (eVar 9)) aNil))) (eCall F__law_draw (aCons (eVar 0) (aCons (eC (.int 2)) aNil)))) [some (.d (.hd 0)), o1, o2, some (.d (.dk (twK T) (twV n T))), o4, o5, o6, o7, o8, none] (xs.map .int) (gS s r) = some (ys.map .int, gS s' r) ∧ ys.length = xs.length ∧
      (∀ (i : Nat) (y : Int), ys[i]? = some y → ∃ x : Int, xs[i]? = some x ∧ 0 ≤ y ∧ (bsOf n T)[y.toNat]? = some x.toNat) ∧ Ok s' b
  | [], s, b, ok, _ => ⟨[], s, rfl, rfl, fun i y h => by simp at h, ok⟩
  | x :: xs, s, b, ok, hx => by
    obtain ⟨x0, xn⟩ := hx x List.mem_cons_self
    obtain ⟨X, rfl⟩ : ∃ X : Nat, x = X := ⟨x.toNat, by omega⟩
    obtain ⟨z, gt, hz⟩ := get_tw (n := n) (T := T) (x := X) (by omega)
    obtain ⟨d, s1, e1, d0, d1, ok1⟩ := draw_ok (s := s) (b := b + xs.length) (by simpa [Nat.add_assoc] using ok) (m := 2) (by decide) (by decide) r
    obtain ⟨ys, s2, e2, l2, h2, ok2⟩ := twn_lc (n := n) (T := T) (o1 := o1) (o2 := o2) (o4 := o4) (o5 := o5) (o6 := o6) (o7 := o7) (o8 := o8) (r := r) xs ok1 (fun x h => hx x (List.mem_cons_of_mem _ h))
    have z2 : (2 : Nat) ≤ sizeLine := by rw [sizeLine_eq]; omega
    obtain ⟨y, hy, hy2⟩ : ∃ y : Nat, (∀ g : G, ixD g (.lst [D.int (X : Int), D.int (z : Int)]) (.int d) = some (.int (y : Int))) ∧ (bsOf n T)[y]? = some X := by
      have : d = 0 ∨ d = 1 := by omega
      rcases this with rfl | rfl
      · exact ⟨X, fun g => rfl, bs_low (by omega)⟩
      · exact ⟨z, fun g => rfl, hz⟩
    refine ⟨(y : Int) :: ys, s2, ?_, by simp [l2], fun i w hw => ?_, ok2⟩
    · rw [List.map_cons, lcL_cons, List.map_cons]
      have hy := hy (gS s1 r)
      generalize D.dk (twK T) (twV n T) = DK at *
      generalize xs.map D.int = XS at *
      generalize ys.map D.int = YS at *
      generalize gS s2 r = G2 at *
      generalize gS s1 r = G1 at *
      generalize gS s r = G0 at *
      simp -implicitDefEqProofs [bName, setR, z2, gt, e1, hy, e2]
    · cases i with
      | zero =>
        have : (y : Int) = w := by simpa using hw
        exact ⟨X, rfl, by omega, by rw [← this]; exact hy2⟩
      | succ i => exact h2 i w (by simpa using hw)
end L_k48
end
section
set_option Elab.async false
set_option linter.all false
set_option maxRecDepth 100000
set_option maxHeartbeats 4000000
set_option autoImplicit false
namespace L_k48
open PySem PD
/-- a place as one of a ground, but that it leads on to twins -/
structure TwinOf (bs : List Nat) (q p : Place) : Prop where
  mkq : p.marks = q.marks
  ct : p.counts = q.counts
  nl : p.nexts.length = q.nexts.length
  nx : ∀ (i : Nat) (y : Int), p.nexts[i]? = some y → ∃ x : Int, q.nexts[i]? = some x ∧ 0 ≤ y ∧ bs[y.toNat]? = some x.toNat
structure Twinned (a w : Arena) (bs : List Nat) : Prop where
  nm : w.names = a.names
  ln : w.places.length = bs.length
  lo : ∀ i, i < a.places.length → bs[i]? = some i
  bd : ∀ b ∈ bs, b < a.places.length
  tw : ∀ (i b : Nat) (p : Place), bs[i]? = some b → w.places[i]? = some p → ∃ q, a.places[b]? = some q ∧ TwinOf bs q p
noncomputable def tw2 : S := (sSeq (sAsg (bTup (bsCons (bName 6) (bsCons (bName 7) (bsCons (bName 8) bsNil)))) (eIx (eIx (eVar 1) (eC (.int 1))) (eVar 4))) (sFrz 3 (sSeq (sSet 8 (eO (eLcA [9] (aItem (eVar 8)) (bName 9) tYesD (eIx (eLst (aCons (eVar 9) (aCons (eGet2 (eVar 3) (eVar 9) (eVar 9)) aNil))) (eCall F__law_draw (aCons (eVar 0) (aCons (eC (.int 2)) aNil))))))) (sAppend 5 (eTup (aCons (eVar 6) (aCons (eVar 7) (aCons (eBi tupleD (aCons (eVar 8) aNil)) aNil))))))))
theorem nx36 {n k : Nat} {p : Place} (h : PlaceOk n k p) : p.nexts.length ≤ 36 := by have := h.nl; have := h.n36; omega
theorem tw2_body {a : Arena} (ha : ArenaOk a) {T : List Nat} {b : Nat} {q : Place} (hq : a.places[b]? = some q) {o3 : Option LV} (h3 : o3 = some (.ok (twK T) (twV a.places.length T)) ∨ o3 = some (.d (.dk (twK T) (twV a.places.length T)))) {o2 o6 o7 o8 : Option LV} {done : List Place} (hd : done.length < 100) {r : G} {s : Ds} {c : Nat} (ok : Ok s (c + 36)) : ∃ (p : Place) (o6' o7' o8' : Option LV) (s' : Ds),
    tw2 [some (.d (.hd 0)), some (.d a.d), o2, o3, some (.d (.int (b : Int))), some (.ol (done.map Place.d)), o6, o7, o8, none] (gS s r)
      = some (.nx [some (.d (.hd 0)), some (.d a.d), o2, some (.d (.dk (twK T) (twV a.places.length T))), some (.d (.int (b : Int))), some (.ol ((done ++ [p]).map Place.d)), o6', o7', o8', none], gS s' r) ∧ TwinOf (bsOf a.places.length T) q p ∧ Ok s' c := by
  have sz := sizeLine_eq
  have hm : q ∈ a.places := List.mem_of_getElem? hq
  have pk := ha.pl q hm
  have h36 := nx36 pk
  obtain ⟨ys, s1, e1, l1, h1, ok1⟩ := twn_lc (n := a.places.length) (T := T) (o1 := some (.d a.d)) (o2 := o2) (o4 := some (.d (.int (b : Int)))) (o5 := some (.ol (done.map Place.d))) (o6 := some (.d (.tup (q.marks.map .str)))) (o7 := some (.d (tupI q.counts))) (o8 := some (.d (tupI q.nexts))) (r := r) q.nexts (s := s) (b := c) (ok.mono (by omega)) (fun x hx => ⟨(pk.nx x hx).1, (pk.nx x hx).2⟩)
  have pi : ∀ g : G, ixD g (.tup (a.places.map Place.d)) (.int (b : Int)) = some (.tup [.tup (q.marks.map .str), tupI q.counts, tupI q.nexts]) := fun g => pl_ix hq g
  have pi := pi (gS s r)
  have ai := a_ix1 a (gS s r)
  have it : itemsD (tupI q.nexts) = some (q.nexts.map .int) := rfl
  have zy : (ys.map D.int).length ≤ sizeLine := by rw [List.length_map]; omega
  have ty : tupleD [.lst (ys.map D.int)] = some (tupI ys) := rfl
  have z3 : (3 : Nat) ≤ sizeLine := by omega
  have zd : (done.map Place.d).length < sizeLine := by rw [List.length_map]; omega
  have hpd : (done ++ [(⟨q.marks, q.counts, ys⟩ : Place)]).map Place.d = done.map Place.d ++ [.tup [.tup (q.marks.map .str), tupI q.counts, tupI ys]] := by rw [List.map_append]; rfl
  refine ⟨⟨q.marks, q.counts, ys⟩, some (.d (.tup (q.marks.map .str))), some (.d (tupI q.counts)), some (.d (.lst (ys.map .int))), s1, ?_, ⟨rfl, rfl, l1, h1⟩, ok1⟩
  rw [hpd]
  clear h1 pk hm hq ok ok1 ha hd
  generalize gS s1 r = G1 at *
  generalize gS s r = G0 at *
  generalize a.d = AD at *
  generalize D.tup (a.places.map Place.d) = PL at *
  generalize D.tup (q.marks.map .str) = MK at *
  generalize tupI q.counts = CT at *
  generalize tupI q.nexts = NX at *
  generalize q.nexts.map D.int = NI at *
  generalize tupI ys = TY at *
  generalize ys.map D.int = YI at *
  generalize done.map Place.d = DN at *
  generalize twK T = TK at *
  generalize twV a.places.length T = TV at *
  rcases h3 with rfl | rfl
  · simp -implicitDefEqProofs [tw2, bTup, bsCons, bsNil, bName, setR, ai, pi, it, e1, zy, ty, z3, zd]
  · simp -implicitDefEqProofs [tw2, bTup, bsCons, bsNil, bName, setR, ai, pi, it, e1, zy, ty, z3, zd]
theorem tw2_for {a : Arena} (ha : ArenaOk a) {T : List Nat} {o2 : Option LV} {r : G} : ∀ (todo : List Nat) (o3 : Option LV), (o3 = some (.ok (twK T) (twV a.places.length T)) ∨ o3 = some (.d (.dk (twK T) (twV a.places.length T)))) → ∀ (done : List Place) (o4 o6 o7 o8 : Option LV) (s : Ds) (c : Nat), Ok s (c + 36 * todo.length) → (∀ t ∈ todo, t < a.places.length) → done.length + todo.length < 100 → ∃ (ps : List Place) (o3' o4' o6' o7' o8' : Option LV) (s' : Ds),
    forL (bName 4) tw2 (todo.map fun k : Nat => .int (k : Int)) [some (.d (.hd 0)), some (.d a.d), o2, o3, o4, some (.ol (done.map Place.d)), o6, o7, o8, none] (gS s r)
      = some (.nx [some (.d (.hd 0)), some (.d a.d), o2, o3', o4', some (.ol ((done ++ ps).map Place.d)), o6', o7', o8', none], gS s' r) ∧ ps.length = todo.length ∧ (∀ (i b : Nat) (p : Place), todo[i]? = some b → ps[i]? = some p → ∃ q, a.places[b]? = some q ∧ TwinOf (bsOf a.places.length T) q p) ∧ Ok s' c
  | [], o3, h3, done, o4, o6, o7, o8, s, c, ok, _, _ => ⟨[], o3, o4, o6, o7, o8, s, by rw [List.append_nil]; rfl, rfl, fun i b p h => by simp at h, ok⟩
  | t :: todo, o3, h3, done, o4, o6, o7, o8, s, c, ok, ht, hd => by
    rw [List.length_cons] at ok hd
    obtain ⟨q, hq⟩ : ∃ q, a.places[t]? = some q := ⟨_, List.getElem?_eq_getElem (ht t List.mem_cons_self)⟩
    obtain ⟨p, q6, q7, q8, s1, e1, hp, ok1⟩ := tw2_body ha hq h3 (o2 := o2) (o6 := o6) (o7 := o7) (o8 := o8) (done := done) (by omega) (r := r) (s := s) (c := c + 36 * todo.length) (ok.mono (by omega))
    obtain ⟨ps, r3, r4, r6, r7, r8, s2, e2, l2, h2, ok2⟩ := tw2_for ha (T := T) (o2 := o2) (r := r) todo _ (.inr rfl) (done ++ [p]) (some (.d (.int (t : Int)))) q6 q7 q8 s1 c ok1 (fun x hx => ht x (List.mem_cons_of_mem _ hx)) (by rw [List.length_append]; simp; omega)
    refine ⟨p :: ps, r3, r4, r6, r7, r8, s2, ?_, by simp [l2], fun i b p' hi hp' => ?_, ok2⟩
    · have ea : done ++ [p] ++ ps = done ++ p :: ps := by simp
      rw [ea] at e2
      rw [List.map_cons, forL_cons]
      generalize (done ++ p :: ps).map Place.d = D3 at *
      generalize (done ++ [p]).map Place.d = D2 at *
      generalize done.map Place.d = D1 at *
      generalize (todo.map fun k : Nat => D.int (k : Int)) = TD at *
      generalize tw2 = TB at *
      generalize a.d = AD at *
      generalize gS s2 r = G2 at *
      generalize gS s1 r = G1 at *
      generalize gS s r = G0 at *
      generalize D.dk (twK T) (twV a.places.length T) = DK at *
      simp -implicitDefEqProofs [bName, setR, e1, e2]
    · cases i with
      | zero =>
        have e3 : t = b := by simpa using hi
        have e4 : p = p' := by simpa using hp'
        subst e3
        subst e4
        exact ⟨q, hq, hp⟩
      | succ i => exact h2 i b p' (by simpa using hi) (by simpa using hp')
theorem keysOf_tw : ∀ T : List Nat, keysOf (twK T) = T.map fun t : Nat => .int (t : Int)
  | [] => rfl
  | t :: T => by
    show D.int (t : Int) :: keysOf (twK T) = _
    rw [keysOf_tw T]
    rfl
theorem twK_all (T : List Nat) : (twK T).all (fun k => match k with | .inl _ => true | .inr _ => false) = true := by
  unfold twK
  rw [List.all_map, List.all_eq_true]
  intro x _
  rfl
theorem keys_tw {T : List Nat} (hz : T.length ≤ sizeLine) (V : List D) (x0 x1 x2 : Option LV) (tl : Rho) (g : G) : aKeysL 3 (x0 :: x1 :: x2 :: some (.ok (twK T) V) :: tl) g = some (T.map fun t : Nat => .int (t : Int), g) := by
  rw [aKeysL_ap, okAt_succ, okAt_succ, okAt_succ, okAt_zero, Option.bind_some]
  show Option.map _ (if (twK T).all _ = true ∧ (twK T).length ≤ sizeLine then some (keysOf (twK T)) else none) = _
  rw [if_pos ⟨twK_all T, by rw [twK_len]; exact hz⟩, keysOf_tw]
  rfl
theorem twin_place {n k k2 : Nat} {q p : Place} {bs : List Nat} (h : PlaceOk n k q) (t : TwinOf bs q p) (hb : bs.length = k2) : PlaceOk n k2 p := by
  refine ⟨by rw [t.mkq]; exact h.mks, by rw [t.mkq]; exact h.ml, by rw [t.ct]; exact h.cl, by rw [t.ct]; exact h.cn, by rw [t.nl, t.ct]; exact h.nl, by rw [t.ct]; exact h.n36, fun y hy => ?_⟩
  obtain ⟨i, hi, e⟩ := List.getElem_of_mem hy
  obtain ⟨x, _, y0, hb2⟩ := t.nx i y (by rw [List.getElem?_eq_getElem hi, e])
  have := (List.getElem?_eq_some_iff.mp hb2).1
  exact ⟨y0, by omega⟩
theorem twinned_ok {a : Arena} (ha : ArenaOk a) {r : G} {s : Ds} {c : Nat} (ok : Ok s (c + 800)) : ∃ (w : Arena) (bs : List Nat) (s' : Ds), F__law_twinned [.hd 0, a.d] (gS s r) = some (w.d, gS s' r) ∧ ArenaOk w ∧ Twinned a w bs ∧ w.places.length ≤ max a.places.length 7 ∧ Ok s' c := by
  have sz := sizeLine_eq
  have hp10 := ha.p10
  obtain ⟨T, o4, s1, e1, nd, lt, le, ok1⟩ := tw1_for (n := a.places.length) ha.p10 (x1 := some (.d a.d)) (o5 := none) (o6 := none) (o7 := none) (o8 := none) (o9 := none) (r := r) (List.range a.places.length) [] none s (c + 750) (ok.mono (by rw [List.length_range]; omega)) List.nodup_range List.nodup_nil (fun k hk => ⟨by simp, List.mem_range.mp hk⟩) (by simp) (by simp; omega)
  have hbl : (bsOf a.places.length T).length = a.places.length + T.length := by unfold bsOf; rw [List.length_append, List.length_range]
  have hbm : ∀ b ∈ bsOf a.places.length T, b < a.places.length := fun b hb => by
    rcases List.mem_append.mp hb with h | h
    · exact List.mem_range.mp h
    · exact lt b h
  obtain ⟨ps, r3, r4, r6, r7, r8, s2, e2, l2, h2, ok2⟩ := tw2_for ha (T := T) (o2 := some (.d (.int (a.places.length : Int)))) (r := r) (bsOf a.places.length T) _ (.inl rfl) [] o4 none none none s1 c (ok1.mono (by omega)) hbm (by simp; omega)
  have pk : ∀ (i : Nat) (p : Place), ps[i]? = some p → ∃ b q, (bsOf a.places.length T)[i]? = some b ∧ a.places[b]? = some q ∧ TwinOf (bsOf a.places.length T) q p := fun i p h => by
    have hi := (List.getElem?_eq_some_iff.mp h).1
    obtain ⟨b, hb⟩ : ∃ b, (bsOf a.places.length T)[i]? = some b := ⟨_, List.getElem?_eq_getElem (by omega)⟩
    obtain ⟨q, h3, h4⟩ := h2 i b p hb h
    exact ⟨b, q, hb, h3, h4⟩
  refine ⟨⟨a.names, ps⟩, bsOf a.places.length T, s2, runF_rt ?_, ⟨ha.nm, ha.n1, ha.n4, by show 1 ≤ ps.length; have := ha.p1; omega, by show ps.length ≤ 10; omega, fun p hp => ?_⟩, ⟨rfl, by show ps.length = _; omega, fun i hi => bs_low hi, hbm, h2⟩, by show ps.length ≤ _; omega, ok2⟩
  · have r1 := range1_ok (n := (a.places.length : Int)) (by omega) (by omega)
    rw [range_nat (by omega)] at r1
    have tn : ((a.places.length : Int)).toNat = a.places.length := by omega
    rw [tn] at r1
    have up : upD (.int (a.places.length : Int)) = some ((List.range a.places.length).map fun k : Nat => D.int (k : Int)) := by
      show (if 0 ≤ (a.places.length : Int) ∧ (a.places.length : Int) ≤ 16777216 then some ((upto (a.places.length : Int)).map D.int) else none) = _
      rw [if_pos ⟨by omega, by omega⟩]
      unfold PD.upto
      rw [tn, List.map_map]
      rfl
    have ai := a_ix1 a (gS s r)
    have ai0 := a_ix0 a (gS s2 r)
    have ln : lenD [.tup (a.places.map Place.d)] = some (.int (a.places.length : Int)) := by
      show some (D.int ((a.places.map Place.d).length : Int)) = _
      rw [List.length_map]
    have tk := fun (x0 x1 x2 : Option LV) (tl : Rho) (g : G) => keys_tw (T := T) (by omega) (twV a.places.length T) x0 x1 x2 tl g
    have eb : (bsOf a.places.length T).map (fun k : Nat => D.int (k : Int)) = (List.range a.places.length).map (fun k : Nat => D.int (k : Int)) ++ T.map (fun k : Nat => D.int (k : Int)) := by unfold bsOf; rw [List.map_append]
    rw [eb] at e2
    have za : ((List.range a.places.length).map (fun k : Nat => D.int (k : Int))).length + (T.map (fun k : Nat => D.int (k : Int))).length ≤ sizeLine := by rw [List.length_map, List.length_map, List.length_range]; omega
    have ad : addD (.lst ((List.range a.places.length).map (fun k : Nat => D.int (k : Int)))) (.lst (T.map (fun k : Nat => D.int (k : Int)))) = some (.lst ((List.range a.places.length).map (fun k : Nat => D.int (k : Int)) ++ T.map (fun k : Nat => D.int (k : Int)))) := if_pos za
    have zr : ((List.range a.places.length).map (fun k : Nat => D.int (k : Int))).length ≤ sizeLine := by omega
    have zt : (T.map (fun k : Nat => D.int (k : Int))).length ≤ sizeLine := by omega
    have it : itemsD (.lst ((List.range a.places.length).map (fun k : Nat => D.int (k : Int)) ++ T.map (fun k : Nat => D.int (k : Int)))) = some ((List.range a.places.length).map (fun k : Nat => D.int (k : Int)) ++ T.map (fun k : Nat => D.int (k : Int))) := rfl
    have tp : tupleD [.lst (ps.map Place.d)] = some (.tup (ps.map Place.d)) := rfl
    have wd : Arena.d ⟨a.names, ps⟩ = .tup [tupS a.names, .tup (ps.map Place.d)] := rfl
    rw [wd]
    have z2 : (2 : Nat) ≤ sizeLine := by omega
    have z0 : (0 : Nat) ≤ sizeLine := by omega
    rw [List.nil_append] at e2
    have d1 : forL (bName 4) tw1 _ [some (.d (.hd 0)), some (.d a.d), some (.d (.int (a.places.length : Int))), some (.ok [] []), none, none, none, none, none, none] (gS s r) = _ := e1
    have d2 : forL (bName 4) tw2 _ [some (.d (.hd 0)), some (.d a.d), some (.d (.int (a.places.length : Int))), some (.ok (twK T) (twV a.places.length T)), o4, some (.ol []), none, none, none, none] (gS s1 r) = _ := e2
    unfold tw1 at d1
    unfold tw2 at d2
    clear e1 e2 h2 pk hbm lt nd ok ok1 ok2 eb
    generalize (List.range a.places.length).map (fun k : Nat => D.int (k : Int)) = RL at *
    generalize T.map (fun k : Nat => D.int (k : Int)) = TL at *
    generalize twK T = TK at *
    generalize twV a.places.length T = TV at *
    generalize (a.places.length : Int) = N at *
    generalize D.tup (a.places.map Place.d) = PL at *
    generalize a.d = AD at *
    generalize tupS a.names = NM at *
    generalize ps.map Place.d = PS at *
    generalize gS s2 r = G2 at *
    generalize gS s1 r = G1 at *
    generalize gS s r = G0 at *
    simp -implicitDefEqProofs [s__law_twinned, slots0, ai, ln, r1, d1, z0, up, tk, -aKeysL_ap, zr, zt, ad, it, d2, tp, ai0, z2]
  · obtain ⟨i, hi, e⟩ := List.getElem_of_mem hp
    obtain ⟨b, q, h3, h4, h5⟩ := pk i p (by rw [List.getElem?_eq_getElem hi, e])
    exact twin_place (ha.pl q (List.mem_of_getElem? h4)) h5 (by show (bsOf a.places.length T).length = ps.length; omega)
end L_k48
end
section
set_option Elab.async false
set_option linter.all false
set_option maxRecDepth 100000
set_option maxHeartbeats 4000000
set_option autoImplicit false
namespace L_k48
/-- the least number that is alike -/
def lst (e : Nat → Nat → Bool) (p : Nat) : Nat := ((List.range p).find? fun o => e o p).getD p
structure Eqv (e : Nat → Nat → Bool) : Prop where
  rf : ∀ p, e p p = true
  sm : ∀ {p q}, e p q = true → e q p = true
  tr : ∀ {p q r}, e p q = true → e q r = true → e p r = true
theorem lst_spec {e : Nat → Nat → Bool} (h : Eqv e) (p : Nat) : lst e p ≤ p ∧ e (lst e p) p = true ∧ ∀ o, e o p = true → lst e p ≤ o := by
  unfold lst
  cases hf : (List.range p).find? fun o => e o p with
  | none =>
    refine ⟨Nat.le_refl _, h.rf p, fun o ho => ?_⟩
    show p ≤ o
    rcases Nat.lt_or_ge o p with hl | hl
    · have := List.find?_eq_none.mp hf o (List.mem_range.mpr hl)
      exact absurd ho this
    · exact hl
  | some i =>
    have hi := List.find?_range_eq_some.mp hf
    have hm := List.mem_range.mp hi.2.1
    refine ⟨Nat.le_of_lt hm, hi.1, fun o ho => ?_⟩
    show i ≤ o
    rcases Nat.lt_or_ge o i with hl | hl
    · have := hi.2.2 o hl
      rw [ho] at this
      cases this
    · exact hl
theorem lst_le {e : Nat → Nat → Bool} (h : Eqv e) (p : Nat) : lst e p ≤ p := (lst_spec h p).1
theorem lst_iff {e : Nat → Nat → Bool} (h : Eqv e) {p q : Nat} : lst e p = lst e q ↔ e p q = true := by
  have hp := lst_spec h p
  have hq := lst_spec h q
  constructor
  · intro z
    have h1 := hp.2.1
    rw [z] at h1
    exact h.tr (h.sm h1) hq.2.1
  · intro z
    exact Nat.le_antisymm (hp.2.2 _ (h.tr hq.2.1 (h.sm z))) (hq.2.2 _ (h.tr hp.2.1 z))
theorem lst_idem {e : Nat → Nat → Bool} (h : Eqv e) (p : Nat) : lst e (lst e p) = lst e p := (lst_iff h).mpr (lst_spec h p).2.1
/-- the code's way: the first of those ahead that are alike has been told already -/
theorem lst_step {e : Nat → Nat → Bool} (h : Eqv e) (p : Nat) : lst e p = (match (List.range p).filter (fun o => e o p) with
    | [] => p
    | s :: _ => lst e s) := by
  have hh : ((List.range p).filter (fun o => e o p)).head? = (List.range p).find? (fun o => e o p) := List.head?_filter
  cases hf : (List.range p).filter (fun o => e o p) with
  | nil =>
    rw [hf] at hh
    unfold lst
    rw [← hh]
    rfl
  | cons s t =>
    rw [hf] at hh
    have e1 : lst e p = s := by
      unfold lst
      rw [← hh]
      rfl
    show lst e p = lst e s
    have := lst_idem h p
    rw [e1] at this
    rw [e1, this]
/-- for each place the places to which each choice's answers lead -/
abbrev Tab := Nat → List (List Nat)
def CovP (K : Nat → Nat) (A B : List (List Nat)) : Prop := ∀ m ∈ A, ∃ t ∈ B, ∀ x ∈ t, ∃ y ∈ m, K y = K x
def covB (K : Nat → Nat) (A B : List (List Nat)) : Bool := A.all fun m => B.any fun t => t.all fun x => m.any fun y => decide (K y = K x)
theorem covB_iff {K : Nat → Nat} {A B : List (List Nat)} : covB K A B = true ↔ CovP K A B := by
  unfold covB CovP
  simp only [List.all_eq_true, List.any_eq_true, decide_eq_true_eq]
theorem cov_rf (K : Nat → Nat) (A : List (List Nat)) : CovP K A A := fun m hm => ⟨m, hm, fun x hx => ⟨x, hx, rfl⟩⟩
theorem cov_tr {K : Nat → Nat} {A B C : List (List Nat)} (h : CovP K A B) (h2 : CovP K B C) : CovP K A C := fun m hm => by
  obtain ⟨t, ht, h3⟩ := h m hm
  obtain ⟨u, hu, h4⟩ := h2 t ht
  refine ⟨u, hu, fun x hx => ?_⟩
  obtain ⟨y, hy, e⟩ := h4 x hx
  obtain ⟨z, hz, e2⟩ := h3 y hy
  exact ⟨z, hz, e2.trans e⟩
def PairP (Ts : List Tab) (K : Nat → Nat) (p q : Nat) : Prop := ∀ T ∈ Ts, CovP K (T p) (T q) ∧ CovP K (T q) (T p)
def pairB (Ts : List Tab) (K : Nat → Nat) (p q : Nat) : Bool := Ts.all fun T => covB K (T p) (T q) && covB K (T q) (T p)
theorem pairB_iff {Ts : List Tab} {K : Nat → Nat} {p q : Nat} : pairB Ts K p q = true ↔ PairP Ts K p q := by
  unfold pairB PairP
  simp only [List.all_eq_true, Bool.and_eq_true, covB_iff]
/-- alike so far, and paired -/
def nxtE (Ts : List Tab) (K : Nat → Nat) (p q : Nat) : Bool := decide (K p = K q) && pairB Ts K p q
theorem nxtE_iff {Ts : List Tab} {K : Nat → Nat} {p q : Nat} : nxtE Ts K p q = true ↔ K p = K q ∧ PairP Ts K p q := by
  unfold nxtE
  rw [Bool.and_eq_true, decide_eq_true_eq, pairB_iff]
theorem nxtE_eqv (Ts : List Tab) (K : Nat → Nat) : Eqv (nxtE Ts K) :=
  ⟨fun p => nxtE_iff.mpr ⟨rfl, fun T _ => ⟨cov_rf K _, cov_rf K _⟩⟩, fun h => by
    have := nxtE_iff.mp h
    exact nxtE_iff.mpr ⟨this.1.symm, fun T hT => ⟨(this.2 T hT).2, (this.2 T hT).1⟩⟩, fun h h2 => by
    have a := nxtE_iff.mp h
    have b := nxtE_iff.mp h2
    exact nxtE_iff.mpr ⟨a.1.trans b.1, fun T hT => ⟨cov_tr (a.2 T hT).1 (b.2 T hT).1, cov_tr (b.2 T hT).2 (a.2 T hT).2⟩⟩⟩
def mkE {α : Type} [DecidableEq α] (mk : Nat → α) (p q : Nat) : Bool := decide (mk p = mk q)
theorem mkE_eqv {α : Type} [DecidableEq α] (mk : Nat → α) : Eqv (mkE mk) :=
  ⟨fun p => decide_eq_true rfl, fun h => decide_eq_true (of_decide_eq_true h).symm, fun h h2 => decide_eq_true ((of_decide_eq_true h).trans (of_decide_eq_true h2))⟩
/-- a relation that pairs only what is alike by marks and step by step -/
structure Bisim {α : Type} (n : Nat) (mk : Nat → α) (Ts : List Tab) (Q : Nat → Nat → Prop) : Prop where
  dom : ∀ {p q}, Q p q → p < n ∧ q < n
  sm : ∀ {p q}, Q p q → Q q p
  mks : ∀ {p q}, Q p q → mk p = mk q
  go : ∀ {p q}, Q p q → ∀ T ∈ Ts, ∀ m ∈ T p, ∃ t ∈ T q, ∀ x ∈ t, ∃ y ∈ m, Q y x
structure Level {α : Type} (n : Nat) (mk : Nat → α) (Ts : List Tab) (K : Nat → Nat) : Prop where
  le : ∀ p, p < n → K p ≤ p
  idem : ∀ p, p < n → K (K p) = K p
  mks : ∀ p q, p < n → q < n → K p = K q → mk p = mk q
  coarse : ∀ Q, Bisim n mk Ts Q → ∀ p q, Q p q → K p = K q
theorem Level.congr {α : Type} {n : Nat} {mk : Nat → α} {Ts : List Tab} {K K2 : Nat → Nat} (h : Level n mk Ts K) (e : ∀ p, p < n → K2 p = K p) : Level n mk Ts K2 := by
  refine ⟨fun p hp => by rw [e p hp]; exact h.le p hp, fun p hp => ?_, fun p q hp hq z => h.mks p q hp hq (by rw [← e p hp, ← e q hq]; exact z), fun Q hQ p q z => ?_⟩
  · rw [e p hp, e _ (Nat.lt_of_le_of_lt (h.le p hp) hp)]
    exact h.idem p hp
  · rw [e p (hQ.dom z).1, e q (hQ.dom z).2]
    exact h.coarse Q hQ p q z
theorem level_first {α : Type} [DecidableEq α] (n : Nat) (mk : Nat → α) (Ts : List Tab) : Level n mk Ts (lst (mkE mk)) :=
  ⟨fun p _ => lst_le (mkE_eqv mk) p, fun p _ => lst_idem (mkE_eqv mk) p, fun p q _ _ z => of_decide_eq_true ((lst_iff (mkE_eqv mk)).mp z), fun Q hQ p q z => (lst_iff (mkE_eqv mk)).mpr (decide_eq_true (hQ.mks z))⟩
theorem level_next {α : Type} {n : Nat} {mk : Nat → α} {Ts : List Tab} {K : Nat → Nat} (h : Level n mk Ts K) : Level n mk Ts (lst (nxtE Ts K)) := by
  have ev := nxtE_eqv Ts K
  refine ⟨fun p _ => lst_le ev p, fun p _ => lst_idem ev p, fun p q hp hq z => h.mks p q hp hq (nxtE_iff.mp ((lst_iff ev).mp z)).1, fun Q hQ p q z => (lst_iff ev).mpr (nxtE_iff.mpr ⟨h.coarse Q hQ p q z, fun T hT => ⟨fun m hm => ?_, fun m hm => ?_⟩⟩)⟩
  · obtain ⟨t, ht, h2⟩ := hQ.go z T hT m hm
    refine ⟨t, ht, fun x hx => ?_⟩
    obtain ⟨y, hy, h3⟩ := h2 x hx
    exact ⟨y, hy, h.coarse Q hQ _ _ h3⟩
  · obtain ⟨t, ht, h2⟩ := hQ.go (hQ.sm z) T hT m hm
    refine ⟨t, ht, fun x hx => ?_⟩
    obtain ⟨y, hy, h3⟩ := h2 x hx
    exact ⟨y, hy, h.coarse Q hQ _ _ h3⟩
theorem next_ge {α : Type} {n : Nat} {mk : Nat → α} {Ts : List Tab} {K : Nat → Nat} (h : Level n mk Ts K) {p : Nat} (hp : p < n) : K p ≤ lst (nxtE Ts K) p := by
  have sp := lst_spec (nxtE_eqv Ts K) p
  have h2 := (nxtE_iff.mp sp.2.1).1
  have := h.le _ (Nat.lt_of_le_of_lt sp.1 hp)
  omega
/-- the last level -/
structure Final {α : Type} (n : Nat) (mk : Nat → α) (Ts : List Tab) (K : Nat → Nat) : Prop extends Level n mk Ts K where
  stable : ∀ p q, p < n → q < n → K p = K q → PairP Ts K p q
theorem final_of {α : Type} {n : Nat} {mk : Nat → α} {Ts : List Tab} {K : Nat → Nat} (h : Level n mk Ts K) (e : ∀ p, p < n → lst (nxtE Ts K) p = K p) : Final n mk Ts K :=
  ⟨h, fun p q hp hq z => (nxtE_iff.mp ((lst_iff (nxtE_eqv Ts K)).mp ((e p hp).trans (z.trans (e q hq).symm)))).2⟩
def TabsIn (n : Nat) (Ts : List Tab) : Prop := ∀ T ∈ Ts, ∀ p, p < n → ∀ m ∈ T p, ∀ x ∈ m, x < n
theorem Final.bisim {α : Type} {n : Nat} {mk : Nat → α} {Ts Us : List Tab} {K : Nat → Nat} (h : Final n mk Ts K) (hn : TabsIn n Us) (hs : ∀ T ∈ Us, T ∈ Ts) : Bisim n mk Us (fun p q => p < n ∧ q < n ∧ K p = K q) := by
  refine ⟨fun z => ⟨z.1, z.2.1⟩, fun z => ⟨z.2.1, z.1, z.2.2.symm⟩, fun z => h.mks _ _ z.1 z.2.1 z.2.2, fun {p q} z T hT m hm => ?_⟩
  obtain ⟨t, ht, h2⟩ := (h.stable p q z.1 z.2.1 z.2.2 T (hs T hT)).1 m hm
  refine ⟨t, ht, fun x hx => ?_⟩
  obtain ⟨y, hy, e⟩ := h2 x hx
  exact ⟨y, hy, hn T hT p z.1 m hm y hy, hn T hT q z.2.1 t ht x hx, e⟩
/-- by more tables finer -/
theorem final_fine {α : Type} {n : Nat} {mk : Nat → α} {Ts Us : List Tab} {K L : Nat → Nat} (h : Final n mk Ts K) (h2 : Final n mk Us L) (hn : TabsIn n Us) (hs : ∀ T ∈ Us, T ∈ Ts) {p q : Nat} (hp : p < n) (hq : q < n) (e : K p = K q) : L p = L q :=
  h2.coarse _ (h.bisim hn hs) p q ⟨hp, hq, e⟩
theorem final_same {α : Type} {n : Nat} {mk : Nat → α} {Ts Us : List Tab} {K L : Nat → Nat} (h : Final n mk Ts K) (h2 : Final n mk Us L) (hn : TabsIn n Ts) (hm : TabsIn n Us) (hs : ∀ T, T ∈ Us ↔ T ∈ Ts) {p : Nat} (hp : p < n) : K p = L p := by
  have a : K p ≤ p := h.le p hp
  have b : L p ≤ p := h2.le p hp
  have a2 : L (K p) = L p := final_fine h h2 hm (fun T hT => (hs T).mp hT) (by omega) hp (h.idem p hp)
  have b2 : K (L p) = K p := final_fine h2 h hn (fun T hT => (hs T).mpr hT) (by omega) hp (h2.idem p hp)
  have a3 := h2.le (K p) (by omega)
  have b3 := h.le (L p) (by omega)
  omega
end L_k48
end
section
set_option Elab.async false
set_option linter.all false
set_option maxRecDepth 100000
set_option maxHeartbeats 4000000
set_option autoImplicit false
namespace L_k48
open PySem PD
/-! ### groups -/
theorem team_lc {x : D} {r : G} : ∀ (ds : List Str) {s : Ds} {b : Nat}, Ok s (b + ds.length) → ∃ (xs : List Str) (s' : Ds),
    lcL (bName 2) (tCmp eqD (eCall F__law_draw (aCons (eVar 0) (aCons (eC (.int 2)) aNil))) (eC (.int 0))) (eVar 2) [some (.d (.hd 0)), some (.d x), none] (ds.map .str) (gS s r) = some (xs.map .str, gS s' r) ∧ xs.Sublist ds ∧ Ok s' b
  | [], s, b, ok => ⟨[], s, rfl, List.Sublist.refl _, ok⟩
  | d :: ds, s, b, ok => by
    obtain ⟨y, s1, e1, x0, x1, ok1⟩ := draw_ok (s := s) (b := b + ds.length) (by simpa [Nat.add_assoc] using ok) (m := 2) (by omega) (by omega) r
    obtain ⟨xs, s2, e2, sb, ok2⟩ := team_lc (x := x) (r := r) ds ok1
    have q : eqD (.int y) (.int 0) = some (decide (y = 0)) := eqD_int y 0
    rw [List.map_cons, lcL_cons]
    generalize ds.map D.str = DS at *
    by_cases h0 : y = 0
    · rw [decide_eq_true h0] at q
      refine ⟨d :: xs, s2, ?_, sb.cons₂ d, ok2⟩
      rw [List.map_cons]
      generalize xs.map D.str = XS at *
      generalize gS s2 r = G2 at *
      generalize gS s1 r = G1 at *
      generalize gS s r = G0 at *
      simp -implicitDefEqProofs [bName, setR, e1, q, e2]
    · rw [decide_eq_false h0] at q
      refine ⟨xs, s2, ?_, sb.cons d, ok2⟩
      generalize xs.map D.str = XS at *
      generalize gS s2 r = G2 at *
      generalize gS s1 r = G1 at *
      generalize gS s r = G0 at *
      simp -implicitDefEqProofs [bName, setR, e1, q, e2]
theorem team_ok {a : Arena} (ha : ArenaOk a) {r : G} {s : Ds} {c : Nat} (ok : Ok s (c + 4)) : ∃ (gr : List Str) (s' : Ds), F__law_team [.hd 0, a.d] (gS s r) = some (tupS gr, gS s' r) ∧ GroupOk a gr ∧ Ok s' c := by
  have sz := sizeLine_eq
  have h4 := ha.n4
  obtain ⟨xs, s1, e1, sb, ok1⟩ := team_lc (x := a.d) (r := r) a.names (ok.mono (b := c + a.names.length) (by omega))
  refine ⟨xs, s1, runF_rt ?_, ⟨ha.nm.sub sb, fun x hx => sb.subset hx⟩, ok1⟩
  have ai := a_ix0 a (gS s r)
  have it : itemsD (tupS a.names) = some (a.names.map .str) := rfl
  have tp : tupleD [.lst (xs.map D.str)] = some (tupS xs) := rfl
  have z1 : (xs.map D.str).length ≤ sizeLine := by rw [List.length_map]; have := sb.length_le; omega
  generalize a.names.map D.str = AN at *
  generalize tupS a.names = TA at *
  generalize tupS xs = TX at *
  generalize xs.map D.str = XS at *
  generalize a.d = AD at *
  generalize gS s1 r = G1 at *
  generalize gS s r = G0 at *
  simp -implicitDefEqProofs [s__law_team, slots0, ai, it, e1, tp, z1]
theorem needGroups_ok {a : Arena} (ha : ArenaOk a) {ts : List (List Str)} (h1 : 1 ≤ ts.length) (h6 : ts.length ≤ 6) (hg : ∀ t ∈ ts, GroupOk a t) (g : G) : F_need_groups [a.d, .tup (ts.map tupS)] g = some (.non, g) := by
  have sz := sizeLine_eq
  refine runF_nx (ρ := [some (.d a.d), some (.d (.tup (ts.map tupS))), none]) ?_
  have na := needArena_ok ha g
  have ln : lenD [.tup (ts.map tupS)] = some (.int (ts.length : Int)) := by
    show some (D.int ((ts.map tupS).length : Int)) = _
    rw [List.length_map]
  have c1 : leD (.int 1) (.int (ts.length : Int)) = some true := by
    have : decide ((1 : Int) ≤ ts.length) = true := decide_eq_true (by omega)
    simp [this]
  have c2 : leD (.int (ts.length : Int)) (.int 6) = some true := by
    have : decide ((ts.length : Int) ≤ 6) = true := decide_eq_true (by omega)
    simp [this]
  have it : itemsD (.tup (ts.map tupS)) = some (ts.map tupS) := rfl
  have e1 : lcL (bName 2) tYesD (eCall F_is_group (aCons (eVar 0) (aCons (eVar 2) aNil))) [some (.d a.d), some (.d (.tup (ts.map tupS))), none] (ts.map tupS) g = some (ts.map (fun _ => D.bl true), g) := by
    refine lcL_on fun t ht => ⟨_, rfl, ?_⟩
    have := isGroup_ok ha (hg t ht) g
    generalize D.tup (ts.map tupS) = TT at *
    generalize a.d = AD at *
    generalize tupS t = T1 at *
    simp -implicitDefEqProofs [setR, this]
  have al : allD [.lst (ts.map (fun _ => D.bl true))] = some (.bl true) := by
    have := all_yes ts
    rw [List.map_map] at this
    exact this
  have zz : (ts.map (fun _ => D.bl true)).length ≤ sizeLine := by rw [List.length_map]; omega
  generalize ts.map (fun _ => D.bl true) = BT at *
  generalize (ts.length : Int) = N at *
  generalize ts.map tupS = TS at *
  generalize a.d = AD at *
  have is : isiD .tup (.tup TS) = some true := rfl
  simp -implicitDefEqProofs [s_need_groups, slots0, na, ln, c1, c2, e1, al, zz, is]
/-! ### the tables of the groups -/
theorem range_map {α β : Type} (l : List α) (f : α → β) (d : β) : (List.range l.length).map (fun k => (l[k]?).elim d f) = l.map f := by
  refine List.ext_getElem? fun i => ?_
  rw [List.getElem?_map, List.getElem?_map]
  rcases Nat.lt_or_ge i l.length with h | h
  · rw [List.getElem?_range h, Option.map_some, List.getElem?_eq_getElem h]
    rfl
  · rw [List.getElem?_eq_none (by rw [List.length_range]; exact h), List.getElem?_eq_none h]
    rfl
def rowsAt (a : Arena) (gr : List Str) (p : Place) : D := .lst ((choices a p gr).map (outD a p gr))
def tabD (a : Arena) (gr : List Str) : D := .lst (a.places.map (rowsAt a gr))
theorem tables_ok {a : Arena} (ha : ArenaOk a) {ts : List (List Str)} (h6 : ts.length ≤ 7) (hg : ∀ t ∈ ts, GroupOk a t) (g : G) : F_tables_of [a.d, .tup (ts.map tupS)] g = some (.lst (ts.map (tabD a)), g) := by
  have sz := sizeLine_eq
  have hp10 := ha.p10
  have ln : lenD [.tup (a.places.map Place.d)] = some (.int (a.places.length : Int)) := by
    show some (D.int ((a.places.map Place.d).length : Int)) = _
    rw [List.length_map]
  have r1 := range1_ok (n := (a.places.length : Int)) (by omega) (by omega)
  rw [range_nat (by omega)] at r1
  have tn : ((a.places.length : Int)).toNat = a.places.length := by omega
  rw [tn] at r1
  have ai := a_ix1 a g
  have it : itemsD (.tup (ts.map tupS)) = some (ts.map tupS) := rfl
  have e1 : lcL (bName 2) tYesD (eO (eLcA [3] (aIt range1M (aCons (eBi lenD (aCons (eIx (eVar 0) (eC (.int 1))) aNil)) aNil)) (bName 3) tYesD (eCall F_outcomes (aCons (eVar 0) (aCons (eVar 2) (aCons (eVar 3) aNil)))))) [some (.d a.d), some (.d (.tup (ts.map tupS))), none, none] (ts.map tupS) g = some (ts.map (tabD a), g) := by
    refine lcL_on fun t ht => ⟨_, rfl, ?_⟩
    have e2 : lcL (bName 3) tYesD (eCall F_outcomes (aCons (eVar 0) (aCons (eVar 2) (aCons (eVar 3) aNil)))) [some (.d a.d), some (.d (.tup (ts.map tupS))), some (.d (tupS t)), none] ((List.range a.places.length).map fun k : Nat => D.int (k : Int)) g = some ((List.range a.places.length).map (fun k => (a.places[k]?).elim .non (rowsAt a t)), g) := by
      refine lcL_on fun k hk => ⟨_, rfl, ?_⟩
      have hk := List.mem_range.mp hk
      have hp : a.places[k]? = some a.places[k] := List.getElem?_eq_getElem hk
      have oo := outcomes_ok ha (hg t ht) hp g
      rw [hp]
      show _ = some (rowsAt a t a.places[k], g)
      have ro : rowsAt a t a.places[k] = .lst ((choices a a.places[k] t).map (outD a a.places[k] t)) := rfl
      rw [ro]
      generalize D.tup (ts.map tupS) = TT at *
      generalize a.d = AD at *
      generalize tupS t = T1 at *
      generalize D.lst ((choices a a.places[k] t).map (outD a a.places[k] t)) = OL at *
      generalize (k : Int) = K at *
      simp -implicitDefEqProofs [setR, oo]
    rw [range_map] at e2
    have z1 : (a.places.map (rowsAt a t)).length ≤ sizeLine := by rw [List.length_map]; omega
    have td : tabD a t = .lst (a.places.map (rowsAt a t)) := rfl
    rw [td]
    clear td
    generalize a.places.map (rowsAt a t) = OL at *
    generalize D.tup (ts.map tupS) = TT at *
    generalize D.tup (a.places.map Place.d) = PL at *
    generalize (List.range a.places.length).map (fun k : Nat => D.int (k : Int)) = RL at *
    generalize (a.places.length : Int) = N at *
    generalize a.d = AD at *
    generalize tupS t = T1 at *
    simp -implicitDefEqProofs [setR, ai, ln, r1, e2, z1]
  have zz : (ts.map (tabD a)).length ≤ sizeLine := by rw [List.length_map]; omega
  refine runF_rt ?_
  generalize ts.map (tabD a) = TD at *
  generalize D.tup (ts.map tupS) = TT at *
  generalize ts.map tupS = TS at *
  generalize a.d = AD at *
  simp -implicitDefEqProofs [s_tables_of, slots0, it, e1, zz]
/-! ### kinds by marks -/
theorem indexL_some {y : D} : ∀ {l : List D} {j : Nat} {z : D}, l[j]? = some z → eqq z y = true → ∃ i, indexL y l = some i
  | [], j, z, h, _ => by simp at h
  | x :: l, j, z, h, e => by
    unfold indexL
    by_cases q : eqq x y = true
    · exact ⟨0, if_pos q⟩
    · rw [if_neg q]
      cases j with
      | zero =>
        have : x = z := by simpa using h
        subst this
        exact absurd e q
      | succ j =>
        obtain ⟨i, hi⟩ := indexL_some (l := l) (j := j) (by simpa using h) e
        exact ⟨i + 1, by rw [hi]; rfl⟩
def mkOf (a : Arena) (i : Nat) : Option (List Str) := (a.places[i]?).map (·.marks)
theorem kdM : Kd (fun m : List Str => tupS m) 1 := kdS.tup
theorem eqq_tupS (x y : List Str) : eqq (tupS x) (tupS y) = decide (x = y) := by
  show eqq (.tup (x.map .str)) (.tup (y.map .str)) = _
  rw [eqq_tup, eqqA_map eqq_str]
theorem index_marks {a : Arena} {k : Nat} (hk : k < a.places.length) : indexD (.lst (a.places.map fun p => tupS p.marks)) (tupS (a.places[k].marks)) = some (.int (lst (mkE (mkOf a)) k : Int)) := by
  have ev := mkE_eqv (mkOf a)
  have sp := lst_spec ev k
  have c1 : cmpOk (.lst (a.places.map fun p => tupS p.marks)) = true := by
    have := kdM.lst.ok (by omega) (a.places.map (·.marks))
    rw [List.map_map] at this
    exact this
  have c2 : cmpOk (tupS (a.places[k].marks)) = true := kdM.ok (by omega) _
  have hk2 : (a.places.map fun p => tupS p.marks)[k]? = some (tupS (a.places[k].marks)) := by rw [List.getElem?_map, List.getElem?_eq_getElem hk]; rfl
  obtain ⟨i, hi⟩ := indexL_some (y := tupS (a.places[k].marks)) hk2 (by rw [eqq_tupS]; exact decide_eq_true rfl)
  obtain ⟨⟨z, h1, h2⟩, h3⟩ := indexL_ok hi
  rw [List.getElem?_map] at h1
  obtain ⟨q, h4, rfl⟩ := Option.map_eq_some_iff.mp h1
  rw [eqq_tupS] at h2
  have h2 := of_decide_eq_true h2
  have mk : mkOf a k = some (a.places[k].marks) := by unfold mkOf; rw [List.getElem?_eq_getElem hk]; rfl
  have le1 : lst (mkE (mkOf a)) k ≤ i := sp.2.2 i (decide_eq_true (by rw [mk]; unfold mkOf; rw [h4, ← h2]; rfl))
  have le2 : i ≤ lst (mkE (mkOf a)) k := by
    rcases Nat.lt_or_ge (lst (mkE (mkOf a)) k) i with h | h
    · exfalso
      have hl : lst (mkE (mkOf a)) k < a.places.length := Nat.lt_of_le_of_lt sp.1 hk
      have h5 := h3 _ _ h (by rw [List.getElem?_map, List.getElem?_eq_getElem hl]; rfl)
      rw [eqq_tupS] at h5
      have h6 := of_decide_eq_true sp.2.1
      rw [mk] at h6
      have h6 : (a.places[lst (mkE (mkOf a)) k]?).map (·.marks) = some (a.places[k].marks) := h6
      rw [List.getElem?_eq_getElem hl] at h6
      have h7 : a.places[lst (mkE (mkOf a)) k].marks = a.places[k].marks := Option.some.inj h6
      rw [h7, decide_eq_true rfl] at h5
      cases h5
    · exact h
  have ei : i = lst (mkE (mkOf a)) k := by omega
  show (if (cmpOk (.lst (a.places.map fun p => tupS p.marks)) && cmpOk (tupS (a.places[k].marks))) = true then (indexL (tupS (a.places[k].marks)) (a.places.map fun p => tupS p.marks)).map (fun n => D.int (Int.ofNat n)) else none) = _
  rw [c1, c2, hi, ei]
  rfl
def kD (n : Nat) (K : Nat → Nat) : D := .lst ((List.range n).map fun i : Nat => .int (K i : Int))
theorem marks_ok {a : Arena} (ha : ArenaOk a) (g : G) : F_kinds_by_marks [a.d] g = some (kD a.places.length (lst (mkE (mkOf a))), g) := by
  have sz := sizeLine_eq
  have hp10 := ha.p10
  have ai := a_ix1 a g
  have it : itemsD (.tup (a.places.map Place.d)) = some (a.places.map Place.d) := rfl
  have e1 : lcL (bName 2) tYesD (eIx (eVar 2) (eC (.int 0))) [some (.d a.d), none, none, none] (a.places.map Place.d) g = some (a.places.map (fun p => tupS p.marks), g) := by
    refine lcL_on fun p hp => ⟨_, rfl, ?_⟩
    have pi : ixD g p.d (.int 0) = some (tupS p.marks) := rfl
    generalize p.d = PD at *
    generalize tupS p.marks = PM at *
    simp -implicitDefEqProofs [setR, pi]
  have it2 : itemsD (.lst (a.places.map (fun p => tupS p.marks))) = some (a.places.map (fun p => tupS p.marks)) := rfl
  have e2 : lcL (bName 3) tYesD (eIndex (eVar 1) (eVar 3)) [some (.d a.d), some (.d (.lst (a.places.map (fun p => tupS p.marks)))), none, none] (a.places.map (fun p => tupS p.marks)) g = some ((List.range a.places.length).map (fun i : Nat => .int (lst (mkE (mkOf a)) i : Int)), g) := by
    have er : a.places.map (fun p => tupS p.marks) = (List.range a.places.length).map (fun k => (a.places[k]?).elim .non fun p => tupS p.marks) := (range_map _ _ _).symm
    have e3 : lcL (bName 3) tYesD (eIndex (eVar 1) (eVar 3)) [some (.d a.d), some (.d (.lst (a.places.map (fun p => tupS p.marks)))), none, none] ((List.range a.places.length).map (fun k => (a.places[k]?).elim .non fun p => tupS p.marks)) g = some ((List.range a.places.length).map (fun i : Nat => .int (lst (mkE (mkOf a)) i : Int)), g) := by
      refine lcL_on fun k hk => ⟨_, rfl, ?_⟩
      have hk := List.mem_range.mp hk
      have ix := index_marks hk
      have hp : a.places[k]? = some a.places[k] := List.getElem?_eq_getElem hk
      rw [hp]
      show eIndex _ _ (setR _ 3 (tupS a.places[k].marks)) g = _
      generalize D.lst (a.places.map (fun p => tupS p.marks)) = ML at *
      generalize tupS a.places[k].marks = MK at *
      generalize (lst (mkE (mkOf a)) k : Int) = J at *
      simp -implicitDefEqProofs [setR, ix]
    rw [← er] at e3
    exact e3
  have z1 : (a.places.map (fun p => tupS p.marks)).length ≤ sizeLine := by rw [List.length_map]; omega
  have z2 : ((List.range a.places.length).map (fun i : Nat => D.int (lst (mkE (mkOf a)) i : Int))).length ≤ sizeLine := by rw [List.length_map, List.length_range]; omega
  refine runF_rt ?_
  unfold kD
  generalize (List.range a.places.length).map (fun i : Nat => D.int (lst (mkE (mkOf a)) i : Int)) = KL at *
  generalize a.places.map (fun p => tupS p.marks) = ML at *
  generalize a.places.map Place.d = PL at *
  generalize a.d = AD at *
  simp -implicitDefEqProofs [s_kinds_by_marks, slots0, ai, it, e1, it2, e2, z1, z2, setR]
end L_k48
end
section
set_option Elab.async false
set_option linter.all false
set_option maxRecDepth 100000
set_option maxHeartbeats 4000000
set_option autoImplicit false
namespace L_k48
open PySem PD
/-! ### dicts of kinds -/
def ddk : List Int → List Int → List Int
  | A, [] => A
  | A, k :: ks => ddk (if k ∈ A then A else A ++ [k]) ks
theorem ddk_mem {x : Int} : ∀ {ks A : List Int}, x ∈ ddk A ks ↔ x ∈ A ∨ x ∈ ks
  | [], A => by simp [ddk]
  | k :: ks, A => by
    unfold ddk
    rw [ddk_mem (ks := ks)]
    by_cases h : k ∈ A
    · rw [if_pos h, List.mem_cons]
      constructor
      · rintro (q | q)
        · exact .inl q
        · exact .inr (.inr q)
      · rintro (q | rfl | q)
        · exact .inl q
        · exact .inl h
        · exact .inr q
    · rw [if_neg h, List.mem_append, List.mem_singleton, List.mem_cons, or_assoc]
theorem ddk_len : ∀ (ks A : List Int), (ddk A ks).length ≤ A.length + ks.length
  | [], A => by simp [ddk]
  | k :: ks, A => by
    unfold ddk
    have := ddk_len ks (if k ∈ A then A else A ++ [k])
    have h2 : (if k ∈ A then A else A ++ [k]).length ≤ A.length + 1 := by split <;> simp
    rw [List.length_cons]
    omega
def trD (A : List Int) : List D := A.map fun _ => D.bl true
def inK (A : List Int) : List L2.Key := A.map Sum.inl
theorem put_tr (k : Int) : ∀ A : List Int, putD (inK A) (trD A) (.inl k) (.bl true) = (inK (if k ∈ A then A else A ++ [k]), trD (if k ∈ A then A else A ++ [k]))
  | [] => by simp [inK, trD, putD]
  | a :: A => by
    show (if (.inl a : L2.Key) = .inl k then ((.inl a : L2.Key) :: inK A, D.bl true :: trD A) else (.inl a :: (putD (inK A) (trD A) (.inl k) (.bl true)).1, D.bl true :: (putD (inK A) (trD A) (.inl k) (.bl true)).2)) = _
    by_cases h : a = k
    · subst h
      rw [if_pos rfl, if_pos List.mem_cons_self]
      rfl
    · rw [if_neg (fun q => h (Sum.inl.inj q)), put_tr k A]
      by_cases h2 : k ∈ A
      · rw [if_pos h2, if_pos (List.mem_cons_of_mem _ h2)]
        rfl
      · rw [if_neg h2, if_neg (fun q => (List.mem_cons.mp q).elim (fun e => h e.symm) h2)]
        rfl
theorem dcL_dd {β : Type} {f : β → D} {kx : β → Int} {ρ : Rho} {g : G} {k v : E} {bd : B} : ∀ (l : List β) (A : List Int), A.length + l.length < 1000 → (∀ x ∈ l, ∃ ρ', bd (f x) ρ = some ρ' ∧ k ρ' g = some (.int (kx x), g) ∧ v ρ' g = some (.bl true, g)) →
    dcL bd tYesD k v ρ (inK A, trD A) (l.map f) g = some ((inK (ddk A (l.map kx)), trD (ddk A (l.map kx))), g)
  | [], A, _, _ => rfl
  | x :: l, A, hz, h => by
    obtain ⟨ρ', h1, h3, h4⟩ := h x List.mem_cons_self
    have ih := dcL_dd l (if kx x ∈ A then A else A ++ [kx x]) (by
      have h2 : (if kx x ∈ A then A else A ++ [kx x]).length ≤ A.length + 1 := by split <;> simp
      rw [List.length_cons] at hz
      omega) fun y hy => h y (List.mem_cons_of_mem _ hy)
    have sz : (inK A).length < sizeLine := by unfold inK; rw [sizeLine_eq, List.length_map]; omega
    rw [List.map_cons, List.map_cons]
    conv => lhs; unfold dcL
    have t1 : tYesD ρ' g = some (true, g) := rfl
    simp only [h1, mb_ap, t1, Option.bind_some, ite_ap, if_true, h3, h4, keyD, sz, put_tr]
    exact ih
def ddD (ks : List Int) : D := .dk (inK (ddk [] ks)) (trD (ddk [] ks))
theorem in_ddD (x : Int) (ks : List Int) : inD (.int x) (ddD ks) = some (decide (x ∈ ks)) := by
  show some ((inK (ddk [] ks)).any fun k' => decide (k' = (.inl x : L2.Key))) = _
  congr 1
  rw [Bool.eq_iff_iff, decide_eq_true_eq, List.any_eq_true]
  constructor
  · rintro ⟨k', h1, h2⟩
    obtain ⟨y, hy, rfl⟩ := List.mem_map.mp h1
    have := Sum.inl.inj (of_decide_eq_true h2)
    subst this
    exact (ddk_mem.mp hy).elim (fun q => by simp at q) id
  · intro h
    exact ⟨.inl x, List.mem_map.mpr ⟨x, ddk_mem.mpr (.inr h), rfl⟩, decide_eq_true rfl⟩
theorem keysI_inK : ∀ A : List Int, keysI (inK A) = some (A.map .int)
  | [] => rfl
  | x :: A => by
    show (keysI (inK A)).map (D.int x :: ·) = _
    rw [keysI_inK A]
    rfl
/-! ### where choices lead -/
def tabN (a : Arena) (gr : List Str) : Tab := fun i => (a.places[i]?).elim [] fun p => (choices a p gr).map fun c => (choices a p (restOf a gr)).map fun u => (outZ a p gr c u).toNat
theorem out_in {a : Arena} (ha : ArenaOk a) {gr : List Str} {pl : Nat} {p : Place} (hp : a.places[pl]? = some p) {c u : List Int} (hc : c ∈ choices a p gr) (hu : u ∈ choices a p (restOf a gr)) : 0 ≤ outZ a p gr c u ∧ outZ a p gr c u < a.places.length := by
  have hm := List.mem_of_getElem? hp
  have := next_at (ha.pl p hm) (fits_fit.mpr (joint_fit ha hm hc hu))
  exact ⟨this.2.1, this.2.2⟩
theorem tabN_in {a : Arena} (ha : ArenaOk a) (gr : List Str) : ∀ p, p < a.places.length → ∀ m ∈ tabN a gr p, ∀ x ∈ m, x < a.places.length := fun pl hp m hm x hx => by
  have h1 : a.places[pl]? = some a.places[pl] := List.getElem?_eq_getElem hp
  unfold tabN at hm
  rw [h1] at hm
  obtain ⟨c, hc, rfl⟩ := List.mem_map.mp hm
  obtain ⟨u, hu, rfl⟩ := List.mem_map.mp hx
  have := out_in ha h1 hc hu
  omega
theorem ix_kD {n : Nat} (K : Nat → Nat) {z : Int} (h0 : 0 ≤ z) (h1 : z < n) (g : G) : ixD g (kD n K) (.int z) = some (.int (K z.toNat : Int)) := by
  show L2.atI ((List.range n).map fun i : Nat => D.int (K i : Int)) z = _
  rw [atI_of h0 (by rw [List.length_map, List.length_range]; exact h1), List.getElem?_map, List.getElem?_range (by omega)]
  rfl
def kx (K : Nat → Nat) (m : List Nat) : List Int := m.map fun x => (K x : Int)
def fD (K : Nat → Nat) (m : List Nat) : D := ddD (kx K m)
theorem led_ok {a : Arena} (ha : ArenaOk a) {gr : List Str} {K : Nat → Nat} {pl : Nat} (hp : pl < a.places.length) (g : G) :
    F_kinds_led_to [tabD a gr, .int (pl : Int), kD a.places.length K] g = some (.lst ((tabN a gr pl).map (fD K)), g) := by
  have sz := sizeLine_eq
  have hp10 := ha.p10
  have h1 : a.places[pl]? = some a.places[pl] := List.getElem?_eq_getElem hp
  have hm := List.mem_of_getElem? h1
  have ix : ixD g (tabD a gr) (.int (pl : Int)) = some (rowsAt a gr a.places[pl]) := by
    show L2.atI (a.places.map (rowsAt a gr)) (pl : Int) = _
    rw [atI_of (by omega) (by rw [List.length_map]; omega), List.getElem?_map]
    have : ((pl : Int)).toNat = pl := by omega
    rw [this, h1]
    rfl
  have it : itemsD (rowsAt a gr a.places[pl]) = some ((choices a a.places[pl] gr).map (outD a a.places[pl] gr)) := rfl
  have et : (tabN a gr pl).map (fD K) = (choices a a.places[pl] gr).map fun c => fD K ((choices a a.places[pl] (restOf a gr)).map fun u => (outZ a a.places[pl] gr c u).toNat) := by
    unfold tabN
    rw [h1]
    show ((choices a a.places[pl] gr).map _).map (fD K) = _
    rw [List.map_map]
    rfl
  have e1 : lcL (bTup (bsCons (bName 3) (bsCons (bName 4) bsNil))) tYesD (eKd (eDcA [5, 6] (aItem (eVar 4)) (bTup (bsCons (bName 5) (bsCons (bName 6) bsNil))) tYesD (eIx (eVar 2) (eVar 6)) (eC (.bl true)))) [some (.d (tabD a gr)), some (.d (.int (pl : Int))), some (.d (kD a.places.length K)), none, none, none, none] ((choices a a.places[pl] gr).map (outD a a.places[pl] gr)) g
      = some ((choices a a.places[pl] gr).map (fun c => fD K ((choices a a.places[pl] (restOf a gr)).map fun u => (outZ a a.places[pl] gr c u).toNat)), g) := by
    refine lcL_on fun c hc => ⟨[some (.d (tabD a gr)), some (.d (.int (pl : Int))), some (.d (kD a.places.length K)), some (.d (tupI c)), some (.d (rowD a a.places[pl] gr c)), none, none], rfl, ?_⟩
    have l81 : (choices a a.places[pl] (restOf a gr)).length ≤ 81 := choices_len ha hm
    have e2 := dcL_dd (f := fun u => D.tup [tupI u, .int (outZ a a.places[pl] gr c u)]) (kx := fun u => (K (outZ a a.places[pl] gr c u).toNat : Int)) (ρ := [some (.d (tabD a gr)), some (.d (.int (pl : Int))), some (.d (kD a.places.length K)), some (.d (tupI c)), some (.d (rowD a a.places[pl] gr c)), none, none]) (g := g) (k := eIx (eVar 2) (eVar 6)) (v := eC (.bl true)) (bd := bTup (bsCons (bName 5) (bsCons (bName 6) bsNil)))
      (choices a a.places[pl] (restOf a gr)) [] (by simp; omega) fun u hu => ⟨[some (.d (tabD a gr)), some (.d (.int (pl : Int))), some (.d (kD a.places.length K)), some (.d (tupI c)), some (.d (rowD a a.places[pl] gr c)), some (.d (tupI u)), some (.d (.int (outZ a a.places[pl] gr c u)))], rfl, by
        have oi := out_in ha h1 hc hu
        have xk := ix_kD K oi.1 oi.2 g
        generalize kD a.places.length K = KD at *
        generalize outZ a a.places[pl] gr c u = Z at *
        generalize (K Z.toNat : Int) = KZ at *
        simp -implicitDefEqProofs [xk], rfl⟩
    have it2 : itemsD (rowD a a.places[pl] gr c) = some ((choices a a.places[pl] (restOf a gr)).map fun u => D.tup [tupI u, .int (outZ a a.places[pl] gr c u)]) := rfl
    have fd : fD K ((choices a a.places[pl] (restOf a gr)).map fun u => (outZ a a.places[pl] gr c u).toNat) = .dk (inK (ddk [] ((choices a a.places[pl] (restOf a gr)).map fun u => (K (outZ a a.places[pl] gr c u).toNat : Int)))) (trD (ddk [] ((choices a a.places[pl] (restOf a gr)).map fun u => (K (outZ a a.places[pl] gr c u).toNat : Int)))) := by
      unfold fD ddD kx
      rw [List.map_map]
      rfl
    rw [fd]
    have n1 : inK [] = [] := rfl
    have n2 : trD [] = [] := rfl
    rw [n1, n2] at e2
    generalize ddk [] ((choices a a.places[pl] (restOf a gr)).map fun u => (K (outZ a a.places[pl] gr c u).toNat : Int)) = DD at *
    generalize (choices a a.places[pl] (restOf a gr)).map (fun u => D.tup [tupI u, .int (outZ a a.places[pl] gr c u)]) = UL at *
    generalize rowD a a.places[pl] gr c = RD at *
    generalize tabD a gr = TD at *
    generalize kD a.places.length K = KD at *
    generalize tupI c = TC at *
    simp -implicitDefEqProofs [it2, wipeR, e2]
  have zz : ((tabN a gr pl).map (fD K)).length ≤ sizeLine := by
    rw [et, List.length_map]
    have := choices_len (gr := gr) ha hm
    omega
  refine runF_rt ?_
  rw [et] at zz ⊢
  generalize (choices a a.places[pl] gr).map (fun c => fD K ((choices a a.places[pl] (restOf a gr)).map fun u => (outZ a a.places[pl] gr c u).toNat)) = RL at *
  generalize (choices a a.places[pl] gr).map (outD a a.places[pl] gr) = OL at *
  generalize rowsAt a gr a.places[pl] = RA at *
  generalize tabD a gr = TD at *
  generalize kD a.places.length K = KD at *
  generalize (pl : Int) = P at *
  simp -implicitDefEqProofs [s_kinds_led_to, slots0, ix, it, e1, zz]
/-! ### covered, paired -/
theorem covered_ok {K : Nat → Nat} {A B : List (List Nat)} (hA : A.length < 1000) (hB : B.length < 1000) (hb : ∀ m ∈ B, m.length < 1000) (g : G) : F_are_covered [.lst (A.map (fD K)), .lst (B.map (fD K))] g = some (.bl (covB K A B), g) := by
  have sz := sizeLine_eq
  have e1 : lcL (bName 2) tYesD (eBi anyD (aCons (eO (eLcA [3] (aItem (eVar 1)) (bName 3) tYesD (eBi allD (aCons (eO (aLcK 3 [4] (bName 4) tYesD (eCmp inD (eVar 4) (eVar 2)))) aNil)))) aNil)) [some (.d (.lst (A.map (fD K)))), some (.d (.lst (B.map (fD K)))), none, none, none] (A.map (fD K)) g
      = some (A.map (fun m => D.bl (B.any fun t => t.all fun x => m.any fun y => decide (K y = K x))), g) := by
    refine lcL_on fun m hm => ⟨_, rfl, ?_⟩
    have e2 : lcL (bName 3) tYesD (eBi allD (aCons (eO (aLcK 3 [4] (bName 4) tYesD (eCmp inD (eVar 4) (eVar 2)))) aNil)) [some (.d (.lst (A.map (fD K)))), some (.d (.lst (B.map (fD K)))), some (.d (fD K m)), none, none] (B.map (fD K)) g
        = some (B.map (fun t => D.bl (t.all fun x => m.any fun y => decide (K y = K x))), g) := by
      refine lcL_on fun t ht => ⟨_, rfl, ?_⟩
      have e3 : lcL (bName 4) tYesD (eCmp inD (eVar 4) (eVar 2)) [some (.d (.lst (A.map (fD K)))), some (.d (.lst (B.map (fD K)))), some (.d (fD K m)), some (.d (fD K t)), none] ((ddk [] (kx K t)).map D.int) g = some ((ddk [] (kx K t)).map (fun z => D.bl (decide (z ∈ kx K m))), g) := by
        refine lcL_on fun z hz => ⟨_, rfl, ?_⟩
        have q := in_ddD z (kx K m)
        have q : inD (.int z) (fD K m) = some (decide (z ∈ kx K m)) := q
        generalize decide (z ∈ kx K m) = BZ at *
        generalize fD K m = M at *
        generalize fD K t = T at *
        generalize D.lst (A.map (fD K)) = AL at *
        generalize D.lst (B.map (fD K)) = BL at *
        simp -implicitDefEqProofs [setR, q]
      have al : allD [.lst ((ddk [] (kx K t)).map (fun z => D.bl (decide (z ∈ kx K m))))] = some (.bl (t.all fun x => m.any fun y => decide (K y = K x))) := by
        have := allD_lst ((ddk [] (kx K t)).map fun z => decide (z ∈ kx K m))
        rw [List.map_map] at this
        refine Eq.trans this ?_
        congr 2
        rw [Bool.eq_iff_iff, List.all_map, List.all_eq_true, List.all_eq_true]
        constructor
        · intro h x hx
          have h2 := of_decide_eq_true (h (K x : Int) (ddk_mem.mpr (.inr (List.mem_map.mpr ⟨x, hx, rfl⟩))))
          obtain ⟨y, hy, e⟩ := List.mem_map.mp h2
          exact List.any_eq_true.mpr ⟨y, hy, decide_eq_true (by omega)⟩
        · intro h z hz
          rcases ddk_mem.mp hz with q | q
          · simp at q
          · obtain ⟨x, hx, rfl⟩ := List.mem_map.mp q
            obtain ⟨y, hy, e⟩ := List.any_eq_true.mp (h x hx)
            have e := of_decide_eq_true e
            exact decide_eq_true (List.mem_map.mpr ⟨y, hy, by rw [e]⟩)
      have zz : ((ddk [] (kx K t)).map (fun z => D.bl (decide (z ∈ kx K m)))).length ≤ sizeLine := by
        rw [List.length_map]
        have h5 := ddk_len (kx K t) []
        have h6 : (kx K t).length = t.length := List.length_map _
        have := hb t ht
        simp at h5
        omega
      have ky := keysI_inK (ddk [] (kx K t))
      have ft : fD K t = .dk (inK (ddk [] (kx K t))) (trD (ddk [] (kx K t))) := rfl
      rw [ft] at e3 ⊢
      generalize (t.all fun x => m.any fun y => decide (K y = K x)) = BB at *
      generalize (ddk [] (kx K t)).map (fun z => D.bl (decide (z ∈ kx K m))) = BLS at *
      generalize (ddk [] (kx K t)).map D.int = IL at *
      generalize inK (ddk [] (kx K t)) = IK at *
      generalize trD (ddk [] (kx K t)) = TK at *
      generalize fD K m = M at *
      generalize D.lst (A.map (fD K)) = AL at *
      generalize D.lst (B.map (fD K)) = BL at *
      have nf : noFn [some (.d AL), some (.d BL), some (.d M), some (.d (.dk IK TK)), none] = true := rfl
      have ak : aKeys 3 [some (.d AL), some (.d BL), some (.d M), some (.d (.dk IK TK)), none] g = some (IL, g) := by
        show ml (keysI IK) g = _
        rw [ky]
        rfl
      simp -implicitDefEqProofs [setR, nf, ak, wipeR, e3, al, zz]
    have an : anyD [.lst (B.map (fun t => D.bl (t.all fun x => m.any fun y => decide (K y = K x))))] = some (.bl (B.any fun t => t.all fun x => m.any fun y => decide (K y = K x))) := by
      have := anyD_lst (B.map fun t => t.all fun x => m.any fun y => decide (K y = K x))
      rw [List.map_map, List.any_map] at this
      exact this
    have zz : (B.map (fun t => D.bl (t.all fun x => m.any fun y => decide (K y = K x)))).length ≤ sizeLine := by rw [List.length_map]; omega
    generalize (B.any fun t => t.all fun x => m.any fun y => decide (K y = K x)) = BB at *
    generalize B.map (fun t => D.bl (t.all fun x => m.any fun y => decide (K y = K x))) = BS at *
    generalize fD K m = M at *
    generalize A.map (fD K) = AL at *
    generalize B.map (fD K) = BL at *
    simp -implicitDefEqProofs [setR, e2, an, zz]
  have al : allD [.lst (A.map (fun m => D.bl (B.any fun t => t.all fun x => m.any fun y => decide (K y = K x))))] = some (.bl (covB K A B)) := by
    have := allD_lst (A.map fun m => B.any fun t => t.all fun x => m.any fun y => decide (K y = K x))
    rw [List.map_map, List.all_map] at this
    exact this
  have zz : (A.map (fun m => D.bl (B.any fun t => t.all fun x => m.any fun y => decide (K y = K x)))).length ≤ sizeLine := by rw [List.length_map]; omega
  refine runF_rt ?_
  generalize covB K A B = CB at *
  generalize A.map (fun m => D.bl (B.any fun t => t.all fun x => m.any fun y => decide (K y = K x))) = BS at *
  generalize A.map (fD K) = AL at *
  generalize B.map (fD K) = BL at *
  simp -implicitDefEqProofs [s_are_covered, slots0, e1, al, zz]
end L_k48
end
section
set_option Elab.async false
set_option linter.all false
set_option maxRecDepth 100000
set_option maxHeartbeats 4000000
set_option autoImplicit false
namespace L_k48
open PySem PD
noncomputable def prB : S := (sSeq (sParV [5, 6] (vCons (vD (eCall F_kinds_led_to (aCons (eVar 4) (aCons (eVar 2) (aCons (eVar 1) aNil))))) (vCons (vD (eCall F_kinds_led_to (aCons (eVar 4) (aCons (eVar 3) (aCons (eVar 1) aNil))))) vNil)))
  (sIf (tOr (tNot (tE (eCall F_are_covered (aCons (eVar 5) (aCons (eVar 6) aNil))))) (tNot (tE (eCall F_are_covered (aCons (eVar 6) (aCons (eVar 5) aNil)))))) (sRet (eC (.bl false))) sNil))
theorem tabN_len {a : Arena} (ha : ArenaOk a) (gr : List Str) (p : Nat) : (tabN a gr p).length < 1000 ∧ ∀ m ∈ tabN a gr p, m.length < 1000 := by
  unfold tabN
  cases h : a.places[p]? with
  | none => exact ⟨by simp, fun m hm => by simp at hm⟩
  | some q =>
    have hm := List.mem_of_getElem? h
    have h1 := choices_len (gr := gr) ha hm
    have h2 := choices_len (gr := restOf a gr) ha hm
    refine ⟨by simp; omega, fun m hm => ?_⟩
    obtain ⟨c, _, rfl⟩ := List.mem_map.mp hm
    rw [List.length_map]
    omega
theorem paired_for {a : Arena} (ha : ArenaOk a) {K : Nat → Nat} {p q : Nat} (hp : p < a.places.length) (hq : q < a.places.length) {x0 : D} {g : G} : ∀ (ts : List (List Str)) (o4 o5 o6 : Option LV),
    (pairB (ts.map (tabN a)) K p q = true ∧ ∃ o4' o5' o6', forL (bName 4) prB (ts.map (tabD a)) [some (.d x0), some (.d (kD a.places.length K)), some (.d (.int (p : Int))), some (.d (.int (q : Int))), o4, o5, o6] g = some (.nx [some (.d x0), some (.d (kD a.places.length K)), some (.d (.int (p : Int))), some (.d (.int (q : Int))), o4', o5', o6'], g))
    ∨ (pairB (ts.map (tabN a)) K p q = false ∧ forL (bName 4) prB (ts.map (tabD a)) [some (.d x0), some (.d (kD a.places.length K)), some (.d (.int (p : Int))), some (.d (.int (q : Int))), o4, o5, o6] g = some (.rt (.bl false), g))
  | [], o4, o5, o6 => .inl ⟨rfl, o4, o5, o6, rfl⟩
  | t :: ts, o4, o5, o6 => by
    have l1 := led_ok ha (gr := t) (K := K) hp g
    have l2 := led_ok ha (gr := t) (K := K) hq g
    have n1 := tabN_len ha t p
    have n2 := tabN_len ha t q
    have c1 := covered_ok (K := K) n1.1 n2.1 n2.2 g
    have c2 := covered_ok (K := K) n2.1 n1.1 n1.2 g
    have ih := paired_for ha (K := K) hp hq (x0 := x0) (g := g) ts (some (.d (tabD a t))) (some (.d (.lst ((tabN a t p).map (fD K))))) (some (.d (.lst ((tabN a t q).map (fD K)))))
    have eb : pairB ((t :: ts).map (tabN a)) K p q = ((covB K (tabN a t p) (tabN a t q) && covB K (tabN a t q) (tabN a t p)) && pairB (ts.map (tabN a)) K p q) := rfl
    rw [eb, List.map_cons, forL_cons]
    generalize covB K (tabN a t p) (tabN a t q) = C1 at *
    generalize covB K (tabN a t q) (tabN a t p) = C2 at *
    generalize pairB (ts.map (tabN a)) K p q = C3 at *
    generalize D.lst ((tabN a t p).map (fD K)) = LP at *
    generalize D.lst ((tabN a t q).map (fD K)) = LQ at *
    generalize tabD a t = TD at *
    generalize ts.map (tabD a) = TS at *
    generalize kD a.places.length K = KD at *
    generalize (p : Int) = P at *
    generalize (q : Int) = Q at *
    clear n1 n2 eb
    cases C1 with
    | false => exact .inr ⟨rfl, by simp -implicitDefEqProofs [prB, bName, setR, setLs, l1, l2, c1]⟩
    | true =>
      cases C2 with
      | false => exact .inr ⟨rfl, by simp -implicitDefEqProofs [prB, bName, setR, setLs, l1, l2, c1, c2]⟩
      | true =>
        have st : (some TD |>.isSome) = true := rfl
        have hd : prB [some (.d x0), some (.d KD), some (.d (.int P)), some (.d (.int Q)), some (.d TD), o5, o6] g = some (.nx [some (.d x0), some (.d KD), some (.d (.int P)), some (.d (.int Q)), some (.d TD), some (.d LP), some (.d LQ)], g) := by
          simp -implicitDefEqProofs [prB, bName, setR, setLs, l1, l2, c1, c2]
        rcases ih with ⟨rfl, p4, p5, p6, e⟩ | ⟨rfl, e⟩
        · refine .inl ⟨rfl, p4, p5, p6, ?_⟩
          generalize prB = PB at *
          simp -implicitDefEqProofs [bName, setR, hd, e]
        · refine .inr ⟨rfl, ?_⟩
          generalize prB = PB at *
          simp -implicitDefEqProofs [bName, setR, hd, e]
theorem paired_ok {a : Arena} (ha : ArenaOk a) {K : Nat → Nat} {p q : Nat} (hp : p < a.places.length) (hq : q < a.places.length) (ts : List (List Str)) (g : G) :
    F_are_paired [.lst (ts.map (tabD a)), kD a.places.length K, .int (p : Int), .int (q : Int)] g = some (.bl (pairB (ts.map (tabN a)) K p q), g) := by
  have h := paired_for ha (K := K) hp hq (x0 := .lst (ts.map (tabD a))) (g := g) ts none none none
  unfold prB at h
  refine runF_rt ?_
  generalize pairB (ts.map (tabN a)) K p q = C3 at *
  generalize ts.map (tabD a) = TS at *
  generalize kD a.places.length K = KD at *
  generalize (p : Int) = P at *
  generalize (q : Int) = Q at *
  rcases h with ⟨rfl, p4, p5, p6, e⟩ | ⟨rfl, e⟩
  · simp -implicitDefEqProofs [s_are_paired, slots0, e]
  · simp -implicitDefEqProofs [s_are_paired, slots0, e]
/-! ### split -/
noncomputable def spB : S := (sSeq (sSet 5 (eO (eLcA [6] (aIt range1M (aCons (eVar 3) aNil)) (bName 6) (tAnd (tCmp eqD (eIx (eVar 1) (eVar 6)) (eVar 4)) (tE (eCall F_are_paired (aCons (eVar 0) (aCons (eVar 1) (aCons (eVar 6) (aCons (eVar 3) aNil))))))) (eVar 6))))
  (sAppend 2 (eIf (tCmp neD (eVar 5) (eLst aNil)) (eIxO 2 (eIx (eVar 5) (eC (.int 0)))) (eVar 3))))
def natL (l : List Nat) : List D := l.map fun i : Nat => .int (i : Int)
theorem sp_body {a : Arena} (ha : ArenaOk a) {K : Nat → Nat} (ts : List (List Str)) {p : Nat} (hp : p < a.places.length) {o5 o6 : Option LV} {g : G} :
    ∃ o5' o6', spB [some (.d (.lst (ts.map (tabD a)))), some (.d (kD a.places.length K)), some (.ol (natL ((List.range p).map (lst (nxtE (ts.map (tabN a)) K))))), some (.d (.int (p : Int))), some (.d (.int (K p : Int))), o5, o6] g
      = some (.nx [some (.d (.lst (ts.map (tabD a)))), some (.d (kD a.places.length K)), some (.ol (natL ((List.range (p + 1)).map (lst (nxtE (ts.map (tabN a)) K))))), some (.d (.int (p : Int))), some (.d (.int (K p : Int))), o5', o6'], g) := by
  have sz := sizeLine_eq
  have hp10 := ha.p10
  let T := ts.map (tabN a)
  have r1 := range1_ok (n := (p : Int)) (by omega) (by omega)
  rw [range_nat (by omega)] at r1
  have tn : ((p : Int)).toNat = p := by omega
  rw [tn] at r1
  have e1 : lcL (bName 6) (tAnd (tCmp eqD (eIx (eVar 1) (eVar 6)) (eVar 4)) (tE (eCall F_are_paired (aCons (eVar 0) (aCons (eVar 1) (aCons (eVar 6) (aCons (eVar 3) aNil))))))) (eVar 6) [some (.d (.lst (ts.map (tabD a)))), some (.d (kD a.places.length K)), some (.ol (natL ((List.range p).map (lst (nxtE T K))))), some (.d (.int (p : Int))), some (.d (.int (K p : Int))), o5, none] ((List.range p).map fun i : Nat => D.int (i : Int)) g
      = some ((((List.range p).filter fun o => nxtE T K o p).map id).map (fun i : Nat => D.int (i : Int)), g) := by
    refine lc_typedF (List.range p) fun o ho => ⟨_, rfl, ?_, fun _ => ?_⟩
    · have ho := List.mem_range.mp ho
      have xk := ix_kD K (n := a.places.length) (z := (o : Int)) (by omega) (by omega) g
      have to : ((o : Int)).toNat = o := by omega
      rw [to] at xk
      have pk := paired_ok ha (K := K) (p := o) (q := p) (by omega) hp ts g
      have q := eqD_int (K o : Int) (K p : Int)
      have ed : nxtE T K o p = (decide ((K o : Int) = (K p : Int)) && pairB (ts.map (tabN a)) K o p) := by
        show (decide (K o = K p) && pairB T K o p) = _
        rw [show decide (K o = K p) = decide ((K o : Int) = (K p : Int)) from decide_eq_decide.mpr ⟨fun h => by rw [h], fun h => by omega⟩]
      rw [ed]
      generalize natL ((List.range p).map (lst (nxtE T K))) = NL at *
      generalize pairB (ts.map (tabN a)) K o p = PB at *
      generalize D.lst (ts.map (tabD a)) = TD at *
      generalize kD a.places.length K = KD at *
      generalize decide ((K o : Int) = (K p : Int)) = B1 at *
      generalize (K o : Int) = KO at *
      generalize (K p : Int) = KP at *
      generalize (o : Int) = O at *
      generalize (p : Int) = P at *
      cases B1 with
      | false => simp -implicitDefEqProofs [setR, xk, q]
      | true => simp -implicitDefEqProofs [setR, xk, q, pk]
    · generalize natL ((List.range p).map (lst (nxtE T K))) = NL at *
      generalize D.lst (ts.map (tabD a)) = TD at *
      generalize kD a.places.length K = KD at *
      simp -implicitDefEqProofs [setR]
  rw [List.map_id] at e1
  have z1 : (((List.range p).filter fun o => nxtE T K o p).map (fun i : Nat => D.int (i : Int))).length ≤ sizeLine := by
    rw [List.length_map]
    have := List.length_filter_le (fun o => nxtE T K o p) (List.range p)
    rw [List.length_range] at this
    omega
  have st := lst_step (nxtE_eqv T K) p
  have er : (List.range (p + 1)).map (lst (nxtE T K)) = (List.range p).map (lst (nxtE T K)) ++ [lst (nxtE T K) p] := by rw [List.range_succ, List.map_append]; rfl
  have en : natL ((List.range (p + 1)).map (lst (nxtE T K))) = natL ((List.range p).map (lst (nxtE T K))) ++ [.int (lst (nxtE T K) p : Int)] := by rw [er]; unfold natL; rw [List.map_append]; rfl
  have zl : (natL ((List.range p).map (lst (nxtE T K)))).length < sizeLine := by unfold natL; rw [List.length_map, List.length_map, List.length_range]; omega
  show ∃ o5' o6', spB [_, _, some (.ol (natL ((List.range p).map (lst (nxtE T K))))), _, _, _, _] g = some (.nx [_, _, some (.ol (natL ((List.range (p + 1)).map (lst (nxtE T K))))), _, _, o5', o6'], g)
  rw [en]
  have mem : ∀ s ∈ (List.range p).filter (fun o => nxtE T K o p), s < p := fun s hs => List.mem_range.mp (List.mem_filter.mp hs).1
  have ixl : ∀ s, s < p → ixD g (.lst (natL ((List.range p).map (lst (nxtE T K))))) (.int (s : Int)) = some (.int (lst (nxtE T K) s : Int)) := fun s hs => by
    show L2.atI (natL ((List.range p).map (lst (nxtE T K)))) (s : Int) = _
    unfold natL
    rw [atI_of (by omega) (by rw [List.length_map, List.length_map, List.length_range]; omega), List.getElem?_map, List.getElem?_map, List.getElem?_range (by omega)]
    have : ((s : Int)).toNat = s := by omega
    rw [this]
    rfl
  cases hf : (List.range p).filter (fun o => nxtE T K o p) with
  | nil =>
    rw [hf] at e1 z1 st
    rw [st]
    have ne : neD (.lst (([] : List Nat).map fun i : Nat => D.int (i : Int))) (.lst []) = some false := by decide +kernel
    clear mem ixl er en hf st
    generalize natL ((List.range p).map (lst (nxtE T K))) = NL at *
    generalize ([] : List Nat).map (fun i : Nat => D.int (i : Int)) = EL at *
    generalize D.lst (ts.map (tabD a)) = TD at *
    generalize kD a.places.length K = KD at *
    generalize (List.range p).map (fun j : Nat => D.int (j : Int)) = RL at *
    generalize (K p : Int) = KP at *
    generalize (p : Int) = P at *
    exact ⟨some (.d (.lst EL)), o6, by simp -implicitDefEqProofs [spB, setR, wipeR, r1, e1, z1, ne, zl]⟩
  | cons s t =>
    have hs := mem s (by rw [hf]; exact List.mem_cons_self)
    have ix := ixl s hs
    rw [hf] at e1 z1 st
    rw [st]
    show ∃ o5' o6', spB _ g = some (.nx [_, _, some (.ol (natL ((List.range p).map (lst (nxtE T K))) ++ [.int (lst (nxtE T K) s : Int)])), _, _, o5', o6'], g)
    have ne : neD (.lst ((s :: t).map fun i : Nat => D.int (i : Int))) (.lst []) = some true := by
      have k1 : cmpOk (.lst ((s :: t).map fun i : Nat => D.int (i : Int))) = true := by
        have := kdI.lst.ok (by omega) ((s :: t).map fun i : Nat => (i : Int))
        rw [List.map_map] at this
        exact this
      rw [neD_of k1 rfl, eqq_lst]
      rfl
    have i0 : ixD g (.lst ((s :: t).map fun i : Nat => D.int (i : Int))) (.int 0) = some (.int (s : Int)) := by
      show L2.atI ((s :: t).map fun i : Nat => D.int (i : Int)) 0 = _
      rw [atI_of (by omega) (by simp)]
      rfl
    have i0 : L2.atI ((s :: t).map fun i : Nat => D.int (i : Int)) 0 = some (.int (s : Int)) := i0
    have ix : ixO (.ol (natL ((List.range p).map (lst (nxtE T K))))) (.int (s : Int)) = some (.int (lst (nxtE T K) s : Int)) := ix
    clear mem ixl er en hf st
    generalize natL ((List.range p).map (lst (nxtE T K))) = NL at *
    generalize (s :: t).map (fun i : Nat => D.int (i : Int)) = EL at *
    generalize D.lst (ts.map (tabD a)) = TD at *
    generalize kD a.places.length K = KD at *
    generalize (List.range p).map (fun j : Nat => D.int (j : Int)) = RL at *
    generalize (lst (nxtE T K) s : Int) = LS at *
    generalize (K p : Int) = KP at *
    generalize (p : Int) = P at *
    generalize (s : Int) = SS at *
    exact ⟨some (.d (.lst EL)), o6, by simp -implicitDefEqProofs [spB, setR, wipeR, r1, e1, z1, ne, zl, i0, ix]⟩
theorem sp_for {a : Arena} (ha : ArenaOk a) {K : Nat → Nat} (ts : List (List Str)) {g : G} : ∀ (m p : Nat) (o3 o4 o5 o6 : Option LV), p + m = a.places.length → ∃ o3' o4' o5' o6',
    forL (bTup (bsCons (bName 3) (bsCons (bName 4) bsNil))) spB (enumL p (((List.range a.places.length).drop p).map fun i : Nat => D.int (K i : Int))) [some (.d (.lst (ts.map (tabD a)))), some (.d (kD a.places.length K)), some (.ol (natL ((List.range p).map (lst (nxtE (ts.map (tabN a)) K))))), o3, o4, o5, o6] g
      = some (.nx [some (.d (.lst (ts.map (tabD a)))), some (.d (kD a.places.length K)), some (.ol (natL ((List.range a.places.length).map (lst (nxtE (ts.map (tabN a)) K))))), o3', o4', o5', o6'], g)
  | 0, p, o3, o4, o5, o6, h => by
    have e : p = a.places.length := by omega
    subst e
    refine ⟨o3, o4, o5, o6, ?_⟩
    rw [List.drop_eq_nil_of_le (by rw [List.length_range]; omega)]
    rfl
  | m + 1, p, o3, o4, o5, o6, h => by
    have hp : p < a.places.length := by omega
    obtain ⟨q5, q6, e1⟩ := sp_body ha (K := K) ts hp (o5 := o5) (o6 := o6) (g := g)
    obtain ⟨p3, p4, p5, p6, e2⟩ := sp_for ha (K := K) ts (g := g) m (p + 1) (some (.d (.int (p : Int)))) (some (.d (.int (K p : Int)))) q5 q6 (by omega)
    refine ⟨p3, p4, p5, p6, ?_⟩
    have ed : (List.range a.places.length).drop p = p :: (List.range a.places.length).drop (p + 1) := by
      rw [List.drop_eq_getElem_cons (by rw [List.length_range]; exact hp), List.getElem_range]
    rw [ed, List.map_cons]
    show forL _ _ (.tup [.int (p : Int), .int (K p : Int)] :: enumL (p + 1) _) _ _ = _
    rw [forL_cons]
    generalize enumL (p + 1) (((List.range a.places.length).drop (p + 1)).map fun i : Nat => D.int (K i : Int)) = EL at *
    generalize natL ((List.range a.places.length).map (lst (nxtE (ts.map (tabN a)) K))) = N2 at *
    generalize natL ((List.range (p + 1)).map (lst (nxtE (ts.map (tabN a)) K))) = N1 at *
    generalize natL ((List.range p).map (lst (nxtE (ts.map (tabN a)) K))) = N0 at *
    generalize D.lst (ts.map (tabD a)) = TD at *
    generalize kD a.places.length K = KD at *
    generalize (K p : Int) = KP at *
    generalize (p : Int) = P at *
    generalize spB = SB at *
    simp -implicitDefEqProofs [bTup, bsCons, bsNil, bName, setR, e1, e2]
theorem split_ok {a : Arena} (ha : ArenaOk a) (K : Nat → Nat) (ts : List (List Str)) (g : G) : F_split_kinds [.lst (ts.map (tabD a)), kD a.places.length K] g = some (kD a.places.length (lst (nxtE (ts.map (tabN a)) K)), g) := by
  have sz := sizeLine_eq
  have hp10 := ha.p10
  obtain ⟨o3, o4, o5, o6, e⟩ := sp_for ha (K := K) ts (g := g) a.places.length 0 none none none none (by omega)
  have en : enumM [kD a.places.length K] = some (enumL 0 ((List.range a.places.length).map fun i : Nat => D.int (K i : Int))) := rfl
  have n0 : natL ((List.range 0).map (lst (nxtE (ts.map (tabN a)) K))) = [] := rfl
  rw [n0, List.drop_zero] at e
  have kd : kD a.places.length (lst (nxtE (ts.map (tabN a)) K)) = .lst (natL ((List.range a.places.length).map (lst (nxtE (ts.map (tabN a)) K)))) := by unfold kD natL; rw [List.map_map]; rfl
  rw [kd]
  unfold spB at e
  refine runF_rt ?_
  generalize natL ((List.range a.places.length).map (lst (nxtE (ts.map (tabN a)) K))) = N2 at *
  generalize enumL 0 ((List.range a.places.length).map fun i : Nat => D.int (K i : Int)) = EL at *
  generalize D.lst (ts.map (tabD a)) = TD at *
  generalize kD a.places.length K = KD at *
  have z0 : (0 : Nat) ≤ sizeLine := by omega
  simp -implicitDefEqProofs [s_split_kinds, slots0, en, e, z0]
end L_k48
end
section
set_option Elab.async false
set_option linter.all false
set_option maxRecDepth 100000
set_option maxHeartbeats 4000000
set_option autoImplicit false
namespace L_k48
open PySem PD
theorem atI_last {l : List D} {x : D} : L2.atI (l ++ [x]) (-1) = some x := by
  unfold L2.atI L2.ixN
  have e : (-1 + ((l ++ [x]).length : Int)).toNat = l.length := by simp; omega
  rw [if_neg (by omega), if_pos (by simp; omega), e]
  simp
/-! ### the levels -/
def sumK (n : Nat) (K : Nat → Nat) : Nat := ((List.range n).map K).sum
theorem sum_le {K K' : Nat → Nat} : ∀ l : List Nat, (∀ p ∈ l, K p ≤ K' p) → (l.map K).sum ≤ (l.map K').sum
  | [], _ => Nat.le_refl _
  | p :: l, h => by
    have := sum_le l fun q hq => h q (List.mem_cons_of_mem _ hq)
    have := h p List.mem_cons_self
    simp only [List.map_cons, List.sum_cons]
    omega
theorem sum_lt {K K' : Nat → Nat} : ∀ l : List Nat, (∀ p ∈ l, K p ≤ K' p) → l.map K ≠ l.map K' → (l.map K).sum < (l.map K').sum
  | [], _, h => absurd rfl h
  | p :: l, h, ne => by
    have h1 := h p List.mem_cons_self
    have h2 := sum_le l fun q hq => h q (List.mem_cons_of_mem _ hq)
    simp only [List.map_cons, List.sum_cons] at ne ⊢
    by_cases e : K p = K' p
    · have := sum_lt l (fun q hq => h q (List.mem_cons_of_mem _ hq)) fun q => ne (by rw [e, q])
      omega
    · omega
theorem sum_id : ∀ n, n ≤ 10 → sumK n (fun p => p) ≤ 45 := by decide
theorem sum_top {n : Nat} {K : Nat → Nat} (hn : n ≤ 10) (h : ∀ p, p < n → K p ≤ p) : sumK n K ≤ 45 :=
  Nat.le_trans (sum_le _ fun p hp => h p (List.mem_range.mp hp)) (sum_id n hn)
def kL (n : Nat) (K : Nat → Nat) : List Int := (List.range n).map fun i : Nat => (K i : Int)
theorem kD_kL (n : Nat) (K : Nat → Nat) : kD n K = .lst ((kL n K).map .int) := by unfold kD kL; rw [List.map_map]; rfl
theorem kL_inj {n : Nat} {K K' : Nat → Nat} (h : kL n K = kL n K') : ∀ p, p < n → K p = K' p := fun p hp => by
  have := congrArg (fun l => l[p]?) h
  simp only [kL, List.getElem?_map, List.getElem?_range hp, Option.map_some] at this
  have := Option.some.inj this
  omega
theorem kL_nat {n : Nat} {K K' : Nat → Nat} (h : (List.range n).map K = (List.range n).map K') : kL n K = kL n K' := by
  have := congrArg (fun l => l.map fun i : Nat => (i : Int)) h
  simp only [List.map_map] at this
  exact this
theorem ne_kD (n : Nat) (K K' : Nat → Nat) : neD (kD n K) (kD n K') = some (!decide (kL n K = kL n K')) := by
  rw [kD_kL, kD_kL, neD_of (kdI.lst.ok (by omega) _) (kdI.lst.ok (by omega) _), eqq_lst, eqqA_map eqq_int]
noncomputable def lvC : T := (tCmp neD (eVar 4) (eIxO 3 (eNeg (eC (.int 1)))))
noncomputable def lvB : S := (sSeq (sAppend 3 (eVar 4))
  (sSet 4 (eCall F_split_kinds (aCons (eVar 2) (aCons (eIxO 3 (eNeg (eC (.int 1)))) aNil)))))
theorem lv_while {a : Arena} (ha : ArenaOk a) (ts : List (List Str)) {x0 x1 : D} {g : G} : ∀ (f : Nat) (L : List D) (K : Nat → Nat), Level a.places.length (mkOf a) (ts.map (tabN a)) K → 46 ≤ f + sumK a.places.length K → L.length + f ≤ 1000 → ∃ (L' : List D) (K' : Nat → Nat) (o4 : Option LV),
    whileL lvC lvB f [some (.d x0), some (.d x1), some (.d (.lst (ts.map (tabD a)))), some (.ol (L ++ [kD a.places.length K])), some (.d (kD a.places.length (lst (nxtE (ts.map (tabN a)) K))))] g
      = some (.nx [some (.d x0), some (.d x1), some (.d (.lst (ts.map (tabD a)))), some (.ol (L' ++ [kD a.places.length K'])), o4], g) ∧ Final a.places.length (mkOf a) (ts.map (tabN a)) K'
  | 0, L, K, hK, hf, _ => by
    have := sum_top ha.p10 hK.le
    omega
  | f + 1, L, K, hK, hf, hl => by
    have sz := sizeLine_eq
    rw [whileL_succ]
    have ne := ne_kD a.places.length (lst (nxtE (ts.map (tabN a)) K)) K
    have al := atI_last (l := L) (x := kD a.places.length K)
    by_cases e : kL a.places.length (lst (nxtE (ts.map (tabN a)) K)) = kL a.places.length K
    · refine ⟨L, K, some (.d (kD a.places.length (lst (nxtE (ts.map (tabN a)) K)))), ?_, final_of hK (kL_inj e)⟩
      rw [decide_eq_true e] at ne
      generalize kD a.places.length (lst (nxtE (ts.map (tabN a)) K)) = KN at *
      generalize L ++ [kD a.places.length K] = LL at *
      generalize kD a.places.length K = KD at *
      generalize ts.map (tabD a) = TD at *
      have c0 : lvC [some (.d x0), some (.d x1), some (.d (.lst TD)), some (.ol LL), some (.d KN)] g = some (false, g) := by
        have al : ixO (.ol LL) (.int (-1)) = some KD := al
        simp -implicitDefEqProofs [lvC, al, ne]
      rw [c0]
      rfl
    · have hn := level_next hK
      have lt : sumK a.places.length K < sumK a.places.length (lst (nxtE (ts.map (tabN a)) K)) :=
        sum_lt _ (fun p hp => next_ge hK (List.mem_range.mp hp)) fun q => e (kL_nat q).symm
      obtain ⟨L', K', o4, e1, h1⟩ := lv_while ha ts (x0 := x0) (x1 := x1) (g := g) f (L ++ [kD a.places.length K]) (lst (nxtE (ts.map (tabN a)) K)) hn (by omega) (by rw [List.length_append]; simp; omega)
      refine ⟨L', K', o4, ?_, h1⟩
      rw [decide_eq_false e] at ne
      have sp := split_ok ha (lst (nxtE (ts.map (tabN a)) K)) ts g
      have al2 := atI_last (l := L ++ [kD a.places.length K]) (x := kD a.places.length (lst (nxtE (ts.map (tabN a)) K)))
      have zl : (L ++ [kD a.places.length K]).length < sizeLine := by rw [List.length_append]; simp; omega
      generalize kD a.places.length (lst (nxtE (ts.map (tabN a)) (lst (nxtE (ts.map (tabN a)) K)))) = KM at *
      generalize kD a.places.length (lst (nxtE (ts.map (tabN a)) K)) = KN at *
      generalize L ++ [kD a.places.length K] = LL at *
      generalize kD a.places.length K = KD at *
      generalize L' ++ [kD a.places.length K'] = LF at *
      generalize ts.map (tabD a) = TD at *
      have al : ixO (.ol LL) (.int (-1)) = some KD := al
      have al2 : ixO (.ol (LL ++ [KN])) (.int (-1)) = some KN := al2
      have c0 : lvC [some (.d x0), some (.d x1), some (.d (.lst TD)), some (.ol LL), some (.d KN)] g = some (true, g) := by
        simp -implicitDefEqProofs [lvC, al, ne]
      have b0 : lvB [some (.d x0), some (.d x1), some (.d (.lst TD)), some (.ol LL), some (.d KN)] g = some (.nx [some (.d x0), some (.d x1), some (.d (.lst TD)), some (.ol (LL ++ [KN])), some (.d KM)], g) := by
        simp -implicitDefEqProofs [lvB, setR, zl, al2, sp]
      rw [c0]
      show (lvB _ g).bind _ = _
      rw [b0]
      exact e1
theorem levels_ok {a : Arena} (ha : ArenaOk a) {ts : List (List Str)} (h6 : ts.length ≤ 6) (hg : ∀ t ∈ ts, GroupOk a t) (g : G) : ∃ (L : List D) (K : Nat → Nat), F_levels [a.d, .tup (ts.map tupS)] g = some (.lst (L ++ [kD a.places.length K]), g) ∧ Final a.places.length (mkOf a) (ts.map (tabN a)) K := by
  have sz := sizeLine_eq
  obtain ⟨L, K, o4, e, h⟩ := lv_while ha ts (x0 := a.d) (x1 := .tup (ts.map tupS)) (g := g) 100 [] (lst (mkE (mkOf a))) (level_first _ _ _) (by omega) (by simp)
  refine ⟨L, K, runF_rt ?_, h⟩
  have t1 := tables_ok ha (by omega) hg g
  have m1 := marks_ok ha g
  have sp := split_ok ha (lst (mkE (mkOf a))) ts g
  have z1 : (1 : Nat) ≤ sizeLine := by omega
  unfold lvC lvB at e
  rw [List.nil_append] at e
  generalize kD a.places.length (lst (nxtE (ts.map (tabN a)) (lst (mkE (mkOf a))))) = KN at *
  generalize kD a.places.length (lst (mkE (mkOf a))) = KD at *
  generalize L ++ [kD a.places.length K] = LF at *
  generalize ts.map (tabD a) = TD at *
  generalize D.tup (ts.map tupS) = TT at *
  generalize a.d = AD at *
  have al : ixO (.ol [KD]) (.int (-1)) = some KD := atI_last (l := [])
  have al2 : L2.atI [KD] (-1) = some KD := al
  simp -implicitDefEqProofs [s_levels, slots0, setLs, setR, t1, m1, z1, al, al2, sp, e]
/-! ### the sets -/
def reps (n : Nat) (K : Nat → Nat) : List Nat := (List.range n).filter fun k => decide (K k = k)
def blk (n : Nat) (K : Nat → Nat) (k : Nat) : List Nat := (List.range n).filter fun p => decide (K p = k)
def setsN (n : Nat) (K : Nat → Nat) : List (List Nat) := (reps n K).map (blk n K)
def tupN (l : List Nat) : D := .tup (natL l)
def setsD (n : Nat) (K : Nat → Nat) : D := .lst ((setsN n K).map tupN)
theorem sort_reps {n : Nat} {K : Nat → Nat} (le : ∀ p, p < n → K p ≤ p) (id : ∀ p, p < n → K (K p) = K p) : sortU (kL n K) = (reps n K).map fun k : Nat => (k : Int) := by
  refine pw_uniq (R := (· < ·)) (fun x y h1 h2 => by omega) (sortU_pw _) ?_ fun x => ?_
  · rw [List.pairwise_map]
    refine (List.Pairwise.filter _ List.pairwise_lt_range).imp fun {x y} h => ?_
    omega
  · rw [sortU_mem]
    unfold kL reps
    rw [List.mem_map, List.mem_map]
    constructor
    · rintro ⟨p, hp, rfl⟩
      have hp := List.mem_range.mp hp
      have := le p hp
      exact ⟨K p, List.mem_filter.mpr ⟨List.mem_range.mpr (by omega), decide_eq_true (id p hp)⟩, rfl⟩
    · rintro ⟨k, hk, rfl⟩
      have h1 := List.mem_filter.mp hk
      exact ⟨k, h1.1, by rw [of_decide_eq_true h1.2]⟩
theorem enum_range (f : Nat → D) : ∀ (m j : Nat), enumL j ((List.range' j m).map f) = (List.range' j m).map fun i : Nat => .tup [.int (i : Int), f i]
  | 0, j => rfl
  | m + 1, j => by
    rw [List.range'_succ, List.map_cons, List.map_cons]
    show D.tup [.int (j : Int), f j] :: enumL (j + 1) _ = _
    rw [enum_range f m (j + 1)]
theorem sets_ok {n : Nat} (hn : n ≤ 10) {K : Nat → Nat} (le : ∀ p, p < n → K p ≤ p) (id : ∀ p, p < n → K (K p) = K p) (g : G) : F_sets_of [kD n K] g = some (setsD n K, g) := by
  have sz := sizeLine_eq
  have hs := sort_reps le id
  have it : itemsD (kD n K) = some ((List.range n).map fun i : Nat => .int (K i : Int)) := rfl
  have e1 : lcL (bName 1) tYesD (eVar 1) [some (.d (kD n K)), none, none, none] ((List.range n).map fun i : Nat => D.int (K i : Int)) g = some ((List.range n).map (fun i : Nat => D.int (K i : Int)), g) := by
    refine lcL_on fun i _ => ⟨_, rfl, ?_⟩
    generalize kD n K = KD at *
    generalize (K i : Int) = KI at *
    simp -implicitDefEqProofs [setR]
  have ti : tupInts ((List.range n).map fun i : Nat => D.int (K i : Int)) = some (kL n K) := by
    have := tupInts_map (kL n K)
    unfold kL at this ⊢
    rw [List.map_map] at this
    exact this
  have l64 : (kL n K).length < 64 := by unfold kL; rw [List.length_map, List.length_range]; omega
  have er : (List.range n).map (fun i : Nat => D.int (K i : Int)) = (List.range' 0 n).map (fun i : Nat => D.int (K i : Int)) := by rw [List.range_eq_range']
  have en : enumM [kD n K] = some ((List.range n).map fun i : Nat => .tup [.int (i : Int), .int (K i : Int)]) := by
    show some (enumL 0 ((List.range n).map fun i : Nat => D.int (K i : Int))) = _
    rw [er, enum_range, List.range_eq_range']
  have e2 : lcL (bName 2) tYesD (eBi tupleD (aCons (eO (eLcA [3, 1] (aIt enumM (aCons (eVar 0) aNil)) (bTup (bsCons (bName 3) (bsCons (bName 1) bsNil))) (tCmp eqD (eVar 1) (eVar 2)) (eVar 3))) aNil)) [some (.d (kD n K)), none, none, none] ((reps n K).map fun k : Nat => D.int (k : Int)) g = some ((reps n K).map (fun k => tupN (blk n K k)), g) := by
    refine lcL_on fun k hk => ⟨_, rfl, ?_⟩
    have e3 : lcL (bTup (bsCons (bName 3) (bsCons (bName 1) bsNil))) (tCmp eqD (eVar 1) (eVar 2)) (eVar 3) [some (.d (kD n K)), none, some (.d (.int (k : Int))), none] ((List.range n).map fun i : Nat => .tup [.int (i : Int), .int (K i : Int)]) g
        = some ((((List.range n).filter fun p => decide (K p = k)).map fun i : Nat => i).map (fun i : Nat => D.int (i : Int)), g) := by
      refine lc_typedF (List.range n) fun i hi => ⟨[some (.d (kD n K)), some (.d (.int (K i : Int))), some (.d (.int (k : Int))), some (.d (.int (i : Int)))], rfl, ?_, fun _ => ?_⟩
      · have q := eqD_int (K i : Int) (k : Int)
        have dd : decide (K i = k) = decide ((K i : Int) = (k : Int)) := decide_eq_decide.mpr ⟨fun h => by rw [h], fun h => by omega⟩
        rw [dd]
        generalize kD n K = KD at *
        generalize decide ((K i : Int) = (k : Int)) = BB at *
        generalize (K i : Int) = KI at *
        generalize (k : Int) = KK at *
        simp -implicitDefEqProofs [q]
      · generalize kD n K = KD at *
        simp -implicitDefEqProofs
    rw [List.map_id'] at e3
    have e3 : lcL (bTup (bsCons (bName 3) (bsCons (bName 1) bsNil))) (tCmp eqD (eVar 1) (eVar 2)) (eVar 3) [some (.d (kD n K)), none, some (.d (.int (k : Int))), none] ((List.range n).map fun i : Nat => .tup [.int (i : Int), .int (K i : Int)]) g = some (natL (blk n K k), g) := e3
    have zz : (natL (blk n K k)).length ≤ sizeLine := by
      unfold natL blk
      rw [List.length_map]
      have := List.length_filter_le (fun p => decide (K p = k)) (List.range n)
      rw [List.length_range] at this
      omega
    have tp : tupleD [.lst (natL (blk n K k))] = some (tupN (blk n K k)) := rfl
    generalize tupN (blk n K k) = TN at *
    generalize natL (blk n K k) = NL at *
    generalize (List.range n).map (fun i : Nat => D.tup [.int (i : Int), .int (K i : Int)]) = EL at *
    generalize kD n K = KD at *
    generalize (k : Int) = KK at *
    simp -implicitDefEqProofs [setR, wipeR, en, e3, zz, tp]
  have zz : ((reps n K).map (fun k => tupN (blk n K k))).length ≤ sizeLine := by
    rw [List.length_map]
    unfold reps
    have := List.length_filter_le (fun p => decide (K p = p)) (List.range n)
    rw [List.length_range] at this
    omega
  have sd : setsD n K = .lst ((reps n K).map (fun k => tupN (blk n K k))) := by unfold setsD setsN; rw [List.map_map]; rfl
  have es : (sortU (kL n K)).map D.int = (reps n K).map fun k : Nat => D.int (k : Int) := by rw [hs, List.map_map]; rfl
  rw [sd]
  refine runF_rt ?_
  clear hs e1 er
  generalize (reps n K).map (fun k => tupN (blk n K k)) = RT at *
  generalize (reps n K).map (fun k : Nat => D.int (k : Int)) = RI at *
  have e1 : lcL (bName 1) tYesD (eVar 1) [some (.d (kD n K)), none, none, none] ((List.range n).map fun i : Nat => D.int (K i : Int)) g = some ((List.range n).map (fun i : Nat => D.int (K i : Int)), g) := by
    refine lcL_on fun i _ => ⟨_, rfl, ?_⟩
    generalize kD n K = KD at *
    generalize (K i : Int) = KI at *
    simp -implicitDefEqProofs [setR]
  generalize kL n K = KL at *
  generalize (List.range n).map (fun i : Nat => D.int (K i : Int)) = IL at *
  generalize kD n K = KD at *
  simp -implicitDefEqProofs [s_sets_of, slots0, it, e1, ti, l64, es, e2, zz]
theorem blocks_ok {a : Arena} (ha : ArenaOk a) {ts : List (List Str)} (h1 : 1 ≤ ts.length) (h6 : ts.length ≤ 6) (hg : ∀ t ∈ ts, GroupOk a t) : ∃ K : Nat → Nat, Final a.places.length (mkOf a) (ts.map (tabN a)) K ∧ ∀ g, F_blocks [a.d, .tup (ts.map tupS)] g = some (setsD a.places.length K, g) := by
  obtain ⟨L0, K, _, hK⟩ := levels_ok ha h6 hg []
  refine ⟨K, hK, fun g => ?_⟩
  obtain ⟨L, K2, e, hK2⟩ := levels_ok ha h6 hg g
  have hin : TabsIn a.places.length (ts.map (tabN a)) := fun T hT => by
    obtain ⟨t, _, rfl⟩ := List.mem_map.mp hT
    exact tabN_in ha t
  have es : setsD a.places.length K2 = setsD a.places.length K := by
    have eq : ∀ p, p < a.places.length → K2 p = K p := fun p hp => final_same hK2 hK hin hin (fun _ => Iff.rfl) hp
    have er : reps a.places.length K2 = reps a.places.length K := List.filter_congr fun k hk => by rw [eq k (List.mem_range.mp hk)]
    have eb : ∀ k, blk a.places.length K2 k = blk a.places.length K k := fun k => List.filter_congr fun p hp => by rw [eq p (List.mem_range.mp hp)]
    unfold setsD setsN
    rw [er, List.map_congr_left fun k _ => eb k]
  rw [← es]
  have ng := needGroups_ok ha h1 h6 hg g
  have so := sets_ok ha.p10 hK2.le hK2.idem g
  have al : ixD g (.lst (L ++ [kD a.places.length K2])) (.int (-1)) = some (kD a.places.length K2) := atI_last
  refine runF_rt ?_
  generalize setsD a.places.length K2 = SD at *
  generalize L ++ [kD a.places.length K2] = LL at *
  generalize kD a.places.length K2 = KD at *
  generalize D.tup (ts.map tupS) = TT at *
  generalize a.d = AD at *
  have al2 : L2.atI LL (-1) = some KD := al
  simp -implicitDefEqProofs [s_blocks, slots0, ng, e, al, al2, so]
end L_k48
end
section
set_option Elab.async false
set_option linter.all false
set_option maxRecDepth 100000
set_option maxHeartbeats 4000000
set_option autoImplicit false
namespace L_k48
open PySem PD L2
/-! ### what the sets are -/
structure Canon (n : Nat) (K : Nat → Nat) : Prop where
  le : ∀ p, p < n → K p ≤ p
  id : ∀ p, p < n → K (K p) = K p
theorem Final.canon {α : Type} {n : Nat} {mk : Nat → α} {Ts : List Tab} {K : Nat → Nat} (h : Final n mk Ts K) : Canon n K := ⟨h.le, h.idem⟩
theorem mem_blk {n : Nat} {K : Nat → Nat} {k p : Nat} : p ∈ blk n K k ↔ p < n ∧ K p = k := by
  unfold blk
  rw [List.mem_filter, List.mem_range, decide_eq_true_eq]
theorem mem_reps {n : Nat} {K : Nat → Nat} {k : Nat} : k ∈ reps n K ↔ k < n ∧ K k = k := by
  unfold reps
  rw [List.mem_filter, List.mem_range, decide_eq_true_eq]
theorem blk_up (n : Nat) (K : Nat → Nat) (k : Nat) : (blk n K k).Pairwise (· < ·) := List.Pairwise.filter _ List.pairwise_lt_range
theorem reps_up (n : Nat) (K : Nat → Nat) : (reps n K).Pairwise (· < ·) := List.Pairwise.filter _ List.pairwise_lt_range
theorem blk_head {n : Nat} {K : Nat → Nat} (c : Canon n K) {k : Nat} (hk : k ∈ reps n K) : ∃ t, blk n K k = k :: t := by
  have hk := mem_reps.mp hk
  have hm : k ∈ blk n K k := mem_blk.mpr hk
  have hu := blk_up n K k
  cases h : blk n K k with
  | nil => rw [h] at hm; simp at hm
  | cons x t =>
    rw [h] at hm hu
    have hx : x ∈ blk n K k := by rw [h]; exact List.mem_cons_self
    have hx := mem_blk.mp hx
    have := c.le x hx.1
    rcases List.mem_cons.mp hm with rfl | hm
    · exact ⟨t, rfl⟩
    · have := List.rel_of_pairwise_cons hu hm
      omega
def rowI (l : List Nat) : List Int := l.map fun i : Nat => (i : Int)
theorem tupN_rowI (l : List Nat) : tupN l = .tup ((rowI l).map .int) := by unfold tupN natL rowI; rw [List.map_map]; rfl
theorem natL_rowI (l : List Nat) : natL l = (rowI l).map .int := by unfold natL rowI; rw [List.map_map]; rfl
theorem sets_iso {n : Nat} {K : Nat → Nat} (c : Canon n K) : isoD ((setsN n K).map tupN) = (setsN n K).map tupN := by
  have e : (setsN n K).map tupN = ((setsN n K).map rowI).map fun r => D.tup (r.map .int) := by
    rw [List.map_map]
    exact List.map_congr_left fun r _ => tupN_rowI r
  rw [e, isoD_eq, isoG_map (lt := fun x y : List Int => HT.lexLt x y) (fun r : List Int => D.tup (r.map .int)) (fun x y => ltB_ti x y)]
  congr 1
  refine (isoG_uniq (swoT fun x : List Int => x) ?_ (SrtO.Stb.refl _)).symm
  show ((setsN n K).map rowI).Pairwise fun x y => HT.lexLt y x = false
  unfold setsN
  rw [List.map_map, List.pairwise_map]
  refine (reps_up n K).imp_of_mem fun {x y} hx hy h => ?_
  obtain ⟨t, ex⟩ := blk_head c hx
  obtain ⟨u, ey⟩ := blk_head c hy
  show HT.lexLt (rowI (blk n K y)) (rowI (blk n K x)) = false
  rw [ex, ey]
  show HT.lexLt ((y : Int) :: rowI u) ((x : Int) :: rowI t) = false
  rw [HT.lexLt_cons, if_neg (by omega)]
  exact decide_eq_false (by omega)
theorem nodup_count {l m : List Nat} (h : l.Nodup) (h2 : m.Nodup) (e : ∀ x, x ∈ l ↔ x ∈ m) : l.Perm m := by
  exact (List.perm_ext_iff_of_nodup h h2).mpr e
theorem sets_flat {n : Nat} {K : Nat → Nat} (c : Canon n K) : (setsN n K).flatten.Perm (List.range n) := by
  refine nodup_count ?_ List.nodup_range fun x => ?_
  · show (setsN n K).flatten.Pairwise _
    rw [List.pairwise_flatten]
    refine ⟨fun l hl => ?_, ?_⟩
    · obtain ⟨k, _, rfl⟩ := List.mem_map.mp hl
      exact (blk_up n K k).imp fun {x y} h => by omega
    · unfold setsN
      rw [List.pairwise_map]
      refine (reps_up n K).imp fun {x y} h a ha b hb => ?_
      have ha := mem_blk.mp ha
      have hb := mem_blk.mp hb
      intro e
      subst e
      omega
  · rw [List.mem_flatten, List.mem_range]
    constructor
    · rintro ⟨l, hl, hx⟩
      obtain ⟨k, _, rfl⟩ := List.mem_map.mp hl
      exact (mem_blk.mp hx).1
    · intro hx
      have := c.le x hx
      exact ⟨blk n K (K x), List.mem_map.mpr ⟨K x, mem_reps.mpr ⟨by omega, c.id x hx⟩, rfl⟩, mem_blk.mpr ⟨hx, rfl⟩⟩
theorem sets_len {n : Nat} {K : Nat → Nat} : (setsN n K).length ≤ n := by
  unfold setsN reps
  rw [List.length_map]
  have := List.length_filter_le (fun k => decide (K k = k)) (List.range n)
  rw [List.length_range] at this
  exact this
theorem blk_len {n : Nat} {K : Nat → Nat} {k : Nat} : (blk n K k).length ≤ n := by
  unfold blk
  have := List.length_filter_le (fun p => decide (K p = k)) (List.range n)
  rw [List.length_range] at this
  exact this
theorem kdN : Kd (fun l : List Int => D.tup (l.map .int)) 1 := kdI.tup
theorem eqq_tI (x y : List Int) : eqq (D.tup (x.map .int)) (D.tup (y.map .int)) = decide (x = y) := by rw [eqq_tup, eqqA_map eqq_int]
/-- equal lists of rows -/
theorem ne_rows (S U : List (List Nat)) : neD (.lst (S.map tupN)) (.lst (U.map tupN)) = some (!decide (S.map rowI = U.map rowI)) := by
  have e : ∀ S : List (List Nat), S.map tupN = (S.map rowI).map fun r => D.tup (r.map .int) := fun S => by
    rw [List.map_map]
    exact List.map_congr_left fun r _ => tupN_rowI r
  rw [e, e, neD_of (kdN.lst.ok (by omega) _) (kdN.lst.ok (by omega) _), eqq_lst, eqqA_map eqq_tI]
theorem ne_same (S : List (List Nat)) : neD (.lst (S.map tupN)) (.lst (S.map tupN)) = some false := by
  rw [ne_rows, decide_eq_true rfl]
  rfl
theorem ti_all (S : List (List Nat)) (h : ∀ r ∈ S, r ≠ []) : (S.map tupN).all isTI = true := by
  rw [List.all_map, List.all_eq_true]
  intro r hr
  cases r with
  | nil => exact absurd rfl (h [] hr)
  | cons x t =>
    show (natL (x :: t)).all isInt = true
    rw [natL_rowI]
    exact all_map (fun _ => rfl) _
theorem sorted_sets {n : Nat} {K : Nat → Nat} (c : Canon n K) : sortedTM [setsD n K] = some (setsD n K) := by
  have h : ∀ r ∈ setsN n K, r ≠ [] := fun r hr => by
    obtain ⟨k, hk, rfl⟩ := List.mem_map.mp hr
    obtain ⟨t, e⟩ := blk_head c hk
    rw [e]
    simp
  show (sortD ((setsN n K).map tupN)).map D.lst = _
  unfold sortD
  rw [if_pos (by rw [ti_all _ h, Bool.or_true]), sets_iso c]
  rfl
theorem all_ints (l : List Nat) : (natL l).all isInt = true := by
  rw [natL_rowI]
  exact all_map (fun _ => rfl) _
theorem sorted_row {l : List Nat} (h : l.Pairwise (· < ·)) : sortedTM [tupN l] = some (.lst (natL l)) := by
  show (if (natL l).all isInt = true then some (D.lst (isoD (natL l))) else none) = _
  rw [if_pos (all_ints l), natL_rowI, isoI (List.Perm.refl _) (by
    unfold rowI
    rw [List.pairwise_map]
    exact h.imp fun {x y} q => by omega)]
theorem sorted_flat {n : Nat} {l : List Nat} (h : l.Perm (List.range n)) : sortedTM [.lst (natL l)] = some (.lst (natL (List.range n))) := by
  show (sortD (natL l)).map D.lst = _
  unfold sortD
  have hu : (rowI (List.range n)).Pairwise (· ≤ ·) := by
    unfold rowI
    rw [List.pairwise_map]
    exact List.pairwise_lt_range.imp fun {x y} q => by omega
  have hp : (rowI (List.range n)).Perm (rowI l) := h.symm.map _
  have hi := isoI hp hu
  rw [if_pos (by rw [all_ints l]; simp), natL_rowI, natL_rowI, hi]
  rfl
theorem rep_range : ∀ n, n < 11 → cmpOk (.lst (natL (List.range n))) = true ∧ shB (.lst (natL (List.range n))) = true ∧ shW (.lst (natL (List.range n))) ≤ 16777216 := by decide +kernel
theorem ne_ints (l m : List Nat) : neD (.lst (natL l)) (.lst (natL m)) = some (!decide (rowI l = rowI m)) := by
  rw [natL_rowI, natL_rowI, neD_of (kdI.lst.ok (by omega) _) (kdI.lst.ok (by omega) _), eqq_lst, eqqA_map eqq_int]
noncomputable def irB : S := (sSeq (sIf (tOr (tNot (tE (eIsi .tup (eVar 3)))) (tOr (tCmp eqD (eVar 3) (eTup aNil)) (tCmp neD (eBi listD (aCons (eVar 3) aNil)) (eBi sortedTM (aCons (eVar 3) aNil))))) (sRet (eC (.bl false))) sNil)
   (sExtV 2 (eVar 3)))
theorem eq_nil {x : Nat} {t : List Nat} : eqD (tupN (x :: t)) (.tup []) = some false := by
  rw [tupN_rowI, eqD_of (kdN.ok (by omega) _) rfl, eqq_tup]
  rfl
theorem ir_for {x0 x1 : D} {g : G} : ∀ (S : List (List Nat)) (F : List Nat) (o3 : Option LV), (∀ r ∈ S, r ≠ [] ∧ r.Pairwise (· < ·) ∧ r.length ≤ 10) → F.length + 10 * S.length ≤ 1000 → ∃ o3',
    forL (bName 3) irB (S.map tupN) [some (.d x0), some (.d x1), some (.ol (natL F)), o3] g = some (.nx [some (.d x0), some (.d x1), some (.ol (natL (F ++ S.flatten))), o3'], g)
  | [], F, o3, _, _ => ⟨o3, by rw [List.flatten_nil, List.append_nil]; rfl⟩
  | r :: S, F, o3, h, hz => by
    have sz := sizeLine_eq
    obtain ⟨h1, h2, h3⟩ := h r List.mem_cons_self
    rw [List.length_cons] at hz
    obtain ⟨p3, e⟩ := ir_for (x0 := x0) (x1 := x1) (g := g) S (F ++ r) (some (.d (tupN r))) (fun q hq => h q (List.mem_cons_of_mem _ hq)) (by rw [List.length_append]; omega)
    refine ⟨p3, ?_⟩
    have sr := sorted_row h2
    have ld : listD [tupN r] = some (.lst (natL r)) := rfl
    have nn : neD (.lst (natL r)) (.lst (natL r)) = some false := by rw [ne_ints, decide_eq_true rfl]; rfl
    have qq : eqD (tupN r) (.tup []) = some false := by
      cases r with
      | nil => exact absurd rfl h1
      | cons x t => exact eq_nil
    have it : itemsD (tupN r) = some (natL r) := rfl
    have ea : natL (F ++ r) = natL F ++ natL r := by unfold natL; rw [List.map_append]
    have zl : (natL F).length + (natL r).length ≤ sizeLine := by unfold natL; rw [List.length_map, List.length_map]; omega
    have is : isiD .tup (tupN r) = some true := rfl
    rw [List.flatten_cons, ← List.append_assoc, List.map_cons, forL_cons]
    rw [ea] at e
    have ez : seqD (tupN r) = some (natL r) := rfl
    have hd : irB [some (.d x0), some (.d x1), some (.ol (natL F)), some (.d (tupN r))] g = some (.nx [some (.d x0), some (.d x1), some (.ol (natL F ++ natL r)), some (.d (tupN r))], g) := by
      clear e h h1 h2 h3 hz
      have et : tupN r = .tup (natL r) := rfl
      have sr : sortedTM [.tup (natL r)] = some (.lst (natL r)) := sr
      have ld : listD [.tup (natL r)] = some (.lst (natL r)) := ld
      have qq : eqD (.tup (natL r)) (.tup []) = some false := qq
      rw [et]
      clear it is ez et
      generalize natL r = NR at *
      generalize natL F = NF at *
      have is : isiD .tup (.tup NR) = some true := rfl
      simp -implicitDefEqProofs [irB, setR, sr, ld, nn, qq, zl, is]
    generalize natL (F ++ r ++ S.flatten) = NZ at *
    generalize natL F ++ natL r = NFR at *
    generalize tupN r = TR at *
    generalize natL F = NF at *
    generalize S.map tupN = ST at *
    generalize irB = IB at *
    simp -implicitDefEqProofs [bName, setR, hd, e]
theorem isRight_ok {n : Nat} (hn : n ≤ 10) {K : Nat → Nat} (c : Canon n K) (g : G) : F__law_is_right [setsD n K, .int (n : Int)] g = some (.bl true, g) := by
  have sz := sizeLine_eq
  obtain ⟨o3, e⟩ := ir_for (x0 := setsD n K) (x1 := .int (n : Int)) (g := g) (setsN n K) [] none (fun r hr => by
    obtain ⟨k, hk, rfl⟩ := List.mem_map.mp hr
    obtain ⟨t, e⟩ := blk_head c hk
    exact ⟨by rw [e]; simp, blk_up n K k, by have := blk_len (n := n) (K := K) (k := k); omega⟩) (by have := sets_len (n := n) (K := K); simp; omega)
  have ss := sorted_sets c
  have nn : neD (setsD n K) (setsD n K) = some false := ne_same _
  have is : isiD .lst (setsD n K) = some true := rfl
  have it : itemsD (setsD n K) = some ((setsN n K).map tupN) := rfl
  rw [List.nil_append] at e
  have sf := sorted_flat (sets_flat c)
  obtain ⟨r1, r2, r3⟩ := rep_range n (by omega)
  have rp := reprD_of r1 r2 r3
  have up : upD (.int (n : Int)) = some (natL (List.range n)) := by
    show (if 0 ≤ (n : Int) ∧ (n : Int) ≤ 16777216 then some ((upto (n : Int)).map D.int) else none) = _
    rw [if_pos ⟨by omega, by omega⟩]
    unfold PD.upto
    have : ((n : Int)).toNat = n := by omega
    rw [this, List.map_map]
    rfl
  have zr : (natL (List.range n)).length ≤ sizeLine := by unfold natL; rw [List.length_map, List.length_range]; omega
  have eqs : ∀ x : Str, eqD (.str x) (.str x) = some true := fun x => by rw [eqD_of rfl rfl, eqq_str, decide_eq_true rfl]
  have n0 : natL [] = [] := rfl
  rw [n0] at e
  unfold irB at e
  clear r1 r2 r3
  refine runF_rt ?_
  generalize shows (.lst (natL (List.range n))) = SH at *
  generalize natL (List.range n) = NR at *
  generalize natL (setsN n K).flatten = NF at *
  generalize (setsN n K).map tupN = ST at *
  generalize setsD n K = SD at *
  generalize (n : Int) = N at *
  have z0 : (0 : Nat) ≤ sizeLine := by omega
  simp -implicitDefEqProofs [s__law_is_right, slots0, ss, nn, is, it, e, sf, rp, up, zr, eqs, z0]
end L_k48
end
section
set_option Elab.async false
set_option linter.all false
set_option maxRecDepth 100000
set_option maxHeartbeats 4000000
set_option autoImplicit false
namespace L_k48
open PySem PD L2
/-! ### each set of the one within one of the other -/
noncomputable def wiB : S := (sIf (tCmp eqD (eO (eLcA [3] (aItem (eVar 1)) (bName 3) (tCmp eqD (eO (eLcA [4] (aItem (eVar 2)) (bName 4) (tCmp notInD (eVar 4) (eVar 3)) (eVar 4))) (eLst aNil)) (eVar 3))) (eLst aNil)) (sRet (eC (.bl false))) sNil)
theorem eq_ints0 (l : List Int) : eqD (.lst (l.map .int)) (.lst []) = some (decide (l = [])) := by
  rw [eqD_of (kdI.lst.ok (by omega) _) rfl]
  have : eqq (.lst (l.map .int)) (.lst (([] : List Int).map .int)) = decide (l = []) := by rw [eqq_lst, eqqA_map eqq_int]
  exact congrArg some this
theorem ne_rows0 (S : List (List Nat)) : eqD (.lst (S.map tupN)) (.lst []) = some (decide (S = [])) := by
  cases S with
  | nil => decide +kernel
  | cons r S =>
    have e : (r :: S).map tupN = ((r :: S).map rowI).map fun r => D.tup (r.map .int) := by
      rw [List.map_map]
      exact List.map_congr_left fun r _ => tupN_rowI r
    rw [e, eqD_of (kdN.lst.ok (by omega) _) rfl, eqq_lst, decide_eq_false (by simp)]
    rfl
theorem wi_for {U : List (List Nat)} (hU : U.length ≤ 100) {x0 : D} {g : G} : ∀ (S : List (List Nat)) (o2 : Option LV), (∀ r ∈ S, r.length ≤ 100 ∧ ∃ u ∈ U, ∀ x ∈ r, x ∈ u) → ∃ o2',
    forL (bName 2) wiB (S.map tupN) [some (.d x0), some (.d (.lst (U.map tupN))), o2, none, none] g = some (.nx [some (.d x0), some (.d (.lst (U.map tupN))), o2', none, none], g)
  | [], o2, _ => ⟨o2, rfl⟩
  | r :: S, o2, h => by
    have sz := sizeLine_eq
    obtain ⟨rl, u, hu, hs⟩ := h r List.mem_cons_self
    obtain ⟨p2, e⟩ := wi_for hU (x0 := x0) (g := g) S (some (.d (tupN r))) fun q hq => h q (List.mem_cons_of_mem _ hq)
    refine ⟨p2, ?_⟩
    have e1 : lcL (bName 3) (tCmp eqD (eO (eLcA [4] (aItem (eVar 2)) (bName 4) (tCmp notInD (eVar 4) (eVar 3)) (eVar 4))) (eLst aNil)) (eVar 3) [some (.d x0), some (.d (.lst (U.map tupN))), some (.d (tupN r)), none, none] (U.map tupN) g
        = some (((U.filter fun v => decide (((rowI r).filter fun x => !decide (x ∈ rowI v)) = [])).map id).map tupN, g) := by
      refine lc_typedF U fun v hv => ⟨_, rfl, ?_, fun _ => ?_⟩
      · have e2 : lcL (bName 4) (tCmp notInD (eVar 4) (eVar 3)) (eVar 4) [some (.d x0), some (.d (.lst (U.map tupN))), some (.d (tupN r)), some (.d (tupN v)), none] ((rowI r).map .int) g
            = some ((((rowI r).filter fun x => !decide (x ∈ rowI v)).map id).map .int, g) := by
          refine lc_typedF (rowI r) fun x hx => ⟨_, rfl, ?_, fun _ => ?_⟩
          · have ni : notInD (.int x) (tupN v) = some (!decide (x ∈ rowI v)) := by rw [tupN_rowI]; exact notInD_intsT x (rowI v)
            generalize tupN v = TV at *
            generalize tupN r = TR at *
            generalize (!decide (x ∈ rowI v)) = BB at *
            generalize D.lst (U.map tupN) = UL at *
            simp -implicitDefEqProofs [setR, ni]
          · generalize tupN v = TV at *
            generalize tupN r = TR at *
            generalize D.lst (U.map tupN) = UL at *
            simp -implicitDefEqProofs [setR]
        rw [List.map_id] at e2
        have it : itemsD (tupN r) = some ((rowI r).map .int) := by rw [tupN_rowI]; rfl
        have z1 : (((rowI r).filter fun x => !decide (x ∈ rowI v)).map D.int).length ≤ sizeLine := by
          rw [List.length_map]
          have := List.length_filter_le (fun x => !decide (x ∈ rowI v)) (rowI r)
          have h2 : (rowI r).length = r.length := List.length_map _
          omega
        have q := eq_ints0 ((rowI r).filter fun x => !decide (x ∈ rowI v))
        generalize decide (((rowI r).filter fun x => !decide (x ∈ rowI v)) = []) = BB at *
        generalize ((rowI r).filter fun x => !decide (x ∈ rowI v)).map D.int = FL at *
        generalize (rowI r).map D.int = RL at *
        generalize tupN v = TV at *
        generalize tupN r = TR at *
        generalize D.lst (U.map tupN) = UL at *
        simp -implicitDefEqProofs [setR, wipeR, it, e2, z1, q]
      · generalize tupN r = TR at *
        generalize D.lst (U.map tupN) = UL at *
        simp -implicitDefEqProofs [setR]
    rw [List.map_id] at e1
    have hne : ¬ (U.filter fun v => decide (((rowI r).filter fun x => !decide (x ∈ rowI v)) = [])) = [] := fun q => by
      have : u ∈ U.filter fun v => decide (((rowI r).filter fun x => !decide (x ∈ rowI v)) = []) := by
        refine List.mem_filter.mpr ⟨hu, decide_eq_true ?_⟩
        rw [List.filter_eq_nil_iff]
        intro z hz
        obtain ⟨x, hx, rfl⟩ := List.mem_map.mp hz
        have : (x : Int) ∈ rowI u := List.mem_map.mpr ⟨x, hs x hx, rfl⟩
        simp [this]
      rw [q] at this
      simp at this
    have q := ne_rows0 (U.filter fun v => decide (((rowI r).filter fun x => !decide (x ∈ rowI v)) = []))
    rw [decide_eq_false hne] at q
    have z2 : ((U.filter fun v => decide (((rowI r).filter fun x => !decide (x ∈ rowI v)) = [])).map tupN).length ≤ sizeLine := by
      rw [List.length_map]
      have := List.length_filter_le (fun v => decide (((rowI r).filter fun x => !decide (x ∈ rowI v)) = [])) U
      omega
    have it : itemsD (.lst (U.map tupN)) = some (U.map tupN) := rfl
    rw [List.map_cons, forL_cons]
    have hd : wiB [some (.d x0), some (.d (.lst (U.map tupN))), some (.d (tupN r)), none, none] g = some (.nx [some (.d x0), some (.d (.lst (U.map tupN))), some (.d (tupN r)), none, none], g) := by
      clear hne e h hs hu
      generalize (U.filter fun v => decide (((rowI r).filter fun x => !decide (x ∈ rowI v)) = [])).map tupN = FL at *
      generalize tupN r = TR at *
      generalize U.map tupN = UL at *
      simp -implicitDefEqProofs [wiB, wipeR, e1, q, z2]
    generalize tupN r = TR at *
    generalize U.map tupN = UL at *
    generalize S.map tupN = SL at *
    generalize wiB = WB at *
    simp -implicitDefEqProofs [bName, setR, hd, e]
theorem within_ok {S U : List (List Nat)} (hU : U.length ≤ 100) (h : ∀ r ∈ S, r.length ≤ 100 ∧ ∃ u ∈ U, ∀ x ∈ r, x ∈ u) (g : G) : F__law_within [.lst (S.map tupN), .lst (U.map tupN)] g = some (.bl true, g) := by
  obtain ⟨o2, e⟩ := wi_for hU (x0 := .lst (S.map tupN)) (g := g) S none h
  unfold wiB at e
  refine runF_rt ?_
  generalize S.map tupN = SL at *
  generalize U.map tupN = UL at *
  simp -implicitDefEqProofs [s__law_within, slots0, e]
theorem sets_within {n : Nat} (hn : n ≤ 10) {K L : Nat → Nat} (c : Canon n K) (c2 : Canon n L) (h : ∀ p q, p < n → q < n → K p = K q → L p = L q) (g : G) : F__law_within [setsD n K, setsD n L] g = some (.bl true, g) := by
  refine within_ok (by have := sets_len (n := n) (K := L); omega) (fun r hr => ?_) g
  obtain ⟨k, hk, rfl⟩ := List.mem_map.mp hr
  refine ⟨by have := blk_len (n := n) (K := K) (k := k); omega, ?_⟩
  have hk := mem_reps.mp hk
  have := c2.le k hk.1
  refine ⟨blk n L (L k), List.mem_map.mpr ⟨L k, mem_reps.mpr ⟨by omega, c2.id k hk.1⟩, rfl⟩, fun x hx => ?_⟩
  have hx := mem_blk.mp hx
  exact mem_blk.mpr ⟨hx.1, h x k hx.1 hk.1 (by rw [hx.2, hk.2])⟩
theorem sets_eq {n : Nat} {K L : Nat → Nat} (h : ∀ p, p < n → K p = L p) : setsD n K = setsD n L := by
  have er : reps n K = reps n L := List.filter_congr fun k hk => by rw [h k (List.mem_range.mp hk)]
  have eb : ∀ k, blk n K k = blk n L k := fun k => List.filter_congr fun p hp => by rw [h p (List.mem_range.mp hp)]
  unfold setsD setsN
  rw [er, List.map_congr_left fun k _ => eb k]
theorem tabs_in {a : Arena} (ha : ArenaOk a) (ts : List (List Str)) : TabsIn a.places.length (ts.map (tabN a)) := fun T hT => by
  obtain ⟨t, _, rfl⟩ := List.mem_map.mp hT
  exact tabN_in ha t
/-! ### rows are there -/
theorem tabN_some {a : Arena} (ha : ArenaOk a) (gr : List Str) {p : Nat} (hp : p < a.places.length) : tabN a gr p ≠ [] ∧ ∀ m ∈ tabN a gr p, m ≠ [] := by
  have h1 : a.places[p]? = some a.places[p] := List.getElem?_eq_getElem hp
  have hm := List.mem_of_getElem? h1
  have c1 := (choices_36 (gr := gr) ha hm).1
  have c2 := (choices_36 (gr := restOf a gr) ha hm).1
  unfold tabN
  rw [h1]
  refine ⟨fun q => ?_, fun m hm2 q => ?_⟩
  · have : (choices a a.places[p] gr).length = 0 := by
      have := congrArg List.length q
      simpa using this
    omega
  · obtain ⟨c, _, rfl⟩ := List.mem_map.mp hm2
    have : (choices a a.places[p] (restOf a gr)).length = 0 := by
      have := congrArg List.length q
      simpa using this
    omega
/-! ### without marks all are alike -/
def bareP (p : Place) : Place := ⟨[], p.counts, p.nexts⟩
def bareA (a : Arena) : Arena := ⟨a.names, a.places.map bareP⟩
theorem bare_ok {a : Arena} (ha : ArenaOk a) : ArenaOk (bareA a) := by
  have hl : (bareA a).places.length = a.places.length := List.length_map _
  refine ⟨ha.nm, ha.n1, ha.n4, by rw [hl]; exact ha.p1, by rw [hl]; exact ha.p10, fun p hp => ?_⟩
  obtain ⟨q, hq, rfl⟩ := List.mem_map.mp hp
  have h := ha.pl q hq
  rw [hl]
  exact ⟨⟨fun x hx => by simp [bareP] at hx, List.Pairwise.nil⟩, Nat.zero_le _, h.cl, h.cn, h.nl, h.n36, h.nx⟩
theorem bare_group {a : Arena} {gr : List Str} (h : GroupOk a gr) : GroupOk (bareA a) gr := ⟨h.nm, h.sub⟩
theorem bare_one {a : Arena} (ha : ArenaOk a) (hm : ∀ p ∈ a.places, p.marks = []) {ts : List (List Str)} {K : Nat → Nat} (hK : Final a.places.length (mkOf a) (ts.map (tabN a)) K) : setsN a.places.length K = [List.range a.places.length] := by
  have h1 := ha.p1
  have mk : ∀ p, p < a.places.length → mkOf a p = some [] := fun p hp => by
    unfold mkOf
    rw [List.getElem?_eq_getElem hp, Option.map_some, hm _ (List.getElem_mem hp)]
  have all : ∀ p, p < a.places.length → K p = 0 := fun p hp => by
    have e := hK.coarse (fun p q => p < a.places.length ∧ q < a.places.length) ⟨fun z => z, fun z => ⟨z.2, z.1⟩, fun z => by rw [mk _ z.1, mk _ z.2], fun {p q} z T hT m hm => by
      obtain ⟨t, _, rfl⟩ := List.mem_map.mp hT
      have tq := (tabN_some ha t z.2).1
      have tm := (tabN_some ha t z.1).2 m hm
      obtain ⟨u, hu⟩ := List.exists_mem_of_ne_nil _ tq
      obtain ⟨y, hy⟩ := List.exists_mem_of_ne_nil _ tm
      exact ⟨u, hu, fun x hx => ⟨y, hy, tabN_in ha t p z.1 m hm y hy, tabN_in ha t q z.2 u hu x hx⟩⟩⟩ p 0 ⟨hp, h1⟩
    have := hK.le 0 h1
    omega
  have er : reps a.places.length K = [0] := by
    have hu := reps_up a.places.length K
    have h0 : 0 ∈ reps a.places.length K := mem_reps.mpr ⟨h1, all 0 h1⟩
    have hz : ∀ x ∈ reps a.places.length K, x = 0 := fun x hx => by
      have hx := mem_reps.mp hx
      rw [← hx.2]
      exact all x hx.1
    cases hr : reps a.places.length K with
    | nil => rw [hr] at h0; simp at h0
    | cons x t =>
      rw [hr] at hu hz
      have ex := hz x List.mem_cons_self
      cases t with
      | nil => rw [ex]
      | cons y t =>
        have := List.rel_of_pairwise_cons hu List.mem_cons_self
        have := hz y (List.mem_cons_of_mem _ List.mem_cons_self)
        omega
  unfold setsN
  rw [er]
  show [blk a.places.length K 0] = _
  congr 1
  unfold blk
  rw [List.filter_eq_self]
  intro p hp
  exact decide_eq_true (all p (List.mem_range.mp hp))
/-! ### twins are alike -/
theorem next_get {n k : Nat} {p : Place} (h : PlaceOk n k p) {J : List Int} (hj : Fits J p.counts) : p.nexts[(idx 0 (J.zip p.counts)).toNat]? = some (nextZ p J) := by
  obtain ⟨i1, i2⟩ := idx_lt (J.zip p.counts) 0 1 (by omega) (by omega) hj.2
  rw [zip_snd hj.1, Int.one_mul, ← rowsC_len fun c hc => by have := h.cn c hc; omega, ← h.nl] at i2
  have := (next_at h hj).1
  rw [atI_of i1 i2] at this
  exact this
theorem twins_alike {a w : Arena} (hw : ArenaOk w) {bs : List Nat} (tw : Twinned a w bs) {ts : List (List Str)} {K : Nat → Nat} (hK : Final w.places.length (mkOf w) (ts.map (tabN w)) K) {p q : Nat} (hp : p < w.places.length) (hq : q < w.places.length) (e : bs[p]? = bs[q]?) : K p = K q := by
  refine hK.coarse (fun p q => p < w.places.length ∧ q < w.places.length ∧ bs[p]? = bs[q]?) ⟨fun z => ⟨z.1, z.2.1⟩, fun z => ⟨z.2.1, z.1, z.2.2.symm⟩, fun {p q} z => ?_, fun {p q} z T hT m hm => ?_⟩ p q ⟨hp, hq, e⟩
  · obtain ⟨hp, hq, e⟩ := z
    have h1 : w.places[p]? = some w.places[p] := List.getElem?_eq_getElem hp
    have h2 : w.places[q]? = some w.places[q] := List.getElem?_eq_getElem hq
    have b1 : bs[p]? = some (bs[p]'(by rw [← tw.ln]; exact hp)) := List.getElem?_eq_getElem _
    obtain ⟨x, x1, x2⟩ := tw.tw p _ _ b1 h1
    obtain ⟨y, y1, y2⟩ := tw.tw q _ _ (e ▸ b1) h2
    rw [x1] at y1
    have exy := Option.some.inj y1
    subst exy
    unfold mkOf
    rw [h1, h2, Option.map_some, Option.map_some, x2.mkq, y2.mkq]
  · obtain ⟨hp, hq, e⟩ := z
    obtain ⟨t, _, rfl⟩ := List.mem_map.mp hT
    have h1 : w.places[p]? = some w.places[p] := List.getElem?_eq_getElem hp
    have h2 : w.places[q]? = some w.places[q] := List.getElem?_eq_getElem hq
    have b1 : bs[p]? = some (bs[p]'(by rw [← tw.ln]; exact hp)) := List.getElem?_eq_getElem _
    obtain ⟨x, x1, x2⟩ := tw.tw p _ _ b1 h1
    obtain ⟨y, y1, y2⟩ := tw.tw q _ _ (e ▸ b1) h2
    rw [x1] at y1
    have exy := Option.some.inj y1
    subst exy
    generalize hPP : w.places[p] = P at *
    generalize hQQ : w.places[q] = Q at *
    have mp := List.mem_of_getElem? h1
    have mq := List.mem_of_getElem? h2
    have ec : P.counts = Q.counts := x2.ct.trans y2.ct.symm
    have ech : ∀ gr, choices w P gr = choices w Q gr := fun gr => by
      unfold choices countsOf
      rw [ec]
    unfold tabN at hm ⊢
    rw [h1] at hm
    rw [h2]
    obtain ⟨c, hc, rfl⟩ := List.mem_map.mp hm
    refine ⟨_, List.mem_map.mpr ⟨c, by rw [← ech]; exact hc, rfl⟩, fun v hv => ?_⟩
    obtain ⟨u, hu, rfl⟩ := List.mem_map.mp hv
    rw [← ech] at hu
    refine ⟨_, List.mem_map.mpr ⟨u, hu, rfl⟩, ?_⟩
    have o1 := out_in hw h1 hc hu
    have o2 := out_in hw h2 (by rw [← ech]; exact hc) (by rw [← ech]; exact hu)
    have f1 := fits_fit.mpr (joint_fit hw mp hc hu)
    have g1 := next_get (hw.pl P mp) f1
    have g2 := next_get (hw.pl Q mq) (J := joint w t c u) (by rw [← ec]; exact f1)
    rw [← ec] at g2
    obtain ⟨i1, i2, i3, i4⟩ := x2.nx _ _ g1
    obtain ⟨j1, j2, j3, j4⟩ := y2.nx _ _ g2
    rw [i2] at j2
    have eij := Option.some.inj j2
    subst eij
    show (outZ w P t c u).toNat < _ ∧ (outZ w Q t c u).toNat < _ ∧ bs[(outZ w P t c u).toNat]? = bs[(outZ w Q t c u).toNat]?
    refine ⟨by omega, by omega, ?_⟩
    have i4 : bs[(outZ w P t c u).toNat]? = some i1.toNat := i4
    have j4 : bs[(outZ w Q t c u).toNat]? = some i1.toNat := j4
    rw [i4, j4]
/-- each set has a place of the ground in it -/
theorem twins_low {a w : Arena} (hw : ArenaOk w) {bs : List Nat} (tw : Twinned a w bs) {ts : List (List Str)} {K : Nat → Nat} (hK : Final w.places.length (mkOf w) (ts.map (tabN w)) K) : ∀ r ∈ setsN w.places.length K, ∃ x ∈ r, x < a.places.length := fun r hr => by
  obtain ⟨k, hk, rfl⟩ := List.mem_map.mp hr
  have hk := mem_reps.mp hk
  have b1 : bs[k]? = some (bs[k]'(by rw [← tw.ln]; exact hk.1)) := List.getElem?_eq_getElem _
  generalize hb : (bs[k]'(by rw [← tw.ln]; exact hk.1)) = b at *
  have hbl := tw.bd b (List.mem_of_getElem? b1)
  have hbw : b < w.places.length := by
    have h2 := tw.lo b hbl
    have := (List.getElem?_eq_some_iff.mp h2).1
    rw [tw.ln]
    exact this
  refine ⟨b, mem_blk.mpr ⟨hbw, ?_⟩, hbl⟩
  rw [twins_alike hw tw hK hbw hk.1 (by rw [b1]; exact tw.lo b hbl)]
  exact hk.2
end L_k48
end
section
set_option Elab.async false
set_option linter.all false
set_option maxRecDepth 100000
set_option maxHeartbeats 4000000
set_option autoImplicit false
namespace L_k48
open PySem PD L2
/-! ### rows of places -/
def onK (n k : Nat) : Nat := min (k + 1) (n - 1)
structure RowTab (n : Nat) (T : Tab) : Prop where
  ne : ∀ k, k < n → T k ≠ []
  of : ∀ k, k < n → ∀ m ∈ T k, m ≠ [] ∧ ∀ x ∈ m, x = k ∨ x = onK n k
  go : ∀ k, k < n → (∃ m ∈ T k, ∀ x ∈ m, x = onK n k) ∨ ∀ m ∈ T k, onK n k ∈ m
theorem row_apart {α : Type} {n : Nat} {mk : Nat → α} {T : Tab} {K : Nat → Nat} (hT : RowTab n T) (hm : ∀ p, p < n → mk p = mk (n - 1) → p = n - 1) (hK : Final n mk [T] K) : ∀ p, p < n → K p = p := by
  have key : ∀ d k, k < n → n - 1 ≤ k + d → ∀ p, p < n → K p = K k → p = k := by
    intro d
    induction d with
    | zero =>
      intro k hk hd p hp e
      have ek : k = n - 1 := by omega
      subst ek
      exact hm p hp (hK.mks _ _ hp hk e)
    | succ d ih =>
      intro k hk hd p hp e
      rcases Nat.lt_or_ge k (n - 1) with hl | hl
      · rcases Nat.lt_trichotomy p k with h | h | h
        · exfalso
          have st := hK.stable k p hk hp e.symm T (by simp)
          have ok : onK n k = k + 1 := by unfold onK; omega
          have op : onK n p = p + 1 := by unfold onK; omega
          have up := ih (k + 1) (by omega) (by omega)
          rcases hT.go k hk with ⟨m, hm1, hm2⟩ | hall
          · obtain ⟨t, ht, h2⟩ := st.1 m hm1
            obtain ⟨tn, tof⟩ := hT.of p hp t ht
            obtain ⟨x, hx⟩ := List.exists_mem_of_ne_nil _ tn
            obtain ⟨y, hy, ey⟩ := h2 x hx
            have := hm2 y hy
            rw [this, ok] at ey
            have hx3 := tof x hx
            have := up x (by omega) ey.symm
            omega
          · obtain ⟨m, hm1⟩ := List.exists_mem_of_ne_nil _ (hT.ne p hp)
            obtain ⟨t, ht, h2⟩ := st.2 m hm1
            have h3 := hall t ht
            rw [ok] at h3
            obtain ⟨y, hy, ey⟩ := h2 _ h3
            have hy3 := (hT.of p hp m hm1).2 y hy
            have := up y (by omega) ey
            omega
        · exact h
        · exact (ih p hp (by omega) k hk e.symm).symm
      · have ek : k = n - 1 := by omega
        subst ek
        exact hm p hp (hK.mks _ _ hp hk e)
  intro p hp
  exact key n (p) hp (by omega) (K p) (Nat.lt_of_le_of_lt (hK.le p hp) hp) (hK.idem p hp)
theorem sets_apart {n : Nat} {K : Nat → Nat} (h : ∀ p, p < n → K p = p) : setsN n K = (List.range n).map fun k => [k] := by
  have er : reps n K = List.range n := by
    unfold reps
    rw [List.filter_eq_self]
    intro p hp
    exact decide_eq_true (h p (List.mem_range.mp hp))
  unfold setsN
  rw [er]
  refine List.map_congr_left fun k hk => ?_
  have hk := List.mem_range.mp hk
  refine pw_uniq (R := (· < ·)) (fun x y h1 h2 => by omega) (blk_up n K k) (by simp) fun x => ?_
  rw [mem_blk, List.mem_singleton]
  constructor
  · rintro ⟨h1, h2⟩
    rw [h x h1] at h2
    exact h2
  · rintro rfl
    exact ⟨hk, h x hk⟩
/-! ### the arena of such rows -/
def goalM (b : Bool) : List Str := if b = true then ["goal"] else []
def chP (n : Nat) (sec : Bool) (k : Nat) : Place := ⟨goalM (decide (k + 1 = n)), [2, 2], if sec = true then [(k : Int), (onK n k : Int), (k : Int), (onK n k : Int)] else [(k : Int), (k : Int), (onK n k : Int), (onK n k : Int)]⟩
def chA (n : Nat) (sec : Bool) (x y : Str) : Arena := ⟨[x, y], (List.range n).map (chP n sec)⟩
theorem goal_nm : Names ["goal"] := ⟨fun x hx => by
  have key : ∀ x : Str, decide (1 ≤ (cs x).length) = true → decide ((cs x).length ≤ 8) = true → (cs x).all (fun c => decide (97 ≤ c) && decide (c ≤ 122)) = true → NameOk x := fun x h1 h2 h3 =>
    ⟨of_decide_eq_true h1, of_decide_eq_true h2, fun c hc => by
      have := List.all_eq_true.mp h3 c hc
      rw [Bool.and_eq_true] at this
      exact ⟨of_decide_eq_true this.1, of_decide_eq_true this.2⟩⟩
  rw [List.mem_singleton.mp hx]
  exact key _ (by decide +kernel) (by decide +kernel) (by decide +kernel), List.pairwise_singleton _ _⟩
theorem rows22 : (rowsC [2, 2]).length = 4 := by decide +kernel
theorem chA_len (n : Nat) (sec : Bool) (x y : Str) : (chA n sec x y).places.length = n := by simp [chA]
theorem chA_at {n : Nat} {sec : Bool} {x y : Str} {k : Nat} (hk : k < n) : (chA n sec x y).places[k]? = some (chP n sec k) := by
  show ((List.range n).map (chP n sec))[k]? = _
  rw [List.getElem?_map, List.getElem?_range hk]
  rfl
theorem onK_lt {n k : Nat} (h : k < n) : onK n k < n := by unfold onK; omega
theorem chA_ok {n : Nat} (n1 : 1 ≤ n) (hn : n ≤ 10) (sec : Bool) {x y : Str} (hxy : Names [x, y]) : ArenaOk (chA n sec x y) := by
  refine ⟨hxy, by show 1 ≤ [x, y].length; simp, by show [x, y].length ≤ 4; simp, by rw [chA_len]; exact n1, by rw [chA_len]; exact hn, fun p hp => ?_⟩
  rw [chA_len]
  obtain ⟨k, hk, rfl⟩ := List.mem_map.mp hp
  have hk := List.mem_range.mp hk
  have ho := onK_lt hk
  refine ⟨?_, ?_, rfl, fun c hc => ?_, ?_, ?_, fun z hz => ?_⟩
  · show Names (goalM _)
    unfold goalM
    split
    · exact goal_nm
    · exact ⟨fun x hx => by simp at hx, List.Pairwise.nil⟩
  · show (goalM _).length ≤ 4
    unfold goalM
    split <;> simp
  · have hc : c ∈ [(2 : Int), 2] := hc
    simp at hc
    omega
  · show (if sec = true then [(k : Int), (onK n k : Int), (k : Int), (onK n k : Int)] else [(k : Int), (k : Int), (onK n k : Int), (onK n k : Int)]).length = (rowsC [2, 2]).length
    rw [rows22]
    split <;> rfl
  · show (rowsC [2, 2]).length ≤ 36
    rw [rows22]
    omega
  · have hz : z ∈ (if sec = true then [(k : Int), (onK n k : Int), (k : Int), (onK n k : Int)] else [(k : Int), (k : Int), (onK n k : Int), (onK n k : Int)]) := hz
    split at hz <;> simp at hz <;> omega
theorem ch_mk {n : Nat} (n1 : 1 ≤ n) {sec : Bool} {x y : Str} : ∀ p, p < n → mkOf (chA n sec x y) p = mkOf (chA n sec x y) (n - 1) → p = n - 1 := fun p hp e => by
  unfold mkOf at e
  rw [chA_at hp, chA_at (by omega)] at e
  have e : goalM (decide (p + 1 = n)) = goalM (decide (n - 1 + 1 = n)) := Option.some.inj e
  rw [decide_eq_true (show n - 1 + 1 = n by omega)] at e
  by_cases h : p + 1 = n
  · omega
  · rw [decide_eq_false h] at e
    simp [goalM] at e
/-- each kind of group sees the rows -/
theorem out_ff {n k : Nat} (J : List Int) : nextZ (chP n false k) J = (L2.atI [(k : Int), (k : Int), (onK n k : Int), (onK n k : Int)] (idx 0 (J.zip [2, 2]))).getD 0 := rfl
theorem out_tt {n k : Nat} (J : List Int) : nextZ (chP n true k) J = (L2.atI [(k : Int), (onK n k : Int), (k : Int), (onK n k : Int)] (idx 0 (J.zip [2, 2]))).getD 0 := rfl
theorem rows2 : rowsC [2] = [[0], [1]] := by decide +kernel
theorem rows0 : rowsC [] = [[]] := by decide +kernel
theorem rows22e : rowsC [2, 2] = [[0, 0], [0, 1], [1, 0], [1, 1]] := by decide +kernel
def rowOf (n k : Nat) (l : List Bool) : List Nat := l.map fun b => if b = true then onK n k else k
def bitsOf (sec : Bool) (w : Nat) : List (List Bool) := match w, sec with
  | 0, false => [[false, false], [true, true]]
  | 0, true => [[false, true], [false, true]]
  | 1, false => [[false, true], [false, true]]
  | 1, true => [[false, false], [true, true]]
  | 2, false => [[false], [false], [true], [true]]
  | 2, true => [[false], [true], [false], [true]]
  | _, false => [[false, false, true, true]]
  | _, true => [[false, true, false, true]]
def teamOf (x y : Str) : Nat → List Str
  | 0 => [x]
  | 1 => [y]
  | 2 => [x, y]
  | _ => []
theorem ch_tab {n : Nat} {sec : Bool} {x y : Str} (hne : x ≠ y) {k : Nat} (hk : k < n) (w : Nat) (hw : w < 4) : tabN (chA n sec x y) (teamOf x y w) k = (bitsOf sec w).map (rowOf n k) := by
  have hne2 : y ≠ x := fun e => hne e.symm
  unfold tabN
  rw [chA_at hk]
  show (rowsC (((([x, y] : List Str).zip [(2 : Int), 2]).filter fun q => decide (q.1 ∈ teamOf x y w)).map (·.2))).map _ = _
  have hw : w = 0 ∨ w = 1 ∨ w = 2 ∨ w = 3 := by omega
  have er : ∀ t, choices (chA n sec x y) (chP n sec k) t = rowsC (((([x, y] : List Str).zip [(2 : Int), 2]).filter fun q => decide (q.1 ∈ t)).map (·.2)) := fun t => rfl
  have eo : ∀ t c u, outZ (chA n sec x y) (chP n sec k) t c u = nextZ (chP n sec k) (mrg (inG t) [x, y] c u) := fun t c u => rfl
  have ee : ∀ t, restOf (chA n sec x y) t = ([x, y] : List Str).filter fun z => !decide (z ∈ t) := fun t => rfl
  rcases hw with rfl | rfl | rfl | rfl
  · cases sec <;>
      simp [er, eo, ee, teamOf, bitsOf, rowOf, hne, hne2, rows2, rows0, rows22e, mrg, inG, out_ff, out_tt, idx, L2.atI, L2.ixN]
  · cases sec <;>
      simp [er, eo, ee, teamOf, bitsOf, rowOf, hne, hne2, rows2, rows0, rows22e, mrg, inG, out_ff, out_tt, idx, L2.atI, L2.ixN]
  · cases sec <;>
      simp [er, eo, ee, teamOf, bitsOf, rowOf, hne, hne2, rows2, rows0, rows22e, mrg, inG, out_ff, out_tt, idx, L2.atI, L2.ixN]
  · cases sec <;>
      simp [er, eo, ee, teamOf, bitsOf, rowOf, hne, hne2, rows2, rows0, rows22e, mrg, inG, out_ff, out_tt, idx, L2.atI, L2.ixN]
theorem bits_ok : ∀ w, w < 4 → ∀ sec : Bool, bitsOf sec w ≠ [] ∧ (∀ m ∈ bitsOf sec w, m ≠ []) ∧ ((∃ m ∈ bitsOf sec w, ∀ b ∈ m, b = true) ∨ ∀ m ∈ bitsOf sec w, true ∈ m) := by decide
theorem ch_rows {n : Nat} {sec : Bool} {x y : Str} (hne : x ≠ y) (w : Nat) (hw : w < 4) : RowTab n (tabN (chA n sec x y) (teamOf x y w)) := by
  obtain ⟨b1, b2, b3⟩ := bits_ok w hw sec
  refine ⟨fun k hk q => ?_, fun k hk m hm => ?_, fun k hk => ?_⟩
  · rw [ch_tab hne hk w hw] at q
    exact b1 (List.map_eq_nil_iff.mp q)
  · rw [ch_tab hne hk w hw] at hm
    obtain ⟨l, hl, rfl⟩ := List.mem_map.mp hm
    refine ⟨fun q => b2 l hl (List.map_eq_nil_iff.mp q), fun z hz => ?_⟩
    obtain ⟨b, _, rfl⟩ := List.mem_map.mp hz
    cases b
    · exact .inl rfl
    · exact .inr rfl
  · rw [ch_tab hne hk w hw]
    rcases b3 with ⟨m, h1, h2⟩ | h
    · refine .inl ⟨_, List.mem_map.mpr ⟨m, h1, rfl⟩, fun z hz => ?_⟩
      obtain ⟨b, hb, rfl⟩ := List.mem_map.mp hz
      rw [h2 b hb]
      rfl
    · refine .inr fun m hm => ?_
      obtain ⟨l, hl, rfl⟩ := List.mem_map.mp hm
      exact List.mem_map.mpr ⟨true, h l hl, rfl⟩
theorem ch_apart {n : Nat} (n1 : 1 ≤ n) {sec : Bool} {x y : Str} (hne : x ≠ y) {w : Nat} (hw : w < 4) {K : Nat → Nat} (hK : Final (chA n sec x y).places.length (mkOf (chA n sec x y)) ([teamOf x y w].map (tabN (chA n sec x y))) K) : setsD (chA n sec x y).places.length K = .lst (((List.range n).map fun k => [k]).map tupN) := by
  rw [chA_len] at *
  have := row_apart (ch_rows hne w hw) (ch_mk n1) hK
  unfold setsD
  rw [sets_apart this]
end L_k48
end
section
set_option Elab.async false
set_option linter.all false
set_option maxRecDepth 100000
set_option maxHeartbeats 4000000
set_option autoImplicit false
namespace L_k48
open PySem PD L2
noncomputable def chB : S := (sSeq (sSet 5 (eBi min2D (aCons (eOp addD (eVar 4) (eC (.int 1))) (aCons (eOp subD (eVar 0) (eC (.int 1))) aNil))))
  (sSeq (sSet 6 (eIf (tE (eVar 2)) (eTup (aCons (eVar 4) (aCons (eVar 5) (aCons (eVar 4) (aCons (eVar 5) aNil))))) (eTup (aCons (eVar 4) (aCons (eVar 4) (aCons (eVar 5) (aCons (eVar 5) aNil)))))))
  (sAppend 3 (eTup (aCons (eIf (tCmp eqD (eVar 4) (eOp subD (eVar 0) (eC (.int 1)))) (eTup (aCons (eC (.str "goal")) aNil)) (eTup aNil)) (aCons (eTup (aCons (eC (.int 2)) (aCons (eC (.int 2)) aNil))) (aCons (eVar 6) aNil)))))))
theorem ch_body {n : Nat} (n1 : 1 ≤ n) (sec : Bool) {x1 : D} {done : List D} (hd : done.length < 100) {k : Nat} (hk : k < n) {o5 o6 : Option LV} {g : G} : ∃ o5' o6', chB [some (.d (.int (n : Int))), some (.d x1), some (.d (.bl sec)), some (.ol done), some (.d (.int (k : Int))), o5, o6] g
    = some (.nx [some (.d (.int (n : Int))), some (.d x1), some (.d (.bl sec)), some (.ol (done ++ [(chP n sec k).d])), some (.d (.int (k : Int))), o5', o6'], g) := by
  have sz := sizeLine_eq
  have mn : min2D [.int ((k : Int) + 1), .int ((n : Int) - 1)] = some (.int (onK n k : Int)) := by
    show some (D.int (if (n : Int) - 1 < (k : Int) + 1 then (n : Int) - 1 else (k : Int) + 1)) = _
    congr 2
    unfold onK
    split <;> omega
  have qe : eqD (.int (k : Int)) (.int ((n : Int) - 1)) = some (decide (k + 1 = n)) := by
    rw [eqD_int]
    congr 1
    exact decide_eq_decide.mpr ⟨fun h => by omega, fun h => by omega⟩
  have zl : done.length < sizeLine := by omega
  have z1 : (1 : Nat) ≤ sizeLine := by omega
  have z2 : (2 : Nat) ≤ sizeLine := by omega
  have z3 : (3 : Nat) ≤ sizeLine := by omega
  have z4 : (4 : Nat) ≤ sizeLine := by omega
  have z0 : (0 : Nat) ≤ sizeLine := by omega
  have s1 : subD (.int (n : Int)) (.int 1) = some (.int ((n : Int) - 1)) := rfl
  have a1 : addD (.int (k : Int)) (.int 1) = some (.int ((k : Int) + 1)) := rfl
  have pd : (chP n sec k).d = .tup [.tup ((goalM (decide (k + 1 = n))).map .str), .tup [.int 2, .int 2], .tup (if sec = true then [.int (k : Int), .int (onK n k : Int), .int (k : Int), .int (onK n k : Int)] else [.int (k : Int), .int (k : Int), .int (onK n k : Int), .int (onK n k : Int)])] := by
    cases sec <;> rfl
  rw [pd]
  generalize decide (k + 1 = n) = B at *
  generalize (onK n k : Int) = ON at *
  generalize (k : Int) + 1 = K1 at *
  generalize (n : Int) - 1 = N1 at *
  generalize (k : Int) = KK at *
  generalize (n : Int) = NN at *
  cases sec with
  | false =>
    refine ⟨some (.d (.int ON)), some (.d (.tup [.int KK, .int KK, .int ON, .int ON])), ?_⟩
    cases B <;> simp -implicitDefEqProofs [chB, setR, a1, s1, mn, qe, z0, z1, z2, z3, z4, zl, goalM]
  | true =>
    refine ⟨some (.d (.int ON)), some (.d (.tup [.int KK, .int ON, .int KK, .int ON])), ?_⟩
    cases B <;> simp -implicitDefEqProofs [chB, setR, a1, s1, mn, qe, z0, z1, z2, z3, z4, zl, goalM]
theorem ch_for {n : Nat} (n1 : 1 ≤ n) (sec : Bool) {x1 : D} {g : G} : ∀ (ks : List Nat) (done : List D) (o4 o5 o6 : Option LV), (∀ k ∈ ks, k < n) → done.length + ks.length ≤ 100 → ∃ o4' o5' o6',
    forL (bName 4) chB (ks.map fun k : Nat => .int (k : Int)) [some (.d (.int (n : Int))), some (.d x1), some (.d (.bl sec)), some (.ol done), o4, o5, o6] g
      = some (.nx [some (.d (.int (n : Int))), some (.d x1), some (.d (.bl sec)), some (.ol (done ++ ks.map fun k => (chP n sec k).d)), o4', o5', o6'], g)
  | [], done, o4, o5, o6, _, _ => ⟨o4, o5, o6, by rw [show done ++ ([] : List Nat).map (fun k => (chP n sec k).d) = done from List.append_nil _]; rfl⟩
  | k :: ks, done, o4, o5, o6, h, hz => by
    rw [List.length_cons] at hz
    obtain ⟨p5, p6, e1⟩ := ch_body n1 sec (x1 := x1) (done := done) (by omega) (h k List.mem_cons_self) (o5 := o5) (o6 := o6) (g := g)
    obtain ⟨q4, q5, q6, e2⟩ := ch_for n1 sec (x1 := x1) (g := g) ks (done ++ [(chP n sec k).d]) (some (.d (.int (k : Int)))) p5 p6 (fun j hj => h j (List.mem_cons_of_mem _ hj)) (by rw [List.length_append]; simp; omega)
    refine ⟨q4, q5, q6, ?_⟩
    have ea : done ++ [(chP n sec k).d] ++ ks.map (fun k => (chP n sec k).d) = done ++ (k :: ks).map fun k => (chP n sec k).d := by simp
    rw [ea] at e2
    rw [List.map_cons, forL_cons]
    generalize done ++ (k :: ks).map (fun k => (chP n sec k).d) = D2 at *
    generalize done ++ [(chP n sec k).d] = D1 at *
    generalize (ks.map fun k : Nat => D.int (k : Int)) = KS at *
    generalize (k : Int) = KK at *
    generalize (n : Int) = NN at *
    generalize chB = CB at *
    simp -implicitDefEqProofs [bName, setR, e1, e2]
theorem chain_ok {n : Nat} (n1 : 1 ≤ n) (hn : n ≤ 10) (sec : Bool) {x y : Str} (g : G) : F__law_chain [.int (n : Int), tupS [x, y], .bl sec] g = some ((chA n sec x y).d, g) := by
  have sz := sizeLine_eq
  obtain ⟨o4, o5, o6, e⟩ := ch_for n1 sec (x1 := tupS [x, y]) (g := g) (List.range n) [] none none none (fun k hk => List.mem_range.mp hk) (by simp; omega)
  have r1 := range1_ok (n := (n : Int)) (by omega) (by omega)
  rw [range_nat (by omega)] at r1
  have tn : ((n : Int)).toNat = n := by omega
  rw [tn] at r1
  rw [List.nil_append] at e
  unfold chB at e
  have z0 : (0 : Nat) ≤ sizeLine := by omega
  have z2 : (2 : Nat) ≤ sizeLine := by omega
  have ad : (chA n sec x y).d = .tup [tupS [x, y], .tup ((List.range n).map fun k => (chP n sec k).d)] := by
    show D.tup [tupS [x, y], .tup (((List.range n).map (chP n sec)).map Place.d)] = _
    rw [List.map_map]
    rfl
  have tp : tupleD [.lst ((List.range n).map fun k => (chP n sec k).d)] = some (.tup ((List.range n).map fun k => (chP n sec k).d)) := rfl
  rw [ad]
  refine runF_rt ?_
  generalize (List.range n).map (fun k => (chP n sec k).d) = PL at *
  generalize (List.range n).map (fun k : Nat => D.int (k : Int)) = RL at *
  generalize (n : Int) = NN at *
  generalize tupS [x, y] = XY at *
  simp -implicitDefEqProofs [s__law_chain, slots0, z0, r1, e, tp, z2]
/-! ### all rows are right -/
def apD (n : Nat) : D := .lst (((List.range n).map fun k => [k]).map tupN)
def oneD (n : Nat) : D := .lst ([List.range n].map tupN)
structure Looks (own bare : Arena) (n : Nat) (gr : List Str) : Prop where
  a : ∀ g : G, F_blocks [own.d, .tup [tupS gr]] g = some (apD n, g)
  b : ∀ g : G, F_blocks [bare.d, .tup [tupS gr, .tup []]] g = some (oneD n, g)
theorem looks_ok {n : Nat} (n1 : 1 ≤ n) (hn : n ≤ 10) (sec : Bool) {x y : Str} (hxy : Names [x, y]) {w : Nat} (hw : w < 4) : Looks (chA n sec x y) (bareA (chA n sec x y)) n (teamOf x y w) := by
  have ha := chA_ok n1 hn sec hxy
  have hne : x ≠ y := fun e => by
    have := hxy.nd
    rw [e] at this
    simp at this
  have hg : GroupOk (chA n sec x y) (teamOf x y w) := by
    have hx : GroupOk (chA n sec x y) [x] := ⟨hxy.sub (by simp), fun z hz => by rw [List.mem_singleton.mp hz]; exact List.mem_cons_self⟩
    have hy : GroupOk (chA n sec x y) [y] := ⟨hxy.sub (by simp), fun z hz => by rw [List.mem_singleton.mp hz]; exact List.mem_cons_of_mem _ List.mem_cons_self⟩
    have hz : w = 0 ∨ w = 1 ∨ w = 2 ∨ w = 3 := by omega
    rcases hz with rfl | rfl | rfl | rfl
    · exact hx
    · exact hy
    · exact ⟨hxy, fun z hz => hz⟩
    · exact ⟨hxy.sub (List.nil_sublist _), fun z hz => by
        have hz : z ∈ ([] : List Str) := hz
        simp at hz⟩
  refine ⟨fun g => ?_, fun g => ?_⟩
  · obtain ⟨K, hK, e⟩ := blocks_ok ha (ts := [teamOf x y w]) (by simp) (by simp) (fun t ht => by rw [List.mem_singleton.mp ht]; exact hg)
    rw [ch_apart n1 hne hw hK] at e
    exact e g
  · have hb := bare_ok ha
    have h0 : GroupOk (bareA (chA n sec x y)) [] := ⟨⟨fun z hz => by simp at hz, List.Pairwise.nil⟩, fun z hz => by simp at hz⟩
    obtain ⟨K, hK, e⟩ := blocks_ok hb (ts := [teamOf x y w, []]) (by simp) (by simp) (fun t ht => by
      rcases List.mem_cons.mp ht with rfl | ht
      · exact bare_group hg
      · rw [List.mem_singleton.mp ht]; exact h0)
    have hl : (bareA (chA n sec x y)).places.length = n := by
      show ((chA n sec x y).places.map bareP).length = n
      rw [List.length_map, chA_len]
    have b1 := bare_one hb (fun p hp => by
      obtain ⟨q, _, rfl⟩ := List.mem_map.mp hp
      rfl) hK
    have eD : setsD (bareA (chA n sec x y)).places.length K = oneD n := by
      unfold setsD oneD
      rw [b1, hl]
    rw [eD] at e
    exact e g
noncomputable def crI : S := (sIf (tOr (tCmp neD (eCall F_blocks (aCons (eVar 4) (aCons (eTup (aCons (eVar 6) aNil)) aNil))) (eVar 2)) (tCmp neD (eCall F_blocks (aCons (eVar 5) (aCons (eTup (aCons (eVar 6) (aCons (eTup aNil) aNil))) aNil))) (eLst (aCons (eTupRg (eVar 0)) aNil)))) (sRet (eC (.bl false))) sNil)
theorem upD_nat {n : Nat} (hn : n ≤ 100) : upD (.int (n : Int)) = some (natL (List.range n)) := by
  show (if 0 ≤ (n : Int) ∧ (n : Int) ≤ 16777216 then some ((upto (n : Int)).map D.int) else none) = _
  rw [if_pos ⟨by omega, by omega⟩]
  unfold PD.upto
  have : ((n : Int)).toNat = n := by omega
  rw [this, List.map_map]
  rfl
theorem cr_body {n : Nat} (hn : n ≤ 10) {own bare : Arena} {gr : List Str} (h : Looks own bare n gr) {x1 x3 : D} {g : G} :
    crI [some (.d (.int (n : Int))), some (.d x1), some (.d (apD n)), some (.d x3), some (.d own.d), some (.d bare.d), some (.d (tupS gr)), none, none] g
      = some (.nx [some (.d (.int (n : Int))), some (.d x1), some (.d (apD n)), some (.d x3), some (.d own.d), some (.d bare.d), some (.d (tupS gr)), none, none], g) := by
  have sz := sizeLine_eq
  have a := h.a g
  have b := h.b g
  have n1 : neD (apD n) (apD n) = some false := ne_same _
  have n2 : neD (oneD n) (.lst [.tup (natL (List.range n))]) = some false := ne_same [List.range n]
  have up := upD_nat (n := n) (by omega)
  have z1 : (1 : Nat) ≤ sizeLine := by omega
  have z2 : (2 : Nat) ≤ sizeLine := by omega
  have z0 : (0 : Nat) ≤ sizeLine := by omega
  generalize natL (List.range n) = NL at *
  generalize apD n = AP at *
  generalize oneD n = OD at *
  generalize own.d = OW at *
  generalize bare.d = BA at *
  generalize tupS gr = GR at *
  generalize (n : Int) = NN at *
  simp -implicitDefEqProofs [crI, a, b, n1, n2, up, z0, z1, z2]
theorem cr_for {n : Nat} (hn : n ≤ 10) {own bare : Arena} {x1 x3 : D} {g : G} : ∀ (ts : List (List Str)) (o6 : Option LV), (∀ t ∈ ts, Looks own bare n t) → ∃ o6',
    forL (bName 6) crI (ts.map tupS) [some (.d (.int (n : Int))), some (.d x1), some (.d (apD n)), some (.d x3), some (.d own.d), some (.d bare.d), o6, none, none] g
      = some (.nx [some (.d (.int (n : Int))), some (.d x1), some (.d (apD n)), some (.d x3), some (.d own.d), some (.d bare.d), o6', none, none], g)
  | [], o6, _ => ⟨o6, rfl⟩
  | t :: ts, o6, h => by
    have e1 := cr_body hn (h t List.mem_cons_self) (x1 := x1) (x3 := x3) (g := g)
    obtain ⟨p, e2⟩ := cr_for hn (own := own) (bare := bare) (x1 := x1) (x3 := x3) (g := g) ts (some (.d (tupS t))) fun q hq => h q (List.mem_cons_of_mem _ hq)
    refine ⟨p, ?_⟩
    rw [List.map_cons, forL_cons]
    generalize apD n = AP at *
    generalize own.d = OW at *
    generalize bare.d = BA at *
    generalize tupS t = GR at *
    generalize ts.map tupS = TS at *
    generalize (n : Int) = NN at *
    generalize crI = CI at *
    simp -implicitDefEqProofs [bName, setR, e1, e2]
noncomputable def crO : S := (sSeq (sSet 4 (eCall F__law_chain (aCons (eVar 0) (aCons (eVar 1) (aCons (eVar 3) aNil)))))
  (sSeq (sSet 5 (eTup (aCons (eVar 1) (aCons (eBi tupleD (aCons (eO (eLcA [8] (aItem (eIx (eVar 4) (eC (.int 1)))) (bName 8) tYesD (eOp addD (eTup (aCons (eTup aNil) aNil)) (eSl (eVar 8) (pSome (eC (.int 1))) pNone)))) aNil)) aNil))))
  (sFor (aItem (eTup (aCons (eSl (eVar 1) pNone (pSome (eC (.int 1)))) (aCons (eSl (eVar 1) (pSome (eC (.int 1))) pNone) (aCons (eVar 1) (aCons (eTup aNil) aNil)))))) (bName 6) crI)))
theorem bare_lc {a : Arena} {ρ : Rho} {i : Nat} {g : G} (hb : ∀ x, bName i x ρ = some (setR ρ i x)) (hi : ∀ x, dAt (setR ρ i x) i = some x) :
    lcL (bName i) tYesD (eOp addD (eTup (aCons (eTup aNil) aNil)) (eSl (eVar i) (pSome (eC (.int 1))) pNone)) ρ (a.places.map Place.d) g = some (((bareA a).places).map Place.d, g) := by
  have sz := sizeLine_eq
  have e : ((bareA a).places).map Place.d = a.places.map fun p => (bareP p).d := by
    show (a.places.map bareP).map Place.d = _
    rw [List.map_map]
    rfl
  rw [e]
  refine lcL_on fun p hp => ⟨_, hb _, ?_⟩
  have sl : slD p.d (some 1) none = some (.tup [tupI p.counts, tupI p.nexts]) := rfl
  have ad : addD (.tup [.tup []]) (.tup [tupI p.counts, tupI p.nexts]) = some (bareP p).d := by
    show szD (1 + 2) (.tup ([.tup []] ++ [tupI p.counts, tupI p.nexts])) = _
    rw [szD_ok (by omega)]
    rfl
  have vi := hi p.d
  have z0 : (0 : Nat) ≤ sizeLine := by omega
  have z1 : (1 : Nat) ≤ sizeLine := by omega
  generalize setR ρ i p.d = R at *
  generalize p.d = PD at *
  generalize D.tup [tupI p.counts, tupI p.nexts] = RT at *
  generalize (bareP p).d = BP at *
  simp -implicitDefEqProofs [vi, sl, ad, z0, z1]
theorem cr_turn {n : Nat} (n1 : 1 ≤ n) (hn : n ≤ 10) (sec : Bool) {x y : Str} (hxy : Names [x, y]) {o4 o5 o6 : Option LV} {g : G} : ∃ o4' o5' o6', crO [some (.d (.int (n : Int))), some (.d (tupS [x, y])), some (.d (apD n)), some (.d (.bl sec)), o4, o5, o6, none, none] g
    = some (.nx [some (.d (.int (n : Int))), some (.d (tupS [x, y])), some (.d (apD n)), some (.d (.bl sec)), o4', o5', o6', none, none], g) := by
  have sz := sizeLine_eq
  have ce := chain_ok n1 hn sec (x := x) (y := y) g
  obtain ⟨p6, e⟩ := cr_for hn (own := chA n sec x y) (bare := bareA (chA n sec x y)) (x1 := tupS [x, y]) (x3 := .bl sec) (g := g) [[x], [y], [x, y], []] o6 (fun t ht => by
    simp only [List.mem_cons, List.not_mem_nil, or_false] at ht
    rcases ht with rfl | rfl | rfl | rfl
    · exact looks_ok n1 hn sec hxy (w := 0) (by omega)
    · exact looks_ok n1 hn sec hxy (w := 1) (by omega)
    · exact looks_ok n1 hn sec hxy (w := 2) (by omega)
    · exact looks_ok n1 hn sec hxy (w := 3) (by omega))
  have bl := bare_lc (a := chA n sec x y) (ρ := [some (.d (.int (n : Int))), some (.d (tupS [x, y])), some (.d (apD n)), some (.d (.bl sec)), some (.d (chA n sec x y).d), o5, o6, none, none]) (i := 8) (g := g) (fun _ => rfl) (fun _ => rfl)
  have ai := a_ix1 (chA n sec x y) g
  have it : itemsD (.tup ((chA n sec x y).places.map Place.d)) = some ((chA n sec x y).places.map Place.d) := rfl
  have tp : tupleD [.lst ((bareA (chA n sec x y)).places.map Place.d)] = some (.tup ((bareA (chA n sec x y)).places.map Place.d)) := rfl
  have bd : (bareA (chA n sec x y)).d = .tup [tupS [x, y], .tup ((bareA (chA n sec x y)).places.map Place.d)] := rfl
  have zb : ((bareA (chA n sec x y)).places.map Place.d).length ≤ sizeLine := by
    rw [List.length_map]
    show ((chA n sec x y).places.map bareP).length ≤ _
    rw [List.length_map, chA_len]
    omega
  have s1 : slD (tupS [x, y]) none (some 1) = some (tupS [x]) := rfl
  have s2 : slD (tupS [x, y]) (some 1) none = some (tupS [y]) := rfl
  have tl : ([[x], [y], [x, y], []] : List (List Str)).map tupS = [tupS [x], tupS [y], tupS [x, y], .tup []] := rfl
  rw [tl] at e
  have z2 : (2 : Nat) ≤ sizeLine := by omega
  have z4 : (4 : Nat) ≤ sizeLine := by omega
  have z0 : (0 : Nat) ≤ sizeLine := by omega
  refine ⟨some (.d (chA n sec x y).d), some (.d (bareA (chA n sec x y)).d), p6, ?_⟩
  rw [bd] at e ⊢
  generalize (bareA (chA n sec x y)).places.map Place.d = BP at *
  generalize (chA n sec x y).places.map Place.d = CP at *
  generalize (chA n sec x y).d = CA at *
  generalize tupS [x, y] = XY at *
  generalize tupS [x] = X1 at *
  generalize tupS [y] = Y1 at *
  generalize apD n = AP at *
  generalize (n : Int) = NN at *
  simp -implicitDefEqProofs [crO, setR, wipeR, ce, ai, bl, zb, tp, s1, s2, e, z0, z2, z4]
theorem chains_ok {n : Nat} (n1 : 1 ≤ n) (hn : n ≤ 10) {x y : Str} (hxy : Names [x, y]) (g : G) : F__law_chains_right [.int (n : Int), tupS [x, y]] g = some (.bl true, g) := by
  have sz := sizeLine_eq
  obtain ⟨a4, a5, a6, e1⟩ := cr_turn n1 hn false hxy (o4 := none) (o5 := none) (o6 := none) (g := g)
  obtain ⟨b4, b5, b6, e2⟩ := cr_turn n1 hn true hxy (o4 := a4) (o5 := a5) (o6 := a6) (g := g)
  have r1 := range1_ok (n := (n : Int)) (by omega) (by omega)
  rw [range_nat (by omega)] at r1
  have tn : ((n : Int)).toNat = n := by omega
  rw [tn] at r1
  have ea : apD n = .lst ((List.range n).map fun k => tupN [k]) := by unfold apD; rw [List.map_map]; rfl
  have el : lcL (bName 7) tYesD (eTup (aCons (eVar 7) aNil)) [some (.d (.int (n : Int))), some (.d (tupS [x, y])), none, none, none, none, none, none, none] ((List.range n).map fun k : Nat => D.int (k : Int)) g = some ((List.range n).map (fun k => tupN [k]), g) := by
    refine lcL_on fun k _ => ⟨_, rfl, ?_⟩
    have z1 : (1 : Nat) ≤ sizeLine := by omega
    show _ = some (D.tup [.int (k : Int)], g)
    generalize tupS [x, y] = XY at *
    simp -implicitDefEqProofs [setR, z1]
  have zl : ((List.range n).map (fun k => tupN [k])).length ≤ sizeLine := by rw [List.length_map, List.length_range]; omega
  have z2 : (2 : Nat) ≤ sizeLine := by omega
  have fr : forL (bName 3) crO [.bl false, .bl true] [some (.d (.int (n : Int))), some (.d (tupS [x, y])), some (.d (apD n)), none, none, none, none, none, none] g
      = some (.nx [some (.d (.int (n : Int))), some (.d (tupS [x, y])), some (.d (apD n)), some (.d (.bl true)), b4, b5, b6, none, none], g) := by
    generalize crO = CO at *
    generalize apD n = AP at *
    generalize (n : Int) = NN at *
    generalize tupS [x, y] = XY at *
    simp -implicitDefEqProofs [bName, setR, e1, e2, forL_cons, forL_nil]
  unfold crO crI at fr
  rw [ea] at fr
  refine runF_rt ?_
  clear e1 e2 ea
  generalize (List.range n).map (fun k => tupN [k]) = AL at *
  generalize (List.range n).map (fun k : Nat => D.int (k : Int)) = RL at *
  generalize (n : Int) = NN at *
  generalize tupS [x, y] = XY at *
  simp -implicitDefEqProofs [s__law_chains_right, slots0, wipeR, r1, el, zl, z2, fr]
end L_k48
end
section
set_option Elab.async false
set_option linter.all false
set_option maxRecDepth 100000
set_option maxHeartbeats 4000000
set_option autoImplicit false
namespace L_k48
open PySem PD L2
theorem teams_lc {a : Arena} (ha : ArenaOk a) {o0 o2 o3 o5 o6 o7 o8 o9 o10 o11 o12 : Option LV} {r : G} : ∀ (ds : List D) {s : Ds} {b : Nat}, Ok s (b + 4 * ds.length) → ∃ (ts : List (List Str)) (s' : Ds),
    lcL (bName 13) tYesD (eCall F__law_team (aCons (eVar 1) (aCons (eVar 4) aNil))) [o0, some (.d (.hd 0)), o2, o3, some (.d a.d), o5, o6, o7, o8, o9, o10, o11, o12, none, none, none, none] ds (gS s r) = some (ts.map tupS, gS s' r) ∧ ts.length = ds.length ∧ (∀ t ∈ ts, GroupOk a t) ∧ Ok s' b
  | [], s, b, ok => ⟨[], s, rfl, rfl, fun t ht => by simp at ht, ok⟩
  | d :: ds, s, b, ok => by
    rw [List.length_cons] at ok
    obtain ⟨t, s1, e1, hg, ok1⟩ := team_ok ha (r := r) (s := s) (c := b + 4 * ds.length) (ok.mono (by omega))
    obtain ⟨ts, s2, e2, l2, h2, ok2⟩ := teams_lc ha (o0 := o0) (o2 := o2) (o3 := o3) (o5 := o5) (o6 := o6) (o7 := o7) (o8 := o8) (o9 := o9) (o10 := o10) (o11 := o11) (o12 := o12) (r := r) ds ok1
    refine ⟨t :: ts, s2, ?_, by simp [l2], fun u hu => ?_, ok2⟩
    · rw [lcL_cons, List.map_cons]
      generalize ts.map tupS = TS at *
      generalize tupS t = T1 at *
      generalize a.d = AD at *
      generalize gS s2 r = G2 at *
      generalize gS s1 r = G1 at *
      generalize gS s r = G0 at *
      simp -implicitDefEqProofs [bName, setR, e1, e2]
    · rcases List.mem_cons.mp hu with rfl | hu
      · exact hg
      · exact h2 u hu
/-- no set without a place below -/
theorem low_lc {a : Arena} {o0 o1 o2 o3 o5 o6 o7 o8 o9 o10 o11 o12 o13 o16 : Option LV} {g : G} (S : List (List Nat)) (hl : ∀ r ∈ S, r.length ≤ 100) (h : ∀ r ∈ S, ∃ x ∈ r, x < a.places.length) :
    lcL (bName 14) (tCmp eqD (eO (eLcA [15] (aItem (eVar 14)) (bName 15) (tCmp ltD (eVar 15) (eBi lenD (aCons (eIx (eVar 4) (eC (.int 1))) aNil))) (eVar 15))) (eLst aNil)) (eVar 14) [o0, o1, o2, o3, some (.d a.d), o5, o6, o7, o8, o9, o10, o11, o12, o13, none, none, o16] (S.map tupN) g = some ([], g) := by
  have sz := sizeLine_eq
  have e : lcL (bName 14) (tCmp eqD (eO (eLcA [15] (aItem (eVar 14)) (bName 15) (tCmp ltD (eVar 15) (eBi lenD (aCons (eIx (eVar 4) (eC (.int 1))) aNil))) (eVar 15))) (eLst aNil)) (eVar 14) [o0, o1, o2, o3, some (.d a.d), o5, o6, o7, o8, o9, o10, o11, o12, o13, none, none, o16] (S.map tupN) g = some (((S.filter fun r => decide (((rowI r).filter fun x => decide (x < (a.places.length : Int))) = [])).map id).map tupN, g) := by
    refine lc_typedF S fun r hr => ⟨_, rfl, ?_, fun _ => ?_⟩
    · have rl := hl r hr
      have ai := a_ix1 a g
      have ln : lenD [.tup (a.places.map Place.d)] = some (.int (a.places.length : Int)) := by
        show some (D.int ((a.places.map Place.d).length : Int)) = _
        rw [List.length_map]
      have e2 : lcL (bName 15) (tCmp ltD (eVar 15) (eBi lenD (aCons (eIx (eVar 4) (eC (.int 1))) aNil))) (eVar 15) [o0, o1, o2, o3, some (.d a.d), o5, o6, o7, o8, o9, o10, o11, o12, o13, some (.d (tupN r)), none, o16] ((rowI r).map .int) g
          = some ((((rowI r).filter fun x => decide (x < (a.places.length : Int))).map id).map .int, g) := by
        refine lc_typedF (rowI r) fun x hx => ⟨_, rfl, ?_, fun _ => ?_⟩
        · have lt : ltD (.int x) (.int (a.places.length : Int)) = some (decide (x < (a.places.length : Int))) := by simp
          generalize decide (x < (a.places.length : Int)) = BB at *
          generalize D.tup (a.places.map Place.d) = PL at *
          generalize (a.places.length : Int) = N at *
          generalize tupN r = TR at *
          generalize a.d = AD at *
          simp -implicitDefEqProofs [setR, ai, ln, lt]
        · generalize tupN r = TR at *
          generalize a.d = AD at *
          simp -implicitDefEqProofs [setR]
      rw [List.map_id] at e2
      have it : itemsD (tupN r) = some ((rowI r).map .int) := by rw [tupN_rowI]; rfl
      have z1 : (((rowI r).filter fun x => decide (x < (a.places.length : Int))).map D.int).length ≤ sizeLine := by
        rw [List.length_map]
        have := List.length_filter_le (fun x => decide (x < (a.places.length : Int))) (rowI r)
        have h2 : (rowI r).length = r.length := List.length_map _
        omega
      have q := eq_ints0 ((rowI r).filter fun x => decide (x < (a.places.length : Int)))
      clear ai ln
      generalize decide (((rowI r).filter fun x => decide (x < (a.places.length : Int))) = []) = BB at *
      generalize ((rowI r).filter fun x => decide (x < (a.places.length : Int))).map D.int = FL at *
      generalize (rowI r).map D.int = RL at *
      generalize tupN r = TR at *
      generalize a.d = AD at *
      simp -implicitDefEqProofs [setR, wipeR, it, e2, z1, q]
    · generalize a.d = AD at *
      simp -implicitDefEqProofs [setR]
  have e0 : S.filter (fun r => decide (((rowI r).filter fun x => decide (x < (a.places.length : Int))) = [])) = [] := by
    rw [List.filter_eq_nil_iff]
    intro r hr
    obtain ⟨x, hx, lt⟩ := h r hr
    have hm : (x : Int) ∈ (rowI r).filter fun x => decide (x < (a.places.length : Int)) := List.mem_filter.mpr ⟨List.mem_map.mpr ⟨x, hx, rfl⟩, decide_eq_true (by omega)⟩
    simp only [decide_eq_true_eq]
    intro q
    rw [q] at hm
    simp at hm
  rw [e0] at e
  exact e
/-- the store with both pools -/
def gQ (s : Ds) (P1 P : List Str) : G := gS s [.ml (P1.map .str), .ml (P.map .str)]
theorem len_poolQ (s : Ds) (P1 P : List Str) : optA (rsv 4 (gQ s P1 P)) [.hd 3] = some [.lst (P.map .str)] := by
  have e : rsv 4 (gQ s P1 P) (.hd 3) = some (.lst (P.map .str)) := by
    show (optA (rsv 3 (gQ s P1 P)) (P.map .str)).map D.lst = _
    rw [optA_strs]
    rfl
  show (rsv 4 (gQ s P1 P) (.hd 3)).bind (fun x => some [x]) = _
  rw [e]
  rfl
theorem pop_poolQ (s : Ds) {P1 P : List Str} {j : Nat} {y : Str} (h : P[j]? = some y) : popH (gQ s P1 P) 3 (.int (j : Int)) = some (.str y, gQ s P1 (P.eraseIdx j)) := by
  have hj := (List.getElem?_eq_some_iff.mp h).1
  have hn : L2.ixN (P.map D.str).length (j : Int) = some j := by
    unfold L2.ixN
    rw [List.length_map, if_pos (by omega), if_pos (by omega)]
    simp
  have e1 : ((P.map D.str)[j]?) = some (.str y) := by rw [List.getElem?_map, h]; rfl
  show (L2.ixN (P.map D.str).length (j : Int)).bind _ = _
  rw [hn, Option.bind_some, e1]
  show some (D.str y, updG (gQ s P1 P) 3 (.ml ((P.map D.str).eraseIdx j))) = _
  unfold gQ gS updG
  rw [List.set_cons_succ, List.set_cons_succ, List.set_cons_succ, List.set_cons_zero, map_erase]
theorem pops2_lc {o0 o2 o3 o4 o5 o6 o7 o8 o9 o10 o12 o14 o15 o16 : Option LV} {P1 : List Str} : ∀ (ds : List D) {P : List Str} {s : Ds} {b : Nat}, Ok s (b + ds.length) → ds.length ≤ P.length → P.length < 1000 → ∃ (xs P' : List Str) (s' : Ds),
    lcL (bName 13) tYesD (ePopH 11 (eCall F__law_draw (aCons (eVar 1) (aCons (eBiR lenD (aCons (eVar 11) aNil)) aNil)))) [o0, some (.d (.hd 0)), o2, o3, o4, o5, o6, o7, o8, o9, o10, some (.d (.hd 3)), o12, none, o14, o15, o16] ds (gQ s P1 P) = some (xs.map .str, gQ s' P1 P') ∧ (xs ++ P').Perm P ∧ xs.length = ds.length ∧ Ok s' b
  | [], P, s, b, ok, _, _ => ⟨[], P, s, rfl, List.Perm.refl _, rfl, ok⟩
  | d :: ds, P, s, b, ok, hl, hz => by
    rw [List.length_cons] at hl
    obtain ⟨x, s1, e0, x0, x1, ok1⟩ := draw_ok (s := s) (b := b + ds.length) (by simpa [Nat.add_assoc] using ok) (m := (P.length : Int)) (by omega) (by omega) [.ml (P1.map .str), .ml (P.map .str)]
    obtain ⟨j, rfl⟩ : ∃ j : Nat, x = j := ⟨x.toNat, by omega⟩
    have hj : j < P.length := by omega
    obtain ⟨y, hy⟩ : ∃ y, P[j]? = some y := ⟨_, List.getElem?_eq_getElem hj⟩
    have pm := perm_erase hy
    have pl : (P.eraseIdx j).length = P.length - 1 := List.length_eraseIdx_of_lt hj
    obtain ⟨xs, P', s2, e2, pm2, l2, ok2⟩ := pops2_lc (o0 := o0) (o2 := o2) (o3 := o3) (o4 := o4) (o5 := o5) (o6 := o6) (o7 := o7) (o8 := o8) (o9 := o9) (o10 := o10) (o12 := o12) (o14 := o14) (o15 := o15) (o16 := o16) (P1 := P1) ds (P := P.eraseIdx j) ok1 (by omega) (by omega)
    refine ⟨y :: xs, P', s2, ?_, (pm2.cons y).trans pm, by simp [l2], ok2⟩
    have e1 : F__law_draw [.hd 0, .int (P.length : Int)] (gQ s P1 P) = some (.int (j : Int), gQ s1 P1 P) := e0
    clear e0
    have pp := pop_poolQ s1 (P1 := P1) hy
    have ln := len_poolQ s P1 P
    have ln2 := len_strs P
    have gt : (gQ s P1 P)[3]? = some (.ml (P.map .str)) := rfl
    rw [lcL_cons, List.map_cons]
    generalize (P.length : Int) = PL at *
    generalize xs.map D.str = XS at *
    generalize gQ s2 P1 P' = G3 at *
    generalize gQ s1 P1 (P.eraseIdx j) = G2 at *
    generalize gQ s1 P1 P = G1 at *
    generalize gQ s P1 P = G0 at *
    generalize P.map D.str = PM at *
    simp -implicitDefEqProofs [bName, setR, gt, ln, ln2, e1, pp, e2]
def poolT : List Str := ["a", "b", "can", "me", "you", "zzzzzzzz"]
theorem poolT_nm : ∀ x ∈ poolT, NameOk x := by
  have key : ∀ x : Str, decide (1 ≤ (cs x).length) = true → decide ((cs x).length ≤ 8) = true → (cs x).all (fun c => decide (97 ≤ c) && decide (c ≤ 122)) = true → NameOk x := fun x h1 h2 h3 =>
    ⟨of_decide_eq_true h1, of_decide_eq_true h2, fun c hc => by
      have := List.all_eq_true.mp h3 c hc
      rw [Bool.and_eq_true] at this
      exact ⟨of_decide_eq_true this.1, of_decide_eq_true this.2⟩⟩
  intro x hx
  simp only [poolT, List.mem_cons, List.not_mem_nil, or_false] at hx
  rcases hx with rfl | rfl | rfl | rfl | rfl | rfl <;> exact key _ (by decide +kernel) (by decide +kernel) (by decide +kernel)
theorem poolT_nd : poolT.Nodup := by decide +kernel
end L_k48
end
section
set_option Elab.async false
set_option linter.all false
set_option maxRecDepth 100000
set_option maxHeartbeats 4000000
set_option autoImplicit false
namespace L_k48
open PySem PD L2
theorem plain (ns : List Int) (h : ns.length ≤ 63) : ∃ g', F_law [.lst (ns.map D.int)] [] = some (.bl true, g') := by
  have sz := sizeLine_eq
  obtain ⟨s0, e0, ok0⟩ := begun_ok h
  obtain ⟨m, s1, e1, m0, m1, ok1⟩ := draw_ok (s := s0) (b := 5001) (ok0.mono (by omega)) (m := 4) (by omega) (by omega) []
  obtain ⟨z, s2, e2, z0, z1, ok2⟩ := draw_ok (s := s1) (b := 5000) (ok1.mono (by omega)) (m := 10) (by omega) (by omega) []
  obtain ⟨a, s3, P, e3, ha, an, ap, _, ok3⟩ := arena_ok (w := 5) (c := 3) (by omega) (by omega) (by omega) (by omega) (s := s2) (b := 4000) (ok2.mono (by omega))
  obtain ⟨w, bs, s4, e4, hw, tw, wl, ok4⟩ := twinned_ok ha (r := [.ml (P.map .str)]) (s := s3) (c := 3000) (ok3.mono (by omega))
  obtain ⟨n, hn⟩ : ∃ n : Nat, m = n := ⟨m.toNat, by omega⟩
  obtain ⟨q, hq⟩ : ∃ q : Nat, z = q := ⟨z.toNat, by omega⟩
  subst hn hq
  have wn : w.places.length ≤ 7 := by omega
  have r1 := range1_ok (n := 1 + (n : Int)) (by omega) (by omega)
  rw [range_nat (by omega)] at r1
  have tn : (1 + (n : Int)).toNat = n + 1 := by omega
  rw [tn] at r1
  have dl : ((List.range (n + 1)).map fun j : Nat => D.int (j : Int)).length = n + 1 := by rw [List.length_map, List.length_range]
  -- the slots ahead of the teams
  obtain ⟨ts, s5, e5, tl, tg, ok5⟩ := teams_lc ha (o0 := some (.d (.lst (ns.map .int)))) (o2 := some (.d (.int (1 + (n : Int))))) (o3 := some (.d (.int (1 + (q : Int))))) (o5 := some (.d w.d)) (o6 := none) (o7 := none) (o8 := none) (o9 := none) (o10 := none) (o11 := none) (o12 := none) (r := [.ml (P.map .str)]) ((List.range (n + 1)).map fun j : Nat => D.int (j : Int)) (s := s4) (b := 2000) (ok4.mono (by rw [dl]; omega))
  rw [dl] at tl
  have gw : ∀ t, GroupOk a t → GroupOk w t := fun t ht => ⟨ht.nm, fun x hx => by rw [tw.nm]; exact ht.sub x hx⟩
  obtain ⟨K1, f1, b1⟩ := blocks_ok hw (ts := ts) (by omega) (by omega) fun t ht => gw t (tg t ht)
  have hw10 := hw.p10
  have ir1 := fun g => isRight_ok hw.p10 f1.canon g
  -- told again
  obtain ⟨K2, f2, b2⟩ := blocks_ok hw (ts := ts.reverse ++ ts.take 1) (by simp; omega) (by simp; omega) fun t ht => by
    rcases List.mem_append.mp ht with h | h
    · exact gw t (tg t (List.mem_reverse.mp h))
    · exact gw t (tg t (List.mem_of_mem_take h))
  have e21 : setsD w.places.length K2 = setsD w.places.length K1 := by
    refine sets_eq fun p hp => final_same f2 f1 (tabs_in hw _) (tabs_in hw _) (fun T => ?_) hp
    rw [List.mem_map, List.mem_map]
    constructor
    · rintro ⟨t, ht, rfl⟩
      exact ⟨t, List.mem_append_left _ (List.mem_reverse.mpr ht), rfl⟩
    · rintro ⟨t, ht, rfl⟩
      refine ⟨t, ?_, rfl⟩
      rcases List.mem_append.mp ht with h | h
      · exact List.mem_reverse.mp h
      · exact List.mem_of_mem_take h
  rw [e21] at b2
  -- one more
  obtain ⟨t7, s6, e6, hg6, ok6⟩ := team_ok ha (r := [.ml (P.map .str)]) (s := s5) (c := 1000) (ok5.mono (by omega))
  obtain ⟨K3, f3, b3⟩ := blocks_ok hw (ts := ts ++ [t7]) (by simp) (by simp; omega) fun t ht => by
    rcases List.mem_append.mp ht with h | h
    · exact gw t (tg t h)
    · rw [List.mem_singleton.mp h]; exact gw _ hg6
  have ir3 := fun g => isRight_ok hw.p10 f3.canon g
  have wi := fun g => sets_within hw.p10 f3.canon f1.canon (fun p q hp hq e => final_fine f3 f1 (tabs_in hw _) (fun T hT => by
    obtain ⟨t, ht, rfl⟩ := List.mem_map.mp hT
    exact List.mem_map.mpr ⟨t, List.mem_append_left _ ht, rfl⟩) hp hq e) g
  -- twins
  have lw := fun (o12 o13 o16 : Option LV) (g : G) => low_lc (a := a) (o0 := some (.d (.lst (ns.map .int)))) (o1 := some (.d (.hd 0))) (o2 := some (.d (.int (1 + (n : Int))))) (o3 := some (.d (.int (1 + (q : Int))))) (o5 := some (.d w.d)) (o6 := some (.d (.lst (ts.map tupS)))) (o7 := some (.d (setsD w.places.length K1))) (o8 := some (.d (setsD w.places.length K1))) (o9 := some (.d (setsD w.places.length K3))) (o10 := none) (o11 := none) (o12 := o12) (o13 := o13) (o16 := o16) (g := g) (setsN w.places.length K1) (fun r hr => by
    obtain ⟨k, _, rfl⟩ := List.mem_map.mp hr
    have := blk_len (n := w.places.length) (K := K1) (k := k)
    omega) (twins_low hw tw f1)
  -- without marks
  obtain ⟨K4, f4, b4⟩ := blocks_ok (bare_ok hw) (ts := ts) (by omega) (by omega) fun t ht => bare_group (gw t (tg t ht))
  have bl : (bareA w).places.length = w.places.length := List.length_map _
  have one := bare_one (bare_ok hw) (fun p hp => by
    obtain ⟨q, _, rfl⟩ := List.mem_map.mp hp
    rfl) f4
  have eD : setsD (bareA w).places.length K4 = oneD w.places.length := by
    unfold setsD oneD
    rw [one, bl]
  rw [eD] at b4
  have blc := fun (g : G) => bare_lc (a := w) (ρ := [some (.d (.lst (ns.map .int))), some (.d (.hd 0)), some (.d (.int (1 + (n : Int)))), some (.d (.int (1 + (q : Int)))), some (.d a.d), some (.d w.d), some (.d (.lst (ts.map tupS))), some (.d (setsD w.places.length K1)), some (.d (setsD w.places.length K1)), some (.d (setsD w.places.length K3)), none, none, none, none, none, none, none]) (i := 16) (g := g) (fun _ => rfl) (fun _ => rfl)
  -- two names
  obtain ⟨xs, P', s7, e7, pm, xl, ok7⟩ := pops2_lc (o0 := some (.d (.lst (ns.map .int)))) (o2 := some (.d (.int (1 + (n : Int))))) (o3 := some (.d (.int (1 + (q : Int))))) (o4 := some (.d a.d)) (o5 := some (.d w.d)) (o6 := some (.d (.lst (ts.map tupS)))) (o7 := some (.d (setsD w.places.length K1))) (o8 := some (.d (setsD w.places.length K1))) (o9 := some (.d (setsD w.places.length K3))) (o10 := some (.d (bareA w).d)) (o12 := none) (o14 := none) (o15 := none) (o16 := none) (P1 := P) [.int 0, .int 1] (P := poolT) (s := s6) (b := 900) (ok6.mono (by simp)) (by decide) (by decide)
  have nd : (xs ++ P').Nodup := pm.nodup_iff.mpr poolT_nd
  have ndx := (List.nodup_append.mp nd).1
  have nmS : Names (sortS xs) := ⟨fun z hz => poolT_nm z (pm.subset (List.mem_append_left _ ((sortS_perm xs).mem_iff.mp hz))), sortS_lt ndx⟩
  have sl : (sortS xs).length = 2 := by rw [(sortS_perm xs).length_eq, xl]; rfl
  obtain ⟨x, y, hs⟩ : ∃ x y, sortS xs = [x, y] := by
    match sortS xs, sl with
    | [x, y], _ => exact ⟨x, y, rfl⟩
  rw [hs] at nmS
  have cr := chains_ok (n := 1 + q) (by omega) (by omega) nmS (gQ s7 P P')
  have cq : ((1 + q : Nat) : Int) = 1 + (q : Int) := by omega
  rw [cq] at cr
  have sm := sortedM_strs xs
  rw [hs] at sm
  -- the small facts
  have tp1 : tupleD [.lst (ts.map tupS)] = some (.tup (ts.map tupS)) := rfl
  have z5 : (ts.map tupS).length ≤ sizeLine := by rw [List.length_map]; omega
  have aw1 : ∀ g : G, ixD g w.d (.int 1) = some (.tup (w.places.map Place.d)) := a_ix1 w
  have aw0 : ∀ g : G, ixD g w.d (.int 0) = some (tupS w.names) := a_ix0 w
  have ln : lenD [.tup (w.places.map Place.d)] = some (.int (w.places.length : Int)) := by
    show some (D.int ((w.places.map Place.d).length : Int)) = _
    rw [List.length_map]
  have rv : revD (.lst (ts.map tupS)) = some ((ts.reverse).map tupS) := by
    show some ((ts.map tupS).reverse) = _
    rw [List.map_reverse]
  have s1t : slD (.lst (ts.map tupS)) none (some 1) = some (.lst ((ts.take 1).map tupS)) := by
    match ts, tl with
    | t :: ts', _ =>
      show some (D.lst (cutL ((t :: ts').map tupS) none (some 1))) = _
      unfold cutL
      have i1 : HT.sIx ((t :: ts').map tupS).length 0 none = 0 := rfl
      have i2 : HT.sIx ((t :: ts').map tupS).length ((t :: ts').map tupS).length (some 1) = 1 := by
        simp [HT.sIx]
      rw [i1, i2]
      rfl
  have zr : ((ts.reverse).map tupS).length ≤ sizeLine := by rw [List.length_map, List.length_reverse]; omega
  have ad1 : addD (.lst ((ts.reverse).map tupS)) (.lst ((ts.take 1).map tupS)) = some (.lst ((ts.reverse ++ ts.take 1).map tupS)) := by
    show szD (((ts.reverse).map tupS).length + ((ts.take 1).map tupS).length) (.lst ((ts.reverse).map tupS ++ (ts.take 1).map tupS)) = _
    rw [szD_ok (by simp; omega), List.map_append]
  have tp2 : tupleD [.lst ((ts.reverse ++ ts.take 1).map tupS)] = some (.tup ((ts.reverse ++ ts.take 1).map tupS)) := rfl
  have ad2 : addD (.lst (ts.map tupS)) (.lst [tupS t7]) = some (.lst ((ts ++ [t7]).map tupS)) := by
    show szD ((ts.map tupS).length + 1) (.lst (ts.map tupS ++ [tupS t7])) = _
    rw [szD_ok (by simp; omega), List.map_append]
    rfl
  have tp3 : tupleD [.lst ((ts ++ [t7]).map tupS)] = some (.tup ((ts ++ [t7]).map tupS)) := rfl
  have nn : neD (setsD w.places.length K1) (setsD w.places.length K1) = some false := ne_same _
  have it7 : itemsD (setsD w.places.length K1) = some ((setsN w.places.length K1).map tupN) := rfl
  have nl : neD (.lst []) (.lst []) = some false := by decide +kernel
  have itw : itemsD (.tup (w.places.map Place.d)) = some (w.places.map Place.d) := rfl
  have tpb : tupleD [.lst ((bareA w).places.map Place.d)] = some (.tup ((bareA w).places.map Place.d)) := rfl
  have bd : (bareA w).d = .tup [tupS w.names, .tup ((bareA w).places.map Place.d)] := rfl
  have zb : ((bareA w).places.map Place.d).length ≤ sizeLine := by rw [List.length_map, bl]; omega
  have up := upD_nat (n := w.places.length) (by omega)
  have n2 : neD (oneD w.places.length) (.lst [.tup (natL (List.range w.places.length))]) = some false := ne_same [List.range w.places.length]
  have zx : (xs.map D.str).length ≤ sizeLine := by rw [List.length_map, xl]; simp; omega
  have tpx : tupleD [.lst (([x, y] : List Str).map .str)] = some (tupS [x, y]) := rfl
  have gp : gS s6 [.ml (P.map .str)] ++ [MO.ml [.str "a", .str "b", .str "can", .str "me", .str "you", .str "zzzzzzzz"]] = gQ s6 P poolT := rfl
  have gl : (gS s6 [.ml (P.map .str)]).length = 3 := rfl
  have r2 : range1M [.int 2] = some [.int 0, .int 1] := rfl
  have a1 : addD (.int 1) (.int (n : Int)) = some (.int (1 + (n : Int))) := rfl
  have a2 : addD (.int 1) (.int (q : Int)) = some (.int (1 + (q : Int))) := rfl
  have zz1 : (1 : Nat) ≤ sizeLine := by omega
  have zz2 : (2 : Nat) ≤ sizeLine := by omega
  have zz6 : (6 : Nat) ≤ sizeLine := by omega
  have zz0 : (0 : Nat) ≤ sizeLine := by omega
  refine ⟨gQ s7 P P', runF_rt ?_⟩
  have e3 : F__law_arena [.hd 0, .int 5, .int 3] (gS s2 []) = some (a.d, gS s3 [.ml (P.map .str)]) := e3
  have b1 := fun g => b1 g
  rw [bd] at b4 e7
  clear ha hw tw f1 f2 f3 f4 one eD hg6 tg gw nd ndx nmS pm ok0 ok1 ok2 ok3 ok4 ok5 ok6 ok7 e21 dl bd hs
  generalize (ns.map D.int) = NS at *
  generalize gQ s7 P P' = G9 at *
  generalize gQ s6 P poolT = G8 at *
  generalize gS s6 [.ml (P.map .str)] = G7 at *
  generalize gS s5 [.ml (P.map .str)] = G6 at *
  generalize gS s4 [.ml (P.map .str)] = G5 at *
  generalize gS s3 [.ml (P.map .str)] = G4 at *
  generalize gS s2 [] = G3 at *
  generalize gS s1 [] = G2 at *
  generalize gS s0 [] = G1 at *
  generalize oneD w.places.length = OD at *
  generalize natL (List.range w.places.length) = NR at *
  generalize setsD w.places.length K1 = D1 at *
  generalize setsD w.places.length K3 = D3 at *
  generalize (setsN w.places.length K1).map tupN = SN at *
  generalize ([x, y] : List Str).map D.str = XYL at *
  generalize tupS [x, y] = XY at *
  generalize xs.map D.str = XS at *
  generalize tupS t7 = T7 at *
  generalize (bareA w).places.map Place.d = BP at *
  generalize w.places.map Place.d = WP at *
  generalize tupS w.names = WN at *
  generalize (w.places.length : Int) = WL at *
  generalize w.d = WD at *
  generalize a.d = AD at *
  generalize (ts.reverse ++ ts.take 1).map tupS = TR at *
  generalize (ts ++ [t7]).map tupS = TM at *
  generalize ts.reverse.map tupS = TV at *
  generalize (ts.take 1).map tupS = TK at *
  generalize ts.map tupS = TS at *
  generalize (List.range (n + 1)).map (fun j : Nat => D.int (j : Int)) = RL at *
  generalize 1 + (n : Int) = N1 at *
  generalize 1 + (q : Int) = Q1 at *
  generalize (n : Int) = NI at *
  generalize (q : Int) = QI at *
  simp -implicitDefEqProofs [s_law, slots0, setR, setLs, wipeR, perm, e0, e1, e2, a1, a2, e3, e4, r1, e5, z5, tp1, b1, aw1, ln, ir1, rv, s1t, zr, ad1, tp2, b2, e6, ad2, tp3, b3, nn, ir3, wi, it7, lw, nl, aw0, itw, blc, zb, tpb, b4, up, n2, gp, gl, r2, e7, zx, sm, tpx, cr, zz0, zz1, zz2, zz6]
end L_k48
end
section
set_option Elab.async false
set_option linter.all false
set_option maxRecDepth 100000
set_option maxHeartbeats 0
namespace L_k48
open PySem PySem.Spec L2 PD
open PyProof.Rows hiding St
end L_k48
open PySem PySem.W PySem.Calls PyProof.Rows
theorem PySem.Challenge.cw_whocan_k48_blocks_by_hand_holds : PySem.Challenge.rw_whocan_k48_blocks_by_hand.Holds := by
  w_on; o_law
  refine HandSHeadRun.head_any (r := OpenLaw.row PySem.Challenge.rw_whocan_k48_blocks_by_hand) (q := view (OpenLaw.row PySem.Challenge.rw_whocan_k48_blocks_by_hand).prog [55]) (H := L_k48.hk) (ob := L_k48.ob) (M := 3000) (loose := L_k48.loose)
    (d := HandSHeadRun.topDef (OpenLaw.row PySem.Challenge.rw_whocan_k48_blocks_by_hand).prog 55) (kwd := []) L_k48.ob_eq (by kernel_rfl) (fun s => by kernel_rfl) L_k48.run (by kernel_rfl) (by kernel_rfl) (by kernel_rfl) (by rfl) (by first | assumption | decide +kernel) (by decide +kernel) ⟨rfl, rfl, rfl, rfl, rfl, by decide +kernel⟩ ?hw ?hc
  case hw => w_witness2
  case hc =>
    refine PD.walk_g (l := PySem.Challenge.rw_whocan_k48_blocks_by_hand) (n := 63) (k := 9) (x := "_law_script") rfl (by decide) (by kernel_rfl) ⟨rfl, by decide, by decide⟩ ?F
    intro w mg fa h Y G hmg0
    obtain ⟨K, KX, c⟩ := Y
    have hmg : mg ("law" : PySem.Str) = some (.ref fa) := by
      have e : (HandSHeadRun.topDef (OpenLaw.row PySem.Challenge.rw_whocan_k48_blocks_by_hand).prog 55).name = ("law" : PySem.Str) := by kernel_rfl
      rw [← e]
      exact hmg0
    have V := L_k48.vn KX G c
    obtain ⟨a, fd, hm, FF⟩ := V.f_law
    have ea : fa = a := by
      have := hmg.symm.trans hm
      cases this
      rfl
    subst ea
    refine ⟨K, fd, PD.spD K 1 L_k48.F_law, KX, fun s u => L2.FunD.bindsA (ps := ["_law_script"]) FF (fun _ _ _ _ _ _ us hl => match us, hl with | [_], _ => rfl) s [u] rfl, fun H a ns hl hS => ?_, fun base _ _ => L_k48.g_law V FF⟩
    obtain ⟨g', e⟩ := L_k48.plain ns hl
    exact PD.law_sp hl hS e
end
