import PyProof.Rows.All
import Wide.All
import OpenK.AllK
import Wide.FinOn
import PySem.Challenge.RW_whocan_k02_names_and_numbers
import HandS.ForMost
import HandS.More
import HandS.Defaults
import HandS.IsInst
import HandS.Deep
import HandS.TupAny
import HandS.TupLe
import HandS.Zip
import HandS.Conv
import HandS.Flow
import HandS.Wide
import HandS.Strs
import HandS.SortInts
import HandS.DictComp
import HandS.SetKeys
import HandS.TupSets
import HandS.ExcInit
import HandS.ExcIs
import HandS.ExcField
import HandS.ExcOwn
import HandS.ExcCtx
import HandS.Hot
import HandS.HeadHook1
import KE.GoesNew
import HandS.Style
import HandS.NamedTupSort
import PyProof.Rows.SortShellAny
import HandS.Text
import HandS.SetBool
import KE.KDictZip
import KE.KDictPairs
import HandS.SetFor
import PyProof.SliceList
import PyProof.ListNew
import PyProof.Rows.SeqMore
import PyProof.DictRoadsH
import HandS.NoneIn
import HandS.Codes
import KE.KExcInit
import PyProof.ExcBaseAll.LookupError
import PyProof.ExcBaseAll.ArithmeticError
import KE.KExcIs
import HandS.HeadHook2
import HandS.HeadEnd
import HandS.SetTxt0
import HandS.Replace
import PyProof.StrOps2
import KE.KStateDown
import HandS.WordsExc
import HandS.Head0
import HandS.Head1
import HandS.Head2
import KE.IntTextLaws
section
set_option Elab.async false
set_option linter.all false
set_option maxRecDepth 100000
set_option maxHeartbeats 4000000
set_option autoImplicit false
namespace PD
open PySem PySem.Spec L2
open PyProof.Rows hiding St

/-! ### data, the store, the slots -/
/-- hd n: the n-th thing of the store -/
inductive D where
  | non | bl (b : Bool) | int (i : Int) | str (x : Str) | tup (l : List D) | lst (l : List D)
  | dk (ks : List Key) (l : List D) | dt (ks : List (List Key)) (l : List D) | hd (n : Nat) | tx (xs : List Str)
instance : Inhabited D := ⟨.non⟩
/-- a thing of the store: it may change, others may name it -/
inductive MO where
  | ml (l : List D) | mk (ks : List Key) (l : List D) | mx (nm f : Str) (v : D)
abbrev G := List MO
/-- a slot: data, or a list | dict of one's own that nothing else names -/
inductive LV where
  | d (x : D) | ol (l : List D) | ok (ks : List Key) (l : List D) | ot (ks : List (List Key)) (l : List D)
abbrev Rho := List (Option LV)
def M (α : Type) := G → Option (α × G)

section
variable {α β : Type}
def mr (a : α) : M α := fun g => some (a, g)
def mz : M α := fun _ => none
def mb (m : M α) (k : α → M β) : M β := fun g => match m g with
  | some (a, g') => k a g'
  | none => none
def ml (o : Option α) : M α := match o with
  | some a => mr a
  | none => mz
@[simp] theorem mb_mr (a : α) (k : α → M β) : mb (mr a) k = k a := rfl
@[simp] theorem mb_mz (k : α → M β) : mb mz k = mz := rfl
theorem mb_some {m : M α} {k : α → M β} {g g' : G} {a : α} (h : m g = some (a, g')) : mb m k g = k a g' := by unfold mb; rw [h]
theorem mb_none {m : M α} {k : α → M β} {g : G} (h : m g = none) : mb m k g = none := by unfold mb; rw [h]
theorem mb_inv {m : M α} {k : α → M β} {g g2 : G} {b : β} (h : mb m k g = some (b, g2)) : ∃ a g1, m g = some (a, g1) ∧ k a g1 = some (b, g2) := by
  unfold mb at h
  cases e : m g with
  | none => rw [e] at h; cases h
  | some p => rw [e] at h; exact ⟨p.1, p.2, rfl, h⟩
theorem ml_inv {o : Option α} {g g' : G} {a : α} (h : ml o g = some (a, g')) : o = some a ∧ g' = g := by
  cases o with
  | none => cases h
  | some b => cases h; exact ⟨rfl, rfl⟩
theorem mr_inv {a b : α} {g g' : G} (h : mr a g = some (b, g')) : b = a ∧ g' = g := by cases h; exact ⟨rfl, rfl⟩
theorem mb_assoc {γ : Type} (m : M α) (k : α → M β) (l : β → M γ) : mb (mb m k) l = mb m (fun a => mb (k a) l) := by
  funext g; unfold mb; cases m g <;> rfl
@[simp] theorem mr_ap (a : α) (g : G) : mr a g = some (a, g) := rfl
@[simp] theorem mz_ap (g : G) : (mz : M α) g = none := rfl
@[simp] theorem ml_some (a : α) : ml (some a) = mr a := rfl
@[simp] theorem ml_none : ml (none : Option α) = mz := rfl
end

/-! ### what a value stands for -/
/-- the texts that are told: their signs are signs, they are not too long -/
def sOk (x : Str) : Bool := PyData.strOk x && decide (x.length ≤ sizeLine)
/-- what stands fast: the frozen things, and where the store's things are -/
structure Fz where
  h : Hp
  mu : List Addr
instance : CoeFun Fz (fun _ => Addr → Option HO) := ⟨Fz.h⟩
structure Ext (F F' : Fz) : Prop where
  h : Same F.h F'.h
  m : F.mu <+: F'.mu
theorem Ext.refl (F : Fz) : Ext F F := ⟨Same.refl _, List.prefix_refl _⟩
theorem Ext.trans {F F' F'' : Fz} (a : Ext F F') (b : Ext F' F'') : Ext F F'' := ⟨a.h.trans b.h, a.m.trans b.m⟩
def Fz.upd (F : Fz) (p : Addr) (o : HO) : Fz := ⟨L2.upd F.h p o, F.mu⟩
theorem Ext.upd {F : Fz} {p : Addr} {o : HO} (hF : F p = none) : Ext F (F.upd p o) := ⟨fun a u h => by show L2.upd F.h p o a = some u; rw [upd_ne (ne_of_none h hF)]; exact h, List.prefix_refl _⟩
theorem Ext.mu {F F' : Fz} (s : Ext F F') {n : Nat} {a : Addr} (h : F.mu[n]? = some a) : F'.mu[n]? = some a := by
  obtain ⟨t, e⟩ := s.m
  rw [← e, List.getElem?_append_left (List.getElem?_eq_some_iff.mp h).1]
  exact h
/-- at a stands a dict whose keys are tuples that stand where kas tells -/
def DTX (a : Addr) (kas : List (List Key × Addr × V)) (h : Heap) : Prop := kas.length ≤ sizeLine ∧ (a == sysModules) = false ∧ ∃ xs : List (List Key × Addr × Value),
  Paired (fun (p : List Key × Addr × V) (q : List Key × Addr × Value) => p.1 = q.1 ∧ p.2.1 = q.2.1 ∧ RelV p.2.2 q.2.2) kas xs ∧
  ∃ o es ep, h.get? a = some o ∧ o.ExactDict ∧ o.data = .dict es ep ∧ (∀ P w, es.toList = xs.map (entryOfKey (tupleKind (mixKind P w)))) ∧ (xs.map (·.1)).Nodup
mutual
inductive Rp (K : PySem.W.Frag) (F : Fz) : V → D → Prop
  | non : Rp K F .non .non
  | bl (b : Bool) : Rp K F (.bl b) (.bl b)
  | int (i : Int) : Rp K F (.int i) (.int i)
  | str (x : Str) (h : sOk x = true) : Rp K F (.str x) (.str x)
  | tup {a : Addr} {xs : List V} {ds : List D} : SqT K F.h a xs → xs.length ≤ sizeLine → RpA K F xs ds → Rp K F (.ref a) (.tup ds)
  | lst {a : Addr} {xs : List V} {ds : List D} : SqL K F.h a xs → xs.length ≤ sizeLine → RpA K F xs ds → Rp K F (.ref a) (.lst ds)
  | dk {a : Addr} {kvs : List (Key × V)} {ds : List D} : Rd F.h a (.dK kvs) → RpA K F (kvs.map (·.2)) ds → Rp K F (.ref a) (.dk (kvs.map (·.1)) ds)
  | dt {a : Addr} {kvs : List (List Key × V)} {ds : List D} : Rd F.h a (.dT kvs) → RpA K F (kvs.map (·.2)) ds → Rp K F (.ref a) (.dt (kvs.map (·.1)) ds)
  | dm {a : Addr} {kas : List (List Key × Addr × V)} {ds : List D} : F.h a = some (.ext (DTX a kas)) → (∀ x ∈ kas, SqT K F.h x.2.1 (x.1.map kV)) → RpA K F (kas.map (·.2.2)) ds → Rp K F (.ref a) (.dt (kas.map (·.1)) ds)
  | hd {a : Addr} {n : Nat} (h : F.mu[n]? = some a) : Rp K F (.ref a) (.hd n)
  | tx {a : Addr} {o : Obj} {xs : List Str} (h : F.h a = some (.frz o (.tup (xs.map V.str)))) (hc : o.cls = .type "tuple") (hd : o.dict = none) (hz : xs.length ≤ sizeLine) (hs : ∀ x ∈ xs, sOk x = true) : Rp K F (.ref a) (.tx xs)
inductive RpA (K : PySem.W.Frag) (F : Fz) : List V → List D → Prop
  | nil : RpA K F [] []
  | cons {v : V} {vs : List V} {d : D} {ds : List D} : Rp K F v d → RpA K F vs ds → RpA K F (v :: vs) (d :: ds)
end
section
variable {K : PySem.W.Frag} {F F' : Fz}
theorem Rd.mono {H H' : Hp} {a : Addr} {u : HO} (s : Same H H') (h : Rd H a u) : Rd H' a u := by
  rcases h with h | ⟨o, h⟩
  · exact .inl (s _ _ h)
  · exact .inr ⟨o, s _ _ h⟩
theorem sqL_mono {H H' : Hp} {a : Addr} {xs : List V} (s : Same H H') (h : SqL K H a xs) : SqL K H' a xs := h.imp (Rd.mono s) id
theorem sqT_mono {H H' : Hp} {a : Addr} {xs : List V} (s : Same H H') (h : SqT K H a xs) : SqT K H' a xs := h.imp (Rd.mono s) id
theorem Rp.mono (s : Ext F F') {v : V} {d : D} (h : Rp K F v d) : Rp K F' v d :=
  Rp.rec (motive_1 := fun v d _ => Rp K F' v d) (motive_2 := fun v d _ => RpA K F' v d)
    .non .bl .int .str (fun h1 h2 _ ih => .tup (sqT_mono s.h h1) h2 ih) (fun h1 h2 _ ih => .lst (sqL_mono s.h h1) h2 ih)
    (fun h1 _ ih => .dk (Rd.mono s.h h1) ih) (fun h1 _ ih => .dt (Rd.mono s.h h1) ih) (fun h1 h2 _ ih => .dm (s.h _ _ h1) (fun x hx => sqT_mono s.h (h2 x hx)) ih) (fun h => .hd (s.mu h)) (fun h hc hd hz hs => .tx (s.h _ _ h) hc hd hz hs) .nil (fun _ _ i1 i2 => .cons i1 i2) h
theorem RpA.mono (s : Ext F F') {v : List V} {d : List D} (h : RpA K F v d) : RpA K F' v d :=
  RpA.rec (motive_1 := fun v d _ => Rp K F' v d) (motive_2 := fun v d _ => RpA K F' v d)
    .non .bl .int .str (fun h1 h2 _ ih => .tup (sqT_mono s.h h1) h2 ih) (fun h1 h2 _ ih => .lst (sqL_mono s.h h1) h2 ih)
    (fun h1 _ ih => .dk (Rd.mono s.h h1) ih) (fun h1 _ ih => .dt (Rd.mono s.h h1) ih) (fun h1 h2 _ ih => .dm (s.h _ _ h1) (fun x hx => sqT_mono s.h (h2 x hx)) ih) (fun h => .hd (s.mu h)) (fun h hc hd hz hs => .tx (s.h _ _ h) hc hd hz hs) .nil (fun _ _ i1 i2 => .cons i1 i2) h
theorem RpA.length : ∀ {vs : List V} {ds : List D}, RpA K F vs ds → vs.length = ds.length
  | _, _, .nil => rfl
  | _, _, .cons _ t => congrArg (· + 1) (RpA.length t)
theorem RpA.get : ∀ {vs : List V} {ds : List D} {i : Nat} {d : D}, RpA K F vs ds → ds[i]? = some d → ∃ v, vs[i]? = some v ∧ Rp K F v d
  | _, _, _, _, .nil, e => by simp at e
  | _, _, 0, _, .cons r _, e => by simp at e; subst e; exact ⟨_, rfl, r⟩
  | _, _, i + 1, x, .cons _ t, e => by
    obtain ⟨u, h1, h2⟩ := RpA.get (i := i) t (by simpa using e)
    exact ⟨u, by simpa using h1, h2⟩
theorem RpA.getV : ∀ {vs : List V} {ds : List D} {i : Nat} {v : V}, RpA K F vs ds → vs[i]? = some v → ∃ d, ds[i]? = some d ∧ Rp K F v d
  | _, _, _, _, .nil, e => by simp at e
  | _, _, 0, _, .cons r _, e => by simp at e; subst e; exact ⟨_, rfl, r⟩
  | _, _, i + 1, x, .cons _ t, e => by
    obtain ⟨u, h1, h2⟩ := RpA.getV (i := i) t (by simpa using e)
    exact ⟨u, by simpa using h1, h2⟩
theorem RpA.append : ∀ {vs ws : List V} {ds es : List D}, RpA K F vs ds → RpA K F ws es → RpA K F (vs ++ ws) (ds ++ es)
  | _, _, _, _, .nil, s => s
  | _, _, _, _, .cons r t, s => .cons r (RpA.append t s)
theorem RpA.take : ∀ {vs : List V} {ds : List D} (n : Nat), RpA K F vs ds → RpA K F (vs.take n) (ds.take n)
  | _, _, 0, _ => .nil
  | _, _, _ + 1, .nil => .nil
  | _, _, n + 1, .cons r t => .cons r (RpA.take n t)
theorem RpA.drop : ∀ {vs : List V} {ds : List D} (n : Nat), RpA K F vs ds → RpA K F (vs.drop n) (ds.drop n)
  | _, _, 0, r => r
  | _, _, _ + 1, .nil => .nil
  | _, _, n + 1, .cons _ t => RpA.drop n t
theorem RpA.set {v : V} {d : D} (r : Rp K F v d) : ∀ {vs : List V} {ds : List D} (i : Nat), RpA K F vs ds → RpA K F (vs.set i v) (ds.set i d)
  | _, _, _, .nil => .nil
  | _, _, 0, .cons _ t => .cons r t
  | _, _, i + 1, .cons q t => .cons q (RpA.set r i t)
theorem RpA.reverse : ∀ {vs : List V} {ds : List D}, RpA K F vs ds → RpA K F vs.reverse ds.reverse
  | _, _, .nil => .nil
  | _, _, .cons r t => by
    rw [List.reverse_cons, List.reverse_cons]
    exact (RpA.reverse t).append (.cons r .nil)
theorem RpA.ints : ∀ {vs : List V} {ns : List Int}, RpA K F vs (ns.map D.int) → vs = ns.map V.int
  | _, [], h => by cases h; rfl
  | _, n :: ns, h => by
    cases h with
    | cons r t => cases r; rw [RpA.ints t]; rfl
theorem RpA.ofInts : ∀ (ns : List Int), RpA K F (ns.map V.int) (ns.map D.int)
  | [] => .nil
  | n :: ns => .cons (.int n) (RpA.ofInts ns)
theorem RpA.bls : ∀ {vs : List V} {ns : List Bool}, RpA K F vs (ns.map D.bl) → vs = ns.map V.bl
  | _, [], h => by cases h; rfl
  | _, n :: ns, h => by
    cases h with
    | cons r t => cases r; rw [RpA.bls t]; rfl
theorem RpA.strs : ∀ {vs : List V} {ns : List Str}, RpA K F vs (ns.map D.str) → vs = ns.map V.str
  | _, [], h => by cases h; rfl
  | _, n :: ns, h => by
    cases h with
    | cons r t => cases r; rw [RpA.strs t]; rfl
theorem RpA.ofStrs : ∀ (ns : List Str), (∀ x ∈ ns, sOk x = true) → RpA K F (ns.map V.str) (ns.map D.str)
  | [], _ => .nil
  | n :: ns, h => .cons (.str n (h n List.mem_cons_self)) (RpA.ofStrs ns fun x hx => h x (List.mem_cons_of_mem _ hx))
theorem RpA.ofBls : ∀ (ns : List Bool), RpA K F (ns.map V.bl) (ns.map D.bl)
  | [] => .nil
  | n :: ns => .cons (.bl n) (RpA.ofBls ns)
end

/-! ### heaps -/
/-- all that stands there but the store's things -/
def off (F : Fz) (H : Hp) : Fz := ⟨fun a => if a ∈ F.mu then none else H a, F.mu⟩
theorem off_some {F : Fz} {H : Hp} {a : Addr} {o : HO} : off F H a = some o ↔ a ∉ F.mu ∧ H a = some o := by
  show (if a ∈ F.mu then none else H a) = some o ↔ _
  by_cases h : a ∈ F.mu
  · simp [h]
  · simp [h]
theorem off_sub (F : Fz) (H : Hp) : Same (off F H).h H := fun _ _ h => (off_some.mp h).2
/-- at a: an exception of the class at C, its dict at dd -/
def exK (a C dd : Addr) : HO := .ext fun h => ∃ (oe : Obj) (vs : Array Value), h.get? a = some oe ∧ oe.cls = .ref C ∧ oe.dict = some dd ∧ oe.data = .fields vs ∧ vs[2]? = some .none
def MOk (K : PySem.W.Frag) (F : Fz) (H : Hp) (a : Addr) : MO → Prop
  | .ml ds => ∃ vs, H a = some (.lst vs) ∧ vs.length ≤ sizeLine ∧ RpA K F vs ds
  | .mk ks ds => ∃ kvs : List (Key × V), H a = some (.dK kvs) ∧ kvs.map (·.1) = ks ∧ RpA K F (kvs.map (·.2)) ds
  | .mx nm f d => ∃ (dd : Addr) (v : V), H a = some (exK a (He.ga K nm) dd) ∧ F.h dd = some (.xd [(f, v)]) ∧ Rp K F v d
theorem MOk.mono {K : PySem.W.Frag} {F F' : Fz} {H H' : Hp} {a : Addr} {m : MO} (h : MOk K F H a m) (s : Ext F F') (e : H' a = H a) : MOk K F' H' a m := by
  cases m with
  | ml ds => obtain ⟨vs, h3, h4, h5⟩ := h; exact ⟨vs, by rw [e]; exact h3, h4, h5.mono s⟩
  | mk ks ds => obtain ⟨kvs, h3, h4, h5⟩ := h; exact ⟨kvs, by rw [e]; exact h3, h4, h5.mono s⟩
  | mx nm f d => obtain ⟨dd, v, h3, h4, h5⟩ := h; exact ⟨dd, v, by rw [e]; exact h3, s.h _ _ h4, h5.mono s⟩
theorem MOk.some {K : PySem.W.Frag} {F : Fz} {H : Hp} {a : Addr} {m : MO} (h : MOk K F H a m) : ∃ o, H a = Option.some o := by
  cases m with
  | ml ds => obtain ⟨vs, h3, _⟩ := h; exact ⟨_, h3⟩
  | mk ks ds => obtain ⟨vs, h3, _⟩ := h; exact ⟨_, h3⟩
  | mx nm f d => obtain ⟨dd, v, h3, _⟩ := h; exact ⟨_, h3⟩
structure GRep (K : PySem.W.Frag) (g : G) (F : Fz) (H : Hp) : Prop where
  len : g.length = F.mu.length
  nd : F.mu.Nodup
  at_ : ∀ (n : Nat) (m : MO) (a : Addr), g[n]? = some m → F.mu[n]? = some a → F a = none ∧ MOk K F H a m
theorem GRep.mem {K : PySem.W.Frag} {g : G} {F : Fz} {H : Hp} (r : GRep K g F H) {a : Addr} (h : a ∈ F.mu) : F a = none ∧ ∃ o, H a = some o := by
  obtain ⟨n, hn⟩ := List.getElem?_of_mem h
  have hl := (List.getElem?_eq_some_iff.mp hn).1
  have hl2 : n < g.length := by rw [r.len]; exact hl
  obtain ⟨h1, h2⟩ := r.at_ n g[n] a (List.getElem?_eq_getElem hl2) hn
  exact ⟨h1, h2.some⟩
theorem GRep.get {K : PySem.W.Frag} {g : G} {F : Fz} {H : Hp} (r : GRep K g F H) {n : Nat} {m : MO} (h : g[n]? = some m) : ∃ a, F.mu[n]? = some a ∧ F a = none ∧ MOk K F H a m := by
  have hl := (List.getElem?_eq_some_iff.mp h).1
  have hl2 : n < F.mu.length := by rw [← r.len]; exact hl
  have hn : F.mu[n]? = some F.mu[n] := List.getElem?_eq_getElem hl2
  exact ⟨_, hn, r.at_ n m _ h hn⟩
theorem GRep.out {K : PySem.W.Frag} {g : G} {F : Fz} {H : Hp} (r : GRep K g F H) {p : Addr} (h : H p = none) : p ∉ F.mu := fun z => by
  obtain ⟨_, o, ho⟩ := r.mem z
  rw [h] at ho; cases ho
theorem GRep.outF {K : PySem.W.Frag} {g : G} {F : Fz} {H : Hp} (r : GRep K g F H) {p : Addr} {o : HO} (h : F p = some o) : p ∉ F.mu := fun z => by
  rw [(r.mem z).1] at h; cases h
/-- other frozen things, another heap: the store's things stay -/
theorem GRep.mono {K : PySem.W.Frag} {g : G} {F : Fz} {h' : Hp} {H H' : Hp} (r : GRep K g F H) (s : Same F.h h') (hF : ∀ a ∈ F.mu, h' a = none) (hH : ∀ a ∈ F.mu, H' a = H a) : GRep K g ⟨h', F.mu⟩ H' :=
  ⟨r.len, r.nd, fun n m a e1 e2 => ⟨hF a (List.mem_of_getElem? e2), (r.at_ n m a e1 e2).2.mono ⟨s, List.prefix_refl _⟩ (hH a (List.mem_of_getElem? e2))⟩⟩
structure Stp (K : PySem.W.Frag) (g g' : G) (F F' : Fz) (H H' : Hp) : Prop where
  same : ∀ a o, a ∉ F.mu → H a = some o → H' a = some o
  mono : ∀ a, H' a = none → H a = none
  ext : Ext F F'
  new : ∀ a o, F' a = some o → (∃ u, F a = some u) ∨ H a = none
  newM : ∀ a, a ∈ F'.mu → a ∈ F.mu ∨ H a = none
  sub : Same F'.h H'
  rep : GRep K g' F' H'
theorem Stp.refl {K : PySem.W.Frag} {g : G} {F : Fz} {H : Hp} (s : Same F.h H) (r : GRep K g F H) : Stp K g g F F H H :=
  ⟨fun _ _ _ h => h, fun _ h => h, Ext.refl _, fun _ o h => .inl ⟨o, h⟩, fun _ h => .inl h, s, r⟩
theorem Stp.keepM {K : PySem.W.Frag} {g g' : G} {F F' : Fz} {H H' : Hp} {p : Addr} {o : HO} (s : Stp K g g' F F' H H') (hm : p ∉ F.mu) (hH : H p = some o) : p ∉ F'.mu := fun z => by
  rcases s.newM p z with h | h
  · exact hm h
  · rw [hH] at h; cases h
theorem Stp.trans {K : PySem.W.Frag} {g g1 g2 : G} {F F1 F2 : Fz} {H H1 H2 : Hp} (a : Stp K g g1 F F1 H H1) (b : Stp K g1 g2 F1 F2 H1 H2) : Stp K g g2 F F2 H H2 where
  same := fun x o hg h => b.same x o (a.keepM hg h) (a.same x o hg h)
  mono := fun x h => a.mono x (b.mono x h)
  ext := a.ext.trans b.ext
  new := fun x o h => by
    rcases b.new x o h with ⟨u, h1⟩ | h1
    · exact a.new x u h1
    · exact .inr (a.mono x h1)
  newM := fun x h => by
    rcases b.newM x h with h1 | h1
    · exact a.newM x h1
    · exact .inr (a.mono x h1)
  sub := b.sub
  rep := b.rep
theorem Stp.off {K : PySem.W.Frag} {g g' : G} {F F' : Fz} {H H' : Hp} (a : Stp K g g' F F' H H') : Ext (off F H) (off F' H') := ⟨fun x o h => by
  obtain ⟨h1, h2⟩ := off_some.mp h
  exact off_some.mpr ⟨a.keepM h1 h2, a.same x o h1 h2⟩, a.ext.m⟩
theorem Stp.offF {K : PySem.W.Frag} {g g' : G} {F F' : Fz} {H H' : Hp} (a : Stp K g g' F F' H H') : Ext F' (PD.off F' H') := ⟨fun x o h => off_some.mpr ⟨a.rep.outF h, a.sub x o h⟩, List.prefix_refl _⟩
/-- a new object, frozen at once -/
theorem Stp.alloc {K : PySem.W.Frag} {g : G} {F : Fz} {H : Hp} {p : Addr} {o : HO} (s : Same F.h H) (r : GRep K g F H) (hp : H p = none) : Stp K g g F (F.upd p o) H (upd H p o) := by
  have hF : F p = none := s.free hp
  have hm : p ∉ F.mu := r.out hp
  have ne : ∀ a ∈ F.mu, a ≠ p := fun a ha z => hm (by rw [← z]; exact ha)
  refine ⟨fun a u _ h => ?_, fun a h => ?_, .upd hF, fun a u h => ?_, fun a h => .inl h, fun a u h => ?_, ?_⟩
  · rw [upd_ne (ne_of_none h hp)]; exact h
  · by_cases e : a = p
    · subst e; exact hp
    · rw [upd_ne e] at h; exact h
  · by_cases e : a = p
    · subst e; exact .inr hp
    · have h : L2.upd F.h p o a = some u := h
      rw [upd_ne e] at h; exact .inl ⟨u, h⟩
  · have h : L2.upd F.h p o a = some u := h
    by_cases e : a = p
    · subst e; rw [upd_same] at h ⊢; exact h
    · rw [upd_ne e] at h ⊢; exact s a u h
  · exact r.mono (Ext.upd hF).h (fun a ha => by rw [upd_ne (ne a ha)]; exact (r.mem ha).1) fun a ha => upd_ne (ne a ha)
/-- a new object, not frozen -/
theorem Stp.allocO {K : PySem.W.Frag} {g : G} {F : Fz} {H : Hp} {p : Addr} {o : HO} (s : Same F.h H) (r : GRep K g F H) (hp : H p = none) : Stp K g g F F H (upd H p o) := by
  have hm : p ∉ F.mu := r.out hp
  have ne : ∀ a ∈ F.mu, a ≠ p := fun a ha z => hm (by rw [← z]; exact ha)
  refine ⟨fun a u _ h => ?_, fun a h => ?_, Ext.refl _, fun a u h => .inl ⟨u, h⟩, fun a h => .inl h, fun a u h => ?_, ?_⟩
  · rw [upd_ne (ne_of_none h hp)]; exact h
  · by_cases e : a = p
    · subst e; exact hp
    · rw [upd_ne e] at h; exact h
  · rw [upd_ne (ne_of_none (s a u h) hp)]; exact s a u h
  · exact r.mono (Same.refl _) (fun a ha => (r.mem ha).1) fun a ha => upd_ne (ne a ha)
/-- a new object of the store -/
theorem Stp.allocM {K : PySem.W.Frag} {g : G} {F : Fz} {H : Hp} {p : Addr} {o : HO} {m : MO} (s : Same F.h H) (r : GRep K g F H) (hp : H p = none) (ok : MOk K F (L2.upd H p o) p m) : Stp K g (g ++ [m]) F ⟨F.h, F.mu ++ [p]⟩ H (L2.upd H p o) := by
  have hm : p ∉ F.mu := r.out hp
  have hF : F p = none := s.free hp
  have ne : ∀ a ∈ F.mu, a ≠ p := fun a ha z => hm (by rw [← z]; exact ha)
  have ex : Ext F ⟨F.h, F.mu ++ [p]⟩ := ⟨Same.refl _, List.prefix_append _ _⟩
  refine ⟨fun a u _ h => ?_, fun a h => ?_, ex, fun a u h => .inl ⟨u, h⟩, fun a h => ?_, fun a u h => ?_, ⟨by simp [r.len], ?_, fun n x a h1 h2 => ?_⟩⟩
  · rw [upd_ne (ne_of_none h hp)]; exact h
  · by_cases e : a = p
    · subst e; exact hp
    · rw [upd_ne e] at h; exact h
  · rcases List.mem_append.mp h with h | h
    · exact .inl h
    · rw [List.mem_singleton.mp h]; exact .inr hp
  · rw [upd_ne (ne_of_none (s a u h) hp)]; exact s a u h
  · refine List.nodup_append.mpr ⟨r.nd, by simp, fun a ha b hb => ?_⟩
    rw [List.mem_singleton.mp hb]
    exact ne a ha
  · have h2 : (F.mu ++ [p])[n]? = some a := h2
    by_cases hn : n < g.length
    · rw [List.getElem?_append_left hn] at h1
      rw [List.getElem?_append_left (by rw [← r.len]; exact hn)] at h2
      obtain ⟨q1, q2⟩ := r.at_ n x a h1 h2
      exact ⟨q1, q2.mono ex (upd_ne (ne a (List.mem_of_getElem? h2)))⟩
    · have hn2 : n = g.length := by
        have := (List.getElem?_eq_some_iff.mp h1).1
        simp at this
        omega
      subst hn2
      rw [List.getElem?_append_right (Nat.le_refl _)] at h1
      rw [List.getElem?_append_right (by rw [r.len]; exact Nat.le_refl _), r.len] at h2
      simp at h1 h2
      subst h1 h2
      exact ⟨hF, ok.mono ex rfl⟩

/-! ### the slots -/
def SlotOk (K : PySem.W.Frag) (F : Fz) (H : Hp) (g : G) (v : V) : LV → Prop
  | .d x => Rp K F v x
  | .ol ds => ∃ p vs, v = .ref p ∧ F p = none ∧ p ∉ F.mu ∧ H p = some (.lst vs) ∧ vs.length ≤ sizeLine ∧ RpA K F vs ds
  | .ok ks ds => ∃ p, ∃ kvs : List (Key × V), v = .ref p ∧ F p = none ∧ p ∉ F.mu ∧ H p = some (.dK kvs) ∧ kvs.map (·.1) = ks ∧ RpA K F (kvs.map (·.2)) ds
  | .ot ks ds => ∃ p, ∃ kvs : List (List Key × V), v = .ref p ∧ F p = none ∧ p ∉ F.mu ∧ H p = some (.dT kvs) ∧ kvs.map (·.1) = ks ∧ RpA K F (kvs.map (·.2)) ds
def LV.own : LV → Bool
  | .d _ => false
  | _ => true
def Owned (ρ : Rho) (σ : St) (i : Nat) (p : Addr) : Prop := ∃ lv, ρ[i]? = some (some lv) ∧ lv.own = true ∧ σ[i]? = some (some (.ref p))
structure Sl (K : PySem.W.Frag) (F : Fz) (H : Hp) (g : G) (ρ : Rho) (σ : St) : Prop where
  len : ρ.length = σ.length
  at_ : ∀ (i : Nat) (lv : LV), ρ[i]? = some (some lv) → ∃ v, σ[i]? = some (some v) ∧ SlotOk K F H g v lv
  sep : ∀ (i j : Nat) (p : Addr), Owned ρ σ i p → Owned ρ σ j p → i = j
structure PreE (K : PySem.W.Frag) (F : Fz) (H : Hp) (g : G) (ρ : Rho) (σ : St) : Prop where
  sub : Same F.h H
  rep : GRep K g F H
  sl : Sl K F H g ρ σ
theorem SlotOk.step {K : PySem.W.Frag} {g g' : G} {F F' : Fz} {H H' : Hp} {v : V} {lv : LV} (h : SlotOk K F H g v lv) (s : Stp K g g' F F' H H') : SlotOk K F' H' g' v lv := by
  have key : ∀ p o, F p = none → H p = some o → F' p = none := fun p o h1 h2 => by
    cases e : F' p with
    | none => rfl
    | some u =>
      rcases s.new p u e with ⟨w, h3⟩ | h3
      · rw [h1] at h3; cases h3
      · rw [h2] at h3; cases h3
  cases lv with
  | d x => exact Rp.mono s.ext h
  | ol ds => obtain ⟨p, vs, h1, h2, h3, h4, h5, h6⟩ := h; exact ⟨p, vs, h1, key p _ h2 h4, s.keepM h3 h4, s.same _ _ h3 h4, h5, h6.mono s.ext⟩
  | ok ks ds => obtain ⟨p, vs, h1, h2, h3, h4, h5, h6⟩ := h; exact ⟨p, vs, h1, key p _ h2 h4, s.keepM h3 h4, s.same _ _ h3 h4, h5, h6.mono s.ext⟩
  | ot ks ds => obtain ⟨p, vs, h1, h2, h3, h4, h5, h6⟩ := h; exact ⟨p, vs, h1, key p _ h2 h4, s.keepM h3 h4, s.same _ _ h3 h4, h5, h6.mono s.ext⟩
theorem PreE.step {K : PySem.W.Frag} {g g' : G} {F F' : Fz} {H H' : Hp} {ρ : Rho} {σ : St} (h : PreE K F H g ρ σ) (s : Stp K g g' F F' H H') : PreE K F' H' g' ρ σ :=
  ⟨s.sub, s.rep, h.sl.len, fun i lv e => let ⟨v, h1, h2⟩ := h.sl.at_ i lv e; ⟨v, h1, h2.step s⟩, h.sl.sep⟩
theorem PreE.refl {K : PySem.W.Frag} {g : G} {F : Fz} {H : Hp} {ρ : Rho} {σ : St} (h : PreE K F H g ρ σ) : Stp K g g F F H H := Stp.refl h.sub h.rep

/-! ### the judgements -/
abbrev E := Rho → M D
abbrev EA := Rho → M (List D)
abbrev T := Rho → M Bool
section
variable (X : Cx)
def PD (e : Expr) (f : E) : Prop := ∃ t, PE X e t ∧ ∀ σ H F ρ g, PreE X.K F H g ρ σ → ∀ d g', f ρ g = some (d, g') → ∀ Q : VK,
  (∀ v H' F', Stp X.K g g' F F' H H' → Rp X.K F' v d → Q v H') → t σ H Q
/-- the value may name what is one's own: to be used up at once -/
def PB (e : Expr) (f : E) : Prop := ∃ t, PE X e t ∧ ∀ σ H F ρ g, PreE X.K F H g ρ σ → ∀ d g', f ρ g = some (d, g') → ∀ Q : VK,
  (∀ v H' F', Stp X.K g g' F F' H H' → Rp X.K (off F' H') v d → Q v H') → t σ H Q
def PDT (e : Expr) (f : T) : Prop := ∃ t, PT X e t ∧ ∀ σ H F ρ g, PreE X.K F H g ρ σ → ∀ b g', f ρ g = some (b, g') → ∀ Q : Bool → Hp → Prop,
  (∀ H' F', Stp X.K g g' F F' H H' → Q b H') → t σ H Q
def PDW (e : Expr) (f : T) : Prop := ∃ t, PW X e t ∧ ∀ σ H F ρ g, PreE X.K F H g ρ σ → ∀ b g', f ρ g = some (b, g') → ∀ Q : Bool → Hp → Prop,
  (∀ H' F', Stp X.K g g' F F' H H' → Q b H') → t σ H Q
def PDA (es : List Expr) (f : EA) : Prop := ∃ t, PA X es t ∧ ∀ σ H F ρ g, PreE X.K F H g ρ σ → ∀ ds g', f ρ g = some (ds, g') → ∀ Q : List V → Hp → Prop,
  (∀ vs H' F', Stp X.K g g' F F' H H' → RpA X.K F' vs ds → Q vs H') → t σ H Q
def PBA (es : List Expr) (f : EA) : Prop := ∃ t, PA X es t ∧ ∀ σ H F ρ g, PreE X.K F H g ρ σ → ∀ ds g', f ρ g = some (ds, g') → ∀ Q : List V → Hp → Prop,
  (∀ vs H' F', Stp X.K g g' F F' H H' → RpA X.K (off F' H') vs ds → Q vs H') → t σ H Q
end
end PD
end
section
set_option Elab.async false
set_option linter.all false
set_option maxRecDepth 100000
set_option maxHeartbeats 4000000
set_option autoImplicit false
namespace PD
open PySem PySem.Spec L2
open PyProof.Rows hiding St

/-! ### a def's promise, where no repr is under way -/
structure FnG (P : Program) (w : World) (K : PySem.W.Frag) (mg : Str → Option Value) (base : Heap) (CX : CXT) (k : Nat) (f : Addr) (fd : FuncData) (ps : List Str) (sp : Sp) : Prop where
  len : ∀ vs H Q E, sp vs H Q E → vs.length = ps.length
  run : ∀ (A : Around) (outer : List Env) (s : Shared) (H : Hp) (args : Args) (us : List Value) (vs : List V) (Q : VK) (E : XK), Room k A → A.guards = some [] →
    Env0 P w K mg base A outer s H → BindsTo s fd args (ps.zip us) → Vals vs us → sp vs H Q E → codeAny (model P w) A (.call (.ref f) args) (CR CX outer P w H s Q E) s
theorem FnG.mono {P : Program} {w : World} {K : PySem.W.Frag} {mg : Str → Option Value} {base : Heap} {CX : CXT} {j k : Nat} {f : Addr} {fd : FuncData} {ps : List Str} {sp : Sp}
    (F : FnG P w K mg base CX j f fd ps sp) (h : j ≤ k) : FnG P w K mg base CX k f fd ps sp :=
  ⟨F.len, fun A outer s H args us vs Q E r => F.run A outer s H args us vs Q E (r.mono h)⟩
theorem FnG.imp {P : Program} {w : World} {K : PySem.W.Frag} {mg : Str → Option Value} {base : Heap} {CX : CXT} {k : Nat} {f : Addr} {fd : FuncData} {ps : List Str} {sp sp' : Sp}
    (F : FnG P w K mg base CX k f fd ps sp) (h : ∀ vs H Q E, sp' vs H Q E → sp vs H Q E) : FnG P w K mg base CX k f fd ps sp' :=
  ⟨fun vs H Q E q => F.len vs H Q E (h _ _ _ _ q), fun A o s H args us vs Q E r gd e b v q => F.run A o s H args us vs Q E r gd e b v (h _ _ _ _ q)⟩
section
variable {X : Cx} {CX : CXT} {k : Nat} {f : Addr} {fd : FuncData} {ps : List Str} {sp : Sp} {dvs : List V} {ds : List Value} {E : XK} {x : Str} {p pos : Pos} {e : Expr} {es : List Expr} {t : TA}
theorem run_g {pins : List (Addr × Obj)} {σ : St} {H : Hp} {s : Shared} {Q : VK} {us : List Value} {vs : List V} (F : FnG X.prog X.w X.K X.mg X.base CX k f fd ps sp) (hr : Room k X.A)
    (gd : X.A.guards = some []) (hb : Binds X.K fd ps ds) (hd : Vals dvs ds) (hx : Passes CX X E) (I : Inv X pins σ H s) (r : Vals vs us) (h : sp (vs ++ dvs) H Q E) :
    wpAny (model X.prog X.w) X.A (call (.ref f) us) (EP X pins σ Q) X.xe s := by
  have all := r.append hd
  have hn : (us ++ ds).length = ps.length := all.length.symm.trans (F.len _ _ _ _ h)
  refine wpAny_call (codeAny_mono (F.run X.A X.stack s H ⟨us, []⟩ (us ++ ds) (vs ++ dvs) Q E hr gd I.env0 (hb s us I.kIn hn) all h) fun res s' hq => ?_)
  match res, hq with
  | .error er, hq => exact hx pins σ H s er s' I hq
  | .ok (.ret u), hq => exact I.after hq
  | .ok .next, hq => exact False.elim hq
  | .ok .brk, hq => exact False.elim hq
  | .ok .cont, hq => exact False.elim hq
theorem pe_callG (F : FnG X.prog X.w X.K X.mg X.base CX k f fd ps sp) (hr : Room k X.A) (gd : X.A.guards = some []) (hg : Gl X x) (hm : X.mg x = some (.ref f)) (hk : PySem.W.keepIn X.K (.ref f) = true)
    (hb : Binds X.K fd ps ds) (hd : Vals dvs ds) (hx : Passes CX X E) (ha : PA X (e :: es) t) (hdb : (x == ("__debug__" : Str)) = false := by decide)
    (he : starEach (e :: es) X.env = (false, eval e X.env) :: starEach es X.env := by rfl) (hpl : (backTo pos (starEach es X.env)).any (·.1) = false := by rfl) : PE X (.Call (.Name x p) (e :: es) [] pos) (tCall sp dvs E t) :=
  ⟨fun pins s σ H Q I h => wpAny_Call_Name_kw (ld_glob I hg hm
    (PySem.W.callWith_K (h₀ := X.base) I.ok.mod.kin hk (thn (ha.run pos pins s σ H _ I h) fun us s1 ⟨vs, H1, I1, r, q⟩ => ⟨I1.kIn, run_g F hr gd hb hd hx I1 r q⟩) he hpl) hdb)⟩
theorem pe_callG0 (F : FnG X.prog X.w X.K X.mg X.base CX k f fd ps sp) (hr : Room k X.A) (gd : X.A.guards = some []) (hg : Gl X x) (hm : X.mg x = some (.ref f)) (hk : PySem.W.keepIn X.K (.ref f) = true)
    (hb : Binds X.K fd ps ds) (hd : Vals dvs ds) (hx : Passes CX X E) (hdb : (x == ("__debug__" : Str)) = false := by decide) : PE X (.Call (.Name x p) [] [] pos) (tCall sp dvs E tNil) :=
  ⟨fun pins s σ H Q I h => wpAny_Call_Name_kw (ld_glob I hg hm (PySem.W.callWith_K0 I.kIn hk (run_g (us := []) F hr gd hb hd hx I .nil h)) hdb)⟩
end
/-- the rule for a def -/
theorem fn_g {CX : CXT} {P : Program} {w : World} {K : PySem.W.Frag} {mg : Str → Option Value} {base : Heap} {k : Nat} {f : Addr} {x qual : Str} {params : Arguments} {body : List Stmt} {scope : Scope} {dvs : List V} {kws : List (Str × V)} {fd : FuncData}
    {N ps : List Str} {sp : Sp} (F : FunD K x qual params body scope dvs kws f fd) (S : FnScope N ps scope) (len : ∀ vs H Q E, sp vs H Q E → vs.length = ps.length)
    (hbody : ∀ (cdv : Value) (A : Around) (outer : List Env) (s : Shared) (H : Hp) (vs : List V) (Q : VK) (E : XK), Room k (A.deeper (envOfC qual scope s.heap.objs.size f cdv)) →
      (A.deeper (envOfC qual scope s.heap.objs.size f cdv)).guards = some [] → sp vs H Q E →
      ∃ t, PSs (cxOf CX P w K mg base N qual scope f cdv A outer s H E) body t ∧ t { nx := fun _ H' => Q .non H', rt := Q } (start N vs) H) : FnG P w K mg base CX (k + 1) f fd ps sp := by
  obtain ⟨oc, od, dV, kV, doc, pm, an, cdv, ct, osl, rfl, lk, hcd, _, _⟩ := F.ex
  refine ⟨len, fun A outer s H args us vs Q E hr gd e0 hb r hsp => ?_⟩
  have hl := len _ _ _ _ hsp
  have old : ∀ b o, base.get? b = some o → s.heap.get? b = some o := fun b o e => (e0.bs b o e).1
  have KX : K.In s.heap := e0.mod.kin.keeps old
  refine codeAny_call_function hr.depth (KX _ _ lk) rfl S.co S.gen rfl (PySem.W.codeRec_of KX hcd) (hb _ _ _ _ ?_)
  refine wpAny_newFunctionEnv_cells S.kind (fun y hy => ?_) fun env he s1 z => ?_
  · obtain ⟨n, v⟩ := y
    have q := S.par n (List.of_mem_zip hy).1
    exact q.imp id fun q => ⟨q, PySem.W.cellsFrom_some _ _ _ (.inl q)⟩
  subst he
  refine ⟨(e0.mod.nolimit.keeps old).keeps z.toInCall.keep, codeAny_func ?_⟩
  obtain ⟨t, ht, hq⟩ := hbody cdv A outer s H vs Q E (hr.deeper _) gd hsp
  have I := inv_start (CX := CX) (w := w) (K := K) (mg := mg) (base := base) (E := E) S hr.hd e0 hl r z
  refine wpAny_mono (ht.run [] s1 (start N vs) H _ I hq) (fun fl s' hs => ?_) fun _ _ hs => hs
  match fl, hs with
  | .ret u, ⟨v, _, H', J, rv, q⟩ => exact ⟨v, H', J.os, J.bare, J.base, J.hok, rv, q⟩
  | .next, ⟨_, H', J, q⟩ => exact ⟨V.non, H', J.os, J.bare, J.base, J.hok, rfl, q⟩
  | .brk, ⟨_, _, _, q⟩ => exact False.elim q
  | .cont, ⟨_, _, _, q⟩ => exact False.elim q
/-- the law's call -/
theorem law_g {P : Program} {w : World} {K : PySem.W.Frag} {mg mb : Str → Option Value} {k : Nat} {fa a : Addr} {fd : FuncData} {x : Str} {sp : Sp} {s₁ : Shared} {vs : List Value} {ns : List Int}
    (KX : K.In s₁.heap) (hns : s₁.heap.Ns mainGlobals mg) (hb : s₁.heap.Ns builtinsNs mb) (hbb : ∀ x : Str, x ≠ "__name__" → mb x = bootBuiltins x) (hlim : s₁.heap.NoLimit) (hg : s₁.gens = #[])
    (ha : s₁.heap.get? a = some { cls := .type "list", data := .seq vs.toArray }) (hi : IntsAre vs ns) (hl : ns.length ≤ sizeLine) (hr : Room k callerA)
    (F : ∀ base : Heap, K.In base → base.Ns mainGlobals mg → FnG P w K mg base CX0 k fa fd [x] sp) (hbind : ∀ (s : Shared) (u : Value), BindsTo s fd ⟨[u], []⟩ [(x, u)])
    (hsp : ∀ H : Hp, SqL K H a (ns.map V.int) → sp [.ref a] H (fun v _ => v = .bl true) fun _ _ _ => False) :
    codeAny (model P w) callerA (.call (.ref fa) ⟨[.ref a], []⟩) (fun r s' => r = .ok (.ret (.bool true)) ∧ OldK s₁.heap s'.heap ∧ s'.os = s₁.os ∧ AllBare s'.gens) s₁ := by
  have rv := vals_ints hi
  have core : ∀ H : Hp, (∀ b, H b = none ∨ (b = a ∧ K.lookup a = none ∧ H b = some (.frz { cls := .type "list", data := .seq vs.toArray } (.lst (ns.map V.int))))) → SqL K H a (ns.map V.int) →
      codeAny (model P w) callerA (.call (.ref fa) ⟨[.ref a], []⟩) (fun r s' => r = .ok (.ret (.bool true)) ∧ OldK s₁.heap s'.heap ∧ s'.os = s₁.os ∧ AllBare s'.gens) s₁ := by
    intro H hA hS
    have hok : HOk P w H s₁.heap := fun b o e => by
      rcases hA b with n | ⟨rfl, _, q⟩
      · rw [n] at e; cases e
      · rw [q] at e; cases e
        exact ⟨ha, by rw [List.length_map]; exact hl, vs, _, rv, ha⟩
    have free : ∀ {b : Addr} {o : Obj}, s₁.heap.get? b = some o → (∀ its n, o.data ≠ .seq its n) → H b = none := fun {b o} e d => by
      rcases hA b with n | ⟨rfl, _, q⟩
      · exact n
      · rw [ha] at e; cases e; exact absurd rfl (d _ _)
    have nsK : ∀ {b : Addr} {m : Str → Option Value}, s₁.heap.Ns b m → (hidT s₁.heap H).Ns b m := fun {b m} ⟨o, es, ep, e, d, r⟩ =>
      ⟨o, es, ep, hidT_get e (free e fun its n z => by rw [d] at z; cases z), d, r⟩
    have kb : K.In (hidT s₁.heap H) := fun b o e => hidT_get (KX b o e) (by
      rcases hA b with n | ⟨rfl, q, _⟩
      · exact n
      · rw [q] at e; cases e)
    have e0 : Env0 P w K mg (hidT s₁.heap H) callerA [] s₁ H :=
      ⟨rfl, ⟨kb, nsK hns, ⟨mb, nsK hb, hbb⟩, hlim.imp fun _ z => ⟨nsK z.1, z.2⟩⟩, fun b o e => of_hidT e, Nat.le_of_eq (hidT_size _ _), trivial, fun b z => (List.not_mem_nil (show b ∈ ([] : List Addr) from z)).elim, hok, .of_eq hg⟩
    refine codeAny_mono ((F _ kb (nsK hns)).run callerA [] s₁ H ⟨[.ref a], []⟩ [.ref a] [.ref a] _ _ hr rfl e0 (hbind s₁ (.ref a)) (.cons rfl .nil) (hsp H hS)) fun r s' h => ?_
    match r, h with
    | .error e, h => exact False.elim h
    | .ok .next, h => exact False.elim h
    | .ok .brk, h => exact False.elim h
    | .ok .cont, h => exact False.elim h
    | .ok (.ret u), ⟨v, H', os, bare, un, hok', r', q⟩ =>
      have q : v = .bl true := q
      subst q
      obtain rfl : u = Value.bool true := r'
      refine ⟨rfl, OldK.of_keep fun b o e => ?_, os, bare⟩
      rcases hA b with n | ⟨rfl, _, q⟩
      · exact un.keep b o e n (fun z => (List.not_mem_nil (show b ∈ ([] : List Addr) from z)).elim) (by simp)
      · obtain ⟨e2, _⟩ := hok' _ _ (un.frzs _ _ _ q)
        rw [ha] at e; cases e
        exact e2
  cases hk : K.lookup a with
  | some o =>
    have e := KX a o hk
    rw [ha] at e
    cases e
    exact core (fun _ => none) (fun _ => .inl rfl) (.inr ⟨_, vs.toArray, _, hk, rfl, rfl, rfl, by rw [List.size_toArray, hi.length]; exact hl, by simpa using rv⟩)
  | none =>
    refine core (fun b => if b = a then some (.frz { cls := .type "list", data := .seq vs.toArray } (.lst (ns.map V.int))) else none) (fun b => ?_) (.inl (.inr ⟨_, if_pos rfl⟩))
    by_cases hba : b = a
    · exact .inr ⟨hba, hk, if_pos hba⟩
    · exact .inl (if_neg hba)
theorem walk_g {l : PySem.W.OpenLaw} {n k : Nat} {q : Program} {loose : List Str} {XP : (Str → Option Value) → Heap → Prop} {YP : World → Heap → Prop} {d : DefRec} {x : Str}
    (hn : l.most = some n) (hn2 : n ≤ sizeLine) (hdf : d.params.defaults = []) (hr : Room k callerA)
    (F : ∀ (w : World) (mg : Str → Option Value) (fa : Addr) (h : Heap), YP w h → h.Ns mainGlobals mg → mg d.name = some (.ref fa) →
      ∃ (K : PySem.W.Frag) (fd : FuncData) (sp : Sp), K.In h ∧ (∀ (s : Shared) (u : Value), BindsTo s fd ⟨[u], []⟩ [(x, u)]) ∧
        (∀ (H : Hp) (a : Addr) (ns : List Int), ns.length ≤ n → SqL K H a (ns.map V.int) → sp [.ref a] H (fun v _ => v = .bl true) fun _ _ _ => False) ∧
        ∀ base : Heap, K.In base → base.Ns mainGlobals mg → FnG l.prog w K mg base CX0 k fa fd [x] sp) :
    PySem.W.WalkO q loose XP YP l.row.toRowW d [] (fun f vs => PySem.call f vs) := by
  refine Att.attach_call hn hdf fun w s₀ s₁ mg mb fa o pm cd doc a vs ns G Y ho hd hcd hmg hobj hints hlen hg => ?_
  obtain ⟨K, fd, sp, KX, hb, hsp, hF⟩ := F w mg fa _ Y G.T.g hmg
  exact law_g KX G.T.g G.T.b G.T.builtins G.T.nolimit hg hobj hints (Nat.le_trans hlen hn2) hr hF hb fun H hS => hsp H a ns hlen hS
end PD
end
section
set_option Elab.async false
set_option linter.all false
set_option maxRecDepth 100000
set_option maxHeartbeats 4000000
set_option autoImplicit false
namespace PD
open PySem PySem.Spec L2
open PyProof.Rows hiding St

/-! ### names, constants -/
def LV.get : LV → D
  | .d x => x
  | .ol l => .lst l
  | .ok ks l => .dk ks l
  | .ot ks l => .dt ks l
def eVar (i : Nat) : E := fun ρ => ml (match ρ[i]? with
  | some (some (.d x)) => some x
  | _ => none)
def eOwn (i : Nat) : E := fun ρ => ml (match ρ[i]? with
  | some (some lv) => some lv.get
  | _ => none)
def eC (d : D) : E := fun _ => mr d
section
variable {X : Cx} {a b c e : Expr} {f fa fb fc : E} {pos : Pos}
theorem PD.weak (h : PD X e f) : PB X e f := by
  obtain ⟨t, ht, k⟩ := h
  exact ⟨t, ht, fun σ H F ρ g pre d g' e Q q => k σ H F ρ g pre d g' e Q fun v H' F' s r => q v H' F' s (r.mono s.offF)⟩
theorem pd_var (i : Nat) {x : Str} (hN : X.N[i]? = some x := by rfl) (hv : Vis X.env.scope x := by first | exact Or.inl rfl | exact Or.inr (Or.inl rfl) | exact Or.inr (Or.inr rfl))
    (hd : (x == ("__debug__" : Str)) = false := by decide) (hcd : (x == ("__classdict__" : Str)) = false := by decide) : PD X (.Name x pos) (eVar i) := by
  refine ⟨_, pe_var hN hv hd hcd, fun σ H F ρ g pre d g' e Q q => ?_⟩
  obtain ⟨e1, rfl⟩ := ml_inv e
  cases h : ρ[i]? with
  | none => rw [h] at e1; cases e1
  | some o =>
    rw [h] at e1
    match o, e1, h with
    | some (.d x), rfl, h =>
      obtain ⟨v, h1, h2⟩ := pre.sl.at_ i _ h
      exact ⟨v, h1, q v H F pre.refl h2⟩
theorem slot_off {K : PySem.W.Frag} {F : Fz} {H : Hp} {g : G} {ρ : Rho} {σ : St} {v : V} {lv : LV} (pre : PreE K F H g ρ σ) (h : SlotOk K F H g v lv) : Rp K (off F H) v lv.get := by
  have sF : Ext F (off F H) := pre.refl.offF
  match lv, h with
  | .d x, h => exact Rp.mono sF h
  | .ol l, ⟨p, vs, e, _, h3, h4, h5, h6⟩ => subst e; exact .lst (.of (off_some.mpr ⟨h3, h4⟩)) h5 (h6.mono sF)
  | .ok ks l, ⟨p, vs, e, _, h3, h4, h5, h6⟩ => subst e; subst h5; exact .dk (.inl (off_some.mpr ⟨h3, h4⟩)) (h6.mono sF)
  | .ot ks l, ⟨p, vs, e, _, h3, h4, h5, h6⟩ => subst e; subst h5; exact .dt (.inl (off_some.mpr ⟨h3, h4⟩)) (h6.mono sF)
theorem pb_own (i : Nat) {x : Str} (hN : X.N[i]? = some x := by rfl) (hv : Vis X.env.scope x := by first | exact Or.inl rfl | exact Or.inr (Or.inl rfl) | exact Or.inr (Or.inr rfl))
    (hd : (x == ("__debug__" : Str)) = false := by decide) (hcd : (x == ("__classdict__" : Str)) = false := by decide) : PB X (.Name x pos) (eOwn i) := by
  refine ⟨_, pe_var hN hv hd hcd, fun σ H F ρ g pre d g' e Q q => ?_⟩
  obtain ⟨e1, rfl⟩ := ml_inv e
  cases h : ρ[i]? with
  | none => rw [h] at e1; cases e1
  | some o =>
    rw [h] at e1
    match o, e1, h with
    | some lv, rfl, h =>
      obtain ⟨v, h1, h2⟩ := pre.sl.at_ i _ h
      exact ⟨v, h1, q v H F pre.refl (slot_off pre h2)⟩
theorem pd_c {t : V} {d : D} (h : PE X e (tC t)) (r : ∀ F, Rp X.K F t d) : PD X e (eC d) := by
  refine ⟨_, h, fun σ H F ρ g pre d' g' e Q q => ?_⟩
  obtain ⟨rfl, rfl⟩ := mr_inv e
  exact q _ H F pre.refl (r F)
theorem pd_int {i : Int} {j : Nat} : PD X (.Constant (.int i) j pos) (eC (.int i)) := pd_c pe_int fun _ => .int i
theorem pd_str {x : Str} {j : Nat} (h : sOk x = true := by decide +kernel) : PD X (.Constant (.str x) j pos) (eC (.str x)) := pd_c pe_str fun _ => .str x h
theorem pd_bl {b : Bool} {j : Nat} : PD X (.Constant (.bool b) j pos) (eC (.bl b)) := pd_c pe_bl fun _ => .bl b
theorem pd_non {j : Nat} : PD X (.Constant .none j pos) (eC .non) := pd_c pe_non fun _ => .non
/-- a module's number, text -/
theorem pd_gint {x : Str} {i : Int} (hm : ∃ t, X.mg x = some (.int i t)) (hg : Gl X x := by rfl) (hd : (x == ("__debug__" : Str)) = false := by decide) : PD X (.Name x pos) (eC (.int i)) := by
  obtain ⟨t, hm⟩ := hm
  exact pd_c (pe_glob (v := .int i) hg hm ⟨t, rfl⟩ hd) fun _ => .int i
theorem pd_gstr {x z : Str} (hm : ∃ t, X.mg x = some (.str z t)) (hz : sOk z = true := by decide +kernel) (hg : Gl X x := by rfl) (hd : (x == ("__debug__" : Str)) = false := by decide) : PD X (.Name x pos) (eC (.str z)) := by
  obtain ⟨t, hm⟩ := hm
  exact pd_c (pe_glob (v := .str z) hg hm ⟨t, rfl⟩ hd) fun _ => .str z hz

/-! ### two operands -/
def eOp (h : D → D → Option D) (a b : E) : E := fun ρ => mb (a ρ) fun x => mb (b ρ) fun y => ml (h x y)
/-- a reading of values, by data; the new parts are frozen -/
def OpD (K : PySem.W.Frag) (r : R2) (h : D → D → Option D) : Prop := ∀ (F : Fz) (H : Hp) g x y dx dy d, Same F.h H → GRep K g F H → Rp K F x dx → Rp K F y dy → h dx dy = some d →
  ∀ Q : VK, (∀ v H' F', Stp K g g F F' H H' → Rp K F' v d → Q v H') → r x y H Q
/-- a reading of values by data that gives a truth -/
def OpB (K : PySem.W.Frag) (r : R2) (h : D → D → Option Bool) : Prop := ∀ (W : Fz) (H : Hp) x y dx dy b, Same W.h H → Rp K W x dx → Rp K W y dy → h dx dy = some b → ∀ Q : VK, Q (.bl b) H → r x y H Q
theorem pd_op {op : Operator} {r : R2} {h : D → D → Option D} (ho : OpR X (binaryOp op) r) (hh : OpD X.K r h) (ha : PD X a fa) (hb : PD X b fb) : PD X (.BinOp a op b pos) (eOp h fa fb) := by
  obtain ⟨ta, pa, ka⟩ := ha
  obtain ⟨tb, pb, kb⟩ := hb
  refine ⟨_, pe_op ho pa pb, fun σ H F ρ g pre d g' e Q q => ?_⟩
  obtain ⟨dx, g1, e1, e⟩ := mb_inv e
  obtain ⟨dy, g2, e2, e⟩ := mb_inv e
  obtain ⟨e3, rfl⟩ := ml_inv e
  refine ka σ H F ρ g pre dx g1 e1 _ fun x H1 F1 s1 r1 => ?_
  refine kb σ H1 F1 ρ g1 (pre.step s1) dy g' e2 _ fun y H2 F2 s2 r2 => ?_
  exact hh F2 H2 g' x y dx dy d s2.sub s2.rep (r1.mono s2.ext) r2 e3 Q fun v H3 F3 s3 r3 => q v H3 F3 ((s1.trans s2).trans s3) r3
def eCmp (h : D → D → Option Bool) (a b : E) : E := fun ρ => mb (a ρ) fun x => mb (b ρ) fun y => ml ((h x y).map D.bl)
theorem pd_cmp {op : CmpOp} {r : R2} {h : D → D → Option Bool} (ho : OpR X (compareOp op) r) (hh : OpB X.K r h) (ha : PB X a fa) (hb : PB X b fb) (hm : behindInMarks op b = false := by first | exact nomark _ | rfl) :
    PD X (.Compare a [op] [b] pos) (eCmp h fa fb) := by
  obtain ⟨ta, pa, ka⟩ := ha
  obtain ⟨tb, pb, kb⟩ := hb
  refine ⟨_, pe_cmpR ho pa pb hm, fun σ H F ρ g pre d g' e Q q => ?_⟩
  obtain ⟨dx, g1, e1, e⟩ := mb_inv e
  obtain ⟨dy, g2, e2, e⟩ := mb_inv e
  obtain ⟨e3, rfl⟩ := ml_inv e
  obtain ⟨b, e4, rfl⟩ := Option.map_eq_some_iff.mp e3
  refine ka σ H F ρ g pre dx g1 e1 _ fun x H1 F1 s1 r1 => ?_
  refine kb σ H1 F1 ρ g1 (pre.step s1) dy g' e2 _ fun y H2 F2 s2 r2 => ?_
  exact hh (off F2 H2) H2 x y dx dy b (off_sub _ _) (r1.mono s2.off) r2 e4 Q (q _ H2 F2 (s1.trans s2) (.bl b))
def tCmp (h : D → D → Option Bool) (a b : E) : T := fun ρ => mb (a ρ) fun x => mb (b ρ) fun y => ml (h x y)
theorem pdt_cmp {op : CmpOp} {r : R2} {h : D → D → Option Bool} (ho : OpR X (compareOp op) r) (hh : OpB X.K r h) (ha : PB X a fa) (hb : PB X b fb) (hm : behindInMarks op b = false := by first | exact nomark _ | rfl) :
    PDT X (.Compare a [op] [b] pos) (tCmp h fa fb) := by
  obtain ⟨ta, pa, ka⟩ := ha
  obtain ⟨tb, pb, kb⟩ := hb
  refine ⟨_, pt_cmpR ho pa pb hm, fun σ H F ρ g pre d g' e Q q => ?_⟩
  obtain ⟨dx, g1, e1, e⟩ := mb_inv e
  obtain ⟨dy, g2, e2, e⟩ := mb_inv e
  obtain ⟨e4, rfl⟩ := ml_inv e
  refine ka σ H F ρ g pre dx g1 e1 _ fun x H1 F1 s1 r1 => ?_
  refine kb σ H1 F1 ρ g1 (pre.step s1) dy g' e2 _ fun y H2 F2 s2 r2 => ?_
  exact hh (off F2 H2) H2 x y dx dy d (off_sub _ _) (r1.mono s2.off) r2 e4 _ ⟨_, rfl, q H2 F2 (s1.trans s2)⟩
/-- a <= b <= c -/
def eChain (h h' : D → D → Option Bool) (a b c : E) : E := fun ρ => mb (a ρ) fun x => mb (b ρ) fun y => mb (ml (h x y)) fun k => if k = true then mb (c ρ) fun z => ml ((h' y z).map D.bl) else mr (.bl false)
theorem pd_chain {op op' : CmpOp} {r r' : R2} {h h' : D → D → Option Bool} (ho : OpR X (compareOp op) r) (ho' : OpR X (compareOp op') r') (hh : OpB X.K r h) (hh' : OpB X.K r' h') (ha : PB X a fa) (hb : PB X b fb) (hc : PB X c fc)
    (hm : lastMarks [op, op'] [b, c] = false := by with_unfolding_all rfl) : PD X (.Compare a [op, op'] [b, c] pos) (eChain h h' fa fb fc) := by
  obtain ⟨ta, pa, ka⟩ := ha
  obtain ⟨tb, pb, kb⟩ := hb
  obtain ⟨tc, pc, kc⟩ := hc
  refine ⟨_, pe_chain ho ho' pa pb pc hm, fun σ H F ρ g pre d g' e Q q => ?_⟩
  obtain ⟨dx, g1, e1, e⟩ := mb_inv e
  obtain ⟨dy, g2, e2, e⟩ := mb_inv e
  obtain ⟨k, g3, e3, e⟩ := mb_inv e
  obtain ⟨e4, rfl⟩ := ml_inv e3
  refine ka σ H F ρ g pre dx g1 e1 _ fun x H1 F1 s1 r1 => ?_
  refine kb σ H1 F1 ρ g1 (pre.step s1) dy g3 e2 _ fun y H2 F2 s2 r2 => ?_
  refine hh (off F2 H2) H2 x y dx dy k (off_sub _ _) (r1.mono s2.off) r2 e4 _ ⟨k, rfl, ?_⟩
  cases k with
  | false =>
    rw [if_neg Bool.false_ne_true] at e ⊢
    obtain ⟨rfl, rfl⟩ := mr_inv e
    exact q _ H2 F2 (s1.trans s2) (.bl false)
  | true =>
    rw [if_pos rfl] at e ⊢
    obtain ⟨dz, g4, e5, e⟩ := mb_inv e
    obtain ⟨e6, rfl⟩ := ml_inv e
    obtain ⟨b, e7, rfl⟩ := Option.map_eq_some_iff.mp e6
    refine kc σ H2 F2 ρ g3 (pre.step (s1.trans s2)) dz g' e5 _ fun z H3 F3 s3 r3 => ?_
    exact hh' (off F3 H3) H3 y z dy dz b (off_sub _ _) (r2.mono s3.off) r3 e7 Q (q _ H3 F3 ((s1.trans s2).trans s3) (.bl b))

/-! ### tests -/
def tE (e : E) : T := fun ρ => mb (e ρ) fun x => match x with
  | .bl b => mr b
  | _ => mz
theorem pdt_val (h : PD X e f) (he : ∀ whole, isTrue e X.env whole = (do let v ← whole; standAt e.pos; holding [v] (truthy v)) := by intro _; rfl) : PDT X e (tE f) := by
  obtain ⟨t, ht, k⟩ := h
  refine ⟨_, pt_val ht he, fun σ H F ρ g pre b g' e Q q => ?_⟩
  obtain ⟨dx, g1, e1, e⟩ := mb_inv e
  match dx, e with
  | .bl b', e =>
    obtain ⟨rfl, rfl⟩ := mr_inv e
    refine k σ H F ρ g pre _ _ e1 _ fun v H1 F1 s1 r1 => ?_
    cases r1
    exact ⟨b, rfl, q H1 F1 s1⟩
/-- a chain as a test -/
theorem pdt_chain {op op' : CmpOp} {r r' : R2} {h h' : D → D → Option Bool} (ho : OpR X (compareOp op) r) (ho' : OpR X (compareOp op') r') (hh : OpB X.K r h) (hh' : OpB X.K r' h') (ha : PB X a fa) (hb : PB X b fb) (hc : PB X c fc)
    (hm : lastMarks [op, op'] [b, c] = false := by with_unfolding_all rfl) : PDT X (.Compare a [op, op'] [b, c] pos) (tE (eChain h h' fa fb fc)) := by
  obtain ⟨ta, pa, ka⟩ := ha
  obtain ⟨tb, pb, kb⟩ := hb
  obtain ⟨tc, pc, kc⟩ := hc
  refine ⟨_, pt_chain ho ho' pa pb pc hm, fun σ H F ρ g pre d g' e Q q => ?_⟩
  obtain ⟨dv, gv, ev, e⟩ := mb_inv e
  obtain ⟨dx, g1, e1, ev⟩ := mb_inv ev
  obtain ⟨dy, g2, e2, ev⟩ := mb_inv ev
  obtain ⟨k, g3, e3, ev⟩ := mb_inv ev
  obtain ⟨e4, rfl⟩ := ml_inv e3
  refine ka σ H F ρ g pre dx g1 e1 _ fun x H1 F1 s1 r1 => ?_
  refine kb σ H1 F1 ρ g1 (pre.step s1) dy g3 e2 _ fun y H2 F2 s2 r2 => ?_
  refine hh (off F2 H2) H2 x y dx dy k (off_sub _ _) (r1.mono s2.off) r2 e4 _ ⟨k, rfl, ?_⟩
  cases k with
  | false =>
    rw [if_neg Bool.false_ne_true] at ev ⊢
    obtain ⟨rfl, rfl⟩ := mr_inv ev
    obtain ⟨rfl, rfl⟩ := mr_inv e
    exact ⟨_, rfl, q H2 F2 (s1.trans s2)⟩
  | true =>
    rw [if_pos rfl] at ev ⊢
    obtain ⟨dz, g4, e5, ev⟩ := mb_inv ev
    obtain ⟨e6, rfl⟩ := ml_inv ev
    obtain ⟨b, e7, rfl⟩ := Option.map_eq_some_iff.mp e6
    obtain ⟨rfl, rfl⟩ := mr_inv e
    refine kc σ H2 F2 ρ g3 (pre.step (s1.trans s2)) dz _ e5 _ fun z H3 F3 s3 r3 => ?_
    exact hh' (off F3 H3) H3 y z dy dz _ (off_sub _ _) (r2.mono s3.off) r3 e7 _ ⟨_, rfl, q H3 F3 ((s1.trans s2).trans s3)⟩
variable {ta tb : T} {rest : List Expr}
theorem PDW.pt (h : PDW X e ta) : PDT X e ta := let ⟨t, ht, k⟩ := h; ⟨t, ht.pt, k⟩
def tAnd (a b : T) : T := fun ρ => mb (a ρ) fun c => if c = true then b ρ else mr false
def tOr (a b : T) : T := fun ρ => mb (a ρ) fun c => if c = true then mr true else b ρ
def tNot (a : T) : T := fun ρ => mb (a ρ) fun c => mr (!c)
theorem pdw_and1 (h : PDT X a ta) : PDW X (.BoolOp .And [a] pos) ta := let ⟨t, ht, k⟩ := h; ⟨t, pw_and1 ht, k⟩
theorem pdw_or1 (h : PDT X a ta) : PDW X (.BoolOp .Or [a] pos) ta := let ⟨t, ht, k⟩ := h; ⟨t, pw_or1 ht, k⟩
theorem pdw_and (h : PDT X a ta) (h2 : PDW X (.BoolOp .And (b :: rest) pos) tb) : PDW X (.BoolOp .And (a :: b :: rest) pos) (tAnd ta tb) := by
  obtain ⟨t, ht, k⟩ := h
  obtain ⟨t2, ht2, k2⟩ := h2
  refine ⟨_, pw_and ht ht2, fun σ H F ρ g pre d g' e Q q => ?_⟩
  obtain ⟨c, g1, e1, e⟩ := mb_inv e
  refine k σ H F ρ g pre c g1 e1 _ fun H1 F1 s1 => ?_
  cases c with
  | true => exact k2 σ H1 F1 ρ g1 (pre.step s1) d g' e Q fun H2 F2 s2 => q H2 F2 (s1.trans s2)
  | false =>
    obtain ⟨rfl, rfl⟩ := mr_inv e
    exact q H1 F1 s1
theorem pdw_or (h : PDT X a ta) (h2 : PDW X (.BoolOp .Or (b :: rest) pos) tb) : PDW X (.BoolOp .Or (a :: b :: rest) pos) (tOr ta tb) := by
  obtain ⟨t, ht, k⟩ := h
  obtain ⟨t2, ht2, k2⟩ := h2
  refine ⟨_, pw_or ht ht2, fun σ H F ρ g pre d g' e Q q => ?_⟩
  obtain ⟨c, g1, e1, e⟩ := mb_inv e
  refine k σ H F ρ g pre c g1 e1 _ fun H1 F1 s1 => ?_
  cases c with
  | false => exact k2 σ H1 F1 ρ g1 (pre.step s1) d g' e Q fun H2 F2 s2 => q H2 F2 (s1.trans s2)
  | true =>
    obtain ⟨rfl, rfl⟩ := mr_inv e
    exact q H1 F1 s1
theorem pdt_not (h : PDT X a ta) : PDT X (.UnaryOp .Not a pos) (tNot ta) := by
  obtain ⟨t, ht, k⟩ := h
  refine ⟨_, pt_not ht, fun σ H F ρ g pre d g' e Q q => ?_⟩
  obtain ⟨c, g1, e1, e⟩ := mb_inv e
  obtain ⟨rfl, rfl⟩ := mr_inv e
  exact k σ H F ρ g pre c _ e1 _ fun H1 F1 s1 => q H1 F1 s1
/-! ### truths as values -/
def eAnd (a b : E) : E := fun ρ => mb (tE a ρ) fun c => if c = true then b ρ else mr (.bl false)
def eOr (a b : E) : E := fun ρ => mb (tE a ρ) fun c => if c = true then mr (.bl true) else b ρ
def eNot (a : E) : E := fun ρ => mb (tE a ρ) fun c => mr (.bl (!c))
theorem tE_inv {f : E} {ρ : Rho} {g g' : G} {b : Bool} (h : tE f ρ g = some (b, g')) : f ρ g = some (.bl b, g') := by
  obtain ⟨x, g1, e1, e⟩ := mb_inv h
  match x, e with
  | .bl b', e => obtain ⟨rfl, rfl⟩ := mr_inv e; exact e1
theorem pd_one {op : BoolOp} (h : PD X a fa) : PD X (.BoolOp op [a] pos) fa := let ⟨t, ht, k⟩ := h; ⟨t, pe_one ht, k⟩
theorem pd_and (h : PD X a fa) (h2 : PD X (.BoolOp .And (b :: rest) pos) fb) : PD X (.BoolOp .And (a :: b :: rest) pos) (eAnd fa fb) := by
  obtain ⟨t, ht, k⟩ := h
  obtain ⟨t2, ht2, k2⟩ := h2
  refine ⟨_, pe_and ht ht2, fun σ H F ρ g pre d g' e Q q => ?_⟩
  obtain ⟨c, g1, e1, e⟩ := mb_inv e
  refine k σ H F ρ g pre _ g1 (tE_inv e1) _ fun v H1 F1 s1 r1 => ?_
  cases r1
  refine ⟨c, rfl, ?_⟩
  cases c with
  | true => exact k2 σ H1 F1 ρ g1 (pre.step s1) d g' e Q fun v H2 F2 s2 r2 => q v H2 F2 (s1.trans s2) r2
  | false =>
    obtain ⟨rfl, rfl⟩ := mr_inv e
    exact q _ H1 F1 s1 (.bl false)
theorem pd_or (h : PD X a fa) (h2 : PD X (.BoolOp .Or (b :: rest) pos) fb) : PD X (.BoolOp .Or (a :: b :: rest) pos) (eOr fa fb) := by
  obtain ⟨t, ht, k⟩ := h
  obtain ⟨t2, ht2, k2⟩ := h2
  refine ⟨_, pe_or ht ht2, fun σ H F ρ g pre d g' e Q q => ?_⟩
  obtain ⟨c, g1, e1, e⟩ := mb_inv e
  refine k σ H F ρ g pre _ g1 (tE_inv e1) _ fun v H1 F1 s1 r1 => ?_
  cases r1
  refine ⟨c, rfl, ?_⟩
  cases c with
  | false => exact k2 σ H1 F1 ρ g1 (pre.step s1) d g' e Q fun v H2 F2 s2 r2 => q v H2 F2 (s1.trans s2) r2
  | true =>
    obtain ⟨rfl, rfl⟩ := mr_inv e
    exact q _ H1 F1 s1 (.bl true)
theorem pd_not (h : PD X a fa) : PD X (.UnaryOp .Not a pos) (eNot fa) := by
  obtain ⟨t, ht, k⟩ := h
  refine ⟨_, pe_not ht, fun σ H F ρ g pre d g' e Q q => ?_⟩
  obtain ⟨c, g1, e1, e⟩ := mb_inv e
  obtain ⟨rfl, rfl⟩ := mr_inv e
  refine k σ H F ρ g pre _ _ (tE_inv e1) _ fun v H1 F1 s1 r1 => ?_
  cases r1
  exact ⟨c, rfl, q _ H1 F1 s1 (.bl _)⟩
def eIf (c : T) (a b : E) : E := fun ρ => mb (c ρ) fun k => if k = true then a ρ else b ρ
theorem pd_if (hc : PDT X c ta) (ha : PD X a fa) (hb : PD X b fb) : PD X (.IfExp c a b pos) (eIf ta fa fb) := by
  obtain ⟨t, ht, k⟩ := hc
  obtain ⟨t1, ht1, k1⟩ := ha
  obtain ⟨t2, ht2, k2⟩ := hb
  refine ⟨_, pe_ifExp ht ht1 ht2, fun σ H F ρ g pre d g' e Q q => ?_⟩
  obtain ⟨c, g1, e1, e⟩ := mb_inv e
  refine k σ H F ρ g pre c g1 e1 _ fun H1 F1 s1 => ?_
  cases c with
  | true => exact k1 σ H1 F1 ρ g1 (pre.step s1) d g' e Q fun v H2 F2 s2 r2 => q v H2 F2 (s1.trans s2) r2
  | false => exact k2 σ H1 F1 ρ g1 (pre.step s1) d g' e Q fun v H2 F2 s2 r2 => q v H2 F2 (s1.trans s2) r2
/-! ### arguments, displays -/
variable {es : List Expr} {fs : EA}
def aNil : EA := fun _ => mr []
def aCons (a : E) (r : EA) : EA := fun ρ => mb (a ρ) fun x => mb (r ρ) fun xs => mr (x :: xs)
theorem pda_nil : PDA X [] aNil := ⟨_, pa_nil, fun σ H F ρ g pre d g' e Q q => by
  obtain ⟨rfl, rfl⟩ := mr_inv e
  exact q _ H F pre.refl .nil⟩
theorem pda_cons (h : PD X e f) (hr : PDA X es fs) (hs : starEach (e :: es) X.env = (false, eval e X.env) :: starEach es X.env := by rfl) : PDA X (e :: es) (aCons f fs) := by
  obtain ⟨t, ht, k⟩ := h
  obtain ⟨t2, ht2, k2⟩ := hr
  refine ⟨_, pa_cons ht ht2 hs, fun σ H F ρ g pre d g' e Q q => ?_⟩
  obtain ⟨x, g1, e1, e⟩ := mb_inv e
  obtain ⟨xs, g2, e2, e⟩ := mb_inv e
  obtain ⟨rfl, rfl⟩ := mr_inv e
  refine k σ H F ρ g pre x g1 e1 _ fun v H1 F1 s1 r1 => ?_
  exact k2 σ H1 F1 ρ g1 (pre.step s1) xs _ e2 _ fun vs H2 F2 s2 r2 => q _ H2 F2 (s1.trans s2) (.cons (r1.mono s2.ext) r2)
theorem pba_nil : PBA X [] aNil := ⟨_, pa_nil, fun σ H F ρ g pre d g' e Q q => by
  obtain ⟨rfl, rfl⟩ := mr_inv e
  exact q _ H F pre.refl .nil⟩
theorem pba_cons (h : PB X e f) (hr : PBA X es fs) (hs : starEach (e :: es) X.env = (false, eval e X.env) :: starEach es X.env := by rfl) : PBA X (e :: es) (aCons f fs) := by
  obtain ⟨t, ht, k⟩ := h
  obtain ⟨t2, ht2, k2⟩ := hr
  refine ⟨_, pa_cons ht ht2 hs, fun σ H F ρ g pre d g' e Q q => ?_⟩
  obtain ⟨x, g1, e1, e⟩ := mb_inv e
  obtain ⟨xs, g2, e2, e⟩ := mb_inv e
  obtain ⟨rfl, rfl⟩ := mr_inv e
  refine k σ H F ρ g pre x g1 e1 _ fun v H1 F1 s1 r1 => ?_
  exact k2 σ H1 F1 ρ g1 (pre.step s1) xs _ e2 _ fun vs H2 F2 s2 r2 => q _ H2 F2 (s1.trans s2) (.cons (r1.mono s2.off) r2)
def szD (n : Nat) (d : D) : Option D := if n ≤ sizeLine then some d else none
theorem szD_inv {n : Nat} {d d' : D} (h : szD n d = some d') : n ≤ sizeLine ∧ d' = d := by
  unfold szD at h
  split at h
  · cases h; exact ⟨by assumption, rfl⟩
  · cases h
def eTup (fs : EA) : E := fun ρ => mb (fs ρ) fun xs => ml (szD xs.length (.tup xs))
def eLst (fs : EA) : E := fun ρ => mb (fs ρ) fun xs => ml (szD xs.length (.lst xs))
theorem rp_new_tup {K : PySem.W.Frag} {F : Fz} {p : Addr} {vs : List V} {ds : List D} (hp : F p = none) (hz : ds.length ≤ sizeLine) (r : RpA K F vs ds) : Rp K (F.upd p (.tup vs)) (.ref p) (.tup ds) :=
  .tup (.of upd_same) (by rw [r.length]; exact hz) (r.mono (.upd hp))
theorem rp_new_lst {K : PySem.W.Frag} {F : Fz} {p : Addr} {vs : List V} {ds : List D} (hp : F p = none) (hz : ds.length ≤ sizeLine) (r : RpA K F vs ds) : Rp K (F.upd p (.lst vs)) (.ref p) (.lst ds) :=
  .lst (.of upd_same) (by rw [r.length]; exact hz) (r.mono (.upd hp))
theorem pd_tup {k : Nat} (h : PDA X es fs) : PD X (.Tuple es k pos) (eTup fs) := by
  obtain ⟨t, ht, k⟩ := h
  refine ⟨_, pe_tup ht, fun σ H F ρ g pre d g' e Q q => ?_⟩
  obtain ⟨xs, g1, e1, e⟩ := mb_inv e
  obtain ⟨e2, rfl⟩ := ml_inv e
  obtain ⟨hz, rfl⟩ := szD_inv e2
  refine k σ H F ρ g pre xs _ e1 _ fun vs H1 F1 s1 r1 => ⟨by rw [r1.length]; exact hz, fun p hp => ?_⟩
  exact q _ _ _ (s1.trans (.alloc s1.sub s1.rep hp)) (rp_new_tup (s1.sub.free hp) hz r1)
theorem pd_lst (h : PDA X es fs) : PD X (.List es pos) (eLst fs) := by
  obtain ⟨t, ht, k⟩ := h
  refine ⟨_, pe_lst ht, fun σ H F ρ g pre d g' e Q q => ?_⟩
  obtain ⟨xs, g1, e1, e⟩ := mb_inv e
  obtain ⟨e2, rfl⟩ := ml_inv e
  obtain ⟨hz, rfl⟩ := szD_inv e2
  refine k σ H F ρ g pre xs _ e1 _ fun vs H1 F1 s1 r1 => ⟨by rw [r1.length]; exact hz, fun p hp => ?_⟩
  exact q _ _ _ (s1.trans (.alloc s1.sub s1.rep hp)) (rp_new_lst (s1.sub.free hp) hz r1)

/-! ### calls of defs -/
/-- a def's promise by data -/
def spD (K : PySem.W.Frag) (n : Nat) (f : List D → M D) : Sp := fun vs H Q _ => ∃ (F : Fz) (g : G) (ds : List D) (d : D) (g' : G), ds.length = n ∧ Same F.h H ∧ GRep K g F H ∧ RpA K F vs ds ∧ f ds g = some (d, g') ∧
  ∀ v H' F', Stp K g g' F F' H H' → Rp K F' v d → Q v H'
/-- the def x keeps it -/
structure FnD (P : Program) (w : World) (K : PySem.W.Frag) (mg : Str → Option Value) (base : Heap) (k : Nat) (x : Str) (n : Nat) (f : List D → M D) : Prop where
  ex : ∃ (a : Addr) (fd : FuncData) (ps : List Str), mg x = some (.ref a) ∧ PySem.W.keepIn K (.ref a) = true ∧ Binds K fd ps [] ∧ FnG P w K mg base CX0 k a fd ps (spD K n f)
def eCall (f : List D → M D) (as : EA) : E := fun ρ => mb (as ρ) f
theorem pd_call {k n : Nat} {x : Str} {p : Pos} {F : List D → M D} (hf : FnD X.prog X.w X.K X.mg X.base k x n F) (hr : Room k X.A) (gd : X.A.guards = some []) (ha : PDA X (e :: es) fs) (hn : ∀ ρ g ds g', fs ρ g = some (ds, g') → ds.length = n)
    (hg : Gl X x := by rfl) (hdb : (x == ("__debug__" : Str)) = false := by decide) (he : starEach (e :: es) X.env = (false, eval e X.env) :: starEach es X.env := by rfl) (hpl : (backTo pos (starEach es X.env)).any (·.1) = false := by rfl) :
    PD X (.Call (.Name x p) (e :: es) [] pos) (eCall F fs) := by
  obtain ⟨a, fd, ps, hm, hk, hb, G⟩ := hf.ex
  obtain ⟨t, ht, k⟩ := ha
  refine ⟨_, pe_callG G hr gd hg hm hk hb .nil pass0 ht hdb he hpl, fun σ H F ρ g pre d g' e Q q => ?_⟩
  obtain ⟨ds, g1, e1, e⟩ := mb_inv e
  refine k σ H F ρ g pre ds g1 e1 _ fun vs H1 F1 s1 r1 => ?_
  rw [List.append_nil]
  exact ⟨F1, g1, ds, d, g', hn _ _ _ _ e1, s1.sub, s1.rep, r1, e, fun v H2 F2 s2 r2 => q v H2 F2 (s1.trans s2) r2⟩
theorem pd_call0 {k : Nat} {x : Str} {p : Pos} {F : List D → M D} (hf : FnD X.prog X.w X.K X.mg X.base k x 0 F) (hr : Room k X.A) (gd : X.A.guards = some [])
    (hg : Gl X x := by rfl) (hdb : (x == ("__debug__" : Str)) = false := by decide) : PD X (.Call (.Name x p) [] [] pos) (eCall F aNil) := by
  obtain ⟨a, fd, ps, hm, hk, hb, G⟩ := hf.ex
  refine ⟨_, pe_callG0 G hr gd hg hm hk hb .nil pass0 hdb, fun σ H F ρ g pre d g' e Q q => ?_⟩
  exact ⟨F, g, [], d, g', rfl, pre.sub, pre.rep, .nil, e, fun v H2 F2 s2 r2 => q v H2 F2 s2 r2⟩
theorem aCons_len {a : E} {r : EA} {n : Nat} (h : ∀ ρ g ds g', r ρ g = some (ds, g') → ds.length = n) : ∀ ρ g ds g', aCons a r ρ g = some (ds, g') → ds.length = n + 1 := fun ρ g ds g' e => by
  obtain ⟨x, g1, e1, e⟩ := mb_inv e
  obtain ⟨xs, g2, e2, e⟩ := mb_inv e
  obtain ⟨rfl, rfl⟩ := mr_inv e
  rw [List.length_cons, h _ _ _ _ e2]
theorem aNil_len : ∀ (ρ : Rho) (g : G) (ds : List D) (g' : G), aNil ρ g = some (ds, g') → ds.length = 0 := fun ρ g ds g' e => by
  obtain ⟨rfl, rfl⟩ := mr_inv e
  rfl
end
end PD
end
section
set_option Elab.async false
set_option linter.all false
set_option maxRecDepth 100000
set_option maxHeartbeats 4000000
set_option autoImplicit false
namespace PD
open PySem PySem.Spec L2
open PyProof.Rows hiding St

/-! ### data as the library's data -/
mutual
def pur : D → Bool
  | .non => true
  | .bl _ => true
  | .int _ => true
  | .str _ => true
  | .tup l => purA l
  | .lst l => purA l
  | .dk _ _ => false
  | .dt _ _ => false
  | .hd _ => false
  | .tx _ => false
def purA : List D → Bool
  | [] => true
  | d :: l => pur d && purA l
end
mutual
def dep : D → Nat
  | .tup l => depA l + 1
  | .lst l => depA l + 1
  | .non => 0
  | .bl _ => 0
  | .int _ => 0
  | .str _ => 0
  | .dk _ _ => 0
  | .dt _ _ => 0
  | .hd _ => 0
  | .tx _ => 0
def depA : List D → Nat
  | [] => 0
  | d :: l => max (dep d) (depA l)
end
mutual
def toPy : D → PyData
  | .non => .none
  | .bl b => .bool b
  | .int i => .int i
  | .str x => .str x
  | .tup l => .tuple (toPyA l)
  | .lst l => .list (toPyA l)
  | .dk _ _ => .none
  | .dt _ _ => .none
  | .hd _ => .none
  | .tx _ => .none
def toPyA : List D → List PyData
  | [] => []
  | d :: l => toPy d :: toPyA l
end
mutual
def eqq : D → D → Bool
  | .non, .non => true
  | .bl a, .bl b => a == b
  | .bl a, .int j => (if a then 1 else 0) == j
  | .int i, .bl b => i == (if b then 1 else 0)
  | .int i, .int j => i == j
  | .str x, .str y => x == y
  | .lst xs, .lst ys => eqqA xs ys
  | .tup xs, .tup ys => eqqA xs ys
  | _, _ => false
def eqqA : List D → List D → Bool
  | [], [] => true
  | x :: xs, y :: ys => eqq x y && eqqA xs ys
  | _, _ => false
end
mutual
theorem eqq_ok : ∀ x y : D, pur x = true → pur y = true → PyData.eqv (toPy x) (toPy y) = eqq x y
  | .non, y, _, hy => by cases y <;> simp_all [toPy, PyData.eqv, eqq, pur]
  | .bl _, y, _, hy => by cases y <;> simp_all [toPy, PyData.eqv, eqq, pur]
  | .int _, y, _, hy => by cases y <;> simp_all [toPy, PyData.eqv, eqq, pur]
  | .str _, y, _, hy => by cases y <;> simp_all [toPy, PyData.eqv, eqq, pur]
  | .tup l, y, hx, hy => by
    cases y with
    | tup l' => simpa [toPy, PyData.eqv, eqq] using eqqA_ok l l' (by simpa [pur] using hx) (by simpa [pur] using hy)
    | _ => simp_all [toPy, PyData.eqv, eqq, pur]
  | .lst l, y, hx, hy => by
    cases y with
    | lst l' => simpa [toPy, PyData.eqv, eqq] using eqqA_ok l l' (by simpa [pur] using hx) (by simpa [pur] using hy)
    | _ => simp_all [toPy, PyData.eqv, eqq, pur]
  | .dk _ _, _, h, _ => by simp [pur] at h
  | .dt _ _, _, h, _ => by simp [pur] at h
  | .hd _, _, h, _ => by simp [pur] at h
  | .tx _, _, h, _ => by simp [pur] at h
theorem eqqA_ok : ∀ x y : List D, purA x = true → purA y = true → PyData.eqvAll (toPyA x) (toPyA y) = eqqA x y
  | [], [], _, _ => by simp [toPyA, PyData.eqvAll, eqqA]
  | [], _ :: _, _, _ => by simp [toPyA, PyData.eqvAll, eqqA]
  | _ :: _, [], _, _ => by simp [toPyA, PyData.eqvAll, eqqA]
  | a :: x, b :: y, hx, hy => by
    have hx : pur a = true ∧ purA x = true := by simpa [purA] using hx
    have hy : pur b = true ∧ purA y = true := by simpa [purA] using hy
    simp [toPyA, PyData.eqvAll, eqqA, eqq_ok a b hx.1 hy.1, eqqA_ok x y hx.2 hy.2]
end
mutual
theorem dep_ok : ∀ x : D, (toPy x).depth = dep x
  | .tup l => by simp [toPy, PyData.depth, dep, depA_ok l]
  | .lst l => by simp [toPy, PyData.depth, dep, depA_ok l]
  | .non => rfl
  | .bl _ => rfl
  | .int _ => rfl
  | .str _ => rfl
  | .dk _ _ => rfl
  | .dt _ _ => rfl
  | .hd _ => rfl
  | .tx _ => rfl
theorem depA_ok : ∀ x : List D, PyData.depthAll (toPyA x) = depA x
  | [] => rfl
  | a :: x => by simp [toPyA, PyData.depthAll, depA, dep_ok a, depA_ok x]
end
section
variable {K : PySem.W.Frag} {W : Fz} {H : Hp}
theorem rp_dp (s : Same W.h H) {v : V} {d : D} (h : Rp K W v d) : pur d = true → Dp K H v (toPy d) ∧ (toPy d).canLay0 = true :=
  Rp.rec (motive_1 := fun v d _ => pur d = true → Dp K H v (toPy d) ∧ (toPy d).canLay0 = true) (motive_2 := fun v d _ => purA d = true → DpAll K H v (toPyA d) ∧ PyData.canLayAll0 (toPyA d) = true)
    (fun _ => ⟨.non, rfl⟩) (fun b _ => ⟨.bl b, rfl⟩) (fun i _ => ⟨.int i, rfl⟩) (fun x h _ => ⟨.str x, by
      have h := (Bool.and_eq_true_iff.mp h).1
      simpa [toPy, PyData.canLay0] using h⟩)
    (fun h1 _ _ ih p => by
      have q := ih (by simpa [pur] using p)
      exact ⟨.tup (sqT_mono s h1) q.1, by simpa [toPy, PyData.canLay0] using q.2⟩)
    (fun h1 _ _ ih p => by
      have q := ih (by simpa [pur] using p)
      exact ⟨.lst (sqL_mono s h1) q.1, by simpa [toPy, PyData.canLay0] using q.2⟩)
    (fun _ _ _ p => by simp [pur] at p) (fun _ _ _ p => by simp [pur] at p) (fun _ _ _ _ p => by simp [pur] at p) (fun _ p => by simp [pur] at p) (fun _ _ _ _ _ p => by simp [pur] at p)
    (fun _ => ⟨.nil, rfl⟩) (fun _ _ i1 i2 p => by
      simp only [purA, Bool.and_eq_true] at p
      have q1 := i1 p.1
      have q2 := i2 p.2
      exact ⟨.cons q1.1 q2.1, by simp [toPyA, PyData.canLayAll0, q1.2, q2.2]⟩) h
/-- what can be compared -/
def cmpOk (d : D) : Bool := pur d && decide (dep d ≤ 64)
theorem rp_shaped (s : Same W.h H) {v : V} {d : D} (h : Rp K W v d) (c : cmpOk d = true) : Dp K H v (toPy d) ∧ SeqAt.shaped (toPy d) = true := by
  obtain ⟨c1, c2⟩ := Bool.and_eq_true_iff.mp c
  obtain ⟨q1, q2⟩ := rp_dp s h c1
  refine ⟨q1, ?_⟩
  unfold SeqAt.shaped
  rw [q2, dep_ok]
  simpa using c2
end
def eqD (x y : D) : Option Bool := if (cmpOk x && cmpOk y) = true then some (eqq x y) else none
def neD (x y : D) : Option Bool := if (cmpOk x && cmpOk y) = true then some (!eqq x y) else none
theorem eqD_ok {K : PySem.W.Frag} : OpB K (rEqD K) eqD := fun W H x y dx dy b s rx ry e Q q => by
  unfold eqD at e
  split at e
  · rename_i c
    obtain ⟨c1, c2⟩ := Bool.and_eq_true_iff.mp c
    obtain ⟨p1, p2⟩ := rp_shaped s rx c1
    obtain ⟨q1, q2⟩ := rp_shaped s ry c2
    cases e
    refine ⟨_, _, p1, q1, p2, q2, ?_⟩
    rw [eqq_ok _ _ (Bool.and_eq_true_iff.mp c1).1 (Bool.and_eq_true_iff.mp c2).1]
    exact q
  · cases e
theorem neD_ok {K : PySem.W.Frag} : OpB K (rNeD K) neD := fun W H x y dx dy b s rx ry e Q q => by
  unfold neD at e
  split at e
  · rename_i c
    obtain ⟨c1, c2⟩ := Bool.and_eq_true_iff.mp c
    obtain ⟨p1, p2⟩ := rp_shaped s rx c1
    obtain ⟨q1, q2⟩ := rp_shaped s ry c2
    cases e
    refine ⟨_, _, p1, q1, p2, q2, ?_⟩
    rw [eqq_ok _ _ (Bool.and_eq_true_iff.mp c1).1 (Bool.and_eq_true_iff.mp c2).1]
    exact q
  · cases e
/-! ### order -/
def tupInts : List D → Option (List Int)
  | [] => some []
  | .int i :: l => (tupInts l).map (i :: ·)
  | _ :: _ => none
theorem tupInts_ok : ∀ {l : List D} {ns : List Int}, tupInts l = some ns → l = ns.map D.int
  | [], ns, h => by cases h; rfl
  | .int i :: l, ns, h => by
    obtain ⟨ms, h1, rfl⟩ := Option.map_eq_some_iff.mp h
    rw [tupInts_ok h1]; rfl
  | .non :: l, ns, h => by cases h
  | .bl _ :: l, ns, h => by cases h
  | .str _ :: l, ns, h => by cases h
  | .tup _ :: l, ns, h => by cases h
  | .lst _ :: l, ns, h => by cases h
  | .dk _ _ :: l, ns, h => by cases h
  | .dt _ _ :: l, ns, h => by cases h
  | .hd _ :: l, ns, h => by cases h
  | .tx _ :: l, ns, h => by cases h
theorem tupInts_map : ∀ ns : List Int, tupInts (ns.map D.int) = some ns
  | [] => rfl
  | n :: ns => by simp [tupInts, tupInts_map ns]
def lexLe : List Int → List Int → Bool
  | [], _ => true
  | _ :: _, [] => false
  | x :: xs, y :: ys => if x = y then lexLe xs ys else decide (x ≤ y)
def ltD : D → D → Option Bool
  | .int i, .int j => some (decide (i < j))
  | .str x, .str y => some (decide (x.cps.toList < y.cps.toList))
  | .tup xs, .tup ys => match tupInts xs, tupInts ys with
    | some ns, some ms => some (HT.lexLt ns ms)
    | _, _ => none
  | _, _ => none
def gtD : D → D → Option Bool
  | .int i, .int j => some (decide (j < i))
  | .str x, .str y => some (decide (y.cps.toList < x.cps.toList))
  | _, _ => none
def leD : D → D → Option Bool
  | .int i, .int j => some (decide (i ≤ j))
  | .str x, .str y => some (!decide (y.cps.toList < x.cps.toList))
  | _, _ => none
def geD : D → D → Option Bool
  | .int i, .int j => some (decide (j ≤ i))
  | .str x, .str y => some (!decide (x.cps.toList < y.cps.toList))
  | _, _ => none
abbrev rOr (r r' : R2) : R2 := fun x y H Q => r x y H Q ∨ r' x y H Q
theorem rp_int {K : PySem.W.Frag} {W : Fz} {v : V} {i : Int} (h : Rp K W v (.int i)) : v = .int i := by cases h; rfl
theorem rp_str {K : PySem.W.Frag} {W : Fz} {v : V} {i : Str} (h : Rp K W v (.str i)) : v = .str i ∧ sOk i = true := by cases h with | str _ h => exact ⟨rfl, h⟩
theorem rp_bl {K : PySem.W.Frag} {W : Fz} {v : V} {i : Bool} (h : Rp K W v (.bl i)) : v = .bl i := by cases h; rfl
theorem rp_non {K : PySem.W.Frag} {W : Fz} {v : V} (h : Rp K W v .non) : v = .non := by cases h; rfl
theorem rp_tup {K : PySem.W.Frag} {W : Fz} {v : V} {ds : List D} (h : Rp K W v (.tup ds)) : ∃ a xs, v = .ref a ∧ SqT K W a xs ∧ xs.length ≤ sizeLine ∧ RpA K W xs ds := by
  cases h with | tup h1 h2 h3 => exact ⟨_, _, rfl, h1, h2, h3⟩
theorem rp_lst {K : PySem.W.Frag} {W : Fz} {v : V} {ds : List D} (h : Rp K W v (.lst ds)) : ∃ a xs, v = .ref a ∧ SqL K W a xs ∧ xs.length ≤ sizeLine ∧ RpA K W xs ds := by
  cases h with | lst h1 h2 h3 => exact ⟨_, _, rfl, h1, h2, h3⟩
theorem rp_dk {K : PySem.W.Frag} {W : Fz} {v : V} {ks : List Key} {ds : List D} (h : Rp K W v (.dk ks ds)) : ∃ a, ∃ kvs : List (Key × V), v = .ref a ∧ Rd W a (.dK kvs) ∧ kvs.map (·.1) = ks ∧ RpA K W (kvs.map (·.2)) ds := by
  cases h with | dk h1 h3 => exact ⟨_, _, rfl, h1, rfl, h3⟩
abbrev rLt (K : PySem.W.Frag) : R2 := rOr (rI0 fun i j => .bl (decide (i < j))) (rOr (fun x y H Q => ∃ i j, x = .str i ∧ y = .str j ∧ Q (.bl (decide (i.cps.toList < j.cps.toList))) H) (rLtT K))
theorem op_ltA {X : Cx} (hu : X.A.units < cLine) : OpR X (compareOp .Lt) (rLt X.K) := op_lt.or (op_lt_str.or (op_ltT hu))
theorem ltD_ok {K : PySem.W.Frag} : OpB K (rLt K) ltD := fun W H x y dx dy b s rx ry e Q q => by
  unfold ltD at e
  split at e
  · cases e
    rw [rp_int rx, rp_int ry]
    exact .inl ⟨_, _, rfl, rfl, q⟩
  · cases e
    obtain ⟨rfl, _⟩ := rp_str rx
    obtain ⟨rfl, _⟩ := rp_str ry
    exact .inr (.inl ⟨_, _, rfl, rfl, q⟩)
  · rename_i xs ys
    split at e
    · rename_i ns ms h1 h2
      cases e
      obtain ⟨a, vs, rfl, t1, _, u1⟩ := rp_tup rx
      obtain ⟨c, ws, rfl, t2, _, u2⟩ := rp_tup ry
      rw [tupInts_ok h1] at u1
      rw [tupInts_ok h2] at u2
      rw [u1.ints] at t1
      rw [u2.ints] at t2
      exact .inr (.inr ⟨a, c, ns, ms, rfl, rfl, sqT_mono s t1, sqT_mono s t2, q⟩)
    · cases e
  · cases e
abbrev rGt : R2 := rOr (rI0 fun i j => .bl (decide (j < i))) (fun x y H Q => ∃ i j, x = .str i ∧ y = .str j ∧ Q (.bl (decide (j.cps.toList < i.cps.toList))) H)
theorem op_gtA {X : Cx} : OpR X (compareOp .Gt) rGt := op_gt.or op_gt_str
theorem gtD_ok {K : PySem.W.Frag} : OpB K rGt gtD := fun W H x y dx dy b s rx ry e Q q => by
  unfold gtD at e
  split at e
  · cases e; rw [rp_int rx, rp_int ry]; exact .inl ⟨_, _, rfl, rfl, q⟩
  · cases e
    obtain ⟨rfl, _⟩ := rp_str rx
    obtain ⟨rfl, _⟩ := rp_str ry
    exact .inr ⟨_, _, rfl, rfl, q⟩
  · cases e
abbrev rLe : R2 := rOr (rI0 fun i j => .bl (decide (i ≤ j))) (fun x y H Q => ∃ i j, x = .str i ∧ y = .str j ∧ Q (.bl (!decide (j.cps.toList < i.cps.toList))) H)
theorem op_leA {X : Cx} : OpR X (compareOp .LtE) rLe := op_le.or op_le_str
theorem leD_ok {K : PySem.W.Frag} : OpB K rLe leD := fun W H x y dx dy b s rx ry e Q q => by
  unfold leD at e
  split at e
  · cases e; rw [rp_int rx, rp_int ry]; exact .inl ⟨_, _, rfl, rfl, q⟩
  · cases e
    obtain ⟨rfl, _⟩ := rp_str rx
    obtain ⟨rfl, _⟩ := rp_str ry
    exact .inr ⟨_, _, rfl, rfl, q⟩
  · cases e
abbrev rGe : R2 := rOr (rI0 fun i j => .bl (decide (j ≤ i))) (fun x y H Q => ∃ i j, x = .str i ∧ y = .str j ∧ Q (.bl (!decide (i.cps.toList < j.cps.toList))) H)
theorem op_geA {X : Cx} : OpR X (compareOp .GtE) rGe := op_ge.or op_ge_str
theorem geD_ok {K : PySem.W.Frag} : OpB K rGe geD := fun W H x y dx dy b s rx ry e Q q => by
  unfold geD at e
  split at e
  · cases e; rw [rp_int rx, rp_int ry]; exact .inl ⟨_, _, rfl, rfl, q⟩
  · cases e
    obtain ⟨rfl, _⟩ := rp_str rx
    obtain ⟨rfl, _⟩ := rp_str ry
    exact .inr ⟨_, _, rfl, rfl, q⟩
  · cases e
/-! ### is None -/
def isNon : D → Bool
  | .non => true
  | _ => false
def isND (x y : D) : Option Bool := if isNon y = true then some (isNon x) else none
def notND (x y : D) : Option Bool := if isNon y = true then some (!isNon x) else none
theorem rp_isN {K : PySem.W.Frag} {W : Fz} {v : V} {d : D} (h : Rp K W v d) : decide (v = .non) = isNon d := by cases h <;> rfl
theorem rp_isN2 {K : PySem.W.Frag} {W : Fz} {v : V} {d : D} (h : Rp K W v d) (e : isNon d = true) : v = .non := of_decide_eq_true ((rp_isN h).trans e)
abbrev rIsN' : R2 := fun x y H Q => y = .non ∧ Q (.bl (decide (x = .non))) H
abbrev rNotN' : R2 := fun x y H Q => y = .non ∧ Q (.bl (!decide (x = .non))) H
theorem isND_ok {K : PySem.W.Frag} : OpB K rIsN' isND := fun W H x y dx dy b s rx ry e Q q => by
  unfold isND at e
  split at e
  · cases e
    exact ⟨rp_isN2 ry (by assumption), by rw [rp_isN rx]; exact q⟩
  · cases e
theorem notND_ok {K : PySem.W.Frag} : OpB K rNotN' notND := fun W H x y dx dy b s rx ry e Q q => by
  unfold notND at e
  split at e
  · cases e
    exact ⟨rp_isN2 ry (by assumption), by rw [rp_isN rx]; exact q⟩
  · cases e
/-! ### in -/
def flatD : D → Bool
  | .non => true
  | .bl _ => true
  | .int _ => true
  | .str _ => true
  | _ => false
def keyD : D → Option Key
  | .int i => some (.inl i)
  | .str x => some (.inr x)
  | _ => none
def keysD : List D → Option (List Key)
  | [] => some []
  | d :: l => match keyD d, keysD l with
    | some k, some ks => some (k :: ks)
    | _, _ => none
/-- one sign, any text -/
def inStr (x z : Str) : Bool := if x.cps.size = 1 then decide (x.cps.getD 0 0 ∈ z.cps.toList) else !(Builtin.Str.occurrences z x 0 z.length 1).isEmpty
def inD (x y : D) : Option Bool := match y with
  | .lst ys => if (cmpOk x && cmpOk (.lst ys)) = true then some (ys.any fun z => eqq z x) else none
  | .tup ys => if (flatD x && ys.all flatD) = true then some (ys.any fun z => eqq z x) else none
  | .str z => match x with
    | .str w => some (inStr w z)
    | _ => none
  | .dk ks _ => (keyD x).map fun k => ks.any fun k' => decide (k' = k)
  | _ => none
theorem any_toPy (x : D) (hx : pur x = true) : ∀ ys : List D, purA ys = true → ((toPyA ys).any fun z => PyData.eqv z (toPy x)) = ys.any fun z => eqq z x
  | [], _ => rfl
  | y :: ys, h => by
    have h : pur y = true ∧ purA ys = true := by simpa [purA] using h
    simp only [toPyA, List.any_cons, any_toPy x hx ys h.2, eqq_ok y x h.1 hx]
theorem rp_flat {K : PySem.W.Frag} {W : Fz} {v : V} {d : D} (h : Rp K W v d) (f : flatD d = true) : flatV v = true := by cases h <;> first | rfl | exact absurd f (by simp [flatD])
theorem rp_eqV {K : PySem.W.Frag} {W : Fz} {v u : V} {d c : D} (h : Rp K W v d) (h' : Rp K W u c) (f : flatD d = true) (f' : flatD c = true) : eqV v u = eqq d c := by
  cases h <;> first | (simp [flatD] at f; done) | (cases h' <;> first | (simp [flatD] at f'; done) | simp [eqV, eqq])
theorem rpA_flat {K : PySem.W.Frag} {W : Fz} : ∀ {vs : List V} {ds : List D}, RpA K W vs ds → ds.all flatD = true → vs.all flatV = true
  | _, _, .nil, _ => rfl
  | _, _, .cons r t, f => by
    rw [List.all_cons, Bool.and_eq_true] at f
    rw [List.all_cons, rp_flat r f.1, rpA_flat t f.2]; rfl
theorem rpA_any {K : PySem.W.Frag} {W : Fz} {u : V} {c : D} (h' : Rp K W u c) (f' : flatD c = true) : ∀ {vs : List V} {ds : List D}, RpA K W vs ds → ds.all flatD = true → (vs.any fun y => eqV y u) = ds.any fun z => eqq z c
  | _, _, .nil, _ => rfl
  | _, _, .cons r t, f => by
    rw [List.all_cons, Bool.and_eq_true] at f
    rw [List.any_cons, List.any_cons, rp_eqV r h' f.1 f', rpA_any h' f' t f.2]
abbrev rDIn (neg : Bool) : R2 := fun y x H Q => ∃ a o, x = .ref a ∧ DGet H a y o ∧ Q (.bl (if neg = true then !o.isSome else o.isSome)) H
theorem op_dIn {X : Cx} (hu : X.A.units + 1 < cLine) : OpR X (compareOp .In) (rDIn false) := by
  intro pins s σ H y x v u Q I ry rx h
  obtain ⟨a, o, rfl, g, q⟩ := h
  obtain rfl : u = Value.ref a := rx
  exact d_in hu I g ry fun s3 I3 => ⟨.bl o.isSome, H, I3, rfl, q⟩
theorem op_dNotIn {X : Cx} (hu : X.A.units + 1 < cLine) : OpR X (compareOp .NotIn) (rDIn true) := by
  intro pins s σ H y x v u Q I ry rx h
  obtain ⟨a, o, rfl, g, q⟩ := h
  obtain rfl : u = Value.ref a := rx
  exact d_notIn hu I g ry fun s3 I3 => ⟨.bl (!o.isSome), H, I3, rfl, q⟩
abbrev rInS (neg : Bool) : R2 := fun x y H Q => ∃ i j, x = .str i ∧ y = .str j ∧ Q (.bl (if neg = true then !inStr i j else inStr i j)) H
theorem op_inS' {X : Cx} : OpR X (compareOp .In) (rInS false) := by
  intro pins s σ H x y v u Q I rx ry h
  obtain ⟨i, j, rfl, rfl, q⟩ := h
  by_cases h1 : i.cps.size = 1
  · obtain ⟨c, hc⟩ : ∃ c, i = ⟨#[c]⟩ := by
      obtain ⟨arr⟩ := i
      obtain ⟨l⟩ := arr
      match l, h1 with
      | [c], _ => exact ⟨c, rfl⟩
    subst hc
    refine op_in_sign pins s σ H _ _ v u Q I rx ry ⟨c, j, rfl, rfl, ?_⟩
    simpa [inStr] using q
  · refine op_in_str pins s σ H _ _ v u Q I rx ry ⟨i, j, rfl, rfl, ?_⟩
    simpa [inStr, h1] using q
theorem op_notInS' {X : Cx} : OpR X (compareOp .NotIn) (rInS true) := by
  intro pins s σ H x y v u Q I rx ry h
  obtain ⟨i, j, rfl, rfl, q⟩ := h
  by_cases h1 : i.cps.size = 1
  · obtain ⟨c, hc⟩ : ∃ c, i = ⟨#[c]⟩ := by
      obtain ⟨arr⟩ := i
      obtain ⟨l⟩ := arr
      match l, h1 with
      | [c], _ => exact ⟨c, rfl⟩
    subst hc
    refine op_notIn_sign pins s σ H _ _ v u Q I rx ry ⟨c, j, rfl, rfl, ?_⟩
    simpa [inStr] using q
  · refine op_notin_str pins s σ H _ _ v u Q I rx ry ⟨i, j, rfl, rfl, ?_⟩
    simpa [inStr, h1] using q
abbrev rInA (K : PySem.W.Frag) : R2 := rOr (rInD K) (rOr (rIn K false) (rOr (rInS false) (rDIn false)))
abbrev rNotInA (K : PySem.W.Frag) : R2 := rOr (rNotInD K) (rOr (rIn K true) (rOr (rInS true) (rDIn true)))
theorem op_inA {X : Cx} (hu : X.A.units + 65 < cLine) : OpR X (compareOp .In) (rInA X.K) := (op_inD hu).or (op_in_seq.or (op_inS'.or (op_dIn (by omega))))
theorem op_notInA {X : Cx} (hu : X.A.units + 65 < cLine) : OpR X (compareOp .NotIn) (rNotInA X.K) := (op_notInD hu).or (op_notIn_seq.or (op_notInS'.or (op_dNotIn (by omega))))
theorem keyD_ok {K : PySem.W.Frag} {W : Fz} {v : V} {d : D} {k : Key} (h : Rp K W v d) (e : keyD d = some k) : v = kV k := by
  cases h <;> cases e <;> rfl
theorem keysD_ok {K : PySem.W.Frag} {W : Fz} : ∀ {vs : List V} {ds : List D} {ks : List Key}, RpA K W vs ds → keysD ds = some ks → vs = ks.map kV
  | _, _, _, .nil, e => by cases e; rfl
  | _, _, ks, .cons (d := d) (ds := ds) r t, e => by
    unfold keysD at e
    cases h1 : keyD d with
    | none => rw [h1] at e; cases e
    | some k =>
      cases h2 : keysD ds with
      | none => rw [h1, h2] at e; cases e
      | some ks' =>
        rw [h1, h2] at e; cases e
        rw [keyD_ok r h1, keysD_ok t h2]; rfl
theorem valV_isSome {κ : Type} [DecidableEq κ] (kvs : List (κ × V)) (k : κ) : (valV kvs k).isSome = (kvs.map (·.1)).any fun k' => decide (k' = k) := by
  rw [← valV_any]
  simp [List.any_map, Function.comp_def]
theorem inD_any {K : PySem.W.Frag} {neg : Bool} {r : R2} (h1 : ∀ x y H Q, (if neg = true then rNotInD K x y H Q else rInD K x y H Q) → r x y H Q) (h2 : ∀ x y H Q, rIn K neg x y H Q → r x y H Q)
    (h3 : ∀ x y H Q, rInS neg x y H Q → r x y H Q) (h4 : ∀ x y H Q, rDIn neg x y H Q → r x y H Q)
    {W : Fz} {H : Hp} {x y : V} {dx dy : D} {b : Bool} (s : Same W.h H) (rx : Rp K W x dx) (ry : Rp K W y dy) (e : inD dx dy = some b) {Q : VK} (q : Q (.bl (if neg = true then !b else b)) H) : r x y H Q := by
  cases dy with
  | lst ys =>
    unfold inD at e
    simp only at e
    split at e
    · rename_i c
      obtain ⟨c1, c2⟩ := Bool.and_eq_true_iff.mp c
      obtain ⟨p1, p2⟩ := rp_shaped s rx c1
      obtain ⟨q1, q2⟩ := rp_shaped s ry c2
      cases e
      have c3 : purA ys = true := by simpa [pur] using (Bool.and_eq_true_iff.mp c2).1
      have ea := any_toPy dx (Bool.and_eq_true_iff.mp c1).1 ys c3
      refine h1 _ _ _ _ ?_
      cases neg with
      | true => rw [if_pos rfl] at q ⊢; exact ⟨_, _, p1, by simpa [toPy] using q1, p2, by simpa [toPy] using q2, by rw [ea]; exact q⟩
      | false => rw [if_neg Bool.false_ne_true] at q ⊢; exact ⟨_, _, p1, by simpa [toPy] using q1, p2, by simpa [toPy] using q2, by rw [ea]; exact q⟩
    · cases e
  | tup ys =>
    unfold inD at e
    simp only at e
    split at e
    · rename_i c
      obtain ⟨c1, c2⟩ := Bool.and_eq_true_iff.mp c
      cases e
      obtain ⟨a, xs, rfl, t1, _, u1⟩ := rp_tup ry
      refine h2 _ _ _ _ ⟨a, xs, rfl, .inr (sqT_mono s t1), rp_flat rx c1, rpA_flat u1 c2, ?_⟩
      unfold inV
      rw [rpA_any rx c1 u1 c2]
      cases neg <;> exact q
    · cases e
  | str z =>
    unfold inD at e
    cases dx <;> simp only at e <;> try (cases e; done)
    obtain ⟨rfl, _⟩ := rp_str rx
    obtain ⟨rfl, _⟩ := rp_str ry
    have e := Option.some.inj e
    subst e
    exact h3 _ _ _ _ ⟨_, _, rfl, rfl, q⟩
  | dk ks l =>
    obtain ⟨k, ek, rfl⟩ := Option.map_eq_some_iff.mp e
    obtain ⟨a, kvs, rfl, hd, rfl, _⟩ := rp_dk ry
    refine h4 _ _ _ _ ⟨a, valV kvs k, rfl, .inl ⟨kvs, k, Rd.mono s hd, keyD_ok rx ek, rfl⟩, ?_⟩
    rw [valV_isSome]
    exact q
  | dt ks l => cases e
  | non => cases e
  | bl _ => cases e
  | int _ => cases e
  | hd _ => cases e
  | tx _ => cases e
def notInD (x y : D) : Option Bool := (inD x y).map not
theorem inD_ok {K : PySem.W.Frag} : OpB K (rInA K) inD := fun W H x y dx dy b s rx ry e Q q =>
  inD_any (K := K) (neg := false) (r := rInA K) (fun _ _ _ _ h => .inl h) (fun _ _ _ _ h => .inr (.inl h)) (fun _ _ _ _ h => .inr (.inr (.inl h))) (fun _ _ _ _ h => .inr (.inr (.inr h))) s rx ry e q
theorem notInD_ok {K : PySem.W.Frag} : OpB K (rNotInA K) notInD := fun W H x y dx dy b s rx ry e Q q => by
  obtain ⟨b', e', rfl⟩ := Option.map_eq_some_iff.mp e
  exact inD_any (K := K) (neg := true) (r := rNotInA K) (fun _ _ _ _ h => .inl h) (fun _ _ _ _ h => .inr (.inl h)) (fun _ _ _ _ h => .inr (.inr (.inl h))) (fun _ _ _ _ h => .inr (.inr (.inr h))) s rx ry e' q
end PD
end
section
set_option Elab.async false
set_option linter.all false
set_option maxRecDepth 100000
set_option maxHeartbeats 4000000
set_option autoImplicit false
namespace PD
open PySem PySem.Spec L2
open PyProof.Rows hiding St

/-! ### arithmetic, joining -/
theorem sOk_len {x : Str} (h : sOk x = true) : x.length ≤ sizeLine := of_decide_eq_true (Bool.and_eq_true_iff.mp h).2
theorem sOk_ok {x : Str} (h : sOk x = true) : PyData.strOk x = true := (Bool.and_eq_true_iff.mp h).1
theorem sOk_mk {x : Str} (h : PyData.strOk x = true) (h' : x.length ≤ sizeLine) : sOk x = true := Bool.and_eq_true_iff.mpr ⟨h, decide_eq_true h'⟩
theorem strOk_iff {x : Str} : PyData.strOk x = true ↔ ∀ c ∈ x.cps.toList, c < 0x110000 := by
  unfold PyData.strOk
  rw [← Array.all_toList, List.all_eq_true]
  simp
theorem cps_append (x y : Str) : (x ++ y).cps.toList = x.cps.toList ++ y.cps.toList := by
  show (x.cps ++ y.cps).toList = _
  simp
theorem len_append (x y : Str) : (x ++ y).length = x.length + y.length := by
  show (x.cps ++ y.cps).size = _
  simp [Str.length]
abbrev rCatL (K : PySem.W.Frag) : R2 := fun x y H Q => ∃ l b xs zs, x = .ref l ∧ y = .ref b ∧ SqL K H l xs ∧ SqL K H b zs ∧ xs.length + zs.length ≤ sizeLine ∧ ∀ p, H p = none → Q (.ref p) (upd H p (.lst (xs ++ zs)))
theorem op_catL {X : Cx} : OpR X (binaryOp .Add) (rCatL X.K) := by
  intro pins s σ H x y v u Q I rx ry h
  obtain ⟨l, b, xs, zs, rfl, rfl, hx, hy, hz, q⟩ := h
  cases rx
  cases ry
  obtain ⟨its, r1, ⟨o1, n1, g1, c1, k1, d1⟩, _⟩ := I.list hx
  obtain ⟨jts, r2, ⟨o2, n2, g2, c2, k2, d2⟩, _⟩ := I.list hy
  obtain ⟨cl1, dd1, dt1, sl1⟩ := o1
  obtain ⟨cl2, dd2, dt2, sl2⟩ := o2
  simp only at c1 d1 c2 d2
  subst c1 d1 c2 d2
  have e1 := r1.length
  have e2 := r2.length
  refine concat_meets ⟨_, g1, rfl⟩ ⟨_, g2, rfl⟩ noFill_list_add seq_list_add PySem.F.slot_list_add PySem.F.entry_list_add (PySem.F.args_list_add_2 _ _)
    (list_addW l b its.toArray jts.toArray n1 n2 dd1 dd2 sl1 sl2 (by simp only [List.size_toArray]; omega)) ⟨g1, g2, ?_⟩
  have e3 : its.toArray ++ jts.toArray = (its ++ jts).toArray := by simp
  rw [e3]
  exact ⟨.ref _, _, I.lnew (t' := s.toks) (r1.append r2) (by rw [List.length_append]; omega), rfl, q _ I.fresh⟩
def addD : D → D → Option D
  | .int i, .int j => some (.int (i + j))
  | .str x, .str y => szD (x.length + y.length) (.str (x ++ y))
  | .tup xs, .tup ys => szD (xs.length + ys.length) (.tup (xs ++ ys))
  | .lst xs, .lst ys => szD (xs.length + ys.length) (.lst (xs ++ ys))
  | _, _ => none
abbrev rAdd' (K : PySem.W.Frag) : R2 := rOr (rI0 fun i j => .int (i + j)) (rOr (fun x y H Q => ∃ i j, x = .str i ∧ y = .str j ∧ i.length + j.length ≤ sizeLine ∧ Q (.str (i ++ j)) H) (rOr (rCatA K) (rCatL K)))
theorem op_addA {X : Cx} : OpR X (binaryOp .Add) (rAdd' X.K) := op_add.or (op_add_str.or (op_catA.or op_catL))
theorem addD_ok {K : PySem.W.Frag} : OpD K (rAdd' K) addD := fun F H g x y dx dy d s gr rx ry e Q q => by
  unfold addD at e
  split at e
  · cases e
    rw [rp_int rx, rp_int ry]
    exact .inl ⟨_, _, rfl, rfl, q _ H F (Stp.refl s gr) (.int _)⟩
  · obtain ⟨hz, rfl⟩ := szD_inv e
    obtain ⟨rfl, h1⟩ := rp_str rx
    obtain ⟨rfl, h2⟩ := rp_str ry
    refine .inr (.inl ⟨_, _, rfl, rfl, hz, q _ H F (Stp.refl s gr) (.str _ (sOk_mk ?_ (by rw [len_append]; exact hz)))⟩)
    rw [strOk_iff] at *
    intro c hc
    rw [cps_append, List.mem_append] at hc
    rcases hc with hc | hc
    · exact strOk_iff.mp (sOk_ok h1) c hc
    · exact strOk_iff.mp (sOk_ok h2) c hc
  · obtain ⟨hz, rfl⟩ := szD_inv e
    obtain ⟨a, vs, rfl, t1, l1, u1⟩ := rp_tup rx
    obtain ⟨b, ws, rfl, t2, l2, u2⟩ := rp_tup ry
    have e1 := u1.length
    have e2 := u2.length
    refine .inr (.inr (.inl ⟨a, b, vs, ws, rfl, rfl, sqT_mono s t1, sqT_mono s t2, by omega, fun h => ?_, fun _ h => ?_, fun _ _ p hp => ?_⟩))
    · subst h
      cases u1
      exact q _ H F (Stp.refl s gr) ry
    · subst h
      cases u2
      rw [List.append_nil] at q
      exact q _ H F (Stp.refl s gr) rx
    · exact q _ _ _ (.alloc s gr hp) (rp_new_tup (s.free hp) (by rw [List.length_append]; exact hz) (u1.append u2))
  · obtain ⟨hz, rfl⟩ := szD_inv e
    obtain ⟨a, vs, rfl, t1, l1, u1⟩ := rp_lst rx
    obtain ⟨b, ws, rfl, t2, l2, u2⟩ := rp_lst ry
    have e1 := u1.length
    have e2 := u2.length
    refine .inr (.inr (.inr ⟨a, b, vs, ws, rfl, rfl, sqL_mono s t1, sqL_mono s t2, by omega, fun p hp => ?_⟩))
    exact q _ _ _ (.alloc s gr hp) (rp_new_lst (s.free hp) (by rw [List.length_append]; exact hz) (u1.append u2))
  · cases e
/-- operators of two numbers under a condition -/
def intD (c : Int → Int → Bool) (h : Int → Int → Int) : D → D → Option D
  | .int i, .int j => if c i j = true then some (.int (h i j)) else none
  | _, _ => none
theorem intD_ok {K : PySem.W.Frag} {C : Int → Int → Prop} {c : Int → Int → Bool} {h : Int → Int → Int} (hc : ∀ i j, c i j = true → C i j) : OpD K (rI C fun i j => .int (h i j)) (intD c h) := fun F H g x y dx dy d s gr rx ry e Q q => by
  unfold intD at e
  split at e
  · split at e
    · cases e
      rw [rp_int rx, rp_int ry]
      exact ⟨_, _, rfl, rfl, hc _ _ (by assumption), q _ H F (Stp.refl s gr) (.int _)⟩
    · cases e
  · cases e
def subD : D → D → Option D
  | .int i, .int j => some (.int (i - j))
  | _, _ => none
theorem subD_ok {K : PySem.W.Frag} : OpD K (rI0 fun i j => .int (i - j)) subD := fun F H g x y dx dy d s gr rx ry e Q q => by
  unfold subD at e
  split at e
  · cases e
    rw [rp_int rx, rp_int ry]
    exact ⟨_, _, rfl, rfl, q _ H F (Stp.refl s gr) (.int _)⟩
  · cases e
def mulC (i j : Int) : Bool := (decide (-(2 ^ 64) < i) && decide (i < 2 ^ 64)) || (decide (-(2 ^ 64) < j) && decide (j < 2 ^ 64))
theorem mulC_ok (i j : Int) (h : mulC i j = true) : CMul i j := by simpa [mulC, CMul] using h
def fdivC (_ j : Int) : Bool := decide (0 < j) && decide (j < 2 ^ 8000)
theorem fdivC_ok (i j : Int) (h : fdivC i j = true) : CDivW i j := by
  have h : 0 < j ∧ j < 2 ^ 8000 := by
    obtain ⟨h1, h2⟩ := Bool.and_eq_true_iff.mp h
    exact ⟨of_decide_eq_true h1, of_decide_eq_true h2⟩
  refine wide_div (b := 8000) h.1 ?_ (by decide) (by decide)
  have := h.2
  have e : (2 : Int) ^ 8000 = ((2 ^ 8000 : Nat) : Int) := by simp
  rw [e] at this
  omega
def modC (_ j : Int) : Bool := decide (0 < j)
def powC (i j : Int) : Bool := decide (0 ≤ j) && (decide (j ≤ 1000000) && decide (i.natAbs < 2 ^ 64))
theorem powC_ok (i j : Int) (h : powC i j = true) : CPow i j := by simpa [powC, CPow] using h
/-- a list, a tuple some times over -/
def mulI : D → D → Option D := intD mulC fun i j => i * j
abbrev rRepL (K : PySem.W.Frag) : R2 := fun x y H Q => ∃ l k xs, x = .ref l ∧ y = .int k ∧ H l = some (.lst xs) ∧ -(2 ^ 63) ≤ k ∧ k < 2 ^ 63 ∧ xs.length * k.toNat ≤ sizeLine ∧ ∀ p, H p = none → Q (.ref p) (upd H p (.lst (List.replicate k.toNat xs).flatten))
abbrev dMul := intD mulC fun i j => i * j
abbrev dFdiv := intD fdivC fun i j => i / j
abbrev dMod := intD modC fun i j => i % j
abbrev dPow := intD powC fun i j => i ^ j.toNat
section
variable {X : Cx} {a b : Expr} {fa fb : E} {pos : Pos}
theorem pd_add (ha : PD X a fa) (hb : PD X b fb) : PD X (.BinOp a .Add b pos) (eOp addD fa fb) := pd_op op_addA addD_ok ha hb
theorem pd_sub (ha : PD X a fa) (hb : PD X b fb) : PD X (.BinOp a .Sub b pos) (eOp subD fa fb) := pd_op op_sub subD_ok ha hb
theorem pd_mul (ha : PD X a fa) (hb : PD X b fb) : PD X (.BinOp a .Mult b pos) (eOp dMul fa fb) := pd_op op_mul (intD_ok mulC_ok) ha hb
theorem pd_fdiv (ha : PD X a fa) (hb : PD X b fb) : PD X (.BinOp a .FloorDiv b pos) (eOp dFdiv fa fb) := pd_op op_fdivW (intD_ok fdivC_ok) ha hb
theorem pd_mod (ha : PD X a fa) (hb : PD X b fb) : PD X (.BinOp a .Mod b pos) (eOp dMod fa fb) := pd_op op_mod (intD_ok fun i j h => of_decide_eq_true h) ha hb
theorem pd_pow (ha : PD X a fa) (hb : PD X b fb) : PD X (.BinOp a .Pow b pos) (eOp dPow fa fb) := pd_op op_pow (intD_ok powC_ok) ha hb
/-- -x -/
def eNeg (a : E) : E := fun ρ => mb (a ρ) fun x => match x with
  | .int i => mr (.int (-i))
  | _ => mz
theorem pd_neg (h : PD X a fa) : PD X (.UnaryOp .USub a pos) (eNeg fa) := by
  obtain ⟨t, ht, k⟩ := h
  refine ⟨_, pe_un un_neg ht, fun σ H F ρ g pre d g' e Q q => ?_⟩
  obtain ⟨x, g1, e1, e⟩ := mb_inv e
  cases x <;> try (cases e; done)
  obtain ⟨rfl, rfl⟩ := mr_inv e
  refine k σ H F ρ g pre _ _ e1 _ fun v H1 F1 s1 r1 => ?_
  rw [rp_int r1]
  exact ⟨_, rfl, q _ H1 F1 s1 (.int _)⟩
end
/-! ### calls of built-ins: a reading of values by data -/
/-- the answer has no parts -/
def CallB (K : PySem.W.Frag) (r : List V → Hp → VK → Prop) (h : List D → Option D) : Prop := ∀ (W : Fz) (H : Hp) vs ds d, Same W.h H → RpA K W vs ds → h ds = some d → ∀ Q : VK, (∀ v, (∀ F, Rp K F v d) → Q v H) → r vs H Q
/-- the answer's parts are the arguments', or new -/
def CallD (K : PySem.W.Frag) (r : List V → Hp → VK → Prop) (h : List D → Option D) : Prop := ∀ (F : Fz) (H : Hp) g vs ds d, Same F.h H → GRep K g F H → RpA K F vs ds → h ds = some d →
  ∀ Q : VK, (∀ v H' F', Stp K g g F F' H H' → Rp K F' v d → Q v H') → r vs H Q
def eBi (h : List D → Option D) (as : EA) : E := fun ρ => mb (as ρ) fun ds => ml (h ds)
section
variable {X : Cx} {e : Expr} {es : List Expr} {fs : EA} {x : Str} {p pos : Pos} {id T : String} {r : List V → Hp → VK → Prop} {h : List D → Option D}
theorem pd_biB (hc : CallR X (.builtin id) r) (hh : CallB X.K r h) (hm : X.mg x = none) (ha : PBA X (e :: es) fs) (hv : bootBuiltins x = some (.builtin id) := by decide +kernel) (hg : Gl X x := by rfl) (hn : x ≠ "__name__" := by decide)
    (hdb : (x == ("__debug__" : Str)) = false := by decide) (he : starEach (e :: es) X.env = (false, eval e X.env) :: starEach es X.env := by rfl) (hpl : (backTo pos (starEach es X.env)).any (·.1) = false := by rfl) :
    PD X (.Call (.Name x p) (e :: es) [] pos) (eBi h fs) := by
  obtain ⟨t, ht, k⟩ := ha
  refine ⟨_, pe_callB hc hg hm hv ht hn hdb he hpl, fun σ H F ρ g pre d g' e Q q => ?_⟩
  obtain ⟨ds, g1, e1, e⟩ := mb_inv e
  obtain ⟨e2, rfl⟩ := ml_inv e
  refine k σ H F ρ g pre ds _ e1 _ fun vs H1 F1 s1 r1 => ?_
  exact hh _ H1 vs ds d (off_sub _ _) r1 e2 Q fun v rv => q v H1 F1 s1 (rv F1)
theorem pd_biTB (hc : CallR X (.type T) r) (hh : CallB X.K r h) (hm : X.mg x = none) (ha : PBA X (e :: es) fs) (hv : bootBuiltins x = some (.type T) := by decide +kernel) (hg : Gl X x := by rfl) (hn : x ≠ "__name__" := by decide)
    (hdb : (x == ("__debug__" : Str)) = false := by decide) (he : starEach (e :: es) X.env = (false, eval e X.env) :: starEach es X.env := by rfl) (hpl : (backTo pos (starEach es X.env)).any (·.1) = false := by rfl) :
    PD X (.Call (.Name x p) (e :: es) [] pos) (eBi h fs) := by
  obtain ⟨t, ht, k⟩ := ha
  refine ⟨_, pe_callTy hc hg hm hv ht hn hdb he hpl, fun σ H F ρ g pre d g' e Q q => ?_⟩
  obtain ⟨ds, g1, e1, e⟩ := mb_inv e
  obtain ⟨e2, rfl⟩ := ml_inv e
  refine k σ H F ρ g pre ds _ e1 _ fun vs H1 F1 s1 r1 => ?_
  exact hh _ H1 vs ds d (off_sub _ _) r1 e2 Q fun v rv => q v H1 F1 s1 (rv F1)
theorem pd_biD (hc : CallR X (.builtin id) r) (hh : CallD X.K r h) (hm : X.mg x = none) (ha : PDA X (e :: es) fs) (hv : bootBuiltins x = some (.builtin id) := by decide +kernel) (hg : Gl X x := by rfl) (hn : x ≠ "__name__" := by decide)
    (hdb : (x == ("__debug__" : Str)) = false := by decide) (he : starEach (e :: es) X.env = (false, eval e X.env) :: starEach es X.env := by rfl) (hpl : (backTo pos (starEach es X.env)).any (·.1) = false := by rfl) :
    PD X (.Call (.Name x p) (e :: es) [] pos) (eBi h fs) := by
  obtain ⟨t, ht, k⟩ := ha
  refine ⟨_, pe_callB hc hg hm hv ht hn hdb he hpl, fun σ H F ρ g pre d g' e Q q => ?_⟩
  obtain ⟨ds, g1, e1, e⟩ := mb_inv e
  obtain ⟨e2, rfl⟩ := ml_inv e
  refine k σ H F ρ g pre ds _ e1 _ fun vs H1 F1 s1 r1 => ?_
  exact hh F1 H1 _ vs ds d s1.sub s1.rep r1 e2 Q fun v H2 F2 s2 r2 => q v H2 F2 (s1.trans s2) r2
theorem pd_biTD (hc : CallR X (.type T) r) (hh : CallD X.K r h) (hm : X.mg x = none) (ha : PDA X (e :: es) fs) (hv : bootBuiltins x = some (.type T) := by decide +kernel) (hg : Gl X x := by rfl) (hn : x ≠ "__name__" := by decide)
    (hdb : (x == ("__debug__" : Str)) = false := by decide) (he : starEach (e :: es) X.env = (false, eval e X.env) :: starEach es X.env := by rfl) (hpl : (backTo pos (starEach es X.env)).any (·.1) = false := by rfl) :
    PD X (.Call (.Name x p) (e :: es) [] pos) (eBi h fs) := by
  obtain ⟨t, ht, k⟩ := ha
  refine ⟨_, pe_callTy hc hg hm hv ht hn hdb he hpl, fun σ H F ρ g pre d g' e Q q => ?_⟩
  obtain ⟨ds, g1, e1, e⟩ := mb_inv e
  obtain ⟨e2, rfl⟩ := ml_inv e
  refine k σ H F ρ g pre ds _ e1 _ fun vs H1 F1 s1 r1 => ?_
  exact hh F1 H1 _ vs ds d s1.sub s1.rep r1 e2 Q fun v H2 F2 s2 r2 => q v H2 F2 (s1.trans s2) r2
end
end PD
end
section
set_option Elab.async false
set_option linter.all false
set_option maxRecDepth 100000
set_option maxHeartbeats 4000000
set_option autoImplicit false
namespace PD
open PySem PySem.Spec L2
open PyProof.Rows hiding St

/-! ### the signs of what is shown -/
def Sg (x : Str) : Prop := ∀ c ∈ x.cps.toList, c < 0x110000
theorem Sg.append {x y : Str} (h : Sg x) (h' : Sg y) : Sg (x ++ y) := fun c hc => by
  rw [cps_append, List.mem_append] at hc
  exact hc.elim (h c) (h' c)
theorem sg_char (c : Char) : c.toNat < 0x110000 := by
  have := c.valid
  rcases this with h | ⟨_, h⟩
  · show c.val.toNat < _; omega
  · exact h
theorem sg_string (s : String) : Sg (Str.ofString s) := fun c hc => by
  rw [Str.ofString_eq_toList] at hc
  simp only at hc
  obtain ⟨d, _, rfl⟩ := List.mem_map.mp hc
  exact sg_char d
theorem sg_hex (c w : Nat) : ∀ d ∈ List.replicate w 48 ++ (Nat.toDigits 16 c).map Char.toNat, d < 0x110000 := fun d hd => by
  rcases List.mem_append.mp hd with h | h
  · rw [(List.mem_replicate.mp h).2]; decide
  · obtain ⟨x, _, rfl⟩ := List.mem_map.mp h
    exact sg_char x
theorem sg_reprChar (q c : Nat) (hc : c < 0x110000) : ∀ d ∈ Builtin.Str.reprChar q c, d < 0x110000 := by
  intro d hd
  unfold Builtin.Str.reprChar at hd
  dsimp only at hd
  repeat' split at hd
  all_goals first
    | (rcases List.mem_append.mp hd with hd | hd
       · simp only [List.mem_cons, List.not_mem_nil, or_false] at hd; omega
       · exact sg_hex _ _ d hd)
    | (simp only [List.mem_cons, List.not_mem_nil, or_false] at hd; omega)
theorem sg_reprFold (q : Nat) (P : Nat → Prop) (hP : ∀ n, P n ↔ n < 0x110000) : ∀ (l : List Nat) (acc : Array Nat), (∀ c ∈ l, c < 0x110000) → (∀ c ∈ acc.toList, c < 0x110000) →
    ∀ c ∈ (l.foldl (fun out c => out ++ (Builtin.Str.reprChar q c).toArray) acc).toList, c < 0x110000
  | [], acc, _, h => h
  | x :: l, acc, h1, h2 => by
    refine sg_reprFold q P hP l _ (fun c hc => h1 c (List.mem_cons_of_mem _ hc)) fun c hc => ?_
    rw [Array.toList_append, List.mem_append] at hc
    rcases hc with hc | hc
    · exact h2 c hc
    · exact sg_reprChar q x (h1 x List.mem_cons_self) c (by simpa using hc)
theorem sg_repr {x : Str} (h : Sg x) : Sg (reprText x) := by
  have hq : reprQuote x < 0x110000 := by unfold reprQuote; split <;> decide
  intro c hc
  unfold reprText at hc
  simp only [Array.toList_push, List.mem_append, List.mem_singleton] at hc
  rcases hc with hc | rfl
  · rw [← Array.foldl_toList] at hc
    refine sg_reprFold (reprQuote x) (· < 0x110000) (fun _ => Iff.rfl) x.cps.toList #[reprQuote x] h (fun d hd => ?_) c hc
    simp only [List.mem_singleton] at hd
    rw [hd]; exact hq
  · exact hq
theorem sg_textFrom : ∀ (ts : List Str) (k : Nat) (acc : Str), Sg acc → (∀ t ∈ ts, Sg t) → Sg (textFrom k acc ts)
  | [], _, _, h, _ => h
  | t :: ts, k, acc, h, h' => sg_textFrom ts (k + 1) _ ((h.append (sg_string _)).append (h' t List.mem_cons_self)) fun u hu => h' u (List.mem_cons_of_mem _ hu)
theorem sg_join : ∀ (sep : Str) (ts : List Str), Sg sep → (∀ t ∈ ts, Sg t) → Sg (Str.join sep ts)
  | _, [], _, _ => fun c hc => by simp [Str.join, Str.empty] at hc
  | _, [x], _, h => h x List.mem_cons_self
  | sep, x :: y :: r, hs, h => ((h x List.mem_cons_self).append hs).append (sg_join sep (y :: r) hs fun t ht => h t (List.mem_cons_of_mem _ ht))
mutual
theorem sg_shown : ∀ d : PyData, d.canLay0 = true → Sg d.shown
  | .none, _ => by rw [PyData.shown]; exact sg_string _
  | .bool b, _ => by rw [PyData.shown]; cases b <;> exact sg_string _
  | .int i, _ => by rw [PyData.shown]; exact sg_string _
  | .str x, h => by rw [PyData.shown]; exact sg_repr (strOk_iff.mp (by simpa [PyData.canLay0] using h))
  | .list xs, h => by
    rw [PyData.shown]
    exact (sg_textFrom _ _ _ (sg_string _) (sg_shownAll xs (by simpa [PyData.canLay0] using h))).append (sg_string _)
  | .tuple xs, h => by
    rw [PyData.shown]
    exact ((sg_string _).append (sg_join _ _ (sg_string _) (sg_shownAll xs (by simpa [PyData.canLay0] using h)))).append (sg_string _)
  | .dict _, h => by simp [PyData.canLay0] at h
theorem sg_shownAll : ∀ ds : List PyData, PyData.canLayAll0 ds = true → ∀ t ∈ PyData.shownAll ds, Sg t
  | [], _, t, ht => by simp [PyData.shownAll] at ht
  | d :: ds, h, t, ht => by
    have h : d.canLay0 = true ∧ PyData.canLayAll0 ds = true := by simpa [PyData.canLayAll0] using h
    rw [PyData.shownAll] at ht
    rcases List.mem_cons.mp ht with rfl | ht
    · exact sg_shown d h.1
    · exact sg_shownAll ds h.2 t ht
end
/-! ### repr -/
def shows (d : D) : Str := (toPy d).shown
def showOk (d : D) : Bool := cmpOk d && ((toPy d).showable && decide ((shows d).length ≤ sizeLine))
def reprD : List D → Option D
  | [d] => if showOk d = true then some (.str (shows d)) else none
  | _ => none
mutual
theorem noDict : ∀ d : D, pur d = true → (toPy d).hasDict = false
  | .non, _ => rfl
  | .bl _, _ => rfl
  | .int _, _ => rfl
  | .str _, _ => rfl
  | .tup l, h => by simpa [toPy, PyData.hasDict] using noDictA l (by simpa [pur] using h)
  | .lst l, h => by simpa [toPy, PyData.hasDict] using noDictA l (by simpa [pur] using h)
  | .dk _ _, h => by simp [pur] at h
  | .dt _ _, h => by simp [pur] at h
  | .hd _, h => by simp [pur] at h
  | .tx _, h => by simp [pur] at h
theorem noDictA : ∀ d : List D, purA d = true → PyData.hasDictAll (toPyA d) = false
  | [], _ => rfl
  | d :: l, h => by
    simp only [purA, Bool.and_eq_true] at h
    simp [toPyA, PyData.hasDictAll, noDict d h.1, noDictA l h.2]
end
abbrev rRepr (K : PySem.W.Frag) : List V → Hp → VK → Prop := fun xs H Q => ∃ x d, xs = [x] ∧ Dp K H x d ∧ d.hasDict = false ∧ d.showable = true ∧ d.shown.length ≤ sizeLine ∧ d.depth ≤ 64 ∧ Q (.str d.shown) H
theorem call_reprA {X : Cx} (gd : X.A.guards = some []) (hu : X.A.units + 66 < cLine) : CallR X (.builtin "repr") (rRepr X.K) := by
  intro pins s σ H xs us Q I r h
  obtain ⟨x, d, rfl, hd, hn, hs, hz, hp, q⟩ := h
  obtain ⟨u, rfl, ru⟩ := vals1 r
  obtain ⟨as, rd⟩ := Dp.reads I d x u hd ru
  have fin : EP X pins σ Q (.str d.shown s.toks) { s with toks := s.toks + 1 } := ⟨.str _, H, I.tok _, ⟨_, rfl⟩, q⟩
  cases hd with
  | non => cases ru; exact PySem.P.repr_of_none fin
  | bl b => cases ru; exact PySem.P.repr_of_bool fin
  | int i => obtain ⟨t, rfl⟩ := ru; exact PySem.P.repr_of_int (by simpa [PyData.showable] using hs) fin
  | str x => obtain ⟨t, rfl⟩ := ru; exact PySem.P.repr_of_str fin (by simpa [PyData.shown] using hz)
  | lst h1 h2 =>
    cases ru
    exact repr_of_reads' rd hs (PyData.noDict_hsm hn) gd (by omega) (fun _ _ e => e) (fun h' u tk hk => ⟨.str _, H, I.kept (t' := tk) hk, ⟨_, rfl⟩, q⟩) hz
  | tup h1 h2 =>
    cases ru
    exact repr_of_reads' rd hs (PyData.noDict_hsm hn) gd (by omega) (fun _ _ e => e) (fun h' u tk hk => ⟨.str _, H, I.kept (t' := tk) hk, ⟨_, rfl⟩, q⟩) hz
theorem reprD_ok {K : PySem.W.Frag} : CallB K (rRepr K) reprD := fun W H vs ds d s rv e Q q => by
  match ds, e with
  | [x], e =>
    have e : (if showOk x = true then some (D.str (shows x)) else none) = some d := e
    by_cases c : showOk x = true
    · rw [if_pos c] at e
      cases e
      cases rv with
      | cons r t =>
        cases t
        obtain ⟨c1, c2⟩ := Bool.and_eq_true_iff.mp c
        obtain ⟨c3, c4⟩ := Bool.and_eq_true_iff.mp c2
        obtain ⟨c5, c6⟩ := Bool.and_eq_true_iff.mp c1
        obtain ⟨p1, p2⟩ := rp_dp s r c5
        refine ⟨_, _, rfl, p1, noDict x c5, c3, of_decide_eq_true c4, by rw [dep_ok]; exact of_decide_eq_true c6, q _ fun F => .str _ (sOk_mk (strOk_iff.mpr (sg_shown _ p2)) (of_decide_eq_true c4))⟩
    · rw [if_neg c] at e
      cases e
/-! ### len -/
def lenD : List D → Option D
  | [.str x] => some (.int x.length)
  | [.lst l] => some (.int l.length)
  | [.tup l] => some (.int l.length)
  | [.dk ks _] => some (.int ks.length)
  | _ => none
abbrev rLen' (K : PySem.W.Frag) : List V → Hp → VK → Prop := fun xs H Q => (∃ x n, xs = [x] ∧ LenV K x H n ∧ Q (.int n) H) ∨ (∃ a, ∃ kvs : List (Key × V), xs = [V.ref a] ∧ Rd H a (.dK kvs) ∧ Q (.int kvs.length) H)
theorem call_lenR {X : Cx} : CallR X (.builtin "len") (fun xs H Q => ∃ a, ∃ kvs : List (Key × V), xs = [V.ref a] ∧ Rd H a (.dK kvs) ∧ Q (.int kvs.length) H) := by
  intro pins s σ H xs us Q I r h
  obtain ⟨a, kvs, rfl, ha, q⟩ := h
  obtain ⟨u, rfl, ru⟩ := vals1 r
  cases ru
  exact d_len I ha fun t s' I' => ⟨.int kvs.length, H, I', ⟨t, rfl⟩, q⟩
theorem call_lenA {X : Cx} : CallR X (.builtin "len") (rLen' X.K) := call_len.or call_lenR
theorem lenD_ok {K : PySem.W.Frag} : CallB K (rLen' K) lenD := fun W H vs ds d s rv e Q q => by
  unfold lenD at e
  split at e
  · cases e
    cases rv with
    | cons r t =>
      cases t
      obtain ⟨rfl, h⟩ := rp_str r
      exact .inl ⟨_, _, rfl, ⟨sOk_len h, rfl⟩, q _ fun F => .int _⟩
  · cases e
    cases rv with
    | cons r t =>
      cases t
      obtain ⟨a, xs, rfl, h1, h2, h3⟩ := rp_lst r
      rw [← h3.length] at q
      exact .inl ⟨_, _, rfl, .inl ⟨xs, sqL_mono s h1, rfl⟩, q _ fun F => .int _⟩
  · cases e
    cases rv with
    | cons r t =>
      cases t
      obtain ⟨a, xs, rfl, h1, h2, h3⟩ := rp_tup r
      rw [← h3.length] at q
      exact .inl ⟨_, _, rfl, .inr ⟨xs, sqT_mono s h1, rfl⟩, q _ fun F => .int _⟩
  · cases e
    cases rv with
    | cons r t =>
      cases t
      obtain ⟨a, kvs, rfl, h1, rfl, h3⟩ := rp_dk r
      rw [List.length_map] at q
      exact .inr ⟨a, kvs, rfl, Rd.mono s h1, q _ fun F => .int _⟩
  · cases e
/-! ### isinstance -/
inductive Ty where
  | int | str | tup | lst | bool | dict
def Ty.nm : Ty → String
  | .int => "int"
  | .str => "str"
  | .tup => "tuple"
  | .lst => "list"
  | .bool => "bool"
  | .dict => "dict"
def isiD : Ty → D → Option Bool
  | _, .hd _ => none
  | _, .tx _ => none
  | _, .dt _ _ => none
  | .int, .int _ => some true
  | .int, .bl _ => some true
  | .str, .str _ => some true
  | .tup, .tup _ => some true
  | .lst, .lst _ => some true
  | .bool, .bl _ => some true
  | .dict, .dk _ _ => some true
  | _, _ => some false
def tyNm : D → String
  | .non => "NoneType"
  | .bl _ => "bool"
  | .int _ => "int"
  | .str _ => "str"
  | .tup _ => "tuple"
  | .tx _ => "tuple"
  | .lst _ => "list"
  | _ => "dict"
theorem isiD_kit {T : Ty} {d : D} {b : Bool} (h : isiD T d = some b) : kitB (tyNm d) T.nm = some b := by
  cases T <;> cases d <;> simp only [isiD, Option.some.injEq, reduceCtorEq] at h <;> subst h <;> simp only [tyNm, Ty.nm] <;> decide +kernel
theorem rp_ty {K : PySem.W.Frag} {W : Fz} {H : Hp} {v : V} {d : D} (s : Same W.h H) (h : Rp K W v d) (hh : ∀ a, d ≠ .hd a) (ht : ∀ a b, d ≠ .dt a b) : TyX K H v (.type (tyNm d)) := by
  cases h with
  | non => exact .base .non
  | bl b => exact .base (.bl b)
  | int i => exact .base (.int i)
  | str x => exact .base (.str x)
  | tup h1 =>
    rcases sqT_mono s h1 with (h1 | ⟨o, h1⟩) | ⟨o, its, n, h1, h2, _⟩
    · exact .base (.tup h1)
    · exact .fTuple h1
    · exact .kTuple h1 h2
  | lst h1 =>
    rcases sqL_mono s h1 with (h1 | ⟨o, h1⟩) | ⟨o, its, n, h1, h2, _⟩
    · exact .base (.lst h1)
    · exact .base (.frz h1)
    · exact .kList h1 h2
  | dk h1 =>
    rcases Rd.mono s h1 with h1 | ⟨o, h1⟩
    · exact .base (.dK h1)
    · exact .fDict h1
  | dt h1 => exact absurd rfl (ht _ _)
  | dm h1 => exact absurd rfl (ht _ _)
  | hd a => exact absurd rfl (hh _)
  | tx h1 => exact .fTuple (s _ _ h1)
def eIsi (T : Ty) (f : E) : E := fun ρ => mb (f ρ) fun d => ml ((isiD T d).map D.bl)
section
variable {X : Cx} {e : Expr} {f : E} {pos p q : Pos}
theorem pd_isi (T : Ty) {x : Str} (hx : x = Str.ofString T.nm := by rfl) (hm : X.mg "isinstance" = none) (hm2 : X.mg x = none) (h : PB X e f) (hv : bootBuiltins x = some (.type T.nm) := by decide +kernel) (hg : Gl X "isinstance" := by rfl) (hg2 : Gl X x := by rfl) (hn : x ≠ "__name__" := by decide)
    (hdb : (x == ("__debug__" : Str)) = false := by decide) (he : starEach [e, .Name x q] X.env = (false, eval e X.env) :: starEach [.Name x q] X.env := by rfl) (he2 : starEach [.Name x q] X.env = (false, eval (.Name x q) X.env) :: starEach [] X.env := by rfl)
    (hpl : (backTo pos (starEach [.Name x q] X.env)).any (·.1) = false := by rfl) : PD X (.Call (.Name "isinstance" p) [e, .Name x q] [] pos) (eIsi T f) := by
  obtain ⟨t, ht, k⟩ := h
  refine ⟨_, pe_callB call_isi hg hm (by decide +kernel) (pa_cons ht (pa_cons (pe_bltn (v := .ty T.nm) hg2 hm2 hv rfl hn hdb) pa_nil he2) he) (by decide) (by decide) he hpl, fun σ H F ρ g pre d g' e Q q => ?_⟩
  obtain ⟨dx, g1, e1, e⟩ := mb_inv e
  obtain ⟨e2, rfl⟩ := ml_inv e
  obtain ⟨b, e3, rfl⟩ := Option.map_eq_some_iff.mp e2
  refine k σ H F ρ g pre dx _ e1 _ fun v H1 F1 s1 r1 => ?_
  exact ⟨v, .ty T.nm, _, _, b, rfl, .ty _, rp_ty (off_sub _ _) r1 (fun a z => by subst z; cases T <;> cases e3) (fun a b z => by subst z; cases T <;> cases e3), kit_ty (isiD_kit e3), q _ H1 F1 s1 (.bl b)⟩
end
/-! ### all, any -/
def bools : List D → Option (List Bool)
  | [] => some []
  | .bl b :: l => (bools l).map (b :: ·)
  | _ :: _ => none
theorem bools_ok : ∀ {l : List D} {bs : List Bool}, bools l = some bs → l = bs.map D.bl
  | [], _, h => by cases h; rfl
  | d :: l, bs, h => by
    cases d <;> try (cases h; done)
    obtain ⟨ms, h1, rfl⟩ := Option.map_eq_some_iff.mp h
    rw [bools_ok h1]; rfl
theorem bools_map : ∀ bs : List Bool, bools (bs.map D.bl) = some bs
  | [] => rfl
  | b :: bs => by simp [bools, bools_map bs]
def allD : List D → Option D
  | [.lst l] => (bools l).map fun bs => .bl (bs.all id)
  | _ => none
def anyD : List D → Option D
  | [.lst l] => (bools l).map fun bs => .bl (bs.any id)
  | _ => none
theorem lst1 {K : PySem.W.Frag} {W : Fz} {H : Hp} {vs : List V} {l : List D} (s : Same W.h H) (rv : RpA K W vs [.lst l]) : ∃ a xs, vs = [.ref a] ∧ SqL K H a xs ∧ SqL K W a xs ∧ xs.length ≤ sizeLine ∧ RpA K W xs l := by
  cases rv with
  | cons r t =>
    cases t
    obtain ⟨a, xs, rfl, h1, h2, h3⟩ := rp_lst r
    exact ⟨a, xs, rfl, sqL_mono s h1, h1, h2, h3⟩
theorem allD_ok {K : PySem.W.Frag} : CallB K (rAll K) allD := fun W H vs ds d s rv e Q q => by
  unfold allD at e
  split at e
  · obtain ⟨bs, e1, rfl⟩ := Option.map_eq_some_iff.mp e
    obtain ⟨a, xs, rfl, h1, _, _, h3⟩ := lst1 s rv
    rw [bools_ok e1] at h3
    rw [h3.bls] at h1
    exact ⟨a, bs, rfl, h1, q _ fun F => .bl _⟩
  · cases e
theorem anyD_ok {K : PySem.W.Frag} : CallB K (rAny K) anyD := fun W H vs ds d s rv e Q q => by
  unfold anyD at e
  split at e
  · obtain ⟨bs, e1, rfl⟩ := Option.map_eq_some_iff.mp e
    obtain ⟨a, xs, rfl, h1, _, _, h3⟩ := lst1 s rv
    rw [bools_ok e1] at h3
    rw [h3.bls] at h1
    exact ⟨a, bs, rfl, h1, q _ fun F => .bl _⟩
  · cases e
/-! ### tuple(..), list(..) -/
def tupleD : List D → Option D
  | [.lst l] => some (.tup l)
  | [.tup l] => some (.tup l)
  | _ => none
def listD : List D → Option D
  | [.lst l] => some (.lst l)
  | [.tup l] => some (.lst l)
  | _ => none
abbrev rTuple (K : PySem.W.Frag) : List V → Hp → VK → Prop := fun xs H Q => ∃ p ys, xs = [.ref p] ∧ ((SqL K H p ys ∧ ∀ l, H l = none → Q (.ref l) (upd H l (.tup ys))) ∨ (SqT K H p ys ∧ Q (.ref p) H))
abbrev rList (K : PySem.W.Frag) : List V → Hp → VK → Prop := fun xs H Q => ∃ p ys, xs = [.ref p] ∧ (SqL K H p ys ∨ SqT K H p ys) ∧ ∀ l, H l = none → Q (.ref l) (upd H l (.lst ys))
theorem tupleD_ok {K : PySem.W.Frag} : CallD K (rTuple K) tupleD := fun F H g vs ds d s gr rv e Q q => by
  unfold tupleD at e
  split at e
  · cases e
    obtain ⟨a, xs, rfl, h1, _, h2, h3⟩ := lst1 s rv
    exact ⟨a, xs, rfl, .inl ⟨h1, fun p hp => q _ _ _ (.alloc s gr hp) (rp_new_tup (s.free hp) (by rw [← h3.length]; exact h2) h3)⟩⟩
  · cases e
    cases rv with
    | cons r t =>
      cases t
      obtain ⟨a, xs, rfl, h1, h2, h3⟩ := rp_tup r
      exact ⟨a, xs, rfl, .inr ⟨sqT_mono s h1, q _ _ _ (.refl s gr) r⟩⟩
  · cases e
theorem listD_ok {K : PySem.W.Frag} : CallD K (rList K) listD := fun F H g vs ds d s gr rv e Q q => by
  unfold listD at e
  split at e
  · cases e
    obtain ⟨a, xs, rfl, h1, _, h2, h3⟩ := lst1 s rv
    exact ⟨a, xs, rfl, .inl h1, fun p hp => q _ _ _ (.alloc s gr hp) (rp_new_lst (s.free hp) (by rw [← h3.length]; exact h2) h3)⟩
  · cases e
    cases rv with
    | cons r t =>
      cases t
      obtain ⟨a, xs, rfl, h1, h2, h3⟩ := rp_tup r
      exact ⟨a, xs, rfl, .inr (sqT_mono s h1), fun p hp => q _ _ _ (.alloc s gr hp) (rp_new_lst (s.free hp) (by rw [← h3.length]; exact h2) h3)⟩
  · cases e
/-! ### min, max of two -/
def min2D : List D → Option D
  | [.int i, .int j] => some (.int (if j < i then j else i))
  | _ => none
def max2D : List D → Option D
  | [.int i, .int j] => some (.int (if j > i then j else i))
  | _ => none
abbrev rMin2 : List V → Hp → VK → Prop := fun xs H Q => ∃ i j, xs = [.int i, .int j] ∧ Q (.int (if j < i then j else i)) H
abbrev rMax2 : List V → Hp → VK → Prop := fun xs H Q => ∃ i j, xs = [.int i, .int j] ∧ Q (.int (if j > i then j else i)) H
theorem rp_ints2 {K : PySem.W.Frag} {W : Fz} {vs : List V} {i j : Int} (rv : RpA K W vs [.int i, .int j]) : vs = [.int i, .int j] := RpA.ints (ns := [i, j]) rv
theorem min2D_ok {K : PySem.W.Frag} : CallB K rMin2 min2D := fun W H vs ds d s rv e Q q => by
  unfold min2D at e
  split at e
  · cases e
    exact ⟨_, _, rp_ints2 rv, q _ fun F => .int _⟩
  · cases e
theorem max2D_ok {K : PySem.W.Frag} : CallB K rMax2 max2D := fun W H vs ds d s rv e Q q => by
  unfold max2D at e
  split at e
  · cases e
    exact ⟨_, _, rp_ints2 rv, q _ fun F => .int _⟩
  · cases e
section
variable {X : Cx} {e : Expr} {es : List Expr} {f : E} {fs : EA} {pos p : Pos} {k : Nat}
theorem hu66 (hr : Room k X.A) : X.A.units + 66 < cLine := by have := hr.un; omega
theorem pd_len (hm : X.mg "len" = none) (ha : PBA X [e] fs) (hg : Gl X "len" := by rfl) (he : starEach [e] X.env = (false, eval e X.env) :: starEach [] X.env := by rfl) : PD X (.Call (.Name "len" p) [e] [] pos) (eBi lenD fs) :=
  pd_biB call_lenA lenD_ok hm ha (by decide +kernel) hg (by decide) (by decide) he (by rfl)
theorem pd_repr (hr : Room k X.A) (gd : X.A.guards = some []) (hm : X.mg "repr" = none) (ha : PBA X [e] fs) (hg : Gl X "repr" := by rfl) (he : starEach [e] X.env = (false, eval e X.env) :: starEach [] X.env := by rfl) : PD X (.Call (.Name "repr" p) [e] [] pos) (eBi reprD fs) :=
  pd_biB (call_reprA gd (hu66 hr)) reprD_ok hm ha (by decide +kernel) hg (by decide) (by decide) he (by rfl)
theorem pd_all (hc : X.calm = true) (hm : X.mg "all" = none) (ha : PBA X [e] fs) (hg : Gl X "all" := by rfl) (he : starEach [e] X.env = (false, eval e X.env) :: starEach [] X.env := by rfl) : PD X (.Call (.Name "all" p) [e] [] pos) (eBi allD fs) :=
  pd_biB (cr_all hc) allD_ok hm ha (by decide +kernel) hg (by decide) (by decide) he (by rfl)
theorem pd_any (hc : X.calm = true) (hm : X.mg "any" = none) (ha : PBA X [e] fs) (hg : Gl X "any" := by rfl) (he : starEach [e] X.env = (false, eval e X.env) :: starEach [] X.env := by rfl) : PD X (.Call (.Name "any" p) [e] [] pos) (eBi anyD fs) :=
  pd_biB (cr_any hc) anyD_ok hm ha (by decide +kernel) hg (by decide) (by decide) he (by rfl)
theorem pd_tuple (hm : X.mg "tuple" = none) (ha : PDA X [e] fs) (hg : Gl X "tuple" := by rfl) (he : starEach [e] X.env = (false, eval e X.env) :: starEach [] X.env := by rfl) : PD X (.Call (.Name "tuple" p) [e] [] pos) (eBi tupleD fs) :=
  pd_biTD call_tuple_of tupleD_ok hm ha (by decide +kernel) hg (by decide) (by decide) he (by rfl)
theorem pd_list (hm : X.mg "list" = none) (ha : PDA X [e] fs) (hg : Gl X "list" := by rfl) (he : starEach [e] X.env = (false, eval e X.env) :: starEach [] X.env := by rfl) : PD X (.Call (.Name "list" p) [e] [] pos) (eBi listD fs) :=
  pd_biTD call_list_of listD_ok hm ha (by decide +kernel) hg (by decide) (by decide) he (by rfl)
variable {e2 : Expr}
theorem pd_min2 (hc : X.calm = true) (hm : X.mg "min" = none) (ha : PBA X [e, e2] fs) (hg : Gl X "min" := by rfl) (he : starEach [e, e2] X.env = (false, eval e X.env) :: starEach [e2] X.env := by rfl) (hpl : (backTo pos (starEach [e2] X.env)).any (·.1) = false := by rfl) :
    PD X (.Call (.Name "min" p) [e, e2] [] pos) (eBi min2D fs) := pd_biB (call_min2 hc) min2D_ok hm ha (by decide +kernel) hg (by decide) (by decide) he hpl
theorem pd_max2 (hc : X.calm = true) (hm : X.mg "max" = none) (ha : PBA X [e, e2] fs) (hg : Gl X "max" := by rfl) (he : starEach [e, e2] X.env = (false, eval e X.env) :: starEach [e2] X.env := by rfl) (hpl : (backTo pos (starEach [e2] X.env)).any (·.1) = false := by rfl) :
    PD X (.Call (.Name "max" p) [e, e2] [] pos) (eBi max2D fs) := pd_biB (call_max2 hc) max2D_ok hm ha (by decide +kernel) hg (by decide) (by decide) he hpl
end
end PD
end
section
set_option Elab.async false
set_option linter.all false
set_option maxRecDepth 100000
set_option maxHeartbeats 4000000
set_option autoImplicit false
namespace PD
open PySem PySem.Spec L2
open PyProof.Rows hiding St

/-! ### canonical readings -/
def tD (K : PySem.W.Frag) (f : E) : TE := fun σ H Q => ∃ F ρ g d g', PreE K F H g ρ σ ∧ f ρ g = some (d, g') ∧ ∀ v H' F', Stp K g g' F F' H H' → Rp K F' v d → Q v H'
def tTT (K : PySem.W.Frag) (f : T) : TT := fun σ H Q => ∃ F ρ g b g', PreE K F H g ρ σ ∧ f ρ g = some (b, g') ∧ ∀ H' F', Stp K g g' F F' H H' → Q b H'
section
variable {X : Cx} {e : Expr}
theorem PD.can {f : E} (h : PD X e f) : PE X e (tD X.K f) := by
  obtain ⟨t, ht, k⟩ := h
  exact ⟨fun pins s σ H Q I ⟨F, ρ, g, d, g', pre, e, q⟩ => ht.run pins s σ H Q I (k σ H F ρ g pre d g' e Q q)⟩
theorem PDT.can {f : T} (h : PDT X e f) : PT X e (tTT X.K f) := by
  obtain ⟨t, ht, k⟩ := h
  exact ⟨fun pins s σ H Q I ⟨F, ρ, g, d, g', pre, e, q⟩ => ht.run pins s σ H Q I (k σ H F ρ g pre d g' e Q q)⟩
end
/-! ### slots that are set -/
def setR (ρ : Rho) (i : Nat) (d : D) : Rho := ρ.set i (some (.d d))
section
variable {K : PySem.W.Frag} {F : Fz} {H : Hp} {g : G} {ρ : Rho} {σ : St}
theorem Owned.set {i j : Nat} {d : D} {v : V} {p : Addr} (h : Owned (setR ρ i d) (σ.set i (some v)) j p) : Owned ρ σ j p := by
  obtain ⟨lv, h1, h2, h3⟩ := h
  by_cases e : i = j
  · subst e
    unfold setR at h1
    by_cases hl : i < ρ.length
    · rw [List.getElem?_set_self hl] at h1
      cases h1
      cases h2
    · rw [List.getElem?_eq_none (by simpa using hl)] at h1
      cases h1
  · unfold setR at h1
    rw [List.getElem?_set_ne e] at h1
    rw [List.getElem?_set_ne e] at h3
    exact ⟨lv, h1, h2, h3⟩
theorem PreE.set {i : Nat} {d : D} {v : V} (pre : PreE K F H g ρ σ) (r : Rp K F v d) : PreE K F H g (setR ρ i d) (σ.set i (some v)) := by
  refine ⟨pre.sub, pre.rep, by simp [setR, pre.sl.len], fun j lv h => ?_, fun j k p h1 h2 => pre.sl.sep j k p h1.set h2.set⟩
  unfold setR at h
  by_cases e : i = j
  · subst e
    by_cases hl : i < ρ.length
    · rw [List.getElem?_set_self hl] at h
      cases h
      exact ⟨v, List.getElem?_set_self (by rw [← pre.sl.len]; exact hl), r⟩
    · rw [List.getElem?_eq_none (by simpa using hl)] at h
      cases h
  · rw [List.getElem?_set_ne e] at h
    rw [List.getElem?_set_ne e]
    exact pre.sl.at_ j lv h
end
def wipeR (ρ : Rho) : List Nat → Rho
  | [] => ρ
  | v :: vs => (wipeR ρ vs).set v none
theorem wipeR_length (ρ : Rho) : ∀ vs : List Nat, (wipeR ρ vs).length = ρ.length
  | [] => rfl
  | v :: vs => by unfold wipeR; rw [List.length_set, wipeR_length ρ vs]
theorem wipeR_some {ρ : Rho} {i : Nat} {x : LV} : ∀ {vs : List Nat}, (wipeR ρ vs)[i]? = some (some x) → ρ[i]? = some (some x) ∧ i ∉ vs
  | [], h => ⟨h, by simp⟩
  | v :: vs, h => by
    unfold wipeR at h
    by_cases hi : v = i
    · subst hi
      by_cases hv : v < (wipeR ρ vs).length
      · rw [List.getElem?_set_self hv] at h; cases h
      · rw [List.getElem?_eq_none (by simpa using hv)] at h; cases h
    · rw [List.getElem?_set_ne hi] at h
      obtain ⟨h1, h2⟩ := wipeR_some h
      exact ⟨h1, by simp only [List.mem_cons, not_or]; exact ⟨fun e => hi e.symm, h2⟩⟩
theorem wipe_other {σ : St} {i : Nat} : ∀ {vs : List Nat}, i ∉ vs → (wipe σ vs)[i]? = σ[i]?
  | [], _ => rfl
  | v :: vs, h => by
    unfold wipe
    rw [List.getElem?_set_ne (fun e => h (by simp [e])), wipe_other fun q => h (List.mem_cons_of_mem _ q)]
theorem wipe_mem {σ : St} {j : Nat} : ∀ {vs : List Nat}, j ∈ vs → (wipe σ vs)[j]? = if j < σ.length then some none else none
  | a :: r, hm => by
    unfold wipe
    by_cases ha : a = j
    · subst ha
      rw [List.getElem?_set]
      simp [wipe_length]
    · rw [List.getElem?_set_ne ha]
      exact wipe_mem ((List.mem_cons.mp hm).resolve_left fun z => ha z.symm)
theorem wipe_twice (σ : St) (vs : List Nat) : wipe (wipe σ vs) vs = wipe σ vs := by
  apply List.ext_getElem?
  intro j
  by_cases hj : j ∈ vs
  · rw [wipe_mem hj, wipe_mem hj, wipe_length]
  · rw [wipe_other hj]
theorem wipe_set {σ : St} {i : Nat} {v : Option V} : ∀ {vs : List Nat}, i ∈ vs → wipe (σ.set i v) vs = wipe σ vs
  | w :: vs, h => by
    unfold wipe
    by_cases e : i ∈ vs
    · rw [wipe_set e]
    · have e2 : i = w := (List.mem_cons.mp h).resolve_right e
      subst e2
      apply List.ext_getElem?
      intro j
      by_cases hj : i = j
      · subst hj
        rw [List.getElem?_set, List.getElem?_set]
        simp [wipe_length]
      · rw [List.getElem?_set_ne hj, List.getElem?_set_ne hj]
        by_cases hm : j ∈ vs
        · have q : ∀ (τ : St), τ.length = σ.length → (wipe τ vs)[j]? = if j < σ.length then some none else none := fun τ hτ => by
            clear h e
            induction vs with
            | nil => cases hm
            | cons a r ih =>
              unfold wipe
              by_cases ha : a = j
              · subst ha
                rw [List.getElem?_set]
                simp [wipe_length, hτ]
              · rw [List.getElem?_set_ne ha]
                exact ih ((List.mem_cons.mp hm).resolve_left fun z => ha z.symm)
          rw [q _ (by simp), q _ rfl]
        · rw [wipe_other hm, wipe_other hm, List.getElem?_set_ne hj]
theorem PreE.wipe {K : PySem.W.Frag} {F : Fz} {H : Hp} {g : G} {ρ : Rho} {σ : St} (pre : PreE K F H g ρ σ) (vs : List Nat) : PreE K F H g (wipeR ρ vs) (wipe σ vs) := by
  refine ⟨pre.sub, pre.rep, by rw [wipeR_length, wipe_length, pre.sl.len], fun j lv h => ?_, fun j k p h1 h2 => ?_⟩
  · obtain ⟨h1, h2⟩ := wipeR_some h
    rw [wipe_other h2]
    exact pre.sl.at_ j lv h1
  · have key : ∀ j, Owned (wipeR ρ vs) (L2.wipe σ vs) j p → Owned ρ σ j p := fun j ⟨lv, q1, q2, q3⟩ => ⟨lv, (wipeR_some q1).1, q2, (wipe_some q3).1⟩
    exact pre.sl.sep j k p (key j h1) (key k h2)
/-! ### targets -/
abbrev B := D → Rho → Option Rho
/-- sl: the slots that are set -/
def PDG (X : Cx) (tg : Expr) (sl : List Nat) (bd : B) : Prop := ∃ t, PG X tg t ∧ ∀ σ H F ρ g v d ρ', PreE X.K F H g ρ σ → Rp X.K F v d → bd d ρ = some ρ' → ∀ Q : St → Hp → Prop,
  (∀ σ', PreE X.K F H g ρ' σ' → (∀ i p, Owned ρ' σ' i p → Owned ρ σ i p) → (∀ vs, (∀ i ∈ sl, i ∈ vs) → wipe σ' vs = wipe σ vs) → Q σ' H) → t v σ H Q
def bName (i : Nat) : B := fun d ρ => some (setR ρ i d)
abbrev Bs := List D → Rho → Option Rho
def bsNil : Bs := fun ds ρ => match ds with
  | [] => some ρ
  | _ => none
def bsCons (b : B) (r : Bs) : Bs := fun ds ρ => match ds with
  | d :: ds => (b d ρ).bind fun ρ' => r ds ρ'
  | [] => none
def bTup (b : Bs) : B := fun d ρ => match d with
  | .tup ds => b ds ρ
  | _ => none
def PDGs (X : Cx) (ts : List Expr) (sl : List Nat) (bd : Bs) : Prop := ∃ t, PGs X ts t ∧ (∀ ds ρ ρ', bd ds ρ = some ρ' → ds.length = ts.length) ∧ ∀ σ H F ρ g vs ds ρ', PreE X.K F H g ρ σ → RpA X.K F vs ds → bd ds ρ = some ρ' → ∀ Q : St → Hp → Prop,
  (∀ σ', PreE X.K F H g ρ' σ' → (∀ i p, Owned ρ' σ' i p → Owned ρ σ i p) → (∀ vs, (∀ i ∈ sl, i ∈ vs) → wipe σ' vs = wipe σ vs) → Q σ' H) → t vs σ H Q
section
variable {X : Cx} {pos : Pos}
theorem pdg_name (i : Nat) {x : Str} (hN : X.N.Nodup) (hi : X.N[i]? = some x := by rfl) (hx : Loc X.env.scope x := by first | exact Or.inl rfl | exact Or.inr rfl)
    (hf : X.fn x = true ∨ X.env.scope.names.lookup x = some .local := by first | exact .inl rfl | exact .inr rfl | assumption) : PDG X (.Name x pos) [i] (bName i) := by
  refine ⟨_, pg_name hN hi hx hf, fun σ H F ρ g v d ρ' pre r e Q q => ?_⟩
  cases e
  exact q _ (pre.set r) (fun j p h => h.set) fun vs h => wipe_set (h i (by simp))
theorem pdgs_nil : PDGs X [] [] bsNil := by
  refine ⟨_, pgs_nil, fun ds ρ ρ' e => ?_, fun σ H F ρ g vs ds ρ' pre r e Q q => ?_⟩
  · cases ds with
    | nil => rfl
    | cons d ds => cases e
  · cases ds with
    | nil =>
      cases e
      cases r
      exact ⟨rfl, q σ pre (fun _ _ h => h) fun _ _ => rfl⟩
    | cons d ds => cases e
theorem pdgs_cons {e : Expr} {es : List Expr} {s1 s2 : List Nat} {b : B} {r : Bs} (h1 : PDG X e s1 b) (h2 : PDGs X es s2 r) (hs : (assignEach (e :: es) X.env).map (·.2) = assign e X.env :: (assignEach es X.env).map (·.2) := by rfl) :
    PDGs X (e :: es) (s1 ++ s2) (bsCons b r) := by
  obtain ⟨t1, p1, k1⟩ := h1
  obtain ⟨t2, p2, l2, k2⟩ := h2
  refine ⟨_, pgs_cons p1 p2 hs, fun ds ρ ρ' e => ?_, fun σ H F ρ g vs ds ρ' pre rv e Q q => ?_⟩
  · cases ds with
    | nil => cases e
    | cons d ds =>
      obtain ⟨ρ1, e1, e2⟩ := Option.bind_eq_some_iff.mp e
      rw [List.length_cons, List.length_cons, l2 ds ρ1 ρ' e2]
  · cases ds with
    | nil => cases e
    | cons d ds =>
      obtain ⟨ρ1, e1, e2⟩ := Option.bind_eq_some_iff.mp e
      cases rv with
      | cons r0 rr =>
        refine ⟨_, _, rfl, ?_⟩
        refine k1 σ H F ρ g _ d ρ1 pre r0 e1 _ fun σ1 pre1 o1 w1 => ?_
        refine k2 σ1 H F ρ1 g _ ds ρ' pre1 rr e2 Q fun σ2 pre2 o2 w2 => ?_
        exact q σ2 pre2 (fun i p h => o1 i p (o2 i p h)) fun vs h => (w2 vs fun i hi => h i (List.mem_append_right _ hi)).trans (w1 vs fun i hi => h i (List.mem_append_left _ hi))
theorem pdg_tup {es : List Expr} {k : Nat} {sl : List Nat} {bd : Bs} (hc : X.calm = true) (h : PDGs X es sl bd) (hn : (assignEach es X.env).length = es.length := by rfl) (hst : (assignEach es X.env).findIdx? (·.1) = none := by rfl) :
    PDG X (.Tuple es k pos) sl (bTup bd) := by
  obtain ⟨t, p, l, k⟩ := h
  refine ⟨_, pg_tup (n := es.length) hc p hn hst, fun σ H F ρ g v d ρ' pre r e Q q => ?_⟩
  cases d with
  | tup ds =>
    obtain ⟨a, xs, rfl, h1, h2, h3⟩ := rp_tup r
    exact ⟨a, xs, rfl, sqT_mono pre.sub h1, by rw [h3.length, l ds ρ ρ' e], k σ H F ρ g xs ds ρ' pre h3 e Q q⟩
  | _ => cases e
end
/-! ### what is walked -/
/-- a turn's item: it stands there, or is a new tuple -/
def Yl (K : PySem.W.Frag) (F : Fz) (H : Hp) (x : V) (H' : Hp) (d : D) : Prop := (H' = H ∧ Rp K F x d) ∨ ∃ p xs ds, H p = none ∧ x = .ref p ∧ H' = upd H p (.tup xs) ∧ d = .tup ds ∧ xs.length ≤ sizeLine ∧ RpA K F xs ds
/-- W: what must stand for the walk; F: where the items stand -/
def ItS (K : PySem.W.Frag) (J : It) (W : Hp) (F : Fz) (ds : List D) : Prop := ∀ H, Same W H → (∀ (i : Nat) (d : D), ds[i]? = some d → J.go i H ∧ ∀ x H', J.yld i H x H' → Yl K F H x H' d) ∧ ∀ i, ds.length ≤ i → J.stop i H
def PDI (X : Cx) (tg e : Expr) (f : EA) : Prop := ∃ wi, PI X tg e wi ∧ ∀ σ H F ρ g, PreE X.K F H g ρ σ → ∀ ds g', f ρ g = some (ds, g') → ∀ R : It → Hp → Prop,
  (∀ J H' F', Stp X.K g g' F F' H H' → ItS X.K J F'.h F' ds → R J H') → wi σ H R
def PBI (X : Cx) (tg e : Expr) (f : EA) : Prop := ∃ wi, PI X tg e wi ∧ ∀ σ H F ρ g, PreE X.K F H g ρ σ → ∀ ds g', f ρ g = some (ds, g') → ∀ R : It → Hp → Prop,
  (∀ J H' F', Stp X.K g g' F F' H H' → ItS X.K J (off F' H').h F' ds → R J H') → wi σ H R
theorem ItS.weak {K : PySem.W.Frag} {J : It} {W W' : Hp} {F : Fz} {ds : List D} (h : ItS K J W F ds) (s : Same W W') : ItS K J W' F ds := fun H q => h H (s.trans q)
theorem ItS.mono {K : PySem.W.Frag} {J : It} {W : Hp} {F F' : Fz} {ds : List D} (h : ItS K J W F ds) (s : Ext F F') : ItS K J W F' ds := fun H q => by
  refine ⟨fun i d e => ⟨((h H q).1 i d e).1, fun x H' y => ?_⟩, (h H q).2⟩
  rcases ((h H q).1 i d e).2 x H' y with ⟨h1, h2⟩ | ⟨p, xs, es, h1, h2, h3, h4, h5, h6⟩
  · exact .inl ⟨h1, h2.mono s⟩
  · exact .inr ⟨p, xs, es, h1, h2, h3, h4, h5, h6.mono s⟩
theorem PDI.weak {X : Cx} {tg e : Expr} {f : EA} (h : PDI X tg e f) : PBI X tg e f := by
  obtain ⟨wi, hw, k⟩ := h
  exact ⟨wi, hw, fun σ H F ρ g pre ds g' e R q => k σ H F ρ g pre ds g' e R fun J H' F' s i => q J H' F' s (i.weak s.offF.h)⟩
/-- the item comes: the heap and what is frozen in it -/
theorem Yl.step {K : PySem.W.Frag} {F : Fz} {H : Hp} {g : G} {x : V} {H' : Hp} {d : D} (y : Yl K F H x H' d) (s : Same F.h H) (r : GRep K g F H) : ∃ F', Stp K g g F F' H H' ∧ Rp K F' x d := by
  rcases y with ⟨rfl, h⟩ | ⟨p, xs, ds, hp, rfl, rfl, rfl, hz, h⟩
  · exact ⟨F, Stp.refl s r, h⟩
  · exact ⟨_, .alloc s r hp, rp_new_tup (s.free hp) (by rw [← h.length]; exact hz) h⟩
/-! ### a comprehension -/
def lcL (bd : B) (t : T) (e : E) (ρ : Rho) : List D → M (List D)
  | [] => mr []
  | d :: ds => match bd d ρ with
    | none => mz
    | some ρ' => mb (t ρ') fun b => if b = true then mb (e ρ') fun x => mb (lcL bd t e ρ ds) fun xs => mr (x :: xs) else lcL bd t e ρ ds
def tYesD : T := fun _ => mr true
/-- vs: the comprehension's own slots -/
def eLcA (vs : List Nat) (it : EA) (bd : B) (t : T) (e : E) : EA := fun ρ => mb (it ρ) fun ds => mb (lcL bd t e (wipeR ρ vs) ds) fun xs => if xs.length ≤ sizeLine then mr xs else mz
def gB (K : PySem.W.Frag) (sl : List Nat) (bd : B) : TG := fun v σ H Q => ∃ F ρ g d ρ', PreE K F H g ρ σ ∧ Rp K F v d ∧ bd d ρ = some ρ' ∧ ∀ σ', PreE K F H g ρ' σ' → (∀ i p, Owned ρ' σ' i p → Owned ρ σ i p) → (∀ vs, (∀ i ∈ sl, i ∈ vs) → wipe σ' vs = wipe σ vs) → Q σ' H
theorem PDG.can {X : Cx} {tg : Expr} {sl : List Nat} {bd : B} (h : PDG X tg sl bd) : PG X tg (gB X.K sl bd) := by
  obtain ⟨t, ht, k⟩ := h
  exact ⟨fun pins s σ H v u Q I r ⟨F, ρ, g, d, ρ', pre, rv, e, q⟩ => ht.run pins s σ H v u Q I r (k σ H F ρ g v d ρ' pre rv e Q q)⟩
/-- a clause's tests by data -/
def PDTs (X : Cx) (ifs : List Expr) (f : T) : Prop := PTs X ifs (tTT X.K f)
section
variable {X : Cx}
theorem pdts_nil : PDTs X [] tYesD := ⟨fun pins s σ H Q I ⟨F, ρ, g, b, g', pre, e, q⟩ => by
  obtain ⟨rfl, rfl⟩ := mr_inv e
  exact pts_nil.run pins s σ H Q I (q H F pre.refl)⟩
theorem pdts_one {c : Expr} {f : T} (h : PDT X c f) : PDTs X [c] f := pts_one h.can
end
/-- what is asked of the value of a new list -/
def NewL (K : PySem.W.Frag) (F : Fz) (H : Hp) (g g' : G) (ds : List D) (Q : VK) : Prop := ∀ p H' F' vs, Stp K g g' F F' H H' → H p = none → F' p = none → p ∉ F'.mu → H' p = some (.lst vs) → vs.length ≤ sizeLine → RpA K F' vs ds → Q (.ref p) H'
theorem lcL_le {bd : B} {t : T} {e : E} {ρ : Rho} : ∀ {ds : List D} {g g' : G} {xs : List D}, lcL bd t e ρ ds g = some (xs, g') → xs.length ≤ ds.length
  | [], g, g', xs, h => by
    obtain ⟨rfl, rfl⟩ := mr_inv h
    exact Nat.le_refl _
  | d :: ds, g, g', xs, h => by
    unfold lcL at h
    cases hb : bd d ρ with
    | none => rw [hb] at h; cases h
    | some ρ' =>
      rw [hb] at h
      obtain ⟨b, g1, e1, h⟩ := mb_inv h
      cases b with
      | true =>
        rw [if_pos rfl] at h
        obtain ⟨x, g2, e2, h⟩ := mb_inv h
        obtain ⟨ys, g3, e3, h⟩ := mb_inv h
        obtain ⟨rfl, rfl⟩ := mr_inv h
        have := lcL_le e3
        simp only [List.length_cons]; omega
      | false =>
        rw [if_neg Bool.false_ne_true] at h
        have := lcL_le h
        simp only [List.length_cons]; omega
/-- a fresh thing of one's own is changed -/
theorem Stp.mut {K : PySem.W.Frag} {g g' : G} {F F' : Fz} {H H' : Hp} {p : Addr} {o : HO} (s : Stp K g g' F F' H H') (hp : H p = none) (hF : F' p = none) (hm : p ∉ F'.mu) : Stp K g g' F F' H (upd H' p o) := by
  have ne : ∀ a ∈ F'.mu, a ≠ p := fun a ha z => hm (by rw [← z]; exact ha)
  refine ⟨fun a u h1 h2 => ?_, fun a h => ?_, s.ext, s.new, s.newM, fun a u h => ?_, ?_⟩
  · rw [upd_ne (ne_of_none h2 hp)]; exact s.same a u h1 h2
  · by_cases e : a = p
    · subst e; exact hp
    · rw [upd_ne e] at h; exact s.mono a h
  · rw [upd_ne (ne_of_none h hF)]; exact s.sub a u h
  · exact s.rep.mono (Same.refl _) (fun a ha => (s.rep.mem ha).1) fun a ha => upd_ne (ne a ha)
theorem PreE.mut {K : PySem.W.Frag} {F : Fz} {H : Hp} {g : G} {ρ : Rho} {σ : St} {p : Addr} {o : HO} (pre : PreE K F H g ρ σ) (hF : F p = none) (hm : p ∉ F.mu) (ho : ∀ i, ¬ Owned ρ σ i p) : PreE K F (upd H p o) g ρ σ := by
  have ne : ∀ a ∈ F.mu, a ≠ p := fun a ha z => hm (by rw [← z]; exact ha)
  refine ⟨fun a u h => ?_, pre.rep.mono (Same.refl _) (fun a ha => (pre.rep.mem ha).1) (fun a ha => upd_ne (ne a ha)), pre.sl.len, fun i lv h => ?_, pre.sl.sep⟩
  · rw [upd_ne (ne_of_none h hF)]; exact pre.sub a u h
  · obtain ⟨v, h1, h2⟩ := pre.sl.at_ i lv h
    refine ⟨v, h1, ?_⟩
    have ne : lv.own = true → ∀ q, v = .ref q → q ≠ p := fun w q e z => ho i ⟨lv, h, w, by rw [h1, e, z]⟩
    cases lv with
    | d x => exact h2
    | ol ds => obtain ⟨q, vs, e, h3, h4, h5, h6⟩ := h2; exact ⟨q, vs, e, h3, h4, by rw [upd_ne (ne rfl q e)]; exact h5, h6⟩
    | ok ks ds => obtain ⟨q, vs, e, h3, h4, h5, h6⟩ := h2; exact ⟨q, vs, e, h3, h4, by rw [upd_ne (ne rfl q e)]; exact h5, h6⟩
    | ot ks ds => obtain ⟨q, vs, e, h3, h4, h5, h6⟩ := h2; exact ⟨q, vs, e, h3, h4, by rw [upd_ne (ne rfl q e)]; exact h5, h6⟩
theorem PreE.own_some {K : PySem.W.Frag} {F : Fz} {H : Hp} {g : G} {ρ : Rho} {σ : St} {p : Addr} {i : Nat} (pre : PreE K F H g ρ σ) (h : Owned ρ σ i p) : ∃ o, H p = some o := by
  obtain ⟨lv, h1, h2, h3⟩ := h
  obtain ⟨v, h4, h5⟩ := pre.sl.at_ i lv h1
  rw [h3] at h4
  have e : V.ref p = v := Option.some.inj (Option.some.inj h4)
  subst e
  cases lv with
  | d x => cases h2
  | ol ds => obtain ⟨q, vs, e, _, _, h5, _⟩ := h5; cases e; exact ⟨_, h5⟩
  | ok ks ds => obtain ⟨q, vs, e, _, _, h5, _⟩ := h5; cases e; exact ⟨_, h5⟩
  | ot ks ds => obtain ⟨q, vs, e, _, _, h5, _⟩ := h5; cases e; exact ⟨_, h5⟩
theorem Stp.keepN {K : PySem.W.Frag} {g g' : G} {F F' : Fz} {H H' : Hp} {p : Addr} {o : HO} (s : Stp K g g' F F' H H') (hF : F p = none) (hH : H p = some o) : F' p = none := by
  cases e : F' p with
  | none => rfl
  | some u =>
    rcases s.new p u e with ⟨w, h⟩ | h
    · rw [hF] at h; cases h
    · rw [hH] at h; cases h
/-! ### a list that grows in a comprehension -/
/-- what stands fast: the entry, the walk's own things, the new object L -/
structure LBase where
  g0 : G
  F0 : Fz
  H0 : Hp
  W : Hp
  F1 : Fz
  L : Addr
structure LBase.Ok (b : LBase) : Prop where
  h0 : b.H0 b.L = none
  w : b.W b.L = none
structure LI (K : PySem.W.Frag) (b : LBase) (P : List (Rho × St)) (o : HO) (H : Hp) (F : Fz) (g : G) : Prop where
  st : Stp K b.g0 g b.F0 F b.H0 H
  pre : ∀ q ∈ P, PreE K F H g q.1 q.2
  no : ∀ q ∈ P, ∀ i, ¬ Owned q.1 q.2 i b.L
  sw : Same b.W H
  wm : ∀ a o, b.W a = some o → a ∉ F.mu
  sf : Ext b.F1 F
  fl : F b.L = none
  ml : b.L ∉ F.mu
  hl : H b.L = some o
section
variable {K : PySem.W.Frag} {b : LBase} {P : List (Rho × St)} {o o' : HO} {H H' : Hp} {F F' : Fz} {g g' : G}
theorem LI.step (h : LI K b P o H F g) (s : Stp K g g' F F' H H') : LI K b P o H' F' g' where
  st := h.st.trans s
  pre := fun q hq => (h.pre q hq).step s
  no := h.no
  sw := fun a u z => s.same a u (h.wm a u z) (h.sw a u z)
  wm := fun a u z => s.keepM (h.wm a u z) (h.sw a u z)
  sf := h.sf.trans s.ext
  fl := s.keepN h.fl h.hl
  ml := s.keepM h.ml h.hl
  hl := s.same _ _ h.ml h.hl
theorem LI.mut (h : LI K b P o H F g) (ok : b.Ok) : LI K b P o' (upd H b.L o') F g where
  st := h.st.mut ok.h0 h.fl h.ml
  pre := fun q hq => (h.pre q hq).mut h.fl h.ml (h.no q hq)
  no := h.no
  sw := fun a u z => by rw [upd_ne (ne_of_none z ok.w)]; exact h.sw a u z
  wm := h.wm
  sf := h.sf
  fl := h.fl
  ml := h.ml
  hl := upd_same
theorem LI.add (h : LI K b P o H F g) {ρ : Rho} {σ : St} (p : PreE K F H g ρ σ) (n : ∀ i, ¬ Owned ρ σ i b.L) : LI K b ((ρ, σ) :: P) o H F g :=
  { h with pre := fun q hq => (List.mem_cons.mp hq).elim (fun e => by rw [e]; exact p) (h.pre q), no := fun q hq => (List.mem_cons.mp hq).elim (fun e => by rw [e]; exact n) (h.no q) }
theorem LI.tail {q : Rho × St} (h : LI K b (q :: P) o H F g) : LI K b P o H F g :=
  { h with pre := fun r hr => h.pre r (List.mem_cons_of_mem _ hr), no := fun r hr => h.no r (List.mem_cons_of_mem _ hr) }
end
/-- the new object, at the start -/
theorem LI.begin {K : PySem.W.Frag} {g g1 : G} {F F1 : Fz} {H H1 : Hp} {ρ : Rho} {σ : St} {L : Addr} {o : HO} (pre : PreE K F H g ρ σ) (s1 : Stp K g g1 F F1 H H1) (hL : H1 L = none) :
    LBase.Ok ⟨g, F, H, (off F1 H1).h, F1, L⟩ ∧ LI K ⟨g, F, H, (off F1 H1).h, F1, L⟩ [(ρ, σ)] o (upd H1 L o) F1 g1 := by
  have pre1 := pre.step s1
  have hm : L ∉ F1.mu := s1.rep.out hL
  have hF1 : F1 L = none := s1.sub.free hL
  have nown : ∀ i, ¬ Owned ρ σ i L := fun i h => by
    obtain ⟨o, ho⟩ := pre1.own_some h
    rw [hL] at ho; cases ho
  have hw : (off F1 H1) L = none := by
    cases z : (off F1 H1) L with
    | none => rfl
    | some u => have := (off_some.mp z).2; rw [hL] at this; cases this
  refine ⟨⟨s1.mono L hL, hw⟩, ⟨s1.trans (.allocO s1.sub s1.rep hL), fun q hq => ?_, fun q hq => ?_, fun a u h => ?_, fun a u h => (off_some.mp h).1, Ext.refl _, hF1, hm, upd_same⟩⟩
  · rw [List.mem_singleton.mp hq]; exact pre1.mut hF1 hm nown
  · rw [List.mem_singleton.mp hq]; exact nown
  · obtain ⟨h1, h2⟩ := off_some.mp h
    show upd H1 L o a = some u
    rw [upd_ne (ne_of_none h2 hL)]; exact h2
/-- the turns of one clause: the list at L grows by what lcL tells -/
theorem lc_turns {K : PySem.W.Frag} {b : LBase} {P : List (Rho × St)} {J : It} {sl vs : List Nat} {bd : B} {t : T} {e : E} {σ : St} {ρ : Rho} {src : List D} {Qd : Hp → Prop} (ok : b.Ok) (it : ItS K J b.W b.F1 src) (hsl : ∀ i ∈ sl, i ∈ vs)
    {F : Fz} {H : Hp} {g g2 : G} {ws : List V} {done left : List D} (h : LI K b ((ρ, σ) :: P) (.lst ws) H F g) (hr : RpA K F ws done) (ev : lcL bd t e (wipeR ρ vs) src g = some (left, g2)) (hz : (done ++ left).length ≤ sizeLine)
    (fin : ∀ H F ws, LI K b ((ρ, σ) :: P) (.lst ws) H F g2 → RpA K F ws (done ++ left) → Qd H) :
    ∃ W : Nat → Nat → Hp → Prop, (∃ m, W 0 m H) ∧ ∀ i m H, W i m H → (J.stop i H ∧ Qd H) ∨ (J.go i H ∧ ∃ Nx : Hp → Prop, (∀ H', Nx H' → ∃ m', m' < m ∧ W (i + 1) m' H') ∧
      ∀ x H', J.yld i H x H' → gB K sl bd x (wipe σ vs) H' fun σ2 H2 => wipe σ2 vs = wipe σ vs ∧ tTT K t σ2 H2 fun c H3 =>
        if c = true then tD K e σ2 H3 fun y H4 => ∃ acc, H4 b.L = some (.lst acc) ∧ acc.length < sizeLine ∧ Nx (upd H4 b.L (.lst (acc ++ [y]))) else Nx H3) := by
  refine ⟨fun i m H => m = src.length - i ∧ i ≤ src.length ∧ ∃ F g ws dn lf, LI K b ((ρ, σ) :: P) (.lst ws) H F g ∧ RpA K F ws dn ∧ lcL bd t e (wipeR ρ vs) (src.drop i) g = some (lf, g2) ∧ dn ++ lf = done ++ left,
    ⟨src.length, by simp, Nat.zero_le _, F, g, ws, done, left, h, hr, ev, rfl⟩, ?_⟩
  rintro i m H3 ⟨rfl, hi, F3, g3, ws3, dn, lf, h3, r3, ev3, e3⟩
  obtain ⟨goes, stops⟩ := (it.mono h3.sf) H3 h3.sw
  by_cases hlt : i < src.length
  · have hd : src[i]? = some src[i] := List.getElem?_eq_getElem hlt
    rw [List.drop_eq_getElem_cons hlt] at ev3
    unfold lcL at ev3
    obtain ⟨go, yl⟩ := goes i _ hd
    refine .inr ⟨go, fun H5 => ∃ F g ws dn lf, LI K b ((ρ, σ) :: P) (.lst ws) H5 F g ∧ RpA K F ws dn ∧ lcL bd t e (wipeR ρ vs) (src.drop (i + 1)) g = some (lf, g2) ∧ dn ++ lf = done ++ left, fun H5 h5 => ⟨_, by omega, rfl, by omega, h5⟩, fun x H4 y => ?_⟩
    have pr := h3.pre _ (List.mem_cons_self)
    obtain ⟨F4, s4, r4⟩ := (yl x H4 y).step pr.sub pr.rep
    have h4 := h3.step s4
    cases hb : bd src[i] (wipeR ρ vs) with
    | none => rw [hb] at ev3; cases ev3
    | some ρ' =>
      rw [hb] at ev3
      obtain ⟨c, g5, e5, ev3⟩ := mb_inv ev3
      refine ⟨F4, wipeR ρ vs, g3, src[i], ρ', (h4.pre _ List.mem_cons_self).wipe vs, r4, hb, fun σ' pre' _ hw => ⟨by rw [hw vs hsl]; exact wipe_twice σ vs, ?_⟩⟩
      refine ⟨F4, ρ', g3, c, g5, pre', e5, fun H5 F5 s5 => ?_⟩
      have h5 := h4.step s5
      have r5 := r3.mono (s4.ext.trans s5.ext)
      cases c with
      | false =>
        rw [if_neg Bool.false_ne_true] at ev3
        exact iteF ⟨F5, g5, ws3, dn, lf, h5, r5, ev3, e3⟩
      | true =>
        rw [if_pos rfl] at ev3
        refine iteT ?_
        obtain ⟨z, g6, e6, ev3⟩ := mb_inv ev3
        obtain ⟨zs, g7, e7, ev3⟩ := mb_inv ev3
        obtain ⟨rfl, rfl⟩ := mr_inv ev3
        refine ⟨F5, ρ', g5, z, g6, pre'.step s5, e6, fun w H6 F6 s6 r6 => ?_⟩
        have h6 := h5.step s6
        refine ⟨ws3, h6.hl, ?_, F6, g6, ws3 ++ [w], dn ++ [z], zs, h6.mut ok, (r5.mono s6.ext).append (.cons r6 .nil), e7, by rw [← e3]; simp⟩
        have h7 : ws3.length = dn.length := r3.length
        have h8 : (dn ++ z :: zs).length ≤ sizeLine := by rw [e3]; exact hz
        simp only [List.length_append, List.length_cons] at h8
        omega
  · have e4 : i = src.length := by omega
    subst e4
    rw [List.drop_length] at ev3
    obtain ⟨rfl, rfl⟩ := mr_inv ev3
    rw [List.append_nil] at e3
    exact .inl ⟨stops _ (Nat.le_refl _), fin H3 F3 ws3 h3 (by rw [← e3]; exact r3)⟩
/-- the reading of a comprehension's term -/
theorem lc_sem {K : PySem.W.Frag} {wi : TI} {sl vs : List Nat} {bd : B} {t : T} {e : E} {it : EA} {σ : St} {H : Hp} {F : Fz} {ρ : Rho} {g : G}
    (kI : ∀ σ H F ρ g, PreE K F H g ρ σ → ∀ ds g', it ρ g = some (ds, g') → ∀ R : It → Hp → Prop, (∀ J H' F', Stp K g g' F F' H H' → ItS K J (off F' H').h F' ds → R J H') → wi σ H R)
    (hsl : ∀ i ∈ sl, i ∈ vs) (pre : PreE K F H g ρ σ) {ds : List D} {g' : G} (ev : eLcA vs it bd t e ρ g = some (ds, g')) {Q : VK} (q : NewL K F H g g' ds Q) : tLc wi (gB K sl bd) (tTT K t) (tD K e) vs σ H Q := by
  obtain ⟨src, g1, e1, ev⟩ := mb_inv ev
  obtain ⟨out, g2, e2, ev⟩ := mb_inv ev
  have hz : out.length ≤ sizeLine ∧ out = ds ∧ g2 = g' := by
    split at ev
    · obtain ⟨h1, h2⟩ := mr_inv ev
      exact ⟨by assumption, h1.symm, h2.symm⟩
    · cases ev
  obtain ⟨hz, rfl, rfl⟩ := hz
  refine kI σ H F ρ g pre src g1 e1 _ fun J H1 F1 s1 it1 L hL => ?_
  obtain ⟨ok, beg⟩ := LI.begin (o := .lst []) pre s1 hL
  exact lc_turns (P := []) ok it1 hsl beg .nil e2 (by simpa using hz) fun H3 F3 ws h3 r3 => q L H3 F3 ws h3.st ok.h0 h3.fl h3.ml h3.hl (by rw [r3.length]; simpa using hz) r3
end PD
end
section
set_option Elab.async false
set_option linter.all false
set_option maxRecDepth 100000
set_option maxHeartbeats 4000000
set_option autoImplicit false
namespace PD
open PySem PySem.Spec L2
open PyProof.Rows hiding St

/-! ### new lists -/
def PO (X : Cx) (e : Expr) (f : EA) : Prop := ∃ t, PE X e t ∧ ∀ σ H F ρ g, PreE X.K F H g ρ σ → ∀ ds g', f ρ g = some (ds, g') → ∀ Q : VK, NewL X.K F H g g' ds Q → t σ H Q
def eO (f : EA) : E := fun ρ => mb (f ρ) fun xs => mr (.lst xs)
/-- a thing of one's own is frozen -/
theorem Stp.frz {K : PySem.W.Frag} {g g' : G} {F F' : Fz} {H H' : Hp} {p : Addr} {o : HO} (s : Stp K g g' F F' H H') (hp : H p = none) (hF : F' p = none) (hm : p ∉ F'.mu) (hH : H' p = some o) : Stp K g g' F (F'.upd p o) H H' := by
  have ne : ∀ a ∈ F'.mu, a ≠ p := fun a ha z => hm (by rw [← z]; exact ha)
  refine ⟨s.same, s.mono, s.ext.trans (.upd hF), fun a u h => ?_, s.newM, fun a u h => ?_, ?_⟩
  · have h : L2.upd F'.h p o a = some u := h
    by_cases e : a = p
    · subst e; exact .inr hp
    · rw [upd_ne e] at h; exact s.new a u h
  · have h : L2.upd F'.h p o a = some u := h
    by_cases e : a = p
    · subst e; rw [upd_same] at h; cases h; exact hH
    · rw [upd_ne e] at h; exact s.sub a u h
  · exact s.rep.mono (Ext.upd hF).h (fun a ha => by rw [upd_ne (ne a ha)]; exact (s.rep.mem ha).1) fun _ _ => rfl
/-- it is frozen at once -/
theorem NewL.frz {K : PySem.W.Frag} {F : Fz} {H : Hp} {g g' : G} {ds : List D} {Q : VK} (q : ∀ v H' F', Stp K g g' F F' H H' → Rp K F' v (.lst ds) → Q v H') : NewL K F H g g' ds Q := fun p H' F' vs s hp hF hg hH hz r =>
  q (.ref p) H' (F'.upd p (.lst vs)) (s.frz hp hF hg hH) (rp_new_lst hF (by rw [← r.length]; exact hz) r)
section
variable {X : Cx} {e : Expr} {es : List Expr} {fs : EA} {pos : Pos}
theorem pd_new (h : PO X e fs) : PD X e (eO fs) := by
  obtain ⟨t, ht, k⟩ := h
  refine ⟨t, ht, fun σ H F ρ g pre d g' e Q q => ?_⟩
  obtain ⟨xs, g1, e1, e⟩ := mb_inv e
  obtain ⟨rfl, rfl⟩ := mr_inv e
  exact k σ H F ρ g pre xs _ e1 Q (.frz q)
def aSz (fs : EA) : EA := fun ρ => mb (fs ρ) fun xs => if xs.length ≤ sizeLine then mr xs else mz
theorem po_lst (h : PDA X es fs) : PO X (.List es pos) (aSz fs) := by
  obtain ⟨t, ht, k⟩ := h
  refine ⟨_, pe_lst ht, fun σ H F ρ g pre d g' e Q q => ?_⟩
  obtain ⟨xs, g1, e1, e⟩ := mb_inv e
  have hz : xs.length ≤ sizeLine ∧ xs = d ∧ g1 = g' := by
    split at e
    · obtain ⟨h1, h2⟩ := mr_inv e
      exact ⟨by assumption, h1.symm, h2.symm⟩
    · cases e
  obtain ⟨hz, rfl, rfl⟩ := hz
  refine k σ H F ρ g pre xs _ e1 _ fun vs H1 F1 s1 r1 => ⟨by rw [r1.length]; exact hz, fun p hp => ?_⟩
  exact q p _ F1 vs (s1.trans (.allocO s1.sub s1.rep hp)) (s1.mono p hp) (s1.sub.free hp) (s1.rep.out hp) upd_same (by rw [r1.length]; exact hz) r1
variable {elt tg iter : Expr} {ifs : List Expr} {scope : Scope} {it : EA} {bd : B} {t : T} {f : E} {sl : List Nat}
theorem po_lc (own : List (Str × Nat)) (hc : X.calm = true) (hN : X.N.Nodup) (hi : PBI X tg iter it) (ok : BlkOk X.N X.env.scope scope own)
    (hg : ∀ (s : Shared) (H : Hp) (C : Addr) (cl : List (Str × Addr)) (fp : List Addr), PDG (X.blk s H scope (compEnvC scope cl C X.env) fp) tg sl bd)
    (ht : ∀ (s : Shared) (H : Hp) (C : Addr) (cl : List (Str × Addr)) (fp : List Addr), PDTs (X.blk s H scope (compEnvC scope cl C X.env) fp) ifs t)
    (he : ∀ (s : Shared) (H : Hp) (C : Addr) (cl : List (Str × Addr)) (fp : List Addr), PD (X.blk s H scope (compEnvC scope cl C X.env) fp) elt f)
    (hsl : ∀ i ∈ sl, i ∈ own.map (·.2) := by decide) (hs : ∀ x, foldedSetIterable iter X.env x = pure x := by intro _; rfl) : PO X (.ListComp elt [⟨tg, iter, ifs, 0⟩] scope pos) (eLcA (own.map (·.2)) it bd t f) := by
  obtain ⟨wi, hw, kI⟩ := hi
  refine ⟨_, pe_lc (g := gB X.K sl bd) (tt := tTT X.K t) (te := tD X.K f) hc hN hw ok (fun s H C cl fp => (hg s H C cl fp).can) ht (fun s H C cl fp => (he s H C cl fp).can) hs, fun σ H F ρ g pre ds g' e Q q => ?_⟩
  exact lc_sem kI hsl pre e q
end
/-! ### statements -/
structure Ent where
  g : G
  F : Fz
  H : Hp
structure PreS (K : PySem.W.Frag) (en : Ent) (F : Fz) (H : Hp) (g : G) (ρ : Rho) (σ : St) : Prop where
  e : PreE K F H g ρ σ
  st : Stp K en.g g en.F F en.H H
  fr : ∀ i p, Owned ρ σ i p → en.H p = none
theorem PreS.step {K : PySem.W.Frag} {en : Ent} {F F' : Fz} {H H' : Hp} {g g' : G} {ρ : Rho} {σ : St} (p : PreS K en F H g ρ σ) (s : Stp K g g' F F' H H') : PreS K en F' H' g' ρ σ := ⟨p.e.step s, p.st.trans s, p.fr⟩
theorem PreS.set {K : PySem.W.Frag} {en : Ent} {F : Fz} {H : Hp} {g : G} {ρ : Rho} {σ : St} {i : Nat} {d : D} {v : V} (p : PreS K en F H g ρ σ) (r : Rp K F v d) : PreS K en F H g (setR ρ i d) (σ.set i (some v)) :=
  ⟨p.e.set r, p.st, fun j q h => p.fr j q h.set⟩
inductive Fl where
  | nx (ρ : Rho) | rt (d : D) | bk (ρ : Rho) | ct (ρ : Rho) | xc (nm f : Str) (d : D) (ρ : Rho)
abbrev S := Rho → M Fl
/-- what the context takes of an exception that goes up -/
def Wx (X : Cx) (cls : Value) (d : Option Addr) (σ : St) (H : Hp) : Prop := ∀ u s', L2N.XE X (fun c d' σ' H' => c = cls ∧ d' = d ∧ σ' = σ ∧ H' = H) u s' → X.xe u s'
theorem takes_wx {X : Cx} : L2N.Takes X (Wx X) := fun u s' ⟨a, B, sI, pins, σ, H, cls, d, e, I, nb, up, sky, na, os, ag, w⟩ => w u s' ⟨a, B, sI, pins, σ, H, cls, d, e, I, nb, up, sky, na, os, ag, rfl, rfl, rfl, rfl⟩
def Post (X : Cx) (en : Ent) (g : G) (De : Ends) : Fl → Prop
  | .nx ρ => ∀ σ H F, PreS X.K en F H g ρ σ → De.nx σ H
  | .bk ρ => ∀ σ H F, PreS X.K en F H g ρ σ → De.bk σ H
  | .ct ρ => ∀ σ H F, PreS X.K en F H g ρ σ → De.ct σ H
  | .rt d => ∀ v H F, Stp X.K en.g g en.F F en.H H → Rp X.K F v d → De.rt v H
  | .xc nm f d ρ => ∀ σ H F (dd : Addr) (v : V), PreS X.K en F H g ρ σ → F.h dd = some (.xd [(f, v)]) → Rp X.K F v d → Wx X (.ref (He.ga X.K nm)) (some dd) σ H
def PDS (X : Cx) (st : Stmt) (f : S) : Prop := ∃ t, PS X st t ∧ ∀ en σ H F ρ g, PreS X.K en F H g ρ σ → ∀ fl g', f ρ g = some (fl, g') → ∀ De : Ends, Post X en g' De fl → t De σ H
def PDSS (X : Cx) (st : List Stmt) (f : S) : Prop := ∃ t, PSs X st t ∧ ∀ en σ H F ρ g, PreS X.K en F H g ρ σ → ∀ fl g', f ρ g = some (fl, g') → ∀ De : Ends, Post X en g' De fl → t De σ H
def sNil : S := fun ρ => mr (.nx ρ)
def sSeq (a b : S) : S := fun ρ => mb (a ρ) fun fl => match fl with
  | .nx ρ' => b ρ'
  | fl => mr fl
section
variable {X : Cx} {st : Stmt} {rest : List Stmt} {a b : S} {e : Expr} {f : E} {pos : Pos}
theorem pdss_nil : PDSS X [] sNil := ⟨_, pss_nil, fun en σ H F ρ g pre fl g' e De post => by
  obtain ⟨rfl, rfl⟩ := mr_inv e
  exact post σ H F pre⟩
theorem pdss_cons (h1 : PDS X st a) (h2 : PDSS X rest b) : PDSS X (st :: rest) (sSeq a b) := by
  obtain ⟨t1, p1, k1⟩ := h1
  obtain ⟨t2, p2, k2⟩ := h2
  refine ⟨_, pss_cons p1 p2, fun en σ H F ρ g pre fl g' e De post => ?_⟩
  obtain ⟨fl1, g1, e1, e⟩ := mb_inv e
  refine k1 en σ H F ρ g pre fl1 g1 e1 _ ?_
  cases fl1 with
  | nx ρ' => exact fun σ' H' F' pre' => k2 en σ' H' F' ρ' g1 pre' fl g' e De post
  | bk ρ' => obtain ⟨rfl, rfl⟩ := mr_inv e; exact post
  | ct ρ' => obtain ⟨rfl, rfl⟩ := mr_inv e; exact post
  | rt d => obtain ⟨rfl, rfl⟩ := mr_inv e; exact post
  | xc nm f d ρ' => obtain ⟨rfl, rfl⟩ := mr_inv e; exact post
theorem pdss_one (h1 : PDS X st a) : PDSS X [st] a := by
  obtain ⟨t1, p1, k1⟩ := h1
  exact ⟨_, pss_one p1, k1⟩
/-- a thing of one's own is given away: it is changed no more -/
def frzR (ρ : Rho) (i : Nat) : Rho := match ρ[i]? with
  | some (some lv) => ρ.set i (some (.d lv.get))
  | _ => ρ
def sFrz (i : Nat) (a : S) : S := fun ρ => a (frzR ρ i)
theorem PreS.frz {K : PySem.W.Frag} {en : Ent} {F : Fz} {H : Hp} {g : G} {ρ : Rho} {σ : St} (p : PreS K en F H g ρ σ) (i : Nat) : ∃ F', PreS K en F' H g (frzR ρ i) σ := by
  unfold frzR
  cases h : ρ[i]? with
  | none => exact ⟨F, p⟩
  | some o =>
    cases o with
    | none => exact ⟨F, p⟩
    | some lv =>
      have hi : i < ρ.length := (List.getElem?_eq_some_iff.mp h).1
      obtain ⟨v, h1, h2⟩ := p.e.sl.at_ i lv h
      have self : ∀ {d : D}, SlotOk K F H g v (.d d) → lv.get = d → PreS K en F H g (ρ.set i (some (.d lv.get))) σ := fun {d} r e => by
        have q := p.set (i := i) (d := lv.get) (v := v) (by rw [e]; exact r)
        have e2 : σ.set i (some v) = σ := List.ext_getElem? fun j => by
          by_cases hj : i = j
          · subst hj
            rw [List.getElem?_set]
            split
            · split
              · exact h1.symm
              · rename_i hn; rw [List.getElem?_eq_none (by omega)]
            · rename_i hn; exact absurd rfl hn
          · rw [List.getElem?_set_ne hj]
        rw [e2] at q
        exact q
      -- a thing of one's own at q: it is frozen
      have go : ∀ (q : Addr) (o : HO), lv.own = true → v = .ref q → F q = none → q ∉ F.mu → H q = some o → (∀ F', Ext F F' → F' q = some o → Rp K F' v lv.get) → ∃ F', PreS K en F' H g (ρ.set i (some (.d lv.get))) σ := by
        intro q o own ev hF hm hH hr
        subst ev
        have hq : en.H q = none := p.fr i q ⟨lv, h, own, h1⟩
        have st' := p.st.frz hq hF hm hH
        have ex : Ext F (F.upd q o) := .upd hF
        have old : ∀ j w, Owned (ρ.set i (some (.d lv.get))) σ j w → Owned ρ σ j w ∧ j ≠ i := fun j w ⟨l, q1, q2, q3⟩ => by
          by_cases e : i = j
          · subst e
            rw [List.getElem?_set_self hi] at q1
            cases q1
            cases q2
          · rw [List.getElem?_set_ne e] at q1
            exact ⟨⟨l, q1, q2, q3⟩, fun z => e z.symm⟩
        refine ⟨F.upd q o, ⟨st'.sub, st'.rep, by rw [List.length_set]; exact p.e.sl.len, fun j l z => ?_, fun j k w z1 z2 => p.e.sl.sep j k w (old j w z1).1 (old k w z2).1⟩, st', fun j w z => p.fr j w (old j w z).1⟩
        by_cases e : i = j
        · subst e
          rw [List.getElem?_set_self hi] at z
          cases z
          exact ⟨_, h1, hr _ ex upd_same⟩
        · rw [List.getElem?_set_ne e] at z
          obtain ⟨u, z1, z2⟩ := p.e.sl.at_ j l z
          refine ⟨u, z1, ?_⟩
          have nq : l.own = true → ∀ w, u = .ref w → w ≠ q := fun w1 w w2 z3 => by
            subst w2 z3
            exact e (p.e.sl.sep i j w ⟨lv, h, own, h1⟩ ⟨l, z, w1, z1⟩)
          have nF : ∀ w, w ≠ q → F w = none → (F.upd q o) w = none := fun w hw hn => by show L2.upd F.h q o w = none; rw [upd_ne hw]; exact hn
          cases l with
          | d x => exact Rp.mono ex z2
          | ol ds => obtain ⟨w, vs, e1, e2, e3, e4, e5, e6⟩ := z2; exact ⟨w, vs, e1, nF w (nq rfl w e1) e2, e3, e4, e5, e6.mono ex⟩
          | ok ks ds => obtain ⟨w, vs, e1, e2, e3, e4, e5, e6⟩ := z2; exact ⟨w, vs, e1, nF w (nq rfl w e1) e2, e3, e4, e5, e6.mono ex⟩
          | ot ks ds => obtain ⟨w, vs, e1, e2, e3, e4, e5, e6⟩ := z2; exact ⟨w, vs, e1, nF w (nq rfl w e1) e2, e3, e4, e5, e6.mono ex⟩
      cases lv with
      | d x => exact ⟨F, self h2 rfl⟩
      | ol ds =>
        obtain ⟨q, vs, e1, e2, e3, e4, e5, e6⟩ := h2
        exact go q _ rfl e1 e2 e3 e4 fun F' s z => by subst e1; exact .lst (.of z) e5 (e6.mono s)
      | ok ks ds =>
        obtain ⟨q, vs, e1, e2, e3, e4, e5, e6⟩ := h2
        exact go q _ rfl e1 e2 e3 e4 fun F' s z => by subst e1; subst e5; exact .dk (.inl z) (e6.mono s)
      | ot ks ds =>
        obtain ⟨q, vs, e1, e2, e3, e4, e5, e6⟩ := h2
        exact go q _ rfl e1 e2 e3 e4 fun F' s z => by subst e1; subst e5; exact .dt (.inl z) (e6.mono s)
theorem pdss_frz {sts : List Stmt} (i : Nat) (h : PDSS X sts a) : PDSS X sts (sFrz i a) := by
  obtain ⟨t, p, k⟩ := h
  refine ⟨t, p, fun en σ H F ρ g pre fl g' e De post => ?_⟩
  obtain ⟨F', pre'⟩ := pre.frz i
  exact k en σ H F' (frzR ρ i) g pre' fl g' e De post
/-! ### plain statements -/
def sRet (f : E) : S := fun ρ => mb (f ρ) fun d => mr (.rt d)
theorem pds_ret (h : PD X e f) : PDS X (.Return (some e) pos) (sRet f) := by
  obtain ⟨t, p, k⟩ := h
  refine ⟨_, ps_ret p, fun en σ H F ρ g pre fl g' e De post => ?_⟩
  obtain ⟨d, g1, e1, e⟩ := mb_inv e
  obtain ⟨rfl, rfl⟩ := mr_inv e
  exact k σ H F ρ g pre.e d _ e1 _ fun v H1 F1 s1 r1 => post v H1 F1 (pre.st.trans s1) r1
theorem pds_retN : PDS X (.Return none pos) (sRet (eC .non)) := by
  refine ⟨_, ps_retN, fun en σ H F ρ g pre fl g' e De post => ?_⟩
  obtain ⟨rfl, rfl⟩ := mr_inv e
  exact post _ H F pre.st .non
def sSet (i : Nat) (f : E) : S := fun ρ => mb (f ρ) fun d => mr (.nx (setR ρ i d))
theorem pds_set (i : Nat) {x : Str} {pos' : Pos} (hN : X.N.Nodup) (h : PD X e f) (hi : X.N[i]? = some x := by rfl) (hx : Loc X.env.scope x := by first | exact Or.inl rfl | exact Or.inr rfl)
    (hs : swapsWith e (some (.Name x pos')) pos.line X.env = pure false := by rfl) (hf : X.fn x = true ∨ X.env.scope.names.lookup x = some .local := by first | exact .inl rfl | exact .inr rfl | assumption) :
    PDS X (.Assign [.Name x pos'] e pos) (sSet i f) := by
  obtain ⟨t, p, k⟩ := h
  refine ⟨_, ps_set hN hi hx p hs hf, fun en σ H F ρ g pre fl g' e De post => ?_⟩
  obtain ⟨d, g1, e1, e⟩ := mb_inv e
  obtain ⟨rfl, rfl⟩ := mr_inv e
  exact k σ H F ρ g pre.e d _ e1 _ fun v H1 F1 s1 r1 => post _ H1 F1 ((pre.step s1).set r1)
/-- targets that are unpacked -/
def sAsg (bd : B) (f : E) : S := fun ρ => mb (f ρ) fun d => ml ((bd d ρ).map Fl.nx)
theorem pds_asg {tg : Expr} {sl : List Nat} {bd : B} (h : PD X e f) (hg : PDG X tg sl bd) (hs : swapsWithSole [tg] e pos.line X.env = pure false := by rfl) (hw : swappedStores [tg] e X.env = pure none := by rfl)
    (h1 : (assignEach [tg] X.env).map (·.2) = [assign tg X.env] := by rfl) : PDS X (.Assign [tg] e pos) (sAsg bd f) := by
  obtain ⟨t, p, k⟩ := h
  obtain ⟨tg', pg, kg⟩ := hg
  refine ⟨_, ps_asg p pg hs hw h1, fun en σ H F ρ g pre fl g' e De post => ?_⟩
  obtain ⟨d, g1, e1, e⟩ := mb_inv e
  obtain ⟨e2, rfl⟩ := ml_inv e
  obtain ⟨ρ', e3, rfl⟩ := Option.map_eq_some_iff.mp e2
  refine k σ H F ρ g pre.e d _ e1 _ fun v H1 F1 s1 r1 => ?_
  exact kg σ H1 F1 ρ _ v d ρ' (pre.e.step s1) r1 e3 _ fun σ' pre' o _ => post σ' H1 F1 ⟨pre', pre.st.trans s1, fun i q z => pre.fr i q (o i q z)⟩
/-- a, b = x, y of plain names -/
def sPar (i j : Nat) (fs : EA) : S := fun ρ => mb (fs ρ) fun ds => match ds with
  | [x, y] => mr (.nx (setR (setR ρ i x) j y))
  | _ => mz
theorem pds_par (i j : Nat) {x y : Str} {a b : Expr} {fs : EA} {px py pt : Pos} {kt k2 : Nat} {pt2 : Pos} (hc : X.calm = true) (hN : X.N.Nodup) (ha : PDA X [a, b] fs) (hi : X.N[i]? = some x := by rfl) (hj : X.N[j]? = some y := by rfl) (hij : i ≠ j := by decide)
    (hx : X.env.scope.names.lookup x = some .local := by rfl) (hy : X.env.scope.names.lookup y = some .local := by rfl)
    (hw : swappedStores [.Tuple [.Name x px, .Name y py] kt pt] (.Tuple [a, b] k2 pt2) X.env = pure (some [x, y]) := by rfl)
    (hs : swapsWithSole [.Tuple [.Name x px, .Name y py] kt pt] (.Tuple [a, b] k2 pt2) pos.line X.env = pure false := by rfl) :
    PDS X (.Assign [.Tuple [.Name x px, .Name y py] kt pt] (.Tuple [a, b] k2 pt2) pos) (sPar i j fs) := by
  obtain ⟨t, p, k⟩ := ha
  refine ⟨_, ps_par hc hN hi hj hij hx hy p hw hs, fun en σ H F ρ g pre fl g' e De post => ?_⟩
  obtain ⟨ds, g1, e1, e⟩ := mb_inv e
  match ds, e with
  | [d1, d2], e =>
    obtain ⟨rfl, rfl⟩ := mr_inv e
    refine k σ H F ρ g pre.e _ _ e1 _ fun vs H1 F1 s1 r1 => ?_
    cases r1 with
    | cons r r' =>
      cases r' with
      | cons r' r'' =>
        cases r''
        exact ⟨_, _, rfl, post _ H1 F1 (((pre.step s1).set r).set r')⟩
  | [], e => cases e
  | [_], e => cases e
  | _ :: _ :: _ :: _, e => cases e
def sIf (c : T) (a b : S) : S := fun ρ => mb (c ρ) fun k => if k = true then a ρ else b ρ
theorem pds_if {c : Expr} {sa sb : List Stmt} {tc : T} (hc : PDT X c tc) (ha : PDSS X sa a) (hb : PDSS X sb b) : PDS X (.If c sa sb pos) (sIf tc a b) := by
  obtain ⟨t, p, k⟩ := hc
  obtain ⟨t1, p1, k1⟩ := ha
  obtain ⟨t2, p2, k2⟩ := hb
  refine ⟨_, ps_if p p1 p2, fun en σ H F ρ g pre fl g' e De post => ?_⟩
  obtain ⟨c, g1, e1, e⟩ := mb_inv e
  refine k σ H F ρ g pre.e c g1 e1 _ fun H1 F1 s1 => ?_
  cases c with
  | true => exact k1 en σ H1 F1 ρ g1 (pre.step s1) fl g' e De post
  | false => exact k2 en σ H1 F1 ρ g1 (pre.step s1) fl g' e De post
def sExpr (f : E) : S := fun ρ => mb (f ρ) fun _ => mr (.nx ρ)
theorem pds_expr (h : PD X e f) (hs : swapsWith e none pos.line X.env = pure false := by rfl) : PDS X (.Expr e pos) (sExpr f) := by
  obtain ⟨t, p, k⟩ := h
  refine ⟨_, ps_expr p hs, fun en σ H F ρ g pre fl g' e De post => ?_⟩
  obtain ⟨d, g1, e1, e⟩ := mb_inv e
  obtain ⟨rfl, rfl⟩ := mr_inv e
  exact k σ H F ρ g pre.e d _ e1 _ fun v H1 F1 s1 r1 => post σ H1 F1 (pre.step s1)
def sNever : S := fun _ => mz
theorem pds_never : PDS X st sNever := ⟨_, ps_never, fun en σ H F ρ g pre fl g' e De post => by cases e⟩
def sPass : S := fun ρ => mr (.nx ρ)
theorem pds_pass : PDS X (.Pass pos) sPass := ⟨_, ps_pass, fun en σ H F ρ g pre fl g' e De post => by
  obtain ⟨rfl, rfl⟩ := mr_inv e
  exact post σ H F pre⟩
def sCont : S := fun ρ => mr (.ct ρ)
theorem pds_cont : PDS X (.Continue pos) sCont := ⟨_, ps_continue, fun en σ H F ρ g pre fl g' e De post => by
  obtain ⟨rfl, rfl⟩ := mr_inv e
  exact post σ H F pre⟩
def sBreak : S := fun ρ => mr (.bk ρ)
theorem pds_break : PDS X (.Break pos) sBreak := ⟨_, ps_break, fun en σ H F ρ g pre fl g' e De post => by
  obtain ⟨rfl, rfl⟩ := mr_inv e
  exact post σ H F pre⟩
/-- a new list of one's own -/
def sOwn (i : Nat) (f : EA) : S := fun ρ => mb (f ρ) fun xs => mr (.nx (ρ.set i (some (.ol xs))))
theorem PreS.own {K : PySem.W.Frag} {en : Ent} {F : Fz} {H : Hp} {g : G} {ρ : Rho} {σ : St} {i : Nat} {p : Addr} {lv : LV} (pre : PreS K en F H g ρ σ) (ow : lv.own = true) (ok : SlotOk K F H g (.ref p) lv) (new : ∀ j, ¬ Owned ρ σ j p) (hp : en.H p = none) :
    PreS K en F H g (ρ.set i (some lv)) (σ.set i (some (.ref p))) := by
  have old : ∀ j w, Owned (ρ.set i (some lv)) (σ.set i (some (.ref p))) j w → (j = i ∧ w = p) ∨ (j ≠ i ∧ Owned ρ σ j w) := fun j w ⟨l, q1, q2, q3⟩ => by
    by_cases e : i = j
    · subst e
      by_cases hl : i < σ.length
      · rw [List.getElem?_set_self hl] at q3
        have := Option.some.inj (Option.some.inj q3)
        cases this
        exact .inl ⟨rfl, rfl⟩
      · rw [List.getElem?_eq_none (by simpa using hl)] at q3; cases q3
    · rw [List.getElem?_set_ne e] at q1 q3
      exact .inr ⟨fun z => e z.symm, l, q1, q2, q3⟩
  refine ⟨⟨pre.e.sub, pre.e.rep, by simp [pre.e.sl.len], fun j l z => ?_, fun j k w z1 z2 => ?_⟩, pre.st, fun j w z => ?_⟩
  · by_cases e : i = j
    · subst e
      by_cases hl : i < ρ.length
      · rw [List.getElem?_set_self hl] at z
        cases z
        exact ⟨_, List.getElem?_set_self (by rw [← pre.e.sl.len]; exact hl), ok⟩
      · rw [List.getElem?_eq_none (by simpa using hl)] at z; cases z
    · rw [List.getElem?_set_ne e] at z
      rw [List.getElem?_set_ne e]
      exact pre.e.sl.at_ j l z
  · rcases old j w z1 with ⟨rfl, rfl⟩ | ⟨h1, h2⟩ <;> rcases old k _ z2 with ⟨h3, h4⟩ | ⟨h3, h4⟩
    · exact h3.symm
    · exact absurd h4 (new k)
    · subst h4; exact absurd h2 (new j)
    · exact pre.e.sl.sep j k w h2 h4
  · rcases old j w z with ⟨_, rfl⟩ | ⟨_, h2⟩
    · exact hp
    · exact pre.fr j w h2
theorem pds_own (i : Nat) {x : Str} {fs : EA} {pos' : Pos} (hN : X.N.Nodup) (h : PO X e fs) (hi : X.N[i]? = some x := by rfl) (hx : Loc X.env.scope x := by first | exact Or.inl rfl | exact Or.inr rfl)
    (hs : swapsWith e (some (.Name x pos')) pos.line X.env = pure false := by rfl) (hf : X.fn x = true ∨ X.env.scope.names.lookup x = some .local := by first | exact .inl rfl | exact .inr rfl | assumption) :
    PDS X (.Assign [.Name x pos'] e pos) (sOwn i fs) := by
  obtain ⟨t, p, k⟩ := h
  refine ⟨_, ps_set hN hi hx p hs hf, fun en σ H F ρ g pre fl g' e De post => ?_⟩
  obtain ⟨ds, g1, e1, e⟩ := mb_inv e
  obtain ⟨rfl, rfl⟩ := mr_inv e
  refine k σ H F ρ g pre.e ds _ e1 _ fun q H1 F1 vs s1 hq hF hg hH hz r => ?_
  have pre1 := pre.step s1
  refine post _ H1 F1 (pre1.own rfl ⟨q, vs, rfl, hF, hg, hH, hz, r⟩ (fun j z => ?_) (pre.st.mono q hq))
  obtain ⟨o, ho⟩ := pre.e.own_some z
  rw [hq] at ho; cases ho
variable {elt tg iter : Expr} {ifs : List Expr} {scope : Scope} {it : EA} {bd : B} {t : T} {sl : List Nat}
/-- y = [.. for ..] -/
theorem pds_setLc (i : Nat) {y : Str} {py lpos : Pos} (own : List (Str × Nat)) (hc : X.calm = true) (hN : X.N.Nodup) (hi : PBI X tg iter it) (ok : BlkOk X.N X.env.scope scope own)
    (hg : ∀ (s : Shared) (H : Hp) (C : Addr) (cl : List (Str × Addr)) (fp : List Addr), PDG (X.blk s H scope (compEnvC scope cl C X.env) fp) tg sl bd)
    (ht : ∀ (s : Shared) (H : Hp) (C : Addr) (cl : List (Str × Addr)) (fp : List Addr), PDTs (X.blk s H scope (compEnvC scope cl C X.env) fp) ifs t)
    (he : ∀ (s : Shared) (H : Hp) (C : Addr) (cl : List (Str × Addr)) (fp : List Addr), PD (X.blk s H scope (compEnvC scope cl C X.env) fp) elt f)
    (hsw : swapsWith (.ListComp elt [⟨tg, iter, ifs, 0⟩] scope lpos) (some (.Name y py)) pos.line X.env = pure true)
    (hsl : ∀ i ∈ sl, i ∈ own.map (·.2) := by decide) (hs : ∀ x, foldedSetIterable iter X.env x = pure x := by intro _; rfl) (hy : X.N[i]? = some y := by rfl) (hyl : X.env.scope.names.lookup y = some .local := by rfl) :
    PDS X (.Assign [.Name y py] (.ListComp elt [⟨tg, iter, ifs, 0⟩] scope lpos) pos) (sSet i (eO (eLcA (own.map (·.2)) it bd t f))) := by
  obtain ⟨wi, hw, kI⟩ := hi
  refine ⟨_, ps_setLc (g := gB X.K sl bd) (tt := tTT X.K t) (te := tD X.K f) hc hN hy hyl hsw hw ok (fun s H C cl fp => (hg s H C cl fp).can) ht (fun s H C cl fp => (he s H C cl fp).can) hs, fun en σ H F ρ g pre fl g' e De post => ?_⟩
  obtain ⟨d, g1, e1, e⟩ := mb_inv e
  obtain ⟨xs, g2, e2, e3⟩ := mb_inv e1
  obtain ⟨rfl, rfl⟩ := mr_inv e3
  obtain ⟨rfl, rfl⟩ := mr_inv e
  exact lc_sem kI hsl pre.e e2 (.frz fun v H1 F1 s1 r1 => post _ H1 F1 ((pre.step s1).set r1))
theorem pds_ownLc (i : Nat) {y : Str} {py lpos : Pos} (own : List (Str × Nat)) (hc : X.calm = true) (hN : X.N.Nodup) (hi : PBI X tg iter it) (ok : BlkOk X.N X.env.scope scope own)
    (hg : ∀ (s : Shared) (H : Hp) (C : Addr) (cl : List (Str × Addr)) (fp : List Addr), PDG (X.blk s H scope (compEnvC scope cl C X.env) fp) tg sl bd)
    (ht : ∀ (s : Shared) (H : Hp) (C : Addr) (cl : List (Str × Addr)) (fp : List Addr), PDTs (X.blk s H scope (compEnvC scope cl C X.env) fp) ifs t)
    (he : ∀ (s : Shared) (H : Hp) (C : Addr) (cl : List (Str × Addr)) (fp : List Addr), PD (X.blk s H scope (compEnvC scope cl C X.env) fp) elt f)
    (hsw : swapsWith (.ListComp elt [⟨tg, iter, ifs, 0⟩] scope lpos) (some (.Name y py)) pos.line X.env = pure true)
    (hsl : ∀ i ∈ sl, i ∈ own.map (·.2) := by decide) (hs : ∀ x, foldedSetIterable iter X.env x = pure x := by intro _; rfl) (hy : X.N[i]? = some y := by rfl) (hyl : X.env.scope.names.lookup y = some .local := by rfl) :
    PDS X (.Assign [.Name y py] (.ListComp elt [⟨tg, iter, ifs, 0⟩] scope lpos) pos) (sOwn i (eLcA (own.map (·.2)) it bd t f)) := by
  obtain ⟨wi, hw, kI⟩ := hi
  refine ⟨_, ps_setLc (g := gB X.K sl bd) (tt := tTT X.K t) (te := tD X.K f) hc hN hy hyl hsw hw ok (fun s H C cl fp => (hg s H C cl fp).can) ht (fun s H C cl fp => (he s H C cl fp).can) hs, fun en σ H F ρ g pre fl g' e De post => ?_⟩
  obtain ⟨ds, g1, e1, e⟩ := mb_inv e
  obtain ⟨rfl, rfl⟩ := mr_inv e
  refine lc_sem kI hsl pre.e e1 fun q H1 F1 vs s1 hq hF hg hH hz r => ?_
  refine post _ H1 F1 ((pre.step s1).own rfl ⟨q, vs, rfl, hF, hg, hH, hz, r⟩ (fun j z => ?_) (pre.st.mono q hq))
  obtain ⟨o, ho⟩ := pre.e.own_some z
  rw [hq] at ho; cases ho
end
end PD
end
section
set_option Elab.async false
set_option linter.all false
set_option maxRecDepth 100000
set_option maxHeartbeats 4000000
set_option autoImplicit false
namespace PD
open PySem PySem.Spec L2
open PyProof.Rows hiding St

/-! ### a list or a tuple as a source -/
def SqK (k : Bool) (K : PySem.W.Frag) (H : Hp) (a : Addr) (xs : List V) : Prop := match k with
  | true => SqL K H a xs
  | false => SqT K H a xs
def IsK (k : Bool) (h : Heap) (a : Addr) (its : Array Value) : Prop := match k with
  | true => h.IsList a its
  | false => h.IsTuple a its
def ItrK (k : Bool) (h : Heap) (it a : Addr) (i : Nat) : Prop := match k with
  | true => h.IsListIter it a i
  | false => h.IsTupleIter it a i
def begO (k : Bool) (a : Addr) : Obj := match k with
  | true => { cls := .type "list_iterator", data := .fields #[.ref a, .int 0 0] }
  | false => { cls := .type "tuple_iterator", data := .fields #[.ref a, .int 0 0] }
theorem begK (k : Bool) (a : Addr) (its : Array Value) : Begins (.ref a) (begO k a) fun h => IsK k h a its := by
  cases k with
  | true => exact begins_list a its
  | false => exact begins_tuple a its
theorem itr0 {k : Bool} {h : Heap} {it a : Addr} (e : h.get? it = some (begO k a)) : ItrK k h it a 0 := by
  cases k with
  | true => exact ⟨_, e, rfl, rfl⟩
  | false => exact ⟨_, e, rfl, rfl⟩
theorem drawsK {prog : Program} {w : World} {A : Around} (hh : A.handled = none) (k : Bool) (it a : Addr) (hne : a ≠ it) (its : Array Value) :
    Draws prog w A it [it, a] its.size (fun i v => its[i]? = some v) (fun i h => ItrK k h it a i ∧ IsK k h a its) := by
  cases k with
  | true => exact Draws.list hh it a hne its
  | false => exact Draws.tuple hh it a hne its
theorem ItrK.obj {k : Bool} {h : Heap} {it a : Addr} {i : Nat} (e : ItrK k h it a i) : ∃ o, h.get? it = some o ∧ ∀ v, o.data ≠ .cell v := by
  cases k with
  | true => obtain ⟨o, e, _, d⟩ := e; exact ⟨o, e, fun v z => by rw [d] at z; cases z⟩
  | false => obtain ⟨o, e, _, d⟩ := e; exact ⟨o, e, fun v z => by rw [d] at z; cases z⟩
theorem ItrK.keep {k : Bool} {h h' : Heap} {it a : Addr} {i : Nat} (e : ItrK k h it a i) (q : ∀ o, h.get? it = some o → h'.get? it = some o) : ItrK k h' it a i := by
  cases k with
  | true => exact Heap.IsListIter.at e q
  | false => exact Heap.IsTupleIter.at e q
theorem isK_of {X : Cx} {pins : List (Addr × Obj)} {σ : St} {H : Hp} {s : Shared} {k : Bool} {a : Addr} {xs : List V} (I : Inv X pins σ H s) (h : SqK k X.K H a xs) :
    ∃ its : List Value, Vals xs its ∧ IsK k s.heap a its.toArray ∧ a < s.heap.objs.size := by
  cases k with
  | true => obtain ⟨its, r, p, _⟩ := I.list h; exact ⟨its, r, p.isList, p.lt⟩
  | false =>
    obtain ⟨its, r, p, _⟩ := I.tuple h
    obtain ⟨o, ho, _⟩ := id p
    exact ⟨its, r, p, Heap.lt_size ho⟩
theorem sqK_mono {k : Bool} {K : PySem.W.Frag} {H H' : Hp} {a : Addr} {xs : List V} (s : Same H H') (h : SqK k K H a xs) : SqK k K H' a xs := by
  cases k with
  | true => exact sqL_mono s h
  | false => exact sqT_mono s h
/-- what is written by the walk's own next: the rest stays -/
theorem new_inv {X : Cx} {pins : List (Addr × Obj)} {σ : St} {H : Hp} {s : Shared} {h' : Heap} {tk : Nat} {ch : List Addr} {p : Addr} {xs : List V} {us : List Value} (I : Inv X pins σ H s) (hf : ∀ b ∈ ch, FpOk X pins H b) (kp : ∀ b o, b ∉ ch → s.heap.get? b = some o → h'.get? b = some o)
    (hp : s.heap.objs.size ≤ p) (r : Vals xs us) (hz : xs.length ≤ sizeLine) (hT : h'.IsTuple p us.toArray) : Inv X pins σ (upd H p (.tup xs)) { s with heap := h', toks := tk } :=
  I.turnedNew (ch := ch) kp hf hp ⟨hz, us, r, hT⟩
/-! ### zip of two -/
def It2 (K : PySem.W.Frag) (k1 k2 : Bool) (a b : Addr) (xs ys : List V) : It :=
  ⟨fun i H => SqK k1 K H a xs ∧ SqK k2 K H b ys ∧ i < min xs.length ys.length, fun i H v H' => ∃ p x y, v = .ref p ∧ H p = none ∧ H' = upd H p (.tup [x, y]) ∧ xs[i]? = some x ∧ ys[i]? = some y,
    fun i H => SqK k1 K H a xs ∧ SqK k2 K H b ys ∧ min xs.length ys.length ≤ i⟩
theorem turn2 {P : Program} {w : World} {K : PySem.W.Frag} {elts : List Expr} {kk : Nat} {tpos : Pos} {k1 k2 : Bool} {a b : Addr} {xs ys : List V} {N : Nat} (ha : a < N) (hb : b < N) :
    Turn P w K (.Tuple elts kk tpos) (It2 K k1 k2 a b xs ys) [N + 4, N + 2, N + 3, N, N + 1] (N + 4)
      (fun i h => i ≤ min xs.length ys.length ∧ IsZip h (N + 4) (N + 2) (N + 3) .none ∧ IsTupOf2 h (N + 2) (.ref N) (.ref (N + 1)) ∧ (∃ u v, IsTupOf2 h (N + 3) u v) ∧ ItrK k1 h N a i ∧ ItrK k2 h (N + 1) b i) := by
  have sep : ZipSep2 (N + 4) (N + 2) (N + 3) N (N + 1) [N, a] [N + 1, b] := zip_sep2 (fp1 := [a]) (fp2 := [b]) (by simpa using ha) (by simpa using hb)
  have ne : a ≠ N ∧ b ≠ N + 1 := ⟨Nat.ne_of_lt ha, Nat.ne_of_lt (Nat.lt_succ_of_lt hb)⟩
  refine ⟨by simp, fun i h st c hc => ?_, fun i h h' st k => ?_, ?_, ?_, fun A i s Q E st h => wpAny_pyIter_zip st.2.1 h⟩
  · obtain ⟨_, h1, h2, ⟨u, v, h3⟩, h4, h5⟩ := st
    have e : c = N + 4 ∨ c = N + 2 ∨ c = N + 3 ∨ c = N ∨ c = N + 1 := by simpa using hc
    rcases e with rfl | rfl | rfl | rfl | rfl
    · exact ⟨_, h1, fun v q => nomatch q⟩
    · exact ⟨_, h2, fun v q => nomatch q⟩
    · exact ⟨_, h3, fun v q => nomatch q⟩
    · exact h4.obj
    · exact h5.obj
  · obtain ⟨h0, h1, h2, ⟨u, v, h3⟩, h4, h5⟩ := st
    exact ⟨h0, k _ (by simp) _ h1, k _ (by simp) _ h2, ⟨u, v, k _ (by simp) _ h3⟩, h4.keep fun o => k _ (by simp) o, h5.keep fun o => k _ (by simp) o⟩
  · intro X hP hw hK hc i pins s σ H E I hf st hg
    subst hP hw hK
    obtain ⟨s1, s2, hi⟩ := hg
    obtain ⟨_, h1, h2, h3, h4, h5⟩ := st
    obtain ⟨its, r1, q1, _⟩ := isK_of I s1
    obtain ⟨jts, r2, q2, _⟩ := isK_of I s2
    have l1 := r1.length
    have l2 := r2.length
    have G := GoesN.zip2 (prog := X.prog) (w := X.w) (A := X.A) (elts := elts) (x1 := kk) (pos := tpos) sep (drawsK (A := X.A.in1) (I.ok.hd hc) k1 N a ne.1 its.toArray) (drawsK (A := X.A.in1) (I.ok.hd hc) k2 (N + 1) b ne.2 jts.toArray)
    refine wpAny_mono (G.goes i s (fun v s2 => ∃ x H', Inv X pins σ H' s2 ∧ RelV x v ∧ (It2 X.K k1 k2 a b xs ys).yld i H x H' ∧ (i + 1 ≤ min xs.length ys.length ∧ IsZip s2.heap (N + 4) (N + 2) (N + 3) .none ∧ IsTupOf2 s2.heap (N + 2) (.ref N) (.ref (N + 1)) ∧ (∃ u v, IsTupOf2 s2.heap (N + 3) u v) ∧ ItrK k1 s2.heap N a (i + 1) ∧ ItrK k2 s2.heap (N + 1) b (i + 1)) ∧
      ∀ b ∈ [N + 4, N + 2, N + 3, N, N + 1], H' b = none) E (by simp only [List.size_toArray]; omega) ⟨h1, h2, h3, ⟨h4, q1⟩, ⟨h5, q2⟩⟩ fun v h' tk Y st' kp _ => ?_) (fun r s1 ⟨v, e, q⟩ => ⟨v, e, q⟩) fun _ _ z => z
    obtain ⟨T, u1, u2, rfl, hT, y1, y2, hTT⟩ := Y
    obtain ⟨z1, z2, z3, ⟨z4, _⟩, ⟨z5, _⟩⟩ := st'
    have hx : i < xs.length := by omega
    have hy : i < ys.length := by omega
    obtain ⟨w1, e1, f1⟩ := r1.get (List.getElem?_eq_getElem hx)
    obtain ⟨w2, e2, f2⟩ := r2.get (List.getElem?_eq_getElem hy)
    have e3 : u1 = w1 := Option.some.inj (y1.symm.trans (by simpa using e1))
    have e4 : u2 = w2 := Option.some.inj (y2.symm.trans (by simpa using e2))
    subst e3 e4
    refine ⟨.ref T, _, new_inv (us := [u1, u2]) I hf (fun c o hc e => kp c o (fun z => hc ?_) e) hT (.cons f1 (.cons f2 .nil)) (by show 2 ≤ sizeLine; decide) hTT, rfl, ⟨T, _, _, rfl, I.hok.fresh hT, rfl, List.getElem?_eq_getElem hx, List.getElem?_eq_getElem hy⟩, ⟨by omega, z1, z2, z3, z4, z5⟩, fun c hcm => ?_⟩
    · have e : c = N + 4 ∨ c = N + 3 ∨ c = N ∨ c = N + 1 := by simpa using z
      rcases e with rfl | rfl | rfl | rfl <;> simp
    · have q := (hf c hcm).1
      rw [upd_ne fun z => ?_]
      · exact q
      · subst z
        obtain ⟨u, v, h3⟩ := h3
        have e : c = N + 4 ∨ c = N + 2 ∨ c = N + 3 ∨ c = N ∨ c = N + 1 := by simpa using hcm
        have lt : c < s.heap.objs.size := by
          rcases e with rfl | rfl | rfl | rfl | rfl
          · exact Heap.lt_size h1
          · exact Heap.lt_size h2
          · exact Heap.lt_size h3
          · obtain ⟨o, ho, _⟩ := h4.obj; exact Heap.lt_size ho
          · obtain ⟨o, ho, _⟩ := h5.obj; exact Heap.lt_size ho
        exact absurd (Nat.lt_of_lt_of_le lt hT) (Nat.lt_irrefl _)
  · intro X hP hw hK hc i pins s σ H E I hf st hg
    subst hP hw hK
    obtain ⟨s1, s2, hi⟩ := hg
    obtain ⟨h0, h1, h2, h3, h4, h5⟩ := st
    have e0 : i = min xs.length ys.length := by omega
    obtain ⟨its, r1, q1, _⟩ := isK_of I s1
    obtain ⟨jts, r2, q2, _⟩ := isK_of I s2
    have l1 := r1.length
    have l2 := r2.length
    have G := GoesN.zip2 (prog := X.prog) (w := X.w) (A := X.A) (elts := elts) (x1 := kk) (pos := tpos) sep (drawsK (A := X.A.in1) (I.ok.hd hc) k1 N a ne.1 its.toArray) (drawsK (A := X.A.in1) (I.ok.hd hc) k2 (N + 1) b ne.2 jts.toArray)
    have e1 : min its.toArray.size jts.toArray.size = i := by simp only [List.size_toArray]; omega
    rw [e1] at G
    refine G.stops s (fun s' => Inv X pins σ H s') E ⟨h1, h2, h3, ⟨h4, q1⟩, ⟨h5, q2⟩⟩ fun h' tk kp _ => I.turnedL (t' := tk) (ch := [N + 4, N + 2, N + 3, N, N + 1]) (fun c o hc e => kp c o (fun z => hc ?_) e) hf
    have e : c = N + 4 ∨ c = N + 3 ∨ c = N ∨ c = N + 1 := by simpa using z
    rcases e with rfl | rfl | rfl | rfl <;> simp
def iZip2 (K : PySem.W.Frag) (ta : TA) : TI := fun σ H R => ta σ H fun vs H1 => ∃ k1 k2 a b xs ys, vs = [.ref a, .ref b] ∧ SqK k1 K H1 a xs ∧ SqK k2 K H1 b ys ∧ R (It2 K k1 k2 a b xs ys) H1
theorem fp_new {X : Cx} {pins : List (Addr × Obj)} {σ : St} {H : Hp} {s : Shared} (I : Inv X pins σ H s) {l : List Addr} (h : ∀ b ∈ l, s.heap.objs.size ≤ b) : ∀ b ∈ l, FpOk X pins H b := fun b hb => I.fpOk (h b hb) (I.hok.fresh (h b hb))
theorem pi_zip2 {X : Cx} {e e2 : Expr} {ta : TA} {p pos tpos : Pos} {elts : List Expr} {kk : Nat} (hg : Gl X "zip") (hm : X.mg "zip" = none) (ha : PA X [e, e2] ta)
    (hs : starEach [e, e2] X.env = (false, eval e X.env) :: starEach [e2] X.env) (hpl : (backTo pos (starEach [e2] X.env)).any (·.1) = false) : PI X (.Tuple elts kk tpos) (.Call (.Name "zip" p) [e, e2] [] pos) (iZip2 X.K ta) := by
  refine ⟨fun pins s σ H R I h => ?_⟩
  refine Call_ (ld_blt I hg hm PyProof.Rows.boot_zip (PyProof.Rows.callWith_type1 (thn (ha.run pos pins s σ H _ I h) fun us s1 ⟨vs, H1, I1, r1, k1, k2, a, b, xs, ys, ev, hx, hy, q⟩ => ?_) hs hpl))
  subst ev
  cases r1 with
  | cons r r' =>
    cases r' with
    | cons r' r'' =>
      cases r''
      cases r
      cases r'
      obtain ⟨its, rv, q1, l1⟩ := isK_of I1 hx
      obtain ⟨jts, rw', q2, l2⟩ := isK_of I1 hy
      refine zip_begins2 (begK k1 a its.toArray) (begK k2 b jts.toArray) q1 q2 fun h' z1 z2 z3 z4 z5 _ kp => wpAny_pyIter_zip z1 ?_
      refine ⟨_, _, _, _, H1, rfl, I1.kept (t' := s1.toks) kp, turn2 l1 l2, ⟨Nat.zero_le _, z1, z2, ⟨_, _, z3⟩, itr0 z4, itr0 z5⟩, fp_new I1 fun c hc => ?_, q⟩
      have e : c = s1.heap.objs.size + 4 ∨ c = s1.heap.objs.size + 2 ∨ c = s1.heap.objs.size + 3 ∨ c = s1.heap.objs.size ∨ c = s1.heap.objs.size + 1 := by simpa using hc
      show s1.heap.objs.size ≤ c
      rcases e with z | z | z | z | z <;> rw [z] <;> first | exact Nat.le_add_right _ _ | exact Nat.le_refl _
def seqD : D → Option (List D)
  | .lst l => some l
  | .tup l => some l
  | _ => none
theorem rp_seq {K : PySem.W.Frag} {W : Fz} {v : V} {d : D} {l : List D} (h : Rp K W v d) (e : seqD d = some l) : ∃ k a xs, v = .ref a ∧ SqK k K W a xs ∧ xs.length ≤ sizeLine ∧ RpA K W xs l := by
  cases d <;> cases e
  · obtain ⟨a, xs, rfl, h1, h2, h3⟩ := rp_tup h; exact ⟨false, a, xs, rfl, h1, h2, h3⟩
  · obtain ⟨a, xs, rfl, h1, h2, h3⟩ := rp_lst h; exact ⟨true, a, xs, rfl, h1, h2, h3⟩
def zip2L : List D → List D → List D
  | a :: l, b :: m => .tup [a, b] :: zip2L l m
  | _, _ => []
theorem zip2L_length : ∀ l m : List D, (zip2L l m).length = min l.length m.length
  | [], m => by simp [zip2L]
  | _ :: _, [] => by simp [zip2L]
  | a :: l, b :: m => by simp [zip2L, zip2L_length l m]
theorem zip2L_get : ∀ {l m : List D} {i : Nat} {d : D}, (zip2L l m)[i]? = some d → ∃ x y, l[i]? = some x ∧ m[i]? = some y ∧ d = .tup [x, y]
  | [], m, i, d, h => by simp [zip2L] at h
  | _ :: _, [], i, d, h => by simp [zip2L] at h
  | a :: l, b :: m, 0, d, h => by simp [zip2L] at h; exact ⟨a, b, rfl, rfl, h.symm⟩
  | a :: l, b :: m, i + 1, d, h => by
    obtain ⟨x, y, h1, h2, h3⟩ := zip2L_get (l := l) (m := m) (i := i) (by simpa [zip2L] using h)
    exact ⟨x, y, by simpa using h1, by simpa using h2, h3⟩
def zipM (ds : List D) : Option (List D) := match ds with
  | [x, y] => match seqD x, seqD y with
    | some l, some m => some (zip2L l m)
    | _, _ => none
  | _ => none
def aIt (h : List D → Option (List D)) (fs : EA) : EA := fun ρ => mb (fs ρ) fun ds => ml (h ds)
section
variable {X : Cx} {e e2 : Expr} {fs : EA} {p pos tpos : Pos} {elts : List Expr} {kk : Nat}
theorem pdi_zip (hm : X.mg "zip" = none) (ha : PDA X [e, e2] fs) (hg : Gl X "zip" := by rfl) (hs : starEach [e, e2] X.env = (false, eval e X.env) :: starEach [e2] X.env := by rfl) (hpl : (backTo pos (starEach [e2] X.env)).any (·.1) = false := by rfl) :
    PDI X (.Tuple elts kk tpos) (.Call (.Name "zip" p) [e, e2] [] pos) (aIt zipM fs) := by
  obtain ⟨t, ht, k⟩ := ha
  refine ⟨_, pi_zip2 hg hm ht hs hpl, fun σ H F ρ g pre ds g' ev R q => ?_⟩
  obtain ⟨as, g1, e1, ev⟩ := mb_inv ev
  obtain ⟨e2, rfl⟩ := ml_inv ev
  unfold zipM at e2
  split at e2
  · rename_i x y
    split at e2
    · rename_i l m h1 h2
      cases e2
      refine k σ H F ρ g pre _ _ e1 _ fun vs H1 F1 s1 r1 => ?_
      cases r1 with
      | cons r r' =>
        cases r' with
        | cons r' r'' =>
          cases r''
          obtain ⟨k1, a, xs, rfl, t1, l1, u1⟩ := rp_seq r h1
          obtain ⟨k2, b, ys, rfl, t2, l2, u2⟩ := rp_seq r' h2
          refine ⟨k1, k2, a, b, xs, ys, rfl, sqK_mono s1.sub t1, sqK_mono s1.sub t2, q _ H1 F1 s1 fun H2 s2 => ⟨fun i d hd => ?_, fun i hi => ⟨sqK_mono s2 t1, sqK_mono s2 t2, ?_⟩⟩⟩
          · obtain ⟨x, y, h3, h4, rfl⟩ := zip2L_get hd
            obtain ⟨vx, h5, h6⟩ := u1.get h3
            obtain ⟨vy, h7, h8⟩ := u2.get h4
            refine ⟨⟨sqK_mono s2 t1, sqK_mono s2 t2, ?_⟩, fun v H' ⟨p, x', y', z1, z2, z3, z4, z5⟩ => ?_⟩
            · have := (List.getElem?_eq_some_iff.mp h5).1
              have := (List.getElem?_eq_some_iff.mp h7).1
              omega
            · rw [h5] at z4
              rw [h7] at z5
              cases z4
              cases z5
              exact .inr ⟨p, [vx, vy], [x, y], z2, z1, z3, rfl, by show 2 ≤ sizeLine; decide, .cons h6 (.cons h8 .nil)⟩
          · rw [zip2L_length] at hi
            rw [u1.length, u2.length]; exact hi
    · cases e2
  · cases e2
end
/-! ### enumerate -/
set_option maxHeartbeats 1000000 in
theorem meets_enum1 {v : Value} {o : Obj} {H : Heap → Prop} (B : Begins v o H) : Meets (Builtin.«enumerate.__new__» ⟨[.type "enumerate", v], []⟩) (fun _ R s => H s.heap ∧
    R (.ok (.ret (.ref (s.heap.push o).objs.size))) { s with heap := (s.heap.push o).push { cls := .type "enumerate", data := .fields #[.none, .bool false, .ref s.heap.objs.size, rawInt 0, .none, .none] } }) :=
  .of_wp fun prog w A R s ⟨h1, h⟩ => by
    obtain ⟨hp, g, d, tk, os⟩ := s
    have hsub := sub_enumerate
    have q1 : ∀ {A' : Around} {E : Value → Shared → Prop} {Q : Value → Shared → Prop}, Q (.ref hp.objs.size) ⟨hp.push o, g, d, tk, os⟩ → wpAny (model prog w) A' (pyIter v) Q E ⟨hp, g, d, tk, os⟩ := fun q => B.iter prog w _ _ ⟨hp, g, d, tk, os⟩ _ h1 q
    wp_walk using q1
    refine wpAny_stack_any fun st => wpAny_pure ?_
    split
    · rename_i c _ _ _ _ _
      cases (c == Value.type "enumerate") <;> (wp_walk using q1; exact ⟨_, rfl, h⟩)
    · wp_walk using q1
      exact ⟨_, rfl, h⟩
theorem enum_beg {prog : Program} {w : World} {A : Around} {E : Value → Shared → Prop} {s : Shared} {v : Value} {o : Obj} {H : Heap → Prop} {Q : Value → Shared → Prop} (B : Begins v o H) (h1 : H s.heap)
    (h : ∀ h', IsEnum h' (s.heap.objs.size + 1) s.heap.objs.size 0 .none → h'.get? s.heap.objs.size = some o → (∀ b o, s.heap.get? b = some o → h'.get? b = some o) → Q (.ref (s.heap.objs.size + 1)) { s with heap := h' }) :
    wpAny (model prog w) A (call (.type "enumerate") [v]) Q E s := by
  refine callType_new F.called_enumerate (by decide) (F.typeCall_enumerate_1 _) (F.newCall_enumerate_1 _) (fun obj => F.args_object_init_2 obj _) F.entry_enumerate_new (meets_enum1 B) ⟨h1, ?_⟩
  have hz : (s.heap.push o).objs.size = s.heap.objs.size + 1 := Heap.size_push ..
  show _ ∧ _
  rw [hz]
  have he : IsEnum ((s.heap.push o).push { cls := .type "enumerate", data := .fields #[.none, .bool false, .ref s.heap.objs.size, rawInt 0, .none, .none] }) (s.heap.objs.size + 1) s.heap.objs.size 0 .none := by
    have q := Heap.get?_push_size (s.heap.push o) (o := { cls := .type "enumerate", data := .fields #[.none, .bool false, .ref s.heap.objs.size, rawInt 0, .none, .none] }) rfl
    rw [hz] at q
    exact q
  exact ⟨⟨_, he, rfl⟩, h _ he (Heap.get?_push_of_some _ (Heap.get?_push_size _ B.free)) fun b ob x => Heap.get?_push_of_some _ (Heap.get?_push_of_some _ x)⟩
def ItE (K : PySem.W.Frag) (k : Bool) (a : Addr) (xs : List V) : It :=
  ⟨fun i H => SqK k K H a xs ∧ i < xs.length, fun i H v H' => ∃ p x, v = .ref p ∧ H p = none ∧ H' = upd H p (.tup [.int (i : Nat), x]) ∧ xs[i]? = some x, fun i H => SqK k K H a xs ∧ xs.length ≤ i⟩
theorem turnE {P : Program} {w : World} {K : PySem.W.Frag} {elts : List Expr} {kk : Nat} {tpos : Pos} {k : Bool} {a : Addr} {xs : List V} {N : Nat} (ha : a < N) :
    Turn P w K (.Tuple elts kk tpos) (ItE K k a xs) [N + 1, N] (N + 1) (fun i h => i ≤ xs.length ∧ (∃ old, IsEnum h (N + 1) N ((i : Nat) : Int) old) ∧ ItrK k h N a i) := by
  have ne : a ≠ N := Nat.ne_of_lt ha
  have ne1 : N + 1 ≠ N := Nat.succ_ne_self N
  have ne2 : N + 1 ∉ [N, a] := fun h => by
    rcases List.mem_cons.mp h with e | h
    · exact Nat.succ_ne_self N e
    · have e : N + 1 = a := List.mem_singleton.mp h
      exact absurd (Nat.lt_trans ha (Nat.lt_succ_self N)) (by rw [← e]; exact Nat.lt_irrefl _)
  have e0 : ∀ i : Nat, (0 : Int) + (i : Int) = (i : Int) := fun i => Int.zero_add _
  refine ⟨by simp, fun i h st c hc => ?_, fun i h h' st k => ?_, ?_, ?_, fun A i s Q E st h => let ⟨_, ⟨_, he⟩, _⟩ := st; wpAny_pyIter_enum he h⟩
  · obtain ⟨_, ⟨old, h1⟩, h4⟩ := st
    have e : c = N + 1 ∨ c = N := by simpa using hc
    rcases e with rfl | rfl
    · exact ⟨_, h1, fun v q => nomatch q⟩
    · exact h4.obj
  · obtain ⟨h0, ⟨old, h1⟩, h4⟩ := st
    exact ⟨h0, ⟨old, k _ (by simp) _ h1⟩, h4.keep fun o => k _ (by simp) o⟩
  · intro X hP hw hK hc i pins s σ H E I hf st hg
    subst hP hw hK
    obtain ⟨s1, hi⟩ := hg
    obtain ⟨_, ⟨old, h1⟩, h4⟩ := st
    obtain ⟨its, r1, q1, _⟩ := isK_of I s1
    have l1 := r1.length
    have G := GoesN.enumFrom (prog := X.prog) (w := X.w) (A := X.A) (elts := elts) (x1 := kk) (pos := tpos) 0 (drawsK (A := X.A.in1) (I.ok.hd hc) k N a ne its.toArray) (N + 1) ne1 ne2 (by simp)
    refine wpAny_mono (G.goes i s (fun v s2 => ∃ x H', Inv X pins σ H' s2 ∧ RelV x v ∧ (ItE X.K k a xs).yld i H x H' ∧ (i + 1 ≤ xs.length ∧ (∃ old, IsEnum s2.heap (N + 1) N ((i + 1 : Nat) : Int) old) ∧ ItrK k s2.heap N a (i + 1)) ∧
      ∀ b ∈ [N + 1, N], H' b = none) E (by simp only [List.size_toArray]; omega) ⟨⟨old, by rw [e0]; exact h1⟩, h4, q1⟩ fun v h' tk Y st' kp _ => ?_) (fun r s1 ⟨v, e, q⟩ => ⟨v, e, q⟩) fun _ _ z => z
    obtain ⟨T, t, u1, rfl, hT, y1, hTT⟩ := Y
    obtain ⟨⟨old', z1⟩, z4, _⟩ := st'
    obtain ⟨w1, e1, f1⟩ := r1.get (List.getElem?_eq_getElem hi)
    have e3 : u1 = w1 := Option.some.inj (y1.symm.trans (by simpa using e1))
    subst e3
    rw [e0] at hTT
    refine ⟨.ref T, _, new_inv (us := [.int i t, u1]) (xs := [.int (i : Nat), xs[i]]) I hf (fun c o hc e => kp c o (fun z => hc (by simpa using z)) e) hT (.cons ⟨t, rfl⟩ (.cons f1 .nil)) (by show 2 ≤ sizeLine; decide) hTT, rfl, ⟨T, _, rfl, I.hok.fresh hT, rfl, List.getElem?_eq_getElem hi⟩,
      ⟨by omega, ⟨old', by rw [e0] at z1; exact z1⟩, z4⟩, fun c hcm => ?_⟩
    have q := (hf c hcm).1
    rw [upd_ne fun z => ?_]
    · exact q
    · subst z
      have e : c = N + 1 ∨ c = N := by simpa using hcm
      have lt : c < s.heap.objs.size := by
        rcases e with rfl | rfl
        · exact Heap.lt_size h1
        · obtain ⟨o, ho, _⟩ := h4.obj; exact Heap.lt_size ho
      exact absurd (Nat.lt_of_lt_of_le lt hT) (Nat.lt_irrefl _)
  · intro X hP hw hK hc i pins s σ H E I hf st hg
    subst hP hw hK
    obtain ⟨s1, hi⟩ := hg
    obtain ⟨h0, ⟨old, h1⟩, h4⟩ := st
    have ei : i = xs.length := by omega
    obtain ⟨its, r1, q1, _⟩ := isK_of I s1
    have l1 := r1.length
    have G := GoesN.enumFrom (prog := X.prog) (w := X.w) (A := X.A) (elts := elts) (x1 := kk) (pos := tpos) 0 (drawsK (A := X.A.in1) (I.ok.hd hc) k N a ne its.toArray) (N + 1) ne1 ne2 (by simp)
    have e1 : its.toArray.size = i := by simp only [List.size_toArray]; omega
    rw [e1] at G
    exact G.stops s (fun s' => Inv X pins σ H s') E ⟨⟨old, by rw [e0]; exact h1⟩, h4, q1⟩ fun h' tk kp _ => I.turnedL (t' := tk) (ch := [N + 1, N]) (fun c o hc e => kp c o (fun z => hc (by simpa using z)) e) hf
def iEnumK (K : PySem.W.Frag) (ta : TA) : TI := fun σ H R => ta σ H fun vs H1 => ∃ k a xs, vs = [.ref a] ∧ SqK k K H1 a xs ∧ R (ItE K k a xs) H1
theorem pi_enumK {X : Cx} {e : Expr} {ta : TA} {p pos tpos : Pos} {elts : List Expr} {kk : Nat} (hg : Gl X "enumerate") (hm : X.mg "enumerate" = none) (ha : PA X [e] ta) (hs : starEach [e] X.env = [(false, eval e X.env)]) :
    PI X (.Tuple elts kk tpos) (.Call (.Name "enumerate" p) [e] [] pos) (iEnumK X.K ta) := by
  refine ⟨fun pins s σ H R I h => ?_⟩
  refine Call_ (ld_blt I hg hm boot_enumerate (PyProof.Rows.callWith_type1 (thn (ha.run pos pins s σ H _ I h) fun us s1 ⟨vs, H1, I1, r1, k, a, xs, ev, hx, q⟩ => ?_) hs rfl))
  subst ev
  cases r1 with
  | cons r r' =>
    cases r'
    cases r
    obtain ⟨its, rv, q1, l1⟩ := isK_of I1 hx
    refine enum_beg (begK k a its.toArray) q1 fun h' z1 z2 kp => wpAny_pyIter_enum z1 ?_
    refine ⟨_, _, _, _, H1, rfl, I1.kept (t' := s1.toks) kp, turnE l1, ⟨Nat.zero_le _, ⟨_, z1⟩, itr0 z2⟩, fp_new I1 fun c hc => ?_, q⟩
    have e : c = s1.heap.objs.size + 1 ∨ c = s1.heap.objs.size := by simpa using hc
    show s1.heap.objs.size ≤ c
    rcases e with z | z <;> rw [z] <;> first | exact Nat.le_add_right _ _ | exact Nat.le_refl _
def enumL : Nat → List D → List D
  | _, [] => []
  | i, d :: l => .tup [.int (i : Int), d] :: enumL (i + 1) l
theorem enumL_length : ∀ (i : Nat) (l : List D), (enumL i l).length = l.length
  | _, [] => rfl
  | i, d :: l => by simp [enumL, enumL_length (i + 1) l]
theorem enumL_get : ∀ {l : List D} {j i : Nat} {d : D}, (enumL j l)[i]? = some d → ∃ x, l[i]? = some x ∧ d = .tup [.int ((j + i : Nat) : Int), x]
  | [], j, i, d, h => by simp [enumL] at h
  | a :: l, j, 0, d, h => by simp [enumL] at h; exact ⟨a, rfl, by simpa using h.symm⟩
  | a :: l, j, i + 1, d, h => by
    obtain ⟨x, h1, h3⟩ := enumL_get (l := l) (j := j + 1) (i := i) (by simpa [enumL] using h)
    exact ⟨x, by simpa using h1, by rw [h3]; congr 4; omega⟩
def enumM (ds : List D) : Option (List D) := match ds with
  | [x] => (seqD x).map (enumL 0)
  | _ => none
section
variable {X : Cx} {e e2 : Expr} {fs : EA} {p pos tpos : Pos} {elts : List Expr} {kk : Nat}
theorem pdi_enum (hm : X.mg "enumerate" = none) (ha : PDA X [e] fs) (hg : Gl X "enumerate" := by rfl) (hs : starEach [e] X.env = [(false, eval e X.env)] := by rfl) :
    PDI X (.Tuple elts kk tpos) (.Call (.Name "enumerate" p) [e] [] pos) (aIt enumM fs) := by
  obtain ⟨t, ht, k⟩ := ha
  refine ⟨_, pi_enumK hg hm ht hs, fun σ H F ρ g pre ds g' ev R q => ?_⟩
  obtain ⟨as, g1, e1, ev⟩ := mb_inv ev
  obtain ⟨e2, rfl⟩ := ml_inv ev
  unfold enumM at e2
  split at e2
  · rename_i x
    obtain ⟨l, h1, rfl⟩ := Option.map_eq_some_iff.mp e2
    refine k σ H F ρ g pre _ _ e1 _ fun vs H1 F1 s1 r1 => ?_
    cases r1 with
    | cons r r' =>
      cases r'
      obtain ⟨k1, a, xs, rfl, t1, l1, u1⟩ := rp_seq r h1
      refine ⟨k1, a, xs, rfl, sqK_mono s1.sub t1, q _ H1 F1 s1 fun H2 s2 => ⟨fun i d hd => ?_, fun i hi => ⟨sqK_mono s2 t1, ?_⟩⟩⟩
      · obtain ⟨x, h3, rfl⟩ := enumL_get hd
        obtain ⟨vx, h5, h6⟩ := u1.get h3
        refine ⟨⟨sqK_mono s2 t1, (List.getElem?_eq_some_iff.mp h5).1⟩, fun v H' ⟨p, x', z1, z2, z3, z4⟩ => ?_⟩
        rw [h5] at z4
        cases z4
        rw [Nat.zero_add]
        exact .inr ⟨p, [.int (i : Nat), vx], [.int (i : Nat), x], z2, z1, z3, rfl, by show 2 ≤ sizeLine; decide, .cons (.int _) (.cons h6 .nil)⟩
      · rw [enumL_length] at hi
        rw [u1.length]; exact hi
  · cases e2
end
end PD
end
section
set_option Elab.async false
set_option linter.all false
set_option maxRecDepth 100000
set_option maxHeartbeats 4000000
set_option autoImplicit false
namespace PD
open PySem PySem.Spec L2
open PyProof.Rows hiding St

/-! ### loops -/
theorem Stp.base {K : PySem.W.Frag} {g0 g : G} {F0 F : Fz} {H0 H : Hp} (s : Stp K g0 g F0 F H0 H) : Stp K g0 g F F H0 H :=
  ⟨fun a o hm h => s.same a o (fun z => hm (s.ext.m.subset z)) h, s.mono, Ext.refl _, fun _ o h => .inl ⟨o, h⟩, fun _ h => .inl h, s.sub, s.rep⟩
theorem Stp.back {K : PySem.W.Frag} {g0 g g' : G} {F0 F F' : Fz} {H0 H H' : Hp} (s : Stp K g0 g F0 F H0 H) (t : Stp K g0 g' F F' H0 H') : Stp K g0 g' F0 F' H0 H' :=
  ⟨fun a o hm h => t.same a o (s.keepM hm h) h, t.mono, s.ext.trans t.ext, fun a o h => by
    rcases t.new a o h with ⟨u, h1⟩ | h1
    · exact s.new a u h1
    · exact .inr h1, fun a h => by
    rcases t.newM a h with h1 | h1
    · exact s.newM a h1
    · exact .inr h1, t.sub, t.rep⟩
theorem PreS.base {K : PySem.W.Frag} {en : Ent} {F : Fz} {H : Hp} {g : G} {ρ : Rho} {σ : St} (p : PreS K en F H g ρ σ) : PreS K ⟨en.g, F, en.H⟩ F H g ρ σ := ⟨p.e, p.st.base, p.fr⟩
theorem PreS.back {K : PySem.W.Frag} {en : Ent} {F F' : Fz} {H H' : Hp} {g g' : G} {ρ' : Rho} {σ' : St} (s : Stp K en.g g en.F F en.H H) (t : PreS K ⟨en.g, F, en.H⟩ F' H' g' ρ' σ') : PreS K en F' H' g' ρ' σ' := ⟨t.e, s.back t.st, t.fr⟩
def forL (bd : B) (b : S) : List D → Rho → M Fl
  | [], ρ => mr (.nx ρ)
  | d :: ds, ρ => match bd d ρ with
    | none => mz
    | some ρ1 => mb (b ρ1) fun fl => match fl with
      | .nx ρ2 => forL bd b ds ρ2
      | .ct ρ2 => forL bd b ds ρ2
      | .bk ρ2 => mr (.nx ρ2)
      | .rt x => mr (.rt x)
      | .xc nm f d ρ2 => mr (.xc nm f d ρ2)
def sFor (it : EA) (bd : B) (b : S) : S := fun ρ => mb (it ρ) fun ds => forL bd b ds ρ
section
variable {X : Cx} {tg iter c : Expr} {body : List Stmt} {it : EA} {sl : List Nat} {bd : B} {b : S} {tc : T} {pos : Pos}
theorem pds_for (hc : X.calm = true) (hi : PDI X tg iter it) (hg : PDG X tg sl bd) (hb : PDSS X body b) (hp : PassesOwn (model X.prog X.w) X.A X.env X.xe := by exact PassesOwn.never)
    (hs : ∀ x, foldedSetIterable iter X.env x = pure x := by intro _; rfl) : PDS X (.For tg iter body [] pos) (sFor it bd b) := by
  obtain ⟨wi, pi, kI⟩ := hi
  obtain ⟨tg', pg, kg⟩ := hg
  obtain ⟨tb, pb, kb⟩ := hb
  refine ⟨_, ps_for hp hc pi pg pb hs, fun en σ H F ρ g pre fl g' ev De post => ?_⟩
  obtain ⟨src, g1, e1, ev⟩ := mb_inv ev
  refine kI σ H F ρ g pre.e src g1 e1 _ fun J H1 F1 s1 it1 => ?_
  refine ⟨fun i m σ3 H3 => m = src.length - i ∧ i ≤ src.length ∧ ∃ F3 ρ3 g3, PreS X.K en F3 H3 g3 ρ3 σ3 ∧ Ext F1 F3 ∧ forL bd b (src.drop i) ρ3 g3 = some (fl, g'), ⟨_, rfl, Nat.zero_le _, F1, ρ, g1, pre.step s1, Ext.refl _, ev⟩, ?_⟩
  rintro i m σ3 H3 ⟨rfl, hi, F3, ρ3, g3, p3, sF, ev3⟩
  obtain ⟨goes, stops⟩ := (it1.mono sF) H3 (sF.h.trans p3.e.sub)
  by_cases hlt : i < src.length
  · obtain ⟨go, yl⟩ := goes i _ (List.getElem?_eq_getElem hlt)
    rw [List.drop_eq_getElem_cons hlt] at ev3
    unfold forL at ev3
    refine .inr ⟨go, fun σ5 H5 => ∃ F5 ρ5 g5, PreS X.K en F5 H5 g5 ρ5 σ5 ∧ Ext F1 F5 ∧ forL bd b (src.drop (i + 1)) ρ5 g5 = some (fl, g'), fun σ5 H5 h => ⟨_, by omega, rfl, by omega, h⟩, fun x H4 y => ?_⟩
    obtain ⟨F4, s4, r4⟩ := (yl x H4 y).step p3.e.sub p3.e.rep
    have p4 := p3.step s4
    cases hb : bd src[i] ρ3 with
    | none => rw [hb] at ev3; cases ev3
    | some ρ4 =>
      rw [hb] at ev3
      obtain ⟨fl1, g5, e5, ev3⟩ := mb_inv ev3
      refine kg σ3 H4 F4 ρ3 g3 x _ ρ4 p4.e r4 hb _ fun σ4 pre4 o _ => ?_
      refine kb ⟨en.g, F4, en.H⟩ σ4 H4 F4 ρ4 g3 ⟨pre4, p4.st.base, fun i q z => p4.fr i q (o i q z)⟩ fl1 g5 e5 _ ?_
      cases fl1 with
      | nx ρ5 => exact fun σ5 H5 F5 p5 => ⟨F5, ρ5, g5, p5.back p4.st, (sF.trans s4.ext).trans p5.st.ext, ev3⟩
      | ct ρ5 => exact fun σ5 H5 F5 p5 => ⟨F5, ρ5, g5, p5.back p4.st, (sF.trans s4.ext).trans p5.st.ext, ev3⟩
      | bk ρ5 =>
        obtain ⟨rfl, rfl⟩ := mr_inv ev3
        exact fun σ5 H5 F5 p5 => post σ5 H5 F5 (p5.back p4.st)
      | rt x =>
        obtain ⟨rfl, rfl⟩ := mr_inv ev3
        exact fun v H5 F5 s5 r5 => post v H5 F5 (p4.st.back s5) r5
      | xc nm f d ρ5 =>
        obtain ⟨rfl, rfl⟩ := mr_inv ev3
        exact fun σ5 H5 F5 dd v p5 a b => post σ5 H5 F5 dd v (p5.back p4.st) a b
  · have e4 : i = src.length := by omega
    subst e4
    rw [List.drop_length] at ev3
    obtain ⟨rfl, rfl⟩ := mr_inv ev3
    exact .inl ⟨stops _ (Nat.le_refl _), post σ3 H3 F3 p3⟩
def whileL (c : T) (b : S) : Nat → Rho → M Fl
  | 0, _ => mz
  | n + 1, ρ => mb (c ρ) fun k => if k = true then mb (b ρ) fun fl => match fl with
      | .nx ρ2 => whileL c b n ρ2
      | .ct ρ2 => whileL c b n ρ2
      | .bk ρ2 => mr (.nx ρ2)
      | .rt x => mr (.rt x)
      | .xc nm f d ρ2 => mr (.xc nm f d ρ2)
    else mr (.nx ρ)
def sWhile (n : Nat) (c : T) (b : S) : S := fun ρ => whileL c b n ρ
theorem pds_while (n : Nat) (hc : PDT X c tc) (hb : PDSS X body b) (hp : PassesOwn (model X.prog X.w) X.A X.env X.xe := by exact PassesOwn.never) : PDS X (.While c body [] pos) (sWhile n tc b) := by
  obtain ⟨t1, p1, k1⟩ := hc
  obtain ⟨tb, pb, kb⟩ := hb
  refine ⟨_, ps_while hp p1 pb, fun en σ H F ρ g pre fl g' ev De post => ?_⟩
  refine ⟨fun m σ3 H3 => ∃ F3 ρ3 g3, PreS X.K en F3 H3 g3 ρ3 σ3 ∧ whileL tc b m ρ3 g3 = some (fl, g'), ⟨n, F, ρ, g, pre, ev⟩, ?_⟩
  rintro m σ3 H3 ⟨F3, ρ3, g3, p3, ev3⟩
  cases m with
  | zero => cases ev3
  | succ m =>
    unfold whileL at ev3
    obtain ⟨k, g4, e4, ev3⟩ := mb_inv ev3
    refine k1 σ3 H3 F3 ρ3 g3 p3.e k g4 e4 _ fun H4 F4 s4 => ?_
    have p4 := p3.step s4
    cases k with
    | false =>
      rw [if_neg Bool.false_ne_true] at ev3
      obtain ⟨rfl, rfl⟩ := mr_inv ev3
      exact iteF (post σ3 H4 F4 p4)
    | true =>
      rw [if_pos rfl] at ev3
      obtain ⟨fl1, g5, e5, ev3⟩ := mb_inv ev3
      refine iteT ⟨fun σ5 H5 => ∃ F5 ρ5 g5, PreS X.K en F5 H5 g5 ρ5 σ5 ∧ whileL tc b m ρ5 g5 = some (fl, g'), fun σ5 H5 h => ⟨m, Nat.lt_succ_self m, h⟩, ?_⟩
      refine kb en σ3 H4 F4 ρ3 g4 p4 fl1 g5 e5 _ ?_
      cases fl1 with
      | nx ρ5 => exact fun σ5 H5 F5 p5 => ⟨F5, ρ5, g5, p5, ev3⟩
      | ct ρ5 => exact fun σ5 H5 F5 p5 => ⟨F5, ρ5, g5, p5, ev3⟩
      | bk ρ5 =>
        obtain ⟨rfl, rfl⟩ := mr_inv ev3
        exact fun σ5 H5 F5 p5 => post σ5 H5 F5 p5
      | rt x =>
        obtain ⟨rfl, rfl⟩ := mr_inv ev3
        exact fun v H5 F5 s5 r5 => post v H5 F5 s5 r5
      | xc nm f d ρ5 =>
        obtain ⟨rfl, rfl⟩ := mr_inv ev3
        exact fun σ5 H5 F5 dd v p5 a b => post σ5 H5 F5 dd v p5 a b
end
/-! ### what is walked -/
def strItems (x : Str) : List D := x.cps.toList.map fun c => .str ⟨#[c]⟩
def itemsD : D → Option (List D)
  | .lst l => some l
  | .tup l => some l
  | .str x => some (strItems x)
  | _ => none
def aItem (f : E) : EA := fun ρ => mb (f ρ) fun d => ml (itemsD d)
section
variable {X : Cx} {tg e e2 : Expr} {f : E} {fs : EA} {p pos : Pos}
theorem pi_or {wi wi' : TI} (h : PI X tg e wi) (h' : PI X tg e wi') : PI X tg e (fun σ H R => wi σ H R ∨ wi' σ H R) := ⟨fun pins s σ H R I q => q.elim (h.run pins s σ H R I) (h'.run pins s σ H R I)⟩
theorem sg_one {x : Str} {c : Nat} (h : sOk x = true) (hc : c ∈ x.cps.toList) : sOk ⟨#[c]⟩ = true := sOk_mk (strOk_iff.mpr fun d hd => by
  have : d = c := by simpa using hd
  subst this
  exact strOk_iff.mp (sOk_ok h) d hc) (by show 1 ≤ sizeLine; decide)
theorem its_lst {K : PySem.W.Frag} {W F : Fz} {a : Addr} {xs : List V} {ds : List D} (inj : ∀ H ys, Same W.h H → SqL K H a ys → ys = xs) (h : SqL K W a xs) (r : RpA K F xs ds) : ItS K (Itl K a) W F ds := fun H s => by
  refine ⟨fun i d e => ?_, fun i hi => ⟨xs, sqL_mono s h, by rw [r.length]; exact hi⟩⟩
  obtain ⟨v, h1, h2⟩ := r.get e
  refine ⟨⟨xs, v, sqL_mono s h, h1⟩, fun x H' ⟨y1, y2⟩ => .inl ⟨y1, ?_⟩⟩
  have := y2 xs (sqL_mono s h)
  rw [h1] at this
  cases this
  exact h2
theorem its_tup {K : PySem.W.Frag} {W F : Fz} {a : Addr} {xs : List V} {ds : List D} (h : SqT K W a xs) (r : RpA K F xs ds) : ItS K (Itt K a) W F ds := fun H s => by
  refine ⟨fun i d e => ?_, fun i hi => ⟨xs, sqT_mono s h, by rw [r.length]; exact hi⟩⟩
  obtain ⟨v, h1, h2⟩ := r.get e
  refine ⟨⟨xs, v, sqT_mono s h, h1⟩, fun x H' ⟨y1, y2⟩ => .inl ⟨y1, ?_⟩⟩
  have := y2 xs (sqT_mono s h)
  rw [h1] at this
  cases this
  exact h2
theorem its_str {K : PySem.W.Frag} {W F : Fz} {x : Str} (h : sOk x = true) : ItS K (Its x) W F (strItems x) := fun H s => by
  refine ⟨fun i d e => ?_, fun i hi => ?_⟩
  · unfold strItems at e
    rw [List.getElem?_map] at e
    obtain ⟨c, h1, rfl⟩ := Option.map_eq_some_iff.mp e
    have h2 : x.cps[i]? = some c := by simpa using h1
    refine ⟨(Array.getElem?_eq_some_iff.mp h2).1, fun v H' ⟨y1, c', y2, y3⟩ => .inl ⟨y1, ?_⟩⟩
    rw [h2] at y2
    cases y2
    subst y3
    exact .str _ (sg_one h (List.mem_of_getElem? h1))
  · unfold strItems at hi
    rw [List.length_map] at hi
    show x.cps.size ≤ i
    simpa using hi
theorem pdi_val (h : PD X e f) : PDI X tg e (aItem f) := by
  obtain ⟨t, ht, k⟩ := h
  refine ⟨_, pi_or (pi_list ht) (pi_or (pi_tup ht) (pi_str ht)), fun σ H F ρ g pre ds g' ev R q => ?_⟩
  obtain ⟨d, g1, e1, ev⟩ := mb_inv ev
  obtain ⟨e2, rfl⟩ := ml_inv ev
  cases d <;> try (cases e2; done)
  · have e2 := Option.some.inj e2
    subst e2
    refine .inr (.inr (k σ H F ρ g pre _ _ e1 _ fun v H1 F1 s1 r1 => ?_))
    obtain ⟨rfl, h⟩ := rp_str r1
    exact ⟨_, rfl, q _ H1 F1 s1 (its_str h)⟩
  · have e2 := Option.some.inj e2
    subst e2
    refine .inr (.inl (k σ H F ρ g pre _ _ e1 _ fun v H1 F1 s1 r1 => ?_))
    obtain ⟨a, xs, rfl, h1, h2, h3⟩ := rp_tup r1
    exact ⟨a, rfl, ⟨xs, sqT_mono s1.sub h1⟩, q _ H1 F1 s1 (its_tup h1 h3)⟩
  · have e2 := Option.some.inj e2
    subst e2
    refine .inl (k σ H F ρ g pre _ _ e1 _ fun v H1 F1 s1 r1 => ?_)
    obtain ⟨a, xs, rfl, h1, h2, h3⟩ := rp_lst r1
    refine ⟨a, rfl, ⟨xs, sqL_mono s1.sub h1⟩, q _ H1 F1 s1 fun H2 s2 => ?_⟩
    refine ⟨fun i d e => ?_, fun i hi => ⟨xs, sqL_mono s2 h1, by rw [h3.length]; exact hi⟩⟩
    obtain ⟨v, h4, h5⟩ := h3.get e
    refine ⟨⟨xs, v, sqL_mono s2 h1, h4⟩, fun x H' ⟨y1, y2⟩ => .inl ⟨y1, ?_⟩⟩
    have y3 := y2 xs (sqL_mono s2 h1)
    rw [h4] at y3
    cases y3
    exact h5
/-- a list of one's own, in a comprehension -/
def aOwn (i : Nat) : EA := fun ρ => ml (match ρ[i]? with
  | some (some (.ol l)) => some l
  | some (some (.d d)) => itemsD d
  | _ => none)
theorem pbi_own (i : Nat) {x : Str} (hN : X.N[i]? = some x := by rfl) (hv : Vis X.env.scope x := by first | exact Or.inl rfl | exact Or.inr (Or.inl rfl) | exact Or.inr (Or.inr rfl))
    (hd : (x == ("__debug__" : Str)) = false := by decide) (hcd : (x == ("__classdict__" : Str)) = false := by decide) : PBI X tg (.Name x pos) (aOwn i) := by
  obtain ⟨wi, pw, kw⟩ := (pdi_val (tg := tg) (pd_var (X := X) (pos := pos) i hN hv hd hcd)).weak
  refine ⟨_, pi_or (pi_list (pe_var hN hv hd hcd)) pw, fun σ H F ρ g pre ds g' ev R q => ?_⟩
  obtain ⟨e1, rfl⟩ := ml_inv ev
  cases h : ρ[i]? with
  | none => rw [h] at e1; cases e1
  | some o =>
    rw [h] at e1
    match o, e1, h with
    | some (.ol l), e1, h =>
      have e1 := Option.some.inj e1
      subst e1
      obtain ⟨v, h1, p, vs, rfl, h2, h3, h4, h5, h6⟩ := pre.sl.at_ i _ h
      refine .inl ⟨_, h1, p, rfl, ⟨vs, .of h4⟩, q _ H F pre.refl fun H2 s2 => ?_⟩
      have h7 : H2 p = some (.lst vs) := s2 p _ (off_some.mpr ⟨h3, h4⟩)
      refine ⟨fun j d e => ?_, fun j hj => ⟨vs, .of h7, by rw [h6.length]; exact hj⟩⟩
      obtain ⟨w, h8, h9⟩ := h6.get e
      refine ⟨⟨vs, w, .of h7, h8⟩, fun y H' ⟨y1, y2⟩ => .inl ⟨y1, ?_⟩⟩
      have y3 := y2 vs (.of h7)
      rw [h8] at y3
      cases y3
      exact h9
    | some (.d d), e1, h =>
      refine .inr (kw σ H F ρ g' pre ds g' ?_ R q)
      have e1 : itemsD d = some ds := e1
      show mb (eVar i ρ) _ g' = _
      have : eVar i ρ = mr d := by unfold eVar; rw [h]; rfl
      rw [this, mb_mr]
      show ml (itemsD d) g' = _
      rw [e1]
      rfl
def rangeD (lo : Int) : Nat → List D
  | 0 => []
  | n + 1 => .int lo :: rangeD (lo + 1) n
theorem rangeD_length : ∀ (lo : Int) (n : Nat), (rangeD lo n).length = n
  | _, 0 => rfl
  | lo, n + 1 => by simp [rangeD, rangeD_length (lo + 1) n]
theorem rangeD_get : ∀ {n : Nat} {lo : Int} {i : Nat} {d : D}, (rangeD lo n)[i]? = some d → i < n ∧ d = .int (lo + i)
  | 0, lo, i, d, h => by simp [rangeD] at h
  | n + 1, lo, 0, d, h => by simp [rangeD] at h; exact ⟨Nat.succ_pos n, by rw [← h]; simp⟩
  | n + 1, lo, i + 1, d, h => by
    obtain ⟨h1, h2⟩ := rangeD_get (n := n) (lo := lo + 1) (i := i) (by simpa [rangeD] using h)
    exact ⟨Nat.succ_lt_succ h1, by rw [h2]; congr 1; omega⟩
theorem its_range {K : PySem.W.Frag} {W F : Fz} {lo : Int} {n : Nat} : ItS K (Itr lo n) W F (rangeD lo n) := fun H s => by
  refine ⟨fun i d e => ?_, fun i hi => by rw [rangeD_length] at hi; exact hi⟩
  obtain ⟨h1, rfl⟩ := rangeD_get e
  exact ⟨h1, fun v H' ⟨y1, y2⟩ => .inl ⟨y1, by rw [y2]; exact .int _⟩⟩
def range1M (ds : List D) : Option (List D) := match ds with
  | [.int j] => if -(2 ^ 62) ≤ j ∧ j < 2 ^ 62 then some (rangeD 0 j.toNat) else none
  | _ => none
def range2M (ds : List D) : Option (List D) := match ds with
  | [.int i, .int j] => if (-(2 ^ 62) ≤ i ∧ i < 2 ^ 62) ∧ (-(2 ^ 62) ≤ j ∧ j < 2 ^ 62) then some (rangeD i (j - i).toNat) else none
  | _ => none
theorem pdi_range1 (hm : X.mg "range" = none) (ha : PDA X [e] fs) (hg : Gl X "range" := by rfl) (hs : starEach [e] X.env = [(false, eval e X.env)] := by rfl) : PDI X tg (.Call (.Name "range" p) [e] [] pos) (aIt range1M fs) := by
  obtain ⟨t, ht, k⟩ := ha
  refine ⟨_, pi_range1 hg hm ht hs, fun σ H F ρ g pre ds g' ev R q => ?_⟩
  obtain ⟨as, g1, e1, ev⟩ := mb_inv ev
  obtain ⟨e2, rfl⟩ := ml_inv ev
  refine k σ H F ρ g pre as _ e1 _ fun vs H1 F1 s1 r1 => ?_
  unfold range1M at e2
  split at e2
  · rename_i j
    split at e2
    · rename_i hj
      cases e2
      have r1 : RpA X.K F1 vs ([j].map D.int) := r1
      rw [r1.ints]
      exact ⟨j, rfl, hj.1, hj.2, q _ H1 F1 s1 its_range⟩
    · cases e2
  · cases e2
theorem pdi_range2 (hm : X.mg "range" = none) (ha : PDA X [e, e2] fs) (hg : Gl X "range" := by rfl) (hs : starEach [e, e2] X.env = [(false, eval e X.env), (false, eval e2 X.env)] := by rfl) (hs2 : starEach [e2] X.env = [(false, eval e2 X.env)] := by rfl) :
    PDI X tg (.Call (.Name "range" p) [e, e2] [] pos) (aIt range2M fs) := by
  obtain ⟨t, ht, k⟩ := ha
  refine ⟨_, pi_range2 hg hm ht hs hs2, fun σ H F ρ g pre ds g' ev R q => ?_⟩
  obtain ⟨as, g1, e1, ev⟩ := mb_inv ev
  obtain ⟨e2, rfl⟩ := ml_inv ev
  refine k σ H F ρ g pre as _ e1 _ fun vs H1 F1 s1 r1 => ?_
  unfold range2M at e2
  split at e2
  · rename_i i j
    split at e2
    · rename_i hj
      cases e2
      rw [rp_ints2 r1]
      exact ⟨i, j, rfl, ⟨hj.1.1, hj.1.2, hj.2.1, hj.2.2⟩, q _ H1 F1 s1 its_range⟩
    · cases e2
  · cases e2
end
end PD
end
section
set_option Elab.async false
set_option linter.all false
set_option maxRecDepth 100000
set_option maxHeartbeats 4000000
set_option autoImplicit false
namespace PD
open PySem PySem.Spec L2
open PyProof.Rows hiding St

/-! ### subscripts -/
theorem pe_or' {X : Cx} {e : Expr} {t t' : TE} (h : PE X e t) (h' : PE X e t') : PE X e (fun σ H Q => t σ H Q ∨ t' σ H Q) := ⟨fun pins s σ H Q I q => q.elim (h.run pins s σ H Q I) (h'.run pins s σ H Q I)⟩
def lookD (ks : List Key) (l : List D) (k : Key) : Option D := match ks, l with
  | k' :: ks, d :: l => if k' = k then some d else lookD ks l k
  | _, _ => none
theorem lookD_ok {K : PySem.W.Frag} {F : Fz} {k : Key} : ∀ {kvs : List (Key × V)} {l : List D} {d : D}, RpA K F (kvs.map (·.2)) l → lookD (kvs.map (·.1)) l k = some d → ∃ v, valV kvs k = some v ∧ Rp K F v d
  | [], l, d, r, e => by cases l <;> cases e
  | (k', v) :: kvs, l, d, r, e => by
    cases r with
    | cons r rr =>
      simp only [List.map_cons, lookD] at e
      by_cases h : k' = k
      · rw [if_pos h] at e
        cases e
        exact ⟨v, valV_pos h, r⟩
      · rw [if_neg h] at e
        obtain ⟨u, h1, h2⟩ := lookD_ok rr e
        exact ⟨u, by rw [valV_neg h]; exact h1, h2⟩
theorem rp_hd {K : PySem.W.Frag} {F : Fz} {v : V} {n : Nat} {a : Addr} (h : Rp K F v (.hd n)) (e : F.mu[n]? = some a) : v = .ref a := by
  cases h with
  | hd h => rw [h] at e; cases e; rfl
def ixD (g : G) (x y : D) : Option D := match x, y with
  | .lst l, .int i => atI l i
  | .tup l, .int i => atI l i
  | .str z, .int i => (atI z.cps.toList i).map fun c => .str ⟨#[c]⟩
  | .dk ks l, y => (keyD y).bind fun k => lookD ks l k
  | .hd a, y => match g[a]? with
    | some (.mk ks l) => (keyD y).bind fun k => lookD ks l k
    | some (.ml l) => match y with
      | .int i => atI l i
      | _ => none
    | some (.mx _ _ _) => none
    | none => none
  | _, _ => none
def eIx (a b : E) : E := fun ρ => mb (a ρ) fun x => mb (b ρ) fun y => fun g => (ixD g x y).map fun d => (d, g)
theorem atI_rp {K : PySem.W.Frag} {F : Fz} {vs : List V} {l : List D} {i : Int} {d : D} (r : RpA K F vs l) (e : atI l i = some d) : ∃ v, atI vs i = some v ∧ Rp K F v d := by
  unfold atI at e ⊢
  rw [r.length]
  obtain ⟨j, h1, h2⟩ := Option.bind_eq_some_iff.mp e
  obtain ⟨v, h3, h4⟩ := r.get h2
  exact ⟨v, by rw [h1]; exact h3, h4⟩
section
variable {X : Cx} {a b : Expr} {fa fb : E} {pos : Pos} {k : Nat}
theorem pd_ix (hr : Room k X.A) (ha : PD X a fa) (hb : PD X b fb) (hs : PlainIx b := by exact fun _ _ => rfl) (hs2 : NoSl b := by exact fun _ _ => rfl) : PD X (.Subscript a b pos) (eIx fa fb) := by
  obtain ⟨ta, pa, ka⟩ := ha
  obtain ⟨tb, pb, kb⟩ := hb
  have hu : X.A.units + 1 < cLine := hu_of hr
  refine ⟨_, pe_or' (pe_ix ix_seq pa pb hs) (pe_dget hu pa pb hs2), fun σ H F ρ g pre d g' e Q q => ?_⟩
  obtain ⟨dx, g1, e1, e⟩ := mb_inv e
  obtain ⟨dy, g2, e2, e⟩ := mb_inv e
  obtain ⟨z, e3, e4⟩ := Option.map_eq_some_iff.mp e
  cases e4
  have run : ∀ {R : V → V → Hp → Prop}, (∀ x y H2 F2, Stp X.K g g' F F2 H H2 → Rp X.K F2 x dx → Rp X.K F2 y dy → R x y H2) → ta σ H fun x H1 => tb σ H1 fun y H2 => R x y H2 := fun {R} hR =>
    ka σ H F ρ g pre dx g1 e1 _ fun x H1 F1 s1 r1 => kb σ H1 F1 ρ g1 (pre.step s1) dy g' e2 _ fun y H2 F2 s2 r2 => hR x y H2 F2 (s1.trans s2) (r1.mono s2.ext) r2
  unfold ixD at e3
  split at e3
  · refine .inl (run fun x y H2 F2 s r1 r2 => ?_)
    obtain ⟨p, xs, rfl, h1, h2, h3⟩ := rp_lst r1
    obtain ⟨v, h4, h5⟩ := atI_rp h3 e3
    exact .inl ⟨p, xs, _, v, rfl, rp_int r2, sqL_mono s.sub h1, h4, q v H2 F2 s h5⟩
  · refine .inl (run fun x y H2 F2 s r1 r2 => ?_)
    obtain ⟨p, xs, rfl, h1, h2, h3⟩ := rp_tup r1
    obtain ⟨v, h4, h5⟩ := atI_rp h3 e3
    exact .inr (.inl ⟨p, xs, _, v, rfl, rp_int r2, sqT_mono s.sub h1, h4, q v H2 F2 s h5⟩)
  · refine .inl (run fun x y H2 F2 s r1 r2 => ?_)
    obtain ⟨c, h1, rfl⟩ := Option.map_eq_some_iff.mp e3
    obtain ⟨rfl, hz⟩ := rp_str r1
    refine .inr (.inr ⟨_, _, c, rfl, rp_int r2, sOk_len hz, h1, q _ H2 F2 s (.str _ (sg_one hz ?_))⟩)
    unfold atI at h1
    obtain ⟨j, _, h3⟩ := Option.bind_eq_some_iff.mp h1
    exact List.mem_of_getElem? h3
  · refine .inr (run fun x y H2 F2 s r1 r2 => ?_)
    obtain ⟨kk, h1, h2⟩ := Option.bind_eq_some_iff.mp e3
    obtain ⟨p, kvs, rfl, h3, rfl, h5⟩ := rp_dk r1
    obtain ⟨v, h6, h7⟩ := lookD_ok h5 h2
    exact ⟨p, v, rfl, .inl ⟨kvs, kk, Rd.mono s.sub h3, keyD_ok r2 h1, h6.symm⟩, q v H2 F2 s h7⟩
  · split at e3
    · rename_i hg
      refine .inr (run fun x y H2 F2 s r1 r2 => ?_)
      obtain ⟨kk, h1, h2⟩ := Option.bind_eq_some_iff.mp e3
      obtain ⟨a, hm, _, kvs, h3, rfl, h5⟩ := s.rep.get hg
      have := rp_hd r1 hm
      subst this
      obtain ⟨v, h6, h7⟩ := lookD_ok h5 h2
      exact ⟨_, v, rfl, .inl ⟨kvs, kk, .inl h3, keyD_ok r2 h1, h6.symm⟩, q v H2 F2 s h7⟩
    · rename_i hg
      split at e3
      · refine .inl (run fun x y H2 F2 s r1 r2 => ?_)
        obtain ⟨a, hm, _, vs, h3, h4, h5⟩ := s.rep.get hg
        have := rp_hd r1 hm
        subst this
        obtain ⟨v, h6, h7⟩ := atI_rp h5 e3
        exact .inl ⟨_, vs, _, v, rfl, rp_int r2, .of h3, h6, q v H2 F2 s h7⟩
      · cases e3
    · cases e3
    · cases e3
  · cases e3
/-- an item of a list | dict of one's own -/
def ixO (lv : LV) (y : D) : Option D := match lv, y with
  | .ol l, .int i => atI l i
  | .ok ks l, y => (keyD y).bind fun k => lookD ks l k
  | _, _ => none
def eIxO (i : Nat) (b : E) : E := fun ρ => mb (b ρ) fun y => ml (match ρ[i]? with
  | some (some lv) => ixO lv y
  | _ => none)
theorem pd_ixo (hr : Room k X.A) (i : Nat) {x : Str} {p : Pos} (hb : PD X b fb) (hN : X.N[i]? = some x := by rfl) (hv : Vis X.env.scope x := by first | exact Or.inl rfl | exact Or.inr (Or.inl rfl) | exact Or.inr (Or.inr rfl))
    (hd : (x == ("__debug__" : Str)) = false := by decide) (hcd : (x == ("__classdict__" : Str)) = false := by decide) (hs : PlainIx b := by exact fun _ _ => rfl) (hs2 : NoSl b := by exact fun _ _ => rfl) : PD X (.Subscript (.Name x p) b pos) (eIxO i fb) := by
  obtain ⟨tb, pb, kb⟩ := hb
  have hu : X.A.units + 1 < cLine := hu_of hr
  have pa : PE X (.Name x p) (tVar i) := pe_var hN hv hd hcd
  refine ⟨_, pe_or' (pe_ix ix_seq pa pb hs) (pe_dget hu pa pb hs2), fun σ H F ρ g pre d g' e Q q => ?_⟩
  obtain ⟨dy, g2, e2, e⟩ := mb_inv e
  obtain ⟨e3, rfl⟩ := ml_inv e
  cases h : ρ[i]? with
  | none => rw [h] at e3; cases e3
  | some o =>
    cases o with
    | none => rw [h] at e3; cases e3
    | some lv =>
      rw [h] at e3
      have e3 : ixO lv dy = some d := e3
      obtain ⟨v, h1, h2⟩ := pre.sl.at_ i lv h
      unfold ixO at e3
      split at e3
      · obtain ⟨p, vs, rfl, h3, h4, h5, h6, h7⟩ := h2
        refine .inl ⟨_, h1, kb σ H F ρ g pre _ _ e2 _ fun y H2 F2 s r2 => ?_⟩
        obtain ⟨w, h8, h9⟩ := atI_rp (h7.mono s.ext) e3
        exact .inl ⟨p, vs, _, w, rfl, rp_int r2, .of (s.same _ _ h4 h5), h8, q w H2 F2 s h9⟩
      · obtain ⟨kk, h8, h9⟩ := Option.bind_eq_some_iff.mp e3
        obtain ⟨p, kvs, rfl, h3, h4, h5, rfl, h7⟩ := h2
        refine .inr ⟨_, h1, kb σ H F ρ g pre _ _ e2 _ fun y H2 F2 s r2 => ?_⟩
        obtain ⟨w, h10, h11⟩ := lookD_ok (h7.mono s.ext) h9
        exact ⟨p, w, rfl, .inl ⟨kvs, kk, .inl (s.same _ _ h4 h5), keyD_ok r2 h8, h10.symm⟩, q w H2 F2 s h11⟩
      · cases e3
/-! ### slices -/
def cutL {α : Type} (xs : List α) (lo hi : Option Int) : List α := (xs.drop (HT.sIx xs.length 0 lo)).take (HT.sIx xs.length xs.length hi - HT.sIx xs.length 0 lo)
def slD (x : D) (lo hi : Option Int) : Option D := match x with
  | .lst l => some (.lst (cutL l lo hi))
  | .tup l => some (.tup (cutL l lo hi))
  | .str z => some (.str (cutS z lo hi))
  | _ => none
theorem rp_cut {K : PySem.W.Frag} {F : Fz} {vs : List V} {l : List D} (r : RpA K F vs l) (lo hi : Option Int) : RpA K F (cutV vs lo hi) (cutL l lo hi) := by
  unfold cutV cutL
  rw [r.length]
  exact (r.drop _).take _
theorem cutL_len {α : Type} (l : List α) (lo hi : Option Int) : (cutL l lo hi).length ≤ l.length := by
  unfold cutL
  rw [List.length_take, List.length_drop]
  omega
theorem cutS_ok {z : Str} (h : sOk z = true) (lo hi : Option Int) : sOk (cutS z lo hi) = true := by
  refine sOk_mk (strOk_iff.mpr fun c hc => strOk_iff.mp (sOk_ok h) c ?_) ?_
  · unfold cutS at hc
    simp only at hc
    exact List.mem_of_mem_drop (List.mem_of_mem_take hc)
  · have h2 := sOk_len h
    unfold cutS Str.length
    simp only [List.size_toArray, List.length_take, List.length_drop]
    have : z.cps.toList.length = z.length := by simp [Str.length]
    show min _ (z.cps.toList.length - _) ≤ sizeLine
    omega
abbrev rSlAll (K : PySem.W.Frag) : V → Option Int → Option Int → Hp → VK → Prop := fun x lo hi H Q => rSlL K x lo hi H Q ∨ (rSlA K x lo hi H Q ∨ rSlS x lo hi H Q)
theorem sl_all : SlR X (rSlAll X.K) := sl_list.or (sl_tupA.or sl_str)
/-- a slice's end -/
def PDP (X : Cx) (e : Option Expr) (f : Rho → M (Option Int)) : Prop := ∃ t, L2.PO X e t ∧ ∀ σ H F ρ g, PreE X.K F H g ρ σ → ∀ o g', f ρ g = some (o, g') → ∀ Q : Option Int → Hp → Prop, (∀ H' F', Stp X.K g g' F F' H H' → Q o H') → t σ H Q
def pNone : Rho → M (Option Int) := fun _ => mr none
def pSome (f : E) : Rho → M (Option Int) := fun ρ => mb (f ρ) fun d => match d with
  | .int i => mr (some i)
  | _ => mz
theorem pdp_none : PDP X none pNone := ⟨_, po_none, fun σ H F ρ g pre o g' e Q q => by
  obtain ⟨rfl, rfl⟩ := mr_inv e
  exact q H F pre.refl⟩
theorem pdp_some (h : PD X a fa) : PDP X (some a) (pSome fa) := by
  obtain ⟨t, ht, k⟩ := h
  refine ⟨_, po_some ht, fun σ H F ρ g pre o g' e Q q => ?_⟩
  obtain ⟨d, g1, e1, e⟩ := mb_inv e
  cases d <;> try (cases e; done)
  obtain ⟨rfl, rfl⟩ := mr_inv e
  refine k σ H F ρ g pre _ _ e1 _ fun v H1 F1 s1 r1 => ?_
  rw [rp_int r1]
  exact ⟨_, rfl, q H1 F1 s1⟩
def eSl (a : E) (lo hi : Rho → M (Option Int)) : E := fun ρ => mb (a ρ) fun x => mb (lo ρ) fun l => mb (hi ρ) fun h => ml (slD x l h)
theorem pd_slice {lo hi : Option Expr} {fl fh : Rho → M (Option Int)} {p2 : Pos} (ha : PD X a fa) (hl : PDP X lo fl) (hh : PDP X hi fh) : PD X (.Subscript a (.Slice lo hi none p2) pos) (eSl fa fl fh) := by
  obtain ⟨ta, pa, ka⟩ := ha
  obtain ⟨tl, pl, kl⟩ := hl
  obtain ⟨th, ph, kh⟩ := hh
  refine ⟨_, pe_slice sl_all pa pl ph, fun σ H F ρ g pre d g' e Q q => ?_⟩
  obtain ⟨dx, g1, e1, e⟩ := mb_inv e
  obtain ⟨l, g2, e2, e⟩ := mb_inv e
  obtain ⟨h, g3, e3, e⟩ := mb_inv e
  obtain ⟨e4, rfl⟩ := ml_inv e
  refine ka σ H F ρ g pre dx g1 e1 _ fun x H1 F1 s1 r1 => kl σ H1 F1 ρ g1 (pre.step s1) l g2 e2 _ fun H2 F2 s2 => kh σ H2 F2 ρ g2 (pre.step (s1.trans s2)) h _ e3 _ fun H3 F3 s3 => ?_
  have s := (s1.trans s2).trans s3
  have r := r1.mono (s2.ext.trans s3.ext)
  unfold slD at e4
  split at e4
  · cases e4
    obtain ⟨p, xs, rfl, h1, h2, h3⟩ := rp_lst r
    exact .inl ⟨p, xs, rfl, sqL_mono s.sub h1, fun c hc => q _ _ _ (s.trans (.alloc s.sub s.rep hc)) (rp_new_lst (s.sub.free hc) (Nat.le_trans (cutL_len _ _ _) (by rw [← h3.length]; exact h2)) (rp_cut h3 l h))⟩
  · cases e4
    obtain ⟨p, xs, rfl, h1, h2, h3⟩ := rp_tup r
    refine .inr (.inl ⟨p, xs, rfl, sqT_mono s.sub h1, fun hw => ?_, fun _ c hc => q _ _ _ (s.trans (.alloc s.sub s.rep hc)) (rp_new_tup (s.sub.free hc) (Nat.le_trans (cutL_len _ _ _) (by rw [← h3.length]; exact h2)) (rp_cut h3 l h))⟩)
    have e5 : ∀ ds : List D, xs.length = ds.length → cutL ds l h = ds := fun ds hl => by
      unfold cutL
      rw [← hl, hw.1, hw.2, List.drop_zero, Nat.sub_zero, hl, List.take_length]
    rw [e5 _ h3.length] at q
    exact q _ H3 F3 s r
  · cases e4
    obtain ⟨rfl, hz⟩ := rp_str r
    exact .inr (.inr ⟨_, rfl, sOk_len hz, q _ H3 F3 s (.str _ (cutS_ok hz l h))⟩)
  · cases e4
end
end PD
end
section
set_option Elab.async false
set_option linter.all false
set_option maxRecDepth 100000
set_option maxHeartbeats 4000000
set_option autoImplicit false
namespace PD
open PySem PySem.Spec L2
open PyProof.Rows hiding St

/-! ### things of one's own are changed -/
theorem PreS.mut {K : PySem.W.Frag} {en : Ent} {F : Fz} {H : Hp} {g : G} {ρ : Rho} {σ : St} {i : Nat} {p : Addr} {lv lv' : LV} {o : HO} (pre : PreS K en F H g ρ σ) (h : ρ[i]? = some (some lv)) (ow : lv.own = true) (hσ : σ[i]? = some (some (.ref p))) (ow' : lv'.own = true)
    (hF : F p = none) (hg : p ∉ F.mu) (ok : SlotOk K F (upd H p o) g (.ref p) lv') : PreS K en F (upd H p o) g (ρ.set i (some lv')) σ := by
  have hp : Owned ρ σ i p := ⟨lv, h, ow, hσ⟩
  have hi : i < ρ.length := (List.getElem?_eq_some_iff.mp h).1
  have old : ∀ j w, Owned (ρ.set i (some lv')) σ j w → Owned ρ σ j w := fun j w ⟨l, q1, q2, q3⟩ => by
    by_cases e : i = j
    · subst e
      exact ⟨lv, h, ow, q3⟩
    · rw [List.getElem?_set_ne e] at q1
      exact ⟨l, q1, q2, q3⟩
  have st' := pre.st.mut (o := o) (pre.fr i p hp) hF hg
  refine ⟨⟨st'.sub, st'.rep, by rw [List.length_set]; exact pre.e.sl.len, fun j l z => ?_, fun j k w z1 z2 => pre.e.sl.sep j k w (old j w z1) (old k w z2)⟩, st', fun j w z => pre.fr j w (old j w z)⟩
  · by_cases e : i = j
    · subst e
      rw [List.getElem?_set_self hi] at z
      cases z
      exact ⟨_, hσ, ok⟩
    · rw [List.getElem?_set_ne e] at z
      obtain ⟨v, h1, h2⟩ := pre.e.sl.at_ j l z
      refine ⟨v, h1, ?_⟩
      have ne : l.own = true → ∀ w, v = .ref w → w ≠ p := fun w1 w w2 z3 => by
        subst w2 z3
        exact e (pre.e.sl.sep i j w hp ⟨l, z, w1, h1⟩)
      cases l with
      | d x => exact h2
      | ol ds => obtain ⟨w, vs, e1, e2, e3, e4, e5⟩ := h2; exact ⟨w, vs, e1, e2, e3, by rw [upd_ne (ne rfl w e1)]; exact e4, e5⟩
      | ok ks ds => obtain ⟨w, vs, e1, e2, e3, e4, e5⟩ := h2; exact ⟨w, vs, e1, e2, e3, by rw [upd_ne (ne rfl w e1)]; exact e4, e5⟩
      | ot ks ds => obtain ⟨w, vs, e1, e2, e3, e4, e5⟩ := h2; exact ⟨w, vs, e1, e2, e3, by rw [upd_ne (ne rfl w e1)]; exact e4, e5⟩
def olAt (ρ : Rho) (i : Nat) : Option (List D) := match ρ[i]? with
  | some (some (.ol l)) => some l
  | _ => none
theorem olAt_inv {ρ : Rho} {i : Nat} {l : List D} (h : olAt ρ i = some l) : ρ[i]? = some (some (.ol l)) := by
  unfold olAt at h
  split at h
  · cases h; assumption
  · cases h
def sAppend (i : Nat) (f : E) : S := fun ρ => mb (f ρ) fun d => ml ((olAt ρ i).bind fun l => if l.length < sizeLine then some (.nx (ρ.set i (some (.ol (l ++ [d]))))) else none)
def sExtend (i : Nat) (f : EA) : S := fun ρ => mb (f ρ) fun m => ml ((olAt ρ i).bind fun l => if l.length + m.length ≤ sizeLine then some (.nx (ρ.set i (some (.ol (l ++ m))))) else none)
theorem bind_if {α : Type} {o : Option (List D)} {P : List D → Prop} [∀ l, Decidable (P l)] {r : List D → α} {x : α} (h : (o.bind fun l => if P l then some (r l) else none) = some x) : ∃ l, o = some l ∧ P l ∧ r l = x := by
  obtain ⟨l, h1, h2⟩ := Option.bind_eq_some_iff.mp h
  by_cases hp : P l
  · rw [if_pos hp] at h2; exact ⟨l, h1, hp, Option.some.inj h2⟩
  · rw [if_neg hp] at h2; cases h2
theorem ol_inv {K : PySem.W.Frag} {F : Fz} {H : Hp} {g : G} {ρ : Rho} {σ : St} {i : Nat} {l : List D} (pre : PreE K F H g ρ σ) (h : ρ[i]? = some (some (.ol l))) :
    ∃ p vs, σ[i]? = some (some (.ref p)) ∧ F p = none ∧ p ∉ F.mu ∧ H p = some (.lst vs) ∧ vs.length ≤ sizeLine ∧ RpA K F vs l := by
  obtain ⟨v, h1, p, vs, rfl, h2⟩ := pre.sl.at_ i _ h
  exact ⟨p, vs, h1, h2⟩
section
variable {X : Cx} {e b : Expr} {f fb : E} {fs : EA} {x : Str} {p ap cp pos : Pos}
theorem pds_append (i : Nat) (h : PD X e f) (hN : X.N[i]? = some x := by rfl) (hv : Vis X.env.scope x := by first | exact Or.inl rfl | exact Or.inr (Or.inl rfl) | exact Or.inr (Or.inr rfl))
    (hd : (x == ("__debug__" : Str)) = false := by decide) (hcd : (x == ("__classdict__" : Str)) = false := by decide)
    (hbase : attributeBase (.Name x p) "append" X.env (eval (.Name x p) X.env) = eval (.Name x p) X.env := by rfl)
    (hfew : ((backTo cp (starEach [e] X.env)).all (fun x => !x.1) && (backToKw cp (keywordEach [] X.env)).all (fun x => x.1.isSome)
      && decide ([e].length + ([] : List Keyword).length + (if ([] : List Keyword).isEmpty then 0 else 1) < 30)) = true := by rfl)
    (hline : (ap.endLine == cp.line) = true := by rfl) (hs : starEach [e] X.env = (false, eval e X.env) :: starEach [] X.env := by rfl) (hsw : swapsWith (.Call (.Attribute (.Name x p) "append" ap) [e] [] cp) none pos.line X.env = pure false := by rfl) :
    PDS X (.Expr (.Call (.Attribute (.Name x p) "append" ap) [e] [] cp) pos) (sAppend i f) := by
  obtain ⟨t, ht, k⟩ := h
  refine ⟨_, ps_expr (pe_bm PySem.F.plainAttrs_list PySem.F.slot_list_append PySem.F.type_list_append mt_append (pe_var hN hv hd hcd) (pa_cons ht pa_nil hs) hbase hfew hline hs (by rfl)) hsw, fun en σ H F ρ g pre fl g' ev De post => ?_⟩
  obtain ⟨d, g1, e1, ev⟩ := mb_inv ev
  obtain ⟨ev2, rfl⟩ := ml_inv ev
  obtain ⟨l, hl0, hz, rfl⟩ := bind_if ev2
  have hl := olAt_inv hl0
  · · obtain ⟨q, vs, h1, h2, h3, h4, h5, h6⟩ := ol_inv pre.e hl
      refine ⟨_, h1, .inl ⟨rfl, vs, .of h4⟩, k σ H F ρ g pre.e d _ e1 _ fun v H1 F1 s1 r1 => ?_⟩
      have pre1 := pre.step s1
      have h4' : H1 q = some (.lst vs) := s1.same _ _ h3 h4
      have hl' : vs.length = l.length := h6.length
      refine ⟨q, vs, v, rfl, rfl, h4', by omega, post σ _ F1 (pre1.mut hl rfl h1 rfl (s1.keepN h2 h4) (s1.keepM h3 h4) ⟨q, vs ++ [v], rfl, s1.keepN h2 h4, s1.keepM h3 h4, upd_same, ?_, (h6.mono s1.ext).append (.cons r1 .nil)⟩)⟩
      rw [List.length_append]
      simp only [List.length_cons, List.length_nil]
      omega
theorem pds_extend (i : Nat) (h : PO X e fs) (hN : X.N[i]? = some x := by rfl) (hv : Vis X.env.scope x := by first | exact Or.inl rfl | exact Or.inr (Or.inl rfl) | exact Or.inr (Or.inr rfl))
    (hd : (x == ("__debug__" : Str)) = false := by decide) (hcd : (x == ("__classdict__" : Str)) = false := by decide)
    (hbase : attributeBase (.Name x p) "extend" X.env (eval (.Name x p) X.env) = eval (.Name x p) X.env := by rfl)
    (hfew : ((backTo cp (starEach [e] X.env)).all (fun x => !x.1) && (backToKw cp (keywordEach [] X.env)).all (fun x => x.1.isSome)
      && decide ([e].length + ([] : List Keyword).length + (if ([] : List Keyword).isEmpty then 0 else 1) < 30)) = true := by rfl)
    (hline : (ap.endLine == cp.line) = true := by rfl) (hs : starEach [e] X.env = (false, eval e X.env) :: starEach [] X.env := by rfl) (hsw : swapsWith (.Call (.Attribute (.Name x p) "extend" ap) [e] [] cp) none pos.line X.env = pure false := by rfl) :
    PDS X (.Expr (.Call (.Attribute (.Name x p) "extend" ap) [e] [] cp) pos) (sExtend i fs) := by
  obtain ⟨t, ht, k⟩ := h
  refine ⟨_, ps_expr (pe_bm PySem.F.plainAttrs_list PySem.F.slot_list_extend PySem.F.type_list_extend mt_extend (pe_var hN hv hd hcd) (pa_cons ht pa_nil hs) hbase hfew hline hs (by rfl)) hsw, fun en σ H F ρ g pre fl g' ev De post => ?_⟩
  obtain ⟨m, g1, e1, ev⟩ := mb_inv ev
  obtain ⟨ev2, rfl⟩ := ml_inv ev
  obtain ⟨l, hl0, hz, rfl⟩ := bind_if ev2
  have hl := olAt_inv hl0
  · · obtain ⟨q, vs, h1, h2, h3, h4, h5, h6⟩ := ol_inv pre.e hl
      refine ⟨_, h1, .inl ⟨rfl, vs, .of h4⟩, k σ H F ρ g pre.e m _ e1 _ fun r H1 F1 ws s1 n1 n2 n3 n4 n5 n6 => ?_⟩
      have pre1 := pre.step s1
      have h4' : H1 q = some (.lst vs) := s1.same _ _ h3 h4
      have l1 : vs.length = l.length := h6.length
      have l2 : ws.length = m.length := n6.length
      refine ⟨q, r, vs, ws, rfl, rfl, h4', n4, by omega, post σ _ F1 (pre1.mut hl rfl h1 rfl (s1.keepN h2 h4) (s1.keepM h3 h4) ⟨q, vs ++ ws, rfl, s1.keepN h2 h4, s1.keepM h3 h4, upd_same, ?_, (h6.mono s1.ext).append n6⟩)⟩
      rw [List.length_append]
      omega
/-! ### items of a list of one's own are set -/
def sSetO (i : Nat) (b f : E) : S := fun ρ => mb (f ρ) fun d => mb (b ρ) fun y => ml (match y with
  | .int k => (olAt ρ i).bind fun l => (ixN l.length k).map fun j => .nx (ρ.set i (some (.ol (l.set j d))))
  | _ => none)
theorem pds_setO (i : Nat) (hb : PD X b fb) (h : PD X e f) (hN : X.N[i]? = some x := by rfl) (hv : Vis X.env.scope x := by first | exact Or.inl rfl | exact Or.inr (Or.inl rfl) | exact Or.inr (Or.inr rfl))
    (hd : (x == ("__debug__" : Str)) = false := by decide) (hcd : (x == ("__classdict__" : Str)) = false := by decide)
    (ha : ∀ v, assign (.Subscript (.Name x p) b ap) X.env v = (do
      let ov ← holding [v] (eval (.Name x p) X.env)
      let iv ← holding [v, ov] (eval b X.env)
      standAt ap
      holding [v, ov, iv] (setItem ov iv v)
      release [v, ov, iv] []) := by intro _; rfl) (hs : swapsWithSole [.Subscript (.Name x p) b ap] e pos.line X.env = pure false := by rfl) (hw : swappedStores [.Subscript (.Name x p) b ap] e X.env = pure none := by rfl)
    (h1 : (assignEach [.Subscript (.Name x p) b ap] X.env).map (·.2) = [assign (.Subscript (.Name x p) b ap) X.env] := by rfl) :
    PDS X (.Assign [.Subscript (.Name x p) b ap] e pos) (sSetO i fb f) := by
  obtain ⟨t, ht, k⟩ := h
  obtain ⟨tb, pb, kb⟩ := hb
  refine ⟨_, ps_asg ht (pg_sub (pe_var hN hv hd hcd) pb set_list ha) hs hw h1, fun en σ H F ρ g pre fl g' ev De post => ?_⟩
  obtain ⟨d, g1, e1, ev⟩ := mb_inv ev
  obtain ⟨y, g2, e2, ev⟩ := mb_inv ev
  obtain ⟨ev2, rfl⟩ := ml_inv ev
  cases y <;> try (cases ev2; done)
  obtain ⟨l, hl0, h3⟩ := Option.bind_eq_some_iff.mp ev2
  obtain ⟨j, hj, rfl⟩ := Option.map_eq_some_iff.mp h3
  have hl := olAt_inv hl0
  obtain ⟨q, vs, h1, h2, h3, h4, h5, h6⟩ := ol_inv pre.e hl
  refine k σ H F ρ g pre.e d g1 e1 _ fun v H1 F1 s1 r1 => ⟨_, h1, kb σ H1 F1 ρ g1 (pre.e.step s1) _ _ e2 _ fun w H2 F2 s2 r2 => ?_⟩
  have s := s1.trans s2
  have h4' : H2 q = some (.lst vs) := s.same _ _ h3 h4
  have hl' : vs.length = l.length := h6.length
  rw [rp_int r2]
  refine ⟨q, vs, _, j, rfl, rfl, h4', by rw [hl']; exact hj, post σ _ F2 ((pre.step s).mut hl rfl h1 rfl (s.keepN h2 h4) (s.keepM h3 h4) ⟨q, vs.set j v, rfl, s.keepN h2 h4, s.keepM h3 h4, upd_same, by rw [List.length_set]; exact h5, (h6.mono s.ext).set (r1.mono s2.ext) j⟩)⟩
/-! ### the store -/
def updG (g : G) (n : Nat) (m : MO) : G := g.set n m
theorem Stp.store {K : PySem.W.Frag} {g : G} {F : Fz} {H : Hp} {n : Nat} {a : Addr} {m' : MO} {o : HO} (s : Same F.h H) (r : GRep K g F H) (ha : F.mu[n]? = some a) (ok : MOk K F (upd H a o) a m') : Stp K g (updG g n m') F F H (upd H a o) := by
  have hmem : a ∈ F.mu := List.mem_of_getElem? ha
  have hF : F a = none := (r.mem hmem).1
  refine ⟨fun b u h1 h2 => by rw [upd_ne fun z => h1 (by rw [z]; exact hmem)]; exact h2, fun b h => ?_, Ext.refl _, fun b u h => .inl ⟨u, h⟩, fun b h => .inl h, fun b u h => by rw [upd_ne (ne_of_none h hF)]; exact s b u h, ⟨by simp [updG, r.len], r.nd, fun k x b h1 h2 => ?_⟩⟩
  · by_cases e : b = a
    · subst e; rw [upd_same] at h; cases h
    · rw [upd_ne e] at h; exact h
  · unfold updG at h1
    by_cases e : n = k
    · subst e
      rw [ha] at h2
      cases h2
      have hl : n < g.length := by rw [r.len]; exact (List.getElem?_eq_some_iff.mp ha).1
      rw [List.getElem?_set_self hl] at h1
      cases h1
      exact ⟨hF, ok⟩
    · rw [List.getElem?_set_ne e] at h1
      obtain ⟨q1, q2⟩ := r.at_ k x b h1 h2
      have hne : b ≠ a := fun z => by
        subst z
        have l1 := (List.getElem?_eq_some_iff.mp ha).1
        exact e ((List.getElem?_inj l1 r.nd).mp (by rw [ha, h2]))
      exact ⟨q1, q2.mono (Ext.refl _) (upd_ne hne)⟩
/-- d[k] = v: in its place, or at the end -/
def putD : List Key → List D → Key → D → List Key × List D
  | k' :: ks, d' :: l, k, d => if k' = k then (k' :: ks, d :: l) else (k' :: (putD ks l k d).1, d' :: (putD ks l k d).2)
  | _, _, k, d => ([k], [d])
theorem putK_cons {k k' : Key} {v v' : V} {kvs : List (Key × V)} (h : (((k', v') :: kvs).map (·.1)).Nodup) : putK ((k', v') :: kvs) k v = if k' = k then (k', v) :: kvs else (k', v') :: putK kvs k v := by
  unfold putK
  by_cases e : k' = k
  · subst e
    rw [if_pos rfl]
    simp only [List.any_cons, decide_true, Bool.true_or, if_true, List.map_cons]
    congr 1
    have h2 : k' ∉ kvs.map (·.1) := (List.nodup_cons.mp h).1
    conv => rhs; rw [← List.map_id kvs]
    refine List.map_congr_left fun kv hkv => ?_
    rw [if_neg fun z => h2 (by rw [← z]; exact List.mem_map_of_mem hkv)]
    rfl
  · rw [if_neg e]
    simp only [List.any_cons, e, decide_false, Bool.false_or]
    by_cases h3 : (kvs.any fun kv => decide (kv.1 = k)) = true
    · rw [if_pos h3, if_pos h3]
      simp [e]
    · rw [if_neg h3, if_neg h3]
      rfl
theorem putD_ok {K : PySem.W.Frag} {F : Fz} {k : Key} {v : V} {d : D} (rv : Rp K F v d) : ∀ {kvs : List (Key × V)} {l : List D}, (kvs.map (·.1)).Nodup → RpA K F (kvs.map (·.2)) l →
    (putK kvs k v).map (·.1) = (putD (kvs.map (·.1)) l k d).1 ∧ RpA K F ((putK kvs k v).map (·.2)) (putD (kvs.map (·.1)) l k d).2
  | [], l, _, r => by
    cases r
    exact ⟨rfl, .cons rv .nil⟩
  | (k', v') :: kvs, l, h, r => by
    cases r with
    | cons r rr =>
      rw [putK_cons h]
      simp only [List.map_cons, putD]
      by_cases e : k' = k
      · rw [if_pos e, if_pos e]
        exact ⟨rfl, .cons rv rr⟩
      · rw [if_neg e, if_neg e]
        have ih := putD_ok (k := k) rv (List.nodup_cons.mp h).2 rr
        exact ⟨by simp [ih.1], .cons r ih.2⟩
/-- x[y] = v where x is a dict | list of the store -/
def storeD (g : G) (x y v : D) : Option G := match x with
  | .hd a => match g[a]? with
    | some (.mk ks l) => (keyD y).bind fun k => if ks.Nodup ∧ ks.length < sizeLine then some (updG g a (.mk (putD ks l k v).1 (putD ks l k v).2)) else none
    | some (.ml l) => match y with
      | .int i => (ixN l.length i).map fun j => updG g a (.ml (l.set j v))
      | _ => none
    | some (.mx _ _ _) => none
    | none => none
  | _ => none
def sStore (a b f : E) : S := fun ρ => mb (f ρ) fun v => mb (a ρ) fun x => mb (b ρ) fun y => fun g => (storeD g x y v).map fun g' => (.nx ρ, g')
theorem ps_or' {st : Stmt} {t t' : TS} (h : PS X st t) (h' : PS X st t') : PS X st (fun De σ H => t De σ H ∨ t' De σ H) := ⟨fun pins s σ H De I q => q.elim (h.run pins s σ H De I) (h'.run pins s σ H De I)⟩
theorem pds_store {a : Expr} {fa : E} {k : Nat} (hr : Room k X.A) (ha : PD X a fa) (hb : PD X b fb) (h : PD X e f)
    (hsw : swapsWith e (some (.Subscript a b ap)) pos.line X.env = pure false := by rfl)
    (hasg : ∀ v, assign (.Subscript a b ap) X.env v = (do
      let ov ← holding [v] (eval a X.env)
      let iv ← holding [v, ov] (eval b X.env)
      standAt ap
      holding [v, ov, iv] (setItem ov iv v)
      release [v, ov, iv] []) := by intro _; rfl) (hs : swapsWithSole [.Subscript a b ap] e pos.line X.env = pure false := by rfl) (hw : swappedStores [.Subscript a b ap] e X.env = pure none := by rfl)
    (h1 : (assignEach [.Subscript a b ap] X.env).map (·.2) = [assign (.Subscript a b ap) X.env] := by rfl) : PDS X (.Assign [.Subscript a b ap] e pos) (sStore fa fb f) := by
  obtain ⟨t, ht, kv⟩ := h
  obtain ⟨ta, pa, ka⟩ := ha
  obtain ⟨tb, pb, kb⟩ := hb
  refine ⟨_, ps_or' (ps_dput (hu_of hr) pa pb ht hsw) (ps_asg ht (pg_sub pa pb set_list hasg) hs hw h1), fun en σ H F ρ g pre fl g' ev De post => ?_⟩
  obtain ⟨d, g1, e1, ev⟩ := mb_inv ev
  obtain ⟨dx, g2, e2, ev⟩ := mb_inv ev
  obtain ⟨dy, g3, e3, ev⟩ := mb_inv ev
  obtain ⟨g4, e4, e5⟩ := Option.map_eq_some_iff.mp ev
  cases e5
  have run : ∀ {R : V → V → V → Hp → Prop}, (∀ v x y H2 F2, Stp X.K g g3 F F2 H H2 → Rp X.K F2 v d → Rp X.K F2 x dx → Rp X.K F2 y dy → R v x y H2) → t σ H fun v H1 => ta σ H1 fun x H2 => tb σ H2 fun y H3 => R v x y H3 := fun {R} hR =>
    kv σ H F ρ g pre.e d g1 e1 _ fun v H1 F1 s1 r1 => ka σ H1 F1 ρ g1 (pre.e.step s1) dx g2 e2 _ fun x H2 F2 s2 r2 => kb σ H2 F2 ρ g2 (pre.e.step (s1.trans s2)) dy g3 e3 _ fun y H3 F3 s3 r3 =>
      hR v x y H3 F3 ((s1.trans s2).trans s3) (r1.mono (s2.ext.trans s3.ext)) (r2.mono s3.ext) r3
  unfold storeD at e4
  split at e4
  · split at e4
    · rename_i ks l hg
      obtain ⟨kk, h2, h3⟩ := Option.bind_eq_some_iff.mp e4
      by_cases hn : ks.Nodup ∧ ks.length < sizeLine
      · rw [if_pos hn] at h3
        cases h3
        refine .inl (run fun v x y H3 F3 s rv rx ry => ?_)
        obtain ⟨b, hm, _, kvs, h4, h5, h6⟩ := s.rep.get hg
        have := rp_hd rx hm
        subst this
        subst h5
        obtain ⟨q1, q2⟩ := putD_ok (k := kk) rv hn.1 h6
        have hl : kvs.length < sizeLine := by simpa using hn.2
        rw [keyD_ok ry h2]
        exact ⟨_, _, rfl, DPut.k h4 hl, post σ _ F3 (pre.step (s.trans (Stp.store (m' := .mk _ _) s.sub s.rep hm ⟨_, upd_same, q1, q2⟩)))⟩
      · rw [if_neg hn] at h3
        cases h3
    · rename_i l hg
      split at e4
      · rename_i i
        obtain ⟨j, h2, rfl⟩ := Option.map_eq_some_iff.mp e4
        refine .inr (run fun v x y H3 F3 s rv rx ry => ?_)
        obtain ⟨b, hm, _, vs, h4, h5, h6⟩ := s.rep.get hg
        have := rp_hd rx hm
        subst this
        rw [rp_int ry]
        exact ⟨_, vs, i, j, rfl, rfl, h4, by rw [h6.length]; exact h2, post σ _ F3 (pre.step (s.trans (Stp.store (m' := .ml _) s.sub s.rep hm ⟨_, upd_same, by rw [List.length_set]; exact h5, h6.set rv j⟩)))⟩
      · cases e4
    · cases e4
    · cases e4
  · cases e4
end
/-! ### a def -/
def slots0 (n : Nat) (ds : List D) : Rho := ds.map (fun d => some (.d d)) ++ List.replicate (n - ds.length) none
def runF (n : Nat) (f : S) : List D → M D := fun ds g => match f (slots0 n ds) g with
  | some (.rt d, g') => some (d, g')
  | some (.nx _, g') => some (.non, g')
  | _ => none
theorem pre0 {K : PySem.W.Frag} {F : Fz} {H : Hp} {g : G} {N : List Str} {vs : List V} {ds : List D} (s : Same F.h H) (r : GRep K g F H) (rv : RpA K F vs ds) : PreS K ⟨g, F, H⟩ F H g (slots0 N.length ds) (start N vs) := by
  have hl := rv.length
  have no : ∀ i p, ¬ Owned (slots0 N.length ds) (start N vs) i p := fun i p ⟨lv, h1, h2, _⟩ => by
    unfold slots0 at h1
    by_cases hi : i < ds.length
    · rw [List.getElem?_append_left (by simpa using hi), List.getElem?_map, List.getElem?_eq_getElem hi] at h1
      cases h1
      cases h2
    · rw [List.getElem?_append_right (by simpa using Nat.le_of_not_lt hi)] at h1
      have := List.mem_of_getElem? h1
      rw [List.mem_replicate] at this
      cases this.2
  refine ⟨⟨s, r, ?_, fun i lv h => ?_, fun i j p h => (no i p h).elim⟩, Stp.refl s r, fun i p h => (no i p h).elim⟩
  · simp [slots0, L2.start, hl]
  · unfold slots0 at h
    by_cases hi : i < ds.length
    · rw [List.getElem?_append_left (by simpa using hi), List.getElem?_map, List.getElem?_eq_getElem hi] at h
      cases h
      obtain ⟨v, h1, h2⟩ := rv.get (List.getElem?_eq_getElem hi)
      refine ⟨v, ?_, h2⟩
      unfold L2.start
      rw [List.getElem?_append_left (by rw [List.length_map, hl]; exact hi), List.getElem?_map, h1]
      rfl
    · rw [List.getElem?_append_right (by simpa using Nat.le_of_not_lt hi)] at h
      have := List.mem_of_getElem? h
      rw [List.mem_replicate] at this
      cases this.2
theorem fn_dG {P : Program} {w : World} {K : PySem.W.Frag} {mg : Str → Option Value} {base : Heap} {k : Nat} {f : Addr} {x qual : Str} {params : Arguments} {body : List Stmt} {scope : Scope} {kws : List (Str × V)} {fd : FuncData} {N ps : List Str} {sem : S}
    (F : FunD K x qual params body scope [] kws f fd) (S : FnScope N ps scope)
    (hbody : ∀ (cdv : Value) (A : Around) (outer : List Env) (s : Shared) (H : Hp) (E : XK), Room k (A.deeper (envOfC qual scope s.heap.objs.size f cdv)) → (A.deeper (envOfC qual scope s.heap.objs.size f cdv)).guards = some [] →
      PDSS (cxOf CX0 P w K mg base N qual scope f cdv A outer s H E).nox body sem) : FnG P w K mg base CX0 (k + 1) f fd ps (spD K ps.length (runF N.length sem)) := by
  refine fn_g F S (fun vs H Q E h => ?_) fun cdv A outer s H vs Q E hr gd h => ?_
  · obtain ⟨F, g, ds, d, g', hn, _, _, rv, _⟩ := h
    rw [rv.length, hn]
  · obtain ⟨F, g, ds, d, g', hn, sb, rp, rv, ev, q⟩ := h
    obtain ⟨t, ht, kt⟩ := hbody cdv A outer s H E hr gd
    refine ⟨t, ht.nox, ?_⟩
    unfold runF at ev
    cases h : sem (slots0 N.length ds) g with
    | none => rw [h] at ev; cases ev
    | some r =>
      obtain ⟨fl, g1⟩ := r
      rw [h] at ev
      refine kt ⟨g, F, H⟩ (start N vs) H F (slots0 N.length ds) g (pre0 sb rp rv) fl g1 h _ ?_
      cases fl with
      | rt z => cases ev; exact fun v H' F' s' r' => q v H' F' s' r'
      | nx ρ => cases ev; exact fun σ' H' F' p' => q .non H' F' p'.st .non
      | bk ρ => cases ev
      | xc nm f d ρ => cases ev
      | ct ρ => cases ev
end PD
end
section
set_option Elab.async false
set_option linter.all false
set_option maxRecDepth 100000
set_option maxHeartbeats 4000000
set_option autoImplicit false
namespace PD
open PySem PySem.Spec L2
open PyProof.Rows hiding St

/-! ### values that may be new things of one's own -/
def Fresh (H0 : Hp) (v : V) (lv : LV) : Prop := lv.own = true → ∀ p, v = .ref p → H0 p = none
theorem SlotOk.there {K : PySem.W.Frag} {F : Fz} {H : Hp} {g : G} {p : Addr} {lv : LV} (h : SlotOk K F H g (.ref p) lv) (o : lv.own = true) : H p ≠ none := by
  cases lv with
  | d x => cases o
  | ol l => obtain ⟨q, vs, e, _, _, h, _⟩ := h; cases e; rw [h]; simp
  | ok ks l => obtain ⟨q, vs, e, _, _, h, _⟩ := h; cases e; rw [h]; simp
  | ot ks l => obtain ⟨q, vs, e, _, _, h, _⟩ := h; cases e; rw [h]; simp
theorem SlotOk.ref {K : PySem.W.Frag} {F : Fz} {H : Hp} {g : G} {v : V} {lv : LV} (h : SlotOk K F H g v lv) (o : lv.own = true) : ∃ p, v = .ref p := by
  cases lv with
  | d x => cases o
  | ol l => obtain ⟨q, vs, e, _⟩ := h; exact ⟨q, e⟩
  | ok ks l => obtain ⟨q, vs, e, _⟩ := h; exact ⟨q, e⟩
  | ot ks l => obtain ⟨q, vs, e, _⟩ := h; exact ⟨q, e⟩
inductive LvA (K : PySem.W.Frag) (F : Fz) (H : Hp) (g : G) : Hp → List V → List LV → Prop
  | nil {H0 : Hp} : LvA K F H g H0 [] []
  | cons {H0 H1 : Hp} {v : V} {vs : List V} {lv : LV} {lvs : List LV} : SlotOk K F H g v lv → Fresh H0 v lv → (lv.own = true → ∀ p, v = .ref p → H1 p ≠ none) → (∀ a, H1 a = none → H0 a = none) → LvA K F H g H1 vs lvs → LvA K F H g H0 (v :: vs) (lv :: lvs)
theorem LvA.length {K : PySem.W.Frag} {F : Fz} {H : Hp} {g : G} : ∀ {H0 : Hp} {vs : List V} {lvs : List LV}, LvA K F H g H0 vs lvs → vs.length = lvs.length
  | _, _, _, .nil => rfl
  | _, _, _, .cons _ _ _ _ t => congrArg (· + 1) t.length
def setLs : Rho → List Nat → List LV → Rho
  | ρ, i :: is, lv :: lvs => setLs (ρ.set i (some lv)) is lvs
  | ρ, _, _ => ρ
def setVs : St → List Nat → List V → St
  | σ, i :: is, v :: vs => setVs (σ.set i (some v)) is vs
  | σ, _, _ => σ
theorem LvA.set {K : PySem.W.Frag} {en : Ent} {F : Fz} {H : Hp} {g : G} : ∀ {H0 : Hp} {vs : List V} {lvs : List LV} {is : List Nat} {ρ : Rho} {σ : St}, LvA K F H g H0 vs lvs → PreS K en F H g ρ σ → (∀ j p, Owned ρ σ j p → H0 p ≠ none) → (∀ a, H0 a = none → en.H a = none) →
    PreS K en F H g (setLs ρ is lvs) (setVs σ is vs)
  | _, _, _, [], _, _, .nil, p, _, _ => p
  | _, _, _, [], _, _, .cons _ _ _ _ _, p, _, _ => p
  | _, _, _, _ :: _, _, _, .nil, p, _, _ => p
  | H0, _, _, i :: is, ρ, σ, .cons (H1 := H1) (v := v) (lv := lv) ok fr th mo t, p, ow, he => by
    have he1 : ∀ a, H1 a = none → en.H a = none := fun a h => he a (mo a h)
    cases lv with
    | d x =>
      refine LvA.set (is := is) t (p.set (i := i) ok) (fun j q z => fun e => ow j q z.set (mo q e)) he1
    | ol l =>
      obtain ⟨q, rfl⟩ := ok.ref rfl
      have new : ∀ j, ¬ Owned ρ σ j q := fun j z => ow j q z (fr rfl q rfl)
      refine LvA.set (is := is) t (p.own (i := i) rfl ok new (he q (fr rfl q rfl))) (fun j w z e => ?_) he1
      obtain ⟨l', z1, z2, z3⟩ := z
      by_cases hj : i = j
      · subst hj
        by_cases hl : i < σ.length
        · rw [List.getElem?_set_self hl] at z3
          cases (Option.some.inj (Option.some.inj z3))
          exact th rfl _ rfl e
        · rw [List.getElem?_eq_none (by simpa using hl)] at z3; cases z3
      · rw [List.getElem?_set_ne hj] at z1 z3
        exact ow j w ⟨l', z1, z2, z3⟩ (mo w e)
    | ok ks l =>
      obtain ⟨q, rfl⟩ := ok.ref rfl
      have new : ∀ j, ¬ Owned ρ σ j q := fun j z => ow j q z (fr rfl q rfl)
      refine LvA.set (is := is) t (p.own (i := i) rfl ok new (he q (fr rfl q rfl))) (fun j w z e => ?_) he1
      obtain ⟨l', z1, z2, z3⟩ := z
      by_cases hj : i = j
      · subst hj
        by_cases hl : i < σ.length
        · rw [List.getElem?_set_self hl] at z3
          cases (Option.some.inj (Option.some.inj z3))
          exact th rfl _ rfl e
        · rw [List.getElem?_eq_none (by simpa using hl)] at z3; cases z3
      · rw [List.getElem?_set_ne hj] at z1 z3
        exact ow j w ⟨l', z1, z2, z3⟩ (mo w e)
    | ot ks l =>
      obtain ⟨q, rfl⟩ := ok.ref rfl
      have new : ∀ j, ¬ Owned ρ σ j q := fun j z => ow j q z (fr rfl q rfl)
      refine LvA.set (is := is) t (p.own (i := i) rfl ok new (he q (fr rfl q rfl))) (fun j w z e => ?_) he1
      obtain ⟨l', z1, z2, z3⟩ := z
      by_cases hj : i = j
      · subst hj
        by_cases hl : i < σ.length
        · rw [List.getElem?_set_self hl] at z3
          cases (Option.some.inj (Option.some.inj z3))
          exact th rfl _ rfl e
        · rw [List.getElem?_eq_none (by simpa using hl)] at z3; cases z3
      · rw [List.getElem?_set_ne hj] at z1 z3
        exact ow j w ⟨l', z1, z2, z3⟩ (mo w e)
abbrev EV := Rho → M LV
abbrev EVA := Rho → M (List LV)
def PV (X : Cx) (e : Expr) (f : EV) : Prop := ∃ t, PE X e t ∧ ∀ σ H F ρ g, PreE X.K F H g ρ σ → ∀ lv g', f ρ g = some (lv, g') → ∀ Q : VK,
  (∀ v H' F', Stp X.K g g' F F' H H' → SlotOk X.K F' H' g' v lv → Fresh H v lv → Q v H') → t σ H Q
def PVA (X : Cx) (es : List Expr) (f : EVA) : Prop := ∃ t, PA X es t ∧ ∀ σ H F ρ g, PreE X.K F H g ρ σ → ∀ lvs g', f ρ g = some (lvs, g') → ∀ Q : List V → Hp → Prop,
  (∀ vs H' F', Stp X.K g g' F F' H H' → LvA X.K F' H' g' H vs lvs → Q vs H') → t σ H Q
def vD (f : E) : EV := fun ρ => mb (f ρ) fun d => mr (.d d)
def vL (f : EA) : EV := fun ρ => mb (f ρ) fun d => mr (.ol d)
def vNil : EVA := fun _ => mr []
def vCons (a : EV) (r : EVA) : EVA := fun ρ => mb (a ρ) fun x => mb (r ρ) fun xs => mr (x :: xs)
section
variable {X : Cx} {e : Expr} {es : List Expr} {f : E} {fs : EA} {fv : EV} {fvs : EVA} {pos : Pos}
theorem pv_d (h : PD X e f) : PV X e (vD f) := by
  obtain ⟨t, ht, k⟩ := h
  refine ⟨t, ht, fun σ H F ρ g pre lv g' ev Q q => ?_⟩
  obtain ⟨d, g1, e1, ev⟩ := mb_inv ev
  obtain ⟨rfl, rfl⟩ := mr_inv ev
  exact k σ H F ρ g pre d _ e1 _ fun v H1 F1 s1 r1 => q v H1 F1 s1 r1 fun z => by cases z
theorem pv_ol (h : PO X e fs) : PV X e (vL fs) := by
  obtain ⟨t, ht, k⟩ := h
  refine ⟨t, ht, fun σ H F ρ g pre lv g' ev Q q => ?_⟩
  obtain ⟨d, g1, e1, ev⟩ := mb_inv ev
  obtain ⟨rfl, rfl⟩ := mr_inv ev
  exact k σ H F ρ g pre d _ e1 _ fun p H1 F1 vs s1 n1 n2 n3 n4 n5 n6 => q (.ref p) H1 F1 s1 ⟨p, vs, rfl, n2, n3, n4, n5, n6⟩ fun _ w ew => by cases ew; exact n1
theorem pva_nil : PVA X [] vNil := ⟨_, pa_nil, fun σ H F ρ g pre d g' e Q q => by
  obtain ⟨rfl, rfl⟩ := mr_inv e
  exact q _ H F pre.refl .nil⟩
theorem pva_cons (h : PV X e fv) (hr : PVA X es fvs) (hs : starEach (e :: es) X.env = (false, eval e X.env) :: starEach es X.env := by rfl) : PVA X (e :: es) (vCons fv fvs) := by
  obtain ⟨t, ht, k⟩ := h
  obtain ⟨t2, ht2, k2⟩ := hr
  refine ⟨_, pa_cons ht ht2 hs, fun σ H F ρ g pre d g' e Q q => ?_⟩
  obtain ⟨x, g1, e1, e⟩ := mb_inv e
  obtain ⟨xs, g2, e2, e⟩ := mb_inv e
  obtain ⟨rfl, rfl⟩ := mr_inv e
  refine k σ H F ρ g pre x g1 e1 _ fun v H1 F1 s1 r1 f1 => ?_
  refine k2 σ H1 F1 ρ g1 (pre.step s1) xs _ e2 _ fun vs H2 F2 s2 r2 => ?_
  exact q _ H2 F2 (s1.trans s2) (.cons (r1.step s2) f1 (fun o p ep => by subst ep; exact r1.there o) s1.mono r2)
/-! ### a, b, .. = x, y, .. -/
def sParV (is : List Nat) (f : EVA) : S := fun ρ => mb (f ρ) fun lvs => if lvs.length = is.length then mr (.nx (setLs ρ is lvs)) else mz
theorem par_sem {en : Ent} {σ : St} {F : Fz} {H : Hp} {ρ : Rho} {g : G} {K : PySem.W.Frag} {F1 : Fz} {H1 : Hp} {g1 : G} {vs : List V} {lvs : List LV} (pre : PreS K en F H g ρ σ) (s1 : Stp K g g1 F F1 H H1) (r1 : LvA K F1 H1 g1 H vs lvs) (is : List Nat) :
    PreS K en F1 H1 g1 (setLs ρ is lvs) (setVs σ is vs) :=
  r1.set (pre.step s1) (fun j p z e => by obtain ⟨o, ho⟩ := pre.e.own_some z; rw [ho] at e; cases e) fun a h => pre.st.mono a h
theorem pds_par2 (i j : Nat) {x y : Str} {a b : Expr} {px py pt : Pos} {kt k2 : Nat} {pt2 : Pos} (hc : X.calm = true) (hN : X.N.Nodup) (ha : PVA X [a, b] fvs) (hi : X.N[i]? = some x := by rfl) (hj : X.N[j]? = some y := by rfl) (hij : i ≠ j := by decide)
    (hx : X.env.scope.names.lookup x = some .local := by rfl) (hy : X.env.scope.names.lookup y = some .local := by rfl)
    (hw : swappedStores [.Tuple [.Name x px, .Name y py] kt pt] (.Tuple [a, b] k2 pt2) X.env = pure (some [x, y]) := by rfl)
    (hs : swapsWithSole [.Tuple [.Name x px, .Name y py] kt pt] (.Tuple [a, b] k2 pt2) pos.line X.env = pure false := by rfl) :
    PDS X (.Assign [.Tuple [.Name x px, .Name y py] kt pt] (.Tuple [a, b] k2 pt2) pos) (sParV [i, j] fvs) := by
  obtain ⟨t, p, k⟩ := ha
  refine ⟨_, ps_par hc hN hi hj hij hx hy p hw hs, fun en σ H F ρ g pre fl g' e De post => ?_⟩
  obtain ⟨lvs, g1, e1, e⟩ := mb_inv e
  split at e
  · rename_i hl
    obtain ⟨rfl, rfl⟩ := mr_inv e
    refine k σ H F ρ g pre.e _ _ e1 _ fun vs H1 F1 s1 r1 => ?_
    have hl2 := r1.length
    have fin := par_sem pre s1 r1 [i, j]
    match vs, hl2.trans hl with
    | [v, w], _ => exact ⟨v, w, rfl, post _ H1 F1 fin⟩
  · cases e
theorem pds_par3 (i j l : Nat) {x y z : Str} {a b c : Expr} {px py pz pt : Pos} {kt k2 : Nat} {pt2 : Pos} (hc : X.calm = true) (hN : X.N.Nodup) (ha : PVA X [a, b, c] fvs) (hi : X.N[i]? = some x := by rfl) (hj : X.N[j]? = some y := by rfl) (hl : X.N[l]? = some z := by rfl) (hij : i ≠ j := by decide) (hil : i ≠ l := by decide) (hjl : j ≠ l := by decide)
    (hx : X.env.scope.names.lookup x = some .local := by rfl) (hy : X.env.scope.names.lookup y = some .local := by rfl) (hz : X.env.scope.names.lookup z = some .local := by rfl)
    (hw : swappedStores [.Tuple [.Name x px, .Name y py, .Name z pz] kt pt] (.Tuple [a, b, c] k2 pt2) X.env = pure (some [x, y, z]) := by rfl)
    (hs : swapsWithSole [.Tuple [.Name x px, .Name y py, .Name z pz] kt pt] (.Tuple [a, b, c] k2 pt2) pos.line X.env = pure false := by rfl) :
    PDS X (.Assign [.Tuple [.Name x px, .Name y py, .Name z pz] kt pt] (.Tuple [a, b, c] k2 pt2) pos) (sParV [i, j, l] fvs) := by
  obtain ⟨t, p, k⟩ := ha
  refine ⟨_, ps_par3 hc hN hi hj hl hij hil hjl hx hy hz p hw hs, fun en σ H F ρ g pre fl g' e De post => ?_⟩
  obtain ⟨lvs, g1, e1, e⟩ := mb_inv e
  split at e
  · rename_i hl
    obtain ⟨rfl, rfl⟩ := mr_inv e
    refine k σ H F ρ g pre.e _ _ e1 _ fun vs H1 F1 s1 r1 => ?_
    have hl2 := r1.length
    have fin := par_sem pre s1 r1 [i, j, l]
    match vs, hl2.trans hl with
    | [u, v, w], _ => exact ⟨u, v, w, rfl, post _ H1 F1 fin⟩
  · cases e
/-- the targets are names -/
def PGN (X : Cx) (ts : List Expr) (is : List Nat) : Prop := ∃ t, PGs X ts t ∧ ∀ vs σ H Q, vs.length = is.length → Q (setVs σ is vs) H → t vs σ H Q
theorem pgn_nil : PGN X [] [] := ⟨_, pgs_nil, fun vs σ H Q h q => by
  cases vs with
  | nil => exact ⟨rfl, q⟩
  | cons v vs => cases h⟩
theorem pgn_cons (i : Nat) {x : Str} {ts : List Expr} {is : List Nat} (hN : X.N.Nodup) (h2 : PGN X ts is) (hi : X.N[i]? = some x := by rfl) (hx : Loc X.env.scope x := by first | exact Or.inl rfl | exact Or.inr rfl)
    (hf : X.fn x = true ∨ X.env.scope.names.lookup x = some .local := by first | exact .inl rfl | exact .inr rfl | assumption)
    (hs : (assignEach (.Name x pos :: ts) X.env).map (·.2) = assign (.Name x pos) X.env :: (assignEach ts X.env).map (·.2) := by rfl) : PGN X (.Name x pos :: ts) (i :: is) := by
  obtain ⟨t, p, k⟩ := h2
  refine ⟨_, pgs_cons (pg_name hN hi hx hf) p hs, fun vs σ H Q h q => ?_⟩
  cases vs with
  | nil => cases h
  | cons v vs => exact ⟨v, vs, rfl, k vs _ H Q (by simpa using h) q⟩
theorem pds_parN {ts es : List Expr} {is : List Nat} {kt k2 : Nat} {pt pt2 : Pos} (hc : X.calm = true) (ht : PGN X ts is) (ha : PVA X es fvs) (hw : swappedStores [.Tuple ts kt pt] (.Tuple es k2 pt2) X.env = pure none := by rfl)
    (hs : swapsWithSole [.Tuple ts kt pt] (.Tuple es k2 pt2) pos.line X.env = pure false := by rfl) (h1 : (assignEach [.Tuple ts kt pt] X.env).map (·.2) = [assign (.Tuple ts kt pt) X.env] := by rfl)
    (hn : (assignEach ts X.env).length = is.length := by rfl) (hst : (assignEach ts X.env).findIdx? (·.1) = none := by rfl) (hz : is.length ≤ sizeLine := by decide) :
    PDS X (.Assign [.Tuple ts kt pt] (.Tuple es k2 pt2) pos) (sParV is fvs) := by
  obtain ⟨t, p, k⟩ := ha
  obtain ⟨tg, pg, kg⟩ := ht
  refine ⟨_, ps_asg (pe_tup p) (pg_tup (n := is.length) hc pg hn hst) hs hw h1, fun en σ H F ρ g pre fl g' e De post => ?_⟩
  obtain ⟨lvs, g1, e1, e⟩ := mb_inv e
  split at e
  · rename_i hl
    obtain ⟨rfl, rfl⟩ := mr_inv e
    refine k σ H F ρ g pre.e _ _ e1 _ fun vs H1 F1 s1 r1 => ⟨by rw [r1.length, hl]; exact hz, fun p hp => ?_⟩
    have hl2 := r1.length
    have fin := par_sem pre s1 r1 is
    refine ⟨p, vs, rfl, .of upd_same, hl2.trans hl, kg vs σ _ _ (hl2.trans hl) (post _ _ F1 ?_)⟩
    exact fin.step (.allocO s1.sub s1.rep hp)
  · cases e
end
end PD
end
section
set_option Elab.async false
set_option linter.all false
set_option maxRecDepth 100000
set_option maxHeartbeats 4000000
set_option autoImplicit false
namespace PD
open PySem PySem.Spec L2
open PyProof.Rows hiding St

/-! ### tuples of ints of any lengths, sorted -/
def IsTI (h : Heap) (v : Value) (ns : List Int) : Prop := ∃ a o us n, v = .ref a ∧ h.get? a = some o ∧ o.cls = .type "tuple" ∧ o.data = .seq (List.toArray us) n ∧ IntsAre us ns
theorem IsTI.keeps {h h' : Heap} {v : Value} {ns : List Int} (x : IsTI h v ns) (k : ∀ b o, h.get? b = some o → o.cls = .type "tuple" → h'.get? b = some o) : IsTI h' v ns := by
  obtain ⟨a, o, us, n, h1, h2, h3, h4, h5⟩ := x
  exact ⟨a, o, us, n, h1, k a o h2 h3, h3, h4, h5⟩
section
variable {prog : Program} {w : World} {A : Around} {E : Value → Shared → Prop} {s : Shared}
theorem ti_lex : ∀ {us ws : List Value} {ns ms : List Int} {fin : Bool} {Q : Bool → Shared → Prop} (i : Nat), IntsAre us ns → IntsAre ws ms → fin = decide (ns.length < ms.length) → Q (HT.lexLt ns ms) s → PySem.W.KatLex prog w A true fin Q (us.zip ws) i s
  | [], [], _, _, fin, Q, i, .nil, .nil, hf, q => PySem.W.kat_nil (by rw [hf]; exact q)
  | [], _ :: _, _, _, fin, Q, i, .nil, .cons y u hb, hf, q => PySem.W.kat_nil (by rw [hf]; simpa [HT.lexLt] using q)
  | _ :: _, [], _, _, fin, Q, i, .cons x t ha, .nil, hf, q => PySem.W.kat_nil (by rw [hf]; simpa [HT.lexLt] using q)
  | _ :: us, _ :: ws, _, _, fin, Q, i, .cons (ns := ns) x t ha, .cons (ns := ms) y u hb, hf, q => by
    rw [HT.lexLt_cons] at q
    rw [List.zip_cons_cons]
    refine PySem.W.kat_cons (SeqAt.EqAt.int_int x t y u prog w _ _ ?_)
    refine PySem.W.kat_go (fun e1 => ?_) (fun e1 => ?_)
    · have ex : x = y := by simpa using e1
      rw [if_pos ex] at q
      exact PySem.W.kat_yes (ti_lex (i + 1) ha hb (by rw [hf]; simp) q)
    · have ex : ¬ x = y := by simpa using e1
      rw [if_neg ex] at q
      refine PySem.W.kat_no ?_
      cases i with
      | zero => exact oneLt_int q
      | succ i => exact PySem.W.kat_one _ _ (PyProof.Rows.lt_int q)
abbrev ltT (k : Value → List Int) (x y : Value) : Bool := HT.lexLt (k x) (k y)
theorem swoT {α : Type} (k : α → List Int) : SrtO.Swo fun x y => HT.lexLt (k x) (k y) := ⟨fun x y => NtL.lex_asym (k x) (k y), fun x y z => NtL.lex_tr (k x) (k y) (k z)⟩
theorem ti_cmp {vs : List Value} {k : Value → List Int} (hp : ∀ v ∈ vs, IsTI s.heap v (k v)) : SrtO.Cmp prog w A s (tuples' true) (fun p => p.1 ∈ vs) (SrtO.lt2 (ltT k)) := by
  intro p q hm hm'
  obtain ⟨a, o, us, n, e, ho, hc, hd, hi⟩ := hp _ hm
  obtain ⟨a', o', us', n', e', ho', hc', hd', hi'⟩ := hp _ hm'
  show wpAny (model prog w) A (keyLt' (tuples' true) p.1 q.1) (fun r s' => s' = s ∧ r = HT.lexLt (k p.1) (k q.1)) (fun _ _ => False) s
  generalize k p.1 = ns at hi ⊢
  generalize k q.1 = ms at hi' ⊢
  rw [e, e']
  refine PySem.W.kat_lt ho hd ho' hd' ?_
  exact ti_lex 0 hi hi' (by simp [hi.length, hi'.length]) ⟨rfl, rfl⟩
theorem ti_firsts {h : Heap} {k : Value → List Int} : ∀ {vs : List Value}, (∀ v ∈ vs, IsTI h v (k v) ∧ k v ≠ []) → ∃ fs : List Value, PySem.W.KatTups h vs fs ∧ fs.length = vs.length ∧ ∀ f ∈ fs, ∃ x t, f = Value.int x t
  | [], _ => ⟨[], PySem.W.KatTups.nil, rfl, fun _ hm => by simp at hm⟩
  | v :: vs, hp => by
    obtain ⟨fs, h1, h2, h3⟩ := ti_firsts (vs := vs) fun v' hm => hp v' (List.mem_cons_of_mem _ hm)
    obtain ⟨⟨a, o, us, n, e, ho, hc, hd, hi⟩, hne⟩ := hp v (List.mem_cons_self ..)
    generalize k v = ns at hi hne
    subst e
    cases hi with
    | nil => exact absurd rfl hne
    | cons x t hr =>
      refine ⟨.int x t :: fs, PySem.W.KatTups.cons ho hc hd rfl h1, by rw [List.length_cons, List.length_cons, h2], fun f hm => ?_⟩
      rcases List.mem_cons.mp hm with rfl | hm
      · exact ⟨x, t, rfl⟩
      · exact h3 f hm
theorem ti_sortable {a : Addr} {vs : List Value} {k : Value → List Int} (h0 : 0 < vs.length) (hp : ∀ v ∈ vs, IsTI s.heap v (k v) ∧ k v ≠ []) (ha : ∀ o, s.heap.get? a = some o → o.cls ≠ .type "tuple") : SrtO.SortableO prog w A s a vs (ltT k) := by
  intro h' keep
  have hp' : ∀ v ∈ vs, IsTI h' v (k v) ∧ k v ≠ [] := fun v hm => ⟨(hp v hm).1.keeps fun b o e c => keep b o (fun z => by subst z; exact ha o e c) e, (hp v hm).2⟩
  obtain ⟨fs, h1, h2, h3⟩ := ti_firsts hp'
  refine ⟨tuples' true, fun Q E hq => ?_, ti_cmp fun v hm => (hp' v hm).1⟩
  refine PySem.W.kat_kind (T := .type "int") h1 (by omega) (fun f hm => ?_) (by rfl) ?_
  · obtain ⟨x, t, rfl⟩ := h3 f hm
    exact PySem.W.Looks.now
  · have e : (Value.type "int" != Value.type "tuple") = true := by first | decide +kernel | rfl | decide
    rw [e]
    exact hq
end
def rSrtT (K : PySem.W.Frag) : List V → Hp → VK → Prop := fun vs H Q => ∃ (a : Addr) (zs : List (Addr × List Int)), vs = [V.ref a] ∧ SqL K H a (zs.map fun z => V.ref z.1) ∧ (∀ z ∈ zs, z.2 ≠ [] ∧ SqT K H z.1 (z.2.map V.int)) ∧
  ∀ ys p, SrtO.Srtd (fun x y : Addr × List Int => HT.lexLt x.2 y.2) ys → SrtO.Stb (fun x y : Addr × List Int => HT.lexLt x.2 y.2) ys zs → H p = none → Q (.ref p) (upd H p (.lst (ys.map fun z => V.ref z.1)))
/-- the ints that stand there -/
def readTI (h : Heap) : Value → Addr × List Int
  | .ref a => (a, match h.get? a with
    | some o => match o.data with
      | .seq us _ => us.toList.map SrtO.iv
      | _ => []
    | none => [])
  | _ => (0, [])
theorem refs_of {zs : List (Addr × List Int)} : ∀ {us : List Value}, Vals (zs.map fun z => V.ref z.1) us → us = zs.map fun z => Value.ref z.1 := by
  induction zs with
  | nil => intro us r; cases r; rfl
  | cons z zs ih =>
    intro us r
    cases r with
    | cons r t => cases r; rw [ih t]; rfl
theorem of_refs : ∀ zs : List (Addr × List Int), Vals (zs.map fun z => V.ref z.1) (zs.map fun z => Value.ref z.1)
  | [] => .nil
  | z :: zs => .cons rfl (of_refs zs)
section
variable {X : Cx}
theorem cr_srtT : CallR X (.builtin "sorted") (rSrtT X.K) := by
  intro pins s σ H vs us Q I r h
  obtain ⟨a, zs, rfl, hs, hx, q⟩ := h
  obtain ⟨its, rv, hl, hz⟩ := I.list hs
  rw [Vals.ref1 r]
  have hits := refs_of rv
  have hp0 : ∀ z ∈ zs, readTI s.heap (.ref z.1) = z ∧ IsTI s.heap (.ref z.1) z.2 := fun z hzm => by
    obtain ⟨its2, r2, ⟨o, ho, hc, n, hd⟩, _⟩ := I.tuple (hx z hzm).2
    refine ⟨?_, z.1, o, its2, n, rfl, ho, hc, hd, r2.ints⟩
    unfold readTI
    simp only [ho, hd]
    rw [SrtO.iv_ints r2.ints]
  have hp : ∀ v ∈ its, IsTI s.heap v (readTI s.heap v).2 ∧ (readTI s.heap v).2 ≠ [] := fun v hv => by
    rw [hits] at hv
    obtain ⟨z, hzm, rfl⟩ := List.mem_map.mp hv
    rw [(hp0 z hzm).1]
    exact ⟨(hp0 z hzm).2, (hx z hzm).1⟩
  refine SrtO.sorted_ord (swoT fun v => (readTI s.heap v).2) hl.isList (by rw [← rv.length]; exact hz) (fun h2 h₁ a' ha kk => ?_) fun out h1 h2 => ?_
  · refine ti_sortable (s := { s with heap := h₁ }) (k := fun v => (readTI s.heap v).2) (by omega) (fun v hm => ⟨(hp v hm).1.keeps fun b o e _ => (kk b o e).2, (hp v hm).2⟩) fun o e => ?_
    have e' : some o = some (seqObj "list" its.toArray 0) := e.symm.trans ha
    cases e'
    intro c
    exact absurd (Value.type.inj c) (by decide)
  · obtain ⟨ep, he'⟩ := PyProof.Rows.sortedAll_at s.heap its out.toArray
    have ez : zs = its.map (readTI s.heap) := by
      rw [hits, List.map_map]
      exact (List.map_id zs).symm.trans (List.map_congr_left fun z hzm => (hp0 z hzm).1.symm)
    have hb : SrtO.Stb (fun x y : Addr × List Int => HT.lexLt x.2 y.2) (out.map (readTI s.heap)) zs := by
      rw [ez]
      exact SrtO.Stb.map (swoT fun z : Addr × List Int => z.2) (readTI s.heap) h2
    have eo : out = (out.map (readTI s.heap)).map fun z => Value.ref z.1 := by
      rw [List.map_map]
      refine (List.map_id out).symm.trans (List.map_congr_left fun v hv => ?_)
      have hv2 : v ∈ its := h2.perm.mem_iff.mp hv
      rw [hits] at hv2
      obtain ⟨z, _, rfl⟩ := List.mem_map.mp hv2
      rfl
    refine ⟨.ref _, upd H (s.heap.objs.size + 1) (.lst ((out.map (readTI s.heap)).map fun z => V.ref z.1)), I.laid (t' := s.toks) (fun _ _ => PyProof.Rows.sortedAll_old) (Nat.le_succ _) ⟨?_, out, ep, ?_, he'⟩, rfl, q _ _ (SrtO.srtd_map h1) hb (I.hok.fresh (Nat.le_succ _))⟩
    · rw [List.length_map, hb.len]
      simpa using hz
    · conv => rhs; rw [eo]
      exact of_refs _
end
/-! ### the sort by data -/
def ltB (x y : D) : Bool := match ltD x y with
  | some b => b
  | none => false
def insD (x : D) : List D → List D
  | [] => [x]
  | y :: ys => if ltB x y = true then x :: y :: ys else y :: insD x ys
/-- from the left, behind the equal ones -/
def isoD (l : List D) : List D := l.foldl (fun acc x => insD x acc) []
def isInt : D → Bool
  | .int _ => true
  | _ => false
def isStr : D → Bool
  | .str _ => true
  | _ => false
def isTI : D → Bool
  | .tup [] => false
  | .tup l => l.all isInt
  | _ => false
def sortD (l : List D) : Option (List D) := if (l.all isInt || l.all isStr || l.all isTI) = true then some (isoD l) else none
theorem isInt_all : ∀ {l : List D}, l.all isInt = true → ∃ ns : List Int, l = ns.map D.int
  | [], _ => ⟨[], rfl⟩
  | .int i :: l, h => by
    obtain ⟨ns, e⟩ := isInt_all (l := l) (by simpa [isInt] using h)
    exact ⟨i :: ns, by rw [e]; rfl⟩
  | .non :: l, h => by simp [isInt] at h
  | .bl _ :: l, h => by simp [isInt] at h
  | .str _ :: l, h => by simp [isInt] at h
  | .tup _ :: l, h => by simp [isInt] at h
  | .lst _ :: l, h => by simp [isInt] at h
  | .dk _ _ :: l, h => by simp [isInt] at h
  | .dt _ _ :: l, h => by simp [isInt] at h
  | .hd _ :: l, h => by simp [isInt] at h
  | .tx _ :: l, h => by simp [isInt] at h
theorem isStr_all : ∀ {l : List D}, l.all isStr = true → ∃ ns : List Str, l = ns.map D.str
  | [], _ => ⟨[], rfl⟩
  | .str i :: l, h => by
    obtain ⟨ns, e⟩ := isStr_all (l := l) (by simpa [isStr] using h)
    exact ⟨i :: ns, by rw [e]; rfl⟩
  | .non :: l, h => by simp [isStr] at h
  | .bl _ :: l, h => by simp [isStr] at h
  | .int _ :: l, h => by simp [isStr] at h
  | .tup _ :: l, h => by simp [isStr] at h
  | .lst _ :: l, h => by simp [isStr] at h
  | .dk _ _ :: l, h => by simp [isStr] at h
  | .dt _ _ :: l, h => by simp [isStr] at h
  | .hd _ :: l, h => by simp [isStr] at h
  | .tx _ :: l, h => by simp [isStr] at h
/-- the insertion by any order -/
def insG {α : Type} (lt : α → α → Bool) (x : α) : List α → List α
  | [] => [x]
  | y :: ys => if lt x y = true then x :: y :: ys else y :: insG lt x ys
def isoG {α : Type} (lt : α → α → Bool) (l : List α) : List α := l.foldl (fun acc x => insG lt x acc) []
section
variable {α : Type} {lt : α → α → Bool}
theorem insG_split (x : α) : ∀ l : List α, ∃ M N, l = M ++ N ∧ insG lt x l = M ++ x :: N ∧ (∀ y ∈ M, lt x y = false) ∧ (N = [] ∨ ∃ y N', N = y :: N' ∧ lt x y = true)
  | [] => ⟨[], [], rfl, rfl, fun _ h => absurd h (by simp), .inl rfl⟩
  | y :: ys => by
    unfold insG
    by_cases h : lt x y = true
    · rw [if_pos h]
      exact ⟨[], y :: ys, rfl, rfl, fun _ h => absurd h (by simp), .inr ⟨y, ys, rfl, h⟩⟩
    · rw [if_neg h]
      obtain ⟨M, N, e1, e2, h1, h2⟩ := insG_split x ys
      refine ⟨y :: M, N, by rw [e1]; rfl, by rw [e2]; rfl, fun z hz => ?_, h2⟩
      rcases List.mem_cons.mp hz with rfl | hz
      · cases q : lt x z with
        | true => exact absurd q h
        | false => rfl
      · exact h1 z hz
theorem insG_ok (O : SrtO.Swo lt) (x : α) {l O1 : List α} (hs : SrtO.Srtd lt l) (hb : SrtO.Stb lt l O1) : SrtO.Srtd lt (insG lt x l) ∧ SrtO.Stb lt (insG lt x l) (O1 ++ [x]) := by
  obtain ⟨M, N, e1, e2, h1, h2⟩ := insG_split (lt := lt) x l
  have h3 : ∀ y ∈ N, lt x y = true := by
    rcases h2 with rfl | ⟨y, N', rfl, hy⟩
    · exact fun y h => absurd h (by simp)
    · subst e1
      exact O.lt_all (SrtO.srtd_app.mp hs).2.1 hy
  rw [e2]
  subst e1
  exact ⟨SrtO.ins_srtd O hs h1 h3, SrtO.ins_stb O h3 hb⟩
theorem isoG_ok (O : SrtO.Swo lt) (l : List α) : SrtO.Srtd lt (isoG lt l) ∧ SrtO.Stb lt (isoG lt l) l := by
  have go : ∀ (l acc O1 : List α), SrtO.Srtd lt acc → SrtO.Stb lt acc O1 → SrtO.Srtd lt (l.foldl (fun acc x => insG lt x acc) acc) ∧ SrtO.Stb lt (l.foldl (fun acc x => insG lt x acc) acc) (O1 ++ l) := by
    intro l
    induction l with
    | nil => intro acc O1 h1 h2; exact ⟨h1, by simpa using h2⟩
    | cons x l ih =>
      intro acc O1 h1 h2
      obtain ⟨h3, h4⟩ := insG_ok O x h1 h2
      have := ih _ _ h3 h4
      simpa using this
  simpa [isoG] using go l [] [] List.Pairwise.nil (SrtO.Stb.refl [])
theorem isoG_uniq (O : SrtO.Swo lt) {l m : List α} (hs : SrtO.Srtd lt m) (hb : SrtO.Stb lt m l) : m = isoG lt l := by
  obtain ⟨h1, h2⟩ := isoG_ok O l
  refine SrtO.stb_uniq O hs h1 (hb.trans ⟨h2.perm.symm, fun x => (h2.cls x).symm⟩)
/-- where equal ones are the same, a rearrangement is enough -/
theorem stb_perm (hu : ∀ x y : α, lt x y = false → lt y x = false → x = y) (O : SrtO.Swo lt) {l m : List α} (h : l.Perm m) : SrtO.Stb lt l m := by
  refine ⟨h, fun x => ?_⟩
  have e : ∀ k : List α, k.filter (SrtO.eqv lt x) = List.replicate (k.filter (SrtO.eqv lt x)).length x := fun k => by
    refine List.eq_replicate_iff.mpr ⟨rfl, fun y hy => ?_⟩
    obtain ⟨h1, h2⟩ := SrtO.eqv_iff.mp (List.mem_filter.mp hy).2
    exact (hu x y h1 h2).symm
  rw [e l, e m, (h.filter _).length_eq]
theorem insG_map {β : Type} {lt' : β → β → Bool} (f : α → β) (hf : ∀ x y, lt' (f x) (f y) = lt x y) (x : α) : ∀ l : List α, insG lt' (f x) (l.map f) = (insG lt x l).map f
  | [] => rfl
  | y :: ys => by
    rw [List.map_cons]
    unfold insG
    rw [hf]
    by_cases h : lt x y = true
    · rw [if_pos h, if_pos h]; rfl
    · rw [if_neg h, if_neg h, insG_map f hf x ys]; rfl
theorem isoG_map {β : Type} {lt' : β → β → Bool} (f : α → β) (hf : ∀ x y, lt' (f x) (f y) = lt x y) (l : List α) : isoG lt' (l.map f) = (isoG lt l).map f := by
  have go : ∀ (l acc : List α), (l.map f).foldl (fun acc x => insG lt' x acc) (acc.map f) = (l.foldl (fun acc x => insG lt x acc) acc).map f := by
    intro l
    induction l with
    | nil => intro acc; rfl
    | cons x l ih =>
      intro acc
      rw [List.map_cons, List.foldl_cons, List.foldl_cons, insG_map f hf, ih]
  exact go l []
end
theorem insD_eq (x : D) : ∀ l, insD x l = insG ltB x l
  | [] => rfl
  | y :: ys => by unfold insD insG; rw [insD_eq x ys]
theorem isoD_eq (l : List D) : isoD l = isoG ltB l := by
  unfold isoD isoG
  congr 1
  funext acc x
  exact insD_eq x acc
theorem swoI : SrtO.Swo fun x y : Int => decide (x < y) := ⟨fun x y h => by simp at h ⊢; omega, fun x y z h1 h2 => by simp at h1 h2 ⊢; omega⟩
theorem isoI {ns ns' : List Int} (h1 : ns'.Perm ns) (h2 : ns'.Pairwise (· ≤ ·)) : isoD (ns.map D.int) = ns'.map D.int := by
  rw [isoD_eq, isoG_map (lt := fun x y : Int => decide (x < y)) D.int (fun x y => rfl)]
  congr 1
  exact (isoG_uniq swoI (h2.imp fun {x y} h => by simpa using h) (stb_perm (fun x y h1 h2 => by simp at h1 h2; omega) swoI h1)).symm
theorem str_irr (x : Str) : ¬ x.cps.toList < x.cps.toList := List.lt_irrefl _
theorem swoS : SrtO.Swo fun x y : Str => decide (x.cps.toList < y.cps.toList) := by
  refine ⟨fun x y h => ?_, fun x y z h1 h2 => ?_⟩
  · simp only [decide_eq_true_eq, decide_eq_false_iff_not] at h ⊢
    exact List.lt_asymm h
  · simp only [decide_eq_false_iff_not, List.not_lt] at h1 h2 ⊢
    exact List.le_trans h1 h2
theorem sortedS_pw : ∀ {l : List Str}, sortedS l = true → l.Pairwise fun x y => decide (y.cps.toList < x.cps.toList) = false
  | [], _ => .nil
  | x :: r, h => by
    have h : risingS x r = true := h
    induction r generalizing x with
    | nil => exact List.pairwise_singleton _ _
    | cons y r ih =>
      obtain ⟨h1, h2⟩ := Bool.and_eq_true_iff.mp (show (!ltCps y.cps.toList x.cps.toList && risingS y r) = true from h)
      have hy := ih y h2 h2
      have h1 : decide (y.cps.toList < x.cps.toList) = false := by rw [← ltCps_eq]; simpa using h1
      refine List.pairwise_cons.mpr ⟨fun z hz => ?_, hy⟩
      rcases List.mem_cons.mp hz with rfl | hz
      · exact h1
      · exact swoS.tr x y z h1 ((List.pairwise_cons.mp hy).1 z hz)
theorem isoS {ns ns' : List Str} (h1 : ns'.Perm ns) (h2 : sortedS ns' = true) : isoD (ns.map D.str) = ns'.map D.str := by
  rw [isoD_eq, isoG_map (lt := fun x y : Str => decide (x.cps.toList < y.cps.toList)) D.str (fun x y => rfl)]
  congr 1
  refine (isoG_uniq swoS (sortedS_pw h2) (stb_perm (fun x y h1 h2 => ?_) swoS h1)).symm
  simp only [decide_eq_false_iff_not, List.not_lt] at h1 h2
  have := List.le_antisymm h2 h1
  cases x; cases y
  simp only [Str.mk.injEq]
  exact Array.toList_inj.mp this
def rSrtS (K : PySem.W.Frag) : List V → Hp → VK → Prop := fun vs H Q => ∃ (a : Addr) (xs : List Str), vs = [V.ref a] ∧ SqL K H a (xs.map V.str) ∧
  ∀ (ys : List Str) (p : Addr), ys.Perm xs → sortedS ys = true → H p = none → Q (.ref p) (upd H p (.lst (ys.map V.str)))
theorem cr_srtS {X : Cx} : CallR X (.builtin "sorted") (rSrtS X.K) := by
  intro pins s σ H vs us Q I r h
  obtain ⟨a, xs, rfl, hs, q⟩ := h
  obtain ⟨its, rv, hl, hz⟩ := I.list hs
  rw [Vals.ref1 r]
  have hlen0 := rv.length
  rw [List.length_map] at hlen0 hz
  refine PyProof.Rows.sorted_strsAny hl.isList rv.strs (by rw [← hlen0]; exact hz) fun out ys h1 h2 h3 => ?_
  obtain ⟨ep, he'⟩ := PyProof.Rows.sortedAll_at s.heap its out
  have hlen : (ys.map V.str).length ≤ sizeLine := by rw [List.length_map, h2.length_eq]; exact hz
  exact ⟨.ref _, upd H (s.heap.objs.size + 1) (.lst (ys.map V.str)), I.laid (t' := s.toks) (fun _ _ => PyProof.Rows.sortedAll_old) (Nat.le_succ _) ⟨hlen, out.toList, ep, vals_of_strs h1, he'⟩, rfl, q ys _ h2 h3 (I.hok.fresh (Nat.le_succ _))⟩
abbrev rSrt (K : PySem.W.Frag) : List V → Hp → VK → Prop := fun vs H Q => rSortedI K vs H Q ∨ (rSrtS K vs H Q ∨ rSrtT K vs H Q)
theorem cr_srt {X : Cx} : CallR X (.builtin "sorted") (rSrt X.K) := fun pins s σ H vs us Q I r h => h.elim (cr_sortedI pins s σ H vs us Q I r) fun h => h.elim (cr_srtS pins s σ H vs us Q I r) (cr_srtT pins s σ H vs us Q I r)
def sortedM (ds : List D) : Option D := match ds with
  | [.lst l] => (sortD l).map D.lst
  | _ => none
theorem isTI_ints {d : D} (h : isTI d = true) : ∃ ns : List Int, ns ≠ [] ∧ d = .tup (ns.map D.int) := by
  unfold isTI at h
  split at h
  · cases h
  · rename_i l hl
    obtain ⟨ns, rfl⟩ := isInt_all h
    exact ⟨ns, fun e => hl (by rw [e]; rfl), rfl⟩
  · cases h
theorem isTI_all : ∀ {l : List D}, l.all isTI = true → ∃ ns : List (List Int), (∀ n ∈ ns, n ≠ []) ∧ l = ns.map fun n => D.tup (n.map D.int)
  | [], _ => ⟨[], fun _ h => absurd h (by simp), rfl⟩
  | d :: l, h => by
    rw [List.all_cons, Bool.and_eq_true] at h
    obtain ⟨n, h1, rfl⟩ := isTI_ints h.1
    obtain ⟨ns, h2, rfl⟩ := isTI_all h.2
    exact ⟨n :: ns, fun m hm => (List.mem_cons.mp hm).elim (fun e => by rw [e]; exact h1) (h2 m), rfl⟩
theorem ltB_ti (x y : List Int) : ltB (.tup (x.map D.int)) (.tup (y.map D.int)) = HT.lexLt x y := by
  unfold ltB ltD
  simp only [tupInts_map]
theorem rpA_ti {K : PySem.W.Frag} {F : Fz} : ∀ {xs : List V} {ns : List (List Int)}, RpA K F xs (ns.map fun n => D.tup (n.map D.int)) → ∃ zs : List (Addr × List Int), xs = zs.map (fun z => V.ref z.1) ∧ ns = zs.map (·.2) ∧ ∀ z ∈ zs, SqT K F z.1 (z.2.map V.int) ∧ Rp K F (.ref z.1) (.tup (z.2.map D.int))
  | _, [], h => by cases h; exact ⟨[], rfl, rfl, fun _ h => absurd h (by simp)⟩
  | _, n :: ns, h => by
    cases h with
    | cons r t =>
      obtain ⟨zs, rfl, rfl, h3⟩ := rpA_ti t
      obtain ⟨a, vs, rfl, h4, h5, h6⟩ := rp_tup r
      have := h6.ints
      subst this
      refine ⟨(a, n) :: zs, rfl, rfl, fun z hz => ?_⟩
      rcases List.mem_cons.mp hz with rfl | hz
      · exact ⟨h4, r⟩
      · exact h3 z hz
theorem rpA_of_mem {K : PySem.W.Frag} {F : Fz} : ∀ {zs : List (Addr × List Int)}, (∀ z ∈ zs, Rp K F (.ref z.1) (.tup (z.2.map D.int))) → RpA K F (zs.map fun z => V.ref z.1) (zs.map fun z => D.tup (z.2.map D.int))
  | [], _ => .nil
  | z :: zs, h => .cons (h z List.mem_cons_self) (rpA_of_mem fun y hy => h y (List.mem_cons_of_mem _ hy))
theorem sortedM_ok {K : PySem.W.Frag} : CallD K (rSrt K) sortedM := fun F H g vs ds d s r rv e Q q => by
  unfold sortedM at e
  split at e
  · rename_i l
    obtain ⟨m, e2, rfl⟩ := Option.map_eq_some_iff.mp e
    cases rv with
    | cons rl t =>
      cases t
      obtain ⟨a, xs, rfl, h1, h2, h3⟩ := rp_lst rl
      unfold sortD at e2
      split at e2
      · rename_i hk
        cases e2
        simp only [Bool.or_eq_true] at hk
        have fin : ∀ {ys : List V} {p : Addr}, H p = none → ys.length = xs.length → RpA K F ys (isoD l) → Q (.ref p) (upd H p (.lst ys)) := fun {ys p} hp hl hr =>
          q _ _ _ (.alloc s r hp) (rp_new_lst (s.free hp) (by rw [← hr.length, hl]; exact h2) hr)
        rcases hk with (hk | hk) | hk
        · obtain ⟨ns, rfl⟩ := isInt_all hk
          have := h3.ints
          subst this
          refine .inl ⟨a, ns, rfl, sqL_mono s h1, fun ns' p p1 p2 hp => fin hp (by simp [p1.length_eq]) ?_⟩
          rw [isoI p1 p2]
          exact RpA.ofInts ns'
        · obtain ⟨ns, rfl⟩ := isStr_all hk
          have e3 := h3.strs
          subst e3
          refine .inr (.inl ⟨a, ns, rfl, sqL_mono s h1, fun ns' p p1 p2 hp => fin hp (by simp [p1.length_eq]) ?_⟩)
          rw [isoS p1 p2]
          refine RpA.ofStrs ns' fun x hx => ?_
          have hx2 := p1.mem_iff.mp hx
          obtain ⟨i, hi⟩ := List.getElem?_of_mem hx2
          obtain ⟨v, _, hv⟩ := h3.get (i := i) (d := .str x) (by rw [List.getElem?_map, hi]; rfl)
          exact (rp_str hv).2
        · obtain ⟨ns, hne, rfl⟩ := isTI_all hk
          obtain ⟨zs, rfl, rfl, hz⟩ := rpA_ti h3
          refine .inr (.inr ⟨a, zs, rfl, sqL_mono s h1, fun z hzm => ⟨hne _ (List.mem_map_of_mem hzm), sqT_mono s (hz z hzm).1⟩, fun ys p p1 p2 hp => fin hp (by simp [p2.len]) ?_⟩)
          have e4 : isoD ((zs.map (·.2)).map fun n => D.tup (n.map D.int)) = ys.map fun z => D.tup (z.2.map D.int) := by
            rw [List.map_map, isoD_eq]
            have := isoG_map (lt := fun x y : Addr × List Int => HT.lexLt x.2 y.2) (lt' := ltB) (fun z : Addr × List Int => D.tup (z.2.map D.int)) (fun x y => ltB_ti x.2 y.2) zs
            refine Eq.trans this ?_
            rw [← isoG_uniq (swoT fun z : Addr × List Int => z.2) p1 p2]
          rw [e4]
          exact rpA_of_mem fun z hz2 => (hz z (p2.perm.mem_iff.mp hz2)).2
      · cases e2
  · cases e
section
variable {X : Cx} {e : Expr} {fs : EA} {p pos : Pos}
theorem pd_sorted (hm : X.mg "sorted" = none) (ha : PDA X [e] fs) (hg : Gl X "sorted" := by rfl) (he : starEach [e] X.env = (false, eval e X.env) :: starEach [] X.env := by rfl) : PD X (.Call (.Name "sorted" p) [e] [] pos) (eBi sortedM fs) :=
  pd_biD cr_srt sortedM_ok hm ha (by decide +kernel) hg (by decide) (by decide) he (by rfl)
end
end PD
end
section
set_option Elab.async false
set_option linter.all false
set_option maxRecDepth 100000
set_option maxHeartbeats 4000000
set_option autoImplicit false
namespace PD
open PySem PySem.Spec L2
open PyProof.Rows hiding St

/-! ### two clauses -/
def lc2L (bd : B) (t : T) (it1 : EA) (vs1 : List Nat) (bd1 : B) (t1 : T) (e : E) (ρ : Rho) : List D → M (List D)
  | [] => mr []
  | d :: ds => match bd d ρ with
    | none => mz
    | some ρ' => mb (t ρ') fun b => if b = true then mb (it1 ρ') fun ds1 => mb (lcL bd1 t1 e (wipeR ρ' vs1) ds1) fun xs => mb (lc2L bd t it1 vs1 bd1 t1 e ρ ds) fun ys => mr (xs ++ ys) else lc2L bd t it1 vs1 bd1 t1 e ρ ds
def eLc2A (vs vs1 : List Nat) (it : EA) (bd : B) (t : T) (it1 : EA) (bd1 : B) (t1 : T) (e : E) : EA := fun ρ => mb (it ρ) fun ds => mb (lc2L bd t it1 vs1 bd1 t1 e (wipeR ρ vs) ds) fun xs => if xs.length ≤ sizeLine then mr xs else mz
/-- the reading of an iterable, in one form -/
def tIF (K : PySem.W.Frag) (f : EA) : TI := fun σ H R => ∃ F ρ g ds g', PreE K F H g ρ σ ∧ f ρ g = some (ds, g') ∧ ∀ J H' F', Stp K g g' F F' H H' → ItS K J F'.h F' ds → R J H'
theorem PDI.can {X : Cx} {tg e : Expr} {f : EA} (h : PDI X tg e f) : PI X tg e (tIF X.K f) := by
  obtain ⟨wi, hw, k⟩ := h
  exact ⟨fun pins s σ H R I ⟨F, ρ, g, ds, g', pre, e, q⟩ => hw.run pins s σ H R I (k σ H F ρ g pre ds g' e R q)⟩
def both (F W : Hp) : Hp := fun a => match F a with
  | some o => some o
  | none => W a
theorem both_some {F W : Hp} {a : Addr} {o : HO} : both F W a = some o ↔ F a = some o ∨ (F a = none ∧ W a = some o) := by
  unfold both
  cases F a with
  | none => simp
  | some u => simp
theorem lc2_sem {K : PySem.W.Frag} {wi : TI} {sl vs sl1 vs1 : List Nat} {bd bd1 : B} {t t1 : T} {e : E} {it it1 : EA} {σ : St} {F : Fz} {H0 : Hp} {ρ : Rho} {g : G}
    (kI : ∀ σ H F ρ g, PreE K F H g ρ σ → ∀ ds g', it ρ g = some (ds, g') → ∀ R : It → Hp → Prop, (∀ J H' F', Stp K g g' F F' H H' → ItS K J (off F' H').h F' ds → R J H') → wi σ H R)
    (hsl : ∀ i ∈ sl, i ∈ vs) (hsl1 : ∀ i ∈ sl1, i ∈ vs1) (pre : PreE K F H0 g ρ σ) {ds : List D} {g' : G} (ev : eLc2A vs vs1 it bd t it1 bd1 t1 e ρ g = some (ds, g')) {Q : VK} (q : NewL K F H0 g g' ds Q) :
    tLc2 wi (gB K sl bd) (tTT K t) (tIF K it1) (gB K sl1 bd1) (tTT K t1) (tD K e) vs vs1 σ H0 Q := by
  obtain ⟨src, g1, e1, ev⟩ := mb_inv ev
  obtain ⟨out, g2, e2, ev⟩ := mb_inv ev
  have hz : out.length ≤ sizeLine ∧ out = ds ∧ g2 = g' := by
    split at ev
    · obtain ⟨h1, h2⟩ := mr_inv ev
      exact ⟨by assumption, h1.symm, h2.symm⟩
    · cases ev
  obtain ⟨hz, rfl, rfl⟩ := hz
  refine kI σ H0 F ρ g pre src g1 e1 _ fun J H1 F1 s1 it0 L hL => ?_
  obtain ⟨ok, beg⟩ := LI.begin (o := .lst []) pre s1 hL
  refine ⟨fun i m H => m = src.length - i ∧ i ≤ src.length ∧ ∃ F3 g3 ws dn lf, LI K ⟨g, F, H0, (off F1 H1).h, F1, L⟩ [(ρ, σ)] (.lst ws) H F3 g3 ∧ RpA K F3 ws dn ∧ lc2L bd t it1 vs1 bd1 t1 e (wipeR ρ vs) (src.drop i) g3 = some (lf, g2) ∧ dn ++ lf = out,
    ⟨src.length, by simp, Nat.zero_le _, F1, g1, [], [], out, beg, .nil, e2, rfl⟩, ?_⟩
  rintro i m H3 ⟨rfl, hi, F3, g3, ws3, dn, lf, h3, r3, ev3, e3⟩
  obtain ⟨goes, stops⟩ := (it0.mono h3.sf) H3 h3.sw
  by_cases hlt : i < src.length
  · have hd : src[i]? = some src[i] := List.getElem?_eq_getElem hlt
    rw [List.drop_eq_getElem_cons hlt] at ev3
    unfold lc2L at ev3
    obtain ⟨go, yl⟩ := goes i _ hd
    refine .inr ⟨go, fun H5 => ∃ F3 g3 ws dn lf, LI K ⟨g, F, H0, (off F1 H1).h, F1, L⟩ [(ρ, σ)] (.lst ws) H5 F3 g3 ∧ RpA K F3 ws dn ∧ lc2L bd t it1 vs1 bd1 t1 e (wipeR ρ vs) (src.drop (i + 1)) g3 = some (lf, g2) ∧ dn ++ lf = out, fun H5 h5 => ⟨_, by omega, rfl, by omega, h5⟩, fun x H4 y => ?_⟩
    have pr := h3.pre _ (List.mem_cons_self)
    obtain ⟨F4, s4, r4⟩ := (yl x H4 y).step pr.sub pr.rep
    have h4 := h3.step s4
    cases hb : bd src[i] (wipeR ρ vs) with
    | none => rw [hb] at ev3; cases ev3
    | some ρ' =>
      rw [hb] at ev3
      obtain ⟨c, g5, e5, ev3⟩ := mb_inv ev3
      refine ⟨F4, wipeR ρ vs, g3, src[i], ρ', (h4.pre _ List.mem_cons_self).wipe vs, r4, hb, fun σ' pre' ow' hw => ⟨by rw [hw vs hsl]; exact wipe_twice σ vs, ?_⟩⟩
      refine ⟨F4, ρ', g3, c, g5, pre', e5, fun H5 F5 s5 => ?_⟩
      have h5 := h4.step s5
      have r5 := r3.mono (s4.ext.trans s5.ext)
      cases c with
      | false =>
        rw [if_neg Bool.false_ne_true] at ev3
        exact iteF ⟨F5, g5, ws3, dn, lf, h5, r5, ev3, e3⟩
      | true =>
        rw [if_pos rfl] at ev3
        refine iteT ?_
        obtain ⟨src1, g6, e6, ev3⟩ := mb_inv ev3
        obtain ⟨xs, g7, e7, ev3⟩ := mb_inv ev3
        obtain ⟨ys, g8, e8, ev3⟩ := mb_inv ev3
        obtain ⟨rfl, rfl⟩ := mr_inv ev3
        have pre5 := pre'.step s5
        have no5 : ∀ i, ¬ Owned ρ' σ' i L := fun i z => by
          obtain ⟨lv, q1, q2, q3⟩ := ow' i L z
          exact h5.no _ List.mem_cons_self i ⟨lv, (wipeR_some q1).1, q2, (wipe_some q3).1⟩
        refine ⟨F5, ρ', g5, src1, g6, pre5, e6, fun J1 H6 F6 s6 it6 => ?_⟩
        have h6 := (h5.add pre5 no5).step s6
        -- what both walks stand on
        have eW : ∀ a o, both F6.h (off F1 H1).h a = some o ↔ F6 a = some o ∨ (F6 a = none ∧ (off F1 H1) a = some o) := fun a o => both_some
        have sB : Same (off F1 H1).h H6 := h6.sw
        have okw : (off F1 H1) L = none := ok.w
        have wL : both F6.h (off F1 H1).h L = none := by
          unfold both
          rw [show F6.h L = none from h6.fl]
          exact okw
        have ok6 : LBase.Ok ⟨g, F, H0, both F6.h (off F1 H1).h, F6, L⟩ := ⟨ok.h0, wL⟩
        have h6' : LI K ⟨g, F, H0, both F6.h (off F1 H1).h, F6, L⟩ [(ρ', σ'), (ρ, σ)] (.lst ws3) H6 F6 g6 := ⟨h6.st, h6.pre, h6.no, fun a o z => by
          rcases (eW a o).mp z with z | z
          · exact s6.sub a o z
          · exact sB a o z.2, fun a o z => by
          rcases (eW a o).mp z with z | z
          · exact s6.rep.outF z
          · exact h6.wm a o z.2, Ext.refl _, h6.fl, h6.ml, h6.hl⟩
        have hz2 : (dn ++ xs).length ≤ sizeLine := by
          rw [← e3] at hz
          simp only [List.length_append] at hz ⊢
          omega
        refine lc_turns (b := ⟨g, F, H0, both F6.h (off F1 H1).h, F6, L⟩) (P := [(ρ, σ)]) (sl := sl1) (vs := vs1) (bd := bd1) (t := t1) (e := e) (σ := σ') (ρ := ρ') (src := src1) (ws := ws3) ok6 (it6.weak fun a o z => (eW a o).mpr (.inl z)) hsl1 h6' (r5.mono s6.ext) e7 hz2 fun H9 F9 ws9 h9 r9 => ?_
        have inW : ∀ a o, (off F1 H1) a = some o → both F6.h (off F1 H1).h a = some o := fun a o z => (eW a o).mpr (by
          cases w : F6 a with
          | none => exact .inr ⟨rfl, z⟩
          | some u =>
            have z1 := s6.sub a u w
            have z2 := sB a o z
            rw [z1] at z2
            exact .inl z2)
        have t9 := h9.tail
        exact ⟨F9, g7, ws9, dn ++ xs, ys, ⟨t9.st, t9.pre, t9.no, fun a o z => t9.sw a o (inW a o z), fun a o z => t9.wm a o (inW a o z), h6.sf.trans t9.sf, t9.fl, t9.ml, t9.hl⟩, r9, e8, by rw [← e3]; simp⟩
  · have e4 : i = src.length := by omega
    subst e4
    rw [List.drop_length] at ev3
    obtain ⟨rfl, rfl⟩ := mr_inv ev3
    rw [List.append_nil] at e3
    subst e3
    exact .inl ⟨stops _ (Nat.le_refl _), q L H3 F3 ws3 h3.st ok.h0 h3.fl h3.ml h3.hl (by rw [r3.length]; exact hz) r3⟩
section
variable {X : Cx} {pos : Pos} {elt tg iter tg1 iter1 : Expr} {ifs ifs1 : List Expr} {scope : Scope} {it it1 : EA} {bd bd1 : B} {t t1 : T} {f : E} {sl sl1 : List Nat}
theorem po_lc2 (own : List (Str × Nat)) (vs1 : List Nat) (hc : X.calm = true) (hN : X.N.Nodup) (hi : PBI X tg iter it) (ok : BlkOk X.N X.env.scope scope own)
    (hg : ∀ (s : Shared) (H : Hp) (C : Addr) (cl : List (Str × Addr)) (fp : List Addr), PDG (X.blk s H scope (compEnvC scope cl C X.env) fp) tg sl bd) (ht : ∀ (s : Shared) (H : Hp) (C : Addr) (cl : List (Str × Addr)) (fp : List Addr), PDTs (X.blk s H scope (compEnvC scope cl C X.env) fp) ifs t)
    (hi1 : ∀ (s : Shared) (H : Hp) (C : Addr) (cl : List (Str × Addr)) (fp : List Addr), PDI (X.blk s H scope (compEnvC scope cl C X.env) fp) tg1 iter1 it1)
    (hg1 : ∀ (s : Shared) (H : Hp) (C : Addr) (cl : List (Str × Addr)) (fp : List Addr), PDG (X.blk s H scope (compEnvC scope cl C X.env) fp) tg1 sl1 bd1) (ht1 : ∀ (s : Shared) (H : Hp) (C : Addr) (cl : List (Str × Addr)) (fp : List Addr), PDTs (X.blk s H scope (compEnvC scope cl C X.env) fp) ifs1 t1)
    (he : ∀ (s : Shared) (H : Hp) (C : Addr) (cl : List (Str × Addr)) (fp : List Addr), PD (X.blk s H scope (compEnvC scope cl C X.env) fp) elt f)
    (hsl : ∀ i ∈ sl, i ∈ own.map (·.2) := by decide) (hsl1 : ∀ i ∈ sl1, i ∈ vs1 := by decide) (hv : ∀ i ∈ vs1, i ∈ own.map (·.2) := by decide) (hs : ∀ x, foldedSetIterable iter X.env x = pure x := by intro _; rfl) (hs1 : ∀ env x, foldedSetIterable iter1 env x = pure x := by intro _ _; rfl) :
    PO X (.ListComp elt [⟨tg, iter, ifs, 0⟩, ⟨tg1, iter1, ifs1, 0⟩] scope pos) (eLc2A (own.map (·.2)) vs1 it bd t it1 bd1 t1 f) := by
  obtain ⟨wi, hw, kI⟩ := hi
  refine ⟨_, pe_lc2 (g := gB X.K sl bd) (tt := tTT X.K t) (wi1 := tIF X.K it1) (g1 := gB X.K sl1 bd1) (tt1 := tTT X.K t1) (te := tD X.K f) hc hN hw ok hv (fun s H C cl fp => (hg s H C cl fp).can) ht (fun s H C cl fp => (hi1 s H C cl fp).can) (fun s H C cl fp => (hg1 s H C cl fp).can) ht1 (fun s H C cl fp => (he s H C cl fp).can) hs hs1, fun σ H F ρ g pre ds g' e Q q => ?_⟩
  exact lc2_sem kI hsl hsl1 pre e q
/-- y = [.. for .. for ..] -/
theorem pds_setLc2 (i : Nat) {y : Str} {py lpos : Pos} (own : List (Str × Nat)) (vs1 : List Nat) (hc : X.calm = true) (hN : X.N.Nodup) (hi : PBI X tg iter it) (ok : BlkOk X.N X.env.scope scope own)
    (hg : ∀ (s : Shared) (H : Hp) (C : Addr) (cl : List (Str × Addr)) (fp : List Addr), PDG (X.blk s H scope (compEnvC scope cl C X.env) fp) tg sl bd) (ht : ∀ (s : Shared) (H : Hp) (C : Addr) (cl : List (Str × Addr)) (fp : List Addr), PDTs (X.blk s H scope (compEnvC scope cl C X.env) fp) ifs t)
    (hi1 : ∀ (s : Shared) (H : Hp) (C : Addr) (cl : List (Str × Addr)) (fp : List Addr), PDI (X.blk s H scope (compEnvC scope cl C X.env) fp) tg1 iter1 it1)
    (hg1 : ∀ (s : Shared) (H : Hp) (C : Addr) (cl : List (Str × Addr)) (fp : List Addr), PDG (X.blk s H scope (compEnvC scope cl C X.env) fp) tg1 sl1 bd1) (ht1 : ∀ (s : Shared) (H : Hp) (C : Addr) (cl : List (Str × Addr)) (fp : List Addr), PDTs (X.blk s H scope (compEnvC scope cl C X.env) fp) ifs1 t1)
    (he : ∀ (s : Shared) (H : Hp) (C : Addr) (cl : List (Str × Addr)) (fp : List Addr), PD (X.blk s H scope (compEnvC scope cl C X.env) fp) elt f)
    (hsw : swapsWith (.ListComp elt [⟨tg, iter, ifs, 0⟩, ⟨tg1, iter1, ifs1, 0⟩] scope lpos) (some (.Name y py)) pos.line X.env = pure true)
    (hsl : ∀ i ∈ sl, i ∈ own.map (·.2) := by decide) (hsl1 : ∀ i ∈ sl1, i ∈ vs1 := by decide) (hv : ∀ i ∈ vs1, i ∈ own.map (·.2) := by decide) (hs : ∀ x, foldedSetIterable iter X.env x = pure x := by intro _; rfl) (hs1 : ∀ env x, foldedSetIterable iter1 env x = pure x := by intro _ _; rfl)
    (hy : X.N[i]? = some y := by rfl) (hyl : X.env.scope.names.lookup y = some .local := by rfl) :
    PDS X (.Assign [.Name y py] (.ListComp elt [⟨tg, iter, ifs, 0⟩, ⟨tg1, iter1, ifs1, 0⟩] scope lpos) pos) (sSet i (eO (eLc2A (own.map (·.2)) vs1 it bd t it1 bd1 t1 f))) := by
  obtain ⟨wi, hw, kI⟩ := hi
  refine ⟨_, ps_setLc2 (g := gB X.K sl bd) (tt := tTT X.K t) (wi1 := tIF X.K it1) (g1 := gB X.K sl1 bd1) (tt1 := tTT X.K t1) (te := tD X.K f) hc hN hy hyl hsw hw ok hv (fun s H C cl fp => (hg s H C cl fp).can) ht (fun s H C cl fp => (hi1 s H C cl fp).can) (fun s H C cl fp => (hg1 s H C cl fp).can) ht1 (fun s H C cl fp => (he s H C cl fp).can) hs hs1, fun en σ H F ρ g pre fl g' e De post => ?_⟩
  obtain ⟨d, g1, e1, e⟩ := mb_inv e
  obtain ⟨xs, g2, e2, e3⟩ := mb_inv e1
  obtain ⟨rfl, rfl⟩ := mr_inv e3
  obtain ⟨rfl, rfl⟩ := mr_inv e
  exact lc2_sem kI hsl hsl1 pre.e e2 (.frz fun v H1 F1 s1 r1 => post _ H1 F1 ((pre.step s1).set r1))
end
end PD
end
section
set_option Elab.async false
set_option linter.all false
set_option maxRecDepth 100000
set_option maxHeartbeats 4000000
set_option autoImplicit false
namespace PD
open PySem PySem.Spec L2
open PyProof.Rows hiding St

/-! ### new dicts -/
abbrev EK := Rho → M (List Key × List D)
def NewK (K : PySem.W.Frag) (F : Fz) (H : Hp) (g g' : G) (ks : List Key) (ds : List D) (Q : VK) : Prop := ∀ p H' F' kvs, Stp K g g' F F' H H' → H p = none → F' p = none → p ∉ F'.mu → H' p = some (.dK kvs) → kvs.length ≤ sizeLine → kvs.map (·.1) = ks → ks.Nodup → RpA K F' (kvs.map (·.2)) ds → Q (.ref p) H'
def PK (X : Cx) (e : Expr) (f : EK) : Prop := ∃ t, PE X e t ∧ ∀ σ H F ρ g, PreE X.K F H g ρ σ → ∀ r g', f ρ g = some (r, g') → ∀ Q : VK, NewK X.K F H g g' r.1 r.2 Q → t σ H Q
def eKd (f : EK) : E := fun ρ => mb (f ρ) fun r => mr (.dk r.1 r.2)
def vK (f : EK) : EV := fun ρ => mb (f ρ) fun r => mr (.ok r.1 r.2)
/-- it is frozen at once -/
theorem NewK.frz {K : PySem.W.Frag} {F : Fz} {H : Hp} {g g' : G} {ks : List Key} {ds : List D} {Q : VK} (q : ∀ v H' F', Stp K g g' F F' H H' → Rp K F' v (.dk ks ds) → Q v H') : NewK K F H g g' ks ds Q := fun p H' F' kvs s hp hF hg hH hz hk _ r => by
  subst hk
  exact q (.ref p) H' (F'.upd p (.dK kvs)) (s.frz hp hF hg hH) (.dk (.inl upd_same) (r.mono (.upd hF)))
section
variable {X : Cx} {e : Expr} {fk : EK} {pos : Pos}
theorem pd_newK (h : PK X e fk) : PD X e (eKd fk) := by
  obtain ⟨t, ht, k⟩ := h
  refine ⟨t, ht, fun σ H F ρ g pre d g' e Q q => ?_⟩
  obtain ⟨xs, g1, e1, e⟩ := mb_inv e
  obtain ⟨rfl, rfl⟩ := mr_inv e
  exact k σ H F ρ g pre xs _ e1 Q (.frz q)
theorem pv_ok (h : PK X e fk) : PV X e (vK fk) := by
  obtain ⟨t, ht, k⟩ := h
  refine ⟨t, ht, fun σ H F ρ g pre lv g' ev Q q => ?_⟩
  obtain ⟨d, g1, e1, ev⟩ := mb_inv ev
  obtain ⟨rfl, rfl⟩ := mr_inv ev
  exact k σ H F ρ g pre d _ e1 _ fun p H1 F1 kvs s1 n1 n2 n3 n4 n5 n6 n7 n8 => q (.ref p) H1 F1 s1 ⟨p, kvs, rfl, n2, n3, n4, n6, n8⟩ fun _ w ew => by cases ew; exact n1
/-- x = a value that may be a new thing of one's own -/
def sSetV (i : Nat) (f : EV) : S := fun ρ => mb (f ρ) fun lv => mr (.nx (ρ.set i (some lv)))
theorem pds_setV (i : Nat) {x : Str} {fv : EV} {pos' : Pos} (hN : X.N.Nodup) (h : PV X e fv) (hi : X.N[i]? = some x := by rfl) (hx : Loc X.env.scope x := by first | exact Or.inl rfl | exact Or.inr rfl)
    (hs : swapsWith e (some (.Name x pos')) pos.line X.env = pure false := by rfl) (hf : X.fn x = true ∨ X.env.scope.names.lookup x = some .local := by first | exact .inl rfl | exact .inr rfl | assumption) :
    PDS X (.Assign [.Name x pos'] e pos) (sSetV i fv) := by
  obtain ⟨t, p, k⟩ := h
  refine ⟨_, ps_set hN hi hx p hs hf, fun en σ H F ρ g pre fl g' e De post => ?_⟩
  obtain ⟨lv, g1, e1, e⟩ := mb_inv e
  obtain ⟨rfl, rfl⟩ := mr_inv e
  refine k σ H F ρ g pre.e lv _ e1 _ fun v H1 F1 s1 ok fr => ?_
  exact post _ H1 F1 (par_sem (vs := [v]) (lvs := [lv]) pre s1 (.cons ok fr (fun o p ep => by subst ep; exact ok.there o) s1.mono .nil) [i])
end
/-! ### {k: v for ..} -/
theorem putD_keys {k : Key} {d : D} : ∀ {ks : List Key} {l : List D}, ks.length = l.length → (k ∈ ks ∧ (putD ks l k d).1 = ks) ∨ (k ∉ ks ∧ (putD ks l k d).1 = ks ++ [k])
  | [], [], _ => .inr ⟨by simp, rfl⟩
  | k' :: ks, d' :: l, h => by
    have ih := putD_keys (k := k) (d := d) (ks := ks) (l := l) (by simpa using h)
    unfold putD
    by_cases e : k' = k
    · subst e; exact .inl ⟨List.mem_cons_self, by rw [if_pos rfl]⟩
    · rw [if_neg e]
      rcases ih with ⟨h1, h2⟩ | ⟨h1, h2⟩
      · exact .inl ⟨List.mem_cons_of_mem _ h1, by rw [h2]⟩
      · exact .inr ⟨fun z => (List.mem_cons.mp z).elim (fun z => e z.symm) h1, by rw [h2]; rfl⟩
theorem putD_nodup {k : Key} {d : D} {ks : List Key} {l : List D} (h : ks.length = l.length) (n : ks.Nodup) : (putD ks l k d).1.Nodup := by
  rcases putD_keys (k := k) (d := d) h with ⟨h1, h2⟩ | ⟨h1, h2⟩
  · rw [h2]; exact n
  · rw [h2]
    refine List.nodup_append.mpr ⟨n, by simp, fun a ha b hb e => h1 ?_⟩
    rw [List.mem_singleton.mp hb] at e
    rw [← e]; exact ha
theorem putD_len {k : Key} {d : D} : ∀ {ks : List Key} {l : List D}, ks.length = l.length → (putD ks l k d).1.length = (putD ks l k d).2.length
  | [], [], _ => rfl
  | k' :: ks, d' :: l, h => by
    have ih := putD_len (k := k) (d := d) (ks := ks) (l := l) (by simpa using h)
    unfold putD
    by_cases e : k' = k
    · simp only [if_pos e]; simpa using h
    · simp only [if_neg e, List.length_cons, ih]
def dcL (bd : B) (t : T) (k v : E) (ρ : Rho) : List Key × List D → List D → M (List Key × List D)
  | acc, [] => mr acc
  | acc, d :: ds => match bd d ρ with
    | none => mz
    | some ρ' => mb (t ρ') fun b => if b = true then mb (k ρ') fun y => mb (v ρ') fun x => match keyD y with
        | some kk => if acc.1.length < sizeLine then dcL bd t k v ρ (putD acc.1 acc.2 kk x) ds else mz
        | none => mz
      else dcL bd t k v ρ acc ds
def eDcA (vs : List Nat) (it : EA) (bd : B) (t : T) (k v : E) : EK := fun ρ => mb (it ρ) fun ds => dcL bd t k v (wipeR ρ vs) ([], []) ds
theorem dc_sem {K : PySem.W.Frag} {wi : TI} {sl vs : List Nat} {bd : B} {t : T} {kf vf : E} {it : EA} {σ : St} {F : Fz} {H0 : Hp} {ρ : Rho} {g : G}
    (kI : ∀ σ H F ρ g, PreE K F H g ρ σ → ∀ ds g', it ρ g = some (ds, g') → ∀ R : It → Hp → Prop, (∀ J H' F', Stp K g g' F F' H H' → ItS K J (off F' H').h F' ds → R J H') → wi σ H R)
    (hsl : ∀ i ∈ sl, i ∈ vs) (pre : PreE K F H0 g ρ σ) {r : List Key × List D} {g' : G} (ev : eDcA vs it bd t kf vf ρ g = some (r, g')) {Q : VK} (q : NewK K F H0 g g' r.1 r.2 Q) : tDc wi (gB K sl bd) (tTT K t) (tD K kf) (tD K vf) vs σ H0 Q := by
  obtain ⟨src, g1, e1, ev⟩ := mb_inv ev
  refine kI σ H0 F ρ g pre src g1 e1 _ fun J H1 F1 s1 it0 L hL => ?_
  obtain ⟨ok, beg⟩ := LI.begin (o := .dK []) pre s1 hL
  refine ⟨fun i m H => m = src.length - i ∧ i ≤ src.length ∧ ∃ F3 g3 kvs dn, LI K ⟨g, F, H0, (off F1 H1).h, F1, L⟩ [(ρ, σ)] (.dK kvs) H F3 g3 ∧ kvs.length ≤ sizeLine ∧ (kvs.map (·.1)).Nodup ∧ RpA K F3 (kvs.map (·.2)) dn ∧ dcL bd t kf vf (wipeR ρ vs) (kvs.map (·.1), dn) (src.drop i) g3 = some (r, g'),
    ⟨src.length, by simp, Nat.zero_le _, F1, g1, [], [], beg, Nat.zero_le _, List.nodup_nil, .nil, ev⟩, ?_⟩
  rintro i m H3 ⟨rfl, hi, F3, g3, kvs, dn, h3, hz3, nd3, r3, ev3⟩
  obtain ⟨goes, stops⟩ := (it0.mono h3.sf) H3 h3.sw
  by_cases hlt : i < src.length
  · have hd : src[i]? = some src[i] := List.getElem?_eq_getElem hlt
    rw [List.drop_eq_getElem_cons hlt] at ev3
    unfold dcL at ev3
    obtain ⟨go, yl⟩ := goes i _ hd
    refine .inr ⟨go, fun H5 => ∃ F3 g3 kvs dn, LI K ⟨g, F, H0, (off F1 H1).h, F1, L⟩ [(ρ, σ)] (.dK kvs) H5 F3 g3 ∧ kvs.length ≤ sizeLine ∧ (kvs.map (·.1)).Nodup ∧ RpA K F3 (kvs.map (·.2)) dn ∧ dcL bd t kf vf (wipeR ρ vs) (kvs.map (·.1), dn) (src.drop (i + 1)) g3 = some (r, g'), fun H5 h5 => ⟨_, by omega, rfl, by omega, h5⟩, fun x H4 y => ?_⟩
    have pr := h3.pre _ (List.mem_cons_self)
    obtain ⟨F4, s4, r4⟩ := (yl x H4 y).step pr.sub pr.rep
    have h4 := h3.step s4
    cases hb : bd src[i] (wipeR ρ vs) with
    | none => rw [hb] at ev3; cases ev3
    | some ρ' =>
      rw [hb] at ev3
      obtain ⟨c, g5, e5, ev3⟩ := mb_inv ev3
      refine ⟨F4, wipeR ρ vs, g3, src[i], ρ', (h4.pre _ List.mem_cons_self).wipe vs, r4, hb, fun σ' pre' _ hw => ⟨by rw [hw vs hsl]; exact wipe_twice σ vs, ?_⟩⟩
      refine ⟨F4, ρ', g3, c, g5, pre', e5, fun H5 F5 s5 => ?_⟩
      have h5 := h4.step s5
      have r5 := r3.mono (s4.ext.trans s5.ext)
      cases c with
      | false =>
        rw [if_neg Bool.false_ne_true] at ev3
        exact iteF ⟨F5, g5, kvs, dn, h5, hz3, nd3, r5, ev3⟩
      | true =>
        rw [if_pos rfl] at ev3
        refine iteT ?_
        obtain ⟨yk, g6, e6, ev3⟩ := mb_inv ev3
        obtain ⟨zv, g7, e7, ev3⟩ := mb_inv ev3
        refine ⟨F5, ρ', g5, yk, g6, pre'.step s5, e6, fun w H6 F6 s6 r6 => ?_⟩
        refine ⟨F6, ρ', g6, zv, g7, (pre'.step s5).step s6, e7, fun u H7 F7 s7 r7 => ?_⟩
        have h7 := (h5.step s6).step s7
        cases hk : keyD yk with
        | none => rw [hk] at ev3; cases ev3
        | some kk =>
          rw [hk] at ev3
          by_cases hsz : (kvs.map (·.1)).length < sizeLine
          · have ev3 : (if (kvs.map (·.1)).length < sizeLine then dcL bd t kf vf (wipeR ρ vs) (putD (kvs.map (·.1)) dn kk zv) (src.drop (i + 1)) else mz) g7 = some (r, g') := ev3
            rw [if_pos hsz] at ev3
            have hsz2 : kvs.length < sizeLine := by simpa using hsz
            have r7' := r5.mono (s6.ext.trans s7.ext)
            obtain ⟨q1, q2⟩ := putD_ok (k := kk) r7 nd3 r7'
            have hln : (kvs.map (·.1)).length = dn.length := by rw [List.length_map, ← r3.length, List.length_map]
            refine ⟨kvs, kk, keyD_ok r6 hk, h7.hl, hsz2, F7, g7, putK kvs kk u, (putD (kvs.map (·.1)) dn kk zv).2, h7.mut ok, ?_, ?_, q2, ?_⟩
            · have := length_putK kvs kk u; omega
            · rw [q1]; exact putD_nodup hln nd3
            · rw [q1]; exact ev3
          · have ev3 : (if (kvs.map (·.1)).length < sizeLine then dcL bd t kf vf (wipeR ρ vs) (putD (kvs.map (·.1)) dn kk zv) (src.drop (i + 1)) else mz) g7 = some (r, g') := ev3
            rw [if_neg hsz] at ev3
            cases ev3
  · have e4 : i = src.length := by omega
    subst e4
    rw [List.drop_length] at ev3
    obtain ⟨rfl, rfl⟩ := mr_inv ev3
    exact .inl ⟨stops _ (Nat.le_refl _), q L H3 F3 kvs h3.st ok.h0 h3.fl h3.ml h3.hl hz3 rfl nd3 r3⟩
section
variable {X : Cx} {pos : Pos} {kx vx tg iter : Expr} {ifs : List Expr} {scope : Scope} {it : EA} {bd : B} {t : T} {fk fv : E} {sl : List Nat}
theorem pk_dc (own : List (Str × Nat)) (hc : X.calm = true) (hN : X.N.Nodup) (hi : PBI X tg iter it) (ok : BlkOk X.N X.env.scope scope own)
    (hg : ∀ (s : Shared) (H : Hp) (C : Addr) (cl : List (Str × Addr)) (fp : List Addr), PDG (X.blk s H scope (compEnvC scope cl C X.env) fp) tg sl bd)
    (ht : ∀ (s : Shared) (H : Hp) (C : Addr) (cl : List (Str × Addr)) (fp : List Addr), PDTs (X.blk s H scope (compEnvC scope cl C X.env) fp) ifs t)
    (hk : ∀ (s : Shared) (H : Hp) (C : Addr) (cl : List (Str × Addr)) (fp : List Addr), PD (X.blk s H scope (compEnvC scope cl C X.env) fp) kx fk)
    (hv : ∀ (s : Shared) (H : Hp) (C : Addr) (cl : List (Str × Addr)) (fp : List Addr), PD (X.blk s H scope (compEnvC scope cl C X.env) fp) vx fv)
    (hsl : ∀ i ∈ sl, i ∈ own.map (·.2) := by decide) (hs : ∀ x, foldedSetIterable iter X.env x = pure x := by intro _; rfl) : PK X (.DictComp kx vx [⟨tg, iter, ifs, 0⟩] scope pos) (eDcA (own.map (·.2)) it bd t fk fv) := by
  obtain ⟨wi, hw, kI⟩ := hi
  refine ⟨_, pe_dc (g := gB X.K sl bd) (tt := tTT X.K t) (tk := tD X.K fk) (tv := tD X.K fv) hc hN hw ok (fun s H C cl fp => (hg s H C cl fp).can) ht (fun s H C cl fp => (hk s H C cl fp).can) (fun s H C cl fp => (hv s H C cl fp).can) hs, fun σ H F ρ g pre ds g' e Q q => ?_⟩
  exact dc_sem kI hsl pre e q
end
/-! ### d.update(e) -/
def mergeD : List Key × List D → List Key → List D → List Key × List D
  | acc, k :: ks, d :: l => mergeD (putD acc.1 acc.2 k d) ks l
  | acc, _, _ => acc
theorem mergeD_ok {K : PySem.W.Frag} {F : Fz} : ∀ {more kvs : List (Key × V)} {l m : List D}, (kvs.map (·.1)).Nodup → RpA K F (kvs.map (·.2)) l → RpA K F (more.map (·.2)) m →
    (mergeK kvs more).map (·.1) = (mergeD (kvs.map (·.1), l) (more.map (·.1)) m).1 ∧ RpA K F ((mergeK kvs more).map (·.2)) (mergeD (kvs.map (·.1), l) (more.map (·.1)) m).2
  | [], kvs, l, m, _, r, rm => by cases rm; exact ⟨rfl, r⟩
  | (k, v) :: more, kvs, l, m, n, r, rm => by
    cases rm with
    | cons r0 rr =>
      rename_i d ds
      obtain ⟨q1, q2⟩ := putD_ok (k := k) r0 n r
      have hln : (kvs.map (·.1)).length = l.length := by rw [List.length_map, ← r.length, List.length_map]
      have ih := mergeD_ok (more := more) (kvs := putK kvs k v) (l := (putD (kvs.map (·.1)) l k d).2) (m := ds) (by rw [q1]; exact putD_nodup hln n) q2 rr
      rw [q1] at ih
      exact ih
def okAt (ρ : Rho) (i : Nat) : Option (List Key × List D) := match ρ[i]? with
  | some (some (.ok ks l)) => some (ks, l)
  | _ => none
theorem okAt_inv {ρ : Rho} {i : Nat} {r : List Key × List D} (h : okAt ρ i = some r) : ρ[i]? = some (some (.ok r.1 r.2)) := by
  unfold okAt at h
  split at h
  · cases h; assumption
  · cases h
def rUpd : V → List V → Hp → VK → Prop := fun x xs H Q => ∃ (d o : Addr) (ks ls : List (Key × V)), x = V.ref d ∧ xs = [V.ref o] ∧ d ≠ o ∧ H d = some (.dK ks) ∧ H o = some (.dK ls) ∧ ks.length + ls.length ≤ sizeLine ∧ Q .non (upd H d (.dK (mergeK ks ls)))
theorem mt_update {X : Cx} : MtR X "dict.update" rUpd := by
  intro pins s σ H x xs v us Q I rx rxs h
  obtain ⟨d, o, ks, ls, rfl, rfl, hne, hd, ho, hz, q⟩ := h
  cases rx
  rw [Vals.ref1 rxs]
  obtain ⟨z1, n1, vs, rel, dd⟩ := dk_of I.hok hd
  obtain ⟨z2, n2, ws, rel2, dd2⟩ := dk_of I.hok ho
  refine call_meetsIn PySem.F.slot_dict_update dd.typeIs PySem.F.entry_dict_update (PySem.F.args_dict_update_2 _ _) (meets_dict_update (mixKind X.prog X.w) d o hne n2) ⟨vs, ws, dd, dd2, by rw [← rel.length, ← rel2.length]; exact hz, fun h' dd' _ hs => ?_⟩
  have he : ∃ q, h'.get? d = some q := let ⟨q, _, _, hq, _⟩ := dd'; ⟨q, hq⟩
  refine ⟨.non, _, d_write I (by rw [hd]; exact True.intro) hs he (dk_new ?_ n1 (rel2.merge rel) dd'), rfl, q⟩
  exact Nat.le_trans (length_mergeK ls ks) hz
def sUpdate (i : Nat) (f : EK) : S := fun ρ => mb (f ρ) fun m => ml ((okAt ρ i).bind fun r => if r.1.Nodup ∧ r.1.length + m.1.length ≤ sizeLine then some (.nx (ρ.set i (some (.ok (mergeD r m.1 m.2).1 (mergeD r m.1 m.2).2)))) else none)
section
variable {X : Cx} {e : Expr} {fk : EK} {x : Str} {p ap cp pos : Pos}
theorem pds_update (i : Nat) (h : PK X e fk) (hN : X.N[i]? = some x := by rfl) (hv : Vis X.env.scope x := by first | exact Or.inl rfl | exact Or.inr (Or.inl rfl) | exact Or.inr (Or.inr rfl))
    (hd : (x == ("__debug__" : Str)) = false := by decide) (hcd : (x == ("__classdict__" : Str)) = false := by decide)
    (hbase : attributeBase (.Name x p) "update" X.env (eval (.Name x p) X.env) = eval (.Name x p) X.env := by rfl)
    (hfew : ((backTo cp (starEach [e] X.env)).all (fun x => !x.1) && (backToKw cp (keywordEach [] X.env)).all (fun x => x.1.isSome)
      && decide ([e].length + ([] : List Keyword).length + (if ([] : List Keyword).isEmpty then 0 else 1) < 30)) = true := by rfl)
    (hline : (ap.endLine == cp.line) = true := by rfl) (hs : starEach [e] X.env = (false, eval e X.env) :: starEach [] X.env := by rfl) (hsw : swapsWith (.Call (.Attribute (.Name x p) "update" ap) [e] [] cp) none pos.line X.env = pure false := by rfl) :
    PDS X (.Expr (.Call (.Attribute (.Name x p) "update" ap) [e] [] cp) pos) (sUpdate i fk) := by
  obtain ⟨t, ht, k⟩ := h
  refine ⟨_, ps_expr (pe_bm PySem.F.plainAttrs_dict PySem.F.slot_dict_update PySem.F.type_dict_update mt_update (pe_var hN hv hd hcd) (pa_cons ht pa_nil hs) hbase hfew hline hs (by rfl)) hsw, fun en σ H F ρ g pre fl g' ev De post => ?_⟩
  obtain ⟨m, g1, e1, ev⟩ := mb_inv ev
  obtain ⟨ev2, rfl⟩ := ml_inv ev
  obtain ⟨r, hr0, hc⟩ := Option.bind_eq_some_iff.mp ev2
  have hr := okAt_inv hr0
  by_cases hz : r.1.Nodup ∧ r.1.length + m.1.length ≤ sizeLine
  · rw [if_pos hz] at hc
    cases hc
    obtain ⟨v, h1, q, kvs, rfl, h2, h3, h4, h5, h6⟩ := pre.e.sl.at_ i _ hr
    refine ⟨_, h1, .inr (.inr (.inl ⟨rfl, .inl ⟨kvs, h4⟩⟩)), k σ H F ρ g pre.e m _ e1 _ fun w H1 F1 more s1 n1 n2 n3 n4 n5 n6 n7 n8 => ?_⟩
    have pre1 := pre.step s1
    have h4' : H1 q = some (.dK kvs) := s1.same _ _ h3 h4
    have hne : q ≠ w := fun z => by subst z; rw [n1] at h4; cases h4
    have nd : (kvs.map (·.1)).Nodup := by rw [h5]; exact hz.1
    obtain ⟨q1, q2⟩ := mergeD_ok (more := more) nd (h6.mono s1.ext) n8
    have e2 : (kvs.map (·.1), r.2) = r := by rw [h5]
    rw [e2, n6] at q1 q2
    have hl : kvs.length + more.length ≤ sizeLine := by
      have a1 : kvs.length = r.1.length := by rw [← h5]; simp
      have a2 : more.length = m.1.length := by rw [← n6]; simp
      omega
    exact ⟨q, w, kvs, more, rfl, rfl, hne, h4', n4, hl, post σ _ F1 (pre1.mut hr rfl h1 rfl (s1.keepN h2 h4) (s1.keepM h3 h4) ⟨q, mergeK kvs more, rfl, s1.keepN h2 h4, s1.keepM h3 h4, upd_same, q1, q2⟩)⟩
  · rw [if_neg hz] at hc
    cases hc
end
end PD
end
section
set_option Elab.async false
set_option linter.all false
set_option maxRecDepth 100000
set_option maxHeartbeats 4000000
set_option autoImplicit false
namespace PD
open PySem PySem.Spec L2
open PyProof.Rows hiding St

/-! ### sep.join(texts) -/
def cs (x : Str) : List Nat := x.cps.toList
def ofCs (l : List Nat) : Str := ⟨l.toArray⟩
theorem ofCs_cs (x : Str) : ofCs (cs x) = x := by cases x; rfl
theorem cs_ofCs (l : List Nat) : cs (ofCs l) = l := rfl
theorem cs_inj {x y : Str} (h : cs x = cs y) : x = y := by rw [← ofCs_cs x, h, ofCs_cs]
theorem cs_len (x : Str) : (cs x).length = x.length := by simp [cs, Str.length]
def joinC (s : List Nat) : List (List Nat) → List Nat
  | [] => []
  | [p] => p
  | p :: q :: r => p ++ (s ++ joinC s (q :: r))
theorem joinC_mem {s : List Nat} {c : Nat} : ∀ {l : List (List Nat)}, c ∈ joinC s l → c ∈ s ∨ ∃ p ∈ l, c ∈ p
  | [], h => absurd h (by simp [joinC])
  | [p], h => .inr ⟨p, List.mem_singleton.mpr rfl, h⟩
  | p :: q :: r, h => by
    rcases List.mem_append.mp (show c ∈ p ++ (s ++ joinC s (q :: r)) from h) with h | h
    · exact .inr ⟨p, List.mem_cons_self, h⟩
    · rcases List.mem_append.mp h with h | h
      · exact .inl h
      · rcases joinC_mem h with h | ⟨z, hz, h⟩
        · exact .inl h
        · exact .inr ⟨z, List.mem_cons_of_mem _ hz, h⟩
theorem joinC_len {s : List Nat} : ∀ {l : List (List Nat)}, (joinC s l).length ≤ (l.map List.length).sum + l.length * s.length
  | [] => by simp [joinC]
  | [p] => by simp [joinC]
  | p :: q :: r => by
    have := joinC_len (s := s) (l := q :: r)
    show (p ++ (s ++ joinC s (q :: r))).length ≤ _
    simp only [List.length_append, List.map_cons, List.sum_cons, List.length_cons, Nat.add_mul, Nat.one_mul] at this ⊢
    omega
theorem join_cs (y : Str) : ∀ parts : List Str, cs (Str.join y parts) = joinC (cs y) (parts.map cs)
  | [] => rfl
  | [_] => rfl
  | x :: z :: r => by
    have e : ∀ a b : Str, cs (a ++ b) = cs a ++ cs b := fun a b => by
      show (a.cps ++ b.cps).toList = _
      simp [cs]
    show cs (x ++ y ++ Str.join y (z :: r)) = cs x ++ (cs y ++ joinC (cs y) ((z :: r).map cs))
    rw [e, e, join_cs y (z :: r), List.append_assoc]
def strsD : List D → Option (List Str)
  | [] => some []
  | .str x :: l => (strsD l).map (x :: ·)
  | _ :: _ => none
theorem strsD_ok : ∀ {l : List D} {xs : List Str}, strsD l = some xs → l = xs.map D.str
  | [], xs, h => by cases h; rfl
  | .str i :: l, ns, h => by
    obtain ⟨ms, h1, rfl⟩ := Option.map_eq_some_iff.mp h
    rw [strsD_ok h1]; rfl
  | .non :: l, ns, h => by cases h
  | .bl _ :: l, ns, h => by cases h
  | .int _ :: l, ns, h => by cases h
  | .tup _ :: l, ns, h => by cases h
  | .lst _ :: l, ns, h => by cases h
  | .dk _ _ :: l, ns, h => by cases h
  | .dt _ _ :: l, ns, h => by cases h
  | .hd _ :: l, ns, h => by cases h
  | .tx _ :: l, ns, h => by cases h
theorem strsD_map : ∀ xs : List Str, strsD (xs.map D.str) = some xs
  | [] => rfl
  | x :: xs => by simp [strsD, strsD_map xs]
def joinD (x y : D) : Option D := match x, y with
  | .str a, .lst l => (strsD l).bind fun xs => if (xs.map (·.length)).sum + xs.length * a.length ≤ sizeLine then some (.str (ofCs (joinC (cs a) (xs.map cs)))) else none
  | .str a, .tup l => (strsD l).bind fun xs => if (xs.map (·.length)).sum + xs.length * a.length ≤ sizeLine then some (.str (ofCs (joinC (cs a) (xs.map cs)))) else none
  | _, _ => none
def eJoin (a b : E) : E := fun ρ => mb (a ρ) fun x => mb (b ρ) fun y => ml (joinD x y)
theorem rp_strs {K : PySem.W.Frag} {F : Fz} : ∀ {xs : List V} {ys : List Str}, RpA K F xs (ys.map D.str) → ∀ y ∈ ys, sOk y = true
  | _, [], _, y, h => absurd h (by simp)
  | _, y :: ys, .cons r t, z, h => by
    rcases List.mem_cons.mp h with rfl | h
    · exact (rp_str r).2
    · exact rp_strs t z h
theorem sOk_join {a : Str} {ys : List Str} (ha : sOk a = true) (hy : ∀ y ∈ ys, sOk y = true) (hz : (ys.map (·.length)).sum + ys.length * a.length ≤ sizeLine) : sOk (ofCs (joinC (cs a) (ys.map cs))) = true := by
  refine sOk_mk (strOk_iff.mpr fun c hc => ?_) ?_
  · rcases joinC_mem (show c ∈ joinC (cs a) (ys.map cs) from hc) with h | ⟨p, hp, h⟩
    · exact strOk_iff.mp (sOk_ok ha) c h
    · obtain ⟨y, hy1, rfl⟩ := List.mem_map.mp hp
      exact strOk_iff.mp (sOk_ok (hy y hy1)) c h
  · rw [← cs_len, cs_ofCs]
    refine Nat.le_trans joinC_len ?_
    rw [List.map_map, List.length_map, cs_len]
    have e : ys.map (List.length ∘ cs) = ys.map (·.length) := List.map_congr_left fun y _ => cs_len y
    rw [e]
    exact hz
section
variable {X : Cx} {a e : Expr} {fa f : E} {ap cp pos : Pos}
theorem pd_join (ha : PD X a fa) (he : PD X e f) (hs : starEach [e] X.env = [(false, eval e X.env)] := by rfl) (hbase : attributeBase a "join" X.env (eval a X.env) = eval a X.env := by rfl) (hline : (ap.endLine == cp.line) = true := by rfl) :
    PD X (.Call (.Attribute a "join" ap) [e] [] cp) (eJoin fa f) := by
  obtain ⟨ta, pa, ka⟩ := ha
  obtain ⟨tb, pb, kb⟩ := he
  refine ⟨_, pe_join pa pb hs hbase hline, fun σ H F ρ g pre d g' e Q q => ?_⟩
  obtain ⟨dx, g1, e1, e⟩ := mb_inv e
  obtain ⟨dy, g2, e2, e⟩ := mb_inv e
  obtain ⟨e3, rfl⟩ := ml_inv e
  refine ka σ H F ρ g pre dx g1 e1 _ fun x H1 F1 s1 r1 => ?_
  have go : ∀ (a : Str) (l : List D), dx = .str a → (dy = .lst l ∨ dy = .tup l) → ((strsD l).bind fun xs => if (xs.map (·.length)).sum + xs.length * a.length ≤ sizeLine then some (D.str (ofCs (joinC (cs a) (xs.map cs)))) else none) = some d →
      (∃ a, x = .str a) ∧ tb σ H1 fun y H2 => ∃ a p, ∃ ys : List Str, x = .str a ∧ [y] = [V.ref p] ∧ (SqL X.K H2 p (ys.map V.str) ∨ SqT X.K H2 p (ys.map V.str)) ∧ (ys.map (·.length)).sum + ys.length * a.length ≤ 16777216 ∧ Q (.str (Txt.join a ys)) H2 := by
    intro a l h1 h2 h3
    subst h1
    obtain ⟨rfl, ha⟩ := rp_str r1
    obtain ⟨ys, h4, h5⟩ := Option.bind_eq_some_iff.mp h3
    have h6 := strsD_ok h4
    subst h6
    split at h5
    · rename_i hz
      cases h5
      refine ⟨⟨a, rfl⟩, kb σ H1 F1 ρ g1 (pre.step s1) dy g' e2 _ fun y H2 F2 s2 r2 => ?_⟩
      have hz2 : (ys.map (·.length)).sum + ys.length * a.length ≤ 16777216 := by rw [sizeLine_eq] at hz; exact hz
      have fin : ∀ (hy : ∀ y ∈ ys, sOk y = true), Q (.str (Txt.join a ys)) H2 := fun hy => by
        have e5 : Txt.join a ys = ofCs (joinC (cs a) (ys.map cs)) := cs_inj (by
          have : Txt.join a ys = Str.join a ys := TL.join_eq a ys
          rw [this, join_cs, cs_ofCs])
        rw [e5]
        exact q _ H2 F2 (s1.trans s2) (.str _ (sOk_join ha hy hz))
      rcases h2 with rfl | rfl
      · obtain ⟨p, xs, rfl, k1, k2, k3⟩ := rp_lst r2
        have hy := rp_strs k3
        rw [k3.strs] at k1
        exact ⟨a, p, ys, rfl, rfl, .inl (sqL_mono s2.sub k1), hz2, fin hy⟩
      · obtain ⟨p, xs, rfl, k1, k2, k3⟩ := rp_tup r2
        have hy := rp_strs k3
        rw [k3.strs] at k1
        exact ⟨a, p, ys, rfl, rfl, .inr (sqT_mono s2.sub k1), hz2, fin hy⟩
    · cases h5
  unfold joinD at e3
  split at e3
  · exact go _ _ rfl (.inl rfl) e3
  · exact go _ _ rfl (.inr rfl) e3
  · cases e3
end
/-! ### l.index(x) -/
def indexL (y : D) : List D → Option Nat
  | [] => none
  | x :: l => if eqq x y = true then some 0 else (indexL y l).map (· + 1)
def indexD (x y : D) : Option D := match x with
  | .lst l => if (cmpOk (.lst l) && cmpOk y) = true then (indexL y l).map (fun n => D.int (Int.ofNat n)) else none
  | _ => none
def eIndex (a b : E) : E := fun ρ => mb (a ρ) fun x => mb (b ρ) fun y => ml (indexD x y)
theorem indexL_ok {y : D} : ∀ {l : List D} {j : Nat}, indexL y l = some j → (∃ z, l[j]? = some z ∧ eqq z y = true) ∧ ∀ m z, m < j → l[m]? = some z → eqq z y = false
  | [], j, h => by cases h
  | x :: l, j, h => by
    unfold indexL at h
    by_cases e : eqq x y = true
    · rw [if_pos e] at h
      cases h
      exact ⟨⟨x, rfl, e⟩, fun m z hm => absurd hm (by omega)⟩
    · rw [if_neg e] at h
      obtain ⟨i, h1, rfl⟩ := Option.map_eq_some_iff.mp h
      obtain ⟨⟨z, h2, h3⟩, h4⟩ := indexL_ok h1
      refine ⟨⟨z, by simpa using h2, h3⟩, fun m w hm hw => ?_⟩
      cases m with
      | zero =>
        have : x = w := by simpa using hw
        subst this
        cases q : eqq x y with
        | true => exact absurd q e
        | false => rfl
      | succ m => exact h4 m w (by omega) (by simpa using hw)
theorem toPyA_get : ∀ {l : List D} {i : Nat}, (toPyA l)[i]? = (l[i]?).map toPy
  | [], i => by simp [toPyA]
  | x :: l, 0 => by simp [toPyA]
  | x :: l, i + 1 => by simp only [toPyA, List.getElem?_cons_succ]; exact toPyA_get
theorem purA_get : ∀ {l : List D} {i : Nat} {z : D}, purA l = true → l[i]? = some z → pur z = true
  | [], i, z, _, h => by simp at h
  | x :: l, 0, z, hp, h => by
    have : x = z := by simpa using h
    subst this
    unfold purA at hp
    exact (Bool.and_eq_true_iff.mp hp).1
  | x :: l, i + 1, z, hp, h => by
    unfold purA at hp
    exact purA_get (Bool.and_eq_true_iff.mp hp).2 (by simpa using h)
section
variable {X : Cx} {a e : Expr} {fa f : E} {ap cp pos : Pos} {k : Nat}
theorem pd_index (hr : Room k X.A) (hu : X.A.units + 65 < cLine) (ha : PD X a fa) (he : PD X e f)
    (hbase : attributeBase a "index" X.env (eval a X.env) = eval a X.env := by rfl)
    (hfew : ((backTo cp (starEach [e] X.env)).all (fun x => !x.1) && (backToKw cp (keywordEach [] X.env)).all (fun x => x.1.isSome)
      && decide ([e].length + ([] : List Keyword).length + (if ([] : List Keyword).isEmpty then 0 else 1) < 30)) = true := by rfl)
    (hline : (ap.endLine == cp.line) = true := by rfl) (hs : starEach [e] X.env = (false, eval e X.env) :: starEach [] X.env := by rfl) :
    PD X (.Call (.Attribute a "index" ap) [e] [] cp) (eIndex fa f) := by
  obtain ⟨ta, pa, ka⟩ := ha
  obtain ⟨tb, pb, kb⟩ := he
  refine ⟨_, pe_bm PySem.F.plainAttrs_list PySem.F.slot_list_index PySem.F.type_list_index (mt_indexD hu) pa (pa_cons pb pa_nil hs) hbase hfew hline hs (by rfl), fun σ H F ρ g pre d g' e Q q => ?_⟩
  obtain ⟨dx, g1, e1, e⟩ := mb_inv e
  obtain ⟨dy, g2, e2, e⟩ := mb_inv e
  obtain ⟨e3, rfl⟩ := ml_inv e
  refine ka σ H F ρ g pre dx g1 e1 _ fun x H1 F1 s1 r1 => ?_
  unfold indexD at e3
  cases dx with
  | lst l =>
    have e3 : (if (cmpOk (.lst l) && cmpOk dy) = true then (indexL dy l).map (fun n => D.int (Int.ofNat n)) else none) = some d := e3
    by_cases hc : (cmpOk (.lst l) && cmpOk dy) = true
    · rw [if_pos hc] at e3
      obtain ⟨c1, c2⟩ := Bool.and_eq_true_iff.mp hc
      obtain ⟨j, e4, rfl⟩ := Option.map_eq_some_iff.mp e3
      obtain ⟨p, xs, rfl, k1, k2, k3⟩ := rp_lst r1
      refine ⟨.inl ⟨rfl, xs, sqL_mono s1.sub k1⟩, kb σ H1 F1 ρ g1 (pre.step s1) dy _ e2 _ fun y H2 F2 s2 r2 => ?_⟩
      obtain ⟨p1, q1⟩ := rp_shaped s2.sub (r1.mono s2.ext) c1
      obtain ⟨p2, q2⟩ := rp_shaped s2.sub r2 c2
      obtain ⟨⟨z, h1, h2⟩, h3⟩ := indexL_ok e4
      have pl : purA l = true := by
        have := (Bool.and_eq_true_iff.mp c1).1
        unfold pur at this
        exact this
      have py := (Bool.and_eq_true_iff.mp c2).1
      refine ⟨p, y, toPy dy, toPyA l, j, toPy z, rfl, rfl, by unfold toPy at p1; exact p1, p2, by unfold toPy at q1; exact q1, q2, by rw [toPyA_get, h1]; rfl, ?_, fun m z' hm hz' => ?_, q _ H2 F2 (s1.trans s2) (.int _)⟩
      · rw [eqq_ok _ _ (purA_get pl h1) py]; exact h2
      · rw [toPyA_get] at hz'
        obtain ⟨w, h5, rfl⟩ := Option.map_eq_some_iff.mp hz'
        rw [eqq_ok _ _ (purA_get pl h5) py]
        exact h3 m w hm h5
    · rw [if_neg hc] at e3
      cases e3
  | _ => cases e3
end
end PD
end
section
set_option Elab.async false
set_option linter.all false
set_option maxRecDepth 100000
set_option maxHeartbeats 4000000
set_option autoImplicit false
namespace PD
open PySem PySem.Spec L2
open PyProof.Rows hiding St

/-! ### {x for ..}: sets of any kind of members -/
def newSetObj (w : World) : Obj := { cls := .type "set", dict := none, data := .set #[] 0 (.fresh 0 0 (!w.params.followText "set-order")) }
section
variable {X : Cx} {α : Type}
/-- O: the set's object by what is known of it, a0: the empty one, ad: what a member does to it -/
def tScG (O : α → Addr → HO) (a0 : α) (ad : α → V → Hp → α → Prop) (wi : TI) (g : TG) (tt : TT) (te : TE) (vs : List Nat) : TE := fun σ H Q => wi σ H fun J H1 => ∀ D, H1 D = none →
  ∃ W : Nat → Nat → Hp → Prop, (∃ m, W 0 m (upd H1 D (O a0 D))) ∧ ∀ i m H, W i m H → (J.stop i H ∧ Q (.ref D) H) ∨ (J.go i H ∧ ∃ Nx : Hp → Prop, (∀ H', Nx H' → ∃ m', m' < m ∧ W (i + 1) m' H') ∧
    ∀ x H', J.yld i H x H' → g x (wipe σ vs) H' fun σ2 H2 => wipe σ2 vs = wipe σ vs ∧ tt σ2 H2 fun b H3 => if b = true then te σ2 H3 fun y H4 => ∃ a a', H4 D = some (O a D) ∧ ad a y H4 a' ∧ Nx (upd H4 D (O a' D)) else Nx H3)
def rAddG (O : α → Addr → HO) (ad : α → V → Hp → α → Prop) : V → List V → Hp → VK → Prop := fun x xs H Q => ∃ D y a a', x = .ref D ∧ xs = [y] ∧ H D = some (O a D) ∧ ad a y H a' ∧ Q .non (upd H D (O a' D))
theorem pe_scG {O : α → Addr → HO} {a0 : α} {ad : α → V → Hp → α → Prop} {elt tg iter : Expr} {ifs : List Expr} {scope : Scope} {own : List (PySem.Str × Nat)} {pos : Pos} {wi : TI} {g : TG} {tt : TT} {te : TE}
    (fresh : ∀ (H : Hp) (h : Heap), ObjOk X.prog X.w H (h.push (newSetObj X.w)) h.objs.size (O a0 h.objs.size))
    (add : ∀ (s : Shared) (H : Hp) (env : Env) (fp : List Addr), MtR (X.blk s H scope env fp) "set.add" (rAddG O ad))
    (hc : X.calm = true) (hN : X.N.Nodup) (hi : PI X tg iter wi) (ok : BlkOk X.N X.env.scope scope own)
    (hg : ∀ (s : Shared) (H : Hp) (C : Addr) (cl : List (PySem.Str × Addr)) (fp : List Addr), PG (X.blk s H scope (compEnvC scope cl C X.env) fp) tg g)
    (ht : ∀ (s : Shared) (H : Hp) (C : Addr) (cl : List (PySem.Str × Addr)) (fp : List Addr), PTs (X.blk s H scope (compEnvC scope cl C X.env) fp) ifs tt)
    (he : ∀ (s : Shared) (H : Hp) (C : Addr) (cl : List (PySem.Str × Addr)) (fp : List Addr), PE (X.blk s H scope (compEnvC scope cl C X.env) fp) elt te) (hs : ∀ x, foldedSetIterable iter X.env x = pure x := by intro _; rfl) :
    PE X (.SetComp elt [⟨tg, iter, ifs, 0⟩] scope pos) (tScG O a0 ad wi g tt te (own.map (·.2))) := by
  refine ⟨fun pins s0 σ H0 Q i0 hw => ?_⟩
  rw [PpSet.eval_SetComp]
  have cellsAt : ∀ y ∈ scope.names, y.2 = .free → ∃ c, X.env.cells.lookup y.1 = some c := fun y hy e => (ok.free y hy e).elim (fun k => i0.ok.has _ (.inl k)) fun k => i0.ok.has _ (.inr k)
  refine wpAny_comprehension_free (use := none) rfl hs (closure_ok cellsAt) ok.kind (fun y hy e => by rw [ok.uniq y hy, e]) (thn (hi.run pins s0 σ H0 _ i0 hw) fun xv _ hx => thn hx fun itv s2 hit => ?_)
  obtain ⟨it, fp, tn, J, H2, e, i2, T, at2, own2, q⟩ := hit
  subst e
  refine PpSet.newSet_ok (newEnv_comp ?_)
  generalize hD : s2.heap.objs.size = D
  have freeD : H2 D = none := i2.hok.fresh (Nat.le_of_eq hD)
  obtain ⟨W, ⟨m0, w0⟩, turn⟩ := q D freeD
  generalize hs3 : ({ s2 with heap := s2.heap.push { cls := .type "set", dict := none, data := .set #[] 0 (.fresh 0 0 (!X.w.params.followText "set-order")) } } : Shared) = s3
  have heap3 : s3.heap = s2.heap.push (newSetObj X.w) := by rw [← hs3]; rfl
  have i3 : Inv X pins σ (upd H2 D (O a0 D)) s3 := by
    subst hs3 hD
    exact i2.laid (t' := s2.toks) (fun b o e => Heap.get?_push_of_some _ e) (Nat.le_refl _) (fresh _ _)
  have own3 : ∀ b ∈ fp, FpOk X pins (upd H2 D (O a0 D)) b ∧ b < s3.heap.objs.size := fun b hb => by
    obtain ⟨o, e, _⟩ := T.obj _ _ at2 b hb
    have hlt := Heap.lt_size e
    refine ⟨⟨?_, (own2 b hb).2⟩, by rw [heap3, Heap.size_push]; exact Nat.lt_succ_of_lt hlt⟩
    rw [upd_ne (by rw [← hD]; exact Nat.ne_of_lt hlt)]
    exact (own2 b hb).1
  have i4 := block_start i3 ok hN own3
  have pg := hg s3 (upd H2 D (O a0 D)) s3.heap.objs.size (cellsFrom (s3.heap.objs.size + 1) scope.names (cloFrom X.env.cells scope.names [])) fp
  have pt := ht s3 (upd H2 D (O a0 D)) s3.heap.objs.size (cellsFrom (s3.heap.objs.size + 1) scope.names (cloFrom X.env.cells scope.names [])) fp
  have pe := he s3 (upd H2 D (O a0 D)) s3.heap.objs.size (cellsFrom (s3.heap.objs.size + 1) scope.names (cloFrom X.env.cells scope.names [])) fp
  have pa := add s3 (upd H2 D (O a0 D)) (compEnvC scope (cellsFrom (s3.heap.objs.size + 1) scope.names (cloFrom X.env.cells scope.names [])) s3.heap.objs.size X.env) fp
  show codeAny _ _ (.compStart (.SetComp elt [⟨tg, iter, ifs, 0⟩] scope pos) 0 (.ref it) (.ref D) (compEnvC scope (cellsFrom (s3.heap.objs.size + 1) scope.names (cloFrom X.env.cells scope.names [])) s3.heap.objs.size X.env))
    (compPost (model X.prog X.w) X.A X.xe none (EP X pins σ Q) (.ref D) s3.heap.objs.size) { s3 with heap := pushCells (s3.heap.push { cls := .type "dict", data := .dict #[] }) scope.names }
  have free3 : ∀ b ∈ fp, (upd H2 D (O a0 D)) b = none := fun b hb => (own3 b hb).1.1
  generalize hce : compEnvC scope (cellsFrom (s3.heap.objs.size + 1) scope.names (cloFrom X.env.cells scope.names [])) s3.heap.objs.size X.env = ce at i4 pg pt pe pa ⊢
  have cL : ce.locals = s3.heap.objs.size := by subst hce; rfl
  generalize hH3 : upd H2 D (O a0 D) = H3 at i3 i4 pg pt pe pa w0 free3 own3
  generalize hs4 : ({ s3 with heap := pushCells (s3.heap.push { cls := .type "dict", data := .dict #[] }) scope.names } : Shared) = s4 at i4 ⊢
  have at4 : tn 0 s4.heap := T.keep _ _ _ at2 fun b _ o e => by rw [← hs4]; exact pushCells_keeps _ _ _ _ (Heap.get?_push_of_some _ (by rw [heap3]; exact Heap.get?_push_of_some _ e))
  have fpB : ∀ {σ' : L2.St} {H' : Hp} {s' : Shared}, Inv (X.blk s3 H3 scope ce fp) [] σ' H' s' → (∀ b ∈ fp, H' b = none) → ∀ b ∈ fp, FpOk (X.blk s3 H3 scope ce fp) [] H' b := fun {σ' H' s'} i' hn b hb =>
    ⟨hn b hb, (i'.ok.exf b hb).1, i'.ok.exfs b hb, .inl hb, fun x c e => (i'.ok.exf b hb).2 x c e, fun p hp => absurd (show p ∈ ([] : List (Addr × Obj)) ++ [] from hp) (by simp)⟩
  have loop : codeAny (model X.prog X.w) X.A (.compLoop (.SetComp elt [⟨tg, iter, ifs, 0⟩] scope pos) 0 (.ref it) (.ref D) ce) (compPost (model X.prog X.w) X.A X.xe none (EP X pins σ Q) (.ref D) s3.heap.objs.size) s4 := by
    refine PpSet.compLoopS_any (fun n s' => ∃ i H', Inv (X.blk s3 H3 scope ce fp) [] (wipe σ (own.map (·.2))) H' s' ∧ tn i s'.heap ∧ (∀ b ∈ fp, H' b = none) ∧ W i n H') ?_ m0 ⟨0, H3, i4, at4, free3, w0⟩
    rintro n s5 ⟨i, H5, i5, at5, n5, w5⟩
    rcases turn i n H5 w5 with ⟨stop, qq⟩ | ⟨go, Nx, hNx, step⟩
    · refine thnF (T.done (X.blk s3 H3 scope ce fp) rfl rfl rfl hc i [] s5 _ H5 (fun _ _ => False) i5 (fpB i5 n5) at5 stop) fun r s6 ⟨hr, i6⟩ => ?_
      subst hr
      have back : Inv X pins σ H5 s6 := i3.call' (ch := fp) i6.os i6.base i6.hok i6.bare fun b hb => ⟨(own3 b hb).1.2.2.2.1, (own3 b hb).1.2.1, (own3 b hb).1.2.2.2.2.1, (own3 b hb).1.2.2.2.2.2⟩
      have nC : H5 s3.heap.objs.size = none := by
        have z : H5 ce.locals = none := i6.free
        rwa [cL] at z
      obtain ⟨m, hn, _⟩ := i6.loc
      have hn : s6.heap.Ns ce.locals m := hn
      rw [cL] at hn
      obtain ⟨f0, f1, f2, f3, f4, f5⟩ := i3.fpOk (Nat.le_refl _) nC
      exact ⟨m, hn, fun h'' sb => ⟨.ref D, H5, back.turned (t' := s6.toks) (fun b o hb e => (sb.2 b hb).trans e) f0 f1 f3 f4 f5, rfl, qq⟩⟩
    · refine thnF (T.item (X.blk s3 H3 scope ce fp) rfl rfl rfl hc i [] s5 _ H5 (fun _ _ => False) i5 (fpB i5 n5) at5 go) fun r s6 ⟨u, hr, h6⟩ => ?_
      subst hr
      refine thnF h6 fun _ s7 ⟨x, H7, i7, r7, y7, at7, n7⟩ => ?_
      refine thnF (pg.run _ s7 _ H7 x u _ (i7.pinned (fpB i7 n7) (T.obj _ _ at7)) r7 (step x H7 y7)) fun _ s8 ⟨σ8, H8, i8, hw8, q8⟩ => ?_
      refine thnF (pt.run _ s8 σ8 H8 _ i8 q8) fun b s9 ⟨H9, i9, q9⟩ => ?_
      have fin : ∀ {s' : Shared} {H' : Hp}, Inv (X.blk s3 H3 scope ce fp) ([] ++ pinsAt fp s7.heap) σ8 H' s' → Nx H' → ∃ m, m < n ∧ ∃ i H', Inv (X.blk s3 H3 scope ce fp) [] (wipe σ (own.map (·.2))) H' s' ∧ tn i s'.heap ∧ (∀ b ∈ fp, H' b = none) ∧ W i m H' := by
        intro s' H' i' nx
        obtain ⟨m', hm, w'⟩ := hNx H' nx
        have pin' : ∀ b ∈ fp, ∀ o, s7.heap.get? b = some o → s'.heap.get? b = some o ∧ H' b = none := fun b hb o e =>
          let z := i'.pin (b, o) (List.mem_append_right _ (List.mem_append_right _ (mem_pinsAt hb e))); ⟨z.1, z.2.1⟩
        have hl : (wipe σ (own.map (·.2))).length = σ8.length := by rw [← hw8, wipe_length]
        refine ⟨m', hm, i + 1, H', (i'.unpinned (pins := [])).weak hl (fun j v e => ?_), T.keep _ _ _ at7 fun b hb o e => (pin' b hb o e).1, fun b hb => ?_, w'⟩
        · rw [← hw8] at e
          exact (wipe_some e).1
        · obtain ⟨o, e, _⟩ := T.obj _ _ at7 b hb
          exact (pin' b hb o e).2
      cases b with
      | false =>
        simp only [Bool.false_eq_true, if_false] at q9 ⊢
        exact fin i9 q9
      | true =>
        simp only [if_true] at q9 ⊢
        refine thnF (pe.run _ s9 σ8 H9 _ i9 q9) fun z s10 ⟨yv, H10, i10, r10, a, a', hD10, had, nx⟩ => ?_
        refine thnF (pa _ s10 σ8 H10 (.ref D) [yv] (.ref D) [z] (fun _ H' => Nx H') i10 rfl (.cons r10 .nil) ⟨D, yv, a, a', rfl, rfl, hD10, had, nx⟩) fun _ s11 ⟨_, H11, i11, _, nx'⟩ => fin i11 nx'
  exact PpSet.codeAny_compStart_set loop (T.self X.A 0 _ _ _ at4 loop)
end
end PD
end
section
set_option Elab.async false
set_option linter.all false
set_option maxRecDepth 100000
set_option maxHeartbeats 4000000
set_option autoImplicit false
namespace PD
open PySem PySem.Spec L2
open PyProof.Rows hiding St

/-! ### sets of ints -/
abbrev ES := Rho → M (List Int)
def NewS (w : World) (K : PySem.W.Frag) (F : Fz) (H : Hp) (g g' : G) (ns : List Int) (Q : VK) : Prop := ∀ p H' F' S n, Stp K g g' F F' H H' → H p = none → F' p = none → p ∉ F'.mu → H' p = some (SetO w p S n) → (∀ k, S k = true ↔ k ∈ ns) → n ≤ ns.length → Q (.ref p) H'
def PSt (X : Cx) (e : Expr) (f : ES) : Prop := ∃ t, PE X e t ∧ ∀ σ H F ρ g, PreE X.K F H g ρ σ → ∀ ns g', f ρ g = some (ns, g') → ∀ Q : VK, NewS X.w X.K F H g g' ns Q → t σ H Q
def sO (w : World) (a : (Int → Bool) × Nat) (D : Addr) : HO := SetO w D a.1 a.2
def sAd (a : (Int → Bool) × Nat) (y : V) (_ : Hp) (b : (Int → Bool) × Nat) : Prop := ∃ k : Int, y = .int k ∧ a.2 + 1 < scanBound ∧ b = (fun j => a.1 j || decide (j = k), if a.1 k = true then a.2 else a.2 + 1)
theorem sO_add {X : Cx} : MtR X "set.add" (rAddG (sO X.w) sAd) := fun pins s σ H x xs v us Q I rx rxs ⟨D, y, a, a', e1, e2, hD, ⟨k, e3, hr, e4⟩, q⟩ => by
  subst e1 e2 e3 e4
  exact mt_sadd pins s σ H _ _ v us Q I rx rxs ⟨D, k, a.1, a.2, rfl, rfl, hD, hr, q⟩
def scA (vs : List Nat) (it : EA) (bd : B) (t : T) (e : E) : ES := fun ρ => mb (it ρ) fun ds => mb (lcL bd t e (wipeR ρ vs) ds) fun xs => ml ((tupInts xs).bind fun ns => if ns.length < 64 then some ns else none)
theorem sc_sem {w : World} {K : PySem.W.Frag} {wi : TI} {sl vs : List Nat} {bd : B} {t : T} {e : E} {it : EA} {σ : St} {F : Fz} {H0 : Hp} {ρ : Rho} {g : G}
    (kI : ∀ σ H F ρ g, PreE K F H g ρ σ → ∀ ds g', it ρ g = some (ds, g') → ∀ R : It → Hp → Prop, (∀ J H' F', Stp K g g' F F' H H' → ItS K J (off F' H').h F' ds → R J H') → wi σ H R)
    (hsl : ∀ i ∈ sl, i ∈ vs) (pre : PreE K F H0 g ρ σ) {ns : List Int} {g' : G} (ev : scA vs it bd t e ρ g = some (ns, g')) {Q : VK} (q : NewS w K F H0 g g' ns Q) :
    tScG (sO w) ((fun _ => false), 0) sAd wi (gB K sl bd) (tTT K t) (tD K e) vs σ H0 Q := by
  obtain ⟨src, g1, e1, ev⟩ := mb_inv ev
  obtain ⟨out, g2, e2, ev⟩ := mb_inv ev
  obtain ⟨ev4, rfl⟩ := ml_inv ev
  obtain ⟨ms, h1, h2⟩ := Option.bind_eq_some_iff.mp ev4
  have hz : ms.length < 64 ∧ ms = ns := by
    split at h2
    · cases h2; exact ⟨by assumption, rfl⟩
    · cases h2
  obtain ⟨hz, rfl⟩ := hz
  have ho := tupInts_ok h1
  subst ho
  refine kI σ H0 F ρ g pre src g1 e1 _ fun J H1 F1 s1 it0 L hL => ?_
  obtain ⟨ok, beg⟩ := LI.begin (o := sO w ((fun _ => false), 0) L) pre s1 hL
  refine ⟨fun i m H => m = src.length - i ∧ i ≤ src.length ∧ ∃ (F3 : Fz) (g3 : G) (a : (Int → Bool) × Nat) (dn : List Int) (lf : List D), LI K ⟨g, F, H0, (off F1 H1).h, F1, L⟩ [(ρ, σ)] (sO w a L) H F3 g3 ∧ (∀ k, a.1 k = true ↔ k ∈ dn) ∧ a.2 ≤ dn.length ∧ lcL bd t e (wipeR ρ vs) (src.drop i) g3 = some (lf, g') ∧ dn.map D.int ++ lf = ms.map D.int,
    ⟨src.length, by simp, Nat.zero_le _, F1, g1, _, [], _, beg, fun k => by simp, Nat.le_refl _, e2, rfl⟩, ?_⟩
  rintro i m H3 ⟨rfl, hi, F3, g3, a, dn, lf, h3, m3, l3, ev3, e3⟩
  obtain ⟨goes, stops⟩ := (it0.mono h3.sf) H3 h3.sw
  by_cases hlt : i < src.length
  · have hd : src[i]? = some src[i] := List.getElem?_eq_getElem hlt
    rw [List.drop_eq_getElem_cons hlt] at ev3
    unfold lcL at ev3
    obtain ⟨go, yl⟩ := goes i _ hd
    refine .inr ⟨go, fun H5 => ∃ (F3 : Fz) (g3 : G) (a : (Int → Bool) × Nat) (dn : List Int) (lf : List D), LI K ⟨g, F, H0, (off F1 H1).h, F1, L⟩ [(ρ, σ)] (sO w a L) H5 F3 g3 ∧ (∀ k, a.1 k = true ↔ k ∈ dn) ∧ a.2 ≤ dn.length ∧ lcL bd t e (wipeR ρ vs) (src.drop (i + 1)) g3 = some (lf, g') ∧ dn.map D.int ++ lf = ms.map D.int, fun H5 h5 => ⟨_, by omega, rfl, by omega, h5⟩, fun x H4 y => ?_⟩
    have pr := h3.pre _ (List.mem_cons_self)
    obtain ⟨F4, s4, r4⟩ := (yl x H4 y).step pr.sub pr.rep
    have h4 := h3.step s4
    cases hb : bd src[i] (wipeR ρ vs) with
    | none => rw [hb] at ev3; cases ev3
    | some ρ' =>
      rw [hb] at ev3
      obtain ⟨c, g5, e5, ev3⟩ := mb_inv ev3
      refine ⟨F4, wipeR ρ vs, g3, src[i], ρ', (h4.pre _ List.mem_cons_self).wipe vs, r4, hb, fun σ' pre' _ hw => ⟨by rw [hw vs hsl]; exact wipe_twice σ vs, ?_⟩⟩
      refine ⟨F4, ρ', g3, c, g5, pre', e5, fun H5 F5 s5 => ?_⟩
      have h5 := h4.step s5
      cases c with
      | false =>
        rw [if_neg Bool.false_ne_true] at ev3
        exact iteF ⟨F5, g5, a, dn, lf, h5, m3, l3, ev3, e3⟩
      | true =>
        rw [if_pos rfl] at ev3
        refine iteT ?_
        obtain ⟨z, g6, e6, ev3⟩ := mb_inv ev3
        obtain ⟨zs, g7, e7, ev3⟩ := mb_inv ev3
        obtain ⟨rfl, rfl⟩ := mr_inv ev3
        refine ⟨F5, ρ', g5, z, g6, pre'.step s5, e6, fun u H6 F6 s6 r6 => ?_⟩
        have h6 := h5.step s6
        -- the member is an int
        have hlen := congrArg List.length e3
        simp only [List.length_append, List.length_map, List.length_cons] at hlen
        have hzi : ∃ k, z = .int k := by
          have hg : (ms.map D.int)[dn.length]? = some z := by rw [← e3, List.getElem?_append_right (by simp)]; simp
          rw [List.getElem?_map] at hg
          obtain ⟨k, _, h⟩ := Option.map_eq_some_iff.mp hg
          exact ⟨k, h.symm⟩
        obtain ⟨k, rfl⟩ := hzi
        refine ⟨a, (fun j => a.1 j || decide (j = k), if a.1 k = true then a.2 else a.2 + 1), h6.hl, ⟨k, rp_int r6, ?_, rfl⟩, F6, g6, _, dn ++ [k], zs, h6.mut ok, fun j => ?_, ?_, e7, by rw [← e3]; simp⟩
        · have : scanBound = 4096 := rfl
          omega
        · simp only [Bool.or_eq_true, decide_eq_true_eq, List.mem_append, List.mem_singleton, m3 j]
        · simp only [List.length_append, List.length_cons, List.length_nil]
          split <;> omega
  · have e4 : i = src.length := by omega
    subst e4
    rw [List.drop_length] at ev3
    obtain ⟨rfl, rfl⟩ := mr_inv ev3
    rw [List.append_nil] at e3
    have e5 : dn = ms := by
      have := congrArg tupInts e3
      rw [tupInts_map, tupInts_map] at this
      exact Option.some.inj this
    subst e5
    exact .inl ⟨stops _ (Nat.le_refl _), q L H3 F3 a.1 a.2 h3.st ok.h0 h3.fl h3.ml h3.hl m3 l3⟩
/-- the members, each once, rising -/
def insU (x : Int) : List Int → List Int
  | [] => [x]
  | y :: ys => if x < y then x :: y :: ys else if x = y then y :: ys else y :: insU x ys
def sortU (l : List Int) : List Int := l.foldr insU []
theorem insU_mem {x k : Int} : ∀ {l : List Int}, k ∈ insU x l ↔ k = x ∨ k ∈ l
  | [] => by simp [insU]
  | y :: ys => by
    unfold insU
    split
    · simp
    · split
      · rename_i e; subst e; simp
      · rw [List.mem_cons, insU_mem, List.mem_cons]
        constructor
        · rintro (h | h | h) <;> simp [h]
        · rintro (h | h | h) <;> simp [h]
theorem insU_pw {x : Int} : ∀ {l : List Int}, l.Pairwise (· < ·) → (insU x l).Pairwise (· < ·)
  | [], _ => List.pairwise_singleton _ _
  | y :: ys, h => by
    obtain ⟨h1, h2⟩ := List.pairwise_cons.mp h
    unfold insU
    split
    · rename_i hx
      exact List.pairwise_cons.mpr ⟨fun z hz => (List.mem_cons.mp hz).elim (fun e => by rw [e]; exact hx) fun hz => Int.lt_trans hx (h1 z hz), h⟩
    · split
      · exact h
      · refine List.pairwise_cons.mpr ⟨fun z hz => ?_, insU_pw h2⟩
        rcases insU_mem.mp hz with e | hz
        · omega
        · exact h1 z hz
theorem sortU_mem {k : Int} : ∀ {l : List Int}, k ∈ sortU l ↔ k ∈ l
  | [] => by simp [sortU]
  | x :: l => by
    show k ∈ insU x (sortU l) ↔ _
    rw [insU_mem, sortU_mem, List.mem_cons]
theorem sortU_pw : ∀ (l : List Int), (sortU l).Pairwise (· < ·)
  | [] => .nil
  | x :: l => insU_pw (sortU_pw l)
theorem rising_uniq : ∀ {l m : List Int}, l.Pairwise (· < ·) → m.Pairwise (· < ·) → (∀ k, k ∈ l ↔ k ∈ m) → l = m
  | [], [], _, _, _ => rfl
  | [], y :: m, _, _, h => absurd ((h y).mpr List.mem_cons_self) (by simp)
  | x :: l, [], _, _, h => absurd ((h x).mp List.mem_cons_self) (by simp)
  | x :: l, y :: m, hl, hm, h => by
    obtain ⟨l1, l2⟩ := List.pairwise_cons.mp hl
    obtain ⟨m1, m2⟩ := List.pairwise_cons.mp hm
    have e : x = y := by
      have a := (h x).mp List.mem_cons_self
      have b := (h y).mpr List.mem_cons_self
      rcases List.mem_cons.mp a with a | a
      · exact a
      · rcases List.mem_cons.mp b with b | b
        · exact b.symm
        · have := l1 y b; have := m1 x a; omega
    subst e
    congr 1
    refine rising_uniq l2 m2 fun k => ?_
    constructor
    · intro hk
      rcases List.mem_cons.mp ((h k).mp (List.mem_cons_of_mem _ hk)) with e | e
      · have := l1 k hk; omega
      · exact e
    · intro hk
      rcases List.mem_cons.mp ((h k).mpr (List.mem_cons_of_mem _ hk)) with e | e
      · have := m1 k hk; omega
      · exact e
def eSrtSet (f : ES) : E := fun ρ => mb (f ρ) fun ns => if ns.length < 64 then mr (.lst ((sortU ns).map D.int)) else mz
section
variable {X : Cx} {pos : Pos} {elt tg iter : Expr} {ifs : List Expr} {scope : Scope} {it : EA} {bd : B} {t : T} {f : E} {sl : List Nat}
theorem ps_sc (own : List (Str × Nat)) (hc : X.calm = true) (hN : X.N.Nodup) (hi : PBI X tg iter it) (ok : BlkOk X.N X.env.scope scope own)
    (hg : ∀ (s : Shared) (H : Hp) (C : Addr) (cl : List (Str × Addr)) (fp : List Addr), PDG (X.blk s H scope (compEnvC scope cl C X.env) fp) tg sl bd) (ht : ∀ (s : Shared) (H : Hp) (C : Addr) (cl : List (Str × Addr)) (fp : List Addr), PDTs (X.blk s H scope (compEnvC scope cl C X.env) fp) ifs t)
    (he : ∀ (s : Shared) (H : Hp) (C : Addr) (cl : List (Str × Addr)) (fp : List Addr), PD (X.blk s H scope (compEnvC scope cl C X.env) fp) elt f)
    (hsl : ∀ i ∈ sl, i ∈ own.map (·.2) := by decide) (hs : ∀ x, foldedSetIterable iter X.env x = pure x := by intro _; rfl) : PSt X (.SetComp elt [⟨tg, iter, ifs, 0⟩] scope pos) (scA (own.map (·.2)) it bd t f) := by
  obtain ⟨wi, hw, kI⟩ := hi
  refine ⟨_, pe_scG (O := sO X.w) (a0 := ((fun _ => false), 0)) (ad := sAd) (g := gB X.K sl bd) (tt := tTT X.K t) (te := tD X.K f) (fun H h => setO_new (setR_fresh X.w)) (fun s H env fp => sO_add (X := X.blk s H scope env fp)) hc hN hw ok
    (fun s H C cl fp => (hg s H C cl fp).can) ht (fun s H C cl fp => (he s H C cl fp).can) hs, fun σ H F ρ g pre ns g' e Q q => ?_⟩
  exact sc_sem kI hsl pre e q
variable {e : Expr} {fs : ES} {p : Pos}
theorem pd_sortedSet (hc : X.calm = true) (hm : X.mg "sorted" = none) (ha : PSt X e fs) (hg : Gl X "sorted" := by rfl) (he : starEach [e] X.env = (false, eval e X.env) :: starEach [] X.env := by rfl) (hpl : (backTo pos (starEach [] X.env)).any (·.1) = false := by rfl) :
    PD X (.Call (.Name "sorted" p) [e] [] pos) (eSrtSet fs) := by
  obtain ⟨t, ht, k⟩ := ha
  refine ⟨_, pe_callB (cr_sortedSet hc) hg hm (by decide +kernel) (pa_cons ht pa_nil he) (by decide) (by decide) he hpl, fun σ H F ρ g pre d g' ev Q q => ?_⟩
  obtain ⟨ns, g1, e1, ev⟩ := mb_inv ev
  by_cases hz : ns.length < 64
  · rw [if_pos hz] at ev
    obtain ⟨rfl, rfl⟩ := mr_inv ev
    refine k σ H F ρ g pre ns _ e1 _ fun a H1 F1 S n s1 n1 n2 n3 n4 n5 n6 => ⟨a, S, n, rfl, n4, by omega, fun ms b h1 h2 h3 hb => ?_⟩
    have e2 : ms = sortU ns := rising_uniq h1 (sortU_pw ns) fun k => by rw [h2, n5, sortU_mem]
    subst e2
    refine q _ _ _ (s1.trans (.alloc s1.sub s1.rep hb)) (rp_new_lst (s1.sub.free hb) ?_ (RpA.ofInts _))
    rw [List.length_map, h3, sizeLine_eq]
    omega
  · rw [if_neg hz] at ev
    cases ev
end
end PD
end
section
set_option Elab.async false
set_option linter.all false
set_option maxRecDepth 100000
set_option maxHeartbeats 4000000
set_option autoImplicit false
namespace PD
open PySem PySem.Spec L2
open PyProof.Rows hiding St

/-! ### calls by names -/
/-- pm: for each parameter the place of its value among those given, places first -/
def perm {α : Type} (pm : List Nat) (d : α) (l : List α) : List α := pm.map fun j => l.getD j d
structure FnDK (P : Program) (w : World) (K : PySem.W.Frag) (mg : Str → Option Value) (base : Heap) (k : Nat) (x : Str) (n : Nat) (f : List D → M D) (ks : List Str) (pm : List Nat) : Prop where
  ex : ∃ (a : Addr) (fd : FuncData) (ps : List Str), mg x = some (.ref a) ∧ PySem.W.keepIn K (.ref a) = true ∧ FnG P w K mg base CX0 k a fd ps (spD K n f) ∧ ps.length = n ∧ pm.length = n ∧
    ∀ (s : Shared) (us ws : List Value), us.length = n - ks.length → ws.length = ks.length → BindsTo s fd ⟨us, ks.zip ws⟩ (ps.zip (perm pm .none (us ++ ws)))
/-- the keywords' values -/
def PKA (X : Cx) (kws : List Keyword) (f : EA) : Prop := ∃ t, L2.PK X kws t ∧ ∀ σ H F ρ g, PreE X.K F H g ρ σ → ∀ ds g', f ρ g = some (ds, g') → ∀ Q : List V → Hp → Prop,
  (∀ vs H' F', Stp X.K g g' F F' H H' → RpA X.K F' vs ds → Q vs H') → t σ H Q
def eCallK (f : List D → M D) (pm : List Nat) (as ks : EA) : E := fun ρ => mb (as ρ) fun ds => mb (ks ρ) fun es => f (perm pm .non (ds ++ es))
theorem vals_perm {vs : List V} {us : List Value} (r : Vals vs us) : ∀ {pm : List Nat}, (∀ j ∈ pm, j < vs.length) → Vals (perm pm .non vs) (perm pm .none us)
  | [], _ => .nil
  | j :: pm, h => by
    have hj := h j List.mem_cons_self
    refine .cons ?_ (vals_perm r fun i hi => h i (List.mem_cons_of_mem _ hi))
    obtain ⟨u, h1, h2⟩ := r.get (List.getElem?_eq_getElem hj)
    simp only [List.getD_eq_getElem?_getD, h1, List.getElem?_eq_getElem hj]
    exact h2
theorem rp_perm {K : PySem.W.Frag} {F : Fz} {vs : List V} {ds : List D} (r : RpA K F vs ds) : ∀ {pm : List Nat}, (∀ j ∈ pm, j < vs.length) → RpA K F (perm pm .non vs) (perm pm .non ds)
  | [], _ => .nil
  | j :: pm, h => by
    have hj := h j List.mem_cons_self
    refine .cons ?_ (rp_perm r fun i hi => h i (List.mem_cons_of_mem _ hi))
    obtain ⟨u, h1, h2⟩ := r.getV (List.getElem?_eq_getElem hj)
    simp only [List.getD_eq_getElem?_getD, h1, List.getElem?_eq_getElem hj]
    exact h2
section
variable {X : Cx} {e : Expr} {es : List Expr} {f : E} {fs fk : EA} {kws : List Keyword} {nm : Option Str} {kpos p pos : Pos} {x : Str} {k n : Nat} {ks : List Str} {pm : List Nat} {F : List D → M D}
theorem pka_nil : PKA X [] aNil := ⟨_, pk_nil, fun σ H F ρ g pre d g' e Q q => by
  obtain ⟨rfl, rfl⟩ := mr_inv e
  exact q _ H F pre.refl .nil⟩
theorem pka_cons (h : PD X e f) (hr : PKA X kws fs) : PKA X (⟨nm, e, kpos⟩ :: kws) (aCons f fs) := by
  obtain ⟨t, ht, k⟩ := h
  obtain ⟨t2, ht2, k2⟩ := hr
  refine ⟨_, pk_cons ht ht2, fun σ H F ρ g pre d g' e Q q => ?_⟩
  obtain ⟨x, g1, e1, e⟩ := mb_inv e
  obtain ⟨xs, g2, e2, e⟩ := mb_inv e
  obtain ⟨rfl, rfl⟩ := mr_inv e
  refine k σ H F ρ g pre x g1 e1 _ fun v H1 F1 s1 r1 => ?_
  exact k2 σ H1 F1 ρ g1 (pre.step s1) xs _ e2 _ fun vs H2 F2 s2 r2 => q _ H2 F2 (s1.trans s2) (.cons (r1.mono s2.ext) r2)
theorem run_gk {pins : List (Addr × Obj)} {σ : St} {H : Hp} {s : Shared} {Q : VK} {us ws : List Value} {vs zs : List V} {CX : CXT} {a : Addr} {fd : FuncData} {ps : List Str} {sp : Sp} {E : XK} (F : FnG X.prog X.w X.K X.mg X.base CX k a fd ps sp) (hr : Room k X.A) (gd : X.A.guards = some [])
    (hb : BindsTo s fd ⟨us, ks.zip ws⟩ (ps.zip (perm pm .none (us ++ ws)))) (hx : Passes CX X E) (hj : ∀ j ∈ pm, j < (vs ++ zs).length)
    (I : Inv X pins σ H s) (r : Vals vs us) (rz : Vals zs ws) (h : sp (perm pm .non (vs ++ zs)) H Q E) : wpAny (model X.prog X.w) X.A (call (.ref a) us (ks.zip ws)) (EP X pins σ Q) X.xe s := by
  refine wpAny_call (codeAny_mono (F.run X.A X.stack s H ⟨us, ks.zip ws⟩ (perm pm .none (us ++ ws)) (perm pm .non (vs ++ zs)) Q E hr gd I.env0 hb (vals_perm (r.append rz) hj) h) fun r s' hq => ?_)
  match r, hq with
  | .error er, hq => exact hx pins σ H s er s' I hq
  | .ok (.ret u), hq => exact I.after hq
  | .ok .next, hq => exact False.elim hq
  | .ok .brk, hq => exact False.elim hq
  | .ok .cont, hq => exact False.elim hq
/-- f(k = v, ..) -/
theorem pd_callK0 (hf : FnDK X.prog X.w X.K X.mg X.base k x n F ks pm) (hr : Room k X.A) (gd : X.A.guards = some []) (hk : PKA X kws fk) (hn : ∀ ρ g ds g', fk ρ g = some (ds, g') → ds.length = n) (hkn : ks.length = n := by rfl) (hj : ∀ j ∈ pm, j < n := by decide)
    (hg : Gl X x := by rfl) (hall : (backToKw pos (keywordEach kws X.env)).all (·.1.isSome) = true := by rfl) (hks : (backToKw pos (keywordEach kws X.env)).filterMap (·.1) = ks := by rfl) (hdb : (x == ("__debug__" : Str)) = false := by decide)
    (hpl : ((backTo pos (starEach [] X.env)).any (·.1) || (backToKw pos (keywordEach kws X.env)).any (·.1.isNone)) = false := by rfl) : PD X (.Call (.Name x p) [] kws pos) (eCallK F pm aNil fk) := by
  obtain ⟨a, fd, ps, hm, hkp, G, hps, hpm, hb⟩ := hf.ex
  obtain ⟨t, ht, kk⟩ := hk
  refine ⟨fun σ H Q => t σ H fun zs H1 => ∃ F1 g ds d g', Same F1.h H1 ∧ GRep X.K g F1 H1 ∧ RpA X.K F1 zs ds ∧ ds.length = n ∧ F (perm pm .non ds) g = some (d, g') ∧ ∀ v H' F', Stp X.K g g' F1 F' H1 H' → Rp X.K F' v d → Q v H', ⟨fun pins s σ H Q I h => ?_⟩, fun σ H F0 ρ g pre d g' e Q q => ?_⟩
  · refine wpAny_Call_Name_kw (ld_glob I hg hm ?_ hdb)
    refine PySem.W.callWith_KW0 (h₀ := X.base) I.ok.mod.kin hkp hall ?_ hpl
    refine thn (ht.run pos pins s σ H _ I h) fun ws s2 ⟨zs, H2, I2, rz, F1, g, ds, d, g', z1, z2, z3, z4, z5, z6⟩ => ⟨I2.kIn, ?_⟩
    rw [hks]
    have hl : zs.length = n := by rw [z3.length]; exact z4
    refine run_gk (us := []) (vs := []) G hr gd (hb s2 [] ws (by rw [hkn]; simp) (by rw [← rz.length, hl, hkn])) pass0 (by simpa [hl] using hj) I2 .nil rz ?_
    refine ⟨F1, g, perm pm .non ds, d, g', by simp [perm, hpm], z1, z2, ?_, z5, z6⟩
    exact rp_perm z3 (by rw [hl]; exact hj)
  · have e : mb (fk ρ) (fun es => F (perm pm .non es)) g = some (d, g') := e
    obtain ⟨es, g2, e2, e⟩ := mb_inv e
    refine kk σ H F0 ρ _ pre es g2 e2 _ fun vs H1 F1 s1 r1 => ?_
    exact ⟨F1, g2, es, d, g', s1.sub, s1.rep, r1, hn _ _ _ _ e2, e, fun v H2 F2 s2 r2 => q v H2 F2 (s1.trans s2) r2⟩
/-- f(e, .., k = v, ..) -/
theorem pd_callK (hf : FnDK X.prog X.w X.K X.mg X.base k x n F ks pm) (hr : Room k X.A) (gd : X.A.guards = some []) {n1 n2 : Nat} (ha : PDA X (e :: es) fs) (hk : PKA X kws fk) (hn1 : ∀ ρ g ds g', fs ρ g = some (ds, g') → ds.length = n1) (hn2 : ∀ ρ g ds g', fk ρ g = some (ds, g') → ds.length = n2) (hkn : ks.length = n2 := by rfl)
    (hnn : n1 + n2 = n := by rfl) (hj : ∀ j ∈ pm, j < n := by decide) (hg : Gl X x := by rfl) (hall : (backToKw pos (keywordEach kws X.env)).all (·.1.isSome) = true := by rfl) (hks : (backToKw pos (keywordEach kws X.env)).filterMap (·.1) = ks := by rfl) (hdb : (x == ("__debug__" : Str)) = false := by decide)
    (he : starEach (e :: es) X.env = (false, eval e X.env) :: starEach es X.env := by rfl) (hpl : ((backTo pos (starEach (e :: es) X.env)).any (·.1) || (backToKw pos (keywordEach kws X.env)).any (·.1.isNone)) = false := by rfl) : PD X (.Call (.Name x p) (e :: es) kws pos) (eCallK F pm fs fk) := by
  obtain ⟨a, fd, ps, hm, hkp, G, hps, hpm, hb⟩ := hf.ex
  obtain ⟨t1, ht1, k1⟩ := ha
  obtain ⟨t, ht, kk⟩ := hk
  refine ⟨fun σ H Q => t1 σ H fun vs H0 => t σ H0 fun zs H1 => ∃ F1 g ds es d g', Same F1.h H1 ∧ GRep X.K g F1 H1 ∧ RpA X.K F1 vs ds ∧ RpA X.K F1 zs es ∧ ds.length = n1 ∧ es.length = n2 ∧ F (perm pm .non (ds ++ es)) g = some (d, g') ∧ ∀ v H' F', Stp X.K g g' F1 F' H1 H' → Rp X.K F' v d → Q v H', ⟨fun pins s σ H Q I h => ?_⟩, fun σ H F0 ρ g pre d g' e Q q => ?_⟩
  · refine wpAny_Call_Name_kw (ld_glob I hg hm ?_ hdb)
    refine PySem.W.callWith_KW (h₀ := X.base) I.ok.mod.kin hkp hall (thn (ht1.run pos pins s σ H _ I h) fun us s1 ⟨vs, H1, I1, rv, hh⟩ => ?_) hpl he
    refine thn (ht.run pos pins s1 σ H1 _ I1 hh) fun ws s2 ⟨zs, H2, I2, rz, F1, g, ds, es, d, g', z1, z2, z3, z3', z4, z4', z5, z6⟩ => ⟨I2.kIn, ?_⟩
    rw [hks]
    have hl1 : vs.length = n1 := by rw [z3.length]; exact z4
    have hl : zs.length = n2 := by rw [z3'.length]; exact z4'
    have hjj : ∀ j ∈ pm, j < (vs ++ zs).length := by rw [List.length_append, hl1, hl, hnn]; exact hj
    refine run_gk G hr gd (hb s2 us ws (by rw [← rv.length, hl1, hkn]; omega) (by rw [← rz.length, hl, hkn])) pass0 hjj I2 rv rz ?_
    exact ⟨F1, g, perm pm .non (ds ++ es), d, g', by simp [perm, hpm], z1, z2, rp_perm (z3.append z3') hjj, z5, z6⟩
  · obtain ⟨ds, g1, e1, e⟩ := mb_inv e
    obtain ⟨es, g2, e2, e⟩ := mb_inv e
    refine k1 σ H F0 ρ g pre ds g1 e1 _ fun vs H1 F1 s1 r1 => kk σ H1 F1 ρ g1 (pre.step s1) es g2 e2 _ fun ws H2 F2 s2 r2 => ?_
    exact ⟨F2, g2, ds, es, d, g', s2.sub, s2.rep, r1.mono s2.ext, r2, hn1 _ _ _ _ e1, hn2 _ _ _ _ e2, e, fun v H3 F3 s3 r3 => q v H3 F3 ((s1.trans s2).trans s3) r3⟩
end
end PD
end
section
set_option Elab.async false
set_option linter.all false
set_option maxRecDepth 100000
set_option maxHeartbeats 4000000
set_option autoImplicit false
namespace PD
open PySem PySem.Spec L2
open PyProof.Rows hiding St

/-! ### new things of the store -/
theorem Stp.share {K : PySem.W.Frag} {g g' : G} {F F' : Fz} {H H' : Hp} {p : Addr} {m : MO} (s : Stp K g g' F F' H H') (hp : H p = none) (hF : F' p = none) (hm : p ∉ F'.mu) (ok : MOk K F' H' p m) : Stp K g (g' ++ [m]) F ⟨F'.h, F'.mu ++ [p]⟩ H H' := by
  have ex : Ext F' ⟨F'.h, F'.mu ++ [p]⟩ := ⟨Same.refl _, List.prefix_append _ _⟩
  refine ⟨s.same, s.mono, s.ext.trans ex, s.new, fun a h => ?_, s.sub, ⟨by simp [s.rep.len], ?_, fun n x a h1 h2 => ?_⟩⟩
  · rcases List.mem_append.mp h with h | h
    · exact s.newM a h
    · rw [List.mem_singleton.mp h]; exact .inr hp
  · refine List.nodup_append.mpr ⟨s.rep.nd, by simp, fun a ha b hb z => hm ?_⟩
    rw [List.mem_singleton.mp hb] at z
    rw [← z]; exact ha
  · have h2 : (F'.mu ++ [p])[n]? = some a := h2
    by_cases hn : n < g'.length
    · rw [List.getElem?_append_left hn] at h1
      rw [List.getElem?_append_left (by rw [← s.rep.len]; exact hn)] at h2
      obtain ⟨q1, q2⟩ := s.rep.at_ n x a h1 h2
      exact ⟨q1, q2.mono ex rfl⟩
    · have hn2 : n = g'.length := by
        have := (List.getElem?_eq_some_iff.mp h1).1
        simp at this
        omega
      subst hn2
      rw [List.getElem?_append_right (Nat.le_refl _)] at h1
      rw [List.getElem?_append_right (by rw [s.rep.len]; exact Nat.le_refl _), s.rep.len] at h2
      simp at h1 h2
      subst h1 h2
      exact ⟨hF, ok.mono ex rfl⟩
def mNew (m : MO) : M D := fun g => some (.hd g.length, g ++ [m])
def eMk (f : EK) : E := fun ρ => mb (f ρ) fun r => mNew (.mk r.1 r.2)
def eMl (f : EA) : E := fun ρ => mb (f ρ) fun r => mNew (.ml r)
section
variable {X : Cx} {e : Expr} {fk : EK} {fs : EA} {pos : Pos}
theorem mu_last {F : Fz} {p : Addr} : (⟨F.h, F.mu ++ [p]⟩ : Fz).mu[F.mu.length]? = some p := by simp
theorem pd_mk (h : PK X e fk) : PD X e (eMk fk) := by
  obtain ⟨t, ht, k⟩ := h
  refine ⟨t, ht, fun σ H F ρ g pre d g' e Q q => ?_⟩
  obtain ⟨r, g1, e1, e⟩ := mb_inv e
  cases e
  refine k σ H F ρ g pre r _ e1 Q fun p H' F' kvs s hp hF hg hH hz hk _ rr => ?_
  refine q (.ref p) H' _ (s.share hp hF hg (m := .mk r.1 r.2) ⟨kvs, hH, hk, rr⟩) (.hd ?_)
  rw [s.rep.len]
  exact mu_last
theorem pd_ml (h : PO X e fs) : PD X e (eMl fs) := by
  obtain ⟨t, ht, k⟩ := h
  refine ⟨t, ht, fun σ H F ρ g pre d g' e Q q => ?_⟩
  obtain ⟨r, g1, e1, e⟩ := mb_inv e
  cases e
  refine k σ H F ρ g pre r _ e1 Q fun p H' F' vs s hp hF hg hH hz rr => ?_
  refine q (.ref p) H' _ (s.share hp hF hg (m := .ml r) ⟨vs, hH, hz, rr⟩) (.hd ?_)
  rw [s.rep.len]
  exact mu_last
end
/-! ### {k: v, ..} -/
abbrev EP2 := Rho → M (List (D × D))
def PPD (X : Cx) (pos : Pos) (keys : List (Option Expr)) (values : List Expr) (f : EP2) : Prop := ∃ trs, PPs X pos keys values trs ∧ ∀ σ H F ρ g, PreE X.K F H g ρ σ → ∀ r g', f ρ g = some (r, g') → ∀ Q : List (V × V) → Hp → Prop,
  (∀ ps H' F', Stp X.K g g' F F' H H' → RpA X.K F' (ps.map (·.1)) (r.map (·.1)) → RpA X.K F' (ps.map (·.2)) (r.map (·.2)) → Q ps H') → tPairs trs σ H Q
def pNil : EP2 := fun _ => mr []
def pCons (k v : E) (r : EP2) : EP2 := fun ρ => mb (k ρ) fun x => mb (v ρ) fun y => mb (r ρ) fun l => mr ((x, y) :: l)
def eDisp (f : EP2) : EK := fun ρ => mb (f ρ) fun r => ml ((keysD (r.map (·.1))).bind fun ks => if ks.length ≤ 15 then some (mergeD ([], []) ks (r.map (·.2))) else none)
theorem mergeD_len : ∀ {ks : List Key} {l : List D} {acc : List Key × List D}, acc.1.length = acc.2.length → (mergeD acc ks l).1.length = (mergeD acc ks l).2.length
  | [], _, acc, h => h
  | _ :: _, [], acc, h => h
  | k :: ks, d :: l, acc, h => mergeD_len (ks := ks) (l := l) (acc := putD acc.1 acc.2 k d) (putD_len h)
theorem mergeD_nodup : ∀ {ks : List Key} {l : List D} {acc : List Key × List D}, acc.1.length = acc.2.length → acc.1.Nodup → (mergeD acc ks l).1.Nodup
  | [], _, acc, _, h => h
  | _ :: _, [], acc, _, h => h
  | k :: ks, d :: l, acc, h, n => mergeD_nodup (ks := ks) (l := l) (acc := putD acc.1 acc.2 k d) (putD_len h) (putD_nodup h n)
theorem keysD_len : ∀ {l : List D} {ks : List Key}, keysD l = some ks → ks.length = l.length
  | [], ks, h => by cases h; rfl
  | d :: l, ks, h => by
    unfold keysD at h
    cases hk : keyD d with
    | none => rw [hk] at h; cases h
    | some k =>
      cases hl : keysD l with
      | none => rw [hk, hl] at h; cases h
      | some m => rw [hk, hl] at h; cases h; simp [keysD_len hl]
theorem zip_pairs : ∀ {ps : List (V × V)} {kl : List Key}, ps.map (·.1) = kl.map kV → ps = (kl.zip (ps.map (·.2))).map fun kv => (kV kv.1, kv.2)
  | [], [], _ => rfl
  | [], _ :: _, h => by cases h
  | _ :: _, [], h => by cases h
  | (a, b) :: ps, k :: kl, h => by
    simp only [List.map_cons, List.cons.injEq] at h
    simp only [List.map_cons, List.zip_cons_cons, List.cons.injEq]
    exact ⟨by rw [h.1], zip_pairs h.2⟩
section
variable {X : Cx} {k v : Expr} {fk fv : E} {fp : EP2} {ks : List (Option Expr)} {vs : List Expr} {pos : Pos}
theorem ppd_nil : PPD X pos [] [] pNil := ⟨[], pps_nil, fun σ H F ρ g pre r g' e Q q => by
  obtain ⟨rfl, rfl⟩ := mr_inv e
  exact q [] H F pre.refl .nil .nil⟩
theorem ppd_cons (hk : PD X k fk) (hv : PD X v fv) (hr : PPD X pos ks vs fp) : PPD X pos (some k :: ks) (v :: vs) (pCons fk fv fp) := by
  obtain ⟨tk, pk, kk⟩ := hk
  obtain ⟨tv, pv, kv⟩ := hv
  obtain ⟨trs, pr, kr⟩ := hr
  refine ⟨_, pps_cons pk pv pr, fun σ H F ρ g pre r g' e Q q => ?_⟩
  obtain ⟨x, g1, e1, e⟩ := mb_inv e
  obtain ⟨y, g2, e2, e⟩ := mb_inv e
  obtain ⟨l, g3, e3, e⟩ := mb_inv e
  obtain ⟨rfl, rfl⟩ := mr_inv e
  refine kk σ H F ρ g pre x g1 e1 _ fun a H1 F1 s1 r1 => kv σ H1 F1 ρ g1 (pre.step s1) y g2 e2 _ fun b H2 F2 s2 r2 => kr σ H2 F2 ρ g2 (pre.step (s1.trans s2)) l _ e3 _ fun ps H3 F3 s3 r3 r4 => ?_
  exact q _ H3 F3 ((s1.trans s2).trans s3) (.cons (r1.mono (s2.ext.trans s3.ext)) r3) (.cons (r2.mono s3.ext) r4)
theorem pk_disp (h : PPD X pos ks vs fp) (hall : ks.all (·.isSome) = true := by rfl) (hl : ks.length = vs.length := by rfl) (h0 : ks ≠ [] := by simp) (h15 : ks.length ≤ 15 := by decide) : PK X (.Dict ks vs pos) (eDisp fp) := by
  obtain ⟨trs, pr, kr⟩ := h
  refine ⟨_, pe_disp pr hall hl h0 h15, fun σ H F ρ g pre r g' e Q q p hp => ?_⟩
  obtain ⟨l, g1, e1, e⟩ := mb_inv e
  obtain ⟨e2, rfl⟩ := ml_inv e
  obtain ⟨kl, e3, e4⟩ := Option.bind_eq_some_iff.mp e2
  split at e4
  · rename_i hz
    cases e4
    have s0 : Stp X.K g g F F H (upd H p (.dK [])) := .allocO pre.sub pre.rep hp
    have fF : F p = none := pre.sub.free hp
    have fM : p ∉ F.mu := pre.rep.out hp
    refine kr σ _ F ρ g (pre.step s0) l _ e1 _ fun ps H2 F2 s2 r2 r3 => ?_
    have hH : H2 p = some (.dK []) := s2.same p _ fM upd_same
    have ek := keysD_ok r2 e3
    have hlen : kl.length = ps.length := by
      have := congrArg List.length ek
      simpa using this.symm
    have epk := zip_pairs ek
    have hml : (kl.map kV).length = ps.length := by simpa using hlen
    have ez1 : (kl.zip (ps.map (·.2))).map (·.1) = kl := List.map_fst_zip (by simp [hlen])
    have ez2 : (kl.zip (ps.map (·.2))).map (·.2) = ps.map (·.2) := List.map_snd_zip (by simp [hlen])
    refine ⟨hH, kl.zip (ps.map (·.2)), epk, by rw [List.length_zip, List.length_map, hlen]; omega, ?_⟩
    obtain ⟨q1, q2⟩ := mergeD_ok (K := X.K) (F := F2) (kvs := []) (l := []) (more := kl.zip (ps.map (·.2))) (m := l.map (·.2)) List.nodup_nil .nil (by rw [ez2]; exact r3)
    rw [ez1] at q1 q2
    have fF2 : F2 p = none := s2.keepN fF upd_same
    have fM2 : p ∉ F2.mu := s2.keepM fM upd_same
    refine q p _ F2 (mergeK [] (kl.zip (ps.map (·.2)))) ((s0.trans s2).mut hp fF2 fM2) hp fF2 fM2 upd_same ?_ q1 (mergeD_nodup rfl List.nodup_nil) q2
    refine Nat.le_trans (length_mergeK _ _) ?_
    rw [List.length_zip, List.length_map, sizeLine_eq, List.length_nil]
    omega
  · cases e4
end
end PD
end
section
set_option Elab.async false
set_option linter.all false
set_option maxRecDepth 100000
set_option maxHeartbeats 4000000
set_option autoImplicit false
namespace PD
open PySem PySem.Spec L2
open PyProof.Rows hiding St
section
variable {X : Cx} {k : Nat}
theorem hu64 (hr : Room k X.A) : X.A.units + 64 < cLine := by have := hu66 hr; omega
theorem hu65 (hr : Room k X.A) : X.A.units + 65 < cLine := by have := hu66 hr; omega
theorem hu0 (hr : Room k X.A) : X.A.units < cLine := by have := hu66 hr; omega
end
def nkB : NameKind → NameKind → Bool := fun a b => decide (a = b)
def lkB (l : List (Str × NameKind)) (x : Str) (k : NameKind) : Bool := decide (l.lookup x = some k)
/-- a block's names, looked at -/
def blkB (N : List Str) (sc scope : Scope) (own : List (Str × Nat)) : Bool :=
  decide (scope.kind = .function) && scope.names.all (fun y => lkB scope.names y.1 y.2) && own.all (fun p => decide (N[p.2]? = some p.1)) &&
  scope.names.all (fun y => !decide (y.2 = .free) || lkB sc.names y.1 .cell || lkB sc.names y.1 .free) &&
  scope.names.all (fun y => !(decide (y.2 = .local) || decide (y.2 = .cell)) || decide (y.1 ∈ own.map (·.1)) || !decide (y.1 ∈ N))
theorem blk_of {N : List Str} {sc scope : Scope} {own : List (Str × Nat)} (h : blkB N sc scope own = true) : BlkOk N sc scope own := by
  unfold blkB lkB at h
  simp only [Bool.and_eq_true, List.all_eq_true, decide_eq_true_eq, Bool.or_eq_true, Bool.not_eq_true', decide_eq_false_iff_not, Bool.or_eq_false_iff] at h
  obtain ⟨⟨⟨⟨h1, h2⟩, h3⟩, h4⟩, h5⟩ := h
  refine ⟨h1, h2, h3, fun y hy e => ?_, fun y hy e => ?_⟩
  · rcases h4 y hy with (h | h) | h
    · exact absurd e h
    · exact .inl h
    · exact .inr h
  · rcases h5 y hy with (h | h) | h
    · rcases e with e | e
      · exact absurd e h.1
      · exact absurd e h.2
    · exact .inl h
    · exact .inr h
theorem binds_of {K : PySem.W.Frag} {fd : FuncData} {ps : List Str} (h : ∀ (s : Shared) (us : List Value), us.length = ps.length → BindsTo s fd ⟨us, []⟩ (ps.zip us)) : Binds K fd ps [] := fun s us _ hl => by
  rw [List.append_nil] at hl ⊢
  exact h s us hl
/-- the law's promise, by data -/
theorem law_sp {K : PySem.W.Frag} {f : List D → M D} {H : Hp} {a : Addr} {ns : List Int} {g' : G} (hn : ns.length ≤ 63) (hS : SqL K H a (ns.map V.int)) (e : f [.lst (ns.map D.int)] [] = some (.bl true, g')) : spD K 1 f [.ref a] H (fun v _ => v = .bl true) fun _ _ _ => False := by
  refine ⟨⟨H, []⟩, [], [.lst (ns.map D.int)], .bl true, g', rfl, Same.refl _, ⟨rfl, List.nodup_nil, fun n m a h => by simp at h⟩, .cons (.lst hS ?_ (RpA.ofInts ns)) .nil, e, fun v H' F' s r => rp_bl r⟩
  rw [List.length_map, sizeLine_eq]
  omega
end PD
end
section
set_option Elab.async false
set_option linter.all false
set_option maxRecDepth 100000
set_option maxHeartbeats 4000000
set_option autoImplicit false
namespace PD
open PySem PySem.Spec L2
open PyProof.Rows hiding St
/-! ### the meanings, applied -/
section
variable {α β : Type} (ρ : Rho) (g : G)
@[simp] theorem mb_ap (m : M α) (k : α → M β) (g : G) : mb m k g = (m g).bind fun p => k p.1 p.2 := by
  unfold mb
  cases m g <;> rfl
@[simp] theorem ml_ap (o : Option α) (g : G) : ml o g = o.map fun a => (a, g) := by cases o <;> rfl
@[simp] theorem ite_ap {c : Prop} [Decidable c] (a b : M α) (g : G) : (if c then a else b) g = if c then a g else b g := by split <;> rfl
def dAt (ρ : Rho) (i : Nat) : Option D := match ρ[i]? with
  | some (some (.d x)) => some x
  | _ => none
def lAt (ρ : Rho) (i : Nat) : Option D := match ρ[i]? with
  | some (some lv) => some lv.get
  | _ => none
@[simp] theorem dAt_zero (x : D) (ρ : Rho) : dAt (some (.d x) :: ρ) 0 = some x := rfl
@[simp] theorem dAt_succ (o : Option LV) (ρ : Rho) (i : Nat) : dAt (o :: ρ) (i + 1) = dAt ρ i := rfl
@[simp] theorem lAt_zero (x : LV) (ρ : Rho) : lAt (some x :: ρ) 0 = some x.get := rfl
@[simp] theorem lAt_succ (o : Option LV) (ρ : Rho) (i : Nat) : lAt (o :: ρ) (i + 1) = lAt ρ i := rfl
@[simp] theorem olAt_zero (l : List D) (ρ : Rho) : olAt (some (.ol l) :: ρ) 0 = some l := rfl
@[simp] theorem olAt_succ (o : Option LV) (ρ : Rho) (i : Nat) : olAt (o :: ρ) (i + 1) = olAt ρ i := rfl
@[simp] theorem okAt_zero (ks : List Key) (l : List D) (ρ : Rho) : okAt (some (.ok ks l) :: ρ) 0 = some (ks, l) := rfl
@[simp] theorem okAt_succ (o : Option LV) (ρ : Rho) (i : Nat) : okAt (o :: ρ) (i + 1) = okAt ρ i := rfl
@[simp] theorem get_d (x : D) : (LV.d x).get = x := rfl
@[simp] theorem get_ol (l : List D) : (LV.ol l).get = .lst l := rfl
@[simp] theorem get_ok (ks : List Key) (l : List D) : (LV.ok ks l).get = .dk ks l := rfl
@[simp] theorem setR_zero (o : Option LV) (ρ : Rho) (d : D) : setR (o :: ρ) 0 d = some (.d d) :: ρ := rfl
@[simp] theorem setR_succ (o : Option LV) (ρ : Rho) (i : Nat) (d : D) : setR (o :: ρ) (i + 1) d = o :: setR ρ i d := rfl
@[simp] theorem wipeR_nil (ρ : Rho) : wipeR ρ [] = ρ := rfl
@[simp] theorem wipeR_cons (ρ : Rho) (v : Nat) (vs : List Nat) : wipeR ρ (v :: vs) = (wipeR ρ vs).set v none := rfl
@[simp] theorem setLs_nil (ρ : Rho) (lvs : List LV) : setLs ρ [] lvs = ρ := rfl
@[simp] theorem setLs_cons (ρ : Rho) (i : Nat) (is : List Nat) (lv : LV) (lvs : List LV) : setLs ρ (i :: is) (lv :: lvs) = setLs (ρ.set i (some lv)) is lvs := rfl
@[simp] theorem eVar_ap (i : Nat) : eVar i ρ g = (dAt ρ i).map fun x => (x, g) := by
  unfold eVar dAt
  exact ml_ap _ _
@[simp] theorem eOwn_ap (i : Nat) : eOwn i ρ g = (lAt ρ i).map fun x => (x, g) := by
  unfold eOwn lAt
  exact ml_ap _ _
@[simp] theorem eC_ap (d : D) : eC d ρ g = some (d, g) := rfl
@[simp] theorem eOp_ap (h : D → D → Option D) (a b : E) : eOp h a b ρ g = (a ρ g).bind fun p => (b ρ p.2).bind fun q => (h p.1 q.1).map fun d => (d, q.2) := by simp [eOp]
@[simp] theorem eCmp_ap (h : D → D → Option Bool) (a b : E) : eCmp h a b ρ g = (a ρ g).bind fun p => (b ρ p.2).bind fun q => (h p.1 q.1).map fun d => (.bl d, q.2) := by
  simp only [eCmp, mb_ap, ml_ap, Option.map_map]
  rfl
@[simp] theorem tCmp_ap (h : D → D → Option Bool) (a b : E) : tCmp h a b ρ g = (a ρ g).bind fun p => (b ρ p.2).bind fun q => (h p.1 q.1).map fun d => (d, q.2) := by simp [tCmp]
@[simp] theorem eChain_ap (h h' : D → D → Option Bool) (a b c : E) : eChain h h' a b c ρ g = (a ρ g).bind fun p => (b ρ p.2).bind fun q => (h p.1 q.1).bind fun k => if k = true then (c ρ q.2).bind fun r => (h' q.1 r.1).map fun d => (.bl d, r.2) else some (.bl false, q.2) := by
  simp only [eChain, mb_ap, ml_ap, ite_ap, mr_ap, Option.map_map, Option.bind_map]
  rfl
@[simp] theorem tE_ap (e : E) : tE e ρ g = (e ρ g).bind fun p => match p.1 with
    | .bl b => some (b, p.2)
    | _ => none := by
  unfold tE
  rw [mb_ap]
  congr 1
  funext p
  cases p.1 <;> rfl
@[simp] theorem tAnd_ap (a b : T) : tAnd a b ρ g = (a ρ g).bind fun p => if p.1 = true then b ρ p.2 else some (false, p.2) := by simp [tAnd]
@[simp] theorem tOr_ap (a b : T) : tOr a b ρ g = (a ρ g).bind fun p => if p.1 = true then some (true, p.2) else b ρ p.2 := by simp [tOr]
@[simp] theorem tNot_ap (a : T) : tNot a ρ g = (a ρ g).map fun p => (!p.1, p.2) := by
  simp only [tNot, mb_ap, mr_ap]
  cases a ρ g <;> rfl
@[simp] theorem eAnd_ap (a b : E) : eAnd a b ρ g = (tE a ρ g).bind fun p => if p.1 = true then b ρ p.2 else some (.bl false, p.2) := by simp [eAnd]
@[simp] theorem eOr_ap (a b : E) : eOr a b ρ g = (tE a ρ g).bind fun p => if p.1 = true then some (.bl true, p.2) else b ρ p.2 := by simp [eOr]
@[simp] theorem eNot_ap (a : E) : eNot a ρ g = (tE a ρ g).map fun p => (.bl (!p.1), p.2) := by
  simp only [eNot, mb_ap, mr_ap]
  cases tE a ρ g <;> rfl
@[simp] theorem eIf_ap (c : T) (a b : E) : eIf c a b ρ g = (c ρ g).bind fun p => if p.1 = true then a ρ p.2 else b ρ p.2 := by simp [eIf]
@[simp] theorem aNil_ap : aNil ρ g = some ([], g) := rfl
@[simp] theorem aCons_ap (a : E) (r : EA) : aCons a r ρ g = (a ρ g).bind fun p => (r ρ p.2).map fun q => (p.1 :: q.1, q.2) := by
  simp only [aCons, mb_ap, mr_ap]
  congr 1
  funext p
  cases r ρ p.2 <;> rfl
@[simp] theorem eTup_ap (fs : EA) : eTup fs ρ g = (fs ρ g).bind fun p => (szD p.1.length (.tup p.1)).map fun d => (d, p.2) := by simp [eTup]
@[simp] theorem eLst_ap (fs : EA) : eLst fs ρ g = (fs ρ g).bind fun p => (szD p.1.length (.lst p.1)).map fun d => (d, p.2) := by simp [eLst]
@[simp] theorem eCall_ap (f : List D → M D) (as : EA) : eCall f as ρ g = (as ρ g).bind fun p => f p.1 p.2 := by simp [eCall]
@[simp] theorem eCallK_ap (f : List D → M D) (pm : List Nat) (as ks : EA) : eCallK f pm as ks ρ g = (as ρ g).bind fun p => (ks ρ p.2).bind fun q => f (perm pm .non (p.1 ++ q.1)) q.2 := by simp [eCallK]
@[simp] theorem eNeg_ap (a : E) : eNeg a ρ g = (a ρ g).bind fun p => match p.1 with
    | .int i => some (.int (-i), p.2)
    | _ => none := by
  unfold eNeg
  rw [mb_ap]
  congr 1
  funext p
  cases p.1 <;> rfl
@[simp] theorem eBi_ap (h : List D → Option D) (as : EA) : eBi h as ρ g = (as ρ g).bind fun p => (h p.1).map fun d => (d, p.2) := by simp [eBi]
@[simp] theorem eIsi_ap (T : Ty) (f : E) : eIsi T f ρ g = (f ρ g).bind fun p => (isiD T p.1).map fun b => (.bl b, p.2) := by
  simp only [eIsi, mb_ap, ml_ap, Option.map_map]
  rfl
@[simp] theorem eIx_ap (a b : E) : eIx a b ρ g = (a ρ g).bind fun p => (b ρ p.2).bind fun q => (ixD q.2 p.1 q.1).map fun d => (d, q.2) := by
  unfold eIx
  rw [mb_ap]
  congr 1
  funext p
  exact mb_ap _ _ _
@[simp] theorem eIxO_ap (i : Nat) (b : E) : eIxO i b ρ g = (b ρ g).bind fun p => (match ρ[i]? with
  | some (some lv) => ixO lv p.1
  | _ => none).map fun d => (d, p.2) := by
  unfold eIxO
  rw [mb_ap]
  congr 1
  funext p
  exact ml_ap _ _
@[simp] theorem pNone_ap : pNone ρ g = some (none, g) := rfl
@[simp] theorem pSome_ap (f : E) : pSome f ρ g = (f ρ g).bind fun p => match p.1 with
    | .int i => some (some i, p.2)
    | _ => none := by
  unfold pSome
  rw [mb_ap]
  congr 1
  funext p
  cases p.1 <;> rfl
@[simp] theorem eSl_ap (a : E) (lo hi : Rho → M (Option Int)) : eSl a lo hi ρ g = (a ρ g).bind fun p => (lo ρ p.2).bind fun q => (hi ρ q.2).bind fun r => (slD p.1 q.1 r.1).map fun d => (d, r.2) := by simp [eSl]
@[simp] theorem eO_ap (f : EA) : eO f ρ g = (f ρ g).map fun p => (.lst p.1, p.2) := by
  simp only [eO, mb_ap, mr_ap]
  cases f ρ g <;> rfl
@[simp] theorem eKd_ap (f : EK) : eKd f ρ g = (f ρ g).map fun p => (.dk p.1.1 p.1.2, p.2) := by
  simp only [eKd, mb_ap, mr_ap]
  cases f ρ g <;> rfl
@[simp] theorem aSz_ap (f : EA) : aSz f ρ g = (f ρ g).bind fun p => if p.1.length ≤ sizeLine then some p else none := by
  simp only [aSz, mb_ap, ite_ap, mr_ap, mz_ap]
@[simp] theorem eLcA_ap (vs : List Nat) (it : EA) (bd : B) (t : T) (e : E) : eLcA vs it bd t e ρ g = (it ρ g).bind fun p => (lcL bd t e (wipeR ρ vs) p.1 p.2).bind fun q => if q.1.length ≤ sizeLine then some q else none := by
  simp only [eLcA, mb_ap, ite_ap, mr_ap, mz_ap]
@[simp] theorem eLc2A_ap (vs vs1 : List Nat) (it : EA) (bd : B) (t : T) (it1 : EA) (bd1 : B) (t1 : T) (e : E) : eLc2A vs vs1 it bd t it1 bd1 t1 e ρ g = (it ρ g).bind fun p => (lc2L bd t it1 vs1 bd1 t1 e (wipeR ρ vs) p.1 p.2).bind fun q => if q.1.length ≤ sizeLine then some q else none := by
  simp only [eLc2A, mb_ap, ite_ap, mr_ap, mz_ap]
@[simp] theorem eDcA_ap (vs : List Nat) (it : EA) (bd : B) (t : T) (k v : E) : eDcA vs it bd t k v ρ g = (it ρ g).bind fun p => dcL bd t k v (wipeR ρ vs) ([], []) p.1 p.2 := by simp [eDcA]
@[simp] theorem scA_ap (vs : List Nat) (it : EA) (bd : B) (t : T) (e : E) : scA vs it bd t e ρ g = (it ρ g).bind fun p => (lcL bd t e (wipeR ρ vs) p.1 p.2).bind fun q => ((tupInts q.1).bind fun ns => if ns.length < 64 then some ns else none).map fun ns => (ns, q.2) := by simp [scA]
@[simp] theorem eSrtSet_ap (f : ES) : eSrtSet f ρ g = (f ρ g).bind fun p => if p.1.length < 64 then some (.lst ((sortU p.1).map D.int), p.2) else none := by
  simp only [eSrtSet, mb_ap, ite_ap, mr_ap, mz_ap]
@[simp] theorem eJoin_ap (a b : E) : eJoin a b ρ g = (a ρ g).bind fun p => (b ρ p.2).bind fun q => (joinD p.1 q.1).map fun d => (d, q.2) := by simp [eJoin]
@[simp] theorem eIndex_ap (a b : E) : eIndex a b ρ g = (a ρ g).bind fun p => (b ρ p.2).bind fun q => (indexD p.1 q.1).map fun d => (d, q.2) := by simp [eIndex]
@[simp] theorem aIt_ap (h : List D → Option (List D)) (fs : EA) : aIt h fs ρ g = (fs ρ g).bind fun p => (h p.1).map fun d => (d, p.2) := by simp [aIt]
@[simp] theorem aItem_ap (f : E) : aItem f ρ g = (f ρ g).bind fun p => (itemsD p.1).map fun d => (d, p.2) := by simp [aItem]
@[simp] theorem aOwn_ap (i : Nat) : aOwn i ρ g = (match ρ[i]? with
  | some (some (.ol l)) => some l
  | some (some (.d d)) => itemsD d
  | _ => none).map fun d => (d, g) := by
  unfold aOwn
  exact ml_ap _ _
@[simp] theorem tYesD_ap : tYesD ρ g = some (true, g) := rfl
@[simp] theorem vD_ap (f : E) : vD f ρ g = (f ρ g).map fun p => (.d p.1, p.2) := by
  simp only [vD, mb_ap, mr_ap]
  cases f ρ g <;> rfl
@[simp] theorem vL_ap (f : EA) : vL f ρ g = (f ρ g).map fun p => (.ol p.1, p.2) := by
  simp only [vL, mb_ap, mr_ap]
  cases f ρ g <;> rfl
@[simp] theorem vK_ap (f : EK) : vK f ρ g = (f ρ g).map fun p => (.ok p.1.1 p.1.2, p.2) := by
  simp only [vK, mb_ap, mr_ap]
  cases f ρ g <;> rfl
@[simp] theorem vNil_ap : vNil ρ g = some ([], g) := rfl
@[simp] theorem vCons_ap (a : EV) (r : EVA) : vCons a r ρ g = (a ρ g).bind fun p => (r ρ p.2).map fun q => (p.1 :: q.1, q.2) := by
  simp only [vCons, mb_ap, mr_ap]
  congr 1
  funext p
  cases r ρ p.2 <;> rfl
@[simp] theorem pNil_ap : pNil ρ g = some ([], g) := rfl
@[simp] theorem pCons_ap (k v : E) (r : EP2) : pCons k v r ρ g = (k ρ g).bind fun p => (v ρ p.2).bind fun q => (r ρ q.2).map fun l => ((p.1, q.1) :: l.1, l.2) := by
  simp only [pCons, mb_ap, mr_ap]
  congr 1
  funext p
  congr 1
  funext q
  cases r ρ q.2 <;> rfl
@[simp] theorem eDisp_ap (f : EP2) : eDisp f ρ g = (f ρ g).bind fun p => ((keysD (p.1.map (·.1))).bind fun ks => if ks.length ≤ 15 then some (mergeD ([], []) ks (p.1.map (·.2))) else none).map fun r => (r, p.2) := by simp [eDisp]
@[simp] theorem eMk_ap (f : EK) : eMk f ρ g = (f ρ g).map fun p => (.hd p.2.length, p.2 ++ [.mk p.1.1 p.1.2]) := by
  simp only [eMk, mb_ap, mNew]
  cases f ρ g <;> rfl
@[simp] theorem eMl_ap (f : EA) : eMl f ρ g = (f ρ g).map fun p => (.hd p.2.length, p.2 ++ [.ml p.1]) := by
  simp only [eMl, mb_ap, mNew]
  cases f ρ g <;> rfl
/-! statements -/
@[simp] theorem sNil_ap : sNil ρ g = some (.nx ρ, g) := rfl
@[simp] theorem sPass_ap : sPass ρ g = some (.nx ρ, g) := rfl
@[simp] theorem sNever_ap : sNever ρ g = none := rfl
@[simp] theorem sCont_ap : sCont ρ g = some (.ct ρ, g) := rfl
@[simp] theorem sBreak_ap : sBreak ρ g = some (.bk ρ, g) := rfl
def sqK (b : S) : Fl × G → Option (Fl × G)
  | (.nx ρ', g') => b ρ' g'
  | p => some p
@[simp] theorem sqK_nx (b : S) (ρ' : Rho) (g' : G) : sqK b (.nx ρ', g') = b ρ' g' := rfl
@[simp] theorem sqK_xc (b : S) (nm f : Str) (d : D) (ρ' : Rho) (g' : G) : sqK b (.xc nm f d ρ', g') = some (.xc nm f d ρ', g') := rfl
@[simp] theorem sqK_rt (b : S) (d : D) (g' : G) : sqK b (.rt d, g') = some (.rt d, g') := rfl
@[simp] theorem sqK_bk (b : S) (ρ' : Rho) (g' : G) : sqK b (.bk ρ', g') = some (.bk ρ', g') := rfl
@[simp] theorem sqK_ct (b : S) (ρ' : Rho) (g' : G) : sqK b (.ct ρ', g') = some (.ct ρ', g') := rfl
@[simp] theorem sSeq_ap (a b : S) : sSeq a b ρ g = (a ρ g).bind (sqK b) := by
  unfold sSeq
  rw [mb_ap]
  congr 1
  funext p
  obtain ⟨fl, g'⟩ := p
  cases fl <;> rfl
@[simp] theorem sRet_ap (f : E) : sRet f ρ g = (f ρ g).map fun p => (.rt p.1, p.2) := by
  simp only [sRet, mb_ap, mr_ap]
  cases f ρ g <;> rfl
@[simp] theorem sSet_ap (i : Nat) (f : E) : sSet i f ρ g = (f ρ g).map fun p => (.nx (setR ρ i p.1), p.2) := by
  simp only [sSet, mb_ap, mr_ap]
  cases f ρ g <;> rfl
@[simp] theorem sAsg_ap (bd : B) (f : E) : sAsg bd f ρ g = (f ρ g).bind fun p => (bd p.1 ρ).map fun ρ' => (.nx ρ', p.2) := by
  simp only [sAsg, mb_ap, ml_ap, Option.map_map]
  rfl
@[simp] theorem sParV_ap (is : List Nat) (f : EVA) : sParV is f ρ g = (f ρ g).bind fun p => if p.1.length = is.length then some (.nx (setLs ρ is p.1), p.2) else none := by
  simp only [sParV, mb_ap, ite_ap, mr_ap, mz_ap]
@[simp] theorem sSetV_ap (i : Nat) (f : EV) : sSetV i f ρ g = (f ρ g).map fun p => (.nx (ρ.set i (some p.1)), p.2) := by
  simp only [sSetV, mb_ap, mr_ap]
  cases f ρ g <;> rfl
@[simp] theorem sIf_ap (c : T) (a b : S) : sIf c a b ρ g = (c ρ g).bind fun p => if p.1 = true then a ρ p.2 else b ρ p.2 := by simp [sIf]
@[simp] theorem sExpr_ap (f : E) : sExpr f ρ g = (f ρ g).map fun p => (.nx ρ, p.2) := by
  simp only [sExpr, mb_ap, mr_ap]
  cases f ρ g <;> rfl
@[simp] theorem sOwn_ap (i : Nat) (f : EA) : sOwn i f ρ g = (f ρ g).map fun p => (.nx (ρ.set i (some (.ol p.1))), p.2) := by
  simp only [sOwn, mb_ap, mr_ap]
  cases f ρ g <;> rfl
@[simp] theorem sFrz_ap (i : Nat) (a : S) : sFrz i a ρ g = a (frzR ρ i) g := rfl
@[simp] theorem frzR_zero (lv : LV) (ρ : Rho) : frzR (some lv :: ρ) 0 = some (.d lv.get) :: ρ := rfl
@[simp] theorem frzR_zeroN (ρ : Rho) : frzR (none :: ρ) 0 = none :: ρ := rfl
@[simp] theorem frzR_succ (o : Option LV) (ρ : Rho) (i : Nat) : frzR (o :: ρ) (i + 1) = o :: frzR ρ i := by
  unfold frzR
  simp only [List.getElem?_cons_succ]
  cases h : ρ[i]? with
  | none => rfl
  | some p => cases p <;> rfl
@[simp] theorem sFor_ap (it : EA) (bd : B) (b : S) : sFor it bd b ρ g = (it ρ g).bind fun p => forL bd b p.1 ρ p.2 := by simp [sFor]
@[simp] theorem sWhile_ap (n : Nat) (c : T) (b : S) : sWhile n c b ρ g = whileL c b n ρ g := rfl
@[simp] theorem sAppend_ap (i : Nat) (f : E) : sAppend i f ρ g = (f ρ g).bind fun p => ((olAt ρ i).bind fun l => if l.length < sizeLine then some (.nx (ρ.set i (some (.ol (l ++ [p.1]))))) else none).map fun fl => (fl, p.2) := by simp [sAppend]
@[simp] theorem sExtend_ap (i : Nat) (f : EA) : sExtend i f ρ g = (f ρ g).bind fun p => ((olAt ρ i).bind fun l => if l.length + p.1.length ≤ sizeLine then some (.nx (ρ.set i (some (.ol (l ++ p.1))))) else none).map fun fl => (fl, p.2) := by simp [sExtend]
@[simp] theorem sUpdate_ap (i : Nat) (f : EK) : sUpdate i f ρ g = (f ρ g).bind fun p => ((okAt ρ i).bind fun r => if r.1.Nodup ∧ r.1.length + p.1.1.length ≤ sizeLine then some (.nx (ρ.set i (some (.ok (mergeD r p.1.1 p.1.2).1 (mergeD r p.1.1 p.1.2).2)))) else none).map fun fl => (fl, p.2) := by simp [sUpdate]
@[simp] theorem sStore_ap (a b f : E) : sStore a b f ρ g = (f ρ g).bind fun p => (a ρ p.2).bind fun q => (b ρ q.2).bind fun r => (storeD r.2 q.1 r.1 p.1).map fun g' => (.nx ρ, g') := by
  unfold sStore
  rw [mb_ap]
  congr 1
  funext p
  rw [mb_ap]
  congr 1
  funext q
  exact mb_ap _ _ _
end
/-! ### loops -/
def feK (bd : B) (b : S) (ds : List D) : Fl × G → Option (Fl × G)
  | (.nx ρ', g') => forL bd b ds ρ' g'
  | (.ct ρ', g') => forL bd b ds ρ' g'
  | (.bk ρ', g') => some (.nx ρ', g')
  | (.rt x, g') => some (.rt x, g')
  | (.xc nm f d ρ', g') => some (.xc nm f d ρ', g')
@[simp] theorem feK_nx (bd : B) (b : S) (ds : List D) (ρ' : Rho) (g' : G) : feK bd b ds (.nx ρ', g') = forL bd b ds ρ' g' := rfl
@[simp] theorem feK_ct (bd : B) (b : S) (ds : List D) (ρ' : Rho) (g' : G) : feK bd b ds (.ct ρ', g') = forL bd b ds ρ' g' := rfl
@[simp] theorem feK_bk (bd : B) (b : S) (ds : List D) (ρ' : Rho) (g' : G) : feK bd b ds (.bk ρ', g') = some (.nx ρ', g') := rfl
@[simp] theorem feK_xc (bd : B) (b : S) (ds : List D) (nm f : Str) (d : D) (ρ' : Rho) (g' : G) : feK bd b ds (.xc nm f d ρ', g') = some (.xc nm f d ρ', g') := rfl
@[simp] theorem feK_rt (bd : B) (b : S) (ds : List D) (x : D) (g' : G) : feK bd b ds (.rt x, g') = some (.rt x, g') := rfl
@[simp] theorem forL_nil (bd : B) (b : S) (ρ : Rho) (g : G) : forL bd b [] ρ g = some (.nx ρ, g) := rfl
theorem forL_cons (bd : B) (b : S) (d : D) (ds : List D) (ρ : Rho) (g : G) : forL bd b (d :: ds) ρ g = (bd d ρ).bind fun ρ1 => (b ρ1 g).bind (feK bd b ds) := by
  conv => lhs; unfold forL
  cases bd d ρ with
  | none => rfl
  | some ρ1 =>
    simp only [mb_ap, Option.bind_some]
    congr 1
    funext p
    obtain ⟨fl, g'⟩ := p
    cases fl <;> rfl
def weK (c : T) (b : S) (n : Nat) : Fl × G → Option (Fl × G)
  | (.nx ρ', g') => whileL c b n ρ' g'
  | (.ct ρ', g') => whileL c b n ρ' g'
  | (.bk ρ', g') => some (.nx ρ', g')
  | (.rt x, g') => some (.rt x, g')
  | (.xc nm f d ρ', g') => some (.xc nm f d ρ', g')
@[simp] theorem weK_nx (c : T) (b : S) (n : Nat) (ρ' : Rho) (g' : G) : weK c b n (.nx ρ', g') = whileL c b n ρ' g' := rfl
@[simp] theorem weK_ct (c : T) (b : S) (n : Nat) (ρ' : Rho) (g' : G) : weK c b n (.ct ρ', g') = whileL c b n ρ' g' := rfl
@[simp] theorem weK_bk (c : T) (b : S) (n : Nat) (ρ' : Rho) (g' : G) : weK c b n (.bk ρ', g') = some (.nx ρ', g') := rfl
@[simp] theorem weK_xc (c : T) (b : S) (n : Nat) (nm f : Str) (d : D) (ρ' : Rho) (g' : G) : weK c b n (.xc nm f d ρ', g') = some (.xc nm f d ρ', g') := rfl
@[simp] theorem weK_rt (c : T) (b : S) (n : Nat) (x : D) (g' : G) : weK c b n (.rt x, g') = some (.rt x, g') := rfl
theorem whileL_succ (c : T) (b : S) (n : Nat) (ρ : Rho) (g : G) : whileL c b (n + 1) ρ g = (c ρ g).bind fun p => if p.1 = true then (b ρ p.2).bind (weK c b n) else some (.nx ρ, p.2) := by
  conv => lhs; unfold whileL
  simp only [mb_ap, ite_ap, mr_ap]
  congr 1
  funext p
  split
  · congr 1
    funext q
    obtain ⟨fl, g'⟩ := q
    cases fl <;> rfl
  · rfl
@[simp] theorem lcL_nil (bd : B) (t : T) (e : E) (ρ : Rho) (g : G) : lcL bd t e ρ [] g = some ([], g) := rfl
theorem lcL_cons (bd : B) (t : T) (e : E) (ρ : Rho) (d : D) (ds : List D) (g : G) : lcL bd t e ρ (d :: ds) g = (bd d ρ).bind fun ρ' => (t ρ' g).bind fun p => if p.1 = true then (e ρ' p.2).bind fun q => (lcL bd t e ρ ds q.2).map fun r => (q.1 :: r.1, r.2) else lcL bd t e ρ ds p.2 := by
  conv => lhs; unfold lcL
  cases bd d ρ with
  | none => rfl
  | some ρ' =>
    simp only [mb_ap, ite_ap, mr_ap, Option.bind_some]
    congr 1
    funext p
    split
    · congr 1
      funext q
      cases lcL bd t e ρ ds q.2 <;> rfl
    · rfl
/-- a comprehension without effects -/
theorem lcL_map {bd : B} {e : E} {ρ : Rho} {g : G} {f : D → D} : ∀ {ds : List D}, (∀ d ∈ ds, ∃ ρ', bd d ρ = some ρ' ∧ e ρ' g = some (f d, g)) → lcL bd tYesD e ρ ds g = some (ds.map f, g)
  | [], _ => rfl
  | d :: ds, h => by
    obtain ⟨ρ', h1, h2⟩ := h d List.mem_cons_self
    rw [lcL_cons, h1]
    simp [h2, lcL_map fun d' h' => h d' (List.mem_cons_of_mem _ h')]
theorem lcL_filter {bd : B} {t : T} {e : E} {ρ : Rho} {g : G} {p : D → Bool} {f : D → D} : ∀ {ds : List D}, (∀ d ∈ ds, ∃ ρ', bd d ρ = some ρ' ∧ t ρ' g = some (p d, g) ∧ (p d = true → e ρ' g = some (f d, g))) → lcL bd t e ρ ds g = some ((ds.filter p).map f, g)
  | [], _ => rfl
  | d :: ds, h => by
    obtain ⟨ρ', h1, h2, h3⟩ := h d List.mem_cons_self
    have ih := lcL_filter fun d' h' => h d' (List.mem_cons_of_mem _ h')
    rw [lcL_cons, h1]
    cases hp : p d with
    | true => simp [h2, hp, h3 hp, ih]
    | false => simp [h2, hp, ih]
theorem runF_rt {n : Nat} {f : S} {ds : List D} {g g' : G} {d : D} (h : f (slots0 n ds) g = some (.rt d, g')) : runF n f ds g = some (d, g') := by unfold runF; rw [h]
theorem runF_nx {n : Nat} {f : S} {ds : List D} {g g' : G} {ρ : Rho} (h : f (slots0 n ds) g = some (.nx ρ, g')) : runF n f ds g = some (.non, g') := by unfold runF; rw [h]
end PD
end
section
set_option Elab.async false
set_option linter.all false
set_option maxRecDepth 100000
set_option maxHeartbeats 4000000
set_option autoImplicit false
namespace PD
open PySem
/-! ### plain facts of the data -/
theorem dMod_ok (i j : Int) (h : 0 < j) : dMod (.int i) (.int j) = some (.int (i % j)) := by simp [dMod, intD, modC, h]
theorem dFdiv_ok (i j : Int) (h : 0 < j) (h2 : j < 18446744073709551616) : dFdiv (.int i) (.int j) = some (.int (i / j)) := by
  have : fdivC i j = true := by
    unfold fdivC
    have e : (18446744073709551616 : Int) ≤ 2 ^ 8000 := by decide +kernel
    rw [Bool.and_eq_true]
    exact ⟨decide_eq_true h, decide_eq_true (by omega)⟩
  simp [dFdiv, intD, this]
theorem dMul_ok (i j : Int) (h : -18446744073709551616 < i ∧ i < 18446744073709551616) : dMul (.int i) (.int j) = some (.int (i * j)) := by
  have : mulC i j = true := by simp [mulC, h.1, h.2]
  simp [dMul, intD, this]
theorem dMul_ok2 (i j : Int) (h : -18446744073709551616 < j ∧ j < 18446744073709551616) : dMul (.int i) (.int j) = some (.int (i * j)) := by
  have : mulC i j = true := by simp [mulC, h.1, h.2]
  simp [dMul, intD, this]
@[simp] theorem addD_int (i j : Int) : addD (.int i) (.int j) = some (.int (i + j)) := rfl
@[simp] theorem subD_int (i j : Int) : subD (.int i) (.int j) = some (.int (i - j)) := rfl
@[simp] theorem gtD_int (i j : Int) : gtD (.int i) (.int j) = some (decide (j < i)) := rfl
@[simp] theorem ltD_int (i j : Int) : ltD (.int i) (.int j) = some (decide (i < j)) := rfl
@[simp] theorem geD_int (i j : Int) : geD (.int i) (.int j) = some (decide (j ≤ i)) := rfl
@[simp] theorem leD_int (i j : Int) : leD (.int i) (.int j) = some (decide (i ≤ j)) := rfl
@[simp] theorem pow18 : dPow (.int 10) (.int 18) = some (.int 1000000000000000000) := by rfl
@[simp] theorem lenD_lst (l : List D) : lenD [.lst l] = some (.int l.length) := rfl
@[simp] theorem lenD_tup (l : List D) : lenD [.tup l] = some (.int l.length) := rfl
@[simp] theorem itemsD_lst (l : List D) : itemsD (.lst l) = some l := rfl
@[simp] theorem itemsD_tup (l : List D) : itemsD (.tup l) = some l := rfl
@[simp] theorem itemsD_str (x : Str) : itemsD (.str x) = some (strItems x) := rfl
@[simp] theorem isNon_non : isNon .non = true := rfl
theorem ixN_of {n : Nat} {i : Int} (h1 : 0 ≤ i) (h2 : i < n) : L2.ixN n i = some i.toNat := by
  unfold L2.ixN
  simp [h1, h2]
theorem atI_of {α : Type} {l : List α} {i : Int} (h1 : 0 ≤ i) (h2 : i < l.length) : L2.atI l i = l[i.toNat]? := by
  unfold L2.atI
  rw [ixN_of h1 h2]
  rfl
theorem atI_mem {α : Type} {l : List α} {i : Int} (h1 : 0 ≤ i) (h2 : i < l.length) : ∃ x, L2.atI l i = some x ∧ x ∈ l := by
  rw [atI_of h1 h2]
  have h : i.toNat < l.length := by omega
  exact ⟨l[i.toNat], List.getElem?_eq_getElem h, List.getElem_mem h⟩
@[simp] theorem ixD_lst (g : G) (l : List D) (i : Int) : ixD g (.lst l) (.int i) = L2.atI l i := rfl
@[simp] theorem ixD_tup (g : G) (l : List D) (i : Int) : ixD g (.tup l) (.int i) = L2.atI l i := rfl
@[simp] theorem ixD_str (g : G) (z : Str) (i : Int) : ixD g (.str z) (.int i) = (L2.atI z.cps.toList i).map fun c => .str ⟨#[c]⟩ := rfl
@[simp] theorem szD_ok {n : Nat} {d : D} (h : n ≤ sizeLine) : szD n d = some d := by unfold szD; rw [if_pos h]
/-! ### equal, in -/
@[simp] theorem eqq_int (i j : Int) : eqq (.int i) (.int j) = decide (i = j) := by
  unfold eqq
  rw [Bool.eq_iff_iff]
  simp
@[simp] theorem eqq_str (x y : Str) : eqq (.str x) (.str y) = decide (x = y) := by
  unfold eqq
  rw [Bool.eq_iff_iff]
  simp
theorem eqqA_map {α : Type} [DecidableEq α] {f : α → D} (hf : ∀ x y, eqq (f x) (f y) = decide (x = y)) : ∀ xs ys : List α, eqqA (xs.map f) (ys.map f) = decide (xs = ys)
  | [], [] => by simp [eqqA]
  | [], y :: ys => by simp [eqqA]
  | x :: xs, [] => by simp [eqqA]
  | x :: xs, y :: ys => by simp [eqqA, hf, eqqA_map hf xs ys]
theorem eqq_tup (l m : List D) : eqq (.tup l) (.tup m) = eqqA l m := by simp [eqq]
theorem eqq_lst (l m : List D) : eqq (.lst l) (.lst m) = eqqA l m := by simp [eqq]
theorem purA_map {α : Type} {f : α → D} (hf : ∀ x, pur (f x) = true) : ∀ xs : List α, purA (xs.map f) = true
  | [] => rfl
  | x :: xs => by simp [purA, hf, purA_map hf xs]
theorem depA_map {α : Type} {f : α → D} {n : Nat} (hf : ∀ x, dep (f x) ≤ n) : ∀ xs : List α, depA (xs.map f) ≤ n
  | [] => by simp [depA]
  | x :: xs => by
    have := depA_map hf xs
    have := hf x
    simp only [List.map_cons, depA]
    omega
/-- a kind of data by a type -/
structure Kd {α : Type} (f : α → D) (n : Nat) : Prop where
  pu : ∀ x, pur (f x) = true
  de : ∀ x, dep (f x) ≤ n
theorem kdI : Kd D.int 0 := ⟨fun _ => rfl, fun _ => Nat.le_refl _⟩
theorem kdS : Kd D.str 0 := ⟨fun _ => rfl, fun _ => Nat.le_refl _⟩
theorem Kd.tup {α : Type} {f : α → D} {n : Nat} (h : Kd f n) : Kd (fun xs : List α => D.tup (xs.map f)) (n + 1) :=
  ⟨fun xs => by simp [pur, purA_map h.pu], fun xs => by have := depA_map h.de xs; simp only [dep]; omega⟩
theorem Kd.lst {α : Type} {f : α → D} {n : Nat} (h : Kd f n) : Kd (fun xs : List α => D.lst (xs.map f)) (n + 1) :=
  ⟨fun xs => by simp [pur, purA_map h.pu], fun xs => by have := depA_map h.de xs; simp only [dep]; omega⟩
theorem Kd.ok {α : Type} {f : α → D} {n : Nat} (h : Kd f n) (hn : n ≤ 64) (x : α) : cmpOk (f x) = true := by
  unfold cmpOk
  rw [h.pu, Bool.true_and]
  exact decide_eq_true (Nat.le_trans (h.de x) hn)
theorem any_eqq {α : Type} [DecidableEq α] {f : α → D} (hf : ∀ x y, eqq (f x) (f y) = decide (x = y)) (x : α) : ∀ xs : List α, ((xs.map f).any fun z => eqq z (f x)) = decide (x ∈ xs)
  | [] => by simp
  | y :: ys => by
    simp only [List.map_cons, List.any_cons, hf, any_eqq hf x ys, List.mem_cons, Bool.decide_or]
    congr 1
    exact decide_eq_decide.mpr eq_comm
theorem inD_lst {α : Type} [DecidableEq α] {f : α → D} {n : Nat} (k : Kd f n) (hn : n < 64) (hf : ∀ x y, eqq (f x) (f y) = decide (x = y)) (x : α) (xs : List α) : inD (f x) (.lst (xs.map f)) = some (decide (x ∈ xs)) := by
  have h1 := k.ok (by omega) x
  have h2 := k.lst.ok (by omega) xs
  simp only [inD, h1, h2, Bool.and_self, if_true, any_eqq hf]
theorem notInD_lst {α : Type} [DecidableEq α] {f : α → D} {n : Nat} (k : Kd f n) (hn : n < 64) (hf : ∀ x y, eqq (f x) (f y) = decide (x = y)) (x : α) (xs : List α) : notInD (f x) (.lst (xs.map f)) = some (!decide (x ∈ xs)) := by
  unfold notInD
  rw [inD_lst k hn hf]
  rfl
theorem flat_map {α : Type} {f : α → D} (hf : ∀ x, flatD (f x) = true) (xs : List α) : (xs.map f).all flatD = true := by
  rw [List.all_map]
  exact List.all_eq_true.mpr fun x _ => hf x
theorem inD_tup {α : Type} [DecidableEq α] {f : α → D} (k : ∀ x, flatD (f x) = true) (hf : ∀ x y, eqq (f x) (f y) = decide (x = y)) (x : α) (xs : List α) : inD (f x) (.tup (xs.map f)) = some (decide (x ∈ xs)) := by
  have h1 := k x
  have h2 := flat_map k xs
  simp only [inD, h1, h2, Bool.and_self, if_true, any_eqq hf]
theorem notInD_tup {α : Type} [DecidableEq α] {f : α → D} (k : ∀ x, flatD (f x) = true) (hf : ∀ x y, eqq (f x) (f y) = decide (x = y)) (x : α) (xs : List α) : notInD (f x) (.tup (xs.map f)) = some (!decide (x ∈ xs)) := by
  unfold notInD
  rw [inD_tup k hf]
  rfl
@[simp] theorem inD_strs (x : Str) (xs : List Str) : inD (.str x) (.lst (xs.map .str)) = some (decide (x ∈ xs)) := inD_lst kdS (by decide) eqq_str x xs
@[simp] theorem notInD_strs (x : Str) (xs : List Str) : notInD (.str x) (.lst (xs.map .str)) = some (!decide (x ∈ xs)) := notInD_lst kdS (by decide) eqq_str x xs
@[simp] theorem inD_ints (x : Int) (xs : List Int) : inD (.int x) (.lst (xs.map .int)) = some (decide (x ∈ xs)) := inD_lst kdI (by decide) eqq_int x xs
@[simp] theorem notInD_ints (x : Int) (xs : List Int) : notInD (.int x) (.lst (xs.map .int)) = some (!decide (x ∈ xs)) := notInD_lst kdI (by decide) eqq_int x xs
@[simp] theorem inD_strsT (x : Str) (xs : List Str) : inD (.str x) (.tup (xs.map .str)) = some (decide (x ∈ xs)) := inD_tup (fun _ => rfl) eqq_str x xs
@[simp] theorem notInD_strsT (x : Str) (xs : List Str) : notInD (.str x) (.tup (xs.map .str)) = some (!decide (x ∈ xs)) := notInD_tup (fun _ => rfl) eqq_str x xs
@[simp] theorem inD_intsT (x : Int) (xs : List Int) : inD (.int x) (.tup (xs.map .int)) = some (decide (x ∈ xs)) := inD_tup (fun _ => rfl) eqq_int x xs
@[simp] theorem notInD_intsT (x : Int) (xs : List Int) : notInD (.int x) (.tup (xs.map .int)) = some (!decide (x ∈ xs)) := notInD_tup (fun _ => rfl) eqq_int x xs
theorem eqD_of {x y : D} (h1 : cmpOk x = true) (h2 : cmpOk y = true) : eqD x y = some (eqq x y) := by simp [eqD, h1, h2]
theorem neD_of {x y : D} (h1 : cmpOk x = true) (h2 : cmpOk y = true) : neD x y = some (!eqq x y) := by simp [neD, h1, h2]
/-! ### texts joined -/
theorem joinC_nil : ∀ xs : List Nat, joinC [] (xs.map fun c => [c]) = xs
  | [] => rfl
  | [_] => rfl
  | a :: b :: r => by
    have := joinC_nil (b :: r)
    simp only [List.map_cons] at this ⊢
    simp [joinC, this]
theorem joinD_signs (xs : List Nat) (h : xs.length ≤ 1000000) : joinD (.str "") (.lst (xs.map fun c => .str ⟨#[c]⟩)) = some (.str (ofCs xs)) := by
  have e : (xs.map fun c => D.str ⟨#[c]⟩) = (xs.map fun c => (⟨#[c]⟩ : Str)).map D.str := by rw [List.map_map]; rfl
  rw [e]
  show ((strsD ((xs.map fun c => (⟨#[c]⟩ : Str)).map D.str)).bind fun ys => if (ys.map (·.length)).sum + ys.length * ("" : Str).length ≤ sizeLine then some (D.str (ofCs (joinC (cs "") (ys.map cs)))) else none) = _
  rw [strsD_map]
  have e1 : ((xs.map fun c => (⟨#[c]⟩ : Str)).map (·.length)).sum = xs.length := by
    rw [List.map_map]
    clear e h
    induction xs with
    | nil => rfl
    | cons x xs ih =>
      simp only [List.map_cons, List.sum_cons, ih, List.length_cons]
      show 1 + _ = _
      omega
  have e2 : ("" : Str).length = 0 := by rfl
  have e3 : (xs.map fun c => (⟨#[c]⟩ : Str)).map cs = xs.map fun c => [c] := by rw [List.map_map]; rfl
  have e4 : cs "" = [] := by rfl
  simp only [Option.bind_some, e1, e2, e3, e4, joinC_nil]
  rw [if_pos (by rw [sizeLine_eq]; omega)]
/-! ### plain lists -/
theorem nodup_len {α : Type} [DecidableEq α] : ∀ {l m : List α}, l.Nodup → (∀ x ∈ l, x ∈ m) → l.length ≤ m.length
  | [], m, _, _ => Nat.zero_le _
  | x :: l, m, hn, hs => by
    obtain ⟨h1, h2⟩ := List.nodup_cons.mp hn
    have hx := hs x List.mem_cons_self
    have := nodup_len (m := m.erase x) h2 fun y hy => (List.mem_erase_of_ne (fun e => h1 (by rw [← e]; exact hy))).mpr (hs y (List.mem_cons_of_mem _ hy))
    rw [List.length_erase_of_mem hx] at this
    have := List.length_pos_of_mem hx
    simp only [List.length_cons]
    omega
/-! ### sorted texts, numbers -/
def ltS (x y : Str) : Bool := decide (x.cps.toList < y.cps.toList)
def sortS (xs : List Str) : List Str := isoG ltS xs
theorem all_map {α : Type} {f : α → D} {p : D → Bool} (hf : ∀ x, p (f x) = true) (xs : List α) : (xs.map f).all p = true := by
  rw [List.all_map]
  exact List.all_eq_true.mpr fun x _ => hf x
theorem sortedM_strs (xs : List Str) : sortedM [.lst (xs.map .str)] = some (.lst ((sortS xs).map .str)) := by
  have h : sortD (xs.map D.str) = some (isoD (xs.map D.str)) := by
    unfold sortD
    rw [if_pos]
    simp only [Bool.or_eq_true]
    exact .inl (.inr (all_map (fun _ => rfl) xs))
  show (sortD (xs.map D.str)).map D.lst = _
  rw [h, isoD_eq, isoG_map (lt := ltS) D.str (fun x y => rfl)]
  rfl
theorem sortS_perm (xs : List Str) : (sortS xs).Perm xs := (isoG_ok swoS xs).2.perm
theorem sortS_lt {xs : List Str} (h : xs.Nodup) : (sortS xs).Pairwise fun x y => x.cps.toList < y.cps.toList := by
  have h1 : (sortS xs).Pairwise fun x y => decide (y.cps.toList < x.cps.toList) = false := (isoG_ok swoS xs).1
  have h2 : (sortS xs).Pairwise (· ≠ ·) := (sortS_perm xs).nodup_iff.mpr h
  refine (List.Pairwise.and h1 h2).imp fun {x y} q => ?_
  obtain ⟨q1, q2⟩ := q
  have q3 : ¬ y.cps.toList < x.cps.toList := of_decide_eq_false q1
  rcases Classical.em (x.cps.toList < y.cps.toList) with q4 | q4
  · exact q4
  · exact absurd (cs_inj (List.le_antisymm (List.not_lt.mp q3) (List.not_lt.mp q4))) q2
theorem tupleD_lst (l : List D) : tupleD [.lst l] = some (.tup l) := rfl
theorem allD_lst (bs : List Bool) : allD [.lst (bs.map .bl)] = some (.bl (bs.all id)) := by
  show (bools (bs.map .bl)).map (fun bs => D.bl (bs.all id)) = _
  rw [bools_map]
  rfl
theorem anyD_lst (bs : List Bool) : anyD [.lst (bs.map .bl)] = some (.bl (bs.any id)) := by
  show (bools (bs.map .bl)).map (fun bs => D.bl (bs.any id)) = _
  rw [bools_map]
  rfl
/-- all([..]), any([..]) of a comprehension without effects -/
theorem lc_bools {α : Type} {f : α → D} {bd : B} {e : E} {ρ : Rho} {g : G} {p : α → Bool} (xs : List α) (h : ∀ x ∈ xs, ∃ ρ', bd (f x) ρ = some ρ' ∧ e ρ' g = some (.bl (p x), g)) : lcL bd tYesD e ρ (xs.map f) g = some ((xs.map p).map .bl, g) := by
  induction xs with
  | nil => rfl
  | cons x xs ih =>
    obtain ⟨ρ', h1, h2⟩ := h x List.mem_cons_self
    rw [List.map_cons, lcL_cons, h1]
    simp [h2, ih fun y hy => h y (List.mem_cons_of_mem _ hy)]
/-- [.. for x in xs], [.. if ..] of typed items -/
theorem lc_typed {α β : Type} {f : α → D} {f' : β → D} {bd : B} {e : E} {ρ : Rho} {g : G} {q : α → β} (xs : List α) (h : ∀ x ∈ xs, ∃ ρ', bd (f x) ρ = some ρ' ∧ e ρ' g = some (f' (q x), g)) : lcL bd tYesD e ρ (xs.map f) g = some ((xs.map q).map f', g) := by
  induction xs with
  | nil => rfl
  | cons x xs ih =>
    obtain ⟨ρ', h1, h2⟩ := h x List.mem_cons_self
    rw [List.map_cons, lcL_cons, h1]
    simp [h2, ih fun y hy => h y (List.mem_cons_of_mem _ hy)]
theorem lc_typedF {α β : Type} {f : α → D} {f' : β → D} {bd : B} {t : T} {e : E} {ρ : Rho} {g : G} {p : α → Bool} {q : α → β} (xs : List α) (h : ∀ x ∈ xs, ∃ ρ', bd (f x) ρ = some ρ' ∧ t ρ' g = some (p x, g) ∧ (p x = true → e ρ' g = some (f' (q x), g))) :
    lcL bd t e ρ (xs.map f) g = some (((xs.filter p).map q).map f', g) := by
  induction xs with
  | nil => rfl
  | cons x xs ih =>
    obtain ⟨ρ', h1, h2, h3⟩ := h x List.mem_cons_self
    have ih := ih fun y hy => h y (List.mem_cons_of_mem _ hy)
    rw [List.map_cons, lcL_cons, h1]
    cases hp : p x with
    | true => simp [h2, hp, h3 hp, ih]
    | false => simp [h2, hp, ih]
theorem cutL_one {α : Type} (l : List α) : cutL l (some 1) none = l.drop 1 := by
  unfold cutL
  rw [HT.sIx_none]
  have : HT.sIx l.length 0 (some 1) = min 1 l.length := HT.sIx_nat l.length 0 1
  rw [this]
  by_cases h : 1 ≤ l.length
  · rw [Nat.min_eq_left h]
    exact List.take_of_length_le (by rw [List.length_drop]; omega)
  · have : l = [] := List.length_eq_zero_iff.mp (by omega)
    subst this
    rfl
theorem zip2L_map {α β : Type} {f : α → D} {f' : β → D} : ∀ (xs : List α) (ys : List β), zip2L (xs.map f) (ys.map f') = (xs.zip ys).map fun p => .tup [f p.1, f' p.2]
  | [], ys => by simp [zip2L]
  | _ :: _, [] => by simp [zip2L]
  | x :: xs, y :: ys => by simp [zip2L, zip2L_map xs ys]
@[simp] theorem seqD_lst (l : List D) : seqD (.lst l) = some l := rfl
@[simp] theorem seqD_tup (l : List D) : seqD (.tup l) = some l := rfl
theorem zipM_of {x y : D} {l m : List D} (h1 : seqD x = some l) (h2 : seqD y = some m) : zipM [x, y] = some (zip2L l m) := by simp [zipM, h1, h2]
theorem rangeD_eq : ∀ (n : Nat) (lo : Int), rangeD lo n = (List.range n).map fun (m : Nat) => D.int (lo + m)
  | 0, lo => rfl
  | n + 1, lo => by
    rw [List.range_succ_eq_map, List.map_cons, List.map_map]
    show D.int lo :: rangeD (lo + 1) n = _
    rw [rangeD_eq n (lo + 1)]
    congr 1
    · simp
    · refine List.map_congr_left fun m _ => ?_
      simp only [Function.comp]
      congr 1
      omega
/-- 0, 1, .. -/
def upto (c : Int) : List Int := (List.range c.toNat).map fun (m : Nat) => (m : Int)
theorem upto_mem {c i : Int} : i ∈ upto c ↔ 0 ≤ i ∧ i < c := by
  unfold upto
  simp only [List.mem_map, List.mem_range]
  constructor
  · rintro ⟨m, h, rfl⟩; omega
  · rintro ⟨h1, h2⟩; exact ⟨i.toNat, by omega, by omega⟩
theorem upto_len (c : Int) : (upto c).length = c.toNat := by simp [upto]
theorem rangeD_upto (c : Int) : rangeD 0 c.toNat = (upto c).map .int := by
  rw [rangeD_eq]
  unfold upto
  rw [List.map_map]
  refine List.map_congr_left fun m _ => ?_
  simp
theorem lc2L_cons (bd : B) (t : T) (it1 : EA) (vs1 : List Nat) (bd1 : B) (t1 : T) (e : E) (ρ : Rho) (d : D) (ds : List D) (g : G) : lc2L bd t it1 vs1 bd1 t1 e ρ (d :: ds) g = (bd d ρ).bind fun ρ' => (t ρ' g).bind fun p => if p.1 = true then (it1 ρ' p.2).bind fun q => (lcL bd1 t1 e (wipeR ρ' vs1) q.1 q.2).bind fun r => (lc2L bd t it1 vs1 bd1 t1 e ρ ds r.2).map fun u => (r.1 ++ u.1, u.2) else lc2L bd t it1 vs1 bd1 t1 e ρ ds p.2 := by
  conv => lhs; unfold lc2L
  cases bd d ρ with
  | none => rfl
  | some ρ' =>
    simp only [mb_ap, ite_ap, mr_ap, Option.bind_some]
    congr 1
    funext p
    split
    · congr 1
      funext q
      congr 1
      funext r
      cases lc2L bd t it1 vs1 bd1 t1 e ρ ds r.2 <;> rfl
    · rfl
end PD
end
section
set_option Elab.async false
set_option linter.all false
set_option maxRecDepth 100000
set_option maxHeartbeats 4000000
set_option autoImplicit false
namespace PD
open PySem PySem.Spec L2
open PyProof.Rows hiding St
/-! ### it ends, and so -/
section
variable {α β : Type}
def Wp (o : Option (α × G)) (Q : α → G → Prop) : Prop := ∃ a g', o = some (a, g') ∧ Q a g'
@[simp] theorem wp_some (a : α) (g : G) (Q : α → G → Prop) : Wp (some (a, g)) Q ↔ Q a g := by
  constructor
  · rintro ⟨a', g', e, h⟩
    cases e
    exact h
  · exact fun h => ⟨a, g, rfl, h⟩
theorem wp_eq {m : Option (α × G)} {a : α} {g : G} {Q : α → G → Prop} (h : m = some (a, g)) (hQ : Q a g) : Wp m Q := ⟨a, g, h, hQ⟩
theorem wp_bind {m : Option (α × G)} {k : α × G → Option (β × G)} {Q : β → G → Prop} (h : Wp m fun a g => Wp (k (a, g)) Q) : Wp (m.bind k) Q := by
  obtain ⟨a, g, rfl, h⟩ := h
  exact h
theorem wp_map {m : Option (α × G)} {k : α × G → β × G} {Q : β → G → Prop} (h : Wp m fun a g => Q (k (a, g)).1 (k (a, g)).2) : Wp (m.map k) Q := by
  obtain ⟨a, g, rfl, h⟩ := h
  exact ⟨_, _, rfl, h⟩
theorem wp_mono {m : Option (α × G)} {P Q : α → G → Prop} (h : Wp m P) (hPQ : ∀ a g, P a g → Q a g) : Wp m Q := by
  obtain ⟨a, g, e, h⟩ := h
  exact ⟨a, g, e, hPQ a g h⟩
/-- behind a veil: what is asked stays as it is while the run is reckoned -/
theorem wp_hide {m : Option (α × G)} {Q : α → G → Prop} (h : ∀ Q' : α → G → Prop, (∀ a g, Q a g → Q' a g) → Wp m Q') : Wp m Q := h Q fun _ _ h => h
theorem wp_get {m : Option (α × G)} {Q : α → G → Prop} (h : Wp m Q) : ∃ a g', m = some (a, g') ∧ Q a g' := h
end
/-- a loop's body goes on, and then J -/
def Goes (J : Rho → G → Prop) : Fl → G → Prop
  | .nx ρ, g => J ρ g
  | .ct ρ, g => J ρ g
  | _, _ => False
@[simp] theorem goes_nx (J : Rho → G → Prop) (ρ : Rho) (g : G) : Goes J (.nx ρ) g ↔ J ρ g := Iff.rfl
@[simp] theorem goes_ct (J : Rho → G → Prop) (ρ : Rho) (g : G) : Goes J (.ct ρ) g ↔ J ρ g := Iff.rfl
def Ends' (Q : D → G → Prop) : Fl → G → Prop
  | .rt d, g => Q d g
  | .nx _, g => Q .non g
  | _, _ => False
@[simp] theorem ends_rt (Q : D → G → Prop) (d : D) (g : G) : Ends' Q (.rt d) g ↔ Q d g := Iff.rfl
@[simp] theorem ends_nx (Q : D → G → Prop) (ρ : Rho) (g : G) : Ends' Q (.nx ρ) g ↔ Q .non g := Iff.rfl
theorem wp_runF {n : Nat} {f : S} {ds : List D} {g : G} {Q : D → G → Prop} (h : Wp (f (slots0 n ds) g) (Ends' Q)) : Wp (runF n f ds g) Q := by
  obtain ⟨fl, g', e, h⟩ := h
  cases fl with
  | rt d => exact ⟨d, g', runF_rt e, h⟩
  | nx ρ => exact ⟨.non, g', runF_nx e, h⟩
  | bk ρ => exact h.elim
  | xc nm f d ρ => exact h.elim
  | ct ρ => exact h.elim
theorem wp_for {α : Type} {f : α → D} {bd : B} {b : S} {Q : Fl → G → Prop} (xs : List α) (I : List α → Rho → G → Prop) {ρ : Rho} {g : G} (h0 : I [] ρ g)
    (hs : ∀ (done : List α) (x : α) (todo : List α) (ρ : Rho) (g : G), xs = done ++ x :: todo → I done ρ g → ∃ ρ1, bd (f x) ρ = some ρ1 ∧ Wp (b ρ1 g) (Goes (I (done ++ [x]))))
    (hQ : ∀ (ρ : Rho) (g : G), I xs ρ g → Q (.nx ρ) g) : Wp (forL bd b (xs.map f) ρ g) Q := by
  have key : ∀ (todo done : List α) (ρ : Rho) (g : G), xs = done ++ todo → I done ρ g → Wp (forL bd b (todo.map f) ρ g) Q := by
    intro todo
    induction todo with
    | nil =>
      intro done ρ g e h
      rw [List.append_nil] at e
      subst e
      exact ⟨_, _, rfl, hQ _ _ h⟩
    | cons x todo ih =>
      intro done ρ g e h
      obtain ⟨ρ1, e1, fl, g', e2, h2⟩ := hs done x todo ρ g e h
      rw [List.map_cons, forL_cons, e1]
      simp only [Option.bind_some, e2]
      cases fl with
      | nx ρ' => exact ih (done ++ [x]) ρ' g' (by rw [e]; simp) h2
      | ct ρ' => exact ih (done ++ [x]) ρ' g' (by rw [e]; simp) h2
      | rt d => exact h2.elim
      | bk ρ' => exact h2.elim
      | xc nm f d ρ' => exact h2.elim
  exact key xs [] ρ g rfl h0
theorem wp_lc {α : Type} {f : α → D} {bd : B} {t : T} {e : E} {ρ : Rho} {g : G} {Q : List D → G → Prop} (xs : List α) (I : List α → List D → G → Prop) (h0 : I [] [] g)
    (hs : ∀ (done : List α) (x : α) (todo : List α) (r : List D) (g : G), xs = done ++ x :: todo → I done r g → ∃ ρ', bd (f x) ρ = some ρ' ∧ Wp (t ρ' g) fun k g1 => if k = true then Wp (e ρ' g1) (fun d g2 => I (done ++ [x]) (r ++ [d]) g2) else I (done ++ [x]) r g1)
    (hQ : ∀ (r : List D) (g : G), I xs r g → Q r g) : Wp (lcL bd t e ρ (xs.map f) g) Q := by
  have key : ∀ (todo done : List α) (r : List D) (g : G), xs = done ++ todo → I done r g → Wp (lcL bd t e ρ (todo.map f) g) fun r' g' => Q (r ++ r') g' := by
    intro todo
    induction todo with
    | nil =>
      intro done r g e h
      rw [List.append_nil] at e
      subst e
      exact ⟨[], g, rfl, by show Q (r ++ []) g; rw [List.append_nil]; exact hQ _ _ h⟩
    | cons x todo ih =>
      intro done r g e h
      obtain ⟨ρ1, e1, k, g', e2, h2⟩ := hs done x todo r g e h
      rw [List.map_cons, lcL_cons, e1]
      simp only [Option.bind_some, e2]
      cases k with
      | true =>
        simp only [if_true] at h2 ⊢
        obtain ⟨d, g2, e3, h3⟩ := h2
        rw [e3]
        simp only [Option.bind_some]
        obtain ⟨r', g3, e4, h4⟩ := ih (done ++ [x]) (r ++ [d]) g2 (by rw [e]; simp) h3
        rw [e4]
        refine ⟨d :: r', g3, rfl, ?_⟩
        simpa using h4
      | false =>
        simp only [Bool.false_eq_true, if_false] at h2 ⊢
        exact ih (done ++ [x]) r g' (by rw [e]; simp) h2
  have := key xs [] [] g rfl h0
  simpa using this
theorem wp_lcY {α : Type} {f : α → D} {bd : B} {e : E} {ρ : Rho} {g : G} {Q : List D → G → Prop} (xs : List α) (I : List α → List D → G → Prop) (h0 : I [] [] g)
    (hs : ∀ (done : List α) (x : α) (todo : List α) (r : List D) (g : G), xs = done ++ x :: todo → I done r g → ∃ ρ', bd (f x) ρ = some ρ' ∧ Wp (e ρ' g) (fun d g2 => I (done ++ [x]) (r ++ [d]) g2))
    (hQ : ∀ (r : List D) (g : G), I xs r g → Q r g) : Wp (lcL bd tYesD e ρ (xs.map f) g) Q :=
  wp_lc xs I h0 (fun done x todo r g e h => by
    obtain ⟨ρ', h1, h2⟩ := hs done x todo r g e h
    exact ⟨ρ', h1, true, g, rfl, h2⟩) hQ
/-! ### shown -/
mutual
def shB : D → Bool
  | .int i => decide (i.natAbs.log2 < 1920)
  | .str x => x.cps.toList.all fun c => decide (c < 16 ^ 8)
  | .tup l => shBA l
  | .lst l => shBA l
  | _ => true
def shBA : List D → Bool
  | [] => true
  | d :: l => shB d && shBA l
end
mutual
def shW : D → Nat
  | .int _ => 1921
  | .str x => 10 * x.length + 2
  | .tup l => shWA l + 4
  | .lst l => shWA l + 4
  | _ => 8
def shWA : List D → Nat
  | [] => 0
  | d :: l => shW d + 2 + shWA l
end
theorem join_cons_le (t : Str) (ts : List Str) : (Str.join ", " (t :: ts)).length ≤ t.length + 2 + (Str.join ", " ts).length := by
  cases ts with
  | nil =>
    show t.length ≤ _
    omega
  | cons u us =>
    show ((t ++ ", ") ++ Str.join ", " (u :: us)).length ≤ _
    rw [Str.length_append, Str.length_append]
    have : (", " : Str).length = 2 := by rfl
    omega
mutual
theorem shown_le : ∀ d : D, shB d = true → (toPy d).showable = true ∧ (shows d).length ≤ shW d
  | .non, _ => ⟨by simp [toPy, PyData.showable], by unfold shows; rw [toPy, PyData.shown_none]; decide⟩
  | .bl b, _ => ⟨by simp [toPy, PyData.showable], by unfold shows; rw [toPy, PyData.shown_bool]; cases b <;> decide⟩
  | .dk _ _, _ => ⟨by simp [toPy, PyData.showable], by unfold shows; rw [toPy, PyData.shown_none]; simp only [shW]; decide⟩
  | .dt _ _, _ => ⟨by simp [toPy, PyData.showable], by unfold shows; rw [toPy, PyData.shown_none]; simp only [shW]; decide⟩
  | .hd _, _ => ⟨by simp [toPy, PyData.showable], by unfold shows; rw [toPy, PyData.shown_none]; simp only [shW]; decide⟩
  | .tx _, _ => ⟨by simp [toPy, PyData.showable], by unfold shows; rw [toPy, PyData.shown_none]; simp only [shW]; decide⟩
  | .int i, h => by
    have h : decide (i.natAbs.log2 < 1920) = true := by simpa [shB] using h
    refine ⟨by simp only [toPy, PyData.showable]; exact h, ?_⟩
    unfold shows
    rw [toPy, PyData.shown_int]
    simp only [shW]
    exact int_text_len_1921 (of_decide_eq_true h)
  | .str x, h => by
    have h : (x.cps.toList.all fun c => decide (c < 16 ^ 8)) = true := by simpa [shB] using h
    refine ⟨by simp [toPy, PyData.showable], ?_⟩
    unfold shows
    rw [toPy, PyData.shown_str]
    simp only [shW]
    exact PySem.StrLaws.reprText_len x fun c hc => of_decide_eq_true (List.all_eq_true.mp h c hc)
  | .tup l, h => by
    obtain ⟨h1, h2⟩ := shown_leA l (by simpa [shB] using h)
    refine ⟨by simp only [toPy, PyData.showable]; exact h1, ?_⟩
    unfold shows
    rw [toPy, PyData.shown_tuple, Str.length_append, Str.length_append]
    simp only [shW]
    have a1 : ("(" : Str).length = 1 := by rfl
    have a2 : ((if (toPyA l).length == 1 then ",)" else ")" : String) : Str).length ≤ 2 := by split <;> decide
    omega
  | .lst l, h => by
    obtain ⟨h1, h2⟩ := shown_leA l (by simpa [shB] using h)
    refine ⟨by simp only [toPy, PyData.showable]; exact h1, ?_⟩
    unfold shows
    rw [toPy, PyData.shown_list, Str.length_append, Str.length_append]
    simp only [shW]
    have a1 : ("[" : Str).length = 1 := by rfl
    have a2 : ("]" : Str).length = 1 := by rfl
    omega
theorem shown_leA : ∀ l : List D, shBA l = true → PyData.showableAll (toPyA l) = true ∧ (Str.join ", " (PyData.shownAll (toPyA l))).length ≤ shWA l
  | [], _ => ⟨by simp [toPyA, PyData.showableAll], by rw [toPyA, PyData.shownAll_nil]; decide⟩
  | d :: l, h => by
    have h : shB d = true ∧ shBA l = true := by simpa [shBA] using h
    obtain ⟨h1, h2⟩ := shown_le d h.1
    obtain ⟨h3, h4⟩ := shown_leA l h.2
    refine ⟨by simp only [toPyA, PyData.showableAll, h1, h3, Bool.and_self], ?_⟩
    rw [toPyA, PyData.shownAll_cons]
    have := join_cons_le (PyData.shown (toPy d)) (PyData.shownAll (toPyA l))
    unfold shows at h2
    simp only [shWA]
    omega
end
theorem reprD_of {d : D} (h1 : cmpOk d = true) (h2 : shB d = true) (h3 : shW d ≤ 16777216) : reprD [d] = some (.str (shows d)) := by
  obtain ⟨h4, h5⟩ := shown_le d h2
  show (if showOk d = true then _ else _) = _
  rw [if_pos]
  unfold showOk
  rw [h1, h4]
  simp only [Bool.true_and, decide_eq_true_eq]
  rw [sizeLine_eq]
  omega
theorem shBA_map {α : Type} {f : α → D} : ∀ {xs : List α}, (∀ x ∈ xs, shB (f x) = true) → shBA (xs.map f) = true
  | [], _ => rfl
  | x :: xs, h => by
    simp only [List.map_cons, shBA]
    rw [h x List.mem_cons_self, shBA_map fun y hy => h y (List.mem_cons_of_mem _ hy)]
    rfl
theorem shWA_map {α : Type} {f : α → D} {n : Nat} : ∀ {xs : List α}, (∀ x ∈ xs, shW (f x) ≤ n) → shWA (xs.map f) ≤ xs.length * (n + 2)
  | [], _ => by simp [shWA]
  | x :: xs, h => by
    have h1 := h x List.mem_cons_self
    have h2 := shWA_map (xs := xs) fun y hy => h y (List.mem_cons_of_mem _ hy)
    simp only [List.map_cons, shWA, List.length_cons, Nat.add_mul, Nat.one_mul]
    omega
theorem neD_self {d : D} (x : Str) : neD (.str x) (.str x) = some false := by
  rw [neD_of rfl rfl]
  have : eqq (.str x) (.str x) = true := by rw [eqq_str]; simp
  rw [this]
  rfl
end PD
end
section
set_option Elab.async false
set_option linter.all false
set_option maxRecDepth 100000
set_option maxHeartbeats 4000000
set_option autoImplicit false
namespace PD
open PySem PySem.Spec L2
open PyProof.Rows hiding St
/-! ### a def that hands a new list over: it is the caller's own -/
def lvOf : D → LV
  | .lst l => .ol l
  | d => .d d
@[simp] theorem lvOf_lst (l : List D) : lvOf (.lst l) = .ol l := rfl
@[simp] theorem lvOf_non : lvOf .non = .d .non := rfl
@[simp] theorem lvOf_int (i : Int) : lvOf (.int i) = .d (.int i) := rfl
@[simp] theorem lvOf_tup (l : List D) : lvOf (.tup l) = .d (.tup l) := rfl
@[simp] theorem lvOf_bl (b : Bool) : lvOf (.bl b) = .d (.bl b) := rfl
theorem lvOf_get (d : D) : (lvOf d).get = d := by cases d <;> rfl
theorem frz_slot {K : PySem.W.Frag} {g g' : G} {F F' : Fz} {H H' : Hp} {v : V} {d : D} (s : Stp K g g' F F' H H') (r : SlotOk K F' H' g' v (lvOf d)) (fr : Fresh H v (lvOf d)) : ∃ F'', Stp K g g' F F'' H H' ∧ Rp K F'' v d := by
  cases d with
  | lst l =>
    obtain ⟨p, vs, rfl, hF, hm, hH, hz, rr⟩ := r
    exact ⟨F'.upd p (.lst vs), s.frz (fr rfl p rfl) hF hm hH, rp_new_lst hF (by rw [← rr.length]; exact hz) rr⟩
  | non => exact ⟨F', s, r⟩
  | bl b => exact ⟨F', s, r⟩
  | int i => exact ⟨F', s, r⟩
  | str x => exact ⟨F', s, r⟩
  | tup l => exact ⟨F', s, r⟩
  | dk ks l => exact ⟨F', s, r⟩
  | dt ks l => exact ⟨F', s, r⟩
  | hd n => exact ⟨F', s, r⟩
  | tx n => exact ⟨F', s, r⟩
def spO (K : PySem.W.Frag) (n : Nat) (f : List D → M D) : Sp := fun vs H Q _ => ∃ (F : Fz) (g : G) (ds : List D) (d : D) (g' : G), ds.length = n ∧ Same F.h H ∧ GRep K g F H ∧ RpA K F vs ds ∧ f ds g = some (d, g') ∧
  ∀ v H' F', Stp K g g' F F' H H' → SlotOk K F' H' g' v (lvOf d) → Fresh H v (lvOf d) → Q v H'
theorem spD_spO {K : PySem.W.Frag} {n : Nat} {f : List D → M D} : ∀ vs H Q E, spD K n f vs H Q E → spO K n f vs H Q E := fun vs H Q E ⟨F, g, ds, d, g', h1, h2, h3, h4, h5, q⟩ =>
  ⟨F, g, ds, d, g', h1, h2, h3, h4, h5, fun v H' F' s r fr => by
    obtain ⟨F'', s', r'⟩ := frz_slot s r fr
    exact q v H' F'' s' r'⟩
structure FnO (P : Program) (w : World) (K : PySem.W.Frag) (mg : Str → Option Value) (base : Heap) (k : Nat) (x : Str) (n : Nat) (f : List D → M D) : Prop where
  ex : ∃ (a : Addr) (fd : FuncData) (ps : List Str), mg x = some (.ref a) ∧ PySem.W.keepIn K (.ref a) = true ∧ Binds K fd ps [] ∧ FnG P w K mg base CX0 k a fd ps (spO K n f)
theorem FnO.d {P : Program} {w : World} {K : PySem.W.Frag} {mg : Str → Option Value} {base : Heap} {k : Nat} {x : Str} {n : Nat} {f : List D → M D} (h : FnO P w K mg base k x n f) : FnD P w K mg base k x n f := by
  obtain ⟨a, fd, ps, h1, h2, h3, h4⟩ := h.ex
  exact ⟨a, fd, ps, h1, h2, h3, h4.imp spD_spO⟩
def vCall (f : List D → M D) (as : EA) : EV := fun ρ => mb (as ρ) fun ds => mb (f ds) fun d => mr (lvOf d)
@[simp] theorem vCall_ap (f : List D → M D) (as : EA) (ρ : Rho) (g : G) : vCall f as ρ g = (as ρ g).bind fun p => (f p.1 p.2).map fun q => (lvOf q.1, q.2) := by
  simp only [vCall, mb_ap, mr_ap]
  congr 1
  funext p
  cases f p.1 p.2 <;> rfl
def PostO (X : Cx) (en : Ent) (g : G) (De : Ends) : Fl → Prop
  | .nx ρ => Post X en g De (.nx ρ)
  | .bk ρ => Post X en g De (.bk ρ)
  | .ct ρ => Post X en g De (.ct ρ)
  | .rt d => ∀ v H F, Stp X.K en.g g en.F F en.H H → SlotOk X.K F H g v (lvOf d) → Fresh en.H v (lvOf d) → De.rt v H
  | .xc nm f d ρ => Post X en g De (.xc nm f d ρ)
def PDSO (X : Cx) (st : Stmt) (f : S) : Prop := ∃ t, PS X st t ∧ ∀ en σ H F ρ g, PreS X.K en F H g ρ σ → ∀ fl g', f ρ g = some (fl, g') → ∀ De : Ends, PostO X en g' De fl → t De σ H
def PDSSO (X : Cx) (st : List Stmt) (f : S) : Prop := ∃ t, PSs X st t ∧ ∀ en σ H F ρ g, PreS X.K en F H g ρ σ → ∀ fl g', f ρ g = some (fl, g') → ∀ De : Ends, PostO X en g' De fl → t De σ H
/-- what is returned on the way is no list -/
def Calm (a : S) : Prop := ∀ ρ g d g', a ρ g = some (.rt d, g') → lvOf d = .d d
def sRetL (i : Nat) : S := fun ρ => ml ((olAt ρ i).map fun l => .rt (.lst l))
@[simp] theorem sRetL_ap (i : Nat) (ρ : Rho) (g : G) : sRetL i ρ g = (olAt ρ i).map fun l => (.rt (.lst l), g) := by
  unfold sRetL
  rw [ml_ap, Option.map_map]
  rfl
section
variable {X : Cx} {st : Stmt} {rest : List Stmt} {a b : S} {e : Expr} {es : List Expr} {f : E} {fs : EA} {pos p : Pos} {x : Str}
theorem pdsso_one (h : PDSO X st a) : PDSSO X [st] a := by
  obtain ⟨t, p, k⟩ := h
  exact ⟨_, pss_one p, k⟩
theorem pdsso_cons (h1 : PDS X st a) (hc : Calm a) (h2 : PDSSO X rest b) : PDSSO X (st :: rest) (sSeq a b) := by
  obtain ⟨t1, p1, k1⟩ := h1
  obtain ⟨t2, p2, k2⟩ := h2
  refine ⟨_, pss_cons p1 p2, fun en σ H F ρ g pre fl g' e De post => ?_⟩
  obtain ⟨fl1, g1, e1, e⟩ := mb_inv e
  refine k1 en σ H F ρ g pre fl1 g1 e1 _ ?_
  cases fl1 with
  | nx ρ' => exact fun σ' H' F' pre' => k2 en σ' H' F' ρ' g1 pre' fl g' e De post
  | bk ρ' => obtain ⟨rfl, rfl⟩ := mr_inv e; exact post
  | ct ρ' => obtain ⟨rfl, rfl⟩ := mr_inv e; exact post
  | rt d =>
    obtain ⟨rfl, rfl⟩ := mr_inv e
    have hd := hc _ _ _ _ e1
    intro v H' F' s r
    exact post v H' F' s (by rw [hd]; exact r) (by rw [hd]; exact fun z => by cases z)
  | xc nm f d ρ' => obtain ⟨rfl, rfl⟩ := mr_inv e; exact post
theorem pdsso_frz (i : Nat) (h : PDSSO X rest a) : PDSSO X rest (sFrz i a) := by
  obtain ⟨t, p, k⟩ := h
  refine ⟨t, p, fun en σ H F ρ g pre fl g' e De post => ?_⟩
  obtain ⟨F', pre'⟩ := pre.frz i
  exact k en σ H F' (frzR ρ i) g pre' fl g' e De post
theorem fresh_back {H H1 : Hp} {v : V} {lv : LV} (m : ∀ a, H1 a = none → H a = none) (h : Fresh H1 v lv) : Fresh H v lv := fun o q e => m q (h o q e)
theorem pdso_retO (h : PO X e fs) : PDSO X (.Return (some e) pos) (sRet (eO fs)) := by
  obtain ⟨t, p, k⟩ := h
  refine ⟨_, ps_ret p, fun en σ H F ρ g pre fl g' ev De post => ?_⟩
  obtain ⟨d, g1, e1, ev⟩ := mb_inv ev
  obtain ⟨rfl, rfl⟩ := mr_inv ev
  obtain ⟨ds, g2, e2, e1⟩ := mb_inv e1
  obtain ⟨rfl, rfl⟩ := mr_inv e1
  refine k σ H F ρ g pre.e ds _ e2 _ fun q H1 F1 vs s1 n1 n2 n3 n4 n5 n6 => ?_
  exact post (.ref q) H1 F1 (pre.st.trans s1) ⟨q, vs, rfl, n2, n3, n4, n5, n6⟩ fun _ w ew => by cases ew; exact pre.st.mono _ n1
theorem pdso_retOwn (i : Nat) (hN : X.N[i]? = some x := by rfl) (hv : Vis X.env.scope x := by first | exact Or.inl rfl | exact Or.inr (Or.inl rfl) | exact Or.inr (Or.inr rfl))
    (hd : (x == ("__debug__" : Str)) = false := by decide) (hcd : (x == ("__classdict__" : Str)) = false := by decide) : PDSO X (.Return (some (.Name x p)) pos) (sRetL i) := by
  refine ⟨_, ps_ret (pe_var hN hv hd hcd), fun en σ H F ρ g pre fl g' ev De post => ?_⟩
  obtain ⟨ev2, rfl⟩ := ml_inv ev
  obtain ⟨l, hl0, rfl⟩ := Option.map_eq_some_iff.mp ev2
  have hl := olAt_inv hl0
  obtain ⟨q, vs, h1, h2, h3, h4, h5, h6⟩ := ol_inv pre.e hl
  exact ⟨_, h1, post (.ref q) H F pre.st ⟨q, vs, rfl, h2, h3, h4, h5, h6⟩ fun _ w ew => by cases ew; exact pre.fr i q ⟨_, hl, rfl, h1⟩⟩
variable {k n : Nat} {F : List D → M D}
theorem pv_call (hf : FnO X.prog X.w X.K X.mg X.base k x n F) (hr : Room k X.A) (gd : X.A.guards = some []) (ha : PDA X (e :: es) fs) (hn : ∀ ρ g ds g', fs ρ g = some (ds, g') → ds.length = n)
    (hg : Gl X x := by rfl) (hdb : (x == ("__debug__" : Str)) = false := by decide) (he : starEach (e :: es) X.env = (false, eval e X.env) :: starEach es X.env := by rfl) (hpl : (backTo pos (starEach es X.env)).any (·.1) = false := by rfl) :
    PV X (.Call (.Name x p) (e :: es) [] pos) (vCall F fs) := by
  obtain ⟨a, fd, ps, hm, hk, hb, G⟩ := hf.ex
  obtain ⟨t, ht, k⟩ := ha
  refine ⟨_, pe_callG G hr gd hg hm hk hb .nil pass0 ht hdb he hpl, fun σ H F ρ g pre lv g' ev Q q => ?_⟩
  obtain ⟨ds, g1, e1, ev⟩ := mb_inv ev
  obtain ⟨d, g2, e2, ev⟩ := mb_inv ev
  obtain ⟨rfl, rfl⟩ := mr_inv ev
  refine k σ H F ρ g pre ds g1 e1 _ fun vs H1 F1 s1 r1 => ?_
  rw [List.append_nil]
  exact ⟨F1, g1, ds, d, _, hn _ _ _ _ e1, s1.sub, s1.rep, r1, e2, fun v H2 F2 s2 r2 fr => q v H2 F2 (s1.trans s2) r2 (fresh_back s1.mono fr)⟩
theorem pdso_retCall (hf : FnO X.prog X.w X.K X.mg X.base k x n F) (hr : Room k X.A) (gd : X.A.guards = some []) (ha : PDA X (e :: es) fs) (hn : ∀ ρ g ds g', fs ρ g = some (ds, g') → ds.length = n)
    (hg : Gl X x := by rfl) (hdb : (x == ("__debug__" : Str)) = false := by decide) (he : starEach (e :: es) X.env = (false, eval e X.env) :: starEach es X.env := by rfl) (hpl : (backTo p (starEach es X.env)).any (·.1) = false := by rfl) {fp : Pos} :
    PDSO X (.Return (some (.Call (.Name x fp) (e :: es) [] p)) pos) (sRet (eCall F fs)) := by
  obtain ⟨a, fd, ps, hm, hk, hb, G⟩ := hf.ex
  obtain ⟨t, ht, k⟩ := ha
  refine ⟨_, ps_ret (pe_callG G hr gd hg hm hk hb .nil pass0 ht hdb he hpl), fun en σ H F ρ g pre fl g' ev De post => ?_⟩
  obtain ⟨d, g1, e1, ev⟩ := mb_inv ev
  obtain ⟨rfl, rfl⟩ := mr_inv ev
  obtain ⟨ds, g2, e2, e1⟩ := mb_inv e1
  refine k σ H F ρ g pre.e ds g2 e2 _ fun vs H1 F1 s1 r1 => ?_
  rw [List.append_nil]
  exact ⟨F1, g2, ds, d, _, hn _ _ _ _ e2, s1.sub, s1.rep, r1, e1, fun v H2 F2 s2 r2 fr => post v H2 F2 ((pre.st.trans s1).trans s2) r2 (fresh_back (fun a h => pre.st.mono a (s1.mono a h)) fr)⟩
end
/-! sorted tells a new list -/
def CallO (K : PySem.W.Frag) (r : List V → Hp → VK → Prop) (h : List D → Option D) : Prop := ∀ (F : Fz) (H : Hp) g vs ds l, Same F.h H → GRep K g F H → RpA K F vs ds → h ds = some (.lst l) → ∀ Q : VK, NewL K F H g g l Q → r vs H Q
theorem sortedM_okO {K : PySem.W.Frag} : CallO K (rSrt K) sortedM := fun F H g vs ds m s r rv e Q q => by
  unfold sortedM at e
  split at e
  · rename_i l
    obtain ⟨m', e2, e3⟩ := Option.map_eq_some_iff.mp e
    cases e3
    cases rv with
    | cons rl t =>
      cases t
      obtain ⟨a, xs, rfl, h1, h2, h3⟩ := rp_lst rl
      unfold sortD at e2
      split at e2
      · rename_i hk
        cases e2
        simp only [Bool.or_eq_true] at hk
        have fin : ∀ {ys : List V} {p : Addr}, H p = none → ys.length = xs.length → RpA K F ys (isoD l) → Q (.ref p) (upd H p (.lst ys)) := fun {ys p} hp hl hr =>
          q p _ F ys (.allocO s r hp) hp (s.free hp) (r.out hp) upd_same (by rw [hl]; exact h2) hr
        rcases hk with (hk | hk) | hk
        · obtain ⟨ns, rfl⟩ := isInt_all hk
          have := h3.ints
          subst this
          refine .inl ⟨a, ns, rfl, sqL_mono s h1, fun ns' p p1 p2 hp => fin hp (by simp [p1.length_eq]) ?_⟩
          rw [isoI p1 p2]
          exact RpA.ofInts ns'
        · obtain ⟨ns, rfl⟩ := isStr_all hk
          have e3 := h3.strs
          subst e3
          refine .inr (.inl ⟨a, ns, rfl, sqL_mono s h1, fun ns' p p1 p2 hp => fin hp (by simp [p1.length_eq]) ?_⟩)
          rw [isoS p1 p2]
          refine RpA.ofStrs ns' fun x hx => ?_
          have hx2 := p1.mem_iff.mp hx
          obtain ⟨i, hi⟩ := List.getElem?_of_mem hx2
          obtain ⟨v, _, hv⟩ := h3.get (i := i) (d := .str x) (by rw [List.getElem?_map, hi]; rfl)
          exact (rp_str hv).2
        · obtain ⟨ns, hne, rfl⟩ := isTI_all hk
          obtain ⟨zs, rfl, rfl, hz⟩ := rpA_ti h3
          refine .inr (.inr ⟨a, zs, rfl, sqL_mono s h1, fun z hzm => ⟨hne _ (List.mem_map_of_mem hzm), sqT_mono s (hz z hzm).1⟩, fun ys p p1 p2 hp => fin hp (by simp [p2.len]) ?_⟩)
          have e4 : isoD ((zs.map (·.2)).map fun n => D.tup (n.map D.int)) = ys.map fun z => D.tup (z.2.map D.int) := by
            rw [List.map_map, isoD_eq]
            have := isoG_map (lt := fun x y : Addr × List Int => HT.lexLt x.2 y.2) (lt' := ltB) (fun z : Addr × List Int => D.tup (z.2.map D.int)) (fun x y => ltB_ti x.2 y.2) zs
            refine Eq.trans this ?_
            rw [← isoG_uniq (swoT fun z : Addr × List Int => z.2) p1 p2]
          rw [e4]
          exact rpA_of_mem fun z hz2 => (hz z (p2.perm.mem_iff.mp hz2)).2
      · cases e2
  · cases e
section
variable {X : Cx} {e : Expr} {fs : EA} {p pos rp : Pos}
theorem pdso_retSorted (hm : X.mg "sorted" = none) (ha : PDA X [e] fs) (hg : Gl X "sorted" := by rfl) (he : starEach [e] X.env = (false, eval e X.env) :: starEach [] X.env := by rfl) :
    PDSO X (.Return (some (.Call (.Name "sorted" p) [e] [] pos)) rp) (sRet (eBi sortedM fs)) := by
  obtain ⟨t, ht, k⟩ := ha
  refine ⟨_, ps_ret (pe_callB cr_srt hg hm (by decide +kernel) ht (by decide) (by decide) he (by rfl)), fun en σ H F ρ g pre fl g' ev De post => ?_⟩
  obtain ⟨d, g1, e1, ev⟩ := mb_inv ev
  obtain ⟨rfl, rfl⟩ := mr_inv ev
  obtain ⟨ds, g2, e2, e1⟩ := mb_inv e1
  obtain ⟨e3, rfl⟩ := ml_inv e1
  refine k σ H F ρ g pre.e ds _ e2 _ fun vs H1 F1 s1 r1 => ?_
  have hd : ∃ l, d = .lst l := by
    unfold sortedM at e3
    split at e3
    · obtain ⟨m, _, rfl⟩ := Option.map_eq_some_iff.mp e3
      exact ⟨m, rfl⟩
    · cases e3
  obtain ⟨l, rfl⟩ := hd
  exact sortedM_okO F1 H1 _ vs ds l s1.sub s1.rep r1 e3 _ fun q H2 F2 ws s2 n1 n2 n3 n4 n5 n6 => post (.ref q) H2 F2 ((pre.st.trans s1).trans s2) ⟨q, ws, rfl, n2, n3, n4, n5, n6⟩ fun _ w ew => by cases ew; exact pre.st.mono _ (s1.mono _ n1)
end
/-! ### nothing new is returned on the way -/
section
variable {a b : S} {f : E} {fs : EA} {fv : EV} {fvs : EVA} {bd : B} {c : T}
theorem calm_set (i : Nat) : Calm (sSet i f) := fun ρ g d g' h => by
  obtain ⟨_, _, _, h⟩ := mb_inv h
  cases (mr_inv h).1
theorem calm_setV (i : Nat) : Calm (sSetV i fv) := fun ρ g d g' h => by
  obtain ⟨_, _, _, h⟩ := mb_inv h
  cases (mr_inv h).1
theorem calm_expr : Calm (sExpr f) := fun ρ g d g' h => by
  obtain ⟨_, _, _, h⟩ := mb_inv h
  cases (mr_inv h).1
theorem calm_nil : Calm sNil := fun ρ g d g' h => by cases (mr_inv h).1
theorem calm_never : Calm sNever := fun ρ g d g' h => by cases h
theorem calm_cont : Calm sCont := fun ρ g d g' h => by cases (mr_inv h).1
theorem calm_retN : Calm (sRet (eC .non)) := fun ρ g d g' h => by
  obtain ⟨x, g1, h1, h⟩ := mb_inv h
  obtain ⟨h2, _⟩ := mr_inv h
  cases h2
  obtain ⟨rfl, _⟩ := mr_inv h1
  rfl
theorem calm_append (i : Nat) : Calm (sAppend i f) := fun ρ g d g' h => by
  obtain ⟨x, g1, h1, h⟩ := mb_inv h
  obtain ⟨h2, _⟩ := ml_inv h
  obtain ⟨l, _, h3⟩ := Option.bind_eq_some_iff.mp h2
  split at h3 <;> cases h3
theorem calm_own (i : Nat) : Calm (sOwn i fs) := fun ρ g d g' h => by
  obtain ⟨_, _, _, h⟩ := mb_inv h
  cases (mr_inv h).1
theorem calm_asg : Calm (sAsg bd f) := fun ρ g d g' h => by
  obtain ⟨x, g1, h1, h⟩ := mb_inv h
  obtain ⟨h2, _⟩ := ml_inv h
  obtain ⟨l, _, h3⟩ := Option.map_eq_some_iff.mp h2
  cases h3
theorem calm_parV (is : List Nat) : Calm (sParV is fvs) := fun ρ g d g' h => by
  obtain ⟨x, g1, h1, h⟩ := mb_inv h
  split at h
  · cases (mr_inv h).1
  · cases h
theorem calm_frz (i : Nat) (h : Calm a) : Calm (sFrz i a) := fun ρ g d g' e => h _ g d g' e
theorem calm_seq (ha : Calm a) (hb : Calm b) : Calm (sSeq a b) := fun ρ g d g' h => by
  obtain ⟨fl, g1, h1, h⟩ := mb_inv h
  cases fl with
  | nx ρ' => exact hb _ _ _ _ h
  | bk ρ' => cases (mr_inv h).1
  | xc nm f d ρ' => cases (mr_inv h).1
  | ct ρ' => cases (mr_inv h).1
  | rt x =>
    obtain ⟨h2, rfl⟩ := mr_inv h
    cases h2
    exact ha _ _ _ _ h1
theorem calm_if (ha : Calm a) (hb : Calm b) : Calm (sIf c a b) := fun ρ g d g' h => by
  obtain ⟨k, g1, h1, h⟩ := mb_inv h
  split at h
  · exact ha _ _ _ _ h
  · exact hb _ _ _ _ h
theorem calm_for (hb : Calm b) : Calm (sFor fs bd b) := fun ρ g d g' h => by
  obtain ⟨ds, g1, h1, h⟩ := mb_inv h
  have key : ∀ (ds : List D) (ρ : Rho) (g : G), forL bd b ds ρ g = some (.rt d, g') → lvOf d = .d d := by
    intro ds
    induction ds with
    | nil => intro ρ g h; cases h
    | cons x ds ih =>
      intro ρ g h
      rw [forL_cons] at h
      obtain ⟨ρ1, _, h⟩ := Option.bind_eq_some_iff.mp h
      obtain ⟨⟨fl, g2⟩, h2, h⟩ := Option.bind_eq_some_iff.mp h
      cases fl with
      | nx ρ' => exact ih _ _ h
      | ct ρ' => exact ih _ _ h
      | bk ρ' => cases h
      | xc nm f d ρ' => cases h
      | rt x =>
        cases h
        exact hb _ _ _ _ h2
  exact key ds ρ g1 h
end
theorem fn_dO {P : Program} {w : World} {K : PySem.W.Frag} {mg : Str → Option Value} {base : Heap} {k : Nat} {f : Addr} {x qual : Str} {params : Arguments} {body : List Stmt} {scope : Scope} {kws : List (Str × V)} {fd : FuncData} {N ps : List Str} {sem : S}
    (F : FunD K x qual params body scope [] kws f fd) (S : FnScope N ps scope)
    (hbody : ∀ (cdv : Value) (A : Around) (outer : List Env) (s : Shared) (H : Hp) (E : XK), Room k (A.deeper (envOfC qual scope s.heap.objs.size f cdv)) → (A.deeper (envOfC qual scope s.heap.objs.size f cdv)).guards = some [] →
      PDSSO (cxOf CX0 P w K mg base N qual scope f cdv A outer s H E).nox body sem) : FnG P w K mg base CX0 (k + 1) f fd ps (spO K ps.length (runF N.length sem)) := by
  refine fn_g F S (fun vs H Q E h => ?_) fun cdv A outer s H vs Q E hr gd h => ?_
  · obtain ⟨F, g, ds, d, g', hn, _, _, rv, _⟩ := h
    rw [rv.length, hn]
  · obtain ⟨F, g, ds, d, g', hn, sb, rp, rv, ev, q⟩ := h
    obtain ⟨t, ht, kt⟩ := hbody cdv A outer s H E hr gd
    refine ⟨t, ht.nox, ?_⟩
    unfold runF at ev
    cases h : sem (slots0 N.length ds) g with
    | none => rw [h] at ev; cases ev
    | some r =>
      obtain ⟨fl, g1⟩ := r
      rw [h] at ev
      refine kt ⟨g, F, H⟩ (start N vs) H F (slots0 N.length ds) g (pre0 sb rp rv) fl g1 h _ ?_
      cases fl with
      | rt z => cases ev; exact fun v H' F' s' r' fr => q v H' F' s' r' fr
      | nx ρ => cases ev; exact fun σ' H' F' p' => q .non H' F' p'.st .non fun z => by cases z
      | bk ρ => cases ev
      | xc nm f d ρ => cases ev
      | ct ρ => cases ev
end PD
end
section
set_option Elab.async false
set_option linter.all false
set_option maxRecDepth 100000
set_option maxHeartbeats 4000000
set_option autoImplicit false
/-! ### dict(zip(..)) of two tuples -/
namespace PD
open PySem
section
variable {prog : Program} {w : World} {A : Around} {E : Value → Shared → Prop} {s : Shared} {zz ti to tt j1 j2 p1 p2 : Addr} {fl : Bool} {ot : Obj} {n1 n2 : Nat} {us vs : Array Value}
theorem znext_held {u v : Value} {Q : Value → Shared → Prop} (D : ZipApart zz ti to j1 j2 p1 p2) (gz : IsZipHeld s.heap zz ti to tt fl) (gt : s.heap.get? tt = some ot) (gti : IsPair s.heap ti (.ref j1) (.ref j2))
    (r1 : s.heap.IsTupleIter j1 p1 n1) (r2 : s.heap.IsTupleIter j2 p2 n2) (t1 : s.heap.IsTuple p1 us) (t2 : s.heap.IsTuple p2 vs) (eu : us[n1]? = some u) (ev : vs[n2]? = some v)
    (q : ∀ h', IsZipHeld h' zz ti to tt true → h'.IsTupleIter j1 p1 (n1 + 1) → h'.IsTupleIter j2 p2 (n2 + 1) → IsPair h' s.heap.objs.size u v → h'.objs.size = s.heap.objs.size + 1 →
      (∀ c o, c ≠ zz → c ≠ j1 → c ≠ j2 → s.heap.get? c = some o → h'.get? c = some o) → Q (.ref s.heap.objs.size) { s with heap := h' }) :
    wpAny (model prog w) A (Builtin.«zip.__next__» ⟨[.ref zz], []⟩) (fun fin s' => ∃ x, fin = .done (.ret x) ∧ Q x s') E s := by
  show wpAny _ _ (field (.ref zz) 2 >>= _) _ _ _
  refine wpAny_bind (wpAny_field gz rfl (x := .bool false) rfl ?_); show wpAny _ _ (field (.ref zz) 3 >>= _) _ _ _
  refine wpAny_bind (wpAny_field gz rfl (x := .ref ti) rfl (wpAny_bind (wpAny_seqItems gti rfl ?_)))
  show wpAny _ _ (Builtin.SmallTypes.ownedTupleIsFree (.ref zz) >>= _) _ _ _
  refine wpAny_bind (wpAny_tupleHeld_zip gz gt fun ha gza sa => ?_); simp only [Bool.false_eq_true, if_false]
  refine wpAny_bind ?_; rw [← Array.forIn_toList]; simp only [List.forIn_cons, List.forIn_nil]
  refine wpAny_bind (wpAny_bind (wpAny_holding ?_)); show wpAny _ _ (Builtin.SmallTypes.nextOf (.ref j1) >>= _) _ _ _
  refine wpAny_bind (RZ.nextOf_tuple_item (s := { s with heap := ha }) (r1.extBut sa.extBut D.i1z) (t1.extBut sa.extBut D.l1z) eu fun hb rb sb => wpAny_pure (wpAny_pure ?_))
  refine wpAny_bind (wpAny_bind (wpAny_holding ?_)); show wpAny _ _ (Builtin.SmallTypes.nextOf (.ref j2) >>= _) _ _ _
  refine wpAny_bind (RZ.nextOf_tuple_item (s := { s with heap := hb }) ((r2.extBut sa.extBut D.i2z).extBut sb.extBut D.i12.symm) ((t2.extBut sa.extBut D.l2z).extBut sb.extBut D.l2i1) ev fun hc rc sc => wpAny_pure (wpAny_pure (wpAny_pure ?_)))
  show wpAny _ _ (newTuple [u, v] >>= _) _ _ _
  refine wpAny_bind (wpAny_newTuple ?_)
  have ez : hc.objs.size = s.heap.objs.size := by rw [sc.1, sb.1, sa.1]
  have gzc : IsZipHeld hc zz ti to tt true := sc.extBut _ _ D.i2z.symm (sb.extBut _ _ D.i1z.symm gza)
  have kc : ∀ c o, c ≠ zz → c ≠ j1 → c ≠ j2 → s.heap.get? c = some o → hc.get? c = some o := fun c o a1 a2 a3 x => sc.extBut _ _ a3 (sb.extBut _ _ a2 (sa.extBut _ _ a1 x))
  have rc1 : hc.IsTupleIter j1 p1 (n1 + 1) := rb.extBut sc.extBut D.i12
  refine wpAny_pure ⟨_, rfl, ?_⟩
  show Q (.ref hc.objs.size) _
  have np : IsPair (hc.push { cls := .type "tuple", data := .seq #[u, v] }) hc.objs.size u v := Heap.get?_push_size _ rfl
  have nz : (hc.push { cls := .type "tuple", data := .seq #[u, v] }).objs.size = hc.objs.size + 1 := Heap.size_push ..
  rw [ez] at np nz ⊢
  exact q _ (Heap.get?_push_of_some _ gzc) (rc1.at fun o x => Heap.get?_push_of_some _ x) (rc.at fun o x => Heap.get?_push_of_some _ x) np nz fun c o a1 a2 a3 x => Heap.get?_push_of_some _ (kc c o a1 a2 a3 x)
theorem zend_held {Q : Fin → Shared → Prop} (hh : A.handled = none) (D : ZipApart zz ti to j1 j2 p1 p2) (gz : IsZipHeld s.heap zz ti to tt fl) (gt : s.heap.get? tt = some ot) (gti : IsPair s.heap ti (.ref j1) (.ref j2))
    (r1 : s.heap.IsTupleIter j1 p1 n1) (r2 : s.heap.IsTupleIter j2 p2 n2) (t1 : s.heap.IsTuple p1 us) (t2 : s.heap.IsTuple p2 vs) (en : us[n1]? = none ∨ vs[n2]? = none)
    (q : ∀ h' e, (∀ c o, c ≠ zz → c ≠ j1 → c ≠ j2 → s.heap.get? c = some o → h'.get? c = some o) → (∃ o, h'.get? e = some o ∧ o.cls = .type "StopIteration") → E (.ref e) { s with heap := h' }) :
    wpAny (model prog w) A (Builtin.«zip.__next__» ⟨[.ref zz], []⟩) Q E s := by
  show wpAny _ _ (field (.ref zz) 2 >>= _) _ _ _
  refine wpAny_bind (wpAny_field gz rfl (x := .bool false) rfl ?_); show wpAny _ _ (field (.ref zz) 3 >>= _) _ _ _
  refine wpAny_bind (wpAny_field gz rfl (x := .ref ti) rfl (wpAny_bind (wpAny_seqItems gti rfl ?_)))
  show wpAny _ _ (Builtin.SmallTypes.ownedTupleIsFree (.ref zz) >>= _) _ _ _
  refine wpAny_bind (wpAny_tupleHeld_zip gz gt fun ha gza sa => ?_); simp only [Bool.false_eq_true, if_false]
  refine wpAny_bind ?_; rw [← Array.forIn_toList]; simp only [List.forIn_cons, List.forIn_nil]
  refine wpAny_bind (wpAny_bind (wpAny_holding ?_)); show wpAny _ _ (Builtin.SmallTypes.nextOf (.ref j1) >>= _) _ _ _
  cases eu : us[n1]? with
  | none =>
    refine wpAny_bind (RZ.nextOf_tuple_end (s := { s with heap := ha }) hh (r1.extBut sa.extBut D.i1z) (t1.extBut sa.extBut D.l1z) eu fun hb e sb he => ?_)
    exact q hb e (fun c o a1 a2 _ x => sb _ _ a2 (sa.extBut _ _ a1 x)) he
  | some u =>
    have ev : vs[n2]? = none := by rcases en with h | h; rw [eu] at h; cases h; exact h
    refine wpAny_bind (RZ.nextOf_tuple_item (s := { s with heap := ha }) (r1.extBut sa.extBut D.i1z) (t1.extBut sa.extBut D.l1z) eu fun hb rb sb => wpAny_pure (wpAny_pure ?_))
    refine wpAny_bind (wpAny_bind (wpAny_holding ?_)); show wpAny _ _ (Builtin.SmallTypes.nextOf (.ref j2) >>= _) _ _ _
    refine wpAny_bind (RZ.nextOf_tuple_end (s := { s with heap := hb }) hh ((r2.extBut sa.extBut D.i2z).extBut sb.extBut D.i12.symm) ((t2.extBut sa.extBut D.l2z).extBut sb.extBut D.l2i1) ev fun hc e sc he => ?_)
    exact q hc e (fun c o a1 a2 a3 x => sc _ _ a3 (sb.extBut _ _ a2 (sa.extBut _ _ a1 x))) he
theorem zpy_held {u v : Value} {Q : Option Value → Shared → Prop} (D : ZipApart zz ti to j1 j2 p1 p2) (gz : IsZipHeld s.heap zz ti to tt fl) (gt : s.heap.get? tt = some ot) (gti : IsPair s.heap ti (.ref j1) (.ref j2))
    (r1 : s.heap.IsTupleIter j1 p1 n1) (r2 : s.heap.IsTupleIter j2 p2 n2) (t1 : s.heap.IsTuple p1 us) (t2 : s.heap.IsTuple p2 vs) (eu : us[n1]? = some u) (ev : vs[n2]? = some v)
    (q : ∀ h', IsZipHeld h' zz ti to tt true → h'.IsTupleIter j1 p1 (n1 + 1) → h'.IsTupleIter j2 p2 (n2 + 1) → IsPair h' s.heap.objs.size u v → h'.objs.size = s.heap.objs.size + 1 →
      (∀ c o, c ≠ zz → c ≠ j1 → c ≠ j2 → s.heap.get? c = some o → h'.get? c = some o) → Q (some (.ref s.heap.objs.size)) { s with heap := h' }) : wpAny (model prog w) A (pyNext (.ref zz)) Q E s := by
  have ty : s.TypeIs (.ref zz) "zip" := ⟨_, gz, rfl⟩
  unfold pyNext
  refine wpAny_bind (wpAny_attempt (wpAny_callSpecial?_slot (name := Str.ofString "__next__") ty F.slot_zip_next (wpAny_call_entry F.slot_zip_next ty F.entry_zip_next ?_ (F.args_zip_next_1 _))))
  exact znext_held D gz gt gti r1 r2 t1 t2 eu ev fun h' b1 b2 b3 b4 b5 b6 => wpAny_pure (q h' b1 b2 b3 b4 b5 b6)
theorem zpy_end_held {Q : Option Value → Shared → Prop} (hh : A.handled = none) (D : ZipApart zz ti to j1 j2 p1 p2) (gz : IsZipHeld s.heap zz ti to tt fl) (gt : s.heap.get? tt = some ot) (gti : IsPair s.heap ti (.ref j1) (.ref j2))
    (r1 : s.heap.IsTupleIter j1 p1 n1) (r2 : s.heap.IsTupleIter j2 p2 n2) (t1 : s.heap.IsTuple p1 us) (t2 : s.heap.IsTuple p2 vs) (en : us[n1]? = none ∨ vs[n2]? = none)
    (q : ∀ h', (∀ c o, c ≠ zz → c ≠ j1 → c ≠ j2 → s.heap.get? c = some o → h'.get? c = some o) → Q none { s with heap := h' }) : wpAny (model prog w) A (pyNext (.ref zz)) Q E s := by
  have ty : s.TypeIs (.ref zz) "zip" := ⟨_, gz, rfl⟩
  unfold pyNext
  refine wpAny_bind (wpAny_attempt (wpAny_callSpecial?_slot (name := Str.ofString "__next__") ty F.slot_zip_next (wpAny_call_entry F.slot_zip_next ty F.entry_zip_next ?_ (F.args_zip_next_1 _))))
  refine zend_held hh D gz gt gti r1 r2 t1 t2 en fun h' e hk ⟨o, ho, hc⟩ => ?_
  exact wpAny_bind (wpAny_isInstance (T := "StopIteration") (b := true) ⟨o, ho, hc⟩ isSubtype_stop (wpAny_pure (q _ hk)))
end
section
variable {prog : Program} {w : World}
/-- zip of two tuples, as dict() reads it -/
theorem pairArg_zipT (zz ti to j1 j2 p1 p2 : Addr) (D : ZipApart zz ti to j1 j2 p1 p2) (us vs : Array Value) :
    PairArg prog w "zip" zz [zz, ti, to, j1, j2, p1, p2] [zz, to, j1, j2] (min us.size vs.size) (fun i k v => us[i]? = some k ∧ vs[i]? = some v)
      (fun h => IsZip h zz ti to .none ∧ IsPair h ti (.ref j1) (.ref j2) ∧ (∃ a b, IsPair h to a b) ∧ h.IsTupleIter j1 p1 0 ∧ h.IsTupleIter j2 p2 0 ∧ h.IsTuple p1 us ∧ h.IsTuple p2 vs) where
  type := fun s ok => ⟨_, ok.1, rfl⟩
  notDict := by decide
  keep := fun h h' ⟨gz, gti, ⟨a, b, gto⟩, r1, r2, t1, t2⟩ hk =>
    ⟨hk _ _ gz, hk _ _ gti, ⟨a, b, hk _ _ gto⟩, r1.at fun o e => hk _ o e, r2.at fun o e => hk _ o e, t1.at fun o e => hk _ o e, t2.at fun o e => hk _ o e⟩
  there := fun h ⟨gz, gti, ⟨a, b, gto⟩, ⟨o1, r1, _⟩, ⟨o2, r2, _⟩, ⟨o3, t1, _⟩, ⟨o4, t2, _⟩⟩ c hc => by
    simp only [List.mem_cons, List.not_mem_nil, or_false] at hc
    rcases hc with e | e | e | e | e | e | e <;> subst e
    · exact ⟨_, gz⟩
    · exact ⟨_, gti⟩
    · exact ⟨_, gto⟩
    · exact ⟨_, r1⟩
    · exact ⟨_, r2⟩
    · exact ⟨_, t1⟩
    · exact ⟨_, t2⟩
  sub := fun c hc => by
    simp only [List.mem_cons, List.not_mem_nil, or_false] at hc ⊢
    rcases hc with e | e | e | e <;> simp [e]
  noKeys := fun A s Q E hA ok h => getAttrOr_miss_zip ok.1 rfl rfl rfl zip_no_keys (by decide +kernel) hA h
  iter := fun A s d Q E hA ⟨gz, gti, ⟨a, b, gto⟩, r1, r2, t1, t2⟩ hd hdf h => by
    simp only [List.mem_cons, List.not_mem_nil, or_false, not_or] at hdf
    obtain ⟨dz, dti, dto, d1, d2, e1, e2⟩ := hdf
    refine wpAny_pyIter_zip gz (h zz [zz, to, j1, j2] (fun i h => IsPair h ti (.ref j1) (.ref j2) ∧ h.IsTupleIter j1 p1 i ∧ h.IsTupleIter j2 p2 i ∧ h.IsTuple p1 us ∧ h.IsTuple p2 vs ∧
      ((IsZip h zz ti to .none ∧ ∃ a b, IsPair h to a b) ∨ ∃ T f oT, IsZipHeld h zz ti to T f ∧ h.get? T = some oT ∧ T ≠ zz ∧ T ≠ j1 ∧ T ≠ j2 ∧ T ≠ d)) s.heap s.toks ?_ ⟨gti, r1, r2, t1, t2, .inl ⟨gz, a, b, gto⟩⟩ (fun _ _ e => e) fun c hc => .inl hc)
    refine ⟨fun hm => ?_, fun i h₁ h₂ ⟨gti, r1, r2, t1, t2, gz⟩ hk => ?_, fun i s₁ Q₁ E₁ hi ⟨gti, r1, r2, t1, t2, gz⟩ hds hQ => ?_, fun s₁ Q₁ E₁ ⟨gti, r1, r2, t1, t2, gz⟩ hQ => ?_⟩
    · simp only [List.mem_cons, List.not_mem_nil, or_false] at hm
      rcases hm with e | e | e | e
      · exact dz e
      · exact dto e
      · exact d1 e
      · exact d2 e
    · refine ⟨hk _ _ (Ne.symm dti) gti, r1.at fun o e => hk _ o (Ne.symm d1) e, r2.at fun o e => hk _ o (Ne.symm d2) e, t1.at fun o e => hk _ o (Ne.symm e1) e, t2.at fun o e => hk _ o (Ne.symm e2) e, ?_⟩
      rcases gz with ⟨gz, a, b, gto⟩ | ⟨T, f, oT, gz, hT, q1, q2, q3, q4⟩
      · exact .inl ⟨hk _ _ (Ne.symm dz) gz, a, b, hk _ _ (Ne.symm dto) gto⟩
      · exact .inr ⟨T, f, oT, hk _ _ (Ne.symm dz) gz, hk _ _ q4 hT, q1, q2, q3, q4⟩
    · have iu : i < us.size := Nat.lt_of_lt_of_le hi (Nat.min_le_left ..)
      have iv : i < vs.size := Nat.lt_of_lt_of_le hi (Nat.min_le_right ..)
      have eu := Array.getElem?_eq_getElem iu
      have ev := Array.getElem?_eq_getElem iv
      have lt : ∀ {c o}, s₁.heap.get? c = some o → s₁.heap.objs.size ≠ c := fun e => Nat.ne_of_gt (Heap.lt_size e)
      have l1 : s₁.heap.objs.size ≠ j1 := let ⟨_, e, _⟩ := r1; lt e
      have l2 : s₁.heap.objs.size ≠ j2 := let ⟨_, e, _⟩ := r2; lt e
      rcases gz with ⟨gz, a, b, gto⟩ | ⟨T, f, oT, gz, hT, q1, q2, q3, q4⟩
      · refine RZ.pyNext_zipT_item D gz gti gto r1 r2 t1 t2 eu ev fun h' b1 b2 b3 b4 b5 b6 hk => ?_
        exact hQ s₁.heap.objs.size _ _ h' s₁.toks ⟨eu, ev⟩ (.inl ⟨_, b5, rfl, _, rfl⟩)
          ⟨hk _ _ D.TIz D.TITO D.TIi1 D.TIi2 gti, b3, b4, t1.at fun o e => hk _ o D.l1z D.l1TO D.l1i1 D.l1i2 e, t2.at fun o e => hk _ o D.l2z D.l2TO D.l2i1 D.l2i2 e, .inr ⟨s₁.heap.objs.size, false, _, b1, b5, lt gz, l1, l2, Nat.ne_of_gt hds⟩⟩
          fun c o hc e => hk c o (fun x => hc (by simp [x])) (fun x => hc (by simp [x])) (fun x => hc (by simp [x])) (fun x => hc (by simp [x])) e
      · refine zpy_held D gz hT gti r1 r2 t1 t2 eu ev fun h' b1 b3 b4 b5 b6 hk => ?_
        exact hQ s₁.heap.objs.size _ _ h' s₁.toks ⟨eu, ev⟩ (.inl ⟨_, b5, rfl, _, rfl⟩)
          ⟨hk _ _ D.TIz D.TIi1 D.TIi2 gti, b3, b4, t1.at fun o e => hk _ o D.l1z D.l1i1 D.l1i2 e, t2.at fun o e => hk _ o D.l2z D.l2i1 D.l2i2 e, .inr ⟨T, true, oT, b1, hk _ _ q1 q2 q3 hT, q1, q2, q3, q4⟩⟩
          fun c o hc e => hk c o (fun x => hc (by simp [x])) (fun x => hc (by simp [x])) (fun x => hc (by simp [x])) e
    · have en : us[min us.size vs.size]? = none ∨ vs[min us.size vs.size]? = none := by
        rcases Nat.le_total us.size vs.size with h | h
        · exact .inl (Array.getElem?_eq_none (by rw [Nat.min_eq_left h]; exact Nat.le_refl _))
        · exact .inr (Array.getElem?_eq_none (by rw [Nat.min_eq_right h]; exact Nat.le_refl _))
      rcases gz with ⟨gz, a, b, gto⟩ | ⟨T, f, oT, gz, hT, q1, q2, q3, q4⟩
      · exact RZ.pyNext_zipT_end hA D gz gti gto r1 r2 t1 t2 en fun h' hk => hQ h' s₁.toks fun c o hc e => hk c o (fun x => hc (by simp [x])) (fun x => hc (by simp [x])) (fun x => hc (by simp [x])) (fun x => hc (by simp [x])) e
      · exact zpy_end_held hA D gz hT gti r1 r2 t1 t2 en fun h' hk => hQ h' s₁.toks fun c o hc e => hk c o (fun x => hc (by simp [x])) (fun x => hc (by simp [x])) (fun x => hc (by simp [x])) e
end
end PD
end
section
set_option Elab.async false
set_option linter.all false
set_option maxRecDepth 100000
set_option maxHeartbeats 4000000
set_option autoImplicit false
namespace PD
open PySem PySem.Spec L2
open PyProof.Rows hiding St
/-! ### dict(zip(names, values)) -/
def tDz (K : PySem.W.Frag) (ta : TA) : TE := fun σ H Q => ta σ H fun vs H1 => ∃ (a b : Addr) (xs : List Str) (ys : List V), vs = [.ref a, .ref b] ∧ SqT K H1 a (xs.map V.str) ∧ SqT K H1 b ys ∧ xs.length = ys.length ∧
  ∀ p, H1 p = none → Q (.ref p) (upd H1 p (.dK (mergeK [] ((xs.map Sum.inr).zip ys))))
theorem kv_zip : ∀ {xs : List Str} {ys : List V} {us : List Value}, Vals ys us → KV ((xs.map (Sum.inr : Str → Key)).zip ys) ((xs.map (Sum.inr : Str → Key)).zip us)
  | [], _, _, _ => .nil
  | x :: xs, [], _, .nil => .nil
  | x :: xs, y :: ys, _, .cons r t => by
    show KV ((Sum.inr x, y) :: _) ((Sum.inr x, _) :: _)
    exact .cons ⟨rfl, r⟩ (kv_zip t)
theorem pe_dz {X : Cx} {e e2 : Expr} {ta : TA} {p zp q pos : Pos} (hc : X.calm = true) (hg : Gl X "dict") (hm : X.mg "dict" = none) (hg2 : Gl X "zip") (hm2 : X.mg "zip" = none) (ha : PA X [e, e2] ta)
    (hs : starEach [e, e2] X.env = (false, eval e X.env) :: starEach [e2] X.env := by rfl) (hpl : (backTo q (starEach [e2] X.env)).any (·.1) = false := by rfl)
    (hz : starEach [.Call (.Name "zip" zp) [e, e2] [] q] X.env = (false, eval (.Call (.Name "zip" zp) [e, e2] [] q) X.env) :: starEach [] X.env := by rfl) :
    PE X (.Call (.Name "dict" p) [.Call (.Name "zip" zp) [e, e2] [] q] [] pos) (tDz X.K ta) := by
  refine ⟨fun pins s σ H Q I h => ?_⟩
  refine Call_ (ld_blt I hg hm PyProof.Rows.boot_dict (PyProof.Rows.callWith_type1 (PyProof.Rows.args_cons ?_ hz) hz (by rfl)))
  refine Call_ (ld_blt I hg2 hm2 PyProof.Rows.boot_zip (PyProof.Rows.callWith_type1 (thn (ha.run q pins s σ H _ I h) fun us s1 ⟨vs, H1, I1, r1, q1⟩ => ?_) hs hpl))
  obtain ⟨a, b, xs, ys, ex, hx, hy, hl, qq⟩ := q1
  subst ex
  cases r1 with
  | cons r rr =>
    cases rr with
    | cons r' rr =>
      cases rr
      cases r
      cases r'
      obtain ⟨its, rv, t1, l1⟩ := I1.tuple hx
      obtain ⟨its2, rv2, t2, l2⟩ := I1.tuple hy
      obtain ⟨o1, ho1, _⟩ := id t1
      obtain ⟨o2, ho2, _⟩ := id t2
      refine RZ.call_zipT (show s1.heap.IsTuple a its.toArray from t1) (show s1.heap.IsTuple b its2.toArray from t2) fun h' gz gti gto i1 i2 hsz hk => PyProof.Rows.args_nil ?_
      have D := PySem.W.ktu_apart s1.heap.objs.size a b (Heap.lt_size ho1) (Heap.lt_size ho2)
      have g1 : h'.IsTuple a its.toArray := Heap.IsTuple.at (show s1.heap.IsTuple a its.toArray from t1) fun o x => hk _ o x
      have g2 : h'.IsTuple b its2.toArray := Heap.IsTuple.at (show s1.heap.IsTuple b its2.toArray from t2) fun o x => hk _ o x
      have n1 : its.length = xs.length := by rw [← rv.length, List.length_map]
      have n2 : its2.length = ys.length := rv2.length.symm
      have hmin : min its.toArray.size its2.toArray.size = xs.length := by
        rw [List.size_toArray, List.size_toArray, n1, n2, ← hl, Nat.min_self]
      have hkl : ((xs.map (Sum.inr : Str → Key)).zip its2).length = xs.length := by
        rw [List.length_zip, List.length_map, n2, ← hl, Nat.min_self]
      refine PySem.call_dict_pairs (s := { s1 with heap := h' }) (knd := mixKind X.prog X.w) (kvs := (xs.map (Sum.inr : Str → Key)).zip its2) (pairArg_zipT _ _ _ _ _ a b D its.toArray its2.toArray) (I1.ok.hd hc) ⟨gz, gti, ⟨_, _, gto⟩, i1, i2, g1, g2⟩ ⟨?_, ?_⟩ ?_ ?_
      · rw [hmin]; exact hkl
      · rintro i key v ⟨e1, e2⟩
        have e1 : its[i]? = some key := by simpa using e1
        have e2 : its2[i]? = some v := by simpa using e2
        have hi : i < xs.length := by rw [← n1]; exact (List.getElem?_eq_some_iff.mp e1).1
        obtain ⟨u, hu, t', hu'⟩ := rv.get (i := i) (x := .str xs[i]) (by simp [hi])
        rw [e1] at hu
        cases hu
        refine ⟨.inr xs[i], ?_, ?_⟩
        · rw [List.getElem?_zip_eq_some]
          exact ⟨by simp [hi], e2⟩
        · rw [hu']
          show (_ == _) = true
          exact beq_self_eq_true _
      · rw [hmin]
        rw [List.length_map] at l1
        exact l1
      · intro h2 tk dd kp
        have hold : ∀ c o, s1.heap.get? c = some o → h2.get? c = some o := fun c o e => by
          have hlt := Heap.lt_size e
          refine kp c o (fun hmem => ?_) (hk c o e)
          simp only [List.mem_cons, List.not_mem_nil, or_false] at hmem
          rcases hmem with q | q | q | q <;> subst q
          · exact absurd hlt (Nat.not_lt.mpr (Nat.le_add_right _ _))
          · exact absurd hlt (Nat.not_lt.mpr (Nat.le_add_right _ _))
          · exact absurd hlt (Nat.lt_irrefl _)
          · exact absurd hlt (Nat.not_lt.mpr (Nat.le_add_right _ _))
        have hlen : (mergeK [] ((xs.map (Sum.inr : Str → Key)).zip ys)).length ≤ sizeLine := by
          refine Nat.le_trans (length_mergeK _ _) ?_
          rw [List.length_zip, List.length_map, List.length_nil, Nat.zero_add, ← hl, Nat.min_self]
          rw [List.length_map] at l1
          exact l1
        have hge : s1.heap.objs.size ≤ h'.objs.size := by rw [hsz]; exact Nat.le_add_right _ _
        have hsys : (h'.objs.size == sysModules) = false := beq_eq_false_iff_ne.mpr (Nat.ne_of_gt (Nat.lt_of_lt_of_le I1.big hge))
        exact ⟨.ref h'.objs.size, _, I1.laid (t' := tk) (o := .dK (mergeK [] ((xs.map (Sum.inr : Str → Key)).zip ys))) hold hge (dk_new hlen hsys ((kv_zip rv2).merge .nil) dd), rfl, qq _ (I1.hok.fresh hge)⟩
end PD
end
section
set_option Elab.async false
set_option linter.all false
set_option maxRecDepth 100000
set_option maxHeartbeats 4000000
set_option autoImplicit false
namespace PD
open PySem PySem.Spec L2
open PyProof.Rows hiding St
def dzD (ds : List D) : Option (List Key × List D) := match ds with
  | [.tup l, .tup m] => if l.length = m.length then (strsD l).map fun xs => mergeD ([], []) (xs.map Sum.inr) m else none
  | _ => none
def eDz (fs : EA) : EK := fun ρ => mb (fs ρ) fun ds => ml (dzD ds)
@[simp] theorem eDz_ap (fs : EA) (ρ : Rho) (g : G) : eDz fs ρ g = (fs ρ g).bind fun p => (dzD p.1).map fun r => (r, p.2) := by simp [eDz]
section
variable {X : Cx} {a e e2 : Expr} {f fa : E} {fs : EA} {p q pos zp ap cp : Pos}
theorem pk_dz (hc : X.calm = true) (hm : X.mg "dict" = none) (hm2 : X.mg "zip" = none) (ha : PDA X [e, e2] fs) (hg : Gl X "dict" := by rfl) (hg2 : Gl X "zip" := by rfl)
    (hs : starEach [e, e2] X.env = (false, eval e X.env) :: starEach [e2] X.env := by rfl) (hpl : (backTo q (starEach [e2] X.env)).any (·.1) = false := by rfl)
    (hz : starEach [.Call (.Name "zip" zp) [e, e2] [] q] X.env = (false, eval (.Call (.Name "zip" zp) [e, e2] [] q) X.env) :: starEach [] X.env := by rfl) :
    PK X (.Call (.Name "dict" p) [.Call (.Name "zip" zp) [e, e2] [] q] [] pos) (eDz fs) := by
  obtain ⟨t, ht, k⟩ := ha
  refine ⟨_, pe_dz hc hg hm hg2 hm2 ht hs hpl hz, fun σ H F ρ g pre r g' ev Q qq => ?_⟩
  obtain ⟨ds, g1, e1, ev⟩ := mb_inv ev
  obtain ⟨e3, rfl⟩ := ml_inv ev
  refine k σ H F ρ g pre ds _ e1 _ fun vs H1 F1 s1 r1 => ?_
  unfold dzD at e3
  split at e3
  · rename_i l m
    split at e3
    · rename_i hl
      obtain ⟨xs, e4, rfl⟩ := Option.map_eq_some_iff.mp e3
      have el := strsD_ok e4
      subst el
      cases r1 with
      | cons ra rr =>
        cases rr with
        | cons rb rr =>
          cases rr
          obtain ⟨pa, us, rfl, k1, k2, k3⟩ := rp_tup ra
          obtain ⟨pb, ys, rfl, m1, m2, m3⟩ := rp_tup rb
          have eu := k3.strs
          subst eu
          have ly : xs.length = ys.length := by
            have := m3.length
            rw [List.length_map] at hl
            omega
          refine ⟨pa, pb, xs, ys, rfl, sqT_mono s1.sub k1, sqT_mono s1.sub m1, ly, fun w hw => ?_⟩
          have z1 : ((xs.map (Sum.inr : Str → Key)).zip ys).map (·.1) = xs.map Sum.inr := List.map_fst_zip (by simp [ly])
          have z2 : ((xs.map (Sum.inr : Str → Key)).zip ys).map (·.2) = ys := List.map_snd_zip (by simp [ly])
          obtain ⟨q1, q2⟩ := mergeD_ok (K := X.K) (F := F1) (kvs := []) (l := []) (more := (xs.map (Sum.inr : Str → Key)).zip ys) (m := m) List.nodup_nil .nil (by rw [z2]; exact m3)
          rw [z1] at q1 q2
          refine qq w _ F1 (mergeK [] ((xs.map (Sum.inr : Str → Key)).zip ys)) (s1.trans (.allocO s1.sub s1.rep hw)) (s1.mono _ hw) (s1.sub.free hw) (s1.rep.out hw) upd_same ?_ q1 (mergeD_nodup rfl List.nodup_nil) q2
          refine Nat.le_trans (length_mergeK _ _) ?_
          rw [List.length_zip, List.length_map, List.length_nil, ← ly, Nat.min_self, Nat.zero_add, ly]
          exact m2
    · cases e3
  · cases e3
/-! ### t.index(x) of a tuple of texts -/
def idxS (z : Str) : List Str → Option Nat
  | [] => none
  | x :: l => if x = z then some 0 else (idxS z l).map (· + 1)
theorem idxS_ok {z : Str} : ∀ {l : List Str} {j : Nat}, idxS z l = some j → l[j]? = some z ∧ ∀ m, m < j → l[m]? ≠ some z
  | [], j, h => by cases h
  | x :: l, j, h => by
    unfold idxS at h
    split at h
    · rename_i e
      cases h
      exact ⟨by rw [e]; rfl, fun m hm => absurd hm (Nat.not_lt_zero _)⟩
    · rename_i e
      obtain ⟨i, hi, rfl⟩ := Option.map_eq_some_iff.mp h
      obtain ⟨h1, h2⟩ := idxS_ok hi
      refine ⟨by simpa using h1, fun m hm => ?_⟩
      cases m with
      | zero => simpa using e
      | succ m => simpa using h2 m (by omega)
/-! ### tuples of texts of which all is known (D.tx) -/
def plD : D → D
  | .tx xs => .tup (xs.map .str)
  | d => d
@[simp] theorem plD_tx (xs : List Str) : plD (.tx xs) = .tup (xs.map .str) := rfl
@[simp] theorem plD_tup (l : List D) : plD (.tup l) = .tup l := rfl
@[simp] theorem plD_non : plD .non = .non := rfl
theorem tx_inv {K : PySem.W.Frag} {F : Fz} {v : V} {xs : List Str} (h : Rp K F v (.tx xs)) : ∃ a o, v = .ref a ∧ F.h a = some (.frz o (.tup (xs.map V.str))) ∧ o.cls = .type "tuple" ∧ o.dict = none ∧ xs.length ≤ sizeLine ∧ ∀ x ∈ xs, sOk x = true := by
  cases h with
  | tx h hc hd hz hs => exact ⟨_, _, rfl, h, hc, hd, hz, hs⟩
theorem rp_pl {K : PySem.W.Frag} {F : Fz} {v : V} {d : D} (h : Rp K F v d) : Rp K F v (plD d) := by
  cases d with
  | tx xs =>
    obtain ⟨a, o, rfl, h1, _, _, hz, hs⟩ := tx_inv h
    exact .tup (.inl (.inr ⟨o, h1⟩)) (by rw [List.length_map]; exact hz) (RpA.ofStrs xs hs)
  | _ => exact h
def ePl (f : E) : E := fun ρ => mb (f ρ) fun d => mr (plD d)
@[simp] theorem ePl_ap (f : E) (ρ : Rho) (g : G) : ePl f ρ g = (f ρ g).map fun p => (plD p.1, p.2) := by
  simp only [ePl, mb_ap, mr_ap]
  cases f ρ g <;> rfl
theorem pd_pl (h : PD X e f) : PD X e (ePl f) := by
  obtain ⟨t, ht, k⟩ := h
  refine ⟨t, ht, fun σ H F ρ g pre d g' ev Q q => ?_⟩
  obtain ⟨x, g1, e1, ev⟩ := mb_inv ev
  obtain ⟨rfl, rfl⟩ := mr_inv ev
  exact k σ H F ρ g pre x _ e1 _ fun v H1 F1 s1 r1 => q v H1 F1 s1 (rp_pl r1)
theorem ok_strs {K : PySem.W.Frag} {F : Fz} {vs : List V} {xs : List Str} (h : RpA K F vs (xs.map D.str)) : ∀ x ∈ xs, sOk x = true := fun x hx => by
  obtain ⟨i, hi⟩ := List.getElem?_of_mem hx
  obtain ⟨v, _, hv⟩ := h.get (i := i) (d := .str x) (by rw [List.getElem?_map, hi]; rfl)
  exact (rp_str hv).2
def tTupX (t : TA) : TE := fun σ H Q => t σ H fun xs H1 => xs.length ≤ sizeLine ∧ ∀ p o, H1 p = none → o.cls = .type "tuple" → o.dict = none → Q (.ref p) (upd H1 p (.frz o (.tup xs)))
theorem pe_tupX {es : List Expr} {t : TA} {x1 : Nat} (h : PA X es t) : PE X (.Tuple es x1 pos) (tTupX t) := by
  refine ⟨fun pins s σ H Q I hq => wpAny_Tuple_spliced (thn (h.run pos pins s σ H _ I hq) fun us s1 ⟨xs, H1, I1, r, z, q⟩ => ⟨by rw [← r.length]; exact z, ?_⟩)⟩
  refine ⟨.ref s1.heap.objs.size, _, I1.laid (t' := s1.toks) (o := .frz { cls := .type "tuple", data := .seq us.toArray } (.tup xs)) (fun b u e => Heap.get?_push_of_some _ e) (Nat.le_refl _) ?_, rfl, q _ _ (I1.hok.fresh (Nat.le_refl _)) rfl rfl⟩
  exact ⟨Heap.get?_push_size _ rfl, z, us, r, ⟨_, Heap.get?_push_size _ rfl, rfl, _, rfl⟩⟩
def txD (ds : List D) : Option D := (strsD ds).bind fun xs => if xs.length ≤ sizeLine then some (.tx xs) else none
def eTx (fs : EA) : E := fun ρ => mb (fs ρ) fun ds => ml (txD ds)
@[simp] theorem eTx_ap (fs : EA) (ρ : Rho) (g : G) : eTx fs ρ g = (fs ρ g).bind fun p => (txD p.1).map fun d => (d, p.2) := by simp [eTx]
theorem pd_tx {es : List Expr} {x1 : Nat} (h : PDA X es fs) : PD X (.Tuple es x1 pos) (eTx fs) := by
  obtain ⟨t, ht, k⟩ := h
  refine ⟨_, pe_tupX ht, fun σ H F ρ g pre d g' ev Q q => ?_⟩
  obtain ⟨ds, g1, e1, ev⟩ := mb_inv ev
  obtain ⟨e2, rfl⟩ := ml_inv ev
  obtain ⟨xs, e3, e4⟩ := Option.bind_eq_some_iff.mp e2
  split at e4
  · rename_i hz
    cases e4
    have el := strsD_ok e3
    subst el
    refine k σ H F ρ g pre _ _ e1 _ fun vs H1 F1 s1 r1 => ?_
    have ev := r1.strs
    have hs := ok_strs r1
    subst ev
    refine ⟨by rw [List.length_map]; exact hz, fun p o hp hc hd => ?_⟩
    exact q _ _ (F1.upd p (.frz o (.tup (xs.map V.str)))) (s1.trans (.alloc s1.sub s1.rep hp)) (.tx upd_same hc hd hz hs)
  · cases e4
def rCatX : R2 := fun x y H Q => ∃ (a b : Addr) (oa ob : Obj) (xs ys : List V), x = .ref a ∧ y = .ref b ∧ H a = some (.frz oa (.tup xs)) ∧ H b = some (.frz ob (.tup ys)) ∧ xs.length + ys.length ≤ sizeLine ∧
  (xs = [] → Q (.ref b) H) ∧ (xs ≠ [] → ys = [] → Q (.ref a) H) ∧ (xs ≠ [] → ys ≠ [] → ∀ p o, H p = none → o.cls = .type "tuple" → o.dict = none → Q (.ref p) (upd H p (.frz o (.tup (xs ++ ys)))))
theorem op_catX : OpR X (binaryOp .Add) rCatX := by
  intro pins s σ H x y v u Q I rx ry h
  obtain ⟨a, b, oa, ob, xs, ys, rfl, rfl, ha, hb, hz, q0, q1, q2⟩ := h
  cases rx
  cases ry
  obtain ⟨its, r1, p1, _⟩ := I.tuple (.inl (.inr ⟨oa, ha⟩))
  obtain ⟨its2, r2, p2, _⟩ := I.tuple (.inl (.inr ⟨ob, hb⟩))
  by_cases hx : xs = []
  · subst hx
    cases r1
    exact cat_tup0 p1 p2 ⟨.ref b, H, I, rfl, q0 rfl⟩
  · refine HT.cat_tup p1 p2 (fun z => hx (r1.nil_iff.mp z)) (fun z => ⟨.ref a, H, I, rfl, q1 hx (r2.nil_iff.mp z)⟩) (fun z => ?_) (by rw [← r1.length, ← r2.length]; exact hz)
    refine ⟨.ref s.heap.objs.size, _, I.laid (t' := s.toks) (o := .frz { cls := .type "tuple", data := .seq (its ++ its2).toArray } (.tup (xs ++ ys))) (fun b ob q => Heap.get?_push_of_some _ q) (Nat.le_refl _) ?_, rfl, q2 hx (fun w => z (r2.nil_iff.mpr w)) _ _ (I.hok.fresh (Nat.le_refl _)) rfl rfl⟩
    exact ⟨Heap.get?_push_size _ rfl, by rw [List.length_append]; exact hz, _, r1.append r2, IsTup.new _ _⟩
def catX : D → D → Option D
  | .tx xs, .tx ys => if xs.length + ys.length ≤ sizeLine then some (.tx (xs ++ ys)) else none
  | _, _ => none
theorem catX_ok {K : PySem.W.Frag} : OpD K rCatX catX := fun F H g x y dx dy d s gr rx ry e Q q => by
  unfold catX at e
  split at e
  · rename_i xs ys
    split at e
    · rename_i hz
      cases e
      obtain ⟨a, oa, rfl, h1, c1, d1, z1, s1⟩ := tx_inv rx
      obtain ⟨b, ob, rfl, h2, c2, d2, z2, s2⟩ := tx_inv ry
      refine ⟨a, b, oa, ob, xs.map V.str, ys.map V.str, rfl, rfl, s _ _ h1, s _ _ h2, by rw [List.length_map, List.length_map]; exact hz, fun h => ?_, fun _ h => ?_, fun _ _ p o hp hc hd => ?_⟩
      · have : xs = [] := by simpa using h
        subst this
        exact q _ H F (Stp.refl s gr) ry
      · have : ys = [] := by simpa using h
        subst this
        rw [List.append_nil] at q
        exact q _ H F (Stp.refl s gr) rx
      · have e : xs.map V.str ++ ys.map V.str = (xs ++ ys).map V.str := by simp
        rw [e]
        refine q _ _ (F.upd p (.frz o (.tup ((xs ++ ys).map V.str)))) (.alloc s gr hp) (.tx upd_same hc hd (by rw [List.length_append]; exact hz) fun x hx => ?_)
        rcases List.mem_append.mp hx with hx | hx
        · exact s1 x hx
        · exact s2 x hx
    · cases e
  · cases e
theorem pd_catX {a b : Expr} {fa fb : E} (ha : PD X a fa) (hb : PD X b fb) : PD X (.BinOp a .Add b pos) (eOp catX fa fb) := pd_op op_catX catX_ok ha hb
/-- a method of such a tuple -/
def tBMX (r : V → List V → Hp → VK → Prop) (to : TE) (t : TA) : TE := fun σ H Q => to σ H fun x H1 => (∃ (p : Addr) (o : Obj) (xs : List V), x = .ref p ∧ H1 p = some (.frz o (.tup xs)) ∧ o.cls = .type "tuple" ∧ o.dict = none) ∧ t σ H1 fun xs H2 => r x xs H2 Q
theorem pe_ixX {o : Expr} {to : TE} {t : TA} {r : V → List V → Hp → VK → Prop} (hm : MtR X "tuple.index" r) (ho : PE X o to) (ha : PA X [e] t)
    (hbase : attributeBase o "index" X.env (eval o X.env) = eval o X.env := by rfl)
    (hfew : ((backTo cp (starEach [e] X.env)).all (fun x => !x.1) && (backToKw cp (keywordEach [] X.env)).all (fun x => x.1.isSome)
      && decide ([e].length + ([] : List Keyword).length + (if ([] : List Keyword).isEmpty then 0 else 1) < 30)) = true := by rfl)
    (hline : (ap.endLine == cp.line) = true := by rfl) (hs : starEach [e] X.env = (false, eval e X.env) :: starEach [] X.env := by rfl) :
    PE X (.Call (.Attribute o "index" ap) [e] [] cp) (tBMX r to t) := by
  refine ⟨fun pins s σ H Q I h => wpAny_Call_method_late hbase hfew hline rfl (thn (ho.run pins s σ H _ I h) fun v s1 ⟨x, H1, I1, r1, ty, q1⟩ => ?_)⟩
  obtain ⟨p, ob, ys, rfl, hH, hc, hd⟩ := ty
  cases r1
  obtain ⟨hget, _⟩ := (show ObjOk X.prog X.w H1 s1.heap p (.frz ob (.tup ys)) from I1.hok p _ hH)
  refine ⟨"tuple", "tuple.index", PySem.F.plainAttrs_tuple, PySem.F.slot_tuple_index, PySem.F.type_tuple_index, ⟨ob, hget, hc⟩, fun a ea => ?_, ?_⟩
  · cases ea
    exact ⟨ob, hget, hd⟩
  · have hA := ha.run cp pins s1 σ H1 _ I1 q1
    rw [hs] at hA ⊢
    refine Calls.callWith_builtin (by rfl) (Calls.evalArgs_plain ?_)
    exact thn hA fun us s2 ⟨vs, H2, I2, r2, q2⟩ => hm pins s2 σ H2 (.ref p) vs (.ref p) us Q I2 rfl r2 q2
def indexTD (x y : D) : Option D := match x, y with
  | .tx xs, .str z => (idxS z xs).map fun n => D.int (Int.ofNat n)
  | _, _ => none
def eIndexT (a b : E) : E := fun ρ => mb (a ρ) fun x => mb (b ρ) fun y => ml (indexTD x y)
@[simp] theorem eIndexT_ap (a b : E) (ρ : Rho) (g : G) : eIndexT a b ρ g = (a ρ g).bind fun p => (b ρ p.2).bind fun q => (indexTD p.1 q.1).map fun d => (d, q.2) := by simp [eIndexT]
theorem pd_indexT (ha : PD X a fa) (he : PD X e f)
    (hbase : attributeBase a "index" X.env (eval a X.env) = eval a X.env := by rfl)
    (hfew : ((backTo cp (starEach [e] X.env)).all (fun x => !x.1) && (backToKw cp (keywordEach [] X.env)).all (fun x => x.1.isSome)
      && decide ([e].length + ([] : List Keyword).length + (if ([] : List Keyword).isEmpty then 0 else 1) < 30)) = true := by rfl)
    (hline : (ap.endLine == cp.line) = true := by rfl) (hs : starEach [e] X.env = (false, eval e X.env) :: starEach [] X.env := by rfl) :
    PD X (.Call (.Attribute a "index" ap) [e] [] cp) (eIndexT fa f) := by
  obtain ⟨ta, pa, ka⟩ := ha
  obtain ⟨tb, pb, kb⟩ := he
  refine ⟨_, pe_ixX mt_tup_index pa (pa_cons pb pa_nil hs) hbase hfew hline hs, fun σ H F ρ g pre d g' e Q q => ?_⟩
  obtain ⟨dx, g1, e1, e⟩ := mb_inv e
  obtain ⟨dy, g2, e2, e⟩ := mb_inv e
  obtain ⟨e3, rfl⟩ := ml_inv e
  refine ka σ H F ρ g pre dx g1 e1 _ fun x H1 F1 s1 r1 => ?_
  unfold indexTD at e3
  split at e3
  · rename_i xs z _
    obtain ⟨j, e6, rfl⟩ := Option.map_eq_some_iff.mp e3
    obtain ⟨p, o, rfl, k1, kc, kd, kz, ks⟩ := tx_inv r1
    obtain ⟨h1, h2⟩ := idxS_ok e6
    refine ⟨⟨p, o, _, rfl, s1.sub _ _ k1, kc, kd⟩, kb σ H1 F1 ρ g1 (pre.step s1) _ _ e2 _ fun y H2 F2 s2 r2 => ?_⟩
    rw [(rp_str r2).1]
    exact ⟨p, _, _, j, rfl, rfl, .inl (.inr ⟨o, s2.sub _ _ (s2.ext.h _ _ k1)⟩), h1, h2, q _ H2 F2 (s1.trans s2) (.int _)⟩
  · cases e3
/-! ### tuple(range(n)), list(range(n)) -/
def upD (d : D) : Option (List D) := match d with
  | .int n => if 0 ≤ n ∧ n ≤ 16777216 then some ((upto n).map .int) else none
  | _ => none
def eTupRg (f : E) : E := fun ρ => mb (f ρ) fun d => ml ((upD d).map .tup)
def aLstRg (f : E) : EA := fun ρ => mb (f ρ) fun d => ml (upD d)
@[simp] theorem eTupRg_ap (f : E) (ρ : Rho) (g : G) : eTupRg f ρ g = (f ρ g).bind fun p => ((upD p.1).map .tup).map fun d => (d, p.2) := by simp [eTupRg]
@[simp] theorem aLstRg_ap (f : E) (ρ : Rho) (g : G) : aLstRg f ρ g = (f ρ g).bind fun p => (upD p.1).map fun d => (d, p.2) := by simp [aLstRg]
theorem rgV_upto (n : Int) : rgV 0 n = (upto n).map V.int := by
  unfold rgV upto
  rw [List.map_map]
  simp only [Int.sub_zero, Function.comp_def, Int.zero_add]
theorem upD_inv {d : D} {l : List D} (h : upD d = some l) : ∃ n : Int, d = .int n ∧ 0 ≤ n ∧ n ≤ 16777216 ∧ l = (upto n).map .int := by
  unfold upD at h
  split at h
  · rename_i n
    split at h
    · rename_i hn
      cases h
      exact ⟨n, rfl, hn.1, hn.2, rfl⟩
    · cases h
  · cases h
theorem pd_tupRg (hc : X.calm = true) (hm : X.mg "tuple" = none) (hm2 : X.mg "range" = none) (he : PD X e f) (hg : Gl X "tuple" := by rfl) (hg2 : Gl X "range" := by rfl) (hs : starEach [e] X.env = (false, eval e X.env) :: starEach [] X.env := by rfl)
    (hz : starEach [.Call (.Name "range" zp) [e] [] q] X.env = (false, eval (.Call (.Name "range" zp) [e] [] q) X.env) :: starEach [] X.env := by rfl) :
    PD X (.Call (.Name "tuple" p) [.Call (.Name "range" zp) [e] [] q] [] pos) (eTupRg f) := by
  obtain ⟨t, ht, k⟩ := he
  refine ⟨_, pe_tupRg hc hg hm (prg_1 hg2 hm2 ht hs) hz, fun σ H F ρ g pre d g' ev Q qq => ?_⟩
  obtain ⟨x, g1, e1, ev⟩ := mb_inv ev
  obtain ⟨e3, rfl⟩ := ml_inv ev
  obtain ⟨l, e4, rfl⟩ := Option.map_eq_some_iff.mp e3
  obtain ⟨n, rfl, n0, n1, rfl⟩ := upD_inv e4
  refine k σ H F ρ g pre _ _ e1 _ fun v H1 F1 s1 r1 => ?_
  rw [rp_int r1]
  refine ⟨n, rfl, RgOk.of_le (Int.le_refl 0) n1 (by decide) n0, fun w hw => ?_⟩
  rw [rgV_upto]
  exact qq _ _ _ (s1.trans (.alloc s1.sub s1.rep hw)) (rp_new_tup (s1.sub.free hw) (by rw [List.length_map, upto_len, sizeLine_eq]; omega) (RpA.ofInts _))
theorem po_lstRg (hc : X.calm = true) (hm : X.mg "list" = none) (hm2 : X.mg "range" = none) (he : PD X e f) (hg : Gl X "list" := by rfl) (hg2 : Gl X "range" := by rfl) (hs : starEach [e] X.env = (false, eval e X.env) :: starEach [] X.env := by rfl)
    (hz : starEach [.Call (.Name "range" zp) [e] [] q] X.env = (false, eval (.Call (.Name "range" zp) [e] [] q) X.env) :: starEach [] X.env := by rfl) :
    PO X (.Call (.Name "list" p) [.Call (.Name "range" zp) [e] [] q] [] pos) (aLstRg f) := by
  obtain ⟨t, ht, k⟩ := he
  refine ⟨_, pe_listRg hc hg hm (prg_1 hg2 hm2 ht hs) hz, fun σ H F ρ g pre d g' ev Q qq => ?_⟩
  obtain ⟨x, g1, e1, ev⟩ := mb_inv ev
  obtain ⟨e4, rfl⟩ := ml_inv ev
  obtain ⟨n, rfl, n0, n1, rfl⟩ := upD_inv e4
  refine k σ H F ρ g pre _ _ e1 _ fun v H1 F1 s1 r1 => ?_
  rw [rp_int r1]
  refine ⟨n, rfl, RgOk.of_le (Int.le_refl 0) n1 (by decide) n0, fun w hw => ?_⟩
  rw [rgV_upto]
  exact qq w _ F1 _ (s1.trans (.allocO s1.sub s1.rep hw)) (s1.mono _ hw) (s1.sub.free hw) (s1.rep.out hw) upd_same (by rw [List.length_map, upto_len, sizeLine_eq]; omega) (RpA.ofInts _)
end
end PD
end
section
set_option Elab.async false
set_option linter.all false
set_option maxRecDepth 100000
set_option maxHeartbeats 4000000
set_option autoImplicit false
namespace PD
open PySem PySem.Spec L2
open PyProof.Rows hiding St
/-- a loop's body goes on, and then J, or returns -/
def GoesE (J : Rho → G → Prop) (Q : Fl → G → Prop) : Fl → G → Prop
  | .nx ρ, g => J ρ g
  | .ct ρ, g => J ρ g
  | .rt d, g => Q (.rt d) g
  | .bk ρ, g => Q (.nx ρ) g
  | .xc nm f d ρ, g => Q (.xc nm f d ρ) g
@[simp] theorem goesE_nx (J : Rho → G → Prop) (Q : Fl → G → Prop) (ρ : Rho) (g : G) : GoesE J Q (.nx ρ) g ↔ J ρ g := Iff.rfl
@[simp] theorem goesE_rt (J : Rho → G → Prop) (Q : Fl → G → Prop) (d : D) (g : G) : GoesE J Q (.rt d) g ↔ Q (.rt d) g := Iff.rfl
theorem wp_forE {α : Type} {f : α → D} {bd : B} {b : S} {Q : Fl → G → Prop} (xs : List α) (I : List α → Rho → G → Prop) {ρ : Rho} {g : G} (h0 : I [] ρ g)
    (hs : ∀ (done : List α) (x : α) (todo : List α) (ρ : Rho) (g : G), xs = done ++ x :: todo → I done ρ g → ∃ ρ1, bd (f x) ρ = some ρ1 ∧ Wp (b ρ1 g) (GoesE (I (done ++ [x])) Q))
    (hQ : ∀ (ρ : Rho) (g : G), I xs ρ g → Q (.nx ρ) g) : Wp (forL bd b (xs.map f) ρ g) Q := by
  have key : ∀ (todo done : List α) (ρ : Rho) (g : G), xs = done ++ todo → I done ρ g → Wp (forL bd b (todo.map f) ρ g) Q := by
    intro todo
    induction todo with
    | nil =>
      intro done ρ g e h
      rw [List.append_nil] at e
      subst e
      exact ⟨_, _, rfl, hQ _ _ h⟩
    | cons x todo ih =>
      intro done ρ g e h
      obtain ⟨ρ1, e1, fl, g', e2, h2⟩ := hs done x todo ρ g e h
      rw [List.map_cons, forL_cons, e1]
      simp only [Option.bind_some, e2]
      cases fl with
      | nx ρ' => exact ih (done ++ [x]) ρ' g' (by rw [e]; simp) h2
      | ct ρ' => exact ih (done ++ [x]) ρ' g' (by rw [e]; simp) h2
      | rt d => exact ⟨_, _, rfl, h2⟩
      | bk ρ' => exact ⟨_, _, rfl, h2⟩
      | xc nm f d ρ' => exact ⟨_, _, rfl, h2⟩
  exact key xs [] ρ g rfl h0
theorem find_at {α : Type} {p : α → Bool} {xs done todo : List α} {x : α} (e : xs = done ++ x :: todo) (h : ∀ y ∈ done, p y = false) (hx : p x = true) : xs.find? p = some x := by
  have : done.find? p = none := List.find?_eq_none.mpr fun y hy => by rw [h y hy]; simp
  rw [e, List.find?_append, this, List.find?_cons, hx]
  rfl
theorem find_no {α : Type} {p : α → Bool} {xs : List α} (h : ∀ y ∈ xs, p y = false) : xs.find? p = none := List.find?_eq_none.mpr fun y hy => by rw [h y hy]; simp
theorem neS_self (x : Str) : neD (.str x) (.str x) = some false := neD_self (d := .non) x
theorem eqS_self (x : Str) : eqD (.str x) (.str x) = some true := by
  rw [eqD_of rfl rfl, eqq_str]
  simp
end PD
end
section
set_option Elab.async false
set_option linter.all false
set_option maxRecDepth 100000
set_option maxHeartbeats 4000000
set_option autoImplicit false
/-! ### set(xs) of a list or tuple of ints; sorted of it -/
namespace PD
open PySem PySem.Spec L2
open PyProof.Rows hiding St
section
variable {P : Program} {w : World} {A : Around} {E : Value → Shared → Prop} {s : Shared}
abbrev nso (w : World) : Obj := { cls := .type "set", dict := none, data := .set #[] 0 (.fresh 0 0 (!w.params.followText "set-order")) }
theorem call_set_lstI {lx : Addr} {vs : Array Value} (ns : List Int) {Q : Value → Shared → Prop} (hh : A.handled = none) (gl : s.heap.IsList lx vs) (gi : IntsAre vs.toList ns) (gb : ns.length + 1 < scanBound)
    (hq : ∀ (h' : Heap) (tk c : Nat), SetR w h' s.heap.objs.size (fun j => decide (j ∈ ns)) c → c ≤ ns.length → (∀ b o, s.heap.get? b = some o → h'.get? b = some o) → Q (.ref s.heap.objs.size) { s with heap := h', toks := tk }) :
    wpAny (model P w) A (call (.type "set") [.ref lx]) Q E s := by
  have ez : vs.size = ns.length := by have q := IntsAre.length gi; rwa [Array.length_toList] at q
  obtain ⟨c0, t0, m0⟩ := F.called_set.mro; have m1 := F.called_set.made; have m2 := F.called_set.sub
  refine wpAny_call (codeAny_of_tree ?_); show wpAny _ _ (callAny (.type "set") _) _ _ _
  refine wpAny_pure ⟨Code.quiet_builtin _ (by decide +kernel), codeAny_builtin F.entry_type_call ?_⟩; rw [Around.under_plain (weight_type_call_type "set" [.ref lx] []) rfl]
  have m3 := F.called_set.notType; have m4 := F.called_set.canCreate; have m5 := F.typeCall_set_1 (.ref lx)
  repeat (any_goals (first | assumption | wp_step))
  refine codeAny_mono (code_set_led1 (.ref lx) (E := E) (Q₁ := fun obj u => obj = .ref s.heap.objs.size ∧ u = { s with heap := s.heap.push (nso w) }) ⟨rfl, rfl⟩) fun r u hr => ?_
  cases r with
  | error e => exact hr
  | ok fl =>
    cases fl with
    | ret obj =>
      obtain ⟨rfl, rfl⟩ := hr
      have gS : (s.heap.push (nso w)).get? s.heap.objs.size = some (nso w) := Heap.get?_push_size _ rfl
      have gT : Shared.TypeIs { s with heap := s.heap.push (nso w) } (.ref s.heap.objs.size) "set" := ⟨_, gS, rfl⟩
      have m6 := F.called_set.init.lookup; have m7 := F.called_set.init.bind (.ref s.heap.objs.size)
      repeat (any_goals (first | assumption | wp_step))
      refine codeAny_mono (codeAny_call_builtin (R := wants (fun r u => r = .none ∧ ∃ h' tk c, u = { s with heap := h', toks := tk } ∧ SetR w h' s.heap.objs.size (fun j => decide (j ∈ ns)) c ∧ c ≤ ns.length ∧ (∀ b o, s.heap.get? b = some o → h'.get? b = some o)) E) F.called_set.init.plain F.entry_set_init (check_set_init_1 gT ?_)) fun r2 u2 hr2 => ?_
      · obtain ⟨⟨kc, kd, kt, ks⟩, go, hc, nl, hd⟩ := gl
        simp only at hc hd
        subst hc hd
        have go' : (s.heap.push (nso w)).get? lx = some { cls := .type "list", dict := kd, data := .seq vs nl, slots := ks } := Heap.get?_push_of_some _ go
        have n1 := F.sub_list_set; have n2 := F.sub_list_frozenset; have n3 : (Value.type "list" == Value.type "dict") = false := by decide
        have gl1 : (s.heap.push (nso w)).IsList lx vs := ⟨_, go', rfl, nl, rfl⟩
        unfold Builtin.«set.__init__» noKeywords Builtin.Frozenset.updateFrom
        generalize eP : pyIter = PI
        wp_walk
        subst eP
        refine wpAny_pyIter_list gl1 (wpAny_bind (wpAny_runValue ?_))
        have lt : lx < s.heap.objs.size := Heap.lt_size go
        have hh3 : A.in1.in1.in1.handled = none := by simp [hh]
        have ne1 : lx ≠ (s.heap.push (nso w)).objs.size := by rw [Heap.size_push]; exact Nat.ne_of_lt (Nat.lt_succ_of_lt lt)
        have nf : s.heap.objs.size ∉ [(s.heap.push (nso w)).objs.size, lx] := by
          rw [Heap.size_push]
          simp only [List.mem_cons, List.mem_singleton, List.not_mem_nil, or_false, not_or]; exact ⟨Nat.ne_of_lt (Nat.lt_succ_self _), Nat.ne_of_gt lt⟩
        have vl : ∀ (i : Nat) (v : Value), vs[i]? = some v → ∃ k t, ns[i]? = some k ∧ v = .int k t := fun i v hv => by
          have hi : i < ns.length := by rw [← ez]; exact (Array.getElem?_eq_some_iff.mp hv).1
          obtain ⟨t, e⟩ := PyProof.Rows.IntsAre.int_at gi i v (by rw [Array.getElem?_toList]; exact hv)
          exact ⟨ns[i], t, List.getElem?_eq_getElem hi, by rw [e, List.getD_eq_getElem?_getD, List.getElem?_eq_getElem hi] <;> rfl⟩
        refine set_update_ints ((Walks.list hh3 _ lx ne1 vs).toS) s.heap.objs.size nf ns ez gb vl (vs.size - 0) 0 _ (by omega) (Nat.zero_le _) ⟨⟨_, Heap.get?_push_size _ rfl, rfl, rfl⟩, (gl1.push _)⟩ ?c1 ?c2
        case c1 =>
          have gg : ((s.heap.push (nso w)).push { cls := .type "list_iterator", data := .fields #[.ref lx, .int 0 0] }).get? s.heap.objs.size = some (nso w) := Heap.get?_push_of_some _ gS
          exact ⟨0, Nat.le_refl 0, setR_new_at gg⟩
        case c2 =>
          intro s' c' hm hc' hS'
          obtain ⟨h', g2, d', tk', os'⟩ := s'
          obtain rfl : g2 = s.gens := hm.gens
          obtain rfl : d' = s.drawn := hm.drawn
          obtain rfl : os' = s.os := hm.os
          show wpAny _ _ _ _ _ _
          refine wpAny_pure ?_; show wpAny _ _ (ret Value.none) _ _ _
          rw [ez] at hc'
          refine wpAny_pure ⟨rfl, h', tk', c', rfl, hS', hc', fun b o e => ?_⟩
          have b0 : b < s.heap.objs.size := Heap.lt_size e
          refine hm.heap b o ?_ (Heap.get?_push_of_some _ (Heap.get?_push_of_some _ e))
          simp only [List.mem_cons, List.mem_singleton, List.not_mem_nil, or_false, not_or]; exact ⟨Nat.ne_of_lt b0, by rw [Heap.size_push]; exact Nat.ne_of_lt (Nat.lt_succ_of_lt b0)⟩
      · cases r2 with
        | error e => exact hr2
        | ok fl2 =>
          cases fl2 with
          | ret r =>
            obtain ⟨rfl, h', tk, c', rfl, hS', hc', hk'⟩ := hr2
            repeat (any_goals (first | assumption | wp_step))
            exact hq _ _ _ hS' hc' hk'
          | _ => exact hr2.elim
    | _ => exact hr.elim
end
section
variable {X : Cx} {e : Expr} {f : E} {p pos : Pos}
def rSetI (K : PySem.W.Frag) (w : World) : List V → Hp → VK → Prop := fun xs H Q => ∃ (l : Addr) (ns : List Int), xs = [V.ref l] ∧ (SqL K H l (ns.map V.int) ∨ SqT K H l (ns.map V.int)) ∧ ns.length < 64 ∧
  ∀ a c, H a = none → c ≤ ns.length → Q (.ref a) (upd H a (SetO w a (fun j => decide (j ∈ ns)) c))
theorem cr_setI (hc : X.calm = true) : CallR X (.type "set") (rSetI X.K X.w) := by
  intro pins s σ H xs us Q I r h
  obtain ⟨l, ns, rfl, hl, hf, q⟩ := h
  rw [Vals.ref1 r]
  have hn : H s.heap.objs.size = none := I.hok.fresh (Nat.le_refl _)
  have fin : ∀ (h' : Heap) (tk c : Nat), SetR X.w h' s.heap.objs.size (fun j => decide (j ∈ ns)) c → c ≤ ns.length → (∀ b o, s.heap.get? b = some o → h'.get? b = some o) → EP X pins σ Q (.ref s.heap.objs.size) { s with heap := h', toks := tk } := fun h' tk c R hcl k =>
    ⟨.ref s.heap.objs.size, upd H s.heap.objs.size (SetO X.w s.heap.objs.size (fun j => decide (j ∈ ns)) c), I.laid (t' := tk) k (Nat.le_refl _) (setO_new R), rfl, q _ c hn hcl⟩
  have gb : ns.length + 1 < scanBound := by unfold scanBound; omega
  rcases hl with hl | hl
  · obtain ⟨its, rv, pl, _⟩ := I.list hl
    exact call_set_lstI ns (I.ok.hd hc) pl.isList (by simpa using RZ.intsAre_vals rv) gb fin
  · obtain ⟨its, rv, pl, _⟩ := I.tuple hl
    exact call_set_tupI ns (I.ok.hd hc) pl (by simpa using RZ.intsAre_vals rv) gb fin
def setD (d : D) : Option (List Int) := match d with
  | .lst l => (tupInts l).bind fun ns => if ns.length < 64 then some ns else none
  | .tup l => (tupInts l).bind fun ns => if ns.length < 64 then some ns else none
  | _ => none
def sSetI (f : E) : ES := fun ρ => mb (f ρ) fun d => ml (setD d)
@[simp] theorem sSetI_ap (f : E) (ρ : Rho) (g : G) : sSetI f ρ g = (f ρ g).bind fun p => (setD p.1).map fun ns => (ns, p.2) := by simp [sSetI]
theorem pst_set (hc : X.calm = true) (hm : X.mg "set" = none) (he : PD X e f) (hg : Gl X "set" := by rfl) (hs : starEach [e] X.env = (false, eval e X.env) :: starEach [] X.env := by rfl) : PSt X (.Call (.Name "set" p) [e] [] pos) (sSetI f) := by
  obtain ⟨t, ht, k⟩ := he
  refine ⟨_, pe_callTy (cr_setI hc) hg hm (by decide +kernel) (pa_cons ht pa_nil hs) (by decide) (by decide) hs (by rfl), fun σ H F ρ g pre ns g' ev Q q => ?_⟩
  obtain ⟨d, g1, e1, ev⟩ := mb_inv ev
  obtain ⟨e2, rfl⟩ := ml_inv ev
  refine k σ H F ρ g pre d _ e1 _ fun v H1 F1 s1 r1 => ?_
  have fin : ∀ {l : Addr}, (SqL X.K H1 l (ns.map V.int) ∨ SqT X.K H1 l (ns.map V.int)) → ns.length < 64 → v = .ref l → rSetI X.K X.w [v] H1 Q := fun {l} hl hf ev => by
    subst ev
    refine ⟨l, ns, rfl, hl, hf, fun a c ha hcl => ?_⟩
    exact q a _ F1 _ _ (s1.trans (.allocO s1.sub s1.rep ha)) (s1.mono _ ha) (s1.sub.free ha) (s1.rep.out ha) upd_same (fun k => by simp) hcl
  unfold setD at e2
  split at e2
  · obtain ⟨ms, e3, e4⟩ := Option.bind_eq_some_iff.mp e2
    split at e4
    · rename_i hz
      cases e4
      have el := tupInts_ok e3
      subst el
      obtain ⟨a, xs, rfl, h1, h2, h3⟩ := rp_lst r1
      have ex := h3.ints
      subst ex
      exact fin (.inl (sqL_mono s1.sub h1)) hz rfl
    · cases e4
  · obtain ⟨ms, e3, e4⟩ := Option.bind_eq_some_iff.mp e2
    split at e4
    · rename_i hz
      cases e4
      have el := tupInts_ok e3
      subst el
      obtain ⟨a, xs, rfl, h1, h2, h3⟩ := rp_tup r1
      have ex := h3.ints
      subst ex
      exact fin (.inr (sqT_mono s1.sub h1)) hz rfl
    · cases e4
  · cases e2
end
end PD
end
section
set_option Elab.async false
set_option linter.all false
set_option maxRecDepth 100000
set_option maxHeartbeats 4000000
set_option autoImplicit false
namespace PD
open PySem PySem.Spec L2
open PyProof.Rows hiding St
/-! ### y = [.. for .. for ..], y a list of one's own -/
section
variable {X : Cx} {elt tg iter tg1 iter1 : Expr} {ifs ifs1 : List Expr} {scope : Scope} {it it1 : EA} {bd bd1 : B} {t t1 : T} {f : E} {sl sl1 : List Nat} {pos : Pos}
theorem pds_ownLc2 (i : Nat) {y : Str} {py lpos : Pos} (own : List (Str × Nat)) (vs1 : List Nat) (hc : X.calm = true) (hN : X.N.Nodup) (hi : PBI X tg iter it) (ok : BlkOk X.N X.env.scope scope own)
    (hg : ∀ (s : Shared) (H : Hp) (C : Addr) (cl : List (Str × Addr)) (fp : List Addr), PDG (X.blk s H scope (compEnvC scope cl C X.env) fp) tg sl bd) (ht : ∀ (s : Shared) (H : Hp) (C : Addr) (cl : List (Str × Addr)) (fp : List Addr), PDTs (X.blk s H scope (compEnvC scope cl C X.env) fp) ifs t)
    (hi1 : ∀ (s : Shared) (H : Hp) (C : Addr) (cl : List (Str × Addr)) (fp : List Addr), PDI (X.blk s H scope (compEnvC scope cl C X.env) fp) tg1 iter1 it1)
    (hg1 : ∀ (s : Shared) (H : Hp) (C : Addr) (cl : List (Str × Addr)) (fp : List Addr), PDG (X.blk s H scope (compEnvC scope cl C X.env) fp) tg1 sl1 bd1) (ht1 : ∀ (s : Shared) (H : Hp) (C : Addr) (cl : List (Str × Addr)) (fp : List Addr), PDTs (X.blk s H scope (compEnvC scope cl C X.env) fp) ifs1 t1)
    (he : ∀ (s : Shared) (H : Hp) (C : Addr) (cl : List (Str × Addr)) (fp : List Addr), PD (X.blk s H scope (compEnvC scope cl C X.env) fp) elt f)
    (hsw : swapsWith (.ListComp elt [⟨tg, iter, ifs, 0⟩, ⟨tg1, iter1, ifs1, 0⟩] scope lpos) (some (.Name y py)) pos.line X.env = pure true)
    (hsl : ∀ i ∈ sl, i ∈ own.map (·.2) := by decide) (hsl1 : ∀ i ∈ sl1, i ∈ vs1 := by decide) (hv : ∀ i ∈ vs1, i ∈ own.map (·.2) := by decide) (hs : ∀ x, foldedSetIterable iter X.env x = pure x := by intro _; rfl) (hs1 : ∀ env x, foldedSetIterable iter1 env x = pure x := by intro _ _; rfl)
    (hy : X.N[i]? = some y := by rfl) (hyl : X.env.scope.names.lookup y = some .local := by rfl) :
    PDS X (.Assign [.Name y py] (.ListComp elt [⟨tg, iter, ifs, 0⟩, ⟨tg1, iter1, ifs1, 0⟩] scope lpos) pos) (sOwn i (eLc2A (own.map (·.2)) vs1 it bd t it1 bd1 t1 f)) := by
  obtain ⟨wi, hw, kI⟩ := hi
  refine ⟨_, ps_setLc2 (g := gB X.K sl bd) (tt := tTT X.K t) (wi1 := tIF X.K it1) (g1 := gB X.K sl1 bd1) (tt1 := tTT X.K t1) (te := tD X.K f) hc hN hy hyl hsw hw ok hv (fun s H C cl fp => (hg s H C cl fp).can) ht (fun s H C cl fp => (hi1 s H C cl fp).can) (fun s H C cl fp => (hg1 s H C cl fp).can) ht1 (fun s H C cl fp => (he s H C cl fp).can) hs hs1, fun en σ H F ρ g pre fl g' e De post => ?_⟩
  obtain ⟨ds, g1, e1, e⟩ := mb_inv e
  obtain ⟨rfl, rfl⟩ := mr_inv e
  refine lc2_sem kI hsl hsl1 pre.e e1 fun q H1 F1 vs s1 hq hF hg hH hz r => ?_
  refine post _ H1 F1 ((pre.step s1).own rfl ⟨q, vs, rfl, hF, hg, hH, hz, r⟩ (fun j z => ?_) (pre.st.mono q hq))
  obtain ⟨o, ho⟩ := pre.e.own_some z
  rw [hq] at ho; cases ho
end
/-! ### xs[::k], k from 1 on -/
def stepL {α : Type} (k : Int) (l : List α) : List α := (sliceRange 0 l.length k).filterMap (l[·]?)
theorem vals_pick {xs : List V} {us : List Value} (r : Vals xs us) : ∀ ms : List Nat, Vals (ms.filterMap (xs[·]?)) (ms.filterMap (us[·]?))
  | [] => .nil
  | m :: ms => by
    have ih := vals_pick r ms
    cases h : xs[m]? with
    | none =>
      have : us[m]? = none := by
        rw [List.getElem?_eq_none_iff] at h ⊢
        rw [← r.length]
        exact h
      rw [List.filterMap_cons_none h, List.filterMap_cons_none this]
      exact ih
    | some x =>
      obtain ⟨u, hu, ru⟩ := r.get h
      rw [List.filterMap_cons_some h, List.filterMap_cons_some hu]
      exact .cons ru ih
theorem rpA_pick {K : PySem.W.Frag} {F : Fz} {vs : List V} {ds : List D} (r : RpA K F vs ds) : ∀ ms : List Nat, RpA K F (ms.filterMap (vs[·]?)) (ms.filterMap (ds[·]?))
  | [] => .nil
  | m :: ms => by
    have ih := rpA_pick r ms
    cases h : ds[m]? with
    | none =>
      have : vs[m]? = none := by
        rw [List.getElem?_eq_none_iff] at h ⊢
        rw [r.length]
        exact h
      rw [List.filterMap_cons_none h, List.filterMap_cons_none this]
      exact ih
    | some x =>
      obtain ⟨u, hu, ru⟩ := r.get h
      rw [List.filterMap_cons_some h, List.filterMap_cons_some hu]
      exact .cons ru ih
theorem stepL_le {α : Type} {k : Int} (hk : 1 ≤ k) (l : List α) : (stepL k l).length ≤ l.length := by
  unfold stepL
  refine Nat.le_trans (List.length_filterMap_le _ _) ?_
  exact sliceRange_length_le 0 l.length k l.length (fun _ => ⟨Int.le_refl 0, Int.le_refl _⟩) fun h => absurd (by omega) h
theorem stepL_mem {α : Type} {k : Int} {l : List α} {x : α} (h : x ∈ stepL k l) : x ∈ l := by
  obtain ⟨m, _, hm⟩ := List.mem_filterMap.mp h
  exact List.mem_of_getElem? hm
theorem stepL_map {α β : Type} (f : α → β) (k : Int) (l : List α) : stepL k (l.map f) = (stepL k l).map f := by
  unfold stepL
  rw [List.length_map, List.map_filterMap]
  congr 1
  funext m
  rw [List.getElem?_map]
def tStepL (K : PySem.W.Frag) (te ts : TE) : TE := fun σ H Q => te σ H fun x H1 => ts σ H1 fun y H2 => ∃ a xs k, x = .ref a ∧ y = .int k ∧ 1 ≤ k ∧ SqL K H2 a xs ∧ ∀ p, H2 p = none → Q (.ref p) (upd H2 p (.lst (stepL k xs)))
theorem pe_stepL {X : Cx} {e st : Expr} {te ts : TE} {p3 pos : Pos} (he : PE X e te) (hst : PE X st ts) : PE X (.Subscript e (.Slice none none (some st) p3) pos) (tStepL X.K te ts) := by
  refine ⟨fun pins s σ H Q I h => Subscript_ (thn (he.run pins s σ H _ I h) fun v s1 ⟨x, H1, I1, r1, q1⟩ => ?_)⟩
  refine wpAny_Slice (thn (po_none.run pins s1 σ H1 (fun o H2 => o = none ∧ H2 = H1) I1 ⟨rfl, rfl⟩) fun vl s2 ⟨l, H2, I2, pl, el, e2⟩ => ?_)
  subst el e2
  refine thn (po_none.run pins s2 σ H2 (fun o H3 => o = none ∧ H3 = H2) I2 ⟨rfl, rfl⟩) fun vu s3 ⟨u, H3, I3, pu, eu, e3⟩ => ?_
  subst eu e3
  rw [evalPart_some]
  refine thn (hst.run pins s3 σ H3 _ I3 q1) fun vs s4 ⟨y, H4, I4, r4, q4⟩ => ?_
  obtain ⟨a, xs, k, ex, ey, hk, hx, q⟩ := q4
  subst ex ey
  cases r1
  obtain ⟨tk, rfl⟩ := r4
  have I5 : Inv X pins σ H4 { s4 with heap := s4.heap.push { cls := .type "slice", data := .fields #[vl, vu, .int k tk] } } := I4.kept (t' := s4.toks) fun b ob q => Heap.get?_push_of_some _ q
  obtain ⟨its, r, ht, hz⟩ := I5.list hx
  show wpAny (model X.prog X.w) X.A (subscriptTail e (.Slice none none (some st) p3) (.ref a) (.ref s4.heap.objs.size)) (EP X pins σ Q) X.xe { s4 with heap := s4.heap.push { cls := .type "slice", data := .fields #[vl, vu, .int k tk] } }
  refine tail_any (ops := [.ref a, .ref s4.heap.objs.size]) ht.isList.typeIs (PySem.slot_list_getitem.lookup) ?_ (by with_unfolding_all rfl)
  refine wpAny_getItem_list_slice ht.isList (Heap.IsSliceOf.new _ vl vu (.int k tk)) pl pu (.int k tk) (by simp; omega) ?_ (by rw [List.size_toArray, ← r.length]; exact hz)
  have ep : slicePick its.toArray none none (some k) = (stepL k its).toArray := by
    have e0 : sliceBounds none none (some k) its.toArray.size = (0, (its.length : Int), k) := by
      unfold sliceBounds
      have hk2 : k > 0 := by omega
      simp [hk2]
    unfold slicePick stepL
    rw [e0]
    simp
  rw [ep]
  have hl : (stepL k xs).length ≤ sizeLine := Nat.le_trans (stepL_le hk xs) hz
  have rv : Vals (stepL k xs) (stepL k its) := by
    unfold stepL
    rw [r.length]
    exact vals_pick r _
  refine ⟨.ref _, _, I5.laid (t' := s4.toks) (o := .lst (stepL k xs)) (fun b ob q => Heap.get?_push_of_some _ q) (Nat.le_refl _) ?_, rfl, q _ (I5.hok.fresh (Nat.le_refl _))⟩
  exact ⟨hl, _, 0, rv, Heap.get?_push_size _ rfl⟩
def stepD (x y : D) : Option (List D) := match x, y with
  | .lst l, .int k => if 1 ≤ k then some (stepL k l) else none
  | _, _ => none
def aStep (f fs : E) : EA := fun ρ => mb (f ρ) fun x => mb (fs ρ) fun y => ml (stepD x y)
@[simp] theorem aStep_ap (f fs : E) (ρ : Rho) (g : G) : aStep f fs ρ g = (f ρ g).bind fun p => (fs ρ p.2).bind fun q => (stepD p.1 q.1).map fun d => (d, q.2) := by simp [aStep]
theorem po_step {X : Cx} {e st : Expr} {f fs : E} {p3 pos : Pos} (he : PD X e f) (hst : PD X st fs) : PO X (.Subscript e (.Slice none none (some st) p3) pos) (aStep f fs) := by
  obtain ⟨t, ht, k⟩ := he
  obtain ⟨t2, ht2, k2⟩ := hst
  refine ⟨_, pe_stepL ht ht2, fun σ H F ρ g pre d g' ev Q qq => ?_⟩
  obtain ⟨x, g1, e1, ev⟩ := mb_inv ev
  obtain ⟨y, g2, e2, ev⟩ := mb_inv ev
  obtain ⟨e3, rfl⟩ := ml_inv ev
  unfold stepD at e3
  split at e3
  · rename_i l n
    split at e3
    · rename_i hn
      cases e3
      refine k σ H F ρ g pre _ _ e1 _ fun v H1 F1 s1 r1 => ?_
      refine k2 σ H1 F1 ρ g1 (pre.step s1) _ _ e2 _ fun u H2 F2 s2 r2 => ?_
      obtain ⟨a, xs, rfl, h1, h2, h3⟩ := rp_lst r1
      rw [rp_int r2]
      refine ⟨a, xs, _, rfl, rfl, hn, sqL_mono s2.sub (sqL_mono s2.ext.h h1), fun w hw => ?_⟩
      have s := s1.trans s2
      refine qq w _ F2 _ (s.trans (.allocO s2.sub s2.rep hw)) (s.mono _ hw) (s2.sub.free hw) (s2.rep.out hw) upd_same (Nat.le_trans (stepL_le hn xs) h2) ?_
      unfold stepL
      rw [h3.length]
      exact rpA_pick (h3.mono s2.ext) _
    · cases e3
  · cases e3
/-! ### xs[::-1] -/
def revD (x : D) : Option (List D) := match x with
  | .lst l => some l.reverse
  | _ => none
def aRev (f : E) : EA := fun ρ => mb (f ρ) fun x => ml (revD x)
@[simp] theorem aRev_ap (f : E) (ρ : Rho) (g : G) : aRev f ρ g = (f ρ g).bind fun p => (revD p.1).map fun d => (d, p.2) := by simp [aRev]
theorem rpA_rev {K : PySem.W.Frag} {F : Fz} {vs : List V} {ds : List D} (r : RpA K F vs ds) : RpA K F vs.reverse ds.reverse := by
  have go : ∀ {vs : List V} {ds : List D} {us : List V} {es : List D}, RpA K F vs ds → RpA K F us es → RpA K F (vs.reverseAux us) (ds.reverseAux es) := by
    intro vs
    induction vs with
    | nil =>
      intro ds us es h1 h2
      cases h1
      exact h2
    | cons v vs ih =>
      intro ds us es h1 h2
      cases h1 with
      | cons a b =>
        have z := ih b (RpA.cons a h2)
        exact z
  exact go r .nil
theorem po_rev {X : Cx} {e : Expr} {f : E} {k : Nat} {p1 p2 p3 pos : Pos} (he : PD X e f) : PO X (.Subscript e (.Slice none none (some (.UnaryOp .USub (.Constant (.int 1) k p1) p2)) p3) pos) (aRev f) := by
  obtain ⟨t, ht, k⟩ := he
  refine ⟨_, pe_revL ht, fun σ H F ρ g pre d g' ev Q qq => ?_⟩
  obtain ⟨x, g1, e1, ev⟩ := mb_inv ev
  obtain ⟨e3, rfl⟩ := ml_inv ev
  unfold revD at e3
  split at e3
  · cases e3
    refine k σ H F ρ g pre _ _ e1 _ fun v H1 F1 s1 r1 => ?_
    obtain ⟨a, xs, rfl, h1, h2, h3⟩ := rp_lst r1
    refine ⟨a, xs, rfl, sqL_mono s1.sub h1, fun w hw => ?_⟩
    exact qq w _ F1 _ (s1.trans (.allocO s1.sub s1.rep hw)) (s1.mono _ hw) (s1.sub.free hw) (s1.rep.out hw) upd_same (by rw [List.length_reverse]; exact h2) (rpA_rev h3)
  · cases e3
end PD
end
section
set_option Elab.async false
set_option linter.all false
set_option maxRecDepth 100000
set_option maxHeartbeats 4000000
set_option autoImplicit false
namespace PD
open PySem PySem.Spec L2
open PyProof.Rows hiding St
/-- [a, b] that is only looked at: a, b may be lists of one's own -/
theorem pb_lst {X : Cx} {es : List Expr} {fs : EA} {pos : Pos} (h : PBA X es fs) : PB X (.List es pos) (eLst fs) := by
  obtain ⟨t, ht, k⟩ := h
  refine ⟨_, pe_lst ht, fun σ H F ρ g pre d g' e Q q => ?_⟩
  obtain ⟨xs, g1, e1, e⟩ := mb_inv e
  obtain ⟨e2, rfl⟩ := ml_inv e
  obtain ⟨hz, rfl⟩ := szD_inv e2
  refine k σ H F ρ g pre xs _ e1 _ fun vs H1 F1 s1 r1 => ⟨by rw [r1.length]; exact hz, fun p hp => ?_⟩
  have s2 : Stp X.K _ _ F1 F1 H1 (upd H1 p (.lst vs)) := .allocO s1.sub s1.rep hp
  refine q _ _ F1 (s1.trans s2) (.lst (.inl (.inl (off_some.mpr ⟨s1.rep.out hp, upd_same⟩))) (by rw [r1.length]; exact hz) (r1.mono s2.off))
end PD
end
section
set_option Elab.async false
set_option linter.all false
set_option maxRecDepth 100000
set_option maxHeartbeats 4000000
set_option autoImplicit false
/-! ### list(zip(..)) of two tuples -/
namespace PD
open PySem
theorem zip_no_len : typeLookup (.type "zip") "__len__" = pure none := by rw [typeLookup_type, builtinLookup_eq_fast]; kernel_rfl
theorem zip_no_hint : typeLookup (.type "zip") "__length_hint__" = pure none := by rw [typeLookup_type, builtinLookup_eq_fast]; kernel_rfl
section
variable {prog : Program} {w : World} {A : Around} {E : Value → Shared → Prop} {s : Shared} {zz ti to j1 j2 p1 p2 d : Addr} {us vs : Array Value}
def ZSt (zz ti to j1 j2 p1 p2 d : Addr) (us vs : Array Value) (i : Nat) (h : Heap) : Prop :=
  IsPair h ti (.ref j1) (.ref j2) ∧ h.IsTupleIter j1 p1 i ∧ h.IsTupleIter j2 p2 i ∧ h.IsTuple p1 us ∧ h.IsTuple p2 vs ∧
    ((IsZip h zz ti to .none ∧ ∃ a b, IsPair h to a b) ∨ ∃ T f oT, IsZipHeld h zz ti to T f ∧ h.get? T = some oT ∧ T ≠ zz ∧ T ≠ j1 ∧ T ≠ j2 ∧ T ≠ d)
theorem zst_frame {i : Nat} {h h' : Heap} (hd : d ∉ [zz, ti, to, j1, j2, p1, p2]) (x : ZSt zz ti to j1 j2 p1 p2 d us vs i h) (hk : ∀ b o, b ≠ d → h.get? b = some o → h'.get? b = some o) : ZSt zz ti to j1 j2 p1 p2 d us vs i h' := by
  obtain ⟨gti, r1, r2, t1, t2, gz⟩ := x
  simp only [List.mem_cons, List.not_mem_nil, or_false, not_or] at hd
  obtain ⟨dz, dti, dto, d1, d2, e1, e2⟩ := hd
  refine ⟨hk _ _ (Ne.symm dti) gti, r1.at fun o e => hk _ o (Ne.symm d1) e, r2.at fun o e => hk _ o (Ne.symm d2) e, t1.at fun o e => hk _ o (Ne.symm e1) e, t2.at fun o e => hk _ o (Ne.symm e2) e, ?_⟩
  rcases gz with ⟨gz, a, b, gto⟩ | ⟨T, f, oT, gz, hT, q1, q2, q3, q4⟩
  · exact .inl ⟨hk _ _ (Ne.symm dz) gz, a, b, hk _ _ (Ne.symm dto) gto⟩
  · exact .inr ⟨T, f, oT, hk _ _ (Ne.symm dz) gz, hk _ _ q4 hT, q1, q2, q3, q4⟩
theorem zst_item {i : Nat} {u v : Value} {Q : Option Value → Shared → Prop} (D : ZipApart zz ti to j1 j2 p1 p2) (eu : us[i]? = some u) (ev : vs[i]? = some v) (hds : d < s.heap.objs.size) (x : ZSt zz ti to j1 j2 p1 p2 d us vs i s.heap)
    (hQ : ∀ h', IsPair h' s.heap.objs.size u v → ZSt zz ti to j1 j2 p1 p2 d us vs (i + 1) h' → (∀ c o, c ∉ [zz, to, j1, j2] → s.heap.get? c = some o → h'.get? c = some o) → Q (some (.ref s.heap.objs.size)) { s with heap := h' }) :
    wpAny (model prog w) A (pyNext (.ref zz)) Q E s := by
  obtain ⟨gti, r1, r2, t1, t2, gz⟩ := x
  have lt : ∀ {c o}, s.heap.get? c = some o → s.heap.objs.size ≠ c := fun e => Nat.ne_of_gt (Heap.lt_size e)
  have l1 : s.heap.objs.size ≠ j1 := let ⟨_, e, _⟩ := r1; lt e
  have l2 : s.heap.objs.size ≠ j2 := let ⟨_, e, _⟩ := r2; lt e
  rcases gz with ⟨gz, a, b, gto⟩ | ⟨T, f, oT, gz, hT, q1, q2, q3, q4⟩
  · refine RZ.pyNext_zipT_item D gz gti gto r1 r2 t1 t2 eu ev fun h' b1 b2 b3 b4 b5 b6 hk => ?_
    exact hQ h' b5
      ⟨hk _ _ D.TIz D.TITO D.TIi1 D.TIi2 gti, b3, b4, t1.at fun o e => hk _ o D.l1z D.l1TO D.l1i1 D.l1i2 e, t2.at fun o e => hk _ o D.l2z D.l2TO D.l2i1 D.l2i2 e, .inr ⟨s.heap.objs.size, false, _, b1, b5, lt gz, l1, l2, Nat.ne_of_gt hds⟩⟩
      fun c o hc e => hk c o (fun x => hc (by simp [x])) (fun x => hc (by simp [x])) (fun x => hc (by simp [x])) (fun x => hc (by simp [x])) e
  · refine zpy_held D gz hT gti r1 r2 t1 t2 eu ev fun h' b1 b3 b4 b5 b6 hk => ?_
    exact hQ h' b5
      ⟨hk _ _ D.TIz D.TIi1 D.TIi2 gti, b3, b4, t1.at fun o e => hk _ o D.l1z D.l1i1 D.l1i2 e, t2.at fun o e => hk _ o D.l2z D.l2i1 D.l2i2 e, .inr ⟨T, true, oT, b1, hk _ _ q1 q2 q3 hT, q1, q2, q3, q4⟩⟩
      fun c o hc e => hk c o (fun x => hc (by simp [x])) (fun x => hc (by simp [x])) (fun x => hc (by simp [x])) e
theorem zst_done {Q : Option Value → Shared → Prop} (hA : A.handled = none) (D : ZipApart zz ti to j1 j2 p1 p2) (x : ZSt zz ti to j1 j2 p1 p2 d us vs (min us.size vs.size) s.heap)
    (hQ : ∀ h', (∀ c o, c ∉ [zz, to, j1, j2] → s.heap.get? c = some o → h'.get? c = some o) → Q none { s with heap := h' }) : wpAny (model prog w) A (pyNext (.ref zz)) Q E s := by
  obtain ⟨gti, r1, r2, t1, t2, gz⟩ := x
  have en : us[min us.size vs.size]? = none ∨ vs[min us.size vs.size]? = none := by
    rcases Nat.le_total us.size vs.size with h | h
    · exact .inl (Array.getElem?_eq_none (by rw [Nat.min_eq_left h]; exact Nat.le_refl _))
    · exact .inr (Array.getElem?_eq_none (by rw [Nat.min_eq_right h]; exact Nat.le_refl _))
  rcases gz with ⟨gz, a, b, gto⟩ | ⟨T, f, oT, gz, hT, q1, q2, q3, q4⟩
  · exact RZ.pyNext_zipT_end hA D gz gti gto r1 r2 t1 t2 en fun h' hk => hQ h' fun c o hc e => hk c o (fun x => hc (by simp [x])) (fun x => hc (by simp [x])) (fun x => hc (by simp [x])) (fun x => hc (by simp [x])) e
  · exact zpy_end_held hA D gz hT gti r1 r2 t1 t2 en fun h' hk => hQ h' fun c o hc e => hk c o (fun x => hc (by simp [x])) (fun x => hc (by simp [x])) (fun x => hc (by simp [x])) e
/-- the items so far -/
def ZIt (us vs : Array Value) (B n : Nat) (acc : Array Value) (h : Heap) : Prop := acc.size = n ∧ ∀ j, j < n → ∃ T u v, acc[j]? = some (.ref T) ∧ us[j]? = some u ∧ vs[j]? = some v ∧ B ≤ T ∧ IsPair h T u v
theorem codeAny_extend_zip {R : Result → Shared → Prop} (hh : A.handled = none) (D : ZipApart zz ti to j1 j2 p1 p2) {S : Addr} (hSf : S ∉ [zz, ti, to, j1, j2, p1, p2]) (hn : min us.size vs.size ≤ sizeLine) (res : Value) {B : Nat} (hB : ∀ b ∈ [S, zz, to, j1, j2], b < B) :
    ∀ (k i : Nat) (s : Shared) (acc : Array Value) (c : Nat), min us.size vs.size - i = k → i ≤ min us.size vs.size → ZSt zz ti to j1 j2 p1 p2 S us vs i s.heap → B ≤ s.heap.objs.size →
      s.heap.get? S = some { cls := .type "list", dict := none, data := .seq acc c, slots := #[] } → ZIt us vs B i acc s.heap →
      (∀ h' tk acc' c', (∀ b o, b ∉ [S, zz, to, j1, j2] → s.heap.get? b = some o → h'.get? b = some o) → h'.get? S = some { cls := .type "list", dict := none, data := .seq acc' c', slots := #[] } → ZIt us vs B (min us.size vs.size) acc' h' → R (.ok (.ret res)) { s with heap := h', toks := tk }) →
      codeAny (model prog w) A (.builtin "list.extend.loop" ⟨[.ref S, .ref zz, res], []⟩) R s := by
  have hSw : S ∉ [zz, to, j1, j2] := fun h => hSf (by simp only [List.mem_cons, List.not_mem_nil, or_false] at h ⊢; rcases h with e | e | e | e <;> simp [e])
  intro k
  induction k with
  | zero =>
    intro i s acc c hk hi hst hb hS hacc hR
    have hin : i = min us.size vs.size := by omega
    subst hin
    refine codeAny_builtin F.entry_extend_loop ?_
    rw [Around.under_plainId F.plain_extend_loop _]
    show wpAny _ A.in1 (pyNext (.ref zz) >>= _) _ _ s
    refine wpAny_bind (zst_done (A := A.in1) hh D hst fun h' hm => ?_)
    refine wpAny_pure (hR h' s.toks acc c (fun b o hb' e => hm b o (fun z => hb' (List.mem_cons_of_mem _ z)) e) (hm S _ hSw hS) ⟨hacc.1, fun j hj => ?_⟩)
    obtain ⟨T, u, v, e1, e2, e3, e4, e5⟩ := hacc.2 j hj
    exact ⟨T, u, v, e1, e2, e3, e4, hm _ _ (fun z => absurd (hB T (List.mem_cons_of_mem _ z)) (Nat.not_lt.mpr e4)) e5⟩
  | succ k ih =>
    intro i s acc c hk hi hst hb hS hacc hR
    have hlt : i < min us.size vs.size := by omega
    have iu : i < us.size := Nat.lt_of_lt_of_le hlt (Nat.min_le_left ..)
    have iv : i < vs.size := Nat.lt_of_lt_of_le hlt (Nat.min_le_right ..)
    refine codeAny_builtin F.entry_extend_loop ?_
    rw [Around.under_plainId F.plain_extend_loop _]
    show wpAny _ A.in1 (pyNext (.ref zz) >>= _) _ _ s
    refine wpAny_bind (zst_item D (Array.getElem?_eq_getElem iu) (Array.getElem?_eq_getElem iv) (Heap.lt_size hS) hst fun h' hp hst' hm => ?_)
    have hS' := hm S _ hSw hS
    have hlt2 : s.heap.objs.size < h'.objs.size := Heap.lt_size hp
    have hST : S ≠ s.heap.objs.size := Nat.ne_of_lt (Heap.lt_size hS)
    show wpAny _ A.in1 (updateSeq S (·.push (.ref s.heap.objs.size)) >>= _) _ _ _
    refine wpAny_bind ?_
    refine wpAny_updateSeq hS' rfl (wpAny_pure ⟨plainId_quiet F.plain_extend_loop _, ih (i + 1) _ (acc.push (.ref s.heap.objs.size)) _ (by omega) hlt (zst_frame hSf hst' fun b o hb e => ?_) ?_ (Heap.get?_update_self _ hS' rfl) ⟨?_, fun j hj => ?_⟩ fun h'' tk acc' c' hk'' hS'' hacc' => ?_⟩)
      (by rw [hacc.1]; omega) (by show (acc.push _).size ≤ sizeLine + 1; rw [Array.size_push, hacc.1]; omega)
    · exact (Heap.get?_update_other _ _ (Ne.symm hb)).trans e
    · have := (Heap.lt_size ((Heap.get?_update_other h' (Obj.mapSeq (·.push (Value.ref s.heap.objs.size))) hST).trans hp))
      exact Nat.le_trans hb (Nat.le_of_lt this)
    · rw [Array.size_push, hacc.1]
    · by_cases hj2 : j = i
      · subst hj2
        refine ⟨s.heap.objs.size, _, _, ?_, Array.getElem?_eq_getElem iu, Array.getElem?_eq_getElem iv, hb, (Heap.get?_update_other _ _ hST).trans hp⟩
        rw [← hacc.1]
        simp
      · obtain ⟨T, u, v, e1, e2, e3, e4, e5⟩ := hacc.2 j (by omega)
        have hTS : S ≠ T := fun z => absurd (hB S List.mem_cons_self) (Nat.not_lt.mpr (z ▸ e4))
        refine ⟨T, u, v, ?_, e2, e3, e4, (Heap.get?_update_other _ _ hTS).trans (hm _ _ (fun z => absurd (hB T (List.mem_cons_of_mem _ z)) (Nat.not_lt.mpr e4)) e5)⟩
        rw [Array.getElem?_push_lt (by rw [hacc.1]; omega)]
        rw [Array.getElem?_eq_getElem (by rw [hacc.1]; omega)] at e1
        exact e1
    · refine hR h'' tk acc' c' (fun b o hb' e => hk'' b o hb' ?_) hS'' hacc'
      have hbS : S ≠ b := fun z => hb' (by rw [z]; exact List.mem_cons_self)
      exact (Heap.get?_update_other _ _ hbS).trans (hm b o (fun z => hb' (List.mem_cons_of_mem _ z)) e)
theorem wpAny_extend_zip {R : Result → Shared → Prop} (hh : A.handled = none) (D : ZipApart zz ti to j1 j2 p1 p2) {S : Addr} (hSf : S ∉ [zz, ti, to, j1, j2, p1, p2]) (hn : min us.size vs.size ≤ sizeLine) (res : Value) (c₀ : Nat)
    (gz : IsZip s.heap zz ti to .none) (gti : IsPair s.heap ti (.ref j1) (.ref j2)) (gto : ∃ a b, IsPair s.heap to a b) (r1 : s.heap.IsTupleIter j1 p1 0) (r2 : s.heap.IsTupleIter j2 p2 0) (t1 : s.heap.IsTuple p1 us) (t2 : s.heap.IsTuple p2 vs)
    (hS : s.heap.get? S = some { cls := .type "list", data := .seq #[] c₀ }) {B : Nat} (hB : ∀ b ∈ [S, zz, to, j1, j2], b < B) (hB2 : B ≤ s.heap.objs.size)
    (hR : ∀ h' tk acc' c', (∀ b o, b ∉ [S, zz, to, j1, j2] → s.heap.get? b = some o → h'.get? b = some o) → h'.get? S = some { cls := .type "list", dict := none, data := .seq acc' c', slots := #[] } → ZIt us vs B (min us.size vs.size) acc' h' → R (.ok (.ret res)) { s with heap := h', toks := tk }) :
    wpAny (model prog w) A.in1 (Builtin.List.listExtendWith (.ref S) (.ref zz) res)
      (fun fin s' => match fin with | .done f => R (.ok f) s' | .again c' => c'.quiet = true ∧ codeAny (model prog w) A c' R s') (fun e s' => R (.error e) s') s := by
  have hT : s.TypeIs (.ref zz) "zip" := ⟨_, gz, rfl⟩
  have hSz : S ≠ zz := fun e => hSf (by simp [e])
  unfold Builtin.List.listExtendWith
  refine wpAny_bind (wpAny_typeOf hT ?_)
  have h1 : Builtin.List.listSameRef (.ref S) (.ref zz) = false := by simp [Builtin.List.listSameRef, hSz]
  have h2 : (Value.type "zip" == Value.type "list") = false := by decide
  have h3 : (Value.type "zip" == Value.type "tuple") = false := by decide
  simp only [h1, h2, h3, Bool.or_false, Bool.false_eq_true, if_false]
  refine wpAny_bind (wpAny_pyIter_zip gz ?_)
  refine wpAny_bind (wpAny_holding ?_)
  unfold Builtin.List.listLengthHint
  refine wpAny_bind (wpAny_specialOf hT zip_no_len ?_)
  show wpAny _ A.in1 (specialOf (Value.ref zz) (Str.ofString "__length_hint__") >>= _) _ _ _
  refine wpAny_bind (wpAny_specialOf hT zip_no_hint ?_)
  refine wpAny_pure ?_
  show wpAny _ A.in1 (rule "list.extend.makes-room" >>= fun _ => Builtin.List.listTouch (.ref S) >>= fun _ =>
    again (.builtin "list.extend.loop" ⟨[.ref S, .ref zz, res], []⟩)) _ _ _
  refine wpAny_bind (wpAny_rule ?_)
  refine wpAny_bind ?_
  show wpAny _ A.in1 (updateSeq S (·.push .none) >>= fun _ => updateSeq S (·.pop)) _ _ _
  refine wpAny_bind (wpAny_updateSeq hS rfl ?_)
  have hS₂ := Heap.get?_update_self (Obj.mapSeq (·.push Value.none)) hS rfl
  refine wpAny_updateSeq (hz := by seq_fits) hS₂ rfl ?_
  have hS₃ := Heap.get?_update_self (Obj.mapSeq (·.pop)) hS₂ rfl
  have oth : ∀ b o, b ≠ S → s.heap.get? b = some o → ((s.heap.update S (Obj.mapSeq (·.push Value.none))).update S (Obj.mapSeq (·.pop))).get? b = some o :=
    fun b o hb e => (Heap.get?_update_other _ _ (Ne.symm hb)).trans ((Heap.get?_update_other _ _ (Ne.symm hb)).trans e)
  have st0 : ZSt zz ti to j1 j2 p1 p2 S us vs 0 s.heap := ⟨gti, r1, r2, t1, t2, .inl ⟨gz, gto⟩⟩
  refine wpAny_pure ⟨plainId_quiet F.plain_extend_loop _, codeAny_extend_zip hh D hSf hn res hB _ 0 _ #[] _ rfl (Nat.zero_le _) (zst_frame hSf st0 oth) ?_ hS₃ ⟨rfl, fun j hj => absurd hj (Nat.not_lt_zero _)⟩ fun h' tk acc' c' hk hS' hacc => ?_⟩
  · have e : ((s.heap.update S (Obj.mapSeq (·.push Value.none))).update S (Obj.mapSeq (·.pop))).objs.size = s.heap.objs.size := by
      rw [Heap.size_update, Heap.size_update]
    show B ≤ ((s.heap.update S (Obj.mapSeq (·.push Value.none))).update S (Obj.mapSeq (·.pop))).objs.size
    rw [e]
    exact hB2
  · exact hR h' tk acc' c' (fun b o hb e => hk b o hb (oth b o (fun z => hb (by rw [z]; exact List.mem_cons_self)) e)) hS' hacc
theorem call_list_zip {Q : Value → Shared → Prop} (hh : A.handled = none) (D : ZipApart zz ti to j1 j2 p1 p2) (hn : min us.size vs.size ≤ sizeLine)
    (gz : IsZip s.heap zz ti to .none) (gti : IsPair s.heap ti (.ref j1) (.ref j2)) (gto : ∃ a b, IsPair s.heap to a b) (r1 : s.heap.IsTupleIter j1 p1 0) (r2 : s.heap.IsTupleIter j2 p2 0) (t1 : s.heap.IsTuple p1 us) (t2 : s.heap.IsTuple p2 vs)
    (hQ : ∀ h' tk acc' c', (∀ b o, b ∉ [zz, to, j1, j2] → s.heap.get? b = some o → h'.get? b = some o) → h'.get? s.heap.objs.size = some { cls := .type "list", dict := none, data := .seq acc' c', slots := #[] } → ZIt us vs (s.heap.objs.size + 1) (min us.size vs.size) acc' h' → Q (.ref s.heap.objs.size) { s with heap := h', toks := tk }) :
    wpAny (model prog w) A (call (.type "list") [.ref zz]) Q E s := by
  refine callType_codes (Q₁ := fun obj s₁ => obj = .ref s.heap.objs.size ∧ s₁ = { s with heap := s.heap.push { cls := .type "list", data := .seq #[] } }) F.called_list (F.typeCall_list_1 _) F.entry_list_init
    (code_list_new _ ⟨rfl, rfl⟩) fun obj s₁ h₁ => ?_
  obtain ⟨rfl, rfl⟩ := h₁
  have hS : (s.heap.push { cls := .type "list", data := .seq #[] }).get? s.heap.objs.size = some { cls := .type "list", data := .seq #[] } := Heap.get?_push_size _ rfl
  have k0 : ∀ b o, s.heap.get? b = some o → (s.heap.push { cls := .type "list", data := .seq #[] }).get? b = some o := fun b o e => Heap.get?_push_of_some _ e
  obtain ⟨ga, gb, gto⟩ := gto
  have lt : ∀ {c o}, s.heap.get? c = some o → c < s.heap.objs.size := fun e => Heap.lt_size e
  have lj1 : j1 < s.heap.objs.size := let ⟨_, e, _⟩ := r1; lt e
  have lj2 : j2 < s.heap.objs.size := let ⟨_, e, _⟩ := r2; lt e
  have lp1 : p1 < s.heap.objs.size := let ⟨_, e, _⟩ := t1; lt e
  have lp2 : p2 < s.heap.objs.size := let ⟨_, e, _⟩ := t2; lt e
  have lz := lt gz
  have lti := lt gti
  have lto := lt gto
  have hSf : s.heap.objs.size ∉ [zz, ti, to, j1, j2, p1, p2] := fun hm => by
    simp only [List.mem_cons, List.not_mem_nil, or_false] at hm
    rcases hm with e | e | e | e | e | e | e
    · exact absurd e (Nat.ne_of_gt lz)
    · exact absurd e (Nat.ne_of_gt lti)
    · exact absurd e (Nat.ne_of_gt lto)
    · exact absurd e (Nat.ne_of_gt lj1)
    · exact absurd e (Nat.ne_of_gt lj2)
    · exact absurd e (Nat.ne_of_gt lp1)
    · exact absurd e (Nat.ne_of_gt lp2)
  have hB : ∀ b ∈ [s.heap.objs.size, zz, to, j1, j2], b < s.heap.objs.size + 1 := fun b hb => by
    simp only [List.mem_cons, List.not_mem_nil, or_false] at hb
    rcases hb with e | e | e | e | e <;> subst e
    · exact Nat.lt_succ_self _
    · exact Nat.lt_succ_of_lt lz
    · exact Nat.lt_succ_of_lt lto
    · exact Nat.lt_succ_of_lt lj1
    · exact Nat.lt_succ_of_lt lj2
  refine ⟨⟨_, hS, rfl⟩, F.args_list_init_2 _ _, ?_⟩
  show wpAny _ _ (do let old ← Builtin.List.listItems (.ref s.heap.objs.size); Builtin.List.listUpdate (.ref s.heap.objs.size) (fun _ => #[]); letGo old.toList.reverse; Builtin.List.listExtendWith (.ref s.heap.objs.size) (.ref zz) .none) _ _ _
  refine wpAny_bind ?_
  unfold Builtin.List.listItems
  refine wpAny_bind (wpAny_seqItems hS rfl (wpAny_pure ?_))
  show wpAny _ _ (updateSeq s.heap.objs.size (fun _ => #[]) >>= fun _ => letGo (#[] : Array Value).toList.reverse >>= fun _ => Builtin.List.listExtendWith (.ref s.heap.objs.size) (.ref zz) .none) _ _ _
  refine wpAny_bind (wpAny_updateSeq hS rfl ?_)
  have hS₂ := Heap.get?_update_self (Obj.mapSeq (fun _ => (#[] : Array Value))) hS rfl
  have oth : ∀ b o, b ≠ s.heap.objs.size → s.heap.get? b = some o → ((s.heap.push { cls := .type "list", data := .seq #[] }).update s.heap.objs.size (Obj.mapSeq (fun _ => (#[] : Array Value)))).get? b = some o :=
    fun b o hb e => (Heap.get?_update_other _ _ (Ne.symm hb)).trans (k0 b o e)
  have ne : ∀ {c}, c < s.heap.objs.size → c ≠ s.heap.objs.size := fun h => Nat.ne_of_lt h
  refine wpAny_bind (wpAny_letGo ?_)
  refine wpAny_extend_zip (A := A.in1) hh D hSf hn .none _ (oth _ _ (ne lz) gz) (oth _ _ (ne lti) gti) ⟨ga, gb, oth _ _ (ne lto) gto⟩ (r1.at fun o e => oth _ o (ne lj1) e) (r2.at fun o e => oth _ o (ne lj2) e) (t1.at fun o e => oth _ o (ne lp1) e) (t2.at fun o e => oth _ o (ne lp2) e) hS₂ hB ?_ fun h' tk acc' c' hk hS' hacc => ?_
  · show s.heap.objs.size + 1 ≤ ((s.heap.push { cls := .type "list", data := .seq #[] }).update s.heap.objs.size (Obj.mapSeq (fun _ => (#[] : Array Value)))).objs.size
    rw [Heap.size_update, Heap.size_push]
    exact Nat.le_refl _
  · exact ⟨rfl, hQ h' tk acc' c' (fun b o hb e => hk b o (fun z => by
      rcases List.mem_cons.mp z with q | q
      · exact absurd q (Nat.ne_of_lt (lt e))
      · exact hb q) (oth b o (ne (lt e)) e)) hS' hacc⟩
end
end PD
end
section
set_option Elab.async false
set_option linter.all false
set_option maxRecDepth 100000
set_option maxHeartbeats 4000000
set_option autoImplicit false
namespace PD
open PySem PySem.Spec L2
open PyProof.Rows hiding St
/-! ### dict(list(zip(names, values)) + list(zip(names, values))) -/
def pairO (u v : Value) : Obj := { cls := .type "tuple", data := .seq #[u, v] }
def newsOf (h : Heap) (acc : Array Value) : List (Addr × Obj) := acc.toList.filterMap fun r => match r with
  | .ref T => (h.get? T).map fun o => (T, o)
  | _ => none
theorem newsOf_mem {h : Heap} {acc : Array Value} {p : Addr × Obj} (hp : p ∈ newsOf h acc) : ∃ j : Nat, j < acc.size ∧ acc[j]? = some (.ref p.1) ∧ h.get? p.1 = some p.2 := by
  obtain ⟨r, hr, e⟩ := List.mem_filterMap.mp hp
  obtain ⟨j, hj, e2⟩ := List.getElem_of_mem hr
  split at e
  · rename_i T
    obtain ⟨o, h1, h2⟩ := Option.map_eq_some_iff.mp e
    cases h2
    refine ⟨j, by simpa using hj, ?_, h1⟩
    rw [← Array.getElem?_toList, List.getElem?_eq_getElem hj, e2]
  · cases e
theorem mem_newsOf {h : Heap} {acc : Array Value} {T : Addr} {o : Obj} {j : Nat} (h1 : acc[j]? = some (.ref T)) (h2 : h.get? T = some o) : (T, o) ∈ newsOf h acc := by
  refine List.mem_filterMap.mpr ⟨.ref T, ?_, by simp [h2]⟩
  rw [← Array.getElem?_toList] at h1
  exact List.mem_of_getElem? h1
/-- a new list of pairs stands at L -/
def LZ (xs : List Str) (ys : List V) (L : Addr) (acc : Array Value) (news : List (Addr × Obj)) : Prop := acc.size = xs.length ∧ xs.length = ys.length ∧ xs.length ≤ sizeLine ∧ (∃ c, (L, ({ cls := .type "list", data := .seq acc c } : Obj)) ∈ news) ∧
  ∀ (j : Nat) (x : Str) (y : V), xs[j]? = some x → ys[j]? = some y → ∃ (T : Addr) (t : Tok) (v : Value), acc[j]? = some (Value.ref T) ∧ RelV y v ∧ (T, pairO (.str x t) v) ∈ news
theorem LZ.mono {xs : List Str} {ys : List V} {L : Addr} {acc : Array Value} {news news' : List (Addr × Obj)} (h : LZ xs ys L acc news) (k : ∀ p ∈ news, p ∈ news') : LZ xs ys L acc news' := by
  obtain ⟨h1, h2, h3, ⟨c, h4⟩, h5⟩ := h
  refine ⟨h1, h2, h3, ⟨c, k _ h4⟩, fun j x y a b => ?_⟩
  obtain ⟨T, t, v, q1, q2, q3⟩ := h5 j x y a b
  exact ⟨T, t, v, q1, q2, k _ q3⟩
section
variable {X : Cx} {e e2 e3 e4 : Expr} {ta tb : TA} {p zp q pos p' zp' q' pos' dp dpos bpos : Pos}
theorem lz_raw (hc : X.calm = true) (hg : Gl X "list") (hm : X.mg "list" = none) (hg2 : Gl X "zip") (hm2 : X.mg "zip" = none) (ha : PA X [e, e2] ta)
    (hs : starEach [e, e2] X.env = (false, eval e X.env) :: starEach [e2] X.env) (hpl : (backTo q (starEach [e2] X.env)).any (·.1) = false)
    (hz : starEach [.Call (.Name "zip" zp) [e, e2] [] q] X.env = (false, eval (.Call (.Name "zip" zp) [e, e2] [] q) X.env) :: starEach [] X.env)
    {pins : List (Addr × Obj)} {s : Shared} {σ : St} {H : Hp} (I : Inv X pins σ H s) {R : List Str → List V → Hp → Prop}
    (h : ta σ H fun vs H1 => ∃ (a b : Addr) (xs : List Str) (ys : List V), vs = [.ref a, .ref b] ∧ SqT X.K H1 a (xs.map V.str) ∧ SqT X.K H1 b ys ∧ xs.length = ys.length ∧ R xs ys H1) {Q : Value → Shared → Prop}
    (hQ : ∀ s1 H1 xs ys L acc news, Inv X (news ++ pins) σ H1 s1 → R xs ys H1 → LZ xs ys L acc news → Q (.ref L) s1) :
    wpAny (model X.prog X.w) X.A (eval (.Call (.Name "list" p) [.Call (.Name "zip" zp) [e, e2] [] q] [] pos) X.env) Q X.xe s := by
  refine Call_ (ld_blt I hg hm PyProof.Rows.boot_list (PyProof.Rows.callWith_type1 (PyProof.Rows.args_cons ?_ hz) hz (by rfl)))
  refine Call_ (ld_blt I hg2 hm2 PyProof.Rows.boot_zip (PyProof.Rows.callWith_type1 (thn (ha.run q pins s σ H _ I h) fun us s1 ⟨vs, H1, I1, r1, q1⟩ => ?_) hs hpl))
  obtain ⟨a, b, xs, ys, ex, hx, hy, hl, hR⟩ := q1
  subst ex
  cases r1 with
  | cons r rr =>
    cases rr with
    | cons r' rr =>
      cases rr
      cases r
      cases r'
      obtain ⟨its, rv, t1, l1⟩ := I1.tuple hx
      obtain ⟨its2, rv2, t2, l2⟩ := I1.tuple hy
      obtain ⟨o1, ho1, _⟩ := id t1
      obtain ⟨o2, ho2, _⟩ := id t2
      refine RZ.call_zipT (show s1.heap.IsTuple a its.toArray from t1) (show s1.heap.IsTuple b its2.toArray from t2) fun h' gz gti gto i1 i2 hsz hk => PyProof.Rows.args_nil ?_
      have D := PySem.W.ktu_apart s1.heap.objs.size a b (Heap.lt_size ho1) (Heap.lt_size ho2)
      have g1 : h'.IsTuple a its.toArray := Heap.IsTuple.at (show s1.heap.IsTuple a its.toArray from t1) fun o x => hk _ o x
      have g2 : h'.IsTuple b its2.toArray := Heap.IsTuple.at (show s1.heap.IsTuple b its2.toArray from t2) fun o x => hk _ o x
      have n1 : its.length = xs.length := by rw [← rv.length, List.length_map]
      have n2 : its2.length = ys.length := rv2.length.symm
      have hmin : min its.toArray.size its2.toArray.size = xs.length := by
        rw [List.size_toArray, List.size_toArray, n1, n2, ← hl, Nat.min_self]
      have hxs : xs.length ≤ sizeLine := by rw [List.length_map] at l1; exact l1
      have hge : s1.heap.objs.size ≤ h'.objs.size := by rw [hsz]; exact Nat.le_add_right _ _
      refine call_list_zip (s := { s1 with heap := h' }) (I1.ok.hd hc) D (by rw [hmin]; exact hxs) gz gti ⟨_, _, gto⟩ i1 i2 g1 g2 fun h2 tk acc c kp hL hz2 => ?_
      have hold : ∀ c o, s1.heap.get? c = some o → h2.get? c = some o := fun c o e => by
        have hlt := Heap.lt_size e
        refine kp c o (fun hmem => ?_) (hk c o e)
        simp only [List.mem_cons, List.not_mem_nil, or_false] at hmem
        rcases hmem with q | q | q | q <;> subst q
        · exact absurd hlt (Nat.not_lt.mpr (Nat.le_add_right _ _))
        · exact absurd hlt (Nat.not_lt.mpr (Nat.le_add_right _ _))
        · exact absurd hlt (Nat.lt_irrefl _)
        · exact absurd hlt (Nat.not_lt.mpr (Nat.le_add_right _ _))
      rw [hmin] at hz2
      obtain ⟨hz1, hz2⟩ := hz2
      have I2 : Inv X pins σ H1 { s1 with heap := h2, toks := tk } := I1.kept hold
      have new_ok : ∀ (a : Addr) (o : Obj), h2.get? a = some o → s1.heap.objs.size ≤ a → (∀ v, o.data ≠ .cell v) → h2.get? a = some o ∧ H1 a = none ∧ a ≠ X.env.locals ∧ a ∉ X.fs ∧ ∀ v, o.data ≠ .cell v := fun a o ho ha hd =>
        ⟨ho, I1.hok.fresh ha, Nat.ne_of_gt (Nat.lt_of_lt_of_le I1.lt ha), I1.nofs ha, hd⟩
      refine hQ _ H1 xs ys h'.objs.size acc ((h'.objs.size, { cls := .type "list", data := .seq acc c }) :: newsOf h2 acc) (I2.pins_of fun p hp => ?_) hR ⟨hz1, hl, hxs, ⟨c, List.mem_cons_self⟩, fun j x y ex ey => ?_⟩
      · rcases List.mem_append.mp hp with hp | hp
        · rcases List.mem_cons.mp hp with e | hp
          · subst e
            exact new_ok _ _ hL hge (fun v e => by cases e)
          · obtain ⟨j, hj, e1, e2⟩ := newsOf_mem hp
            obtain ⟨T, u, v, q1, q2, q3, q4, q5⟩ := hz2 j (by rw [← hz1]; exact hj)
            rw [e1] at q1
            have eT : p.1 = T := by injection q1 with z; injection z
            refine new_ok _ _ e2 (by rw [eT]; exact Nat.le_trans hge (Nat.le_trans (Nat.le_succ _) q4)) fun v e => ?_
            rw [← eT] at q5
            have : some p.2 = some _ := e2.symm.trans q5
            injection this with z
            rw [z] at e
            cases e
        · exact I2.pin p (List.mem_append_right _ hp)
      · have hj : j < xs.length := (List.getElem?_eq_some_iff.mp ex).1
        obtain ⟨T, u, v, q1, q2, q3, q4, q5⟩ := hz2 j hj
        have q2 : its[j]? = some u := by simpa using q2
        have q3 : its2[j]? = some v := by simpa using q3
        obtain ⟨u', hu, t', hu'⟩ := rv.get (i := j) (x := .str x) (by rw [List.getElem?_map, ex]; rfl)
        rw [q2] at hu
        cases hu
        obtain ⟨v', hv, hv'⟩ := rv2.get (i := j) (x := y) ey
        rw [q3] at hv
        cases hv
        subst hu'
        exact ⟨T, t', v, q1, hv', List.mem_cons_of_mem _ (mem_newsOf q1 q5)⟩
def tDz2 (K : PySem.W.Frag) (ta tb : TA) : TE := fun σ H Q => ta σ H fun vs H1 => ∃ (a b : Addr) (xs : List Str) (ys : List V), vs = [.ref a, .ref b] ∧ SqT K H1 a (xs.map V.str) ∧ SqT K H1 b ys ∧ xs.length = ys.length ∧
  tb σ H1 fun ws H2 => ∃ (a b : Addr) (xs' : List Str) (ys' : List V), ws = [.ref a, .ref b] ∧ SqT K H2 a (xs'.map V.str) ∧ SqT K H2 b ys' ∧ xs'.length = ys'.length ∧ xs.length + xs'.length ≤ sizeLine ∧
  ∀ p, H2 p = none → Q (.ref p) (upd H2 p (.dK (mergeK [] ((xs.map Sum.inr).zip ys ++ (xs'.map Sum.inr).zip ys'))))
theorem lz_prs {xs : List Str} {ys : List V} {L : Addr} {acc : Array Value} {news : List (Addr × Obj)} (h : LZ xs ys L acc news) : ∃ prs : List (Key × Value), prs.length = xs.length ∧ KV ((xs.map (Sum.inr : Str → Key)).zip ys) prs ∧
    ∀ (j : Nat) (q : Key × Value), prs[j]? = some q → ∃ (b : Addr) (t : Tok) (x : Str), acc[j]? = some (.ref b) ∧ (b, pairO (.str x t) q.2) ∈ news ∧ q.1 = .inr x := by
  obtain ⟨h1, h2, _, _, h5⟩ := h
  have : ∀ (n : Nat), n ≤ xs.length → ∃ prs : List (Key × Value), prs.length = n ∧ KV (((xs.map (Sum.inr : Str → Key)).zip ys).take n) prs ∧
    ∀ (j : Nat) (q : Key × Value), prs[j]? = some q → ∃ (b : Addr) (t : Tok) (x : Str), acc[j]? = some (.ref b) ∧ (b, pairO (.str x t) q.2) ∈ news ∧ q.1 = .inr x := by
    intro n
    induction n with
    | zero => intro _; exact ⟨[], rfl, by rw [List.take_zero]; exact .nil, fun j q e => by simp at e⟩
    | succ n ih =>
      intro hn
      obtain ⟨prs, p1, p2, p3⟩ := ih (by omega)
      have ex : xs[n]? = some xs[n] := List.getElem?_eq_getElem (by omega)
      have ey : ys[n]? = some (ys[n]'(by omega)) := List.getElem?_eq_getElem (by omega)
      obtain ⟨T, t, v, q1, q2, q3⟩ := h5 n _ _ ex ey
      have et : ((xs.map (Sum.inr : Str → Key)).zip ys)[n]? = some (Sum.inr xs[n], ys[n]'(by omega)) := by
        rw [List.getElem?_zip_eq_some]
        exact ⟨by rw [List.getElem?_map, ex]; rfl, ey⟩
      refine ⟨prs ++ [(.inr xs[n], v)], by simp [p1], ?_, fun j q e => ?_⟩
      · rw [List.take_add_one, et]
        exact Paired.snoc p2 ⟨rfl, q2⟩
      · by_cases hj : j < n
        · rw [List.getElem?_append_left (by omega)] at e
          exact p3 j q e
        · have hj2 : j = n := by
            have := (List.getElem?_eq_some_iff.mp e).1
            simp at this
            omega
          subst hj2
          rw [List.getElem?_append_right (by omega)] at e
          simp [p1] at e
          subst e
          exact ⟨T, t, _, q1, q3, rfl⟩
  obtain ⟨prs, p1, p2, p3⟩ := this xs.length (Nat.le_refl _)
  rw [List.take_of_length_le (by simp; omega)] at p2
  exact ⟨prs, p1, p2, p3⟩
theorem Paired.app {α β : Type} {P : α → β → Prop} : ∀ {a b : List α} {c d : List β}, Paired P a c → Paired P b d → Paired P (a ++ b) (c ++ d)
  | _, _, _, _, .nil, h => h
  | _, _, _, _, .cons x t, h => .cons x (Paired.app t h)
theorem pe_dz2 (hc : X.calm = true) (hg : Gl X "dict") (hm : X.mg "dict" = none) (hgl : Gl X "list") (hml : X.mg "list" = none) (hg2 : Gl X "zip") (hm2 : X.mg "zip" = none) (ha : PA X [e, e2] ta) (hb : PA X [e3, e4] tb)
    (hs : starEach [e, e2] X.env = (false, eval e X.env) :: starEach [e2] X.env) (hpl : (backTo q (starEach [e2] X.env)).any (·.1) = false)
    (hz : starEach [.Call (.Name "zip" zp) [e, e2] [] q] X.env = (false, eval (.Call (.Name "zip" zp) [e, e2] [] q) X.env) :: starEach [] X.env)
    (hs' : starEach [e3, e4] X.env = (false, eval e3 X.env) :: starEach [e4] X.env) (hpl' : (backTo q' (starEach [e4] X.env)).any (·.1) = false)
    (hz' : starEach [.Call (.Name "zip" zp') [e3, e4] [] q'] X.env = (false, eval (.Call (.Name "zip" zp') [e3, e4] [] q') X.env) :: starEach [] X.env)
    (hd : starEach [.BinOp (.Call (.Name "list" p) [.Call (.Name "zip" zp) [e, e2] [] q] [] pos) .Add (.Call (.Name "list" p') [.Call (.Name "zip" zp') [e3, e4] [] q'] [] pos') bpos] X.env = (false, eval (.BinOp (.Call (.Name "list" p) [.Call (.Name "zip" zp) [e, e2] [] q] [] pos) .Add (.Call (.Name "list" p') [.Call (.Name "zip" zp') [e3, e4] [] q'] [] pos') bpos) X.env) :: starEach [] X.env) :
    PE X (.Call (.Name "dict" dp) [.BinOp (.Call (.Name "list" p) [.Call (.Name "zip" zp) [e, e2] [] q] [] pos) .Add (.Call (.Name "list" p') [.Call (.Name "zip" zp') [e3, e4] [] q'] [] pos') bpos] [] dpos) (tDz2 X.K ta tb) := by
  refine ⟨fun pins s σ H Q I h => ?_⟩
  refine Call_ (ld_blt I hg hm PyProof.Rows.boot_dict (PyProof.Rows.callWith_type1 (PyProof.Rows.args_cons ?_ hd) hd (by rfl)))
  refine wpAny_BinOp (lz_raw hc hgl hml hg2 hm2 ha hs hpl hz I h fun s1 H1 xs ys L acc news I1 h1 z1 => ?_)
  refine lz_raw hc hgl hml hg2 hm2 hb hs' hpl' hz' I1 h1 fun s2 H2 xs' ys' L' acc' news' I2 ⟨hsum, qq⟩ z2 => ?_
  have z1 := z1.mono (news' := news' ++ (news ++ pins)) fun p hp => List.mem_append_right _ (List.mem_append_left _ hp)
  have z2 := z2.mono (news' := news' ++ (news ++ pins)) fun p hp => List.mem_append_left _ hp
  have at2 : ∀ p ∈ news' ++ (news ++ pins), s2.heap.get? p.1 = some p.2 := fun p hp => (I2.pin p (List.mem_append_right _ hp)).1
  obtain ⟨prs, a1, a2, a3⟩ := lz_prs z1
  obtain ⟨prs', b1, b2, b3⟩ := lz_prs z2
  obtain ⟨y1, y2, y3, ⟨c, y4⟩, y5⟩ := z1
  obtain ⟨w1, w2, w3, ⟨c', w4⟩, w5⟩ := z2
  have ho := at2 _ y4
  have ho2 := at2 _ w4
  refine concat_meets ⟨_, ho, rfl⟩ ⟨_, ho2, rfl⟩ noFill_list_add seq_list_add PySem.F.slot_list_add PySem.F.entry_list_add (PySem.F.args_list_add_2 _ _) (list_addW L L' acc acc' c c' none none #[] #[] (by rw [y1, w1]; exact hsum)) ⟨ho, ho2, PyProof.Rows.args_nil ?_⟩
  have kp : ∀ b o, s2.heap.get? b = some o → (s2.heap.push { cls := .type "list", data := .seq (acc ++ acc') }).get? b = some o := fun b o e => Heap.get?_push_of_some _ e
  refine L2.call_dict_pairs (s := { s2 with heap := s2.heap.push { cls := .type "list", data := .seq (acc ++ acc') }, toks := s2.toks }) (l := s2.heap.objs.size) (prs := prs ++ prs') (items := acc ++ acc') (I2.ok.hd hc) (Heap.get?_push_size _ rfl) rfl rfl rfl (by simp [a1, b1, y1, w1]) (by rw [List.length_append, a1, b1]; exact hsum) (fun j qv ej => ?_) fun h' tk dd kp2 => ?_
  · by_cases hj : j < prs.length
    · rw [List.getElem?_append_left hj] at ej
      obtain ⟨b, t, x, e1, e2, e3⟩ := a3 j qv ej
      refine ⟨b, .str x t, ?_, ⟨_, kp _ _ (at2 _ e2), rfl, _, rfl⟩, ?_⟩
      · rw [Array.getElem?_append_left (by rw [y1, ← a1]; exact hj)]
        exact e1
      · rw [e3]
        show (_ == _) = true
        exact beq_self_eq_true _
    · have hj : prs.length ≤ j := Nat.not_lt.mp hj
      rw [List.getElem?_append_right hj] at ej
      obtain ⟨b, t, x, e1, e2, e3⟩ := b3 _ qv ej
      refine ⟨b, .str x t, ?_, ⟨_, kp _ _ (at2 _ e2), rfl, _, rfl⟩, ?_⟩
      · rw [Array.getElem?_append_right (by rw [y1, ← a1]; exact hj), y1, ← a1]
        exact e1
      · rw [e3]
        show (_ == _) = true
        exact beq_self_eq_true _
  · have hold : ∀ b o, s2.heap.get? b = some o → h'.get? b = some o := fun b o e => kp2 b o (kp b o e)
    have esz : (s2.heap.push { cls := .type "list", data := .seq (acc ++ acc') }).objs.size = s2.heap.objs.size + 1 := Heap.size_push ..
    have hge : s2.heap.objs.size ≤ (s2.heap.push { cls := .type "list", data := .seq (acc ++ acc') }).objs.size := by rw [esz]; exact Nat.le_succ _
    have hsys : ((s2.heap.push { cls := .type "list", data := .seq (acc ++ acc') }).objs.size == sysModules) = false := beq_eq_false_iff_ne.mpr (Nat.ne_of_gt (Nat.lt_of_lt_of_le I2.big hge))
    have hlen : (mergeK [] ((xs.map (Sum.inr : Str → Key)).zip ys ++ (xs'.map (Sum.inr : Str → Key)).zip ys')).length ≤ sizeLine := by
      refine Nat.le_trans (length_mergeK _ _) ?_
      rw [List.length_append, List.length_zip, List.length_zip, List.length_map, List.length_map, List.length_nil, Nat.zero_add, ← y2, ← w2, Nat.min_self, Nat.min_self]
      exact hsum
    have I3 : Inv X pins σ H2 s2 := I2.pins_of fun p hp => I2.pin p (List.mem_append_right _ (List.mem_append_right _ (List.mem_append_right _ hp)))
    exact ⟨.ref (s2.heap.push { cls := .type "list", data := .seq (acc ++ acc') }).objs.size, _, I3.laid (t' := tk) (o := .dK (mergeK [] ((xs.map (Sum.inr : Str → Key)).zip ys ++ (xs'.map (Sum.inr : Str → Key)).zip ys'))) hold hge (dk_new hlen hsys (KV.merge (Paired.app a2 b2) .nil) dd), rfl, qq _ (I2.hok.fresh hge)⟩
end
end PD
end
section
set_option Elab.async false
set_option linter.all false
set_option maxRecDepth 100000
set_option maxHeartbeats 4000000
set_option autoImplicit false
namespace PD
open PySem PySem.Spec L2
open PyProof.Rows hiding St
/-! ### dict(list(zip(..)) + list(zip(..))) by data -/
def dz2D (ds es : List D) : Option (List Key × List D) := match ds, es with
  | [.tup l, .tup m], [.tup l', .tup m'] => if l.length = m.length ∧ l'.length = m'.length ∧ l.length + l'.length ≤ sizeLine then (strsD l).bind fun xs => (strsD l').map fun ys => mergeD ([], []) (xs.map Sum.inr ++ ys.map Sum.inr) (m ++ m') else none
  | _, _ => none
def eDz2 (fs gs : EA) : EK := fun ρ => mb (fs ρ) fun ds => mb (gs ρ) fun es => ml (dz2D ds es)
@[simp] theorem eDz2_ap (fs gs : EA) (ρ : Rho) (g : G) : eDz2 fs gs ρ g = (fs ρ g).bind fun p => (gs ρ p.2).bind fun q => (dz2D p.1 q.1).map fun r => (r, q.2) := by
  unfold eDz2
  rw [mb_ap]
  congr 1
  funext p
  rw [mb_ap]
  congr 1
  funext q
  exact ml_ap _ _
theorem two_tups {K : PySem.W.Frag} {F : Fz} {H : Hp} {vs : List V} {l m : List D} {xs : List Str} (s : Same F.h H) (r : RpA K F vs [.tup l, .tup m]) (hl : l.length = m.length) (e : strsD l = some xs) :
    ∃ (a b : Addr) (ys : List V), vs = [.ref a, .ref b] ∧ SqT K H a (xs.map V.str) ∧ SqT K H b ys ∧ xs.length = ys.length ∧ xs.length ≤ sizeLine ∧ RpA K F ys m ∧ xs.length = l.length := by
  have el := strsD_ok e
  subst el
  cases r with
  | cons ra rr =>
    cases rr with
    | cons rb rr =>
      cases rr
      obtain ⟨pa, us, rfl, k1, k2, k3⟩ := rp_tup ra
      obtain ⟨pb, ys, rfl, m1, m2, m3⟩ := rp_tup rb
      have eu := k3.strs
      subst eu
      have := m3.length
      rw [List.length_map] at hl k2
      exact ⟨pa, pb, ys, rfl, sqT_mono s k1, sqT_mono s m1, by omega, k2, m3, by rw [List.length_map]⟩
section
variable {X : Cx} {a e e2 e3 e4 : Expr} {f fa : E} {fs gs : EA} {p zp q pos p' zp' q' pos' dp dpos bpos : Pos}
theorem pk_dz2 (hc : X.calm = true) (hm : X.mg "dict" = none) (hml : X.mg "list" = none) (hm2 : X.mg "zip" = none) (ha : PDA X [e, e2] fs) (hb : PDA X [e3, e4] gs) (hg : Gl X "dict" := by rfl) (hgl : Gl X "list" := by rfl) (hg2 : Gl X "zip" := by rfl)
    (hs : starEach [e, e2] X.env = (false, eval e X.env) :: starEach [e2] X.env := by rfl) (hpl : (backTo q (starEach [e2] X.env)).any (·.1) = false := by rfl)
    (hz : starEach [.Call (.Name "zip" zp) [e, e2] [] q] X.env = (false, eval (.Call (.Name "zip" zp) [e, e2] [] q) X.env) :: starEach [] X.env := by rfl)
    (hs' : starEach [e3, e4] X.env = (false, eval e3 X.env) :: starEach [e4] X.env := by rfl) (hpl' : (backTo q' (starEach [e4] X.env)).any (·.1) = false := by rfl)
    (hz' : starEach [.Call (.Name "zip" zp') [e3, e4] [] q'] X.env = (false, eval (.Call (.Name "zip" zp') [e3, e4] [] q') X.env) :: starEach [] X.env := by rfl)
    (hd : starEach [.BinOp (.Call (.Name "list" p) [.Call (.Name "zip" zp) [e, e2] [] q] [] pos) .Add (.Call (.Name "list" p') [.Call (.Name "zip" zp') [e3, e4] [] q'] [] pos') bpos] X.env = (false, eval (.BinOp (.Call (.Name "list" p) [.Call (.Name "zip" zp) [e, e2] [] q] [] pos) .Add (.Call (.Name "list" p') [.Call (.Name "zip" zp') [e3, e4] [] q'] [] pos') bpos) X.env) :: starEach [] X.env := by rfl) :
    PK X (.Call (.Name "dict" dp) [.BinOp (.Call (.Name "list" p) [.Call (.Name "zip" zp) [e, e2] [] q] [] pos) .Add (.Call (.Name "list" p') [.Call (.Name "zip" zp') [e3, e4] [] q'] [] pos') bpos] [] dpos) (eDz2 fs gs) := by
  obtain ⟨t, ht, k⟩ := ha
  obtain ⟨t', ht', k'⟩ := hb
  refine ⟨_, pe_dz2 hc hg hm hgl hml hg2 hm2 ht ht' hs hpl hz hs' hpl' hz' hd, fun σ H F ρ g pre r g' ev Q qq => ?_⟩
  obtain ⟨ds, g1, e1, ev⟩ := mb_inv ev
  obtain ⟨es, g2, e2', ev⟩ := mb_inv ev
  obtain ⟨e3', rfl⟩ := ml_inv ev
  refine k σ H F ρ g pre ds _ e1 _ fun vs H1 F1 s1 r1 => ?_
  unfold dz2D at e3'
  split at e3'
  · rename_i l m l' m' _
    split at e3'
    · rename_i hl
      obtain ⟨hl1, hl2, hl3⟩ := hl
      obtain ⟨xs, e4, e5⟩ := Option.bind_eq_some_iff.mp e3'
      obtain ⟨xs', e6, rfl⟩ := Option.map_eq_some_iff.mp e5
      obtain ⟨a, b, ys, rfl, w1, w2, w3, w4, w5, w6⟩ := two_tups s1.sub r1 hl1 e4
      refine ⟨a, b, xs, ys, rfl, w1, w2, w3, ?_⟩
      refine k' σ H1 F1 ρ g1 (pre.step s1) _ _ e2' _ fun vs' H2 F2 s2 r2 => ?_
      obtain ⟨a', b', ys', rfl, v1, v2, v3, v4, v5, v6⟩ := two_tups s2.sub r2 hl2 e6
      refine ⟨a', b', xs', ys', rfl, v1, v2, v3, by omega, fun w hw => ?_⟩
      have z1 : ((xs.map (Sum.inr : Str → Key)).zip ys ++ (xs'.map (Sum.inr : Str → Key)).zip ys').map (·.1) = xs.map Sum.inr ++ xs'.map Sum.inr := by
        rw [List.map_append, List.map_fst_zip (by simp [w3]), List.map_fst_zip (by simp [v3])]
      have z2 : ((xs.map (Sum.inr : Str → Key)).zip ys ++ (xs'.map (Sum.inr : Str → Key)).zip ys').map (·.2) = ys ++ ys' := by
        rw [List.map_append, List.map_snd_zip (by simp [w3]), List.map_snd_zip (by simp [v3])]
      have app : ∀ {a b : List V} {c d : List D}, RpA X.K F2 a c → RpA X.K F2 b d → RpA X.K F2 (a ++ b) (c ++ d) := by
        intro a b c d h1 h2
        induction a generalizing c with
        | nil => cases h1; exact h2
        | cons x a ih =>
          cases h1 with
          | cons hx ht => exact .cons hx (ih ht)
      obtain ⟨q1, q2⟩ := mergeD_ok (K := X.K) (F := F2) (kvs := []) (l := []) (more := (xs.map (Sum.inr : Str → Key)).zip ys ++ (xs'.map (Sum.inr : Str → Key)).zip ys') (m := m ++ m') List.nodup_nil .nil (by rw [z2]; exact app (w5.mono s2.ext) v5)
      rw [z1] at q1 q2
      refine qq w _ F2 (mergeK [] ((xs.map (Sum.inr : Str → Key)).zip ys ++ (xs'.map (Sum.inr : Str → Key)).zip ys')) ((s1.trans s2).trans (.allocO s2.sub s2.rep hw)) ((s1.trans s2).mono _ hw) (s2.sub.free hw) (s2.rep.out hw) upd_same ?_ q1 (mergeD_nodup rfl List.nodup_nil) q2
      refine Nat.le_trans (length_mergeK _ _) ?_
      rw [List.length_append, List.length_zip, List.length_zip, List.length_map, List.length_map, List.length_nil, ← w3, ← v3, Nat.min_self, Nat.min_self, Nat.zero_add]
      omega
    · cases e3'
  · cases e3'
end
/-! ### tuple(list of texts), known whole -/
def rTupX (K : PySem.W.Frag) : List V → Hp → VK → Prop := fun xs H Q => ∃ p ys, xs = [.ref p] ∧ SqL K H p ys ∧ ∀ l o, H l = none → o.cls = .type "tuple" → o.dict = none → Q (.ref l) (upd H l (.frz o (.tup ys)))
theorem call_tupleX {X : Cx} : CallR X (.type "tuple") (rTupX X.K) := by
  intro pins s σ H xs us Q I r h
  obtain ⟨p, ys, rfl, hq, q⟩ := h
  obtain ⟨u, rfl, rx⟩ := vals1 r
  cases rx
  obtain ⟨its, r', pl, hz⟩ := I.list hq
  have hlen := r'.length
  refine call_tuple_list pl.isList (fun h' kp => ?_) (by simp only [List.size_toArray] <;> omega)
  have I1 : Inv X pins σ H { s with heap := h' } := I.kept (t' := s.toks) kp
  refine ⟨.ref h'.objs.size, _, I1.laid (t' := s.toks) (o := .frz { cls := .type "tuple", data := .seq its.toArray } (.tup ys)) (fun b o e => Heap.get?_push_of_some _ e) (Nat.le_refl _) ?_, rfl, q _ _ (I1.hok.fresh (Nat.le_refl _)) rfl rfl⟩
  exact ⟨Heap.get?_push_size _ rfl, hz, its, r', ⟨_, Heap.get?_push_size _ rfl, rfl, _, rfl⟩⟩
def tupXD : List D → Option D
  | [.lst l] => (strsD l).map .tx
  | _ => none
theorem tupXD_ok {K : PySem.W.Frag} : CallD K (rTupX K) tupXD := fun F H g vs ds d s gr rv e Q q => by
  unfold tupXD at e
  split at e
  · rename_i l
    obtain ⟨xs, e1, rfl⟩ := Option.map_eq_some_iff.mp e
    have el := strsD_ok e1
    subst el
    obtain ⟨a, us, rfl, h1, _, h2, h3⟩ := lst1 s rv
    have eu := h3.strs
    have hs := ok_strs h3
    subst eu
    rw [List.length_map] at h2
    exact ⟨a, _, rfl, h1, fun p o hp hc hd => q _ _ (F.upd p (.frz o (.tup (xs.map V.str)))) (.alloc s gr hp) (.tx upd_same hc hd h2 hs)⟩
  · cases e
section
variable {X : Cx} {e : Expr} {fs : EA} {p pos : Pos}
theorem pd_tupleX (hm : X.mg "tuple" = none) (ha : PDA X [e] fs) (hg : Gl X "tuple" := by rfl) (he : starEach [e] X.env = (false, eval e X.env) :: starEach [] X.env := by rfl) : PD X (.Call (.Name "tuple" p) [e] [] pos) (eBi tupXD fs) :=
  pd_biTD call_tupleX tupXD_ok hm ha (by decide +kernel) hg (by decide) (by decide) he (by rfl)
end
/-! ### dict(pairs) whose keys are tuples of ints -/
def kI (ns : List Int) : List Key := ns.map Sum.inl
theorem kV_ints (ns : List Int) : (kI ns).map kV = ns.map V.int := by
  unfold kI
  rw [List.map_map]
  rfl
abbrev rDT (K : PySem.W.Frag) : List V → Hp → VK → Prop := fun xs H Q => ∃ (a : Addr) (ps : List Addr) (kas : List (List Key × Addr × V)), xs = [.ref a] ∧ SqL K H a (ps.map V.ref) ∧ Paired (fun p ka => SqT K H p [.ref ka.2.1, ka.2.2]) ps kas ∧
  (∀ x ∈ kas, SqT K H x.2.1 (x.1.map kV)) ∧ (∀ x ∈ kas, ∃ ns, x.1 = kI ns) ∧ (kas.map (·.1)).Nodup ∧ ∀ p, H p = none → Q (.ref p) (upd H p (.ext (DTX p kas)))
theorem pairs_at {X : Cx} {pins : List (Addr × Obj)} {σ : St} {H : Hp} {s : Shared} (I : Inv X pins σ H s) : ∀ {ps : List Addr} {kas : List (List Key × Addr × V)}, Paired (fun p ka => SqT X.K H p [.ref ka.2.1, ka.2.2]) ps kas →
    ∃ prs : List (List Key × Addr × Value), Paired (fun (p : List Key × Addr × V) (q : List Key × Addr × Value) => p.1 = q.1 ∧ p.2.1 = q.2.1 ∧ RelV p.2.2 q.2.2) kas prs ∧ prs.length = ps.length ∧
      ∀ (j : Nat) (q : List Key × Addr × Value), prs[j]? = some q → ∃ b : Addr, ps[j]? = some b ∧ IsTup s.heap b #[.ref q.2.1, q.2.2]
  | _, _, .nil => ⟨[], .nil, rfl, fun j q e => by simp at e⟩
  | _, _, .cons (a := p) (b := ka) h t => by
    obtain ⟨prs, r, hl, hp⟩ := pairs_at I t
    obtain ⟨its, rv, ht, _⟩ := I.tuple h
    obtain ⟨u, y, ei, ru, ry⟩ := vals2 rv
    subst ei
    cases ru
    refine ⟨(ka.1, ka.2.1, y) :: prs, .cons ⟨rfl, rfl, ry⟩ r, by rw [List.length_cons, List.length_cons, hl], fun j q e => ?_⟩
    cases j with
    | zero =>
      have e' : (ka.1, ka.2.1, y) = q := Option.some.inj e
      subst e'
      exact ⟨p, rfl, ht⟩
    | succ j =>
      obtain ⟨b, e1, e2⟩ := hp j q (by simpa using e)
      exact ⟨b, by simpa using e1, e2⟩
theorem stored_all {K : Type} [DecidableEq K] : ∀ (ps xs : List (K × Addr × Value)), ((xs ++ ps).map (·.1)).Nodup → storedAllH xs ps = xs ++ ps
  | [], xs, _ => by rw [List.append_nil]; rfl
  | p :: ps, xs, h => by
    have hn : p.1 ∉ xs.map (·.1) := by
      rw [List.map_append, List.map_cons] at h
      intro hm
      exact (List.nodup_append.mp h).2.2 _ hm _ List.mem_cons_self rfl
    have ha : atKey xs p.1 = none := by
      unfold atKey
      rw [Option.map_eq_none_iff, List.find?_eq_none]
      intro x hx
      simp only [decide_eq_true_eq]
      exact fun e => hn (List.mem_map.mpr ⟨x, hx, e⟩)
    have e : storedH xs p.1 p.2.1 p.2.2 = xs ++ [p] := by
      unfold storedH
      rw [ha]
      rfl
    show storedAllH (storedH xs p.1 p.2.1 p.2.2) ps = _
    rw [e, stored_all ps (xs ++ [p]) (by simpa using h)]
    simp
theorem paired_get {α β : Type} {P : α → β → Prop} : ∀ {as : List α} {bs : List β}, Paired P as bs → ∀ (j : Nat) (b : β), bs[j]? = some b → ∃ a, as[j]? = some a ∧ P a b
  | _, _, .nil, j, b, e => by simp at e
  | _, _, .cons h t, 0, b, e => by simp at e; subst e; exact ⟨_, rfl, h⟩
  | _, _, .cons h t, j + 1, b, e => by
    obtain ⟨a, h1, h2⟩ := paired_get t j b (by simpa using e)
    exact ⟨a, by simpa using h1, h2⟩
theorem paired_fst {kas : List (List Key × Addr × V)} {prs : List (List Key × Addr × Value)} (h : Paired (fun (p : List Key × Addr × V) (q : List Key × Addr × Value) => p.1 = q.1 ∧ p.2.1 = q.2.1 ∧ RelV p.2.2 q.2.2) kas prs) : kas.map (·.1) = prs.map (·.1) := by
  induction h with
  | nil => rfl
  | cons h t ih => rw [List.map_cons, List.map_cons, ih, h.1]
theorem hash_any (P P' : Program) (w w' : World) (ns : List Int) : (tupleKind (mixKind P w)).hash (kI ns) = (tupleKind (mixKind P' w')).hash (kI ns) := by
  show tupleKeyHash (mixKind P w) (kI ns) = tupleKeyHash (mixKind P' w') (kI ns)
  unfold tupleKeyHash kI
  rw [List.map_map, List.map_map]
  rfl
theorem key_at {X : Cx} {pins : List (Addr × Obj)} {σ : St} {H : Hp} {s : Shared} (I : Inv X pins σ H s) {a : Addr} {ks : List Key} (h : SqT X.K H a (ks.map kV)) : (tupleKind (mixKind X.prog X.w)).is s.heap ks a := by
  obtain ⟨its, r, ⟨o, h1, h2, n, h3⟩, _⟩ := I.tuple h
  exact ⟨o, its.toArray, n, h1, h2, h3, by simpa using items_are r⟩
theorem call_dictT {X : Cx} (hcalm : X.calm = true) (hu : X.A.units + 64 < cLine) : CallR X (.type "dict") (rDT X.K) := by
  intro pins s σ H xs us Q I r h
  obtain ⟨a, ps, kas, rfl, hq, hp, hk, hi, hn, q⟩ := h
  obtain ⟨u, rfl, rx⟩ := vals1 r
  cases rx
  obtain ⟨its, rv, ⟨o, n, ho, hc, hd, hdat⟩, hz⟩ := I.list hq
  have ei := refs_at rv
  subst ei
  rw [List.length_map] at hz
  obtain ⟨prs, pr, pl, pa⟩ := pairs_at I hp
  have hfst := paired_fst pr
  have hnd : (prs.map (·.1)).Nodup := by rw [← hfst]; exact hn
  have hlen : kas.length = prs.length := pr.length
  have hin : ∀ x ∈ prs, ∃ y ∈ kas, y.1 = x.1 ∧ y.2.1 = x.2.1 := fun x hx => by
    obtain ⟨j, hj⟩ := List.getElem?_of_mem hx
    obtain ⟨y, h1, h2⟩ := paired_get pr j x hj
    exact ⟨y, List.mem_of_getElem? h1, h2.1, h2.2.1⟩
  have P := PairArg.list (prog := X.prog) (w := X.w) a (ps.map Value.ref).toArray (fun j => (ps[j]?).getD 0) (prs.map fun q => (Value.ref q.2.1, q.2.2))
  have hl : (prs.map fun q => (Value.ref q.2.1, q.2.2)).length = prs.length := List.length_map _
  refine PySem.call_dict_pairsH (knd := tupleKind (mixKind X.prog X.w)) (ps := prs) P (I.ok.hd hcalm) ?_ ⟨⟨o, n, ho, hc, hd, hdat⟩, ?_, ?_⟩ ⟨by rw [hl], ?_⟩ ?_ ?_ fun h' tk dd kp => ?_
  · exact tupleKind_room_in1 (A := X.A.in1) (by show X.A.units + 1 + 1 < cLine; omega)
  · rw [hl, pl]; simp
  · intro j k v e
    rw [List.getElem?_map] at e
    obtain ⟨x, hx, e2⟩ := Option.map_eq_some_iff.mp e
    cases e2
    obtain ⟨b, e1, e2⟩ := pa j x hx
    refine ⟨by simp [e1], ?_⟩
    show PairAt s.heap ((ps[j]?).getD 0) _ _
    rw [e1]
    exact .inl e2
  · intro i key v e
    have e : (prs.map fun q => (Value.ref q.2.1, q.2.2))[i]? = some (key, v) := e
    rw [List.getElem?_map] at e
    obtain ⟨x, hx, e2⟩ := Option.map_eq_some_iff.mp e
    cases e2
    exact ⟨x.1, x.2.1, hx, rfl⟩
  · intro h' hk' x hx
    obtain ⟨y, hy, e1, e2⟩ := hin x hx
    obtain ⟨its, r, ⟨o, h1, h2, n, h3⟩, _⟩ := I.tuple (hk y hy)
    rw [e2] at h1
    rw [e1] at r
    exact ⟨o, its.toArray, n, hk' _ _ (Nat.ne_of_lt (Heap.lt_size h1)) (by simp) h1, h2, h3, by simpa using items_are r⟩
  · rw [hl, pl]; exact hz
  · have e0 : storedAllH [] prs = prs := stored_all prs [] hnd
    rw [e0] at dd
    have hm : (s.heap.objs.size == sysModules) = false := beq_eq_false_iff_ne.mpr (Nat.ne_of_gt I.big)
    have kp' : ∀ b o, s.heap.get? b = some o → h'.get? b = some o := fun b o e => kp b o (by simp) e
    obtain ⟨od, es, ep, d1, d2, d3, d4, _, _⟩ := dd
    refine ⟨.ref s.heap.objs.size, _, I.laid (t' := tk) (o := .ext (DTX s.heap.objs.size kas)) kp' (Nat.le_refl _) ⟨⟨by rw [hlen, pl]; exact hz, hm, prs, pr, od, es, ep, d1, d2, d3, fun P w => ?_, hnd⟩, ⟨od, d1⟩, fun h1 h2 hx hy => ?_⟩, rfl, q _ (I.hok.fresh (Nat.le_refl _))⟩
    · rw [d4]
      refine List.map_congr_left fun x hx => ?_
      obtain ⟨y, hy, e1, _⟩ := hin x hx
      obtain ⟨ns, en⟩ := hi y hy
      unfold entryOfKey
      have ex : x.1 = kI ns := by rw [← e1, en]
      rw [ex, hash_any X.prog P X.w w ns]
    · obtain ⟨z1, z2, zs, z3, zo, ze, zp, z4, z5⟩ := hx
      exact ⟨z1, z2, zs, z3, zo, ze, zp, hy _ z4, z5⟩
def intsD : List D → Option (List Int)
  | [] => some []
  | .int i :: l => (intsD l).map (i :: ·)
  | _ => none
theorem intsD_ok : ∀ {l : List D} {ns : List Int}, intsD l = some ns → l = ns.map D.int
  | [], ns, e => by cases e; rfl
  | .int i :: l, ns, e => by
    obtain ⟨ms, h1, rfl⟩ := Option.map_eq_some_iff.mp (show (intsD l).map (i :: ·) = some ns from e)
    rw [intsD_ok h1]
    rfl
  | .non :: _, ns, e => by cases e
  | .bl _ :: _, ns, e => by cases e
  | .str _ :: _, ns, e => by cases e
  | .tup _ :: _, ns, e => by cases e
  | .lst _ :: _, ns, e => by cases e
  | .dk _ _ :: _, ns, e => by cases e
  | .dt _ _ :: _, ns, e => by cases e
  | .hd _ :: _, ns, e => by cases e
  | .tx _ :: _, ns, e => by cases e
theorem intsD_map (ns : List Int) : intsD (ns.map .int) = some ns := by
  induction ns with
  | nil => rfl
  | cons n ns ih =>
    show (intsD (ns.map .int)).map (n :: ·) = _
    rw [ih]
    rfl
/-- a list of pairs (tuple of ints, thing) -/
def pairsT : List D → Option (List (List Int × D))
  | [] => some []
  | .tup [.tup k, v] :: l => (intsD k).bind fun ns => (pairsT l).map ((ns, v) :: ·)
  | _ => none
def dtD : List D → Option D
  | [.lst l] => (pairsT l).bind fun ps => if (ps.map (·.1)).Nodup then some (.dt (ps.map fun p => kI p.1) (ps.map (·.2))) else none
  | _ => none
theorem kI_inj {x y : List Int} (h : kI x = kI y) : x = y := by
  induction x generalizing y with
  | nil => cases y with
    | nil => rfl
    | cons b y => cases h
  | cons a x ih => cases y with
    | nil => cases h
    | cons b y =>
      have h : Sum.inl a :: kI x = (Sum.inl b : Key) :: kI y := h
      injection h with h1 h2
      rw [Sum.inl.inj h1, ih h2]
theorem pairs_rp {K : PySem.W.Frag} {F : Fz} : ∀ {l : List D} {vs : List V} {ps : List (List Int × D)}, RpA K F vs l → pairsT l = some ps → ∃ (as : List Addr) (kas : List (List Key × Addr × V)), vs = as.map V.ref ∧
    Paired (fun p ka => SqT K F.h p [.ref ka.2.1, ka.2.2]) as kas ∧ (∀ x ∈ kas, SqT K F.h x.2.1 (x.1.map kV)) ∧ (∀ x ∈ kas, ∃ ns, x.1 = kI ns) ∧ kas.map (·.1) = ps.map (fun p => kI p.1) ∧ RpA K F (kas.map (·.2.2)) (ps.map (·.2))
  | [], vs, ps, r, e => by
    cases r
    cases e
    exact ⟨[], [], rfl, .nil, by simp, by simp, rfl, .nil⟩
  | d :: l, vs, ps, r, e => by
    unfold pairsT at e
    split at e
    · cases ‹_ :: _ = []›
    · rename_i k v l' hl
      cases hl
      obtain ⟨ns, e1, e2⟩ := Option.bind_eq_some_iff.mp e
      obtain ⟨ps', e3, rfl⟩ := Option.map_eq_some_iff.mp e2
      have ek := intsD_ok e1
      subst ek
      cases r with
      | cons r1 rr =>
        obtain ⟨as, kas, rfl, k1, k2, k3, k4, k5⟩ := pairs_rp rr e3
        obtain ⟨a, xs, rfl, h1, _, h3⟩ := rp_tup r1
        cases h3 with
        | cons ra h3 =>
          cases h3 with
          | cons rb h3 =>
            cases h3
            obtain ⟨b, ys, rfl, m1, _, m3⟩ := rp_tup ra
            have ey := m3.ints
            subst ey
            refine ⟨a :: as, (kI ns, b, _) :: kas, rfl, .cons h1 k1, fun x hx => ?_, fun x hx => ?_, by rw [List.map_cons, List.map_cons, k4], .cons rb k5⟩
            · rcases List.mem_cons.mp hx with e | hx
              · subst e
                rw [kV_ints]
                exact m1
              · exact k2 x hx
            · rcases List.mem_cons.mp hx with e | hx
              · subst e
                exact ⟨ns, rfl⟩
              · exact k3 x hx
    · cases e
theorem dtD_ok {K : PySem.W.Frag} : CallD K (rDT K) dtD := fun F H g vs ds d s gr rv e Q q => by
  unfold dtD at e
  split at e
  · rename_i l
    obtain ⟨ps, e1, e2⟩ := Option.bind_eq_some_iff.mp e
    split at e2
    · rename_i hn
      cases e2
      obtain ⟨a, xs, rfl, h1, _, h2, h3⟩ := lst1 s rv
      obtain ⟨as, kas, rfl, k1, k2, k3, k4, k5⟩ := pairs_rp h3 e1
      have hnd : (kas.map (·.1)).Nodup := by
        rw [k4]
        have : ps.map (fun p => kI p.1) = (ps.map (·.1)).map kI := by rw [List.map_map]; rfl
        rw [this]
        show List.Pairwise (· ≠ ·) _
        rw [List.pairwise_map]
        exact hn.imp fun {x y} h e => h (kI_inj e)
      refine ⟨a, as, kas, rfl, h1, Paired.mapP k1 fun _ _ z => sqT_mono s z, fun x hx => sqT_mono s (k2 x hx), k3, hnd, fun p hp => ?_⟩
      have hF : F p = none := s.free hp
      refine q _ _ (F.upd p (.ext (DTX p kas))) (.alloc s gr hp) ?_
      rw [← k4]
      exact .dm upd_same (fun x hx => sqT_mono (Ext.upd hF).h (k2 x hx)) (k5.mono (.upd hF))
    · cases e2
  · cases e
section
variable {X : Cx} {a b e : Expr} {fa fb : E} {fs : EA} {p pos : Pos} {k : Nat}
theorem pd_dictT (hc : X.calm = true) (hr : Room k X.A) (hm : X.mg "dict" = none) (ha : PDA X [e] fs) (hg : Gl X "dict" := by rfl) (he : starEach [e] X.env = (false, eval e X.env) :: starEach [] X.env := by rfl) : PD X (.Call (.Name "dict" p) [e] [] pos) (eBi dtD fs) :=
  pd_biTD (call_dictT hc (hu64 hr)) dtD_ok hm ha (by decide +kernel) hg (by decide) (by decide) he (by rfl)
end
/-! ### d[t], t in d -/
def HasDT (K : PySem.W.Frag) (H : Hp) (a : Addr) (kvs : List (List Key × V)) : Prop := Rd H a (.dT kvs) ∨ ∃ kas : List (List Key × Addr × V), H a = some (.ext (DTX a kas)) ∧ (∀ x ∈ kas, SqT K H x.2.1 (x.1.map kV)) ∧ kvs = kas.map fun x => (x.1, x.2.2)
theorem held_dt {X : Cx} {pins : List (Addr × Obj)} {σ : St} {H : Hp} {s : Shared} {a : Addr} {kvs : List (List Key × V)} (I : Inv X pins σ H s) (h : HasDT X.K H a kvs) :
    (a == sysModules) = false ∧ ∃ xs, s.heap.DictOfH (tupleKind (mixKind X.prog X.w)) a xs ∧ Paired (fun (p : List Key × V) (q : List Key × Addr × Value) => p.1 = q.1 ∧ RelV p.2 q.2.2) kvs xs := by
  rcases h with h | ⟨kas, h1, h2, rfl⟩
  · obtain ⟨_, hd, xs, r, dd⟩ := dt_rd I.hok h
    exact ⟨hd, xs, dd, Paired.mapP r fun _ _ z => ⟨z.1, z.2.2⟩⟩
  · obtain ⟨⟨_, hd, xs, r, o, es, ep, z1, z2, z3, z4, z5⟩, _, _⟩ := (show ObjOk X.prog X.w H s.heap a (.ext (DTX a kas)) from I.hok a _ h1)
    refine ⟨hd, xs, ⟨o, es, ep, z1, z2, z3, z4 _ _, fun x hx => ?_, z5⟩, ?_⟩
    · obtain ⟨j, hj⟩ := List.getElem?_of_mem hx
      obtain ⟨y, e1, e2⟩ := paired_get r j x hj
      have := key_at I (h2 y (List.mem_of_getElem? e1))
      rw [e2.1, e2.2.1] at this
      exact this
    · clear h1 h2 z4 z5 z3
      rename_i q1 _ q2
      clear q1 q2
      induction r with
      | nil => exact .nil
      | cons h t ih => exact .cons ⟨h.1, h.2.2⟩ ih
theorem val_dt {kvs : List (List Key × V)} {xs : List (List Key × Addr × Value)} (r : Paired (fun (p : List Key × V) (q : List Key × Addr × Value) => p.1 = q.1 ∧ RelV p.2 q.2.2) kvs xs) (k : List Key) : RelO (valV kvs k) ((atKey xs k).map (·.2)) := by
  induction r with
  | nil => exact True.intro
  | @cons p q ps qs h t ih =>
    obtain ⟨h1, h2⟩ := h
    by_cases e : p.1 = k
    · have e' : q.1 = k := h1.symm.trans e
      have b : atKey (q :: qs) k = some q.2 := by simp [atKey, List.find?_cons, e']
      rw [valV_pos e, b]; exact h2
    · have e' : ¬ q.1 = k := fun z => e (h1.trans z)
      have b : atKey (q :: qs) k = atKey qs k := by simp [atKey, List.find?_cons, e']
      rw [valV_neg e, b]; exact ih
theorem rp_hasDT {K : PySem.W.Frag} {F : Fz} {H : Hp} {v : V} {ks : List (List Key)} {ds : List D} (s : Same F.h H) (h : Rp K F v (.dt ks ds)) : ∃ (a : Addr) (kvs : List (List Key × V)), v = .ref a ∧ HasDT K H a kvs ∧ kvs.map (·.1) = ks ∧ RpA K F (kvs.map (·.2)) ds := by
  cases h with
  | dt h1 h3 => exact ⟨_, _, rfl, .inl (Rd.mono s h1), rfl, h3⟩
  | dm h1 h2 h3 =>
    refine ⟨_, _, rfl, .inr ⟨_, s _ _ h1, fun x hx => sqT_mono s (h2 x hx), rfl⟩, by rw [List.map_map]; rfl, ?_⟩
    rw [List.map_map]
    exact h3
def rGetT (K : PySem.W.Frag) : R2 := fun x y H Q => ∃ (a b : Addr) (kvs : List (List Key × V)) (k : List Key) (v : V), x = .ref a ∧ y = .ref b ∧ HasDT K H a kvs ∧ SqT K H b (k.map kV) ∧ valV kvs k = some v ∧ Q v H
def tGetT (K : PySem.W.Frag) (td ty : TE) : TE := fun σ H Q => td σ H fun x H1 => ty σ H1 fun y H2 => rGetT K x y H2 Q
theorem pe_getT {X : Cx} {o i : Expr} {td ty : TE} {pos : Pos} (hu : X.A.units + 1 < cLine) (ho : PE X o td) (hi : PE X i ty) (hs : NoSl i) : PE X (.Subscript o i pos) (tGetT X.K td ty) := by
  refine ⟨fun pins s σ H Q I h => ?_⟩
  refine subD_of PySem.F.slot_dict_getitem.lookup hs (thn (ho.run pins s σ H _ I h) fun u s1 ⟨x, H1, I1, rx, q1⟩ => thn (hi.run pins s1 σ H1 _ I1 q1) fun iv s2 ⟨y, H2, I2, ry, a, b, kvs, k, v, ex, ey, g, hb, hv, q2⟩ => ?_)
  subst ex
  subst ey
  obtain rfl : u = Value.ref a := rx
  obtain rfl : iv = Value.ref b := ry
  obtain ⟨_, xs, dd, rel⟩ := held_dt I2 g
  obtain ⟨w', hw, rw'⟩ := RelO.some_of (v := v) (o := (atKey xs k).map (·.2)) (by rw [← hv]; exact val_dt rel k)
  obtain ⟨p, hp, hp2⟩ := Option.map_eq_some_iff.mp hw
  refine ⟨dd.typeIs, wpAny_getItem_heap (tupleKind_room_in1 hu) (key_at I2 hb) dd hp ?_⟩
  rw [hp2]
  exact ⟨v, H2, I2.tok _, rw', q2⟩
def lookT (ks : List (List Key)) (l : List D) (k : List Key) : Option D := match ks, l with
  | k' :: ks, d :: l => if k' = k then some d else lookT ks l k
  | _, _ => none
theorem lookT_ok {K : PySem.W.Frag} {F : Fz} {k : List Key} : ∀ {kvs : List (List Key × V)} {l : List D} {d : D}, RpA K F (kvs.map (·.2)) l → lookT (kvs.map (·.1)) l k = some d → ∃ v, valV kvs k = some v ∧ Rp K F v d
  | [], l, d, r, e => by cases l <;> cases e
  | (k', v) :: kvs, l, d, r, e => by
    cases r with
    | cons r rr =>
      simp only [List.map_cons, lookT] at e
      by_cases h : k' = k
      · rw [if_pos h] at e
        cases e
        exact ⟨v, valV_pos h, r⟩
      · rw [if_neg h] at e
        obtain ⟨u, h1, h2⟩ := lookT_ok rr e
        exact ⟨u, by rw [valV_neg h]; exact h1, h2⟩
def getT (x y : D) : Option D := match x, y with
  | .dt ks l, .tup m => (intsD m).bind fun ns => lookT ks l (kI ns)
  | _, _ => none
def eIxT (a b : E) : E := eOp getT a b
theorem pd_ixT {X : Cx} {a b : Expr} {fa fb : E} {pos : Pos} {k : Nat} (hr : Room k X.A) (ha : PD X a fa) (hb : PD X b fb) (hs2 : NoSl b := by exact fun _ _ => rfl) : PD X (.Subscript a b pos) (eOp getT fa fb) := by
  obtain ⟨ta, pa, ka⟩ := ha
  obtain ⟨tb, pb, kb⟩ := hb
  have hu : X.A.units + 1 < cLine := hu_of hr
  refine ⟨_, pe_getT hu pa pb hs2, fun σ H F ρ g pre d g' e Q q => ?_⟩
  obtain ⟨dx, g1, e1, e⟩ := mb_inv e
  obtain ⟨dy, g2, e2, e⟩ := mb_inv e
  obtain ⟨e3, rfl⟩ := ml_inv e
  refine ka σ H F ρ g pre dx g1 e1 _ fun x H1 F1 s1 r1 => kb σ H1 F1 ρ g1 (pre.step s1) dy _ e2 _ fun y H2 F2 s2 r2 => ?_
  unfold getT at e3
  split at e3
  · rename_i ks l m
    obtain ⟨ns, e4, e5⟩ := Option.bind_eq_some_iff.mp e3
    have em := intsD_ok e4
    subst em
    obtain ⟨aa, kvs, rfl, hh, rfl, hd⟩ := rp_hasDT s2.sub (r1.mono s2.ext)
    obtain ⟨bb, ys, rfl, m1, _, m3⟩ := rp_tup r2
    have ey := m3.ints
    subst ey
    obtain ⟨v, hv, hvd⟩ := lookT_ok hd e5
    exact ⟨aa, bb, kvs, kI ns, v, rfl, rfl, hh, by rw [kV_ints]; exact sqT_mono s2.sub m1, hv, q v H2 F2 (s1.trans s2) hvd⟩
  · cases e3
def rNotInT (K : PySem.W.Frag) : R2 := fun x y H Q => ∃ (a b : Addr) (kvs : List (List Key × V)) (k : List Key), x = .ref b ∧ y = .ref a ∧ HasDT K H a kvs ∧ SqT K H b (k.map kV) ∧ Q (.bl (!(valV kvs k).isSome)) H
theorem op_notInT {X : Cx} (hu : X.A.units + 64 < cLine) : OpR X (compareOp .NotIn) (rNotInT X.K) := by
  intro pins s σ H x y v u Q I rx ry h
  obtain ⟨a, b, kvs, k, rfl, rfl, hh, hb, q⟩ := h
  cases rx
  cases ry
  obtain ⟨hd, xs, dd, rel⟩ := held_dt I hh
  refine wpAny_notIn_heap (tupleKind_room_in1 (by omega)) (key_at I hb) hd dd ?_
  have z := (val_dt rel k).isSome_eq
  rw [Option.isSome_map] at z
  rw [← z]
  exact ⟨.bl (!(valV kvs k).isSome), H, I.tok _, rfl, q⟩
def notInT (x y : D) : Option Bool := match x, y with
  | .tup m, .dt ks l => if ks.length = l.length then (intsD m).map fun ns => !(ks.any fun k' => decide (k' = kI ns)) else none
  | _, _ => none
theorem valV_mem {k : List Key} : ∀ (kvs : List (List Key × V)), (valV kvs k).isSome = ((kvs.map (·.1)).any fun k' => decide (k' = k))
  | [] => by simp [valV]
  | (k', v) :: kvs => by
    by_cases h : k' = k
    · rw [valV_pos h]
      simp [h]
    · rw [valV_neg h, valV_mem kvs]
      simp [h]
theorem notInT_ok {K : PySem.W.Frag} : OpB K (rNotInT K) notInT := fun W H x y dx dy b s rx ry e Q q => by
  unfold notInT at e
  split at e
  · rename_i m ks l
    split at e
    · obtain ⟨ns, e4, rfl⟩ := Option.map_eq_some_iff.mp e
      have em := intsD_ok e4
      subst em
      obtain ⟨aa, kvs, rfl, hh, rfl, hd⟩ := rp_hasDT s ry
      obtain ⟨bb, ys, rfl, m1, _, m3⟩ := rp_tup rx
      have ey := m3.ints
      subst ey
      refine ⟨aa, bb, kvs, kI ns, rfl, rfl, hh, by rw [kV_ints]; exact sqT_mono s m1, ?_⟩
      rw [valV_mem]
      exact q
    · cases e
  · cases e
end PD
end
section
set_option Elab.async false
set_option linter.all false
set_option maxRecDepth 100000
set_option maxHeartbeats 4000000
set_option autoImplicit false
namespace PD
open PySem PySem.Spec L2
open PyProof.Rows hiding St
/-! ### a, b = a list of two -/
def bLst (b : Bs) : B := fun d ρ => match d with
  | .lst ds => b ds ρ
  | _ => none
@[simp] theorem bLst_lst (b : Bs) (ds : List D) (ρ : Rho) : bLst b (.lst ds) ρ = b ds ρ := rfl
theorem pdg_lst {X : Cx} {pos : Pos} {es : List Expr} {k : Nat} {sl : List Nat} {bd : Bs} (hc : X.calm = true) (h : PDGs X es sl bd) (hn : (assignEach es X.env).length = es.length := by rfl) (hst : (assignEach es X.env).findIdx? (·.1) = none := by rfl) :
    PDG X (.Tuple es k pos) sl (bLst bd) := by
  obtain ⟨t, p, l, k⟩ := h
  refine ⟨_, pg_unl (n := es.length) hc p hn hst, fun σ H F ρ g v d ρ' pre r e Q q => ?_⟩
  cases d with
  | lst ds =>
    obtain ⟨a, xs, rfl, h1, h2, h3⟩ := rp_lst r
    exact ⟨a, xs, rfl, sqL_mono pre.sub h1, by rw [h3.length, l ds ρ ρ' e], k σ H F ρ g xs ds ρ' pre h3 e Q q⟩
  | _ => cases e
end PD
end
section
set_option Elab.async false
set_option linter.all false
set_option maxRecDepth 100000
set_option maxHeartbeats 4000000
set_option autoImplicit false
namespace PD
open PySem PySem.Spec L2
open PyProof.Rows hiding St
/-! ### things of the store, looked at as they are -/
def optA (f : D → Option D) : List D → Option (List D)
  | [] => some []
  | d :: l => (f d).bind fun x => (optA f l).map (x :: ·)
/-- lists of the store in the place of their handles -/
def rsv : Nat → G → D → Option D
  | 0, _, d => some d
  | k + 1, g, d => match d with
    | .hd n => match g[n]? with
      | some (.ml l) => (optA (rsv k g) l).map .lst
      | _ => none
    | .lst l => (optA (rsv k g) l).map .lst
    | .tup l => (optA (rsv k g) l).map .tup
    | d => some d
def allF (F : Fz) (H : Hp) : Fz := ⟨H, F.mu⟩
theorem ext_all {F : Fz} {H : Hp} (s : Same F.h H) : Ext F (allF F H) := ⟨s, List.prefix_refl _⟩
theorem rpA_opt {K : PySem.W.Frag} {F W : Fz} {f : D → Option D} (h : ∀ v d d', Rp K F v d → f d = some d' → Rp K W v d') : ∀ {l l' : List D} {vs : List V}, RpA K F vs l → optA f l = some l' → RpA K W vs l'
  | [], l', vs, r, e => by cases r; cases e; exact .nil
  | d :: l, l', vs, r, e => by
    obtain ⟨x, e1, e2⟩ := Option.bind_eq_some_iff.mp e
    obtain ⟨m, e3, rfl⟩ := Option.map_eq_some_iff.mp e2
    cases r with
    | cons r0 rr => exact .cons (h _ _ _ r0 e1) (rpA_opt h rr e3)
theorem rp_rsv {K : PySem.W.Frag} {F : Fz} {H : Hp} {g : G} (s : Same F.h H) (r : GRep K g F H) : ∀ (k : Nat) (v : V) (d d' : D), Rp K F v d → rsv k g d = some d' → Rp K (allF F H) v d'
  | 0, v, d, d', h, e => by cases e; exact h.mono (ext_all s)
  | k + 1, v, d, d', h, e => by
    have ih := rp_rsv s r k
    unfold rsv at e
    split at e
    · rename_i n
      split at e
      · rename_i l hg
        obtain ⟨l', e1, rfl⟩ := Option.map_eq_some_iff.mp e
        obtain ⟨a, hm, _, vs, h3, h4, h5⟩ := r.get hg
        have := rp_hd h hm
        subst this
        exact .lst (.of h3) h4 (rpA_opt ih h5 e1)
      · cases e
    · obtain ⟨l', e1, rfl⟩ := Option.map_eq_some_iff.mp e
      obtain ⟨a, xs, rfl, h1, h2, h3⟩ := rp_lst h
      exact .lst (sqL_mono s h1) h2 (rpA_opt ih h3 e1)
    · obtain ⟨l', e1, rfl⟩ := Option.map_eq_some_iff.mp e
      obtain ⟨a, xs, rfl, h1, h2, h3⟩ := rp_tup h
      exact .tup (sqT_mono s h1) h2 (rpA_opt ih h3 e1)
    · cases e
      exact h.mono (ext_all s)
def rs2 (h : D → D → Option Bool) (g : G) (x y : D) : Option Bool := (rsv 4 g x).bind fun x' => (rsv 4 g y).bind fun y' => h x' y'
def tCmpR (h : D → D → Option Bool) (a b : E) : T := fun ρ => mb (a ρ) fun x => mb (b ρ) fun y => fun g => (rs2 h g x y).map fun r => (r, g)
def eCmpR (h : D → D → Option Bool) (a b : E) : E := fun ρ => mb (a ρ) fun x => mb (b ρ) fun y => fun g => (rs2 h g x y).map fun r => (.bl r, g)
@[simp] theorem tCmpR_ap (h : D → D → Option Bool) (a b : E) (ρ : Rho) (g : G) : tCmpR h a b ρ g = (a ρ g).bind fun p => (b ρ p.2).bind fun q => (rs2 h q.2 p.1 q.1).map fun r => (r, q.2) := by
  refine (mb_ap _ _ _).trans ?_
  congr 1
  funext p
  exact mb_ap _ _ _
@[simp] theorem eCmpR_ap (h : D → D → Option Bool) (a b : E) (ρ : Rho) (g : G) : eCmpR h a b ρ g = (a ρ g).bind fun p => (b ρ p.2).bind fun q => (rs2 h q.2 p.1 q.1).map fun r => (.bl r, q.2) := by
  refine (mb_ap _ _ _).trans ?_
  congr 1
  funext p
  exact mb_ap _ _ _
def eBiR (h : List D → Option D) (as : EA) : E := fun ρ => mb (as ρ) fun ds => fun g => ((optA (rsv 4 g) ds).bind h).map fun d => (d, g)
@[simp] theorem eBiR_ap (h : List D → Option D) (as : EA) (ρ : Rho) (g : G) : eBiR h as ρ g = (as ρ g).bind fun p => ((optA (rsv 4 p.2) p.1).bind h).map fun d => (d, p.2) := by
  exact mb_ap _ _ _
section
variable {X : Cx} {a b e : Expr} {es : List Expr} {fa fb f : E} {fs : EA} {x : Str} {p pos q : Pos} {id T : String} {k : Nat}
theorem pdt_cmpR {op : CmpOp} {r : R2} {h : D → D → Option Bool} (ho : OpR X (compareOp op) r) (hh : OpB X.K r h) (ha : PD X a fa) (hb : PD X b fb) (hm : behindInMarks op b = false := by first | exact nomark _ | rfl) :
    PDT X (.Compare a [op] [b] pos) (tCmpR h fa fb) := by
  obtain ⟨ta, pa, ka⟩ := ha
  obtain ⟨tb, pb, kb⟩ := hb
  refine ⟨_, pt_cmpR ho pa pb hm, fun σ H F ρ g pre d g' e Q q => ?_⟩
  obtain ⟨dx, g1, e1, e⟩ := mb_inv e
  obtain ⟨dy, g2, e2, e⟩ := mb_inv e
  obtain ⟨b, e4, e5⟩ := Option.map_eq_some_iff.mp e
  cases e5
  obtain ⟨x', e6, e7⟩ := Option.bind_eq_some_iff.mp e4
  obtain ⟨y', e8, e9⟩ := Option.bind_eq_some_iff.mp e7
  refine ka σ H F ρ g pre dx g1 e1 _ fun x H1 F1 s1 r1 => ?_
  refine kb σ H1 F1 ρ g1 (pre.step s1) dy _ e2 _ fun y H2 F2 s2 r2 => ?_
  exact hh (allF F2 H2) H2 x y x' y' _ (Same.refl _) (rp_rsv s2.sub s2.rep 4 _ _ _ (r1.mono s2.ext) e6) (rp_rsv s2.sub s2.rep 4 _ _ _ r2 e8) e9 _ ⟨_, rfl, q H2 F2 (s1.trans s2)⟩
theorem pd_cmpR {op : CmpOp} {r : R2} {h : D → D → Option Bool} (ho : OpR X (compareOp op) r) (hh : OpB X.K r h) (ha : PD X a fa) (hb : PD X b fb) (hm : behindInMarks op b = false := by first | exact nomark _ | rfl) :
    PD X (.Compare a [op] [b] pos) (eCmpR h fa fb) := by
  obtain ⟨ta, pa, ka⟩ := ha
  obtain ⟨tb, pb, kb⟩ := hb
  refine ⟨_, pe_cmpR ho pa pb hm, fun σ H F ρ g pre d g' e Q q => ?_⟩
  obtain ⟨dx, g1, e1, e⟩ := mb_inv e
  obtain ⟨dy, g2, e2, e⟩ := mb_inv e
  obtain ⟨b, e4, e5⟩ := Option.map_eq_some_iff.mp e
  cases e5
  obtain ⟨x', e6, e7⟩ := Option.bind_eq_some_iff.mp e4
  obtain ⟨y', e8, e9⟩ := Option.bind_eq_some_iff.mp e7
  refine ka σ H F ρ g pre dx g1 e1 _ fun x H1 F1 s1 r1 => ?_
  refine kb σ H1 F1 ρ g1 (pre.step s1) dy _ e2 _ fun y H2 F2 s2 r2 => ?_
  exact hh (allF F2 H2) H2 x y x' y' _ (Same.refl _) (rp_rsv s2.sub s2.rep 4 _ _ _ (r1.mono s2.ext) e6) (rp_rsv s2.sub s2.rep 4 _ _ _ r2 e8) e9 _ (q _ H2 F2 (s1.trans s2) (.bl b))
theorem pd_biR {r : List V → Hp → VK → Prop} {h : List D → Option D} (hc : CallR X (.builtin id) r) (hh : CallB X.K r h) (hm : X.mg x = none) (ha : PDA X (e :: es) fs) (hv : bootBuiltins x = some (.builtin id) := by decide +kernel) (hg : Gl X x := by rfl) (hn : x ≠ "__name__" := by decide)
    (hdb : (x == ("__debug__" : Str)) = false := by decide) (he : starEach (e :: es) X.env = (false, eval e X.env) :: starEach es X.env := by rfl) (hpl : (backTo pos (starEach es X.env)).any (·.1) = false := by rfl) :
    PD X (.Call (.Name x p) (e :: es) [] pos) (eBiR h fs) := by
  obtain ⟨t, ht, k⟩ := ha
  refine ⟨_, pe_callB hc hg hm hv ht hn hdb he hpl, fun σ H F ρ g pre d g' e Q q => ?_⟩
  obtain ⟨ds, g1, e1, e⟩ := mb_inv e
  obtain ⟨b, e4, e5⟩ := Option.map_eq_some_iff.mp e
  cases e5
  obtain ⟨ds', e6, e7⟩ := Option.bind_eq_some_iff.mp e4
  refine k σ H F ρ g pre ds _ e1 _ fun vs H1 F1 s1 r1 => ?_
  exact hh (allF F1 H1) H1 vs ds' d (Same.refl _) (rpA_opt (rp_rsv s1.sub s1.rep 4) r1 e6) e7 Q fun v rv => q v H1 F1 s1 (rv F1)
theorem pd_lenR (hm : X.mg "len" = none) (ha : PDA X [e] fs) (hg : Gl X "len" := by rfl) (he : starEach [e] X.env = (false, eval e X.env) :: starEach [] X.env := by rfl) : PD X (.Call (.Name "len" p) [e] [] pos) (eBiR lenD fs) :=
  pd_biR call_lenA lenD_ok hm ha (by decide +kernel) hg (by decide) (by decide) he (by rfl)
theorem pd_reprR (hr : Room k X.A) (gd : X.A.guards = some []) (hm : X.mg "repr" = none) (ha : PDA X [e] fs) (hg : Gl X "repr" := by rfl) (he : starEach [e] X.env = (false, eval e X.env) :: starEach [] X.env := by rfl) : PD X (.Call (.Name "repr" p) [e] [] pos) (eBiR reprD fs) :=
  pd_biR (call_reprA gd (hu66 hr)) reprD_ok hm ha (by decide +kernel) hg (by decide) (by decide) he (by rfl)
def eIsiR (T : Ty) (f : E) : E := fun ρ => mb (f ρ) fun d => fun g => ((rsv 1 g d).bind fun d' => (isiD T d').map .bl).map fun d => (d, g)
@[simp] theorem eIsiR_ap (T : Ty) (f : E) (ρ : Rho) (g : G) : eIsiR T f ρ g = (f ρ g).bind fun p => ((rsv 1 p.2 p.1).bind fun d' => (isiD T d').map .bl).map fun d => (d, p.2) := by
  exact mb_ap _ _ _
theorem pd_isiR (T : Ty) {x : Str} (hx : x = Str.ofString T.nm := by rfl) (hm : X.mg "isinstance" = none) (hm2 : X.mg x = none) (h : PD X e f) (hv : bootBuiltins x = some (.type T.nm) := by decide +kernel) (hg : Gl X "isinstance" := by rfl) (hg2 : Gl X x := by rfl) (hn : x ≠ "__name__" := by decide)
    (hdb : (x == ("__debug__" : Str)) = false := by decide) (he : starEach [e, .Name x q] X.env = (false, eval e X.env) :: starEach [.Name x q] X.env := by rfl) (he2 : starEach [.Name x q] X.env = (false, eval (.Name x q) X.env) :: starEach [] X.env := by rfl)
    (hpl : (backTo pos (starEach [.Name x q] X.env)).any (·.1) = false := by rfl) : PD X (.Call (.Name "isinstance" p) [e, .Name x q] [] pos) (eIsiR T f) := by
  obtain ⟨t, ht, k⟩ := h
  refine ⟨_, pe_callB call_isi hg hm (by decide +kernel) (pa_cons ht (pa_cons (pe_bltn (v := .ty T.nm) hg2 hm2 hv rfl hn hdb) pa_nil he2) he) (by decide) (by decide) he hpl, fun σ H F ρ g pre d g' e Q q => ?_⟩
  obtain ⟨dx, g1, e1, e⟩ := mb_inv e
  obtain ⟨d0, e2, e5⟩ := Option.map_eq_some_iff.mp e
  cases e5
  obtain ⟨d', e6, e7⟩ := Option.bind_eq_some_iff.mp e2
  obtain ⟨b, e3, rfl⟩ := Option.map_eq_some_iff.mp e7
  refine k σ H F ρ g pre dx _ e1 _ fun v H1 F1 s1 r1 => ?_
  have r2 := rp_rsv s1.sub s1.rep 1 _ _ _ r1 e6
  exact ⟨v, .ty T.nm, _, _, b, rfl, .ty _, rp_ty (Same.refl _) r2 (fun a z => by subst z; cases T <;> cases e3) (fun a b z => by subst z; cases T <;> cases e3), kit_ty (isiD_kit e3), q _ H1 F1 s1 (.bl b)⟩
end
/-! ### x.append(e) of a list of the store -/
def apH (g : G) (x d : D) : Option G := match x with
  | .hd n => match g[n]? with
    | some (.ml l) => if l.length < sizeLine then some (updG g n (.ml (l ++ [d]))) else none
    | _ => none
  | _ => none
def sAppH (i : Nat) (f : E) : S := fun ρ => mb (eVar i ρ) fun x => fun g => match x with
  | .hd n => match g[n]? with
    | some (.ml _) => (mb (f ρ) fun d => fun g1 => (apH g1 x d).map fun g2 => (Fl.nx ρ, g2)) g
    | _ => none
  | _ => none
section
variable {X : Cx} {e : Expr} {f : E} {x : Str} {p pos ap cp : Pos}
theorem pds_appH (i : Nat) (h : PD X e f) (hN : X.N[i]? = some x := by rfl) (hv : Vis X.env.scope x := by first | exact Or.inl rfl | exact Or.inr (Or.inl rfl) | exact Or.inr (Or.inr rfl))
    (hd : (x == ("__debug__" : Str)) = false := by decide) (hcd : (x == ("__classdict__" : Str)) = false := by decide)
    (hbase : attributeBase (.Name x p) "append" X.env (eval (.Name x p) X.env) = eval (.Name x p) X.env := by rfl)
    (hfew : ((backTo cp (starEach [e] X.env)).all (fun x => !x.1) && (backToKw cp (keywordEach [] X.env)).all (fun x => x.1.isSome)
      && decide ([e].length + ([] : List Keyword).length + (if ([] : List Keyword).isEmpty then 0 else 1) < 30)) = true := by rfl)
    (hline : (ap.endLine == cp.line) = true := by rfl) (hs : starEach [e] X.env = (false, eval e X.env) :: starEach [] X.env := by rfl) (hsw : swapsWith (.Call (.Attribute (.Name x p) "append" ap) [e] [] cp) none pos.line X.env = pure false := by rfl) :
    PDS X (.Expr (.Call (.Attribute (.Name x p) "append" ap) [e] [] cp) pos) (sAppH i f) := by
  obtain ⟨t, ht, k⟩ := h
  obtain ⟨tv, pv, kv⟩ := pd_var (X := X) (pos := p) i hN hv hd hcd
  refine ⟨_, ps_expr (pe_bm PySem.F.plainAttrs_list PySem.F.slot_list_append PySem.F.type_list_append mt_append pv (pa_cons ht pa_nil hs) hbase hfew hline hs (by rfl)) hsw, fun en σ H F ρ g pre fl g' ev De post => ?_⟩
  obtain ⟨dx, g1, e1, ev⟩ := mb_inv ev
  refine kv σ H F ρ g pre.e dx g1 e1 _ fun v H1 F1 s1 r1 => ?_
  split at ev
  · rename_i n
    split at ev
    · rename_i l0 hg0
      obtain ⟨d, g2, e2, ev⟩ := mb_inv ev
      obtain ⟨g3, e3, e4⟩ := Option.map_eq_some_iff.mp ev
      cases e4
      obtain ⟨a, hm, _, vs, h4, h5, h6⟩ := s1.rep.get hg0
      have := rp_hd r1 hm
      subst this
      refine ⟨.inl ⟨rfl, vs, .of h4⟩, k σ H1 F1 ρ g1 (pre.e.step s1) d _ e2 _ fun w H2 F2 s2 r2 => ?_⟩
      unfold apH at e3
      simp only at e3
      split at e3
      · rename_i l hg
        split at e3
        · rename_i hz
          cases e3
          have hm2 := s2.ext.mu hm
          obtain ⟨b, hmb, _, vs2, k4, k5, k6⟩ := s2.rep.get hg
          rw [hm2] at hmb
          cases hmb
          refine ⟨a, vs2, w, rfl, rfl, k4, by rw [k6.length]; exact hz, post σ _ F2 (pre.step ((s1.trans s2).trans (Stp.store (m' := .ml _) s2.sub s2.rep hm2 ⟨_, upd_same, ?_, k6.append (.cons r2 .nil)⟩)))⟩
          rw [List.length_append]
          have := k6.length
          simp only [List.length_cons, List.length_nil]
          omega
        · cases e3
      · cases e3
    · cases ev
  · cases ev
end
/-! ### for over a list of the store that stays as it is -/
open Classical in
noncomputable def forH (n : Nat) (l : List D) (bd : B) (b : S) : List D → Rho → M Fl
  | [], ρ => fun g => if g[n]? = some (.ml l) then some (.nx ρ, g) else none
  | d :: ds, ρ => fun g => if g[n]? = some (.ml l) then (match bd d ρ with
    | none => mz
    | some ρ1 => mb (b ρ1) fun fl => match fl with
      | .nx ρ2 => forH n l bd b ds ρ2
      | .ct ρ2 => forH n l bd b ds ρ2
      | .bk ρ2 => mr (.nx ρ2)
      | .rt x => mr (.rt x)
      | .xc nm f d ρ2 => mr (.xc nm f d ρ2)) g else none
noncomputable def sForH (f : E) (bd : B) (b : S) : S := fun ρ => mb (f ρ) fun d => fun g => match d with
  | .hd n => match g[n]? with
    | some (.ml l) => forH n l bd b l ρ g
    | _ => none
  | _ => none
section
variable {X : Cx} {tg iter c : Expr} {body : List Stmt} {f : E} {sl : List Nat} {bd : B} {b : S} {tc : T} {pos : Pos}
theorem pds_forH (hc : X.calm = true) (hi : PD X iter f) (hg : PDG X tg sl bd) (hb : PDSS X body b) (hp : PassesOwn (model X.prog X.w) X.A X.env X.xe := by exact PassesOwn.never)
    (hs : ∀ x, foldedSetIterable iter X.env x = pure x := by intro _; rfl) : PDS X (.For tg iter body [] pos) (sForH f bd b) := by
  obtain ⟨t, ht, kI⟩ := hi
  obtain ⟨tg', pg, kg⟩ := hg
  obtain ⟨tb, pb, kb⟩ := hb
  refine ⟨_, ps_for hp hc (pi_list ht) pg pb hs, fun en σ H F ρ g pre fl g' ev De post => ?_⟩
  obtain ⟨dx, g1, e1, ev⟩ := mb_inv ev
  refine kI σ H F ρ g pre.e dx g1 e1 _ fun v H1 F1 s1 r1 => ?_
  split at ev
  · rename_i n
    split at ev
    · rename_i src hg0
      obtain ⟨a, hm, _, vs, h4, h5, h6⟩ := s1.rep.get hg0
      have := rp_hd r1 hm
      subst this
      refine ⟨a, rfl, ⟨vs, .of h4⟩, ?_⟩
      refine ⟨fun i m σ3 H3 => m = src.length - i ∧ i ≤ src.length ∧ ∃ F3 ρ3 g3, PreS X.K en F3 H3 g3 ρ3 σ3 ∧ Ext F1 F3 ∧ forH n src bd b (src.drop i) ρ3 g3 = some (fl, g'), ⟨_, rfl, Nat.zero_le _, F1, ρ, g1, pre.step s1, Ext.refl _, ev⟩, ?_⟩
      rintro i m σ3 H3 ⟨rfl, hi, F3, ρ3, g3, p3, sF, ev3⟩
      have hm3 := sF.mu hm
      by_cases hlt : i < src.length
      · rw [List.drop_eq_getElem_cons hlt] at ev3
        unfold forH at ev3
        split at ev3
        · rename_i hg3
          obtain ⟨a3, hma, _, vs3, k4, k5, k6⟩ := p3.e.rep.get hg3
          rw [hm3] at hma
          cases hma
          obtain ⟨w, hw, rw0⟩ := k6.get (List.getElem?_eq_getElem hlt)
          refine .inr ⟨⟨vs3, w, .of k4, hw⟩, fun σ5 H5 => ∃ F5 ρ5 g5, PreS X.K en F5 H5 g5 ρ5 σ5 ∧ Ext F1 F5 ∧ forH n src bd b (src.drop (i + 1)) ρ5 g5 = some (fl, g'), fun σ5 H5 h => ⟨_, by omega, rfl, by omega, h⟩, fun x H4 y => ?_⟩
          obtain ⟨rfl, y2⟩ := y
          have y3 := y2 vs3 (.of k4)
          rw [hw] at y3
          cases y3
          cases hb : bd src[i] ρ3 with
          | none => rw [hb] at ev3; cases ev3
          | some ρ4 =>
            rw [hb] at ev3
            obtain ⟨fl1, g5, e5, ev3⟩ := mb_inv ev3
            refine kg σ3 H4 F3 ρ3 g3 w _ ρ4 p3.e rw0 hb _ fun σ4 pre4 o _ => ?_
            refine kb ⟨en.g, F3, en.H⟩ σ4 H4 F3 ρ4 g3 ⟨pre4, p3.st.base, fun i q z => p3.fr i q (o i q z)⟩ fl1 g5 e5 _ ?_
            cases fl1 with
            | nx ρ5 => exact fun σ5 H5 F5 p5 => ⟨F5, ρ5, g5, p5.back p3.st, sF.trans p5.st.ext, ev3⟩
            | ct ρ5 => exact fun σ5 H5 F5 p5 => ⟨F5, ρ5, g5, p5.back p3.st, sF.trans p5.st.ext, ev3⟩
            | bk ρ5 =>
              obtain ⟨rfl, rfl⟩ := mr_inv ev3
              exact fun σ5 H5 F5 p5 => post σ5 H5 F5 (p5.back p3.st)
            | rt x =>
              obtain ⟨rfl, rfl⟩ := mr_inv ev3
              exact fun v H5 F5 s5 r5 => post v H5 F5 (p3.st.back s5) r5
            | xc nm f d ρ5 =>
              obtain ⟨rfl, rfl⟩ := mr_inv ev3
              exact fun σ5 H5 F5 dd v p5 a b => post σ5 H5 F5 dd v (p5.back p3.st) a b
        · cases ev3
      · have e4 : i = src.length := by omega
        subst e4
        rw [List.drop_length] at ev3
        unfold forH at ev3
        split at ev3
        · rename_i hg3
          cases ev3
          obtain ⟨a3, hma, _, vs3, k4, k5, k6⟩ := p3.e.rep.get hg3
          rw [hm3] at hma
          cases hma
          exact .inl ⟨⟨vs3, .of k4, by rw [k6.length]; exact Nat.le_refl _⟩, post σ3 H3 F3 p3⟩
        · cases ev3
    · cases ev
  · cases ev
end
/-! ### s.split(one sign) -/
def splC (c : Nat) : List Nat → List Nat → List (List Nat)
  | acc, [] => [acc]
  | acc, d :: r => if d = c then acc :: splC c [] r else splC c (acc ++ [d]) r
theorem spl_one (c : Nat) : ∀ (r acc : List Nat), TL.spl [c] 0 acc r = splC c acc r
  | [], acc => rfl
  | d :: r, acc => by
    have hp : TL.pre [c] (d :: r) = decide (d = c) := by
      by_cases h : d = c
      · subst h; simp [TL.pre]
      · simp [TL.pre, h]
        first | done | (intro e; exact absurd e.symm h) | exact fun e => h e.symm
    unfold splC
    by_cases h : d = c
    · rw [TL.spl_hit (by rw [hp]; exact decide_eq_true h), if_pos h]
      exact congrArg _ (spl_one c r [])
    · rw [if_neg h]
      show (if TL.pre [c] (d :: r) = true then _ else _) = _
      rw [if_neg (by rw [hp, decide_eq_false h]; simp)]
      exact spl_one c r (acc ++ [d])
theorem splC_mem (c : Nat) : ∀ (r acc : List Nat), ∀ y ∈ splC c acc r, (∀ x ∈ y, x ∈ acc ∨ x ∈ r) ∧ y.length ≤ acc.length + r.length
  | [], acc, y, h => by
    have : y = acc := by simpa [splC] using h
    subst this
    exact ⟨fun x hx => .inl hx, by simp⟩
  | d :: r, acc, y, h => by
    unfold splC at h
    split at h
    · rcases List.mem_cons.mp h with e | h
      · subst e
        exact ⟨fun x hx => .inl hx, by simp⟩
      · obtain ⟨h1, h2⟩ := splC_mem c r [] y h
        exact ⟨fun x hx => (h1 x hx).elim (fun z => by cases z) fun z => .inr (List.mem_cons_of_mem _ z), by simp at h2 ⊢; omega⟩
    · obtain ⟨h1, h2⟩ := splC_mem c r (acc ++ [d]) y h
      refine ⟨fun x hx => ?_, by simp at h2 ⊢; omega⟩
      rcases h1 x hx with z | z
      · rcases List.mem_append.mp z with z | z
        · exact .inl z
        · rw [List.mem_singleton.mp z]; exact .inr List.mem_cons_self
      · exact .inr (List.mem_cons_of_mem _ z)
def splD (c : Nat) (d : D) : Option (List D) := match d with
  | .str x => if x.length + 2 ≤ sizeLine then some ((splC c [] (cs x)).map fun l => .str (ofCs l)) else none
  | _ => none
def aSplit (c : Nat) (f : E) : EA := fun ρ => mb (f ρ) fun d => ml (splD c d)
@[simp] theorem aSplit_ap (c : Nat) (f : E) (ρ : Rho) (g : G) : aSplit c f ρ g = (f ρ g).bind fun p => (splD c p.1).map fun l => (l, p.2) := by
  unfold aSplit
  rw [mb_ap]
  congr 1
  funext p
  exact ml_ap _ _
section
variable {X : Cx} {e : Expr} {f : E} {ap cp sp : Pos} {j : Nat}
theorem po_split (c : Nat) {sep : Str} (hsep : sep = ⟨#[c]⟩) (hc : c < 256) (h : PD X e f) (hs : starEach [.Constant (.str sep) j sp] X.env = [(false, eval (.Constant (.str sep) j sp) X.env)] := by rfl) (hbase : attributeBase e "split" X.env (eval e X.env) = eval e X.env := by rfl) (hline : (ap.endLine == cp.line) = true := by rfl) :
    PO X (.Call (.Attribute e "split" ap) [.Constant (.str sep) j sp] [] cp) (aSplit c f) := by
  obtain ⟨t, ht, k⟩ := h
  refine ⟨_, pe_split ht (pe_str (x := sep)) hs hbase hline, fun σ H F ρ g pre l g' ev Q qq => ?_⟩
  obtain ⟨d, g1, e1, ev⟩ := mb_inv ev
  obtain ⟨e2, rfl⟩ := ml_inv ev
  refine k σ H F ρ g pre d _ e1 _ fun v H1 F1 s1 r1 => ?_
  unfold splD at e2
  split at e2
  · rename_i x
    split at e2
    · rename_i hz
      cases e2
      obtain ⟨rfl, hx⟩ := rp_str r1
      have esp : Txt.split x sep = (splC c [] (cs x)).map ofCs := by
        have := SX.split_S (a := cs x) (b := [c]) (by simp) (by simp [hc])
        rw [spl_one] at this
        have ex : SX.S (cs x) = x := ofCs_cs x
        have es : SX.S [c] = sep := hsep.symm
        rw [ex, es] at this
        exact this
      refine ⟨⟨x, rfl⟩, x, sep, rfl, rfl, by rw [hsep]; rfl, hz, fun w hw => ?_⟩
      rw [esp]
      have el : (splC c [] (cs x)).map (fun l => D.str (ofCs l)) = ((splC c [] (cs x)).map ofCs).map D.str := by rw [List.map_map]; rfl
      have hl : ((splC c [] (cs x)).map ofCs).length ≤ sizeLine := by
        rw [← esp]
        have := PyProof.Rows.split_le x sep
        omega
      have hok : ∀ y ∈ (splC c [] (cs x)).map ofCs, sOk y = true := fun y hy => by
        obtain ⟨l, hl, rfl⟩ := List.mem_map.mp hy
        obtain ⟨h1, h2⟩ := splC_mem c (cs x) [] l hl
        have hx' := strOk_iff.mp (sOk_ok hx)
        refine sOk_mk (strOk_iff.mpr fun a ha => ?_) ?_
        · rcases h1 a ha with z | z
          · cases z
          · exact hx' a z
        · rw [← cs_len, cs_ofCs]
          rw [cs_len] at h2
          simp at h2
          omega
      have rr : RpA X.K F1 (((splC c [] (cs x)).map ofCs).map V.str) (((splC c [] (cs x)).map ofCs).map D.str) := by
        generalize (splC c [] (cs x)).map ofCs = ys at hok
        clear el hl esp e1 hw
        induction ys with
        | nil => exact .nil
        | cons y ys ih => exact .cons (.str y (hok y List.mem_cons_self)) (ih fun z hz => hok z (List.mem_cons_of_mem _ hz))
      rw [el] at qq
      exact qq w _ F1 _ (s1.trans (.allocO s1.sub s1.rep hw)) (s1.mono _ hw) (s1.sub.free hw) (s1.rep.out hw) upd_same (by rw [List.length_map]; exact hl) rr
    · cases e2
  · cases e2
end
end PD
end
section
set_option Elab.async false
set_option linter.all false
set_option maxRecDepth 100000
set_option maxHeartbeats 4000000
set_option autoImplicit false
/-! ### own exception classes over a built-in one, whose __init__ sets one field -/
namespace PD
open PySem PySem.Spec L2 PySem.W PySem.Calls
open Builtin Builtin.ObjectAttr
open PyProof.Rows hiding St
structure XBase (B newId initId : String) (tail : List Value) : Prop where
  ef : ExcBaseFacts B newId initId tail
  ps : ∀ self : Value, refuseLoop self "__setattr__" tail = pure ()
  ob : tail.contains (.type "object") = true
  ne : tail.isEmpty = false
abbrev tailV : List Value := [.type "ValueError", .type "Exception", .type "BaseException", .type "object"]
abbrev tailL : List Value := [.type "LookupError", .type "Exception", .type "BaseException", .type "object"]
abbrev tailA : List Value := [.type "ArithmeticError", .type "Exception", .type "BaseException", .type "object"]
theorem xbV : XBase "ValueError" "ValueError.__new__" "ValueError.__init__" tailV := ⟨F.excBase_ValueError, fun u => F.store_ValueError.passes u, by decide +kernel, rfl⟩
theorem xbL : XBase "LookupError" "LookupError.__new__" "LookupError.__init__" tailL := ⟨F.excBase_LookupError, fun u => F.store_LookupError.passes u, by decide +kernel, rfl⟩
theorem xbA : XBase "ArithmeticError" "ArithmeticError.__new__" "ArithmeticError.__init__" tailA := ⟨F.excBase_ArithmeticError, fun u => F.store_ArithmeticError.passes u, by decide +kernel, rfl⟩
abbrev mroB (own : List Addr) (tail : List Value) : List Value := own.map Value.ref ++ tail
theorem own_pass {tail : List Value} (self : Value) (h : refuseLoop self "__setattr__" tail = pure ()) : ∀ own : List Addr, refuseLoop self "__setattr__" (mroB own tail) = pure ()
  | [] => h
  | c :: own => (refuseLoop_ref self "__setattr__" c (mroB own tail)).trans (own_pass self h own)
theorem own_has {tail : List Value} (Y : String) : ∀ own : List Addr, (mroB own tail).contains (.type Y) = tail.contains (.type Y)
  | [] => rfl
  | c :: own => by
    show (Value.ref c :: mroB own tail).contains (.type Y) = _
    rw [List.contains_cons, own_has Y own]
    rfl
structure OexB (K : PySem.W.Frag) (C : Addr) (tail : List Value) (newId : String) : Prop where
  cls : ∃ nm q N bs own sn sub ab col dd k0 k1 k2 k3 k5, K.lookup C = some (excClassObj nm q C N bs (mroB own tail) true sn sub ab col dd k0 k1 k2 k3 k5 newId)
  sa : PySem.W.findIn K (.ref C) "__setattr__" = some (some (.builtin "object.__setattr__"))
  exC : PySem.W.subIn K (.ref C) (.type "BaseException") = some true
  tyC : PySem.W.typeIn K (.ref C) = some (.type "type")
  kC : PySem.W.keepIn K (.ref C) = true
section
variable {P : Program} {w : World} {A : Around} {R : Result → Shared → Prop} {h0 : Heap} {g : Array GenState} {d : Drawn} {t : Nat} {os : OsState}
/-- object.__setattr__ of an exception without a dict -/
theorem osaB {K : PySem.W.Frag} {nm : Str} {tk : Tok} {v : Value} {x C : Addr} {fv : Array Value} {cd : ClassData} {own : List Addr} {tail : List Value} (X : K.In h0)
    (hx : h0.get? x = some { cls := .ref C, data := .fields fv }) (hcd : clsIn K C = some cd) (hm : cd.mro = mroB own tail) (hps : ∀ self : Value, refuseLoop self "__setattr__" tail = pure ()) (hob : tail.contains (.type "object") = true)
    (hh : cd.hasDict = true) (ha : findIn K (.ref C) nm = some none)
    (hq : ∀ h1 tk1 dx, (∀ b o, b ≠ x → h0.get? b = some o → h1.get? b = some o) → h0.objs.size ≤ dx → dx ≠ x → h1.get? x = some { cls := .ref C, dict := some dx, data := .fields fv } →
      h1.Ns1 dx (fun y => if y = nm then some v else none) → R (.ok (.ret .none)) ⟨h1, g, d, tk1, os⟩) :
    codeAny (model P w) A (.call (.builtin "object.__setattr__") ⟨[.ref x, .str nm tk, v], []⟩) R ⟨h0, g, d, t, os⟩ := by
  have J : InstAt h0 x { cls := .ref C, data := .fields fv } C none := ⟨hx, rfl, rfl, trivial⟩
  have FS := PySem.F.store_object
  have c1 : cd.mro.contains (.type "object") = true := by rw [hm]; exact (own_has "object" own).trans hob
  have c2 : cd.mro.isEmpty = false := by
    cases e : cd.mro with
    | nil => rw [e] at c1; exact absurd c1 (by decide)
    | cons a b => rfl
  have c3 : x ≠ h0.objs.size := Nat.ne_of_lt (Heap.lt_size hx)
  have c4 : Looks (model P w) h0 (isInstance (.ref x) (.type "object")) true :=
    J.type.andThen (looks_mroIn X (by unfold mroIn; rw [hcd, Option.bind_some, if_neg (by rw [c2]; decide), c1]))
  refine codeAny_call_builtin FS.slot.plain FS.entry
    (@check_slot (model P w) _ _ ⟨h0, g, d, t, os⟩ "object.__setattr__" "object" "__setattr__" (.ref x) [.str nm tk, v] [] _ FS.kind FS.split c4 (FS.args (.ref x) (.str nm tk) v) ?_)
  have c5 : Looks (model P w) h0 (mroOf (.ref C)) cd.mro := (looks_clsIn X hcd).andThen .now
  have c6 : Looks (model P w) h0 (storeTaker? none) none := .now
  have c7 : Looks (model P w) h0 (classData C) cd := looks_clsIn X hcd
  rw [osa_eq, refuse_eq]
  refine wpAny_bind (wpAny_bind (J.type.at (wpAny_bind (c5.at ?_))))
  rw [hm, own_pass _ (hps _) own]
  refine wpAny_pure (wpAny_bind (J.type.at (wpAny_bind ((looks_findIn X ha).at (wpAny_bind (c6.at ?_))))))
  show wpAny _ _ (storeInOwnDict (.ref x) (.ref C) (.str nm tk) nm v false) _ _ _
  obtain ⟨z1, z2, z3, z4, z5, z6, z7, z8, z9, z10, z11⟩ := cd
  dsimp only at hh
  subst hh
  unfold storeInOwnDict ownDictForStores
  repeat (first
    | with_reducible refine HandSPX.store_in_new ?_ ?_
    | with_reducible refine wpAny_loadPart_at hx ?_
    | with_reducible refine c7.at ?_
    | wp_step)
  · exact ⟨_, #[], _, (Heap.get?_update_ne _ _ _ _ c3.symm).trans (Heap.get?_push_at rfl rfl), rfl, fun e he => absurd he (by simp), fun _ => rfl⟩
  · intro h1 tk1 hn1 hs1
    have c8 : (h0.push { cls := .type "dict", data := .dict #[] }).get? x = some { cls := .ref C, data := .fields fv } := Heap.get?_push_of_some _ hx
    refine hq h1 tk1 h0.objs.size (fun b o hb ho => ?_) (Nat.le_refl _) c3.symm ?_ hn1
    · exact (hs1.2 b (Nat.ne_of_lt (Heap.lt_size ho))).trans ((Heap.get?_update_ne _ _ _ _ hb).trans (Heap.get?_push_of_some _ ho))
    · exact (hs1.2 x c3).trans (Heap.get?_update_self _ c8 rfl)
end
section
variable {X : Cx} {pins : List (Addr × Obj)} {σ : St} {H : Hp} {s : Shared} {a C : Addr} {f : Str} {y : V} {u : Value} {tail : List Value} {newId : String} {Q : Unit → Shared → Prop} {E : Value → Shared → Prop} {A : Around}
theorem clsB {K : PySem.W.Frag} (T : OexB K C tail newId) : ∃ cd own, clsIn K C = some cd ∧ cd.mro = mroB own tail ∧ cd.hasDict = true := by
  obtain ⟨nm, q, N, bs, own, sn, sub, ab, col, dd, k0, k1, k2, k3, k5, hC⟩ := T.cls
  refine ⟨{ name := nm, bases := bs, mro := .ref C :: mroB own tail, ns := N, qualname := q, hasDict := true, slotNames := sn, subclasses := sub, abstract := ab, collection := col, hasDel := false }, C :: own, ?_, rfl, rfl⟩
  unfold clsIn
  rw [hC] <;> rfl
/-- self.f = y -/
theorem ostB (T : OexB X.K C tail newId) (hps : ∀ self : Value, refuseLoop self "__setattr__" tail = pure ()) (hob : tail.contains (.type "object") = true) (I : Inv X pins σ H s) (e : H a = some (exo a C none)) (hno : findIn X.K (.ref C) f = some none) (ry : RelV y u)
    (h : ∀ dx s', H dx = none → dx ≠ a → Inv X pins σ (upd (upd H dx (exd dx [(f, y)])) a (exo a C (some dx))) s' → Q () s') : wpAny (model X.prog X.w) A (setAttr (.ref a) f u) Q E s := by
  obtain ⟨cd, own, e1, e2, e3⟩ := clsB T
  obtain ⟨t1, ho⟩ := exo_at I.hok e
  obtain ⟨hp, g, d, t, os⟩ := s
  refine set_plain I.kIn (ox := { cls := .ref C, dict := none, data := .fields #[.ref t1, .none, .none, .none, .bool false, .none] }) (od := none) ⟨ho, rfl, rfl, trivial⟩ T.sa ?_
  refine osaB I.kIn ho e1 e2 hps hob e3 hno fun h1 tk1 dx k dn dne hx hn => ?_
  have n1 : H dx = none := I.hok.fresh dn
  have n2 : ∀ {b : Addr} {o : Obj}, hp.get? b = some o → b ≠ dx := fun {b o} q => Nat.ne_of_lt (Nat.lt_of_lt_of_le (Heap.lt_size q) dn)
  have n3 : ∀ {b : Addr}, H b = none → b ≠ a := fun {b} n z => by rw [z, e] at n; cases n
  have at1 : ∀ b, b ≠ a → b ≠ dx → upd (upd H dx (exd dx [(f, y)])) a (exo a C (some dx)) b = H b := fun b q1 q2 => by rw [upd_ne q1, upd_ne q2]
  refine h dx _ n1 dne (I.un (t' := tk1) (H' := upd (upd H dx (exd dx [(f, y)])) a (exo a C (some dx))) { keep := fun b o q n _ _ => k b o (n3 n) q, slot := fun b o q n _ _ => ⟨o.slots, k b o (n3 n) q⟩, free := fun b o q n _ => by rw [at1 b (n3 n) (n2 q)]; exact n, there := fun b o q _ => ?_, tups := fun b xs q => by rw [at1 b (at_ne e q exo_tup) (ne_of_none q n1)]; exact q, frzs := fun b o v q => by rw [at1 b (at_ne e q exo_frz) (ne_of_none q n1)]; exact q, tbls := fun b ps q => ⟨#[], by rw [at1 b (at_ne e q exo_tbl) (ne_of_none q n1), q]; simp⟩ } fun b o q => ?_)
  · by_cases hb : b = a
    · exact ⟨_, by rw [hb]; exact hx⟩
    · exact ⟨o, k b o hb q⟩
  · by_cases hb : b = a
    · subst hb
      rw [upd_same] at q
      cases q
      exact exo_ok hx
    · by_cases hd : b = dx
      · subst hd
        rw [upd_ne hb, upd_same] at q
        cases q
        exact exd_ok hn (relO_put (fs := []) ry fun g => True.intro)
      · rw [at1 b hb hd] at q
        refine (I.hok b o q).stay (fun c v hc z => k c v ?_ z) (fun c hc => by rw [at1 c (at_ne e hc exo_own) (ne_of_none hc n1)]; exact hc) (fun c xs hc => by rw [at1 c (at_ne e hc exo_tup) (ne_of_none hc n1)]; exact hc)
        rcases hc with hc | hc
        · rw [hc]; exact hb
        · exact at_ne e hc exo_own
def tOstB (K : PySem.W.Frag) (tail : List Value) (newId : String) (f : Str) (to te : TE) : TS := fun De σ H => te σ H fun y H1 => to σ H1 fun x H2 => ∃ a C : Addr, x = .ref a ∧ OexB K C tail newId ∧ findIn K (.ref C) f = some none ∧ H2 a = some (exo a C none) ∧
  ∀ dx, H2 dx = none → dx ≠ a → De.nx σ (upd (upd H2 dx (exd dx [(f, y)])) a (exo a C (some dx)))
theorem ps_ostB {o e : Expr} {to te : TE} {p' pos : Pos} (hps : ∀ self : Value, refuseLoop self "__setattr__" tail = pure ()) (hob : tail.contains (.type "object") = true) (ho : PE X o to) (he : PE X e te)
    (hs : swapsWith e (some (.Attribute o f p')) pos.line X.env = pure false := by rfl) : PS X (.Assign [.Attribute o f p'] e pos) (tOstB X.K tail newId f to te) := by
  refine ⟨fun pins s σ H De I h => ?_⟩
  refine plainObj_wpAny_Assign_Attribute (thn (he.run pins s σ H _ I h) fun v s1 ⟨y, H1, I1, r1, q1⟩ => thn (ho.run pins s1 σ H1 _ I1 q1) fun u s2 ⟨x, H2, I2, r2, a, C, ex, T, hno, ea, q⟩ => ?_) hs
  subst ex
  obtain rfl : u = Value.ref a := r2
  exact ostB T hps hob I2 ea hno r1 fun dx s' n ne J => ⟨σ, _, J, q dx n ne⟩
end
/-- what the __init__ of such a class keeps -/
def spI (C : Addr) (f : Str) : Sp := fun vs H Q _ => ∃ (a : Addr) (y : V), vs = [.ref a, y] ∧ H a = some (exo a C none) ∧ ∀ dx, H dx = none → dx ≠ a → Q .non (upd (upd H dx (exd dx [(f, y)])) a (exo a C (some dx)))
end PD
end
section
set_option Elab.async false
set_option linter.all false
set_option maxRecDepth 100000
set_option maxHeartbeats 4000000
set_option autoImplicit false
/-! ### such an exception made: by place, to be raised; by keyword, to be kept -/
namespace PD
open PySem PySem.Spec L2 PySem.W PySem.Calls
open Builtin Builtin.ObjectAttr
open PyProof.Rows hiding St
theorem init_ok {P : Program} {w : World} {K : PySem.W.Frag} {mg : Str → Option Value} {base : Heap} {C fI : Addr} {f x qual : Str} {fd : FuncData} {params : Arguments} {body : List Stmt} {scope : Scope} {kws : List (Str × V)} {tail : List Value} {newId : String} {p1 p2 p3 p4 : Pos}
    (T : OexB K C tail newId) (hps : ∀ self : Value, refuseLoop self "__setattr__" tail = pure ()) (hob : tail.contains (.type "object") = true) (hno : findIn K (.ref C) f = some none)
    (FF : FunD K "__init__" qual params body scope [] kws fI fd) (hb : body = [.Assign [.Attribute (.Name "self" p1) f p2] (.Name x p3) p4]) (S : FnScope ["self", x] ["self", x] scope)
    (hx1 : (x == ("__debug__" : Str)) = false) (hx2 : (x == ("__classdict__" : Str)) = false) (hv1 : Vis scope "self") (hv2 : Vis scope x)
    (hsw : ∀ env : Env, env.scope = scope → swapsWith (.Name x p3) (some (.Attribute (.Name "self" p1) f p2)) p4.line env = pure false) : FnOk P w K mg base CX0 1 fI fd ["self", x] (spI C f) := by
  obtain ⟨oc, od, dV, kV, doc, pm, an, cdv, ct, osl, rfl, lk, hcd, _, _⟩ := FF.ex
  refine fn_of (k := 0) lk hcd S (fun vs H Q E h => ?_) fun A outer s H vs Q E hr h => ?_
  · obtain ⟨a, y, rfl, _⟩ := h
    rfl
  · obtain ⟨a, y, rfl, e1, q⟩ := h
    rw [hb]
    refine ⟨_, pss_one (ps_ostB (newId := newId) hps hob (pe_var (i := 0) rfl hv1 (by decide) (by decide)) (pe_var (i := 1) rfl hv2 hx1 hx2) (hsw _ rfl)), ?_⟩
    exact ⟨y, rfl, .ref a, rfl, a, C, rfl, T, hno, e1, fun dx n ne => q dx n ne⟩
def tMkB (C : Addr) (sp : Sp) (ta : TA) : L2.St → Hp → XK → Prop := fun σ H Q => ta σ H fun vs H1 => vs.length ≤ 1000 ∧ ∀ a, H1 a = none → sp (.ref a :: vs) (upd H1 a (exo a C none))
  (fun v H2 => v = .non ∧ ∃ (dd : Addr) (fs : List (Str × V)), H2 a = some (exo a C (some dd)) ∧ H2 dd = some (exd dd fs) ∧ H1 dd = none ∧ Q (.ref C) (some dd) (upd (del H2 a) dd (.xd fs))) (fun _ _ _ => False)
section
variable {X : Cx} {C fI : Addr} {x : Str} {e : Expr} {es : List Expr} {ta : TA} {p pos : Pos} {tail : List Value} {B newId initId : String} {k : Nat} {fd : FuncData} {ps : List Str} {sp : Sp}
theorem pmkB (XB : XBase B newId initId tail) (T : OexB X.K C tail newId) (iC : findIn X.K (.ref C) "__init__" = some (some (.ref fI))) (tI : typeIn X.K (.ref fI) = some (.type "function"))
    (F1 : FnOk X.prog X.w X.K X.mg X.base CX0 k fI fd ps sp) (hr : Room (k + 1) X.A) (hb : Binds X.K fd ps []) (hg : Gl X x) (hm : X.mg x = some (.ref C)) (ha : PA X (e :: es) ta)
    (hdb : (x == ("__debug__" : Str)) = false := by decide) (he : starEach (e :: es) X.env = (false, eval e X.env) :: starEach es X.env := by rfl) (hpl : (backTo pos (starEach es X.env)).any (·.1) = false := by rfl) :
    L2N.PMk X (.Call (.Name x p) (e :: es) [] pos) (tMkB C sp ta) := by
  intro pins s σ H Q I h
  obtain ⟨nm, qn, N, bs, own, sn, sub, ab, col, dd, k0, k1, k2, k3, k5, hC⟩ := T.cls
  refine wpAny_Call_Name_kw (ld_glob I hg hm ?_ hdb)
  refine callWith_K (h₀ := X.base) I.ok.mod.kin T.kC (thn (ha.run pos pins s σ H _ I h) fun us s1 ⟨vs, H1, I1, r1, hz, q1⟩ => ⟨I1.kIn, ?_⟩) he hpl
  show wpAny _ _ (call (.ref C) us) _ _ _
  obtain ⟨hp, g, dr, tk, os⟩ := s1
  have nz : hp.objs.size ≤ hp.objs.size + 1 := Nat.le_succ _
  have hq := q1 (hp.objs.size + 1) (I1.hok.fresh nz)
  have kk : ∀ b o, hp.get? b = some o → ((hp.push (kdv_tup us)).push (HandSPX.excO C hp.objs.size)).get? b = some o := fun b o z => Heap.get?_push_of_some _ (Heap.get?_push_of_some _ z)
  have hget : ((hp.push (kdv_tup us)).push (HandSPX.excO C hp.objs.size)).get? (hp.objs.size + 1) = some (HandSPX.excO C hp.objs.size) := by heap_get
  have I2 := I1.laid (t' := tk) (a := hp.objs.size + 1) (o := exo (hp.objs.size + 1) C none) (h' := (hp.push (kdv_tup us)).push (HandSPX.excO C hp.objs.size)) kk nz (exo_ok hget)
  have r2 : Vals (V.ref (hp.objs.size + 1) :: vs) (Value.ref (hp.objs.size + 1) :: us) := .cons rfl r1
  have hl : (Value.ref (hp.objs.size + 1) :: us).length = ps.length := r2.length.symm.trans (F1.len _ _ _ _ hq)
  have hus : us.length ≤ sizeLine := by rw [← Paired.length r1, sizeLine_eq]; omega
  have bd := hb ⟨(hp.push (kdv_tup us)).push (HandSPX.excO C hp.objs.size), g, dr, tk, os⟩ (Value.ref (hp.objs.size + 1) :: us) I2.kIn (by rw [List.append_nil]; exact hl)
  rw [List.append_nil] at bd
  refine wpAny_call (HandSPX.call_own XB.ef (fun Y => own_has Y own) (I1.kIn _ _ hC) (looks_findIn I1.kIn iC) (fun self => bind_fn I1.kIn self tI) hus
    (codeAny_mono (F1.run _ X.stack _ _ ⟨Value.ref (hp.objs.size + 1) :: us, []⟩ _ _ _ (fun _ _ _ => False) (hr.make C us []) (I2.env0.make C us []) bd r2 hq) fun r s' hq' => ?_))
  match r, hq' with
  | .error er, hq' => exact hq'.elim
  | .ok .next, hq' => exact hq'.elim
  | .ok .brk, hq' => exact hq'.elim
  | .ok .cont, hq' => exact hq'.elim
  | .ok (.ret u), ⟨v, H2, os2, bare2, un2, hok2, rv, ev, d, fs, ea, ed, hd1, q2⟩ =>
    subst ev
    obtain ⟨h2, g2, d2, t2, os'⟩ := s'
    obtain ⟨t0, GG, J, kG, ge, hoe, na⟩ := mk_end0 (d2 := d2) (t2 := t2) I1 nz kk un2 hok2 os2 bare2 ea ed hd1
    exact ⟨rv, hp.objs.size + 1, _, _, ⟨GG, g2, d2, t2, os'⟩, _, .ref C, some d, rfl, J, kG, ge, hoe, ⟨rfl, rfl, fun vs e => by cases e; rfl⟩, rfl, rfl, na, rfl, bare2, raises_own T.exC T.tyC, q2⟩
end
/-! ### by keyword -/
section
variable {P : Program} {w : World} {A : Around} {E : Value → Shared → Prop} {R : Result → Shared → Prop} {h : Heap} {g : Array GenState} {d : Drawn} {t : Nat} {os : OsState}
variable {nm q : Str} {C N : Addr} {bs tail : List Value} {own : List Addr} {sn : List Str} {sub : List Value} {ab : Bool} {col : Option Bool} {dd : Option Addr} {k0 k1 k2 k3 k5 : Option Value} {B newId initId : String} {x : Str} {v : Value}
theorem check_kw (XB : XBase B newId initId tail) {Q : Unit → Shared → Prop} (hC : h.get? C = some (excClassObj nm q C N bs (mroB own tail) true sn sub ab col dd k0 k1 k2 k3 k5 newId)) (hq : Q () ⟨h, g, d, t, os⟩) :
    wpAny (model P w) A (checkBuiltinCall newId ⟨[.ref C], [(x, v)]⟩) Q E ⟨h, g, d, t, os⟩ := by
  have c1 : (Value.ref C :: mroB own tail).contains (.type B) = true := by rw [List.contains_cons, own_has, XB.ef.hasB, Bool.or_true]
  have c2 := XB.ef.noStar
  simp only [checkBuiltinCall, XB.ef.newKind, XB.ef.newSplit, XB.ef.newRow]
  repeat (first
    | refine wpAny_loadPart_at hC ?_
    | (refine wpAny_isSubtype_exc hC ?_; rw [c1])
    | refine wpAny_staticBase_exc hC ?_
    | refine wpAny_madeBy_exc hC ?_
    | simp only [bne_self_eq_false, Bool.false_eq_true, if_false]
    | wp_step)
  exact hq
theorem new_kw (XB : XBase B newId initId tail) (hC : h.get? C = some (excClassObj nm q C N bs (mroB own tail) true sn sub ab col dd k0 k1 k2 k3 k5 newId))
    (hq : R (.ok (.ret (.ref (h.objs.size + 1)))) ⟨(h.push (kdv_tup [])).push (HandSPX.excO C h.objs.size), g, d, t, os⟩) :
    codeAny (model P w) A (.builtin newId ⟨[.ref C], [(x, v)]⟩) R ⟨h, g, d, t, os⟩ := by
  have c0 := XB.ef.ends
  have c1 : (Value.ref C :: mroB own tail).contains (.type B) = true := by rw [List.contains_cons, own_has, XB.ef.hasB, Bool.or_true]
  have c2 : (Value.ref C :: mroB own tail).contains (.type "AttributeError") = false := by rw [List.contains_cons, own_has, XB.ef.noAttr]; rfl
  have c3 : (Value.ref C :: mroB own tail).contains (.type "NameError") = false := by rw [List.contains_cons, own_has, XB.ef.noName]; rfl
  refine codeAny_builtinAt XB.ef.entry ?_
  unfold Builtin.«BaseException.__new__»
  refine PySem.wpAt_bind ?_
  show PySem.wpAt _ _ _ (stack >>= _) _ _ _
  refine PySem.wpAt_bind (PySem.wpAt_stack fun p below => PySem.wpAt_of_wpAny ?_)
  wp_walk
  refine PySem.wpAt_of_wpAny ?_
  rw [XB.ef.owner]
  repeat (first
    | with_reducible refine wpAny_madeHere_exc XB.ef.canon hC ?_
    | with_reducible refine wpAny_loadPart_at hC ?_
    | (with_reducible refine wpAny_isSubtype_exc hC ?_; first | rw [c1] | rw [c2] | rw [c3])
    | wp_step)
  show R _ _
  rw [Heap.size_push]
  exact hq
theorem tcall_kw (XB : XBase B newId initId tail) {fI : Addr} {Q : Fin → Shared → Prop} (hC : h.get? C = some (excClassObj nm q C N bs (mroB own tail) true sn sub ab col dd k0 k1 k2 k3 k5 newId))
    (hi : Looks (model P w) h (typeLookup (.ref C) "__init__") (some (.ref fI))) (hb : ∀ self, Looks (model P w) h (bindSpecial (.ref fI) self) (.ref fI, [self]))
    (hq : codeAny (model P w) A (.call (.ref fI) ⟨[.ref (h.objs.size + 1)], [(x, v)]⟩)
      (fun r s' => match r with | .ok (.ret u) => u = .none ∧ Q (.done (.ret (.ref (h.objs.size + 1)))) s' | .ok _ => False | .error e => E e s')
      ⟨(h.push (kdv_tup [])).push (HandSPX.excO C h.objs.size), g, d, t, os⟩) :
    wpAny (model P w) A (Builtin.«type.__call__» ⟨[.ref C], [(x, v)]⟩) Q E ⟨h, g, d, t, os⟩ := by
  repeat (first
    | with_reducible refine wpAny_loadPart_at hC ?_
    | with_reducible refine wpAny_madeBy_exc hC ?_
    | wp_step)
  refine codeAny_call_builtin_code (Code.quiet_builtin _ XB.ef.quiet) (check_kw XB hC ?_)
  refine new_kw XB hC ?_
  show wpAny _ _ _ _ _ _
  have kk : ∀ b o, h.get? b = some o → ((h.push (kdv_tup [])).push (HandSPX.excO C h.objs.size)).get? b = some o := fun b o z => Heap.get?_push_of_some _ (Heap.get?_push_of_some _ z)
  have c1 := kk _ _ hC
  have c2 : ((h.push (kdv_tup [])).push (HandSPX.excO C h.objs.size)).get? (h.objs.size + 1) = some (HandSPX.excO C h.objs.size) := by heap_get
  have c3 : (Value.ref C :: mroB own tail).contains (.ref C) = true := by simp
  have i1 := hi.keeps kk
  have b1 := (hb (.ref (h.objs.size + 1))).keeps kk
  unfold isInstance
  repeat (first
    | with_reducible refine wpAny_loadPart_at c2 ?_
    | (with_reducible refine wpAny_isSubtype_exc c1 ?_; rw [c3])
    | wp_step)
  show wpAny _ _ (typeLookup (.ref C) _) _ _ _
  refine i1.at ?_
  refine wpAny_holding (wpAny_bind (b1.at ?_))
  refine wpAny_bind (wpAny_call (codeAny_mono hq fun r s' z => ?_))
  rcases r with er | (u | _ | _ | _) <;> first | exact z | exact z.elim | skip
  obtain ⟨rfl, z⟩ := z
  first
    | exact wpAny_pure (wpAny_pure z)
    | (wp_walk; exact z)
theorem call_kw (XB : XBase B newId initId tail) {fI : Addr} (hC : h.get? C = some (excClassObj nm q C N bs (mroB own tail) true sn sub ab col dd k0 k1 k2 k3 k5 newId))
    (hi : Looks (model P w) h (typeLookup (.ref C) "__init__") (some (.ref fI))) (hb : ∀ self, Looks (model P w) h (bindSpecial (.ref fI) self) (.ref fI, [self]))
    (hq : codeAny (model P w) (A.under (.builtin "type.__call__" ⟨[.ref C], [(x, v)]⟩)) (.call (.ref fI) ⟨[.ref (h.objs.size + 1)], [(x, v)]⟩) (InitBack (h.objs.size + 1) R)
      ⟨(h.push (kdv_tup [])).push (HandSPX.excO C h.objs.size), g, d, t, os⟩) :
    codeAny (model P w) A (.call (.ref C) ⟨[], [(x, v)]⟩) R ⟨h, g, d, t, os⟩ := by
  have f1 := PySem.tc_lookup
  have f2 := PySem.tc_bind (.ref C)
  have f3 : (⟨h, g, d, t, os⟩ : Shared).TypeIs (.ref C) "type" := ⟨_, hC, rfl⟩
  refine codeAny_of_tree ?_
  show wpAny _ _ (callAny (.ref C) _) _ _ _
  repeat (any_goals (first
    | assumption
    | with_reducible refine wpAny_loadPart_at hC ?_
    | wp_step))
  refine ⟨rfl, ?_⟩
  refine codeAny_call_builtin_at (Code.quiet_builtin _ (by decide +kernel)) entry_typeCall (wpAny_check_type_call_sub hC (tcall_kw XB hC hi hb ?_))
  refine codeAny_mono hq fun r s' z => ?_
  rcases r with er | (u | _ | _ | _) <;> exact z
end
end PD
end
section
set_option Elab.async false
set_option linter.all false
set_option maxRecDepth 100000
set_option maxHeartbeats 4000000
set_option autoImplicit false
/-! ### exceptions by data: made, raised, let out of a def, caught -/
namespace PD
open PySem PySem.Spec L2 PySem.W PySem.Calls
open PyProof.Rows hiding St
/-- the class nm, its one field f -/
structure XCls (P : Program) (w : World) (K : PySem.W.Frag) (mg : Str → Option Value) (base : Heap) (nm f x : Str) : Prop where
  ex : ∃ (B newId initId : String) (tail : List Value) (fI : Addr) (fd : FuncData), XBase B newId initId tail ∧ OexB K (He.ga K nm) tail newId ∧ mg nm = some (.ref (He.ga K nm)) ∧
    findIn K (.ref (He.ga K nm)) "__init__" = some (some (.ref fI)) ∧ typeIn K (.ref fI) = some (.type "function") ∧ FnOk P w K mg base CX0 1 fI fd ["self", x] (spI (He.ga K nm) f) ∧ Binds K fd ["self", x] [] ∧
    ∀ (s : Shared) (u v : Value), BindsTo s fd ⟨[u], [(x, v)]⟩ [("self", u), (x, v)]
theorem exK_ok {P : Program} {w : World} {H : Hp} {h : Heap} {e C dd : Addr} {oe : Obj} {vs : Array Value} (he : h.get? e = some oe) (h1 : oe.cls = .ref C) (h2 : oe.dict = some dd) (h3 : oe.data = .fields vs) (h4 : vs[2]? = some .none) : ObjOk P w H h e (exK e C dd) :=
  ⟨⟨oe, vs, he, h1, h2, h3, h4⟩, ⟨_, he⟩, fun g1 g2 z k => by
    obtain ⟨oe, vs, he, h1, h2, h3, h4⟩ := z
    exact ⟨oe, vs, k _ he, h1, h2, h3, h4⟩⟩
theorem exK_at {P : Program} {w : World} {H : Hp} {h : Heap} {e C dd : Addr} (hok : HOk P w H h) (he : H e = some (exK e C dd)) : ∃ (oe : Obj) (vs : Array Value), h.get? e = some oe ∧ oe.cls = .ref C ∧ oe.dict = some dd ∧ oe.data = .fields vs ∧ vs[2]? = some .none := by
  have z : ObjOk P w H h e (.ext fun h => ∃ (oe : Obj) (vs : Array Value), h.get? e = some oe ∧ oe.cls = .ref C ∧ oe.dict = some dd ∧ oe.data = .fields vs ∧ vs[2]? = some .none) := hok e _ he
  exact z.1
/-- the exception and its dict are told of by less -/
theorem soften {X : Cx} {pins : List (Addr × Obj)} {σ : L2.St} {H H1 : Hp} {s : Shared} {a C dd : Addr} {fs : List (Str × V)} (I : Inv X pins σ H s) (ea : H a = some (exo a C (some dd))) (ed : H dd = some (exd dd fs)) (hne : dd ≠ a)
    (e1 : H1 = upd (upd H dd (.xd fs)) a (exK a C dd)) : Inv X pins σ H1 s := by
  subst e1
  obtain ⟨t0, hoe⟩ := exo_at I.hok ea
  obtain ⟨mA, hns, rel⟩ := exd_at I.hok ed
  have at1 : ∀ b, b ≠ a → b ≠ dd → upd (upd H dd (.xd fs)) a (exK a C dd) b = H b := fun b q1 q2 => by rw [upd_ne q1, upd_ne q2]
  have nn : ∀ b, H b = none → b ≠ a ∧ b ≠ dd := fun b n => ⟨fun z => (by rw [z, ea] at n; cases n), fun z => (by rw [z, ed] at n; cases n)⟩
  have J := I.un (t' := s.toks) (h' := s.heap) (H' := upd (upd H dd (.xd fs)) a (exK a C dd)) ⟨fun b o q _ _ _ => q, fun b o q _ _ _ => ⟨o.slots, q⟩, fun b o q n _ => by rw [at1 b (nn b n).1 (nn b n).2]; exact n, fun b o q _ => ⟨o, q⟩,
    fun b xs q => by rw [at1 b (at_ne ea q exo_tup) (at_ne ed q exd_tup)]; exact q, fun b o v q => by rw [at1 b (at_ne ea q exo_frz) (at_ne ed q (fun z => by cases z))]; exact q, fun b ps q => ⟨#[], by rw [at1 b (at_ne ea q exo_tbl) (at_ne ed q (fun z => by cases z)), q]; simp⟩⟩ fun b o q => ?_
  · exact J
  · by_cases hb : b = a
    · subst hb
      rw [upd_same] at q
      cases q
      exact exK_ok hoe rfl rfl rfl rfl
    · by_cases hd : b = dd
      · subst hd
        rw [upd_ne hb, upd_same] at q
        cases q
        exact ⟨mA, hns, rel⟩
      · rw [at1 b hb hd] at q
        exact (I.hok b o q).stay (fun c v hc z => z) (fun c hc => by rw [at1 c (at_ne ea hc exo_own) (at_ne ed hc exd_own)]; exact hc) (fun c xs hc => by rw [at1 c (at_ne ea hc exo_tup) (at_ne ed hc exd_tup)]; exact hc)
theorem mkH {H1 : Hp} {a dx C : Addr} {fs : List (Str × V)} (hd : dx ≠ a) : upd (upd (upd (upd (upd H1 a (exo a C none)) dx (exd dx fs)) a (exo a C (some dx))) dx (.xd fs)) a (exK a C dx) = upd (upd H1 dx (.xd fs)) a (exK a C dx) := by
  funext b
  by_cases h1 : b = a
  · subst h1; rw [upd_same, upd_same]
  · rw [upd_ne h1, upd_ne h1]
    by_cases h2 : b = dx
    · subst h2; rw [upd_same, upd_same]
    · rw [upd_ne h2, upd_ne h2, upd_ne h1, upd_ne h2, upd_ne h1]
theorem mkH2 {H1 : Hp} {a dx C : Addr} {fs : List (Str × V)} (ha : H1 a = none) (hd : dx ≠ a) : upd (del (upd (upd (upd H1 a (exo a C none)) dx (exd dx fs)) a (exo a C (some dx))) a) dx (.xd fs) = upd H1 dx (.xd fs) := by
  funext b
  by_cases h2 : b = dx
  · subst h2; rw [upd_same, upd_same]
  · rw [upd_ne h2, upd_ne h2]
    by_cases h1 : b = a
    · subst h1; rw [del_same, ha]
    · rw [del_ne h1, upd_ne h1, upd_ne h2, upd_ne h1]
/-! ### C(f = e), kept -/
def eNew (nm f : Str) (fe : E) : E := fun ρ => mb (fe ρ) fun v => fun g => some (.hd g.length, g ++ [.mx nm f v])
@[simp] theorem eNew_ap (nm f : Str) (fe : E) (ρ : Rho) (g : G) : eNew nm f fe ρ g = (fe ρ g).map fun p => (.hd p.2.length, p.2 ++ [.mx nm f p.1]) := by
  refine (mb_ap _ _ _).trans ?_
  cases fe ρ g <;> rfl
section
variable {X : Cx} {nm f x : Str} {e : Expr} {fe : E} {p pos kp : Pos} {k : Nat}
theorem pd_newX (hc : XCls X.prog X.w X.K X.mg X.base nm f x) (hr : Room (k + 2) X.A) (he : PD X e fe) (hg : Gl X nm := by rfl)
    (hall : (backToKw pos (keywordEach [⟨some x, e, kp⟩] X.env)).all (·.1.isSome) = true := by rfl) (hks : (backToKw pos (keywordEach [⟨some x, e, kp⟩] X.env)).filterMap (·.1) = [x] := by rfl) (hdb : (nm == ("__debug__" : Str)) = false := by decide)
    (hpl : ((backTo pos (starEach [] X.env)).any (·.1) || (backToKw pos (keywordEach [⟨some x, e, kp⟩] X.env)).any (·.1.isNone)) = false := by rfl) : PD X (.Call (.Name nm p) [] [⟨some x, e, kp⟩] pos) (eNew nm f fe) := by
  obtain ⟨B, newId, initId, tail, fI, fd, XB, T, hm, iC, tI, F1, _, kb⟩ := hc.ex
  obtain ⟨t, ht, kt⟩ := he
  refine ⟨fun σ H Q => tCons t tNil σ H fun zs H1 => ∃ y, zs = [y] ∧ ∀ a dd, H1 a = none → H1 dd = none → dd ≠ a → Q (.ref a) (upd (upd H1 dd (.xd [(f, y)])) a (exK a (He.ga X.K nm) dd)), ⟨fun pins s σ H Q I h => ?_⟩, fun σ H F ρ g pre d g' ev Q q => ?_⟩
  · refine wpAny_Call_Name_kw (ld_glob I hg hm ?_ hdb)
    refine callWith_KW0 (h₀ := X.base) I.ok.mod.kin T.kC hall ?_ hpl
    refine thn ((pk_cons ht pk_nil).run pos pins s σ H _ I h) fun ws s1 ⟨zs, H1, I1, rz, y, ez, q1⟩ => ⟨I1.kIn, ?_⟩
    subst ez
    rw [hks]
    cases rz with
    | @cons _ u _ us ru rr =>
      cases rr
      obtain ⟨hp, g, dr, tk, os⟩ := s1
      show wpAny _ _ (call (.ref (He.ga X.K nm)) [] [(x, u)]) _ _ _
      obtain ⟨nm', qn, N, bs, own, sn, sub, ab, col, dd0, k0, k1, k2, k3, k5, hC⟩ := T.cls
      have nz : hp.objs.size ≤ hp.objs.size + 1 := Nat.le_succ _
      have na : H1 (hp.objs.size + 1) = none := I1.hok.fresh nz
      have kk : ∀ b o, hp.get? b = some o → ((hp.push (kdv_tup [])).push (HandSPX.excO (He.ga X.K nm) hp.objs.size)).get? b = some o := fun b o z => Heap.get?_push_of_some _ (Heap.get?_push_of_some _ z)
      have hget : ((hp.push (kdv_tup [])).push (HandSPX.excO (He.ga X.K nm) hp.objs.size)).get? (hp.objs.size + 1) = some (HandSPX.excO (He.ga X.K nm) hp.objs.size) := by heap_get
      have I2 := I1.laid (t' := tk) (a := hp.objs.size + 1) (o := exo (hp.objs.size + 1) (He.ga X.K nm) none) (h' := (hp.push (kdv_tup [])).push (HandSPX.excO (He.ga X.K nm) hp.objs.size)) kk nz (exo_ok hget)
      have r2 : Vals [V.ref (hp.objs.size + 1), y] [Value.ref (hp.objs.size + 1), u] := .cons rfl (.cons ru .nil)
      have sp : spI (He.ga X.K nm) f [V.ref (hp.objs.size + 1), y] (upd H1 (hp.objs.size + 1) (exo (hp.objs.size + 1) (He.ga X.K nm) none))
          (fun v H2 => v = .non ∧ ∃ dx, H1 dx = none ∧ dx ≠ hp.objs.size + 1 ∧ H2 = upd (upd (upd H1 (hp.objs.size + 1) (exo (hp.objs.size + 1) (He.ga X.K nm) none)) dx (exd dx [(f, y)])) (hp.objs.size + 1) (exo (hp.objs.size + 1) (He.ga X.K nm) (some dx))) (fun _ _ _ => False) :=
        ⟨_, y, rfl, upd_same, fun dx n ne => ⟨rfl, dx, by rw [upd_ne ne] at n; exact n, ne, rfl⟩⟩
      refine wpAny_call (call_kw XB (I1.kIn _ _ hC) (looks_findIn I1.kIn iC) (fun self => bind_fn I1.kIn self tI)
        (codeAny_mono (F1.run _ X.stack _ _ ⟨[Value.ref (hp.objs.size + 1)], [(x, u)]⟩ _ _ _ (fun _ _ _ => False) ((hr.mono (by omega)).make _ [] [(x, u)]) (I2.env0.make _ [] [(x, u)]) (kb _ _ _) r2 sp) fun r s' hq' => ?_))
      match r, hq' with
      | .error er, hq' => exact hq'.elim
      | .ok .next, hq' => exact hq'.elim
      | .ok .brk, hq' => exact hq'.elim
      | .ok .cont, hq' => exact hq'.elim
      | .ok (.ret u'), hq' =>
        obtain ⟨v, H2, I3, rv, ev, dx, n, ne, eH⟩ := I2.after hq'
        subst ev
        refine ⟨rv, ⟨.ref (hp.objs.size + 1), _, soften I3 (a := hp.objs.size + 1) (dd := dx) (C := He.ga X.K nm) (fs := [(f, y)]) (by rw [eH, upd_same]) (by rw [eH, upd_ne ne, upd_same]) ne rfl, rfl, ?_⟩⟩
        rw [eH, mkH ne]
        exact q1 _ dx na n ne
  · obtain ⟨dv, g1, e1, ev⟩ := mb_inv ev
    cases ev
    refine kt σ H F ρ g pre dv g1 e1 _ fun y H1 F1 s1 r1 => ⟨y, rfl, fun a dd ha hd hne => ?_⟩
    have st1 := Stp.alloc (o := .xd [(f, y)]) s1.sub s1.rep hd
    have ha2 : upd H1 dd (.xd [(f, y)]) a = none := by rw [upd_ne (Ne.symm hne)]; exact ha
    have st2 := Stp.allocM (o := exK a (He.ga X.K nm) dd) (m := .mx nm f dv) st1.sub st1.rep ha2 ⟨dd, y, upd_same, upd_same, r1.mono st1.ext⟩
    refine q _ _ _ ((s1.trans st1).trans st2) (.hd ?_)
    have el : g1.length = (F1.upd dd (.xd [(f, y)])).mu.length := st1.rep.len
    rw [el]
    simp
end
/-! ### raise C(e) -/
def sRaise (nm f : Str) (fe : E) : S := fun ρ => mb (fe ρ) fun v => mr (.xc nm f v ρ)
@[simp] theorem sRaise_ap (nm f : Str) (fe : E) (ρ : Rho) (g : G) : sRaise nm f fe ρ g = (fe ρ g).map fun p => (.xc nm f p.1 ρ, p.2) := by
  refine (mb_ap _ _ _).trans ?_
  cases fe ρ g <;> rfl
section
variable {X : Cx} {nm f x : Str} {e : Expr} {fe : E} {p pos pos' : Pos} {k : Nat}
theorem pds_raise (hc : XCls X.prog X.w X.K X.mg X.base nm f x) (hcm : X.calm = true) (hr : Room (k + 2) X.A) (he : PD X e fe) (hg : Gl X nm := by rfl) (hdb : (nm == ("__debug__" : Str)) = false := by decide)
    (hs : starEach [e] X.env = (false, eval e X.env) :: starEach [] X.env := by rfl) : PDS X (.Raise (some (.Call (.Name nm p) [e] [] pos)) none pos') (sRaise nm f fe) := by
  obtain ⟨B, newId, initId, tail, fI, fd, XB, T, hm, iC, tI, F1, hb, _⟩ := hc.ex
  obtain ⟨t, ht, kt⟩ := he
  refine ⟨_, L2N.ps_raise hcm takes_wx (pmkB XB T iC tI F1 (hr.mono (by omega)) hb hg hm (pa_cons ht pa_nil hs) hdb hs (by rfl)), fun en σ H F ρ g pre fl g' ev De post => ?_⟩
  obtain ⟨dv, g1, e1, ev⟩ := mb_inv ev
  obtain ⟨rfl, rfl⟩ := mr_inv ev
  refine kt σ H F ρ g pre.e dv _ e1 _ fun y H1 F1' s1 r1 => ⟨by simp, fun a ha => ?_⟩
  refine ⟨a, y, rfl, upd_same, fun dx n ne => ⟨rfl, dx, [(f, y)], upd_same, by rw [upd_ne ne, upd_same], by rw [upd_ne ne] at n; exact n, ?_⟩⟩
  rw [mkH2 ha ne]
  have n : H1 dx = none := by rw [upd_ne ne] at n; exact n
  have st1 := Stp.alloc (o := .xd [(f, y)]) s1.sub s1.rep n
  exact post σ _ _ dx y ((pre.step s1).step st1) upd_same (r1.mono st1.ext)
end
end PD
end
section
set_option Elab.async false
set_option linter.all false
set_option maxRecDepth 100000
set_option maxHeartbeats 4000000
set_option autoImplicit false
namespace PD
open PySem PySem.Spec L2 PySem.W PySem.Calls
open PyProof.Rows hiding St
/-! ### a def that may raise -/
inductive Rx where
  | ok (d : D) | xc (nm f : Str) (d : D)
def runX (n : Nat) (f : S) : List D → M Rx := fun ds g => match f (slots0 n ds) g with
  | some (.rt d, g') => some (.ok d, g')
  | some (.nx _, g') => some (.ok .non, g')
  | some (.xc nm f d _, g') => some (.xc nm f d, g')
  | _ => none
def spX (K : PySem.W.Frag) (n : Nat) (f : List D → M Rx) : Sp := fun vs H Q E => ∃ (F : Fz) (g : G) (ds : List D) (r : Rx) (g' : G), ds.length = n ∧ Same F.h H ∧ GRep K g F H ∧ RpA K F vs ds ∧ f ds g = some (r, g') ∧ match r with
  | .ok d => ∀ v H' F', Stp K g g' F F' H H' → Rp K F' v d → Q v H'
  | .xc nm fl d => ∀ (dd : Addr) (v : V) H' F', Stp K g g' F F' H H' → F'.h dd = some (.xd [(fl, v)]) → Rp K F' v d → E (.ref (He.ga K nm)) (some dd) H'
structure FnX (P : Program) (w : World) (K : PySem.W.Frag) (mg : Str → Option Value) (base : Heap) (k : Nat) (x : Str) (n : Nat) (f : List D → M Rx) : Prop where
  ex : ∃ (a : Addr) (fd : FuncData) (ps : List Str), mg x = some (.ref a) ∧ keepIn K (.ref a) = true ∧ Binds K fd ps [] ∧ FnG P w K mg base (L2N.CX P w) k a fd ps (spX K n f)
theorem fn_dX {P : Program} {w : World} {K : PySem.W.Frag} {mg : Str → Option Value} {base : Heap} {k : Nat} {f : Addr} {x qual : Str} {params : Arguments} {body : List Stmt} {scope : Scope} {kws : List (Str × V)} {fd : FuncData} {N ps : List Str} {sem : S}
    (F : FunD K x qual params body scope [] kws f fd) (S : FnScope N ps scope)
    (hbody : ∀ (cdv : Value) (A : Around) (outer : List Env) (s : Shared) (H : Hp) (E : XK), Room k (A.deeper (envOfC qual scope s.heap.objs.size f cdv)) → (A.deeper (envOfC qual scope s.heap.objs.size f cdv)).guards = some [] →
      PDSS (cxOf (L2N.CX P w) P w K mg base N qual scope f cdv A outer s H E) body sem) : FnG P w K mg base (L2N.CX P w) (k + 1) f fd ps (spX K ps.length (runX N.length sem)) := by
  refine fn_g F S (fun vs H Q E h => ?_) fun cdv A outer s H vs Q E hr gd h => ?_
  · obtain ⟨F, g, ds, r, g', hn, _, _, rv, _⟩ := h
    rw [rv.length, hn]
  · obtain ⟨F, g, ds, r, g', hn, sb, rp, rv, ev, q⟩ := h
    obtain ⟨t, ht, kt⟩ := hbody cdv A outer s H E hr gd
    refine ⟨t, ht, ?_⟩
    unfold runX at ev
    cases h : sem (slots0 N.length ds) g with
    | none => rw [h] at ev; cases ev
    | some r' =>
      obtain ⟨fl, g1⟩ := r'
      rw [h] at ev
      refine kt ⟨g, F, H⟩ (start N vs) H F (slots0 N.length ds) g (pre0 sb rp rv) fl g1 h _ ?_
      cases fl with
      | rt z => cases ev; exact fun v H' F' s' r' => q v H' F' s' r'
      | nx ρ => cases ev; exact fun σ' H' F' p' => q .non H' F' p'.st .non
      | bk ρ => cases ev
      | ct ρ => cases ev
      | xc nm fl d ρ =>
        cases ev
        intro σ' H' F' dd v p' a b u s' xx
        obtain ⟨a0, B, sI, pins, σ0, H0, cls, d0, e, I, nb, up, sky, na, os, ag, rfl, rfl, rfl, rfl⟩ := xx
        exact L2N.takes_of (X := cxOf (L2N.CX P w) P w K mg base N qual scope f cdv A outer s H E) (E := E) rfl rfl rfl rfl u s' ⟨a0, B, sI, pins, σ0, H0, _, _, e, I, nb, up, sky, na, os, ag, q dd v H0 F' p'.st a b⟩
section
variable {X : Cx} {CX : CXT} {k : Nat} {f : Addr} {fd : FuncData} {ps : List Str} {sp : Sp} {E : L2.St → XK} {x : Str} {p pos : Pos} {e : Expr} {es : List Expr} {t : TA}
theorem pe_callGS (F : FnG X.prog X.w X.K X.mg X.base CX k f fd ps sp) (hr : Room k X.A) (gd : X.A.guards = some []) (hg : Gl X x) (hm : X.mg x = some (.ref f)) (hk : keepIn X.K (.ref f) = true) (hb : Binds X.K fd ps []) (hx : ∀ σ, PassesAt CX X σ (E σ))
    (ha : PA X (e :: es) t) (hdb : (x == ("__debug__" : Str)) = false := by decide) (he : starEach (e :: es) X.env = (false, eval e X.env) :: starEach es X.env := by rfl) (hpl : (backTo pos (starEach es X.env)).any (·.1) = false := by rfl) :
    PE X (.Call (.Name x p) (e :: es) [] pos) (tCallS sp E t) := by
  refine ⟨fun pins s σ H Q I h => wpAny_Call_Name_kw (ld_glob I hg hm ?_ hdb)⟩
  refine callWith_K (h₀ := X.base) I.ok.mod.kin hk (thn (ha.run pos pins s σ H _ I h) fun us s1 ⟨vs, H1, I1, r, q⟩ => ⟨I1.kIn, ?_⟩) he hpl
  have hl : us.length = ps.length := r.length.symm.trans (F.len _ _ _ _ q)
  have b := hb s1 us I1.kIn (by rw [List.append_nil]; exact hl)
  rw [List.append_nil] at b
  refine wpAny_call (codeAny_mono (F.run X.A X.stack s1 H1 ⟨us, []⟩ us vs Q (E σ) hr gd I1.env0 b r q) fun res s' hq => ?_)
  match res, hq with
  | .error er, hq => exact hx σ pins H1 s1 er s' I1 hq
  | .ok (.ret u), hq => exact I1.after hq
  | .ok .next, hq => exact False.elim hq
  | .ok .brk, hq => exact False.elim hq
  | .ok .cont, hq => exact False.elim hq
end
/-- f(e, ..) as a statement, f may raise -/
def sExprX (F : List D → M Rx) (fs : EA) : S := fun ρ => mb (fs ρ) fun ds => mb (F ds) fun r => match r with
  | .ok _ => mr (.nx ρ)
  | .xc nm f d => mr (.xc nm f d ρ)
def exK1 (ρ : Rho) : Rx × G → Option (Fl × G)
  | (.ok _, g) => some (.nx ρ, g)
  | (.xc nm f d, g) => some (.xc nm f d ρ, g)
@[simp] theorem exK1_ok (ρ : Rho) (d : D) (g : G) : exK1 ρ (.ok d, g) = some (.nx ρ, g) := rfl
@[simp] theorem exK1_xc (ρ : Rho) (nm f : Str) (d : D) (g : G) : exK1 ρ (.xc nm f d, g) = some (.xc nm f d ρ, g) := rfl
@[simp] theorem sExprX_ap (F : List D → M Rx) (fs : EA) (ρ : Rho) (g : G) : sExprX F fs ρ g = (fs ρ g).bind fun p => (F p.1 p.2).bind (exK1 ρ) := by
  refine (mb_ap _ _ _).trans ?_
  congr 1
  funext p
  refine (mb_ap _ _ _).trans ?_
  congr 1
  funext q
  obtain ⟨r, g⟩ := q
  cases r <;> rfl
theorem pds_exprX {X : Cx} {k n : Nat} {x : Str} {p pos pos' : Pos} {e : Expr} {es : List Expr} {fs : EA} {F : List D → M Rx} (hf : FnX X.prog X.w X.K X.mg X.base k x n F) (hr : Room k X.A) (gd : X.A.guards = some []) (ha : PDA X (e :: es) fs)
    (hn : ∀ ρ g ds g', fs ρ g = some (ds, g') → ds.length = n) (hg : Gl X x := by rfl) (hdb : (x == ("__debug__" : Str)) = false := by decide) (he : starEach (e :: es) X.env = (false, eval e X.env) :: starEach es X.env := by rfl)
    (hpl : (backTo pos (starEach es X.env)).any (·.1) = false := by rfl) (hs : swapsWith (.Call (.Name x p) (e :: es) [] pos) none pos'.line X.env = pure false := by rfl) : PDS X (.Expr (.Call (.Name x p) (e :: es) [] pos) pos') (sExprX F fs) := by
  obtain ⟨a, fd, ps, hm, hk, hb, GG⟩ := hf.ex
  obtain ⟨t, ht, kt⟩ := ha
  refine ⟨_, ps_expr (pe_callGS (E := WE (Wx X)) GG hr gd hg hm hk hb (L2N.passAt takes_wx) ht hdb he hpl) hs, fun en σ H F0 ρ g pre fl g' ev De post => ?_⟩
  obtain ⟨ds, g1, e1, ev⟩ := mb_inv ev
  obtain ⟨r, g2, e2, ev⟩ := mb_inv ev
  refine kt σ H F0 ρ g pre.e ds g1 e1 _ fun vs H1 F1 s1 r1 => ?_
  refine ⟨F1, g1, ds, r, g2, hn _ _ _ _ e1, s1.sub, s1.rep, r1, e2, ?_⟩
  cases r with
  | ok d =>
    obtain ⟨rfl, rfl⟩ := mr_inv ev
    exact fun v H2 F2 s2 r2 => post σ H2 F2 (pre.step (s1.trans s2))
  | xc nm f d =>
    obtain ⟨rfl, rfl⟩ := mr_inv ev
    exact fun dd v H2 F2 s2 a b => post σ H2 F2 dd v (pre.step (s1.trans s2)) a b
/-! ### try: .. except C as n: .. -/
/-- a clause: which classes it takes, its name's slot, its suite -/
structure Cl where
  tab : Str → Option Bool
  i : Nat
  su : S
def goneF (i : Nat) : Fl → Option Fl
  | .nx ρ => some (.nx (ρ.set i none))
  | .bk ρ => some (.bk (ρ.set i none))
  | .ct ρ => some (.ct (ρ.set i none))
  | .rt d => some (.rt d)
  | .xc _ _ _ _ => none
def hX (nm f : Str) (d : D) : List Cl → S
  | [] => fun _ => mz
  | c :: r => fun ρ g => match c.tab nm with
    | some true => (c.su (setR ρ c.i (.hd g.length)) (g ++ [.mx nm f d])).bind fun q => (goneF c.i q.1).map fun fl => (fl, q.2)
    | some false => hX nm f d r ρ g
    | none => none
def sTry (b : S) (cl : List Cl) : S := fun ρ => mb (b ρ) fun fl => match fl with
  | .xc nm f d ρ' => hX nm f d cl ρ'
  | fl => mr fl
theorem PreS.gone {K : PySem.W.Frag} {en : Ent} {F : Fz} {H : Hp} {g : G} {ρ : Rho} {σ : L2.St} (p : PreS K en F H g ρ σ) (i : Nat) : PreS K en F H g (ρ.set i none) (σ.set i none) := by
  have ow : ∀ j q, Owned (ρ.set i none) (σ.set i none) j q → Owned ρ σ j q := fun j q ⟨lv, h1, h2, h3⟩ => by
    by_cases hj : i = j
    · subst hj
      by_cases hl : i < ρ.length
      · rw [List.getElem?_set_self hl] at h1; cases h1
      · rw [List.getElem?_eq_none (by simpa using hl)] at h1; cases h1
    · rw [List.getElem?_set_ne hj] at h1 h3
      exact ⟨lv, h1, h2, h3⟩
  refine ⟨⟨p.e.sub, p.e.rep, ⟨by simpa using p.e.sl.len, fun j lv h => ?_, fun j l q h1 h2 => p.e.sl.sep j l q (ow j q h1) (ow l q h2)⟩⟩, p.st, fun j q h => p.fr j q (ow j q h)⟩
  by_cases hj : i = j
  · subst hj
    by_cases hl : i < ρ.length
    · rw [List.getElem?_set_self hl] at h; cases h
    · rw [List.getElem?_eq_none (by simpa using hl)] at h; cases h
  · rw [List.getElem?_set_ne hj] at h ⊢
    exact p.e.sl.at_ j lv h
/-- the suite of a clause: the exception at a is kept -/
def PDSA (X : Cx) (a : Addr) (st : List Stmt) (f : S) : Prop := ∃ t, PSs X st t ∧ ∀ en σ H F ρ g, PreS X.K en F H g ρ σ → (∃ C dd, H a = some (exK a C dd)) → ∀ fl g', f ρ g = some (fl, g') → ∀ De : Ends, Post X en g' De fl → t De σ H
theorem pdsa_of {X : Cx} {a : Addr} {st : List Stmt} {f : S} (h : PDSS X st f) : PDSA X a st f := by
  obtain ⟨t, p, k⟩ := h
  exact ⟨t, p, fun en σ H F ρ g pre _ => k en σ H F ρ g pre⟩
inductive HdsX (X : Cx) : List ExceptHandler → List Cl → Prop
  | nil : HdsX X [] []
  | cons {x n : Str} {c : Value} {cl : Cl} {b₀ : Stmt} {suite : List Stmt} {np pos' : Pos} {hds : List ExceptHandler} {l : List Cl} (hc : Names X x c) (ht : ∀ nm b, cl.tab nm = some b → exmOne X.K (.ref (He.ga X.K nm)) c = some b)
      (hi : X.N[cl.i]? = some n) (hln : X.env.kindOf n = some .local) (hsu : ∀ (a : Addr) (pn : List (Addr × Obj)), PDSA (X.suite a pn) a (b₀ :: suite) cl.su) (r : HdsX X hds l) :
      HdsX X (.ExceptHandler (some (.Name x np)) (some n) (b₀ :: suite) pos' :: hds) (cl :: l)
section
variable {X : Cx} {pins : List (Addr × Obj)} {σ : L2.St} {H : Hp} {s sI s' : Shared} {B : Heap}
theorem suite0 (I : Inv X pins σ H s) (a : Addr) : Inv (X.suite a (X.pn ++ pins)) [] σ H s :=
  ⟨I.ok.suite _ _, I.os, I.bare, I.base, I.loc, I.cell, I.free, I.freeC, fun p hp => I.pin p (by rw [List.append_nil] at hp; exact hp), I.hok, I.len⟩
theorem unsuite0 {a : Addr} {pn' : List (Addr × Obj)} (I : Inv (X.suite a (X.pn ++ pins)) pn' σ H s) (ok : X.Ok) : Inv X pins σ H s :=
  ⟨ok, I.os, I.bare, I.base, I.loc, I.cell, I.free, I.freeC, fun p hp => I.pin p (List.mem_append_left _ hp), I.hok, I.len⟩
/-- the exception on the ground is a thing that is told of -/
theorem landX {a C dd : Addr} {oe : Obj} {vs : Array Value} (I : Inv X pins σ H sI) (nb : ∀ b o, sI.heap.get? b = some o → b ∉ frs X.stack → B.get? b = some o) (st : B.StaysIn s'.heap) (up : sI.heap.UpToSlots s'.heap) (os : s'.os = sI.os) (ag : AllBare s'.gens)
    (na : H a = none) (nB : B.get? a = none) (nF : a ∉ frs X.stack) (ha : s'.heap.get? a = some oe) (h1 : oe.cls = .ref C) (h2 : oe.dict = some dd) (h3 : oe.data = .fields vs) (h4 : vs[2]? = some .none) : Inv X pins σ (upd H a (exK a C dd)) s' := by
  have nf : ∀ b ∈ frs X.stack, ∀ o, sI.heap.get? b = some o → ∃ sl, s'.heap.get? b = some { o with slots := sl } := fun b hb o e => by
    obtain ⟨_, o', e', hd⟩ := I.stack.mem hb
    rw [e] at e'; cases e'
    exact up b o e hd
  have ni : ∀ b o, sI.heap.get? b = some o → b ≠ a := fun b o e z => by
    subst z
    rw [nb b o e nF] at nB; cases nB
  have J := I.call (ch := []) (h' := s'.heap) (g' := s'.gens) (t' := s'.toks) (d' := s'.drawn) (H' := upd H a (exK a C dd))
    ⟨fun b o e _ hb _ => st b o (nb b o e hb), fun b o e _ hb _ => nf b hb o e, fun b o e n _ => by rw [upd_ne (ni b o e)]; exact n, fun b o e _ => ?_, fun b xs e => by rw [upd_ne (ne_of_none e na)]; exact e, fun b o v e => by rw [upd_ne (ne_of_none e na)]; exact e, fun b ps e => ⟨#[], by rw [upd_ne (ne_of_none e na), e]; simp⟩⟩
    (fun b o e => ?_) ag (fun _ z => nomatch z)
  · obtain ⟨a1, a2, a3, a4, a5⟩ := s'
    have e5 : a5 = sI.os := os
    subst e5
    exact J
  · by_cases hb : b ∈ frs X.stack
    · obtain ⟨sl, q⟩ := nf b hb o e
      exact ⟨_, q⟩
    · exact ⟨o, st b o (nb b o e hb)⟩
  · by_cases hb : b = a
    · subst hb
      rw [upd_same] at e
      cases e
      exact exK_ok ha h1 h2 h3 h4
    · rw [upd_ne hb] at e
      exact (((I.inGround nb).kept st) b o e).stay (fun c v hc z => z) (fun c hc => by rw [upd_ne (ne_of_none hc na)]; exact hc) (fun c xs hc => by rw [upd_ne (ne_of_none hc na)]; exact hc)
end
end PD
end
section
set_option Elab.async false
set_option linter.all false
set_option maxRecDepth 100000
set_option maxHeartbeats 4000000
set_option autoImplicit false
namespace PD
open PySem PySem.Spec L2 PySem.W PySem.Calls
open PyProof.Rows hiding St
theorem sTry_nx {b : S} {cl : List Cl} {ρ : Rho} {g g' g1 : G} {fl fl1 : Fl} (e1 : b ρ g = some (fl1, g1)) (ev : sTry b cl ρ g = some (fl, g')) : (∃ nm f d ρ1, fl1 = .xc nm f d ρ1 ∧ hX nm f d cl ρ1 g1 = some (fl, g')) ∨ ((∀ nm f d ρ1, fl1 ≠ .xc nm f d ρ1) ∧ fl = fl1 ∧ g' = g1) := by
  unfold sTry at ev
  rw [mb_some e1] at ev
  cases fl1 with
  | xc nm f d ρ1 => exact .inl ⟨nm, f, d, ρ1, rfl, ev⟩
  | nx ρ => obtain ⟨rfl, rfl⟩ := mr_inv ev; exact .inr ⟨(fun _ _ _ _ z => by cases z), rfl, rfl⟩
  | rt d => obtain ⟨rfl, rfl⟩ := mr_inv ev; exact .inr ⟨(fun _ _ _ _ z => by cases z), rfl, rfl⟩
  | bk ρ => obtain ⟨rfl, rfl⟩ := mr_inv ev; exact .inr ⟨(fun _ _ _ _ z => by cases z), rfl, rfl⟩
  | ct ρ => obtain ⟨rfl, rfl⟩ := mr_inv ev; exact .inr ⟨(fun _ _ _ _ z => by cases z), rfl, rfl⟩
theorem pds_try {X : Cx} {body : List Stmt} {h₀ : ExceptHandler} {hds : List ExceptHandler} {b : S} {cl : List Cl} {pos : Pos} (hs : X.stack = X.env :: X.outer) (hf : X.env.frame = some X.env.locals) (hN : X.N.Nodup)
    (hb : ∀ (pn : List (Addr × Obj)) (xe : Value → Shared → Prop), PassesOwn (model X.prog X.w) X.A X.env xe → PDSS (X.tr pn xe) body b) (hh : HdsX X (h₀ :: hds) cl) : PDS X (.Try body (h₀ :: hds) [] [] pos) (sTry b cl) := by
  refine ⟨fun De σ H => ∃ en F ρ g fl g', PreS X.K en F H g ρ σ ∧ sTry b cl ρ g = some (fl, g') ∧ Post X en g' De fl, ⟨fun pins s σ H De I h => ?_⟩, fun en σ H F ρ g pre fl g' ev De post => ⟨en, F, ρ, g, fl, g', pre, ev, post⟩⟩
  obtain ⟨en, F, ρ, g, fl, g', pre, ev, post⟩ := h
  have ok := I.ok
  have hfr : X.A.frames = some (X.env :: X.outer) := by rw [ok.frames, hs]
  obtain ⟨fl1, g1, e1⟩ : ∃ fl1 g1, b ρ g = some (fl1, g1) := by
    obtain ⟨fl1, g1, e1, _⟩ := mb_inv ev
    exact ⟨fl1, g1, e1⟩
  refine wpAny_Try_except ?_
  obtain ⟨t, ht, kt⟩ := hb (X.pn ++ pins) (fun er s₁ => wpAny (model X.prog X.w) X.A (noteFrame er X.env) (fun _ s₂ => wpAny (model X.prog X.w) X.A (setFlight er none)
    (fun _ s₃ => wpAny (model X.prog X.w) X.A (handleBy er X.env (h₀ :: hds)) (SP X pins De) X.xe s₃) X.xe s₂) X.xe s₁) PassesOwn.looking
  refine wpAny_mono (ht.run [] s σ H De (I.toTry _) (kt en σ H F ρ g pre fl1 g1 e1 De ?post1)) (fun f s1 hsp => ?ok1) (fun er s1 he => he)
  case ok1 =>
    match f, hsp with
    | .next, ⟨σ1, H1, J1, q⟩ => exact wpAny_execs_nil ⟨σ1, H1, J1.ofTry ok, q⟩
    | .brk, ⟨σ1, H1, J1, q⟩ => exact ⟨σ1, H1, J1.ofTry ok, q⟩
    | .cont, ⟨σ1, H1, J1, q⟩ => exact ⟨σ1, H1, J1.ofTry ok, q⟩
    | .ret u, ⟨v, σ1, H1, J1, r, q⟩ => exact ⟨v, σ1, H1, J1.ofTry ok, r, q⟩
  case post1 =>
    rcases sTry_nx e1 ev with ⟨nm, fn, d, ρ1, rfl, eX⟩ | ⟨hne, rfl, rfl⟩
    · -- the catch
      intro σ1 H1 F1 dd v1 p1 hdd rv u s' xx
      obtain ⟨a, B0, sI, pins', σ0, H0, cls, d0, rfl, J', nb, up, sky, na, os, ag, rfl, rfl, rfl, rfl⟩ := xx
      have J : Inv X pins σ0 H0 sI := J'.ofTry ok
      have sky' : Sky B0 (X.env :: X.outer) a (L2N.Zn (.ref (He.ga X.K nm)) (some dd)) X.env.locals s'.heap := by rw [← hs]; exact sky
      show wpAny (model X.prog X.w) X.A (noteFrame (.ref a) X.env) _ _ _
      refine L2N.Sky.land L2N.Zn.steady hfr hf sky' fun h3 fl3 up3 => ?_
      obtain ⟨oe3, vs3, he3, hz3, hd3⟩ := fl3.there
      have nfr : a ∉ frs (X.env :: X.outer) := fun hm => by
        obtain ⟨_, o', e', hnf⟩ := fl3.2.2.1.mem hm
        rw [he3] at e'; cases e'
        exact hnf _ hd3
      have nfr2 : a ∉ frs X.stack := by rw [hs]; exact nfr
      have nL : a ≠ X.env.locals := fun z => nfr (List.mem_filterMap.mpr ⟨X.env, List.mem_cons_self, by rw [hf, z]⟩)
      have nF : a ∉ X.fs := fun hm => by
        obtain ⟨e, he, q⟩ := List.mem_filterMap.mp hm
        exact nfr (List.mem_filterMap.mpr ⟨e, List.mem_cons_of_mem _ he, q⟩)
      have J3 : Inv X pins σ0 H0 { s' with heap := h3 } := J.landed nb fl3.1 (up.trans up3) os ag
      have S3 := J3.suite he3 hd3 na nL nF
      have go : ∀ {hds' : List ExceptHandler} {l' : List Cl}, HdsX X hds' l' → hX nm fn d l' ρ1 g1 = some (fl, g') → wpAny (model X.prog X.w) X.A (handleBy (.ref a) X.env hds') (SP X pins De) X.xe { s' with heap := h3 } := by
        intro hds' l' hk
        induction hk with
        | nil => intro z; cases z
        | @cons x n c c1 b₀ suite np pos' hds2 l2 hc htab hi hln hsu r ih =>
          intro w
          refine wpAny_handleBy_cons (codeAny_handlers_test ?_) (by intro q; cases q)
          have LT : Looks (model X.prog X.w) h3 (typeOf (.ref a)) (.ref (He.ga X.K nm)) := fun A Q E s k q => wpAny_typeOf_ref (k _ _ he3) (by rw [hz3.1]; exact q)
          have test : ∀ {Q : Value → Shared → Prop} {E : Value → Shared → Prop}, Q c { s' with heap := h3 } → wpAny (model X.prog X.w) (X.A.mark (some (.ref a))) (eval (.Name x np) X.env) Q E { s' with heap := h3 } := fun {Q E} q => by
            obtain ⟨hg, hdbg, hm | ⟨hm, hv, hnn⟩⟩ := hc
            · exact ld_glob (X := X.suite a ((a, oe3) :: (X.pn ++ pins))) S3 hg hm q hdbg
            · exact ld_blt (X := X.suite a ((a, oe3) :: (X.pn ++ pins))) S3 hg hm hv q hnn hdbg
          unfold hX at w
          cases hb1 : c1.tab nm with
          | none => rw [hb1] at w; cases w
          | some bb =>
            rw [hb1] at w
            have LM := exm_one (M := model X.prog X.w) (J3.kIn) LT (htab nm bb hb1)
            refine test (LM.here ?_)
            cases bb with
            | false => exact ih w
            | true =>
              obtain ⟨⟨fl2, g2⟩, w1, w2⟩ := Option.bind_eq_some_iff.mp w
              obtain ⟨fl3', w3, w4⟩ := Option.map_eq_some_iff.mp w2
              cases w4
              refine codeAny_handlers_suite_as ?_
              refine HandSPX.lands_againZ fl3 fun h4 fl4 up4 => ?_
              obtain ⟨oe4, vs4, he4, hz4, hd4⟩ := fl4.there
              have J4 : Inv X pins σ0 (upd H0 a (exK a (He.ga X.K nm) dd)) { s' with heap := h4 } := landX (s' := { s' with heap := h4 }) J nb fl4.1 ((up.trans up3).trans up4) os ag na fl4.2.1 nfr2 he4 hz4.1 hz4.2.1 hd4 (hz4.2.2 _ hd4)
              have S4 := suite0 J4 a
              refine store_ok (X := X.suite a (X.pn ++ pins)) (v := .ref a) S4 hN hi (.inl hln) rfl (fun s5 S5 => ?_) (.inr hln)
              obtain ⟨ts, hts, kts⟩ := hsu a (X.pn ++ pins)
              have st2 := Stp.allocM (o := exK a (He.ga X.K nm) dd) (m := .mx nm fn d) p1.e.sub p1.e.rep na ⟨dd, v1, upd_same, hdd, rv⟩
              have p2 := (p1.step st2).set (i := c1.i) (d := .hd g1.length) (v := .ref a) (.hd (by
                have el : g1.length = F1.mu.length := p1.e.rep.len
                rw [el]
                simp))
              refine wpAny_mono (hts.run [] s5 _ _ { nx := fun σ6 H6 => De.nx (σ6.set c1.i none) H6, rt := De.rt, bk := fun σ6 H6 => De.bk (σ6.set c1.i none) H6, ct := fun σ6 H6 => De.ct (σ6.set c1.i none) H6 } S5
                (kts en _ _ _ _ _ p2 ⟨_, _, upd_same⟩ fl2 g2 w1 _ ?post2)) (fun f s6 hsp => ?end2) (fun _ _ z => False.elim z)
              case post2 =>
                cases fl2 with
                | nx ρ2 => cases w3; exact fun σ6 H6 F6 p6 => post _ H6 F6 (p6.gone c1.i)
                | bk ρ2 => cases w3; exact fun σ6 H6 F6 p6 => post _ H6 F6 (p6.gone c1.i)
                | ct ρ2 => cases w3; exact fun σ6 H6 F6 p6 => post _ H6 F6 (p6.gone c1.i)
                | rt d2 => cases w3; exact fun v H6 F6 s6 r6 => post v H6 F6 s6 r6
                | xc _ _ _ _ => cases w3
              case end2 =>
                have end_ : ∀ {σ6 : L2.St} {H6 : Hp} {Q : Shared → Prop}, Inv (X.suite a (X.pn ++ pins)) [] σ6 H6 s6 → (∀ s7, Inv X pins (σ6.set c1.i none) H6 s7 → Q s7) →
                    wpAny (model X.prog X.w) X.A (do bindName X.env n .none; unbindBehindTheSuite X.env n pos') (fun _ s7 => Q s7) X.xe s6 := fun {σ6 H6 Q} S6 hq => gone_ok (unsuite0 S6 ok) hN hi hln hq
                match f, hsp with
                | .next, ⟨σ6, H6, S6, q6⟩ => exact end_ S6 fun s7 J7 => ⟨_, _, J7, q6⟩
                | .brk, ⟨σ6, H6, S6, q6⟩ => exact end_ S6 fun s7 J7 => ⟨_, _, J7, q6⟩
                | .cont, ⟨σ6, H6, S6, q6⟩ => exact end_ S6 fun s7 J7 => ⟨_, _, J7, q6⟩
                | .ret u, ⟨v6, σ6, H6, S6, r6, q6⟩ => exact end_ S6 fun s7 J7 => ⟨_, _, _, J7, r6, q6⟩
      exact go hh eX
    · cases fl with
      | nx ρ => exact post
      | rt d => exact post
      | bk ρ => exact post
      | ct ρ => exact post
      | xc nm f d ρ => exact absurd rfl (hne nm f d ρ)
end PD
end
section
set_option Elab.async false
set_option linter.all false
set_option maxRecDepth 100000
set_option maxHeartbeats 4000000
set_option autoImplicit false
/-! ### an exception that is kept: isinstance, its field -/
namespace PD
open PySem PySem.Spec L2 PySem.W PySem.Calls
open PyProof.Rows hiding St
@[simp] theorem sTry_ap (b : S) (cl : List Cl) (ρ : Rho) (g : G) : sTry b cl ρ g = (b ρ g).bind fun p => match p with
  | (.xc nm f d ρ', g') => hX nm f d cl ρ' g'
  | (.nx ρ', g') => some (.nx ρ', g')
  | (.rt d, g') => some (.rt d, g')
  | (.bk ρ', g') => some (.bk ρ', g')
  | (.ct ρ', g') => some (.ct ρ', g') := by
  refine (mb_ap _ _ _).trans ?_
  congr 1
  funext p
  obtain ⟨fl, g'⟩ := p
  cases fl <;> rfl
@[simp] theorem goneF_nx (i : Nat) (ρ : Rho) : goneF i (.nx ρ) = some (.nx (ρ.set i none)) := rfl
@[simp] theorem goneF_rt (i : Nat) (d : D) : goneF i (.rt d) = some (.rt d) := rfl
theorem hX_t {nm f : Str} {d : D} {c : Cl} {r : List Cl} {ρ : Rho} {g : G} (h : c.tab nm = some true) : hX nm f d (c :: r) ρ g = (c.su (setR ρ c.i (.hd g.length)) (g ++ [.mx nm f d])).bind fun q => (goneF c.i q.1).map fun fl => (fl, q.2) := by
  show (match c.tab nm with
    | some true => (c.su (setR ρ c.i (.hd g.length)) (g ++ [MO.mx nm f d])).bind fun q => (goneF c.i q.1).map fun fl => (fl, q.2)
    | some false => hX nm f d r ρ g
    | none => none) = _
  rw [h]
theorem hX_f {nm f : Str} {d : D} {c : Cl} {r : List Cl} {ρ : Rho} {g : G} (h : c.tab nm = some false) : hX nm f d (c :: r) ρ g = hX nm f d r ρ g := by
  show (match c.tab nm with
    | some true => (c.su (setR ρ c.i (.hd g.length)) (g ++ [MO.mx nm f d])).bind fun q => (goneF c.i q.1).map fun fl => (fl, q.2)
    | some false => hX nm f d r ρ g
    | none => none) = _
  rw [h]
def isX (tab : Str → Option Bool) (g : G) (d : D) : Option D := match d with
  | .hd n => match g[n]? with
    | some (.mx nm _ _) => (tab nm).map .bl
    | _ => none
  | _ => none
def eIsX (tab : Str → Option Bool) (f : E) : E := fun ρ => mb (f ρ) fun d => fun g => (isX tab g d).map fun d => (d, g)
@[simp] theorem eIsX_ap (tab : Str → Option Bool) (f : E) (ρ : Rho) (g : G) : eIsX tab f ρ g = (f ρ g).bind fun p => (isX tab p.2 p.1).map fun d => (d, p.2) := mb_ap _ _ _
def atX (ok : Str → Bool) (f : Str) (g : G) (d : D) : Option D := match d with
  | .hd n => match g[n]? with
    | some (.mx nm f' v) => if f' = f ∧ ok nm = true then some v else none
    | _ => none
  | _ => none
def eAtX (ok : Str → Bool) (f : Str) (fe : E) : E := fun ρ => mb (fe ρ) fun d => fun g => (atX ok f g d).map fun d => (d, g)
@[simp] theorem eAtX_ap (ok : Str → Bool) (f : Str) (fe : E) (ρ : Rho) (g : G) : eAtX ok f fe ρ g = (fe ρ g).bind fun p => (atX ok f p.2 p.1).map fun d => (d, p.2) := mb_ap _ _ _
def rIsX (K : PySem.W.Frag) : List V → Hp → VK → Prop := fun xs H Q => ∃ (a C dd : Addr) (fs : List (Str × V)) (c : V) (cv : Value) (b : Bool), xs = [.ref a, c] ∧ H a = some (exK a C dd) ∧ H dd = some (.xd fs) ∧ ExcC K C ∧ (∀ u, RelV c u → u = cv) ∧ kitOne K (.ref C) cv = some b ∧ Q (.bl b) H
theorem inst_at {X : Cx} {pins : List (Addr × Obj)} {σ : L2.St} {H : Hp} {s : Shared} {a C dd : Addr} {fs : List (Str × V)} (I : Inv X pins σ H s) (ea : H a = some (exK a C dd)) (ed : H dd = some (.xd fs)) :
    ∃ (oe od : Obj) (mA : Str → Option Value), InstAt s.heap a oe C (some od) ∧ s.heap.Ns1 dd mA ∧ (∀ f, RelO (fs.lookup f) (mA f)) ∧ s.heap.get? dd = some od := by
  obtain ⟨oe, vs, he, h1, h2, h3, _⟩ := exK_at I.hok ea
  have hx : ObjOk X.prog X.w H s.heap dd (.xd fs) := I.hok dd _ ed
  obtain ⟨mA, hns, hr⟩ := hx
  obtain ⟨od, es, ep, ho, hrest⟩ := id hns
  exact ⟨oe, od, mA, ⟨he, h1, by unfold notCls; rw [h3] <;> rfl, by rw [h2]; exact ho⟩, hns, hr, ho⟩
section
variable {X : Cx} {e : Expr} {fe : E} {y f : Str} {p q pos : Pos}
theorem call_isX : CallR X (.builtin "isinstance") (rIsX X.K) := by
  intro pins s σ H xs us Q I r h
  obtain ⟨a, C, dd, fs, c, cv, b, rfl, ea, ed, EC, hcv, ek, q⟩ := h
  cases r with
  | cons rx rr =>
    cases rr with
    | cons rt rr =>
      cases rr
      cases rx
      have ec := hcv _ rt
      subst ec
      obtain ⟨oe, od, mA, J, _⟩ := inst_at I ea ed
      obtain ⟨cd, hcl, _⟩ := any_some EC.hd
      exact kia_one (kitx_exc (by rw [hcl]; rfl) EC.hg EC.hk EC.hs EC.ha EC.hn EC.ht EC.hm) I.kIn J ek (fun z => nomatch z) fun tk => ⟨.bl b, H, I.kept (t' := tk) fun _ _ z => z, rfl, q⟩
theorem pd_isX0 {tab : Str → Option Bool} {c : V} {cv : Value} (hm : X.mg "isinstance" = none) (hc : PE X (.Name y q) (tC c)) (hcv : ∀ u, RelV c u → u = cv) (htab : ∀ nm b, tab nm = some b → ExcC X.K (He.ga X.K nm) ∧ kitOne X.K (.ref (He.ga X.K nm)) cv = some b) (h : PD X e fe)
    (hg : Gl X "isinstance" := by rfl) (he : starEach [e, .Name y q] X.env = (false, eval e X.env) :: starEach [.Name y q] X.env := by rfl) (he2 : starEach [.Name y q] X.env = (false, eval (.Name y q) X.env) :: starEach [] X.env := by rfl)
    (hpl : (backTo pos (starEach [.Name y q] X.env)).any (·.1) = false := by rfl) : PD X (.Call (.Name "isinstance" p) [e, .Name y q] [] pos) (eIsX tab fe) := by
  obtain ⟨t, ht, k⟩ := h
  refine ⟨_, pe_callB call_isX hg hm (by decide +kernel) (pa_cons ht (pa_cons hc pa_nil he2) he) (by decide) (by decide) he hpl, fun σ H F ρ g pre d g' ev Q qq => ?_⟩
  obtain ⟨dx, g1, e1, ev⟩ := mb_inv ev
  obtain ⟨d0, e2, e5⟩ := Option.map_eq_some_iff.mp ev
  cases e5
  refine k σ H F ρ g pre dx _ e1 _ fun v H1 F1 s1 r1 => ?_
  unfold isX at e2
  split at e2
  · rename_i n
    split at e2
    · rename_i nm fn dv hgn
      obtain ⟨b, e3, rfl⟩ := Option.map_eq_some_iff.mp e2
      obtain ⟨a, hmu, _, dd, v1, h1, h2, h3⟩ := s1.rep.get hgn
      have := rp_hd r1 hmu
      subst this
      obtain ⟨EC, ek⟩ := htab nm b e3
      exact ⟨a, _, dd, _, c, cv, b, rfl, h1, s1.sub _ _ h2, EC, hcv, ek, qq _ H1 F1 s1 (.bl b)⟩
    · cases e2
  · cases e2
/-- an own class -/
theorem pd_isXo {tab : Str → Option Bool} (hm : X.mg "isinstance" = none) (hy : X.mg y = some (.ref (He.ga X.K y))) (htab : ∀ nm b, tab nm = some b → ExcC X.K (He.ga X.K nm) ∧ kitOne X.K (.ref (He.ga X.K nm)) (.ref (He.ga X.K y)) = some b) (h : PD X e fe)
    (hg : Gl X "isinstance" := by rfl) (hg2 : Gl X y := by rfl) (hd : (y == ("__debug__" : Str)) = false := by decide) (he : starEach [e, .Name y q] X.env = (false, eval e X.env) :: starEach [.Name y q] X.env := by rfl) (he2 : starEach [.Name y q] X.env = (false, eval (.Name y q) X.env) :: starEach [] X.env := by rfl)
    (hpl : (backTo pos (starEach [.Name y q] X.env)).any (·.1) = false := by rfl) : PD X (.Call (.Name "isinstance" p) [e, .Name y q] [] pos) (eIsX tab fe) :=
  pd_isX0 hm (pe_glob (v := .ref (He.ga X.K y)) hg2 hy rfl hd) (fun u r => r) htab h hg he he2 hpl
/-- a built-in class -/
theorem pd_isXb (T : String) {tab : Str → Option Bool} (hm : X.mg "isinstance" = none) (hy : X.mg y = none) (htab : ∀ nm b, tab nm = some b → ExcC X.K (He.ga X.K nm) ∧ kitOne X.K (.ref (He.ga X.K nm)) (.type T) = some b) (h : PD X e fe) (hv : bootBuiltins y = some (.type T) := by decide +kernel)
    (hg : Gl X "isinstance" := by rfl) (hg2 : Gl X y := by rfl) (hn : y ≠ "__name__" := by decide) (hd : (y == ("__debug__" : Str)) = false := by decide) (he : starEach [e, .Name y q] X.env = (false, eval e X.env) :: starEach [.Name y q] X.env := by rfl) (he2 : starEach [.Name y q] X.env = (false, eval (.Name y q) X.env) :: starEach [] X.env := by rfl)
    (hpl : (backTo pos (starEach [.Name y q] X.env)).any (·.1) = false := by rfl) : PD X (.Call (.Name "isinstance" p) [e, .Name y q] [] pos) (eIsX tab fe) :=
  pd_isX0 hm (pe_bltn (v := .ty T) hg2 hy hv rfl hn hd) (fun u r => r) htab h hg he he2 hpl
theorem pd_atX {ok : Str → Bool} (hok : ∀ nm, ok nm = true → XfC X.K (He.ga X.K nm) ∧ findIn X.K (.ref (He.ga X.K nm)) f = some none) (h : PD X e fe) (hb : attributeBase e f X.env (eval e X.env) = eval e X.env := by rfl) : PD X (.Attribute e f pos) (eAtX ok f fe) := by
  obtain ⟨t, ht, k⟩ := h
  refine ⟨fun σ H Q => t σ H fun x H1 => ∃ (a C dd : Addr) (fs : List (Str × V)) (v : V), x = .ref a ∧ H1 a = some (exK a C dd) ∧ H1 dd = some (.xd fs) ∧ XfC X.K C ∧ findIn X.K (.ref C) f = some none ∧ fs.lookup f = some v ∧ Q v H1, ⟨fun pins s σ H Q I hh => ?_⟩, fun σ H F ρ g pre d g' ev Q qq => ?_⟩
  · refine attr_of hb (thn (ht.run pins s σ H _ I hh) fun u s1 ⟨x, H1, I1, rx, a, C, dd, fs, v, ex, ea, ed, T, hno, l, q⟩ => ?_)
    subst ex
    obtain rfl : u = Value.ref a := rx
    obtain ⟨oe, od, mA, J, hns, hr, ho⟩ := inst_at I1 ea ed
    obtain ⟨od2, ho2, hl⟩ := lookIn_ns hns
    rw [ho] at ho2
    cases ho2
    obtain ⟨u, hu, ru⟩ := RelO.some_of (v := v) (o := mA f) (by rw [← l]; exact hr f)
    exact HandSPX.exc_get I1.kIn J T.ga T.gg T.exC (findObj_own T.hdC hno rfl (by rw [hl, hu])) (handed_of ru) ⟨v, H1, I1.tok _, ru, q⟩
  · obtain ⟨dx, g1, e1, ev⟩ := mb_inv ev
    obtain ⟨d0, e2, e5⟩ := Option.map_eq_some_iff.mp ev
    cases e5
    refine k σ H F ρ g pre dx _ e1 _ fun v H1 F1 s1 r1 => ?_
    unfold atX at e2
    split at e2
    · rename_i n
      split at e2
      · rename_i nm fn dv hgn
        split at e2
        · rename_i hc
          cases e2
          obtain ⟨rfl, hc2⟩ := hc
          obtain ⟨a, hmu, _, dd, v1, h1, h2, h3⟩ := s1.rep.get hgn
          have := rp_hd r1 hmu
          subst this
          obtain ⟨T, hno⟩ := hok nm hc2
          exact ⟨a, _, dd, _, v1, rfl, h1, s1.sub _ _ h2, T, hno, by rw [lookup_put, if_pos rfl], qq v1 H1 F1 s1 h3⟩
        · cases e2
      · cases e2
    · cases e2
end
end PD
end
section
set_option Elab.async false
set_option linter.all false
set_option maxRecDepth 100000
set_option maxHeartbeats 4000000
set_option autoImplicit false
/-! ### what the head tells of the exceptions' classes -/
namespace PD
open PySem PySem.Spec L2 PySem.W PySem.Calls
open PyProof.Rows hiding St
/-- the classes (name, field, family), the own and the built-in classes that are asked for -/
structure XT where
  cl : List (Str × Str × Nat)
  own : List Str
  blt : List (Str × String)
def famN : Nat → List Str
  | 0 => ["Refused", "ValueError"]
  | 1 => ["Barred", "LookupError"]
  | _ => ["Beyond", "ArithmeticError"]
def tailOf : Nat → List Value
  | 0 => tailV
  | 1 => tailL
  | _ => tailA
def newOf : Nat → String
  | 0 => "ValueError.__new__"
  | 1 => "LookupError.__new__"
  | _ => "ArithmeticError.__new__"
theorem baseOf : ∀ k : Nat, ∃ B initId, XBase B (newOf k) initId (tailOf k)
  | 0 => ⟨_, _, xbV⟩
  | 1 => ⟨_, _, xbL⟩
  | _ + 2 => ⟨_, _, xbA⟩
def subX (T : XT) (nm y : Str) : Option Bool := (T.cl.find? fun c => decide (c.1 = nm)).map fun c => decide (y = nm) || (famN c.2.2).contains y
def refsT (tail : List Value) : List Value → Bool
  | .ref _ :: r => refsT tail r
  | l => l == tail
theorem refsT_ok {tail : List Value} : ∀ {l : List Value}, refsT tail l = true → ∃ own, l = mroB own tail
  | [], h => ⟨[], beq_iff_eq.mp h⟩
  | .ref c :: r, h => by
    obtain ⟨own, e⟩ := refsT_ok (l := r) h
    exact ⟨c :: own, by rw [e]; rfl⟩
  | .none :: _, h => ⟨[], beq_iff_eq.mp h⟩
  | .ellipsis :: _, h => ⟨[], beq_iff_eq.mp h⟩
  | .notImplemented :: _, h => ⟨[], beq_iff_eq.mp h⟩
  | .bool _ :: _, h => ⟨[], beq_iff_eq.mp h⟩
  | .int _ _ :: _, h => ⟨[], beq_iff_eq.mp h⟩
  | .float _ _ :: _, h => ⟨[], beq_iff_eq.mp h⟩
  | .str _ _ :: _, h => ⟨[], beq_iff_eq.mp h⟩
  | .bytes _ _ :: _, h => ⟨[], beq_iff_eq.mp h⟩
  | .type _ :: _, h => ⟨[], beq_iff_eq.mp h⟩
  | .builtin _ :: _, h => ⟨[], beq_iff_eq.mp h⟩
def exOk (K : PySem.W.Frag) (C : Addr) (tail : List Value) (newId : String) : Bool := match K.lookup C with
  | some ⟨.type "type", _, .cls cd, sl⟩ => (match cd.mro, sl.toList with
    | .ref C' :: bm, [_, _, _, _, some (.builtin n), _] => C' == C && n == newId && !cd.hasDel && cd.hasDict && refsT tail bm
    | _, _ => false)
  | _ => false
theorem exOk_ok {K : PySem.W.Frag} {C : Addr} {tail : List Value} {newId : String} (q : exOk K C tail newId = true) : ∃ nm q N bs own sn sub ab col dd k0 k1 k2 k3 k5, K.lookup C = some (excClassObj nm q C N bs (mroB own tail) true sn sub ab col dd k0 k1 k2 k3 k5 newId) := by
  unfold exOk at q
  split at q
  · rename_i dd cd sl ho
    split at q
    · rename_i C' bm k0 k1 k2 k3 n k5 hm hs
      simp only [Bool.and_eq_true, beq_iff_eq, Bool.not_eq_true'] at q
      obtain ⟨⟨⟨⟨rfl, rfl⟩, hdel⟩, hdct⟩, ht⟩ := q
      obtain ⟨own, rfl⟩ := refsT_ok ht
      obtain ⟨nm, bs, mro, ns, qn, hd, sn, sub, ab, col, del⟩ := cd
      dsimp only at hm hdel hdct
      subst hm hdel hdct
      have hsl : sl = #[k0, k1, k2, k3, some (.builtin n), k5] := by
        obtain ⟨l⟩ := sl
        simp only at hs
        rw [hs]
      subst hsl
      exact ⟨nm, qn, ns, bs, own, sn, sub, ab, col, dd, k0, k1, k2, k3, k5, ho⟩
    · cases q
  · cases q
def clsOk (K : PySem.W.Frag) (c : Str × Str × Nat) : Bool :=
  let C := He.ga K c.1
  exOk K C (tailOf c.2.2) (newOf c.2.2) && (He.eqO (findIn K (.ref C) "__setattr__") (some (some (.builtin "object.__setattr__"))) && (decide (subIn K (.ref C) (.type "BaseException") = some true) && (decide (typeIn K (.ref C) = some (.type "type")) && (keepIn K (.ref C) &&
    (He.eqO (findIn K (.ref C) "__init__") (some (some (.ref (He.ma K C "__init__")))) && (decide (typeIn K (.ref (He.ma K C "__init__")) = some (.type "function")) && (He.eqO (findIn K (.ref C) c.2.1) (some none) &&
    (He.eqO (findIn K (.ref C) "__getattribute__") (some (some (.builtin "BaseException.__getattribute__"))) && (He.eqO (findIn K (.ref C) "__getattr__") (some none) && (hasDictIn K C && (He.eqO (findIn K (.ref C) "__class__") (some (some (.builtin "object.__class__"))) && decide (mroIn K C (.type "object") = some true))))))))))))
def exmL : List Str := ["Refused", "Barred", "Beyond"]
def xbK (T : XT) (K : PySem.W.Frag) : Bool := (decide (specialIn K (.builtin "object.__class__") "__get__" = some (some (.builtin "getset_descriptor.__get__"))) && decide (takesIn K (.builtin "object.__class__") = some true)) &&
  T.cl.all fun c => clsOk K c && ((T.own.all fun y => decide (kitOne K (.ref (He.ga K c.1)) (.ref (He.ga K y)) = subX T c.1 y)) && ((T.blt.all fun y => decide (kitOne K (.ref (He.ga K c.1)) (.type y.2) = subX T c.1 y.1)) &&
    (exmL.all fun y => decide (exmOne K (.ref (He.ga K c.1)) (.ref (He.ga K y)) = subX T c.1 y))))
structure ClsF (K : PySem.W.Frag) (nm f : Str) (k : Nat) : Prop where
  oex : OexB K (He.ga K nm) (tailOf k) (newOf k)
  init : findIn K (.ref (He.ga K nm)) "__init__" = some (some (.ref (He.ma K (He.ga K nm) "__init__")))
  fn : typeIn K (.ref (He.ma K (He.ga K nm) "__init__")) = some (.type "function")
  no : findIn K (.ref (He.ga K nm)) f = some none
  ec : ExcC K (He.ga K nm)
  xf : XfC K (He.ga K nm)
section
variable {T : XT} {K : PySem.W.Frag}
theorem xb_cls (h : xbK T K = true) {c : Str × Str × Nat} (hc : c ∈ T.cl) : ClsF K c.1 c.2.1 c.2.2 := by
  obtain ⟨h0, h1⟩ := Bool.and_eq_true_iff.mp h
  obtain ⟨s1, s2⟩ := Bool.and_eq_true_iff.mp h0
  obtain ⟨h2, _⟩ := Bool.and_eq_true_iff.mp (List.all_eq_true.mp h1 c hc)
  unfold clsOk at h2
  dsimp only at h2
  obtain ⟨a1, h2⟩ := Bool.and_eq_true_iff.mp h2
  obtain ⟨a2, h2⟩ := Bool.and_eq_true_iff.mp h2
  obtain ⟨a3, h2⟩ := Bool.and_eq_true_iff.mp h2
  obtain ⟨a4, h2⟩ := Bool.and_eq_true_iff.mp h2
  obtain ⟨a5, h2⟩ := Bool.and_eq_true_iff.mp h2
  obtain ⟨a6, h2⟩ := Bool.and_eq_true_iff.mp h2
  obtain ⟨a7, h2⟩ := Bool.and_eq_true_iff.mp h2
  obtain ⟨a8, h2⟩ := Bool.and_eq_true_iff.mp h2
  obtain ⟨a9, h2⟩ := Bool.and_eq_true_iff.mp h2
  obtain ⟨a10, h2⟩ := Bool.and_eq_true_iff.mp h2
  obtain ⟨a11, h2⟩ := Bool.and_eq_true_iff.mp h2
  obtain ⟨a12, a13⟩ := Bool.and_eq_true_iff.mp h2
  exact ⟨⟨exOk_ok a1, He.eqO_ok a2, of_decide_eq_true a3, of_decide_eq_true a4, a5⟩, He.eqO_ok a6, of_decide_eq_true a7, He.eqO_ok a8,
    ⟨He.eqO_ok a9, He.eqO_ok a10, of_decide_eq_true a3, a11, He.eqO_ok a12, of_decide_eq_true s1, of_decide_eq_true s2, of_decide_eq_true a13⟩, ⟨He.eqO_ok a9, He.eqO_ok a10, of_decide_eq_true a3, a11⟩⟩
theorem xb_rest (h : xbK T K = true) {c : Str × Str × Nat} (hc : c ∈ T.cl) : (∀ y ∈ T.own, kitOne K (.ref (He.ga K c.1)) (.ref (He.ga K y)) = subX T c.1 y) ∧ (∀ y ∈ T.blt, kitOne K (.ref (He.ga K c.1)) (.type y.2) = subX T c.1 y.1) ∧ ∀ y ∈ exmL, exmOne K (.ref (He.ga K c.1)) (.ref (He.ga K y)) = subX T c.1 y := by
  obtain ⟨_, h1⟩ := Bool.and_eq_true_iff.mp h
  obtain ⟨_, h2⟩ := Bool.and_eq_true_iff.mp (List.all_eq_true.mp h1 c hc)
  obtain ⟨a1, h2⟩ := Bool.and_eq_true_iff.mp h2
  obtain ⟨a2, a3⟩ := Bool.and_eq_true_iff.mp h2
  exact ⟨fun y hy => of_decide_eq_true (List.all_eq_true.mp a1 y hy), fun y hy => of_decide_eq_true (List.all_eq_true.mp a2 y hy), fun y hy => of_decide_eq_true (List.all_eq_true.mp a3 y hy)⟩
theorem sub_in {nm y : Str} {b : Bool} (h : subX T nm y = some b) : ∃ c ∈ T.cl, c.1 = nm := by
  obtain ⟨c, e, _⟩ := Option.map_eq_some_iff.mp h
  have e2 : decide (c.1 = nm) = true := List.find?_some (p := fun c : Str × Str × Nat => decide (c.1 = nm)) e
  exact ⟨c, List.mem_of_find?_eq_some e, of_decide_eq_true e2⟩
theorem xb_own (h : xbK T K = true) {y : Str} (hy : y ∈ T.own) : ∀ nm b, subX T nm y = some b → ExcC K (He.ga K nm) ∧ kitOne K (.ref (He.ga K nm)) (.ref (He.ga K y)) = some b := fun nm b e => by
  obtain ⟨c, hc, rfl⟩ := sub_in e
  exact ⟨(xb_cls h hc).ec, by rw [(xb_rest h hc).1 y hy]; exact e⟩
theorem xb_blt (h : xbK T K = true) {y : Str × String} (hy : y ∈ T.blt) : ∀ nm b, subX T nm y.1 = some b → ExcC K (He.ga K nm) ∧ kitOne K (.ref (He.ga K nm)) (.type y.2) = some b := fun nm b e => by
  obtain ⟨c, hc, rfl⟩ := sub_in e
  exact ⟨(xb_cls h hc).ec, by rw [(xb_rest h hc).2.1 y hy]; exact e⟩
theorem xb_exm (h : xbK T K = true) {y : Str} (hy : y ∈ exmL) : ∀ nm b, subX T nm y = some b → exmOne K (.ref (He.ga K nm)) (.ref (He.ga K y)) = some b := fun nm b e => by
  obtain ⟨c, hc, rfl⟩ := sub_in e
  rw [(xb_rest h hc).2.2 y hy]
  exact e
/-- the classes whose field is f -/
def hasF (T : XT) (f nm : Str) : Bool := T.cl.any fun c => decide (c.1 = nm) && decide (c.2.1 = f)
theorem xb_at (h : xbK T K = true) (f : Str) : ∀ nm, hasF T f nm = true → XfC K (He.ga K nm) ∧ findIn K (.ref (He.ga K nm)) f = some none := fun nm e => by
  obtain ⟨c, hc, e⟩ := List.any_eq_true.mp e
  obtain ⟨e1, e2⟩ := Bool.and_eq_true_iff.mp e
  have e1 := of_decide_eq_true e1
  have e2 := of_decide_eq_true e2
  subst e1 e2
  exact ⟨(xb_cls h hc).xf, (xb_cls h hc).no⟩
theorem xcls_of {P : Program} {w : World} {mg : Str → Option Value} {base : Heap} {nm f qual : Str} {k : Nat} {fd : FuncData} {params : Arguments} {body : List Stmt} {scope : Scope} {p1 p2 p3 p4 : Pos} (h : xbK T K = true) (hc : (nm, f, k) ∈ T.cl) (hm : mg nm = some (.ref (He.ga K nm)))
    (FF : FunD K "__init__" qual params body scope [] [] (He.fAd K (nm, some "__init__")) fd) (hb : body = [.Assign [.Attribute (.Name "self" p1) f p2] (.Name f p3) p4]) (S : FnScope ["self", f] ["self", f] scope)
    (hx1 : (f == ("__debug__" : Str)) = false) (hx2 : (f == ("__classdict__" : Str)) = false) (hv1 : Vis scope "self") (hv2 : Vis scope f)
    (hsw : ∀ env : Env, env.scope = scope → swapsWith (.Name f p3) (some (.Attribute (.Name "self" p1) f p2)) p4.line env = pure false) (bd : Binds K fd ["self", f] []) (kb : ∀ (s : Shared) (u v : Value), BindsTo s fd ⟨[u], [(f, v)]⟩ [("self", u), (f, v)]) : XCls P w K mg base nm f f := by
  obtain ⟨B, initId, XB⟩ := baseOf k
  have CF := xb_cls h hc
  exact ⟨B, _, initId, _, _, fd, XB, CF.oex, hm, CF.init, CF.fn, init_ok CF.oex XB.ps XB.ob CF.no FF hb S hx1 hx2 hv1 hv2 hsw, bd, kb⟩
end
/-- the head's facts, and those of the classes -/
def hookX (n : Nat) (fa : List He.Fa) (fn : List He.DefD) (T : XT) : PySem.W.Hook where
  α := He.AlD × Bool
  obs := fun s => (He.obsDG n fa fn s.heap.get?, xbK T (He.frG s.heap.get? (He.asD s.heap.get? n)))
  val := fun _ => (He.valD fn, true)
  says := fun _ h => ∃ K : PySem.W.Frag, K.In h ∧ He.SaysD fa fn K ∧ xbK T K = true
  of := fun _ s e => ⟨_, He.frG_in, congrArg Prod.fst e, congrArg Prod.snd e⟩
  keeps := fun _ _ _ ⟨K, hK, c, x⟩ k => ⟨K, PySem.W.Frag.In.keeps hK k, c, x⟩
def obX (n : Nat) (fa : List He.Fa) (fn : List He.DefD) (T : XT) (g : Addr → Option Obj) : He.AlD × Bool := (He.obsDG n fa fn g, xbK T (He.frG g (He.asD g n)))
theorem obX_eq {n : Nat} {fa : List He.Fa} {fn : List He.DefD} {T : XT} {g : Addr → Option Obj} {s : Shared} (h : ∀ a, g a = s.heap.get? a) : obX n fa fn T g = (hookX n fa fn T).obs s := by
  have e : g = s.heap.get? := funext h
  rw [e] <;> rfl
end PD
end
section
set_option Elab.async false
set_option linter.all false
set_option maxRecDepth 100000
set_option maxHeartbeats 4000000
set_option autoImplicit false
/-! ### x, y = n, 'text' in the suite of an except clause -/
namespace PD
open PySem PySem.Spec L2 PySem.W PySem.Calls
open PyProof.Rows hiding St
section
variable {P : Program} {w : World} {A : Around} {E : Value → Shared → Prop} {s : Shared}
/-- a tuple's iterator at its end, while an exception is handled -/
theorem next_end_hot {it tp x1 : Addr} {i : Nat} {its : Array Value} {Q : Option Value → Shared → Prop} (hot : HotX.HotAt A x1 s.heap) (q0 : IsTupIter s.heap it tp i) (q1 : IsTup s.heap tp its) (hx : its[i]? = none) (hne : x1 ≠ it)
    (hQ : ∀ h', Heap.ExtBut it s.heap h' → Q none { s with heap := h' }) : wpAny (model P w) A (pyNext (.ref it)) Q E s := by
  obtain ⟨oi, g1, _, g2⟩ := id q0
  obtain ⟨ot, g3, _, nt, g4⟩ := q1
  obtain ⟨hh, o1, vs1, g5, g6, g7⟩ := hot
  unfold pyNext
  refine wpAny_bind (wpAny_attempt (wpAny_callSpecial?_slot (name := Str.ofString "__next__") q0.typeIs slot_tupleiter_next (wpAny_call_entry slot_tupleiter_next q0.typeIs entry_tupleiter_next ?_ (args_tupleiter_next _))))
  show wpAny _ _ (field (.ref it) 0 >>= _) _ _ s
  refine wpAny_bind (wpAny_field g1 g2 (x := .ref tp) rfl ?_)
  show wpAny _ _ (if (Value.ref tp == Value.none) = true then _ else _) _ _ s
  rw [if_neg (show ¬ ((Value.ref tp == Value.none) = true) from Bool.false_ne_true)]
  show wpAny _ _ (field (.ref it) 1 >>= _) _ _ s
  refine wpAny_bind (wpAny_field g1 g2 (x := .int i 0) rfl ?_)
  show wpAny _ _ (seqItems? (.ref tp) >>= _) _ _ s
  refine wpAny_bind (wpAny_seqItems g3 g4 ?_)
  simp only [Int.toNat_natCast, hx]
  refine wpAny_bind (wpAny_rule (wpAny_bind (wpAny_setField g1 g2 (by simp) ?_)))
  have g8 := (Heap.get?_update_other s.heap (Obj.mapFields (fun vs => vs.setIfInBounds 0 Value.none)) (Ne.symm hne)).trans g5
  refine wpAny_bind (m := newExc (.type "StopIteration") []) ?_
  simp only [newExc, newTuple]
  refine wpAny_bind (wpAny_newObj_type (wpAny_bind (m := firstArgMember _ _) (wpAny_of_eq (a := Value.none) (by first | rfl | (simp only [firstArgMember]; rfl)) (wpAny_newObj_type ?_ (by size_fits)))) (by size_fits))
  refine HotX.raiseNew_hot ⟨hh, o1, vs1, Heap.get?_push_of_some _ (Heap.get?_push_of_some _ g8), g6, g7⟩ (Nat.ne_of_lt (Heap.lt_size (Heap.get?_push_of_some _ g8))) (Heap.get?_push_size _ rfl) rfl
    (by first | (simp; done) | (simp; omega) | (simp only [Array.size_append]; simp; omega)) ?_
  refine wpAny_bind (wpAny_isInstance (T := "StopIteration") (b := true) ⟨_, Heap.get?_update_self _ (Heap.get?_push_size _ rfl) rfl, rfl⟩ isSubtype_stop ?_)
  refine wpAny_pure (hQ _ fun b o hb e => ?_)
  have e2 := Heap.get?_push_of_some { cls := .type "tuple", data := .seq ([] : List Value).toArray } ((Heap.get?_update_other s.heap (Obj.mapFields (fun vs => vs.setIfInBounds 0 Value.none)) (Ne.symm hb)).trans e)
  rw [Heap.get?_update_other _ _ (Nat.ne_of_gt (Heap.lt_size e2))]
  exact Heap.get?_push_of_some _ e2
theorem unpack_hot {tp x1 : Addr} {its : Array Value} {Q : List Value → Shared → Prop} (hot : HotX.HotAt A x1 s.heap) (q1 : IsTup s.heap tp its)
    (hQ : ∀ h', Heap.ExtBut s.heap.objs.size s.heap h' → Q its.toList { s with heap := h' }) : wpAny (model P w) A (unpackItems (.ref tp) its.size none) Q E s := by
  have n1 : tp ≠ s.heap.objs.size := by
    obtain ⟨o, ho, _⟩ := q1
    exact Nat.ne_of_lt (Heap.lt_size ho)
  obtain ⟨hh, o1, vs1, g5, g6, g7⟩ := hot
  have n2 : x1 ≠ s.heap.objs.size := Nat.ne_of_lt (Heap.lt_size g5)
  unfold unpackItems
  refine wpAny_bind ?_
  unfold notIterableAtAll
  refine wpAny_bind (wpAny_specialOf q1.typeIs slot_tuple_iter.lookup (wpAny_pure ?_))
  simp only [Bool.false_eq_true, if_false]
  refine wpAny_bind (wpAny_holding (iter_tuple q1 ?_))
  refine wpAny_bind (wpAny_holding (draw_tuple n1 its.size 0 _ _ ⟨_, Heap.get?_push_size _ rfl, rfl, rfl⟩ (q1.push _) (by omega) fun h1 i1 s1 => ?_))
  have al : List.take its.size (List.drop 0 its.toList) = its.toList := by
    rw [List.drop_zero]
    exact List.take_of_length_le (by simp)
  rw [al, if_neg (by simp)]
  refine wpAny_bind (wpAny_holding (next_end_hot ⟨hh, o1, vs1, (s1.2 x1 n2).trans (Heap.get?_push_of_some _ g5), g6, g7⟩ i1 ((q1.push _).extBut s1.extBut n1) (by simp) n2 fun h2 e2 => ?_))
  simp only [Option.isSome_none, Bool.false_eq_true, if_false]
  exact wpAny_pure (hQ h2 fun b o hb e => e2 b o hb (s1.extBut b o hb (Heap.get?_push_of_some _ e)))
end
def tParH (a0 : Addr) (i j : Nat) (ta : TA) : TS := fun De σ H => ta σ H fun vs H1 => ∃ v w, vs = [v, w] ∧ (∃ C dd, H1 a0 = some (exK a0 C dd)) ∧ De.nx ((σ.set i (some v)).set j (some w)) H1
theorem ps_parH {X : Cx} {a0 : Addr} {i j : Nat} {x y : Str} {a b : Expr} {ta : TA} {px py pt pos : Pos} {kt k2 : Nat} {pt2 : Pos} (hA : X.A.handled = some (.ref a0)) (hN : X.N.Nodup) (hi : X.N[i]? = some x) (hj : X.N[j]? = some y) (hij : i ≠ j)
    (hx : X.env.scope.names.lookup x = some .local) (hy : X.env.scope.names.lookup y = some .local) (ha : PA X [a, b] ta) (hw : swappedStores [.Tuple [.Name x px, .Name y py] kt pt] (.Tuple [a, b] k2 pt2) X.env = pure (some [x, y]))
    (hs : swapsWithSole [.Tuple [.Name x px, .Name y py] kt pt] (.Tuple [a, b] k2 pt2) pos.line X.env = pure false) : PS X (.Assign [.Tuple [.Name x px, .Name y py] kt pt] (.Tuple [a, b] k2 pt2) pos) (tParH a0 i j ta) := by
  refine ⟨fun pins s σ H De I h => ?_⟩
  rw [exec_Assign_arm]
  refine wpAny_bind (wpAny_standAt ?_)
  rw [hs]
  refine wpAny_bind (wpAny_pure ?_)
  rw [if_neg (by decide)]
  refine wpAny_bind (Tuple_ (thn (ha.run _ pins s σ H _ I h) fun us s1 ⟨vs, H1, I1, r1, v, w, e1, ek, q1⟩ => ?_))
  subst e1
  obtain ⟨u1, u2, rfl, rv, rw'⟩ : ∃ u1 u2, us = [u1, u2] ∧ RelV v u1 ∧ RelV w u2 := by
    cases r1 with
    | cons z1 z2 =>
      cases z2 with
      | cons z3 z4 => cases z4; exact ⟨_, _, rfl, z1, z3⟩
  refine wpAny_newObj_type ?_ (by show 2 ≤ sizeLine; decide)
  have I2 := I1.kept (h' := s1.heap.push { cls := .type "tuple", data := .seq [u1, u2].toArray }) (t' := s1.toks) fun b o e => Heap.get?_push_of_some _ e
  obtain ⟨C, dd, ek⟩ := ek
  obtain ⟨oe, vs, he, _, _, h3, h4⟩ := exK_at I2.hok ek
  rw [hw]
  refine wpAny_bind (wpAny_pure ?_)
  show wpAny (model X.prog X.w) X.A (do
    rule "assign.swapped-stores"
    let items ← unpackItems (.ref s1.heap.objs.size) 2 none
    assignInOrder [fun v => bindName X.env y v, fun v => bindName X.env x v] items.reverse
    pure Flow.next) _ _ _
  refine wpAny_bind (wpAny_rule (wpAny_bind (unpack_hot (its := #[u1, u2]) ⟨hA, oe, vs, he, h3, h4⟩ (IsTup.new s1.heap _) fun h' hx' => ?_)))
  have I3 := I2.kept (h' := h') (t' := s1.toks) fun b o e => hx' b o (Nat.ne_of_lt (Heap.lt_size e)) e
  show wpAny _ _ (assignInOrder [fun v => bindName X.env y v, fun v => bindName X.env x v] [u2, u1] >>= fun _ => pure Flow.next) _ _ _
  refine wpAny_bind (assignInOrder_cons (wpAny_bindName (store_ok I3 hN hj (.inl hy) rw' (fun s2 I4 => assignInOrder_cons (wpAny_bindName (store_ok I4 hN hi (.inl hx) rv (fun s3 I5 => assignInOrder_nil (wpAny_pure ?_)) (.inr hx)))) (.inr hy))))
  rw [List.set_comm _ _ (Ne.symm hij)] at I5
  exact ⟨_, H1, I5, q1⟩
/-- x, y = n, 'text' -/
def sPair (i j1 j2 : Nat) (tx : Str) : S := fun ρ => mb (eVar i ρ) fun d => mr (.nx (setR (setR ρ j1 d) j2 (.str tx)))
@[simp] theorem sPair_ap (i j1 j2 : Nat) (tx : Str) (ρ : Rho) (g : G) : sPair i j1 j2 tx ρ g = (eVar i ρ g).map fun p => (.nx (setR (setR ρ j1 p.1) j2 (.str tx)), p.2) := by
  refine (mb_ap _ _ _).trans ?_
  cases eVar i ρ g <;> rfl
theorem pdsa_pair {X : Cx} {a0 : Addr} (i j1 j2 : Nat) {n x y tx : Str} {px py pt pos pn pc : Pos} {kt k2 kc : Nat} {pt2 : Pos} (hA : X.A.handled = some (.ref a0)) (hN : X.N.Nodup) (hni : X.N[i]? = some n := by rfl) (hi : X.N[j1]? = some x := by rfl) (hj : X.N[j2]? = some y := by rfl) (hij : j1 ≠ j2 := by decide)
    (hx : X.env.scope.names.lookup x = some .local := by rfl) (hy : X.env.scope.names.lookup y = some .local := by rfl) (hv : Vis X.env.scope n := by first | exact Or.inl rfl | exact Or.inr (Or.inl rfl) | exact Or.inr (Or.inr rfl)) (hd : (n == ("__debug__" : Str)) = false := by decide) (hcd : (n == ("__classdict__" : Str)) = false := by decide) (hsx : sOk tx = true := by decide +kernel)
    (hw : swappedStores [.Tuple [.Name x px, .Name y py] kt pt] (.Tuple [.Name n pn, .Constant (.str tx) kc pc] k2 pt2) X.env = pure (some [x, y]) := by rfl)
    (hs : swapsWithSole [.Tuple [.Name x px, .Name y py] kt pt] (.Tuple [.Name n pn, .Constant (.str tx) kc pc] k2 pt2) pos.line X.env = pure false := by rfl) :
    PDSA X a0 [.Assign [.Tuple [.Name x px, .Name y py] kt pt] (.Tuple [.Name n pn, .Constant (.str tx) kc pc] k2 pt2) pos] (sPair i j1 j2 tx) := by
  refine ⟨_, pss_one (ps_parH hA hN hi hj hij hx hy (pa_cons (pe_var (i := i) hni hv hd hcd) (pa_cons pe_str pa_nil)) hw hs), fun en σ H F ρ g pre ek fl g' ev De post => ?_⟩
  obtain ⟨d, g1, e1, ev⟩ := mb_inv ev
  obtain ⟨rfl, rfl⟩ := mr_inv ev
  obtain ⟨e2, rfl⟩ := ml_inv e1
  cases h : ρ[i]? with
  | none => rw [h] at e2; cases e2
  | some o =>
    rw [h] at e2
    match o, e2, h with
    | some (.d x), rfl, h =>
      obtain ⟨v, h1, h2⟩ := pre.e.sl.at_ i _ h
      exact ⟨v, h1, v, .str tx, rfl, ek, post _ H F ((pre.set h2).set (.str tx hsx))⟩
end PD
namespace PD
open PySem PySem.Spec L2
/-! ### [..] * k -/
def repA (k : Int) (ds : List D) : Option (List D) := if ds.length * k.toNat ≤ sizeLine ∧ -(2 ^ 63) ≤ k ∧ k < 2 ^ 63 then some (List.replicate k.toNat ds).flatten else none
def aRep (k : Int) (fa : EA) : EA := fun ρ => mb (fa ρ) fun ds => ml (repA k ds)
@[simp] theorem aRep_ap (k : Int) (fa : EA) (ρ : Rho) (g : G) : aRep k fa ρ g = (fa ρ g).bind fun p => (repA k p.1).map fun ds => (ds, p.2) := by
  refine (mb_ap _ _ _).trans ?_
  congr 1
  funext p
  exact ml_ap _ _
theorem rpA_rep {K : PySem.W.Frag} {F : Fz} {vs : List V} {ds : List D} (r : RpA K F vs ds) : ∀ n : Nat, RpA K F (List.replicate n vs).flatten (List.replicate n ds).flatten
  | 0 => .nil
  | n + 1 => by
    rw [List.replicate_succ, List.replicate_succ, List.flatten_cons, List.flatten_cons]
    exact r.append (rpA_rep r n)
theorem po_rep {X : Cx} {a : Expr} {fa : EA} {k : Int} {kc : Nat} {pc pos : Pos} (h : PO X a fa) : PO X (.BinOp a .Mult (.Constant (.int k) kc pc) pos) (aRep k fa) := by
  obtain ⟨t, ht, kt⟩ := h
  refine ⟨_, pe_op op_rep ht pe_int, fun σ H F ρ g pre ds g' ev Q q => ?_⟩
  obtain ⟨ds0, g1, e1, ev⟩ := mb_inv ev
  obtain ⟨e2, rfl⟩ := ml_inv ev
  unfold repA at e2
  split at e2
  · rename_i hz
    cases e2
    refine kt σ H F ρ g pre ds0 _ e1 _ fun p H1 F1 vs s1 n1 n2 n3 h1 h2 r1 => ?_
    refine ⟨p, k, vs, rfl, rfl, h1, hz.2.1, hz.2.2, by rw [r1.length]; exact hz.1, fun p2 hp2 => ?_⟩
    have hl : ((List.replicate k.toNat vs).flatten).length ≤ sizeLine := by
      have := hz.1
      rw [← r1.length] at this
      simp
      rw [Nat.mul_comm]
      exact this
    exact q p2 _ F1 _ (s1.trans (.allocO s1.sub s1.rep hp2)) (s1.mono _ hp2) (s1.sub.free hp2) (s1.rep.out hp2) upd_same hl (rpA_rep r1 k.toNat)
  · cases e2
end PD
end
section
set_option Elab.async false
set_option linter.all false
set_option maxRecDepth 100000
set_option maxHeartbeats 4000000
set_option autoImplicit false
/-! ### set(texts); sorted of it -/
namespace PD
open PySem PySem.Spec L2
open PyProof.Rows hiding St
abbrev GoodT (e : Int × Value) : Prop := ∃ k tk, e.2 = Value.str k tk
/-- at a: a set that holds just the texts l -/
def SetT (P : Program) (w : World) (h : Heap) (a : Addr) (l : List Str) : Prop := ∃ D : Froz.SD, h.get? a = some (Froz.sObj "set" D) ∧ Froz.TxOk P w D l ∧ l.Nodup ∧ Ris D.2.2.place.toList ∧ (w.params.followText "set-order" = true ∨ D.2.2.led = true) ∧ ∀ e ∈ D.1.toList, GoodT e
theorem SetT.at {P : Program} {w : World} {h h' : Heap} {a : Addr} {l : List Str} (R : SetT P w h a l) (k : ∀ o, h.get? a = some o → h'.get? a = some o) : SetT P w h' a l := by
  obtain ⟨D, h1, r⟩ := R
  exact ⟨D, k _ h1, r⟩
theorem ris_tail {ep : Nat} {es : Array (Int × Value)} {t : SetTable} {b : Bool} (r : Ris t.place.toList) : Ris (Froz.tailTx ep es t b).2.2.place.toList := by
  unfold Froz.tailTx
  split
  · exact relayAll_ris _ _ _
  · exact r
theorem led_tail {ep : Nat} {es : Array (Int × Value)} {t : SetTable} {b : Bool} : (Froz.tailTx ep es t b).2.2.led = t.led := by
  unfold Froz.tailTx
  split
  · exact relayAll_led _ _ _
  · rfl
theorem good_tail {ep : Nat} {es : Array (Int × Value)} {t : SetTable} {b : Bool} (g : ∀ e ∈ es.toList, GoodT e) : ∀ e ∈ (Froz.tailTx ep es t b).1.toList, GoodT e := by
  unfold Froz.tailTx
  split
  · intro e he
    exact g e ((relayAll_perm _ _ _).mem_iff.mp he)
  · exact g
theorem ris_add {h : Int} {v : Value} {D : Froz.SD} (r : Ris D.2.2.place.toList) : Ris (Froz.addTx h v D).2.2.place.toList := by
  have r1 := layNew_ris D.2.2 D.1 h v r
  unfold Froz.addTx
  refine ris_tail ?_
  split
  · exact r1
  · exact r1
theorem led_add {h : Int} {v : Value} {D : Froz.SD} : (Froz.addTx h v D).2.2.led = D.2.2.led := by
  have r1 := layNew_led D.2.2 D.1 h v
  unfold Froz.addTx
  rw [led_tail]
  split
  · exact r1
  · exact r1
theorem good_add {h : Int} {k : Str} {u : Tok} {D : Froz.SD} (g : ∀ e ∈ D.1.toList, GoodT e) : ∀ e ∈ (Froz.addTx h (.str k u) D).1.toList, GoodT e := by
  have p1 := layNew_perm D.2.2 D.1 h (.str k u)
  unfold Froz.addTx
  refine good_tail fun e he => ?_
  have he := p1.mem_iff.mp he
  rw [Array.toList_push] at he
  rcases List.mem_append.mp he with z | z
  · exact g e z
  · rw [List.mem_singleton.mp z]; exact ⟨k, u, rfl⟩
def insT (l : List Str) (k : Str) : List Str := if k ∈ l then l else k :: l
section
variable {P : Program} {w : World} {A : Around} {E : Value → Shared → Prop} {s : Shared}
theorem old_x {a : Addr} {T : String} {D : Froz.SD} {l : List Str} {k : Str} {u : Tok} {Q : Bool → Shared → Prop} (ho : s.heap.get? a = some (Froz.sObj T D)) (F : Froz.TxOk P w D l) (hk : k ∈ l) (hb : l.length < scanBound)
    (h : Q false s) : wpAny (model P w) A (setAddHashed a (.str k u) (hashStr w k)) Q E s := by
  obtain ⟨es, ep, t⟩ := D
  have hd : (Froz.sObj T (es, ep, t)).data = .set es ep t := rfl
  have c1 : es.size = l.length := F.sz
  have c2 : (strKind P w).is k (.str k u) = true := Froz.is_str k u
  unfold setAddHashed setAddHashedIn
  refine wpAny_holding (wpAny_bind (wpAny_setState_of ho hd F.fit ?_))
  dsimp only
  rw [byScan_of rfl (by rw [c1]; exact hb) F.el]
  simp only [↓reduceIte]
  unfold setAddByScan
  refine wpAny_bind (wpAny_bind (wpAny_rule (wpAny_bind (wpAny_setScan_of (knd := strKind P w) (k := k) c2 ho hd F.fit F.el ?_))))
  cases hfi : List.findIdx? (fun e => (strKind P w).is k e.2) es.toList with
  | some j =>
    dsimp only
    exact wpAny_pure (wpAny_pure h)
  | none =>
    obtain ⟨e, he, q⟩ := (F.mem k).mp hk
    have c := List.findIdx?_eq_none_iff.mp hfi e he
    rw [q] at c
    cases c
theorem setT_add {a : Addr} {l : List Str} {k : Str} {u : Tok} {Q : Bool → Shared → Prop} (R : SetT P w s.heap a l) (room : l.length + 1 < scanBound)
    (hQ : ∀ b h', Heap.SameBut a s.heap h' → SetT P w h' a (insT l k) → Q b { s with heap := h' }) : wpAny (model P w) A (setAddHashed a (.str k u) (hashStr w k)) Q E s := by
  obtain ⟨D, ho, F, nd, r, le, gd⟩ := R
  unfold insT at hQ
  by_cases hk : k ∈ l
  · rw [if_pos hk] at hQ
    exact old_x ho F hk (by omega) (hQ false s.heap (Heap.SameBut.refl a s.heap) ⟨D, ho, F, nd, r, le, gd⟩)
  · rw [if_neg hk] at hQ
    refine Froz.add_x ho F hk room (hQ true _ (Heap.SameBut.update ..) ⟨_, Froz.get_upd _ ho rfl, Froz.add_ok u F, List.nodup_cons.mpr ⟨hk, nd⟩, ris_add r, by rw [led_add]; exact le, good_add gd⟩)
def insAll (xs : List Str) : List Str := xs.foldl insT []
theorem insT_len (l : List Str) (k : Str) : (insT l k).length ≤ l.length + 1 := by
  unfold insT
  split
  · omega
  · simp
theorem insT_mem {l : List Str} {k x : Str} : x ∈ insT l k ↔ x ∈ l ∨ x = k := by
  unfold insT
  split
  · rename_i h
    exact ⟨.inl, fun z => z.elim id fun e => by rw [e]; exact h⟩
  · rw [List.mem_cons]
    exact Or.comm
theorem insT_nd {l : List Str} {k : Str} (h : l.Nodup) : (insT l k).Nodup := by
  unfold insT
  split
  · exact h
  · rename_i hk
    exact List.nodup_cons.mpr ⟨hk, h⟩
theorem insAll_take (xs : List Str) (i : Nat) {k : Str} (h : xs[i]? = some k) : insAll (xs.take (i + 1)) = insT (insAll (xs.take i)) k := by
  unfold insAll
  rw [List.take_add_one, h, List.foldl_append]
  rfl
theorem insAll_len : ∀ (xs l : List Str), (xs.foldl insT l).length ≤ l.length + xs.length
  | [], l => by simp
  | x :: xs, l => by
    have h1 := insT_len l x
    have h2 := insAll_len xs (insT l x)
    rw [List.foldl_cons, List.length_cons]
    omega
theorem insAll_mem : ∀ (xs l : List Str) (y : Str), y ∈ xs.foldl insT l ↔ y ∈ l ∨ y ∈ xs
  | [], l, y => by simp
  | x :: xs, l, y => by
    rw [List.foldl_cons, insAll_mem xs, insT_mem, List.mem_cons]
    constructor
    · rintro ((h | h) | h)
      · exact .inl h
      · exact .inr (.inl h)
      · exact .inr (.inr h)
    · rintro (h | h | h)
      · exact .inl (.inl h)
      · exact .inl (.inr h)
      · exact .inr h
theorem upd_txts {I : Addr} {fp wr : List Addr} {G0 : Array GenState → Array GenState → Prop} {n : Nat} {Pv : Nat → Value → Prop} {St : Nat → Shared → Prop} {R : Result → Shared → Prop}
    (W : WalksS P w A.in1 I fp wr G0 n Pv St) (S : Addr) (hSf : S ∉ fp) (xs : List Str) (hn : n = xs.length) (hb : xs.length + 2 < scanBound) (hval : ∀ i v, Pv i v → ∃ k t, xs[i]? = some k ∧ v = .str k t) :
    ∀ (m i : Nat) (s : Shared), n - i = m → i ≤ n → St i s → SetT P w s.heap S (insAll (xs.take i)) →
      (∀ s', Moved (S :: wr) G0 s s' → SetT P w s'.heap S (insAll xs) → R (.ok (.ret .none)) s') →
      codeAny (model P w) A (.builtin "set.update.loop" ⟨[.ref S, .ref I], []⟩) R s := by
  have n1 : S ∉ wr := fun h => hSf (W.sub _ h)
  have n2 : ∀ b ∈ wr, b ∈ S :: wr := fun b hb => List.mem_cons_of_mem _ hb
  intro m
  induction m with
  | zero =>
    intro i s hm hi st hS hR
    have e : i = n := by omega
    subst e
    refine codeAny_builtin F.entry_set_update_loop ?_
    rw [Around.under_plainId F.plain_set_update_loop _]
    show wpAny _ A.in1 (pyNext (.ref I) >>= _) _ _ s
    refine wpAny_bind (W.done s _ _ st fun s1 mv => ?_)
    show wpAny _ A.in1 (ret Value.none) _ _ s1
    have e2 : xs.take i = xs := List.take_of_length_le (by omega)
    rw [e2] at hS
    exact wpAny_pure (hR s1 (mv.mono n2) (hS.at fun o e => mv.heap S o n1 e))
  | succ m ih =>
    intro i s hm hi st hS hR
    have lt : i < n := by omega
    refine codeAny_builtin F.entry_set_update_loop ?_
    rw [Around.under_plainId F.plain_set_update_loop _]
    show wpAny _ A.in1 (pyNext (.ref I) >>= _) _ _ s
    refine wpAny_bind (W.item i s _ _ lt st fun v s1 hP st1 mv => ?_)
    obtain ⟨z, t, hz, rfl⟩ := hval i v hP
    have hS1 : SetT P w s1.heap S (insAll (xs.take i)) := hS.at fun o e => mv.heap S o n1 e
    have hl : (insAll (xs.take i)).length ≤ xs.length := by
      have := insAll_len (xs.take i) []
      rw [List.length_take] at this
      simp at this
      unfold insAll
      omega
    show wpAny _ A.in1 (holding [Value.str z t] (setAdd S (.str z t)) >>= _) _ _ s1
    refine wpAny_bind (wpAny_holding ?_)
    unfold setAdd
    refine wpAny_holding (wpAny_bind ((strKind P w).pyHash (k := z) (Froz.is_str z t) ?_))
    refine setT_add (s := { s1 with toks := s1.toks + 1 }) hS1 (by omega) fun b h' sb hS2 => ?_
    rw [← insAll_take xs i hz] at hS2
    refine wpAny_pure ⟨plainId_quiet F.plain_set_update_loop _, ih (i + 1) _ (by omega) lt (W.frame _ s1 _ _ st1 (Nat.le_succ _) fun b hb o e => ?_) hS2 fun s2 mv2 hS3 => ?_⟩
    · rw [sb.2 b (fun q : b = S => hSf (by rw [← q]; exact hb))]
      exact e
    · refine hR s2 (Moved.trans W.gtrans ((mv.mono n2).then_heap (Nat.le_succ _) fun b o hb e => ?_) mv2) hS3
      rw [sb.2 b (fun q : b = S => hb (by rw [q]; exact List.mem_cons_self))]
      exact e
theorem setT_nil {h : Heap} {a : Addr} (ho : h.get? a = some (nso w)) : SetT P w h a [] :=
  ⟨(#[], 0, .fresh 0 0 (!w.params.followText "set-order")), ho, Froz.TxOk.nil (by rfl), List.nodup_nil, List.Pairwise.nil, by
    cases w.params.followText "set-order"
    · exact .inr rfl
    · exact .inl rfl, fun e he => by simp at he⟩
theorem call_set_lstT {lx : Addr} {vs : Array Value} (xs : List Str) {Q : Value → Shared → Prop} (hh : A.handled = none) (gl : s.heap.IsList lx vs) (gi : StrsAre vs.toList xs) (gb : xs.length + 2 < scanBound)
    (hq : ∀ (h' : Heap) (tk : Nat), SetT P w h' s.heap.objs.size (insAll xs) → (∀ b o, s.heap.get? b = some o → h'.get? b = some o) → Q (.ref s.heap.objs.size) { s with heap := h', toks := tk }) :
    wpAny (model P w) A (call (.type "set") [.ref lx]) Q E s := by
  have ez : vs.size = xs.length := by have q := gi.length; rwa [Array.length_toList] at q
  obtain ⟨c0, t0, m0⟩ := PySem.F.called_set.mro
  have m1 := PySem.F.called_set.made
  have m2 := PySem.F.called_set.sub
  refine wpAny_call (codeAny_of_tree ?_)
  show wpAny _ _ (callAny (.type "set") _) _ _ _
  refine wpAny_pure ⟨Code.quiet_builtin _ (by decide +kernel), codeAny_builtin PySem.F.entry_type_call ?_⟩
  rw [Around.under_plain (weight_type_call_type "set" [.ref lx] []) rfl]
  have m3 := PySem.F.called_set.notType
  have m4 := PySem.F.called_set.canCreate
  have m5 := PySem.F.typeCall_set_1 (.ref lx)
  repeat (any_goals (first | assumption | wp_step))
  refine codeAny_mono (code_set_led1 (.ref lx) (E := E) (Q₁ := fun obj u => obj = .ref s.heap.objs.size ∧ u = { s with heap := s.heap.push (nso w) }) ⟨rfl, rfl⟩) fun r u hr => ?_
  match r, hr with
  | .error e, hr => exact hr
  | .ok .next, hr => exact hr.elim
  | .ok .brk, hr => exact hr.elim
  | .ok .cont, hr => exact hr.elim
  | .ok (.ret obj), hr =>
    obtain ⟨rfl, rfl⟩ := hr
    have gS : (s.heap.push (nso w)).get? s.heap.objs.size = some (nso w) := Heap.get?_push_size _ rfl
    have gT : Shared.TypeIs { s with heap := s.heap.push (nso w) } (.ref s.heap.objs.size) "set" := ⟨_, gS, rfl⟩
    have m6 := PySem.F.called_set.init.lookup
    have m7 := PySem.F.called_set.init.bind (.ref s.heap.objs.size)
    repeat (any_goals (first | assumption | wp_step))
    refine codeAny_mono (codeAny_call_builtin (R := wants (fun r u => r = .none ∧ ∃ h' tk, u = { s with heap := h', toks := tk } ∧ SetT P w h' s.heap.objs.size (insAll xs) ∧ (∀ b o, s.heap.get? b = some o → h'.get? b = some o)) E) PySem.F.called_set.init.plain PySem.F.entry_set_init (check_set_init_1 gT ?_)) fun r2 u2 hr2 => ?_
    · obtain ⟨⟨kc, kd, kt, ks⟩, go, hc, nl, hd⟩ := gl
      simp only at hc hd
      subst hc hd
      have go' : (s.heap.push (nso w)).get? lx = some { cls := .type "list", dict := kd, data := .seq vs nl, slots := ks } := Heap.get?_push_of_some _ go
      have n1 := PySem.F.sub_list_set
      have n2 := PySem.F.sub_list_frozenset
      have n3 : (Value.type "list" == Value.type "dict") = false := by decide
      have gl1 : (s.heap.push (nso w)).IsList lx vs := ⟨_, go', rfl, nl, rfl⟩
      unfold Builtin.«set.__init__» noKeywords Builtin.Frozenset.updateFrom
      generalize eP : pyIter = PI
      wp_walk
      subst eP
      refine wpAny_pyIter_list gl1 (wpAny_bind (wpAny_runValue ?_))
      have lt : lx < s.heap.objs.size := Heap.lt_size go
      have hh3 : A.in1.in1.in1.handled = none := by simp [hh]
      have ne1 : lx ≠ (s.heap.push (nso w)).objs.size := by rw [Heap.size_push]; exact Nat.ne_of_lt (Nat.lt_succ_of_lt lt)
      have nf : s.heap.objs.size ∉ [(s.heap.push (nso w)).objs.size, lx] := by
        rw [Heap.size_push]
        simp only [List.mem_cons, List.mem_singleton, List.not_mem_nil, or_false, not_or]
        exact ⟨Nat.ne_of_lt (Nat.lt_succ_self _), Nat.ne_of_gt lt⟩
      have vl : ∀ (i : Nat) (v : Value), vs[i]? = some v → ∃ k t, xs[i]? = some k ∧ v = .str k t := fun i v hv => by
        have hi : i < xs.length := by rw [← ez]; exact (Array.getElem?_eq_some_iff.mp hv).1
        obtain ⟨t, e⟩ := gi.get i xs[i] (List.getElem?_eq_getElem hi)
        rw [Array.getElem?_toList, hv] at e
        exact ⟨xs[i], t, List.getElem?_eq_getElem hi, Option.some.inj e⟩
      refine upd_txts ((Walks.list hh3 _ lx ne1 vs).toS) s.heap.objs.size nf xs ez gb vl (vs.size - 0) 0 _ (by omega) (Nat.zero_le _) ⟨⟨_, Heap.get?_push_size _ rfl, rfl, rfl⟩, (gl1.push _)⟩ ?c1 ?c2
      case c1 =>
        have gg : ((s.heap.push (nso w)).push { cls := .type "list_iterator", data := .fields #[.ref lx, .int 0 0] }).get? s.heap.objs.size = some (nso w) := Heap.get?_push_of_some _ gS
        exact setT_nil gg
      case c2 =>
        intro s' mv hS'
        obtain ⟨h', g2, d', tk', os'⟩ := s'
        obtain rfl : g2 = s.gens := mv.gens
        obtain rfl : d' = s.drawn := mv.drawn
        obtain rfl : os' = s.os := mv.os
        show wpAny _ _ _ _ _ _
        refine wpAny_pure ?_
        show wpAny _ _ (ret Value.none) _ _ _
        refine wpAny_pure ⟨rfl, h', tk', rfl, hS', fun b o e => ?_⟩
        have b0 : b < s.heap.objs.size := Heap.lt_size e
        refine mv.heap b o ?_ (Heap.get?_push_of_some _ (Heap.get?_push_of_some _ e))
        simp only [List.mem_cons, List.mem_singleton, List.not_mem_nil, or_false, not_or]
        exact ⟨Nat.ne_of_lt b0, by rw [Heap.size_push]; exact Nat.ne_of_lt (Nat.lt_succ_of_lt b0)⟩
    · match r2, hr2 with
      | .error e, hr2 => exact hr2
      | .ok .next, hr2 => exact hr2.elim
      | .ok .brk, hr2 => exact hr2.elim
      | .ok .cont, hr2 => exact hr2.elim
      | .ok (.ret r), hr2 =>
        obtain ⟨rfl, h', tk, rfl, hS', hk'⟩ := hr2
        repeat (any_goals (first | assumption | wp_step))
        exact hq _ _ hS' hk'
end
end PD
end
section
set_option Elab.async false
set_option linter.all false
set_option maxRecDepth 100000
set_option maxHeartbeats 4000000
set_option autoImplicit false
namespace PD
open PySem PySem.Spec L2
open PyProof.Rows hiding St
section
variable {P : Program} {w : World} {A : Around} {E : Value → Shared → Prop} {s : Shared}
theorem strs_of : ∀ (vs : List Value), (∀ v ∈ vs, ∃ k tk, v = Value.str k tk) → ∃ ss : List Str, StrsAre vs ss
  | [], _ => ⟨[], .nil⟩
  | v :: vs, h => by
    obtain ⟨k, tk, rfl⟩ := h v List.mem_cons_self
    obtain ⟨ss, hs⟩ := strs_of vs fun u hu => h u (List.mem_cons_of_mem _ hu)
    exact ⟨k :: ss, .cons k tk hs⟩
theorem strs_mem {x : Str} : ∀ {vs : List Value} {ss : List Str}, StrsAre vs ss → (x ∈ ss ↔ ∃ v ∈ vs, Value.isStrOf x v = true)
  | _, _, .nil => by simp
  | _, _, .cons y t r => by
    rw [List.mem_cons, strs_mem r]
    simp only [List.mem_cons, exists_eq_or_imp]
    have : (x = y) ↔ Value.isStrOf x (.str y t) = true := by simp [Value.isStrOf]; exact eq_comm
    rw [this]
theorem perm_of_sub : ∀ {l ss : List Str}, l.Nodup → (∀ x ∈ l, x ∈ ss) → ss.length ≤ l.length → l.Perm ss
  | [], ss, _, _, h => by
    have : ss = [] := List.eq_nil_of_length_eq_zero (by simpa using h)
    rw [this]
  | x :: l, ss, nd, hs, h => by
    obtain ⟨n1, n2⟩ := List.nodup_cons.mp nd
    have hx := hs x List.mem_cons_self
    have p := List.perm_cons_erase hx
    have hl := List.length_erase_of_mem hx
    have ih := perm_of_sub (ss := ss.erase x) n2 (fun y hy => (List.mem_erase_of_ne (fun e : y = x => n1 (by rw [← e]; exact hy))).mpr (hs y (List.mem_cons_of_mem _ hy))) (by rw [hl]; simp at h; omega)
    exact (ih.cons x).trans p.symm
/-- sorted of a set of texts -/
theorem sorted_setT {a : Addr} {l : List Str} {Q : Value → Shared → Prop} (R : SetT P w s.heap a l) (hh : A.handled = none) (h64 : l.length < 64)
    (hQ : ∀ s' p (out : Array Value) (c : Nat) (ys : List Str), (∀ b o, s.heap.get? b = some o → s'.heap.get? b = some o) → s'.gens = s.gens → s'.os = s.os → s.heap.objs.size ≤ p →
      s'.heap.get? p = some (seqObj "list" out c) → StrsAre out.toList ys → ys.Perm l → sortedS ys = true → Q (.ref p) s') :
    wpAny (model P w) A (call (.builtin "sorted") [.ref a]) Q E s := by
  obtain ⟨⟨es, ep, t⟩, ho, F, nd, hr, hl, gd⟩ := R
  have c1 : es.size = l.length := F.sz
  have c2 : es.size < scanBound := by rw [c1]; unfold scanBound; omega
  refine Calls.call_function_entry kind_sorted plain_sorted entry_sorted (args_sorted1 _) ?_
  unfold Builtin.«sorted»
  refine wpAny_bind (m := checkCount "sorted" 1 1 _) (wpAny_pure (wpAny_bind (collect_set (A := A.in1) hh ⟨_, ho, rfl, rfl⟩ F.fit c2 hr hl fun s1 vs k1 hz g1 o1 pm => ?_)))
  have c3 : vs.length = l.length := by rw [pm.length_eq, List.length_map, Array.length_toList]; exact c1
  obtain ⟨ss, hS⟩ := strs_of vs fun v hv => by
    obtain ⟨e, he, q⟩ := List.mem_map.mp (pm.mem_iff.mp hv)
    obtain ⟨k, tk, h1⟩ := gd e he
    exact ⟨k, tk, by rw [← q]; exact h1⟩
  have c4 : ss.length = l.length := hS.length.symm.trans c3
  have c5 : ∀ x, x ∈ ss ↔ x ∈ l := fun x => by
    rw [strs_mem hS, F.mem x]
    constructor
    · rintro ⟨v, hv, q⟩
      obtain ⟨e, he, z⟩ := List.mem_map.mp (pm.mem_iff.mp hv)
      exact ⟨e, he, by rw [z]; exact q⟩
    · rintro ⟨e, he, q⟩
      exact ⟨e.2, pm.mem_iff.mpr (List.mem_map.mpr ⟨e, he, rfl⟩), q⟩
  have c6 : ss.Perm l := (perm_of_sub nd (fun x hx => (c5 x).mpr hx) (by omega)).symm
  have c7 : vs.length ≤ sizeLine := by rw [c3, sizeLine_eq]; omega
  refine wpAny_bind (wpAny_newList ?_ c7)
  have hoL : (s1.heap.push (seqObj "list" vs.toArray 0)).get? s1.heap.objs.size = some (seqObj "list" vs.toArray 0) := Heap.get?_push_size _ rfl
  refine wpAny_bind (wpAny_holding (wpAny_call_entry slot_list_sort ⟨_, hoL, rfl⟩ entry_list_sort (list_sort_treeKAny strKind_oneLt hoL hS.keysOf (fun v₁ v₂ rest e => keyKind_strs (by rw [← e]; exact hS)) c7 fun st' a1 a2 => ⟨_, rfl, ?_⟩) (args_list_sort _)))
  obtain ⟨ys, b1, b2, b3⟩ := sorted_out_str hS a1 a2
  obtain ⟨c, hc⟩ := sortedHeap_at (vs := vs) (out := (arrOf st').map (·.2)) hoL
  refine wpAny_pure ⟨_, rfl, hQ _ s1.heap.objs.size _ c ys (fun b u e => ?_) g1 o1 hz hc b1 (b2.trans c6) b3⟩
  have q := k1 b u e
  have lt := Heap.lt_size q
  show (sortedHeap (s1.heap.push (seqObj "list" vs.toArray 0)) s1.heap.objs.size vs ((arrOf st').map (·.2))).get? b = some u
  rw [sortedHeap_old (Nat.ne_of_lt lt) (by rw [size_push']; exact Nat.lt_succ_of_lt lt)]
  exact Heap.get?_push_of_some _ q
end
/-! ### by data -/
def SetTO (P : Program) (w : World) (a : Addr) (l : List Str) : HO := .ext fun h => SetT P w h a l
theorem setTO_new {P : Program} {w : World} {H : Hp} {h : Heap} {a : Addr} {l : List Str} (R : SetT P w h a l) : ObjOk P w H h a (SetTO P w a l) := by
  have ⟨D, ho, _⟩ := R
  exact ⟨R, ⟨_, ho⟩, fun h1 h2 p k => SetT.at p k⟩
def rSetT (P : Program) (w : World) (K : PySem.W.Frag) : List V → Hp → VK → Prop := fun vs H Q => ∃ (lx : Addr) (xs : List Str), vs = [V.ref lx] ∧ SqL K H lx (xs.map V.str) ∧ xs.length < 60 ∧ ∀ a, H a = none → Q (.ref a) (upd H a (SetTO P w a (insAll xs)))
def rSrtSetT (P : Program) (w : World) : List V → Hp → VK → Prop := fun vs H Q => ∃ (a : Addr) (l : List Str), vs = [V.ref a] ∧ H a = some (SetTO P w a l) ∧ l.length < 64 ∧ ∀ (ys : List Str) (p : Addr), ys.Perm l → sortedS ys = true → H p = none → Q (.ref p) (upd H p (.lst (ys.map V.str)))
section
variable {X : Cx}
theorem cr_setT (hc : X.calm = true) : CallR X (.type "set") (rSetT X.prog X.w X.K) := by
  intro pins s σ H vs us Q I r h
  obtain ⟨lx, xs, rfl, hs, hz, q⟩ := h
  rw [Vals.ref1 r]
  obtain ⟨its, rv, hl, _⟩ := I.list hs
  have hn : H s.heap.objs.size = none := I.hok.fresh (Nat.le_refl _)
  exact call_set_lstT xs (I.ok.hd hc) hl.isList (by simpa using rv.strs) (by unfold scanBound; omega) fun h' tk R k => ⟨.ref s.heap.objs.size, _, I.laid (t' := tk) k (Nat.le_refl _) (setTO_new R), rfl, q _ hn⟩
theorem cr_srtSetT (hc : X.calm = true) : CallR X (.builtin "sorted") (rSrtSetT X.prog X.w) := by
  intro pins s σ H vs us Q I r h
  obtain ⟨a, l, rfl, ha, h64, q⟩ := h
  have R : SetT X.prog X.w s.heap a l := (I.hok a _ ha).1
  rw [Vals.ref1 r]
  refine sorted_setT R (I.ok.hd hc) h64 fun s' p out c ys k g o hp hg hi hm hs => ?_
  have hlen : (ys.map V.str).length ≤ sizeLine := by rw [List.length_map, hm.length_eq, sizeLine_eq]; omega
  have hn : H p = none := I.hok.fresh hp
  have J : Inv X pins σ (upd H p (.lst (ys.map V.str))) { s with heap := s'.heap, gens := s'.gens, drawn := s'.drawn, toks := s'.toks } :=
    I.call (ch := []) (Un.laid k hp hn) (I.hok.laid k hp ⟨hlen, out.toList, c, vals_of_strs hi, hg⟩) (by rw [g]; exact I.bare) (fun _ z => nomatch z)
  obtain ⟨e1, e2, e3, e4, e5⟩ := s'
  have o : e5 = s.os := o
  subst o
  exact ⟨.ref p, _, J, rfl, q ys p hm hs hn⟩
end
def srtT (d : D) : Option D := match d with
  | .lst l => (strsD l).bind fun xs => if xs.length < 60 then some (.lst (isoD ((insAll xs).map D.str))) else none
  | _ => none
def eSrtT (f : E) : E := fun ρ => mb (f ρ) fun d => ml (srtT d)
@[simp] theorem eSrtT_ap (f : E) (ρ : Rho) (g : G) : eSrtT f ρ g = (f ρ g).bind fun p => (srtT p.1).map fun d => (d, p.2) := by
  refine (mb_ap _ _ _).trans ?_
  congr 1
  funext p
  exact ml_ap _ _
theorem pd_srtT {X : Cx} {e : Expr} {f : E} {p p2 pos pos2 : Pos} (hc : X.calm = true) (hm : X.mg "sorted" = none) (hm2 : X.mg "set" = none) (he : PD X e f) (hg : Gl X "sorted" := by rfl) (hg2 : Gl X "set" := by rfl) (hs : starEach [e] X.env = (false, eval e X.env) :: starEach [] X.env := by rfl)
    (hs2 : starEach [.Call (.Name "set" p2) [e] [] pos2] X.env = (false, eval (.Call (.Name "set" p2) [e] [] pos2) X.env) :: starEach [] X.env := by rfl) : PD X (.Call (.Name "sorted" p) [.Call (.Name "set" p2) [e] [] pos2] [] pos) (eSrtT f) := by
  obtain ⟨t, ht, k⟩ := he
  refine ⟨_, pe_callB (cr_srtSetT hc) hg hm (by decide +kernel) (pa_cons (pe_callTy (cr_setT hc) hg2 hm2 (by decide +kernel) (pa_cons ht pa_nil hs) (by decide) (by decide) hs (by rfl)) pa_nil hs2) (by decide) (by decide) hs2 (by rfl), fun σ H F ρ g pre d g' ev Q q => ?_⟩
  obtain ⟨d0, g1, e1, ev⟩ := mb_inv ev
  obtain ⟨e2, rfl⟩ := ml_inv ev
  refine k σ H F ρ g pre d0 _ e1 _ fun v H1 F1 s1 r1 => ?_
  unfold srtT at e2
  split at e2
  · rename_i l
    obtain ⟨xs, e3, e4⟩ := Option.bind_eq_some_iff.mp e2
    split at e4
    · rename_i hz
      cases e4
      have el := strsD_ok e3
      subst el
      obtain ⟨a, ys, rfl, h1, h2, h3⟩ := rp_lst r1
      have hxs := h3.strs
      subst hxs
      refine ⟨a, xs, rfl, sqL_mono s1.sub h1, hz, fun b hb => ?_⟩
      have s2 := s1.trans (.allocO (p := b) (o := SetTO X.prog X.w b (insAll xs)) s1.sub s1.rep hb)
      have hl := insAll_len xs []
      have hl2 : (insAll xs).length ≤ xs.length := by unfold insAll; simpa using hl
      refine ⟨b, insAll xs, rfl, upd_same, by omega, fun zs p3 hp hsr hn => ?_⟩
      rw [isoS hp hsr] at q
      have ok : ∀ x ∈ zs, sOk x = true := fun x hx => by
        have hm := (insAll_mem xs [] x).mp (hp.mem_iff.mp hx)
        rcases hm with z | z
        · cases z
        · obtain ⟨i, hi⟩ := List.getElem?_of_mem z
          obtain ⟨v, e5, e6⟩ := h3.get (i := i) (d := .str x) (by rw [List.getElem?_map, hi]; rfl)
          cases e6 with
          | str _ h => exact h
      refine q _ _ _ (s2.trans (.alloc s2.sub s2.rep hn)) (rp_new_lst (s2.sub.free hn) ?_ (RpA.ofStrs _ ok))
      rw [List.length_map, hp.length_eq, sizeLine_eq]
      omega
    · cases e4
  · cases e2
end PD
end
section
set_option Elab.async false
set_option linter.all false
set_option maxRecDepth 100000
set_option maxHeartbeats 4000000
set_option autoImplicit false
/-! ### int(text), str(int), text.index(sign), text * k, a slice as a new list -/
namespace PD
open PySem PySem.Spec L2
open PyProof.Rows hiding St
def intTD : D → Option D
  | .str a => if a.length ≤ 640 then (PySem.intText? a).map .int else none
  | _ => none
def strTD : D → Option D
  | .int i => if i.natAbs.log2 < 1920 ∧ showOk (.int i) = true then some (.str (toString i)) else none
  | _ => none
def eUn (h : D → Option D) (f : E) : E := fun ρ => mb (f ρ) fun d => ml (h d)
@[simp] theorem eUn_ap (h : D → Option D) (f : E) (ρ : Rho) (g : G) : eUn h f ρ g = (f ρ g).bind fun p => (h p.1).map fun d => (d, p.2) := by
  refine (mb_ap _ _ _).trans ?_
  congr 1
  funext p
  exact ml_ap _ _
section
variable {X : Cx} {e : Expr} {f : E} {p pos : Pos}
theorem pd_intT (hm : X.mg "int" = none) (h : PD X e f) (hg : Gl X "int" := by rfl) (hs : starEach [e] X.env = (false, eval e X.env) :: starEach [] X.env := by rfl) : PD X (.Call (.Name "int" p) [e] [] pos) (eUn intTD f) := by
  obtain ⟨t, ht, k⟩ := h
  refine ⟨_, pe_callTy call_int_str hg hm (by decide +kernel) (pa_cons ht pa_nil hs) (by decide) (by decide) hs (by rfl), fun σ H F ρ g pre d g' ev Q q => ?_⟩
  obtain ⟨d0, g1, e1, ev⟩ := mb_inv ev
  obtain ⟨e2, rfl⟩ := ml_inv ev
  refine k σ H F ρ g pre d0 _ e1 _ fun v H1 F1 s1 r1 => ?_
  unfold intTD at e2
  split at e2
  · split at e2
    · rename_i a hz
      obtain ⟨n, e3, rfl⟩ := Option.map_eq_some_iff.mp e2
      obtain ⟨rfl, _⟩ := rp_str r1
      exact ⟨a, n, rfl, e3, hz, q _ H1 F1 s1 (.int n)⟩
    · cases e2
  · cases e2
theorem pd_strT (hm : X.mg "str" = none) (h : PD X e f) (hg : Gl X "str" := by rfl) (hs : starEach [e] X.env = (false, eval e X.env) :: starEach [] X.env := by rfl) : PD X (.Call (.Name "str" p) [e] [] pos) (eUn strTD f) := by
  obtain ⟨t, ht, k⟩ := h
  refine ⟨_, pe_callTy call_str_int hg hm (by decide +kernel) (pa_cons ht pa_nil hs) (by decide) (by decide) hs (by rfl), fun σ H F ρ g pre d g' ev Q q => ?_⟩
  obtain ⟨d0, g1, e1, ev⟩ := mb_inv ev
  obtain ⟨e2, rfl⟩ := ml_inv ev
  refine k σ H F ρ g pre d0 _ e1 _ fun v H1 F1 s1 r1 => ?_
  unfold strTD at e2
  split at e2
  · split at e2
    · rename_i i hz
      cases e2
      have := rp_int r1
      subst this
      obtain ⟨h1, h2⟩ := hz
      obtain ⟨_, c2⟩ := Bool.and_eq_true_iff.mp h2
      obtain ⟨_, c4⟩ := Bool.and_eq_true_iff.mp c2
      have es : shows (.int i) = (toString i : Str) := rfl
      exact ⟨i, rfl, h1, q _ H1 F1 s1 (.str _ (sOk_mk (strOk_iff.mpr (sg_string _)) (by rw [← es]; exact of_decide_eq_true c4)))⟩
    · cases e2
  · cases e2
end
/-! ### text.index(sign) -/
def sixD (x y : D) : Option D := match x, y with
  | .str a, .str b => match Builtin.Str.occurrences a b 0 a.length 1 with
    | i :: _ => some (.int (i : Int))
    | [] => none
  | _, _ => none
theorem sixD_inv {x y d : D} (h : sixD x y = some d) : ∃ (a b : Str) (i : Nat) (rest : List Nat), x = .str a ∧ y = .str b ∧ Builtin.Str.occurrences a b 0 a.length 1 = i :: rest ∧ d = .int (i : Int) := by
  unfold sixD at h
  split at h
  · split at h
    · rename_i i rest hO
      cases h
      exact ⟨_, _, i, rest, rfl, rfl, hO, rfl⟩
    · cases h
  · cases h
section
variable {X : Cx} {a e : Expr} {fa f : E} {ap cp : Pos}
theorem pd_sindex (ha : PD X a fa) (he : PD X e f) (hbase : attributeBase a "index" X.env (eval a X.env) = eval a X.env := by rfl)
    (hfew : ((backTo cp (starEach [e] X.env)).all (fun x => !x.1) && (backToKw cp (keywordEach [] X.env)).all (fun x => x.1.isSome)
      && decide ([e].length + ([] : List Keyword).length + (if ([] : List Keyword).isEmpty then 0 else 1) < 30)) = true := by rfl)
    (hline : (ap.endLine == cp.line) = true := by rfl) (hs : starEach [e] X.env = (false, eval e X.env) :: starEach [] X.env := by rfl) :
    PD X (.Call (.Attribute a "index" ap) [e] [] cp) (eOp sixD fa f) := by
  obtain ⟨ta, pa, ka⟩ := ha
  obtain ⟨tb, pb, kb⟩ := he
  refine ⟨_, pe_bm PySem.F.plainAttrs_str PySem.F.slot_str_index PySem.F.type_str_index mt_sindex pa (pa_cons pb pa_nil hs) hbase hfew hline hs (by rfl), fun σ H F ρ g pre d g' ev Q q => ?_⟩
  obtain ⟨dx, g1, e1, ev⟩ := mb_inv ev
  obtain ⟨dy, g2, e2, ev⟩ := mb_inv ev
  obtain ⟨e3, rfl⟩ := ml_inv ev
  obtain ⟨a, b, i, rest, rfl, rfl, hO, rfl⟩ := sixD_inv e3
  refine ka σ H F ρ g pre _ g1 e1 _ fun x H1 F1 s1 r1 => ?_
  obtain ⟨rfl, _⟩ := rp_str r1
  refine ⟨rfl, kb σ H1 F1 ρ g1 (pre.step s1) _ _ e2 _ fun y H2 F2 s2 r2 => ?_⟩
  obtain ⟨rfl, _⟩ := rp_str r2
  exact ⟨a, b, i, rest, rfl, rfl, hO, q _ H2 F2 (s1.trans s2) (.int _)⟩
end
/-! ### text * k -/
def repS (a : Str) (n : Int) : Str := ⟨(List.replicate n.toNat a.cps).foldl (· ++ ·) #[]⟩
theorem fold_size (x : Array Nat) : ∀ (n : Nat) (acc : Array Nat), ((List.replicate n x).foldl (· ++ ·) acc).size = acc.size + n * x.size
  | 0, acc => by simp
  | n + 1, acc => by
    rw [List.replicate_succ, List.foldl_cons, fold_size x n (acc ++ x), Array.size_append, Nat.add_mul]
    omega
theorem repS_len (a : Str) (n : Int) : (repS a n).length = n.toNat * a.length := by
  show ((List.replicate n.toNat a.cps).foldl (· ++ ·) #[]).size = _
  rw [fold_size]
  simp
  rfl
def rRepS : R2 := fun x y H Q => ∃ (a : Str) (n : Int), x = .str a ∧ y = .int n ∧ 2 ≤ n ∧ n ≤ 10000 ∧ 1 ≤ a.length ∧ a.length ≤ 100 ∧ Q (.str (repS a n)) H
theorem op_repS {X : Cx} : OpR X (binaryOp .Mult) rRepS := by
  intro pins s σ H x y v u Q I rx ry h
  obtain ⟨a, n, rfl, rfl, h1, h2, h3, h4, q⟩ := h
  obtain ⟨t, rfl⟩ := rx
  obtain ⟨t2, rfl⟩ := ry
  have c0 : ¬ n < 1 := by omega
  have c1 : (n == 1 || a.length == 0) = false := by
    have e1 : (n == 1) = false := by simpa using (by omega : ¬ n = 1)
    have e2 : (a.length == 0) = false := by simpa using (by omega : ¬ a.length = 0)
    rw [e1, e2]
    rfl
  refine PySem.P.mul_str ?_ (fun _ _ => ?_) (fun _ _ => ?_) ?_
  · have e1 : ¬ n < -(2 ^ 63 : Int) := by omega
    have e2 : ¬ n ≥ 2 ^ 63 := by omega
    rw [decide_eq_false e1, decide_eq_false e2]
    rfl
  · have e1 : (a.length : Int) * n ≤ 100 * 10000 := Int.mul_le_mul (by omega) h2 (by omega) (by omega)
    have e2 : (a.length : Int) ≤ (2 ^ 63 - 1) / n := Int.le_ediv_of_mul_le (by omega) (by omega)
    omega
  · have e1 : a.length * n.toNat ≤ 100 * 10000 := Nat.mul_le_mul h4 (by omega)
    exact decide_eq_false (by rw [sizeLine_eq]; omega)
  · rw [if_neg c0, c1, if_neg Bool.false_ne_true]
    refine ⟨?_, ⟨.str _, H, I.tok _, ⟨_, rfl⟩, q⟩⟩
    have e1 : n.toNat * a.length ≤ 10000 * 100 := Nat.mul_le_mul (by omega) h4
    have e2 := repS_len a n
    show (repS a n).length ≤ sizeLine
    rw [e2, sizeLine_eq]
    omega
def mulSD (x y : D) : Option D := match x, y with
  | .str a, .int n => if 2 ≤ n ∧ n ≤ 10000 ∧ 1 ≤ a.length ∧ a.length ≤ 100 ∧ sOk (repS a n) = true then some (.str (repS a n)) else none
  | _, _ => none
theorem pd_mulS {X : Cx} {a b : Expr} {fa fb : E} {pos : Pos} (ha : PD X a fa) (hb : PD X b fb) : PD X (.BinOp a .Mult b pos) (eOp mulSD fa fb) := by
  refine pd_op op_repS (fun F H g x y dx dy d s r rx ry e Q q => ?_) ha hb
  unfold mulSD at e
  split at e
  · split at e
    · rename_i hz
      cases e
      obtain ⟨rfl, _⟩ := rp_str rx
      have := rp_int ry
      subst this
      exact ⟨_, _, rfl, rfl, hz.1, hz.2.1, hz.2.2.1, hz.2.2.2.1, q _ H F (Stp.refl s r) (.str _ hz.2.2.2.2)⟩
    · cases e
  · cases e
/-! ### a slice, as a new list -/
def aSlL (fa : E) (fl fh : Rho → M (Option Int)) : EA := fun ρ => mb (fa ρ) fun x => mb (fl ρ) fun l => mb (fh ρ) fun h => ml (match x with
  | .lst xs => some (cutL xs l h)
  | _ => none)
@[simp] theorem aSlL_ap (fa : E) (fl fh : Rho → M (Option Int)) (ρ : Rho) (g : G) : aSlL fa fl fh ρ g = (fa ρ g).bind fun p => (fl ρ p.2).bind fun q => (fh ρ q.2).bind fun r => (match p.1 with
  | .lst xs => some (cutL xs q.1 r.1)
  | _ => none).map fun ds => (ds, r.2) := by
  refine (mb_ap _ _ _).trans ?_
  congr 1
  funext p
  refine (mb_ap _ _ _).trans ?_
  congr 1
  funext q
  refine (mb_ap _ _ _).trans ?_
  congr 1
  funext r
  exact ml_ap _ _
theorem po_sl {X : Cx} {a : Expr} {fa : E} {lo hi : Option Expr} {fl fh : Rho → M (Option Int)} {p2 pos : Pos} (ha : PD X a fa) (hl : PDP X lo fl) (hh : PDP X hi fh) : PO X (.Subscript a (.Slice lo hi none p2) pos) (aSlL fa fl fh) := by
  obtain ⟨ta, pa, ka⟩ := ha
  obtain ⟨tl, pl, kl⟩ := hl
  obtain ⟨th, ph, kh⟩ := hh
  refine ⟨_, pe_slice sl_all pa pl ph, fun σ H F ρ g pre ds g' e Q q => ?_⟩
  obtain ⟨dx, g1, e1, e⟩ := mb_inv e
  obtain ⟨l, g2, e2, e⟩ := mb_inv e
  obtain ⟨h, g3, e3, e⟩ := mb_inv e
  obtain ⟨e4, rfl⟩ := ml_inv e
  refine ka σ H F ρ g pre dx g1 e1 _ fun x H1 F1 s1 r1 => kl σ H1 F1 ρ g1 (pre.step s1) l g2 e2 _ fun H2 F2 s2 => kh σ H2 F2 ρ g2 (pre.step (s1.trans s2)) h _ e3 _ fun H3 F3 s3 => ?_
  have s := (s1.trans s2).trans s3
  have r := r1.mono (s2.ext.trans s3.ext)
  split at e4
  · cases e4
    obtain ⟨p, xs, rfl, h1, h2, h3⟩ := rp_lst r
    exact .inl ⟨p, xs, rfl, sqL_mono s.sub h1, fun c hc => q c _ F3 _ (s.trans (.allocO s.sub s.rep hc)) (s.mono _ hc) (s.sub.free hc) (s.rep.out hc) upd_same (Nat.le_trans (cutL_len _ _ _) h2) (rp_cut h3 l h)⟩
  · cases e4
/-! ### {} -/
def eK0 : EK := fun _ => mr ([], [])
@[simp] theorem eK0_ap (ρ : Rho) (g : G) : eK0 ρ g = some (([], []), g) := rfl
theorem pk_nil {X : Cx} {pos : Pos} : PK X (.Dict [] [] pos) eK0 := ⟨_, pe_dnewK, fun σ H F ρ g pre r g' e Q q => by
  obtain ⟨rfl, rfl⟩ := mr_inv e
  exact fun p hp => q p _ F [] (.allocO pre.sub pre.rep hp) hp (pre.sub.free hp) (pre.rep.out hp) upd_same (Nat.zero_le _) rfl List.nodup_nil .nil⟩
end PD
end
section
set_option Elab.async false
set_option linter.all false
set_option maxRecDepth 100000
set_option maxHeartbeats 0
namespace L_k02
open PySem PySem.Spec PyProof.Rows L2
def top (i : Nat) : Stmt := PySem.Challenge.pw_whocan_k02_names_and_numbers.main.body.getD i (.Pass ⟨0, 0, 0, 0⟩)
def d_is_whole : He.DefD := ⟨("is_whole", none), "is_whole", "is_whole", defArgs (top 5), defBody (top 5), defScope (top 5), [], []⟩
def d_is_of : He.DefD := ⟨("is_of", none), "is_of", "is_of", defArgs (top 6), defBody (top 6), defScope (top 6), [], []⟩
def d_is_name : He.DefD := ⟨("is_name", none), "is_name", "is_name", defArgs (top 7), defBody (top 7), defScope (top 7), [], []⟩
def d_is_rising : He.DefD := ⟨("is_rising", none), "is_rising", "is_rising", defArgs (top 8), defBody (top 8), defScope (top 8), [], []⟩
def d_number_in : He.DefD := ⟨("number_in", none), "number_in", "number_in", defArgs (top 9), defBody (top 9), defScope (top 9), [], []⟩
def d__law_begun : He.DefD := ⟨("_law_begun", none), "_law_begun", "_law_begun", defArgs (top 15), defBody (top 15), defScope (top 15), [], []⟩
def d__law_draw : He.DefD := ⟨("_law_draw", none), "_law_draw", "_law_draw", defArgs (top 16), defBody (top 16), defScope (top 16), [], []⟩
def d__law_signs : He.DefD := ⟨("_law_signs", none), "_law_signs", "_law_signs", defArgs (top 17), defBody (top 17), defScope (top 17), [], []⟩
def d__law_any : He.DefD := ⟨("_law_any", none), "_law_any", "_law_any", defArgs (top 18), defBody (top 18), defScope (top 18), [], []⟩
def d__law_text : He.DefD := ⟨("_law_text", none), "_law_text", "_law_text", defArgs (top 19), defBody (top 19), defScope (top 19), [], []⟩
def d__law_is_name : He.DefD := ⟨("_law_is_name", none), "_law_is_name", "_law_is_name", defArgs (top 20), defBody (top 20), defScope (top 20), [], []⟩
def d__law_number : He.DefD := ⟨("_law_number", none), "_law_number", "_law_number", defArgs (top 21), defBody (top 21), defScope (top 21), [], []⟩
def d__law_is_rising : He.DefD := ⟨("_law_is_rising", none), "_law_is_rising", "_law_is_rising", defArgs (top 22), defBody (top 22), defScope (top 22), [], []⟩
def d__law_row : He.DefD := ⟨("_law_row", none), "_law_row", "_law_row", defArgs (top 23), defBody (top 23), defScope (top 23), [], []⟩
def d__law_whole_right : He.DefD := ⟨("_law_whole_right", none), "_law_whole_right", "_law_whole_right", defArgs (top 24), defBody (top 24), defScope (top 24), [], []⟩
def d_law : He.DefD := ⟨("law", none), "law", "law", defArgs (top 25), defBody (top 25), defScope (top 25), [], []⟩
def fn : List He.DefD := ([d_is_whole, d_is_of, d_is_name, d_is_rising, d_number_in, d__law_begun, d__law_draw, d__law_signs, d__law_any, d__law_text, d__law_is_name, d__law_number, d__law_is_rising, d__law_row, d__law_whole_right, d_law] : List He.DefD)
def fa : List He.Fa := ([.glo "is_whole", .glo "is_of", .glo "is_name", .glo "is_rising", .glo "number_in", .glo "_law_begun", .glo "_law_draw", .glo "_law_signs", .glo "_law_any", .glo "_law_text", .glo "_law_is_name", .glo "_law_number", .glo "_law_is_rising", .glo "_law_row", .glo "_law_whole_right", .glo "law", .free "all", .free "bool"] : List He.Fa) ++ ([.free "int", .free "isinstance", .free "len", .free "range", .free "repr", .free "set", .free "sorted", .free "str", .free "tuple", .free "zip", .str "SMALL" "abcdefghijklmnopqrstuvwxyz", .str "FIGURES" "0123456789", .int "LONGEST" 8, .int "MOST_FIGURES" 6, .int "PLANS" 600, .int "NAMES" 20, .int "DEEP" 20, .int "HEAVY" 300] : List He.Fa)
abbrev R : PySem.W.OpenRow := PySem.W.OpenLaw.row PySem.Challenge.rw_whocan_k02_names_and_numbers
abbrev hk : PySem.W.Hook := He.hookD 4 fa fn
def ob (s : PySem.W.SharedT) : He.AlD := He.obsDG 4 fa fn (HandSHeadRun.getT s)
theorem ob_eq (s : PySem.W.SharedT) : ob s = hk.obs s.abs := He.obsDG_eq (HandSHeadRun.getT_eq s)
def loose : List PySem.Str := (["SMALL", "FIGURES", "LONGEST", "MOST_FIGURES", "is_whole", "is_of", "is_name", "is_rising", "number_in", "PLANS", "NAMES", "DEEP", "HEAVY", "_law_begun", "_law_draw", "_law_signs", "_law_any", "_law_text"] : List PySem.Str) ++ (["_law_is_name", "_law_number", "_law_is_rising", "_law_row", "_law_whole_right"] : List PySem.Str)
theorem run (w : World) : HandSHeadRun.RunEq R (PySem.W.view R.prog [25]) hk ob 3000 loose w := by
  intro os
  kernel_rfl
end L_k02
end
section
set_option Elab.async false
set_option linter.all false
set_option maxRecDepth 100000
set_option maxHeartbeats 0
set_option autoImplicit false
namespace L_k02
open PySem PySem.Spec L2 PD
open PyProof.Rows hiding St
structure Vn (K : PySem.W.Frag) (mg : Str → Option Value) : Prop where
  b_all : mg "all" = none
  b_bool : mg "bool" = none
  b_int : mg "int" = none
  b_isinstance : mg "isinstance" = none
  b_len : mg "len" = none
  b_range : mg "range" = none
  b_repr : mg "repr" = none
  b_set : mg "set" = none
  b_sorted : mg "sorted" = none
  b_str : mg "str" = none
  b_tuple : mg "tuple" = none
  b_zip : mg "zip" = none
  c_SMALL : ∃ t, mg "SMALL" = some (.str "abcdefghijklmnopqrstuvwxyz" t)
  c_FIGURES : ∃ t, mg "FIGURES" = some (.str "0123456789" t)
  c_LONGEST : ∃ t, mg "LONGEST" = some (.int 8 t)
  c_MOST_FIGURES : ∃ t, mg "MOST_FIGURES" = some (.int 6 t)
  c_PLANS : ∃ t, mg "PLANS" = some (.int 600 t)
  c_NAMES : ∃ t, mg "NAMES" = some (.int 20 t)
  c_DEEP : ∃ t, mg "DEEP" = some (.int 20 t)
  c_HEAVY : ∃ t, mg "HEAVY" = some (.int 300 t)
  f_is_whole : ∃ a fd, mg "is_whole" = some (.ref a) ∧ FunD K "is_whole" "is_whole" (defArgs (top 5)) (defBody (top 5)) (defScope (top 5)) [] [] a fd
  f_is_of : ∃ a fd, mg "is_of" = some (.ref a) ∧ FunD K "is_of" "is_of" (defArgs (top 6)) (defBody (top 6)) (defScope (top 6)) [] [] a fd
  f_is_name : ∃ a fd, mg "is_name" = some (.ref a) ∧ FunD K "is_name" "is_name" (defArgs (top 7)) (defBody (top 7)) (defScope (top 7)) [] [] a fd
  f_is_rising : ∃ a fd, mg "is_rising" = some (.ref a) ∧ FunD K "is_rising" "is_rising" (defArgs (top 8)) (defBody (top 8)) (defScope (top 8)) [] [] a fd
  f_number_in : ∃ a fd, mg "number_in" = some (.ref a) ∧ FunD K "number_in" "number_in" (defArgs (top 9)) (defBody (top 9)) (defScope (top 9)) [] [] a fd
  f__law_begun : ∃ a fd, mg "_law_begun" = some (.ref a) ∧ FunD K "_law_begun" "_law_begun" (defArgs (top 15)) (defBody (top 15)) (defScope (top 15)) [] [] a fd
  f__law_draw : ∃ a fd, mg "_law_draw" = some (.ref a) ∧ FunD K "_law_draw" "_law_draw" (defArgs (top 16)) (defBody (top 16)) (defScope (top 16)) [] [] a fd
  f__law_signs : ∃ a fd, mg "_law_signs" = some (.ref a) ∧ FunD K "_law_signs" "_law_signs" (defArgs (top 17)) (defBody (top 17)) (defScope (top 17)) [] [] a fd
  f__law_any : ∃ a fd, mg "_law_any" = some (.ref a) ∧ FunD K "_law_any" "_law_any" (defArgs (top 18)) (defBody (top 18)) (defScope (top 18)) [] [] a fd
  f__law_text : ∃ a fd, mg "_law_text" = some (.ref a) ∧ FunD K "_law_text" "_law_text" (defArgs (top 19)) (defBody (top 19)) (defScope (top 19)) [] [] a fd
  f__law_is_name : ∃ a fd, mg "_law_is_name" = some (.ref a) ∧ FunD K "_law_is_name" "_law_is_name" (defArgs (top 20)) (defBody (top 20)) (defScope (top 20)) [] [] a fd
  f__law_number : ∃ a fd, mg "_law_number" = some (.ref a) ∧ FunD K "_law_number" "_law_number" (defArgs (top 21)) (defBody (top 21)) (defScope (top 21)) [] [] a fd
  f__law_is_rising : ∃ a fd, mg "_law_is_rising" = some (.ref a) ∧ FunD K "_law_is_rising" "_law_is_rising" (defArgs (top 22)) (defBody (top 22)) (defScope (top 22)) [] [] a fd
  f__law_row : ∃ a fd, mg "_law_row" = some (.ref a) ∧ FunD K "_law_row" "_law_row" (defArgs (top 23)) (defBody (top 23)) (defScope (top 23)) [] [] a fd
  f__law_whole_right : ∃ a fd, mg "_law_whole_right" = some (.ref a) ∧ FunD K "_law_whole_right" "_law_whole_right" (defArgs (top 24)) (defBody (top 24)) (defScope (top 24)) [] [] a fd
  f_law : ∃ a fd, mg "law" = some (.ref a) ∧ FunD K "law" "law" (defArgs (top 25)) (defBody (top 25)) (defScope (top 25)) [] [] a fd
noncomputable def s_is_whole : S := (sRet (eAnd (eIsi .int (eVar 0)) (eAnd (eNot (eIsi .bool (eVar 0))) (eChain leD leD (eVar 1) (eVar 0) (eVar 2)))))
noncomputable def F_is_whole : List D → M D := runF 3 s_is_whole
theorem sc_is_whole : FnScope ["thing", "least", "most"] ["thing", "least", "most"] (defScope (top 5)) := ⟨rfl, rfl, rfl, by decide +kernel, rfl, by decide +kernel, by decide +kernel⟩
theorem g_is_whole {P : Program} {w : World} {K : PySem.W.Frag} {mg : Str → Option Value} {base : Heap} {a : Addr} {fd : FuncData} (V : Vn K mg) (FF : FunD K "is_whole" "is_whole" (defArgs (top 5)) (defBody (top 5)) (defScope (top 5)) [] [] a fd) : FnG P w K mg base CX0 1 a fd ["thing", "least", "most"] (spD K 3 F_is_whole) := by
  have sc := sc_is_whole
  refine fn_dG (k := 0) FF sc fun cdv A outer s H E hr gd => ?_
  exact (pdss_one (pds_ret (pd_and (pd_isi .int rfl V.b_isinstance V.b_int (pd_var 0).weak) (pd_and (pd_not (pd_isi .bool rfl V.b_isinstance V.b_bool (pd_var 0).weak)) (pd_one (pd_chain op_leA op_leA leD_ok leD_ok (pd_var 1).weak (pd_var 0).weak (pd_var 2).weak))))))
theorem w_is_whole {P : Program} {w : World} {K : PySem.W.Frag} {mg : Str → Option Value} {base : Heap} (V : Vn K mg) : FnD P w K mg base 1 "is_whole" 3 F_is_whole := by
  obtain ⟨a, fd, hm, FF⟩ := V.f_is_whole
  exact ⟨a, fd, ["thing", "least", "most"], hm, FF.kp, binds_of (FunD.bindsA (ps := ["thing", "least", "most"]) FF fun _ _ _ _ _ _ us hl => match us, hl with | [_, _, _], _ => rfl), g_is_whole V FF⟩
noncomputable def s_is_of : S := (sRet (eAnd (eIsi .str (eVar 0)) (eAnd (eChain leD leD (eC (.int 1)) (eBi lenD (aCons (eVar 0) aNil)) (eVar 2)) (eBi allD (aCons (eO (eLcA [3] (aItem (eVar 0)) (bName 3) tYesD (eCmp inD (eVar 3) (eVar 1)))) aNil)))))
noncomputable def F_is_of : List D → M D := runF 4 s_is_of
theorem sc_is_of : FnScope ["thing", "signs", "most", "sign"] ["thing", "signs", "most"] (defScope (top 6)) := ⟨rfl, rfl, rfl, by decide +kernel, rfl, by decide +kernel, by decide +kernel⟩
theorem g_is_of {P : Program} {w : World} {K : PySem.W.Frag} {mg : Str → Option Value} {base : Heap} {a : Addr} {fd : FuncData} (V : Vn K mg) (FF : FunD K "is_of" "is_of" (defArgs (top 6)) (defBody (top 6)) (defScope (top 6)) [] [] a fd) : FnG P w K mg base CX0 1 a fd ["thing", "signs", "most"] (spD K 3 F_is_of) := by
  have sc := sc_is_of
  refine fn_dG (k := 0) FF sc fun cdv A outer s H E hr gd => ?_
  exact (pdss_one (pds_ret (pd_and (pd_isi .str rfl V.b_isinstance V.b_str (pd_var 0).weak) (pd_and (pd_chain op_leA op_leA leD_ok leD_ok (pd_int).weak (pd_len V.b_len (pba_cons (pd_var 0).weak pba_nil)).weak (pd_var 2).weak) (pd_one (pd_all rfl V.b_all (pba_cons (pd_new (po_lc [("sign", 3)] rfl sc.nd (pdi_val (pd_var 0)).weak (blk_of (by rfl)) (fun _ _ _ _ _ => (pdg_name 3 sc.nd)) (fun _ _ _ _ _ => pdts_nil) (fun _ _ _ _ _ => (pd_cmp (op_inA (hu65 hr)) inD_ok (pd_var 3).weak (pd_var 1).weak)))).weak pba_nil)))))))
theorem w_is_of {P : Program} {w : World} {K : PySem.W.Frag} {mg : Str → Option Value} {base : Heap} (V : Vn K mg) : FnD P w K mg base 1 "is_of" 3 F_is_of := by
  obtain ⟨a, fd, hm, FF⟩ := V.f_is_of
  exact ⟨a, fd, ["thing", "signs", "most"], hm, FF.kp, binds_of (FunD.bindsA (ps := ["thing", "signs", "most"]) FF fun _ _ _ _ _ _ us hl => match us, hl with | [_, _, _], _ => rfl), g_is_of V FF⟩
noncomputable def s_is_name : S := (sRet (eCall F_is_of (aCons (eVar 0) (aCons (eC (.str "abcdefghijklmnopqrstuvwxyz")) (aCons (eC (.int 8)) aNil)))))
noncomputable def F_is_name : List D → M D := runF 1 s_is_name
theorem sc_is_name : FnScope ["thing"] ["thing"] (defScope (top 7)) := ⟨rfl, rfl, rfl, by decide +kernel, rfl, by decide +kernel, by decide +kernel⟩
theorem g_is_name {P : Program} {w : World} {K : PySem.W.Frag} {mg : Str → Option Value} {base : Heap} {a : Addr} {fd : FuncData} (V : Vn K mg) (FF : FunD K "is_name" "is_name" (defArgs (top 7)) (defBody (top 7)) (defScope (top 7)) [] [] a fd) : FnG P w K mg base CX0 2 a fd ["thing"] (spD K 1 F_is_name) := by
  have sc := sc_is_name
  refine fn_dG (k := 1) FF sc fun cdv A outer s H E hr gd => ?_
  exact (pdss_one (pds_ret (pd_call (w_is_of V) (hr.mono (by decide)) gd (pda_cons (pd_var 0) (pda_cons (pd_gstr V.c_SMALL) (pda_cons (pd_gint V.c_LONGEST) pda_nil))) (aCons_len (aCons_len (aCons_len aNil_len))))))
theorem w_is_name {P : Program} {w : World} {K : PySem.W.Frag} {mg : Str → Option Value} {base : Heap} (V : Vn K mg) : FnD P w K mg base 2 "is_name" 1 F_is_name := by
  obtain ⟨a, fd, hm, FF⟩ := V.f_is_name
  exact ⟨a, fd, ["thing"], hm, FF.kp, binds_of (FunD.bindsA (ps := ["thing"]) FF fun _ _ _ _ _ _ us hl => match us, hl with | [_], _ => rfl), g_is_name V FF⟩
noncomputable def s_is_rising : S := (sSeq (sIf (tOr (tNot (tE (eIsi .tup (eVar 0)))) (tNot (tE (eBi allD (aCons (eO (eLcA [1] (aItem (eVar 0)) (bName 1) tYesD (eCall F_is_name (aCons (eVar 1) aNil)))) aNil))))) (sRet (eC (.bl false))) sNil)
  (sRet (eBi allD (aCons (eO (eLcA [1, 2] (aIt zipM (aCons (eVar 0) (aCons (eSl (eVar 0) (pSome (eC (.int 1))) pNone) aNil))) (bTup (bsCons (bName 1) (bsCons (bName 2) bsNil))) tYesD (eCmp ltD (eVar 1) (eVar 2)))) aNil))))
noncomputable def F_is_rising : List D → M D := runF 3 s_is_rising
theorem sc_is_rising : FnScope ["thing", "one", "other"] ["thing"] (defScope (top 8)) := ⟨rfl, rfl, rfl, by decide +kernel, rfl, by decide +kernel, by decide +kernel⟩
theorem g_is_rising {P : Program} {w : World} {K : PySem.W.Frag} {mg : Str → Option Value} {base : Heap} {a : Addr} {fd : FuncData} (V : Vn K mg) (FF : FunD K "is_rising" "is_rising" (defArgs (top 8)) (defBody (top 8)) (defScope (top 8)) [] [] a fd) : FnG P w K mg base CX0 3 a fd ["thing"] (spD K 1 F_is_rising) := by
  have sc := sc_is_rising
  refine fn_dG (k := 2) FF sc fun cdv A outer s H E hr gd => ?_
  exact (pdss_cons (pds_if (pdw_or (pdt_not (pdt_val (pd_isi .tup rfl V.b_isinstance V.b_tuple (pd_var 0).weak))) (pdw_or1 (pdt_not (pdt_val (pd_all rfl V.b_all (pba_cons (pd_new (po_lc [("one", 1)] rfl sc.nd (pdi_val (pd_var 0)).weak (blk_of (by rfl)) (fun _ _ _ _ _ => (pdg_name 1 sc.nd)) (fun _ _ _ _ _ => pdts_nil) (fun _ _ _ _ _ => (pd_call (w_is_name V) (hr.mono (by decide)) gd (pda_cons (pd_var 1) pda_nil) (aCons_len aNil_len))))).weak pba_nil)))))).pt (pdss_one (pds_ret pd_bl)) pdss_nil)
  (pdss_one (pds_ret (pd_all rfl V.b_all (pba_cons (pd_new (po_lc [("one", 1), ("other", 2)] rfl sc.nd (pdi_zip V.b_zip (pda_cons (pd_var 0) (pda_cons (pd_slice (pd_var 0) (pdp_some pd_int) pdp_none) pda_nil))).weak (blk_of (by rfl)) (fun _ _ _ _ _ => (pdg_tup rfl (pdgs_cons (pdg_name 1 sc.nd) (pdgs_cons (pdg_name 2 sc.nd) pdgs_nil)))) (fun _ _ _ _ _ => pdts_nil) (fun _ _ _ _ _ => (pd_cmp (op_ltA (hu0 hr)) ltD_ok (pd_var 1).weak (pd_var 2).weak)))).weak pba_nil)))))
theorem w_is_rising {P : Program} {w : World} {K : PySem.W.Frag} {mg : Str → Option Value} {base : Heap} (V : Vn K mg) : FnD P w K mg base 3 "is_rising" 1 F_is_rising := by
  obtain ⟨a, fd, hm, FF⟩ := V.f_is_rising
  exact ⟨a, fd, ["thing"], hm, FF.kp, binds_of (FunD.bindsA (ps := ["thing"]) FF fun _ _ _ _ _ _ us hl => match us, hl with | [_], _ => rfl), g_is_rising V FF⟩
noncomputable def s_number_in : S := (sSeq (sIf (tOr (tNot (tE (eCall F_is_of (aCons (eVar 0) (aCons (eC (.str "0123456789")) (aCons (eC (.int 6)) aNil)))))) (tAnd (tCmp eqD (eIx (eVar 0) (eC (.int 0))) (eC (.str "0"))) (tCmp neD (eVar 0) (eC (.str "0"))))) (sRet (eC .non)) sNil)
  (sRet (eUn intTD (eVar 0))))
noncomputable def F_number_in : List D → M D := runF 1 s_number_in
theorem sc_number_in : FnScope ["word"] ["word"] (defScope (top 9)) := ⟨rfl, rfl, rfl, by decide +kernel, rfl, by decide +kernel, by decide +kernel⟩
theorem g_number_in {P : Program} {w : World} {K : PySem.W.Frag} {mg : Str → Option Value} {base : Heap} {a : Addr} {fd : FuncData} (V : Vn K mg) (FF : FunD K "number_in" "number_in" (defArgs (top 9)) (defBody (top 9)) (defScope (top 9)) [] [] a fd) : FnG P w K mg base CX0 2 a fd ["word"] (spD K 1 F_number_in) := by
  have sc := sc_number_in
  refine fn_dG (k := 1) FF sc fun cdv A outer s H E hr gd => ?_
  exact (pdss_cons (pds_if (pdw_or (pdt_not (pdt_val (pd_call (w_is_of V) (hr.mono (by decide)) gd (pda_cons (pd_var 0) (pda_cons (pd_gstr V.c_FIGURES) (pda_cons (pd_gint V.c_MOST_FIGURES) pda_nil))) (aCons_len (aCons_len (aCons_len aNil_len)))))) (pdw_or1 (pdw_and (pdt_cmp (op_eqD (hu64 hr)) eqD_ok (pd_ix hr (pd_var 0) pd_int).weak (pd_str).weak) (pdw_and1 (pdt_cmp (op_neD (hu64 hr)) neD_ok (pd_var 0).weak (pd_str).weak))).pt)).pt (pdss_one (pds_ret pd_non)) pdss_nil)
  (pdss_one (pds_ret (pd_intT V.b_int (pd_var 0)))))
theorem w_number_in {P : Program} {w : World} {K : PySem.W.Frag} {mg : Str → Option Value} {base : Heap} (V : Vn K mg) : FnD P w K mg base 2 "number_in" 1 F_number_in := by
  obtain ⟨a, fd, hm, FF⟩ := V.f_number_in
  exact ⟨a, fd, ["word"], hm, FF.kp, binds_of (FunD.bindsA (ps := ["word"]) FF fun _ _ _ _ _ _ us hl => match us, hl with | [_], _ => rfl), g_number_in V FF⟩
noncomputable def s__law_begun : S := (sSeq (sSet 1 (eMk (eDisp (pCons (eC (.str "great")) (eMl (eLcA [2] (aItem (eVar 0)) (bName 2) (tCmp geD (eVar 2) (eOp dPow (eC (.int 10)) (eC (.int 18)))) (eVar 2))) (pCons (eC (.str "small")) (eC (.int 0)) (pCons (eC (.str "at")) (eC (.int 0)) pNil))))))
  (sSeq (sFor (aItem (eVar 0)) (bName 2) (sIf (tCmp ltD (eVar 2) (eOp dPow (eC (.int 10)) (eC (.int 18)))) (sStore (eVar 1) (eC (.str "small")) (eOp addD (eOp addD (eOp dMul (eIx (eVar 1) (eC (.str "small"))) (eOp dPow (eC (.int 10)) (eC (.int 18)))) (eOp dMod (eVar 2) (eOp dPow (eC (.int 10)) (eC (.int 18))))) (eC (.int 1)))) sNil))
  (sRet (eVar 1))))
noncomputable def F__law_begun : List D → M D := runF 3 s__law_begun
theorem sc__law_begun : FnScope ["_law_script", "_law_m", "_law_cell"] ["_law_script"] (defScope (top 15)) := ⟨rfl, rfl, rfl, by decide +kernel, rfl, by decide +kernel, by decide +kernel⟩
theorem g__law_begun {P : Program} {w : World} {K : PySem.W.Frag} {mg : Str → Option Value} {base : Heap} {a : Addr} {fd : FuncData} (V : Vn K mg) (FF : FunD K "_law_begun" "_law_begun" (defArgs (top 15)) (defBody (top 15)) (defScope (top 15)) [] [] a fd) : FnG P w K mg base CX0 1 a fd ["_law_script"] (spD K 1 F__law_begun) := by
  have sc := sc__law_begun
  refine fn_dG (k := 0) FF sc fun cdv A outer s H E hr gd => ?_
  exact (pdss_cons (pds_set 1 sc.nd (pd_mk (pk_disp (ppd_cons (pd_str) (pd_ml (po_lc [("_law_cell", 2)] rfl sc.nd (pdi_val (pd_var 0)).weak (blk_of (by rfl)) (fun _ _ _ _ _ => (pdg_name 2 sc.nd)) (fun _ _ _ _ _ => (pdts_one (pdt_cmp op_geA geD_ok (pd_var 2).weak (pd_pow pd_int pd_int).weak))) (fun _ _ _ _ _ => (pd_var 2)))) (ppd_cons (pd_str) pd_int (ppd_cons (pd_str) pd_int ppd_nil))))))
  (pdss_cons (pds_for rfl (pdi_val (pd_var 0)) (pdg_name 2 sc.nd) (pdss_one (pds_if (pdt_cmp (op_ltA (hu0 hr)) ltD_ok (pd_var 2).weak (pd_pow pd_int pd_int).weak) (pdss_one (pds_store hr (pd_var 1) (pd_str) (pd_add (pd_add (pd_mul (pd_ix hr (pd_var 1) (pd_str)) (pd_pow pd_int pd_int)) (pd_mod (pd_var 2) (pd_pow pd_int pd_int))) pd_int))) pdss_nil)))
  (pdss_one (pds_ret (pd_var 1)))))
theorem w__law_begun {P : Program} {w : World} {K : PySem.W.Frag} {mg : Str → Option Value} {base : Heap} (V : Vn K mg) : FnD P w K mg base 1 "_law_begun" 1 F__law_begun := by
  obtain ⟨a, fd, hm, FF⟩ := V.f__law_begun
  exact ⟨a, fd, ["_law_script"], hm, FF.kp, binds_of (FunD.bindsA (ps := ["_law_script"]) FF fun _ _ _ _ _ _ us hl => match us, hl with | [_], _ => rfl), g__law_begun V FF⟩
noncomputable def s__law_draw : S := (sSeq (sSet 2 (eIx (eVar 0) (eC (.str "at"))))
  (sSeq (sStore (eVar 0) (eC (.str "at")) (eOp addD (eVar 2) (eC (.int 1))))
  (sSeq (sIf (tCmpR neD (eIx (eVar 0) (eC (.str "great"))) (eLst aNil)) (sSeq (sSet 3 (eOp dMod (eVar 2) (eBiR lenD (aCons (eIx (eVar 0) (eC (.str "great"))) aNil))))
  (sSeq (sSet 4 (eIx (eIx (eVar 0) (eC (.str "great"))) (eVar 3)))
  (sIf (tCmp gtD (eVar 4) (eC (.int 0))) (sSeq (sStore (eIx (eVar 0) (eC (.str "great"))) (eVar 3) (eOp dFdiv (eVar 4) (eVar 1)))
  (sRet (eOp dMod (eVar 4) (eVar 1)))) sNil))) sNil)
  (sSeq (sSet 5 (eLst (aCons (eC (.int 2147483647)) (aCons (eC (.int 2147483629)) (aCons (eC (.int 2147483587)) (aCons (eC (.int 2147483579)) (aCons (eC (.int 2147483563)) (aCons (eC (.int 2147483549)) (aCons (eC (.int 2147483543)) (aCons (eC (.int 2147483497)) aNil))))))))))
  (sSeq (sSet 6 (eOp dMod (eOp addD (eOp addD (eIx (eVar 0) (eC (.str "small"))) (eOp dMul (eC (.int 7919)) (eVar 2))) (eC (.int 17))) (eIx (eVar 5) (eOp dMod (eVar 2) (eC (.int 8))))))
  (sSeq (sSet 6 (eOp dMod (eOp addD (eOp dMul (eVar 6) (eOp addD (eC (.int 48271)) (eOp dMul (eC (.int 2)) (eVar 2)))) (eOp dMul (eC (.int 104729)) (eVar 2))) (eIx (eVar 5) (eOp dMod (eVar 2) (eC (.int 8))))))
  (sRet (eOp dMod (eOp dFdiv (eOp dMod (eOp dMul (eOp dMul (eVar 6) (eVar 6)) (eVar 6)) (eIx (eVar 5) (eOp dMod (eVar 2) (eC (.int 8))))) (eC (.int 7))) (eVar 1)))))))))
noncomputable def F__law_draw : List D → M D := runF 7 s__law_draw
theorem sc__law_draw : FnScope ["_law_m", "_law_many", "_law_k", "_law_at", "_law_cell", "_law_primes", "_law_number_here"] ["_law_m", "_law_many"] (defScope (top 16)) := ⟨rfl, rfl, rfl, by decide +kernel, rfl, by decide +kernel, by decide +kernel⟩
theorem g__law_draw {P : Program} {w : World} {K : PySem.W.Frag} {mg : Str → Option Value} {base : Heap} {a : Addr} {fd : FuncData} (V : Vn K mg) (FF : FunD K "_law_draw" "_law_draw" (defArgs (top 16)) (defBody (top 16)) (defScope (top 16)) [] [] a fd) : FnG P w K mg base CX0 1 a fd ["_law_m", "_law_many"] (spD K 2 F__law_draw) := by
  have sc := sc__law_draw
  refine fn_dG (k := 0) FF sc fun cdv A outer s H E hr gd => ?_
  exact (pdss_cons (pds_set 2 sc.nd (pd_ix hr (pd_var 0) (pd_str)))
  (pdss_cons (pds_store hr (pd_var 0) (pd_str) (pd_add (pd_var 2) pd_int))
  (pdss_cons (pds_if (pdt_cmpR (op_neD (hu64 hr)) neD_ok (pd_ix hr (pd_var 0) (pd_str)) (pd_lst pda_nil)) (pdss_cons (pds_set 3 sc.nd (pd_mod (pd_var 2) (pd_lenR V.b_len (pda_cons (pd_ix hr (pd_var 0) (pd_str)) pda_nil))))
  (pdss_cons (pds_set 4 sc.nd (pd_ix hr (pd_ix hr (pd_var 0) (pd_str)) (pd_var 3)))
  (pdss_one (pds_if (pdt_cmp op_gtA gtD_ok (pd_var 4).weak (pd_int).weak) (pdss_cons (pds_store hr (pd_ix hr (pd_var 0) (pd_str)) (pd_var 3) (pd_fdiv (pd_var 4) (pd_var 1)))
  (pdss_one (pds_ret (pd_mod (pd_var 4) (pd_var 1))))) pdss_nil)))) pdss_nil)
  (pdss_cons (pds_set 5 sc.nd (pd_lst (pda_cons pd_int (pda_cons pd_int (pda_cons pd_int (pda_cons pd_int (pda_cons pd_int (pda_cons pd_int (pda_cons pd_int (pda_cons pd_int pda_nil))))))))))
  (pdss_cons (pds_set 6 sc.nd (pd_mod (pd_add (pd_add (pd_ix hr (pd_var 0) (pd_str)) (pd_mul pd_int (pd_var 2))) pd_int) (pd_ix hr (pd_var 5) (pd_mod (pd_var 2) pd_int))))
  (pdss_cons (pds_set 6 sc.nd (pd_mod (pd_add (pd_mul (pd_var 6) (pd_add pd_int (pd_mul pd_int (pd_var 2)))) (pd_mul pd_int (pd_var 2))) (pd_ix hr (pd_var 5) (pd_mod (pd_var 2) pd_int))))
  (pdss_one (pds_ret (pd_mod (pd_fdiv (pd_mod (pd_mul (pd_mul (pd_var 6) (pd_var 6)) (pd_var 6)) (pd_ix hr (pd_var 5) (pd_mod (pd_var 2) pd_int))) pd_int) (pd_var 1))))))))))
theorem w__law_draw {P : Program} {w : World} {K : PySem.W.Frag} {mg : Str → Option Value} {base : Heap} (V : Vn K mg) : FnD P w K mg base 1 "_law_draw" 2 F__law_draw := by
  obtain ⟨a, fd, hm, FF⟩ := V.f__law_draw
  exact ⟨a, fd, ["_law_m", "_law_many"], hm, FF.kp, binds_of (FunD.bindsA (ps := ["_law_m", "_law_many"]) FF fun _ _ _ _ _ _ us hl => match us, hl with | [_, _], _ => rfl), g__law_draw V FF⟩
noncomputable def s__law_signs : S := (sSeq (sSet 0 (eC (.str " !\"#$&'()*+,-./0123456789:;<=>?@ABCDEFGHIJKLMNOPQRSTUVWXYZ[\\]^_")))
  (sRet (eOp addD (eVar 0) (eC (.str "`abcdefghijklmnopqrstuvwxyz{|}~\n")))))
noncomputable def F__law_signs : List D → M D := runF 1 s__law_signs
theorem sc__law_signs : FnScope ["_law_some"] [] (defScope (top 17)) := ⟨rfl, rfl, rfl, by decide +kernel, rfl, by decide +kernel, by decide +kernel⟩
theorem g__law_signs {P : Program} {w : World} {K : PySem.W.Frag} {mg : Str → Option Value} {base : Heap} {a : Addr} {fd : FuncData} (V : Vn K mg) (FF : FunD K "_law_signs" "_law_signs" (defArgs (top 17)) (defBody (top 17)) (defScope (top 17)) [] [] a fd) : FnG P w K mg base CX0 1 a fd [] (spD K 0 F__law_signs) := by
  have sc := sc__law_signs
  refine fn_dG (k := 0) FF sc fun cdv A outer s H E hr gd => ?_
  exact (pdss_cons (pds_set 0 sc.nd (pd_str))
  (pdss_one (pds_ret (pd_add (pd_var 0) (pd_str)))))
theorem w__law_signs {P : Program} {w : World} {K : PySem.W.Frag} {mg : Str → Option Value} {base : Heap} (V : Vn K mg) : FnD P w K mg base 1 "_law_signs" 0 F__law_signs := by
  obtain ⟨a, fd, hm, FF⟩ := V.f__law_signs
  exact ⟨a, fd, [], hm, FF.kp, binds_of (FunD.bindsA (ps := []) FF fun _ _ _ _ _ _ us hl => match us, hl with | [], _ => rfl), g__law_signs V FF⟩
noncomputable def s__law_any : S := (sRet (eJoin (eC (.str "")) (eO (eLcA [3] (aIt range1M (aCons (eCall F__law_draw (aCons (eVar 0) (aCons (eOp addD (eVar 2) (eC (.int 1))) aNil))) aNil)) (bName 3) tYesD (eIx (eVar 1) (eCall F__law_draw (aCons (eVar 0) (aCons (eBi lenD (aCons (eVar 1) aNil)) aNil))))))))
noncomputable def F__law_any : List D → M D := runF 4 s__law_any
theorem sc__law_any : FnScope ["_law_m", "_law_signs_here", "_law_top", "_law_k"] ["_law_m", "_law_signs_here", "_law_top"] (defScope (top 18)) := ⟨rfl, rfl, rfl, by decide +kernel, rfl, by decide +kernel, by decide +kernel⟩
theorem g__law_any {P : Program} {w : World} {K : PySem.W.Frag} {mg : Str → Option Value} {base : Heap} {a : Addr} {fd : FuncData} (V : Vn K mg) (FF : FunD K "_law_any" "_law_any" (defArgs (top 18)) (defBody (top 18)) (defScope (top 18)) [] [] a fd) : FnG P w K mg base CX0 2 a fd ["_law_m", "_law_signs_here", "_law_top"] (spD K 3 F__law_any) := by
  have sc := sc__law_any
  refine fn_dG (k := 1) FF sc fun cdv A outer s H E hr gd => ?_
  exact (pdss_one (pds_ret (pd_join (pd_str) (pd_new (po_lc [("_law_k", 3)] rfl sc.nd (pdi_range1 V.b_range (pda_cons (pd_call (w__law_draw V) (hr.mono (by decide)) gd (pda_cons (pd_var 0) (pda_cons (pd_add (pd_var 2) pd_int) pda_nil)) (aCons_len (aCons_len aNil_len))) pda_nil)).weak (blk_of (by rfl)) (fun _ _ _ _ _ => (pdg_name 3 sc.nd)) (fun _ _ _ _ _ => pdts_nil) (fun _ _ _ _ _ => (pd_ix hr (pd_var 1) (pd_call (w__law_draw V) (hr.mono (by decide)) gd (pda_cons (pd_var 0) (pda_cons (pd_len V.b_len (pba_cons (pd_var 1).weak pba_nil)) pda_nil)) (aCons_len (aCons_len aNil_len))))))))))
theorem w__law_any {P : Program} {w : World} {K : PySem.W.Frag} {mg : Str → Option Value} {base : Heap} (V : Vn K mg) : FnD P w K mg base 2 "_law_any" 3 F__law_any := by
  obtain ⟨a, fd, hm, FF⟩ := V.f__law_any
  exact ⟨a, fd, ["_law_m", "_law_signs_here", "_law_top"], hm, FF.kp, binds_of (FunD.bindsA (ps := ["_law_m", "_law_signs_here", "_law_top"]) FF fun _ _ _ _ _ _ us hl => match us, hl with | [_, _, _], _ => rfl), g__law_any V FF⟩
noncomputable def s__law_text : S := (sSeq (sParV [1, 2, 3, 4] (vCons (vD (eCall F__law_draw (aCons (eVar 0) (aCons (eC (.int 6)) aNil)))) (vCons (vD (eCall F__law_draw (aCons (eVar 0) (aCons (eC (.int 11)) aNil)))) (vCons (vD (eCall F__law_draw (aCons (eVar 0) (aCons (eC (.int 2)) aNil)))) (vCons (vD (eCall F__law_draw (aCons (eVar 0) (aCons (eC (.int 95)) aNil)))) vNil)))))
  (sSeq (sParV [5, 6] (vCons (vD (eCall F__law_any (aCons (eVar 0) (aCons (eC (.str "abcdefghijklmnopqrstuvwxyz")) (aCons (eC (.int 10)) aNil))))) (vCons (vD (eCall F__law_any (aCons (eVar 0) (aCons (eC (.str "0123456789")) (aCons (eC (.int 8)) aNil))))) vNil)))
  (sSeq (sIf (tCmp eqD (eVar 1) (eC (.int 0))) (sRet (eVar 5)) sNil)
  (sSeq (sIf (tCmp eqD (eVar 1) (eC (.int 1))) (sRet (eVar 6)) sNil)
  (sSeq (sIf (tCmp eqD (eVar 1) (eC (.int 2))) (sRet (eIx (eLst (aCons (eC (.str "0")) (aCons (eC (.str "00")) (aCons (eC (.str "-0")) (aCons (eC (.str "-1")) (aCons (eC (.str "+1")) (aCons (eC (.str "01")) (aCons (eC (.str "000001")) (aCons (eC (.str "1000000")) (aCons (eC (.str "999999")) (aCons (eC (.str "")) (aCons (eC (.str "1_0")) aNil)))))))))))) (eVar 2))) sNil)
  (sSeq (sSet 7 (eIf (tCmp ltD (eVar 1) (eC (.int 5))) (eVar 5) (eVar 6)))
  (sRet (eOp addD (eOp addD (eSl (eVar 7) pNone (pSome (eVar 2))) (eIx (eCall F__law_signs aNil) (eVar 4))) (eSl (eVar 7) (pSome (eOp addD (eVar 2) (eVar 3))) pNone)))))))))
noncomputable def F__law_text : List D → M D := runF 8 s__law_text
theorem sc__law_text : FnScope ["_law_m", "_law_way", "_law_at", "_law_far", "_law_sign", "_law_small", "_law_figures", "_law_text_here"] ["_law_m"] (defScope (top 19)) := ⟨rfl, rfl, rfl, by decide +kernel, rfl, by decide +kernel, by decide +kernel⟩
theorem g__law_text {P : Program} {w : World} {K : PySem.W.Frag} {mg : Str → Option Value} {base : Heap} {a : Addr} {fd : FuncData} (V : Vn K mg) (FF : FunD K "_law_text" "_law_text" (defArgs (top 19)) (defBody (top 19)) (defScope (top 19)) [] [] a fd) : FnG P w K mg base CX0 3 a fd ["_law_m"] (spD K 1 F__law_text) := by
  have sc := sc__law_text
  refine fn_dG (k := 2) FF sc fun cdv A outer s H E hr gd => ?_
  exact (pdss_cons (pds_parN rfl (pgn_cons 1 sc.nd (pgn_cons 2 sc.nd (pgn_cons 3 sc.nd (pgn_cons 4 sc.nd pgn_nil)))) (pva_cons (pv_d (pd_call (w__law_draw V) (hr.mono (by decide)) gd (pda_cons (pd_var 0) (pda_cons pd_int pda_nil)) (aCons_len (aCons_len aNil_len)))) (pva_cons (pv_d (pd_call (w__law_draw V) (hr.mono (by decide)) gd (pda_cons (pd_var 0) (pda_cons pd_int pda_nil)) (aCons_len (aCons_len aNil_len)))) (pva_cons (pv_d (pd_call (w__law_draw V) (hr.mono (by decide)) gd (pda_cons (pd_var 0) (pda_cons pd_int pda_nil)) (aCons_len (aCons_len aNil_len)))) (pva_cons (pv_d (pd_call (w__law_draw V) (hr.mono (by decide)) gd (pda_cons (pd_var 0) (pda_cons pd_int pda_nil)) (aCons_len (aCons_len aNil_len)))) pva_nil)))))
  (pdss_cons (pds_par2 5 6 rfl sc.nd (pva_cons (pv_d (pd_call (w__law_any V) (hr.mono (by decide)) gd (pda_cons (pd_var 0) (pda_cons (pd_str) (pda_cons pd_int pda_nil))) (aCons_len (aCons_len (aCons_len aNil_len))))) (pva_cons (pv_d (pd_call (w__law_any V) (hr.mono (by decide)) gd (pda_cons (pd_var 0) (pda_cons (pd_str) (pda_cons pd_int pda_nil))) (aCons_len (aCons_len (aCons_len aNil_len))))) pva_nil)))
  (pdss_cons (pds_if (pdt_cmp (op_eqD (hu64 hr)) eqD_ok (pd_var 1).weak (pd_int).weak) (pdss_one (pds_ret (pd_var 5))) pdss_nil)
  (pdss_cons (pds_if (pdt_cmp (op_eqD (hu64 hr)) eqD_ok (pd_var 1).weak (pd_int).weak) (pdss_one (pds_ret (pd_var 6))) pdss_nil)
  (pdss_cons (pds_if (pdt_cmp (op_eqD (hu64 hr)) eqD_ok (pd_var 1).weak (pd_int).weak) (pdss_one (pds_ret (pd_ix hr (pd_lst (pda_cons (pd_str) (pda_cons (pd_str) (pda_cons (pd_str) (pda_cons (pd_str) (pda_cons (pd_str) (pda_cons (pd_str) (pda_cons (pd_str) (pda_cons (pd_str) (pda_cons (pd_str) (pda_cons (pd_str) (pda_cons (pd_str) pda_nil)))))))))))) (pd_var 2)))) pdss_nil)
  (pdss_cons (pds_set 7 sc.nd (pd_if (pdt_cmp (op_ltA (hu0 hr)) ltD_ok (pd_var 1).weak (pd_int).weak) (pd_var 5) (pd_var 6)))
  (pdss_one (pds_ret (pd_add (pd_add (pd_slice (pd_var 7) pdp_none (pdp_some (pd_var 2))) (pd_ix hr (pd_call0 (w__law_signs V) (hr.mono (by decide)) gd) (pd_var 4))) (pd_slice (pd_var 7) (pdp_some (pd_add (pd_var 2) (pd_var 3))) pdp_none))))))))))
theorem w__law_text {P : Program} {w : World} {K : PySem.W.Frag} {mg : Str → Option Value} {base : Heap} (V : Vn K mg) : FnD P w K mg base 3 "_law_text" 1 F__law_text := by
  obtain ⟨a, fd, hm, FF⟩ := V.f__law_text
  exact ⟨a, fd, ["_law_m"], hm, FF.kp, binds_of (FunD.bindsA (ps := ["_law_m"]) FF fun _ _ _ _ _ _ us hl => match us, hl with | [_], _ => rfl), g__law_text V FF⟩
noncomputable def s__law_is_name : S := (sSeq (sIf (tOr (tNot (tE (eIsi .str (eVar 0)))) (tNot (tE (eChain ltD ltD (eC (.int 0)) (eBi lenD (aCons (eVar 0) aNil)) (eC (.int 9)))))) (sRet (eC (.bl false))) sNil)
  (sRet (eCmp eqD (eO (eLcA [1] (aItem (eVar 0)) (bName 1) (tCmp notInD (eVar 1) (eC (.str "abcdefghijklmnopqrstuvwxyz"))) (eVar 1))) (eLst aNil))))
noncomputable def F__law_is_name : List D → M D := runF 2 s__law_is_name
theorem sc__law_is_name : FnScope ["_law_thing", "_law_sign"] ["_law_thing"] (defScope (top 20)) := ⟨rfl, rfl, rfl, by decide +kernel, rfl, by decide +kernel, by decide +kernel⟩
theorem g__law_is_name {P : Program} {w : World} {K : PySem.W.Frag} {mg : Str → Option Value} {base : Heap} {a : Addr} {fd : FuncData} (V : Vn K mg) (FF : FunD K "_law_is_name" "_law_is_name" (defArgs (top 20)) (defBody (top 20)) (defScope (top 20)) [] [] a fd) : FnG P w K mg base CX0 1 a fd ["_law_thing"] (spD K 1 F__law_is_name) := by
  have sc := sc__law_is_name
  refine fn_dG (k := 0) FF sc fun cdv A outer s H E hr gd => ?_
  exact (pdss_cons (pds_if (pdw_or (pdt_not (pdt_val (pd_isi .str rfl V.b_isinstance V.b_str (pd_var 0).weak))) (pdw_or1 (pdt_not (pdt_chain (op_ltA (hu0 hr)) (op_ltA (hu0 hr)) ltD_ok ltD_ok (pd_int).weak (pd_len V.b_len (pba_cons (pd_var 0).weak pba_nil)).weak (pd_int).weak)))).pt (pdss_one (pds_ret pd_bl)) pdss_nil)
  (pdss_one (pds_ret (pd_cmp (op_eqD (hu64 hr)) eqD_ok (pd_new (po_lc [("_law_sign", 1)] rfl sc.nd (pdi_val (pd_var 0)).weak (blk_of (by rfl)) (fun _ _ _ _ _ => (pdg_name 1 sc.nd)) (fun _ _ _ _ _ => (pdts_one (pdt_cmp (op_notInA (hu65 hr)) notInD_ok (pd_var 1).weak (pd_str).weak))) (fun _ _ _ _ _ => (pd_var 1)))).weak (pd_lst pda_nil).weak))))
theorem w__law_is_name {P : Program} {w : World} {K : PySem.W.Frag} {mg : Str → Option Value} {base : Heap} (V : Vn K mg) : FnD P w K mg base 1 "_law_is_name" 1 F__law_is_name := by
  obtain ⟨a, fd, hm, FF⟩ := V.f__law_is_name
  exact ⟨a, fd, ["_law_thing"], hm, FF.kp, binds_of (FunD.bindsA (ps := ["_law_thing"]) FF fun _ _ _ _ _ _ us hl => match us, hl with | [_], _ => rfl), g__law_is_name V FF⟩
noncomputable def s__law_number : S := (sSeq (sIf (tOr (tNot (tE (eIsi .str (eVar 0)))) (tNot (tE (eChain ltD ltD (eC (.int 0)) (eBi lenD (aCons (eVar 0) aNil)) (eC (.int 7)))))) (sRet (eC .non)) sNil)
  (sSeq (sSet 1 (eC (.int 0)))
  (sSeq (sFor (aItem (eVar 0)) (bName 2) (sSeq (sIf (tCmp notInD (eVar 2) (eC (.str "0123456789"))) (sRet (eC .non)) sNil)
  (sSet 1 (eOp addD (eOp dMul (eC (.int 10)) (eVar 1)) (eOp sixD (eC (.str "0123456789")) (eVar 2))))))
  (sRet (eIf (tCmp eqD (eUn strTD (eVar 1)) (eVar 0)) (eVar 1) (eC .non))))))
noncomputable def F__law_number : List D → M D := runF 3 s__law_number
theorem sc__law_number : FnScope ["_law_thing", "_law_found", "_law_sign"] ["_law_thing"] (defScope (top 21)) := ⟨rfl, rfl, rfl, by decide +kernel, rfl, by decide +kernel, by decide +kernel⟩
theorem g__law_number {P : Program} {w : World} {K : PySem.W.Frag} {mg : Str → Option Value} {base : Heap} {a : Addr} {fd : FuncData} (V : Vn K mg) (FF : FunD K "_law_number" "_law_number" (defArgs (top 21)) (defBody (top 21)) (defScope (top 21)) [] [] a fd) : FnG P w K mg base CX0 1 a fd ["_law_thing"] (spD K 1 F__law_number) := by
  have sc := sc__law_number
  refine fn_dG (k := 0) FF sc fun cdv A outer s H E hr gd => ?_
  exact (pdss_cons (pds_if (pdw_or (pdt_not (pdt_val (pd_isi .str rfl V.b_isinstance V.b_str (pd_var 0).weak))) (pdw_or1 (pdt_not (pdt_chain (op_ltA (hu0 hr)) (op_ltA (hu0 hr)) ltD_ok ltD_ok (pd_int).weak (pd_len V.b_len (pba_cons (pd_var 0).weak pba_nil)).weak (pd_int).weak)))).pt (pdss_one (pds_ret pd_non)) pdss_nil)
  (pdss_cons (pds_set 1 sc.nd pd_int)
  (pdss_cons (pds_for rfl (pdi_val (pd_var 0)) (pdg_name 2 sc.nd) (pdss_cons (pds_if (pdt_cmp (op_notInA (hu65 hr)) notInD_ok (pd_var 2).weak (pd_str).weak) (pdss_one (pds_ret pd_non)) pdss_nil)
  (pdss_one (pds_set 1 sc.nd (pd_add (pd_mul pd_int (pd_var 1)) (pd_sindex (pd_str) (pd_var 2)))))))
  (pdss_one (pds_ret (pd_if (pdt_cmp (op_eqD (hu64 hr)) eqD_ok (pd_strT V.b_str (pd_var 1)).weak (pd_var 0).weak) (pd_var 1) pd_non))))))
theorem w__law_number {P : Program} {w : World} {K : PySem.W.Frag} {mg : Str → Option Value} {base : Heap} (V : Vn K mg) : FnD P w K mg base 1 "_law_number" 1 F__law_number := by
  obtain ⟨a, fd, hm, FF⟩ := V.f__law_number
  exact ⟨a, fd, ["_law_thing"], hm, FF.kp, binds_of (FunD.bindsA (ps := ["_law_thing"]) FF fun _ _ _ _ _ _ us hl => match us, hl with | [_], _ => rfl), g__law_number V FF⟩
noncomputable def s__law_is_rising : S := (sSeq (sIf (tOr (tNot (tE (eIsi .tup (eVar 0)))) (tCmp neD (eO (eLcA [1] (aItem (eVar 0)) (bName 1) (tNot (tE (eCall F__law_is_name (aCons (eVar 1) aNil)))) (eVar 1))) (eLst aNil))) (sRet (eC (.bl false))) sNil)
  (sRet (eCmp eqD (eO (eLcA [1, 2] (aIt zipM (aCons (eVar 0) (aCons (eSl (eVar 0) (pSome (eC (.int 1))) pNone) aNil))) (bTup (bsCons (bName 1) (bsCons (bName 2) bsNil))) (tNot (tCmp ltD (eVar 1) (eVar 2))) (eC (.int 1)))) (eLst aNil))))
noncomputable def F__law_is_rising : List D → M D := runF 3 s__law_is_rising
theorem sc__law_is_rising : FnScope ["_law_thing", "_law_one", "_law_other"] ["_law_thing"] (defScope (top 22)) := ⟨rfl, rfl, rfl, by decide +kernel, rfl, by decide +kernel, by decide +kernel⟩
theorem g__law_is_rising {P : Program} {w : World} {K : PySem.W.Frag} {mg : Str → Option Value} {base : Heap} {a : Addr} {fd : FuncData} (V : Vn K mg) (FF : FunD K "_law_is_rising" "_law_is_rising" (defArgs (top 22)) (defBody (top 22)) (defScope (top 22)) [] [] a fd) : FnG P w K mg base CX0 2 a fd ["_law_thing"] (spD K 1 F__law_is_rising) := by
  have sc := sc__law_is_rising
  refine fn_dG (k := 1) FF sc fun cdv A outer s H E hr gd => ?_
  exact (pdss_cons (pds_if (pdw_or (pdt_not (pdt_val (pd_isi .tup rfl V.b_isinstance V.b_tuple (pd_var 0).weak))) (pdw_or1 (pdt_cmp (op_neD (hu64 hr)) neD_ok (pd_new (po_lc [("_law_one", 1)] rfl sc.nd (pdi_val (pd_var 0)).weak (blk_of (by rfl)) (fun _ _ _ _ _ => (pdg_name 1 sc.nd)) (fun _ _ _ _ _ => (pdts_one (pdt_not (pdt_val (pd_call (w__law_is_name V) (hr.mono (by decide)) gd (pda_cons (pd_var 1) pda_nil) (aCons_len aNil_len)))))) (fun _ _ _ _ _ => (pd_var 1)))).weak (pd_lst pda_nil).weak))).pt (pdss_one (pds_ret pd_bl)) pdss_nil)
  (pdss_one (pds_ret (pd_cmp (op_eqD (hu64 hr)) eqD_ok (pd_new (po_lc [("_law_one", 1), ("_law_other", 2)] rfl sc.nd (pdi_zip V.b_zip (pda_cons (pd_var 0) (pda_cons (pd_slice (pd_var 0) (pdp_some pd_int) pdp_none) pda_nil))).weak (blk_of (by rfl)) (fun _ _ _ _ _ => (pdg_tup rfl (pdgs_cons (pdg_name 1 sc.nd) (pdgs_cons (pdg_name 2 sc.nd) pdgs_nil)))) (fun _ _ _ _ _ => (pdts_one (pdt_not (pdt_cmp (op_ltA (hu0 hr)) ltD_ok (pd_var 1).weak (pd_var 2).weak)))) (fun _ _ _ _ _ => pd_int))).weak (pd_lst pda_nil).weak))))
theorem w__law_is_rising {P : Program} {w : World} {K : PySem.W.Frag} {mg : Str → Option Value} {base : Heap} (V : Vn K mg) : FnD P w K mg base 2 "_law_is_rising" 1 F__law_is_rising := by
  obtain ⟨a, fd, hm, FF⟩ := V.f__law_is_rising
  exact ⟨a, fd, ["_law_thing"], hm, FF.kp, binds_of (FunD.bindsA (ps := ["_law_thing"]) FF fun _ _ _ _ _ _ us hl => match us, hl with | [_], _ => rfl), g__law_is_rising V FF⟩
noncomputable def s__law_row : S := (sSeq (sParV [2, 3, 4] (vCons (vD (eCall F__law_draw (aCons (eVar 0) (aCons (eC (.int 8)) aNil)))) (vCons (vD (eCall F__law_draw (aCons (eVar 0) (aCons (eC (.int 6)) aNil)))) (vCons (vD (eCall F__law_draw (aCons (eVar 0) (aCons (eC (.int 6)) aNil)))) vNil))))
  (sSeq (sSet 5 (eO (eLcA [8] (aIt range1M (aCons (eVar 3) aNil)) (bName 8) tYesD (eJoin (eC (.str "")) (eO (eLcA [9] (aIt range1M (aCons (eOp addD (eC (.int 1)) (eCall F__law_draw (aCons (eVar 0) (aCons (eC (.int 8)) aNil)))) aNil)) (bName 9) tYesD (eIx (eC (.str "abcxyz")) (eCall F__law_draw (aCons (eVar 0) (aCons (eC (.int 6)) aNil))))))))))
  (sSeq (sSet 6 (eSrtT (eVar 5)))
  (sSeq (sIf (tCmp ltD (eVar 2) (eC (.int 2))) (sRet (eBi tupleD (aCons (eVar 6) aNil))) sNil)
  (sSeq (sIf (tCmp eqD (eVar 2) (eC (.int 2))) (sRet (eBi tupleD (aCons (eVar 5) aNil))) sNil)
  (sSeq (sIf (tCmp eqD (eVar 2) (eC (.int 3))) (sRet (eBi tupleD (aCons (eOp addD (eOp addD (eSl (eVar 6) pNone (pSome (eVar 4))) (eO (aRep 2 (aSlL (eVar 6) (pSome (eVar 4)) (pSome (eOp addD (eVar 4) (eC (.int 1)))))))) (eSl (eVar 6) (pSome (eOp addD (eVar 4) (eC (.int 1)))) pNone)) aNil))) sNil)
  (sSeq (sIf (tCmp eqD (eVar 2) (eC (.int 4))) (sRet (eBi tupleD (aCons (eO (aRev (eVar 6))) aNil))) sNil)
  (sSeq (sIf (tCmp eqD (eVar 2) (eC (.int 5))) (sSeq (sSet 7 (eIx (eLst (aCons (eC .non) (aCons (eC (.int 5)) (aCons (eC (.str "")) (aCons (eC (.bl true)) (aCons (eTup (aCons (eC (.str "a")) aNil)) (aCons (eIx (eVar 1) (eC (.int 0))) (aCons (eC (.str "A")) (aCons (eC (.str "abcdefghi")) aNil))))))))) (eCall F__law_draw (aCons (eVar 0) (aCons (eC (.int 8)) aNil)))))
  (sRet (eBi tupleD (aCons (eOp addD (eOp addD (eSl (eVar 6) pNone (pSome (eVar 4))) (eLst (aCons (eVar 7) aNil))) (eSl (eVar 6) (pSome (eVar 4)) pNone)) aNil)))) sNil)
  (sRet (eIf (tCmp eqD (eVar 2) (eC (.int 6))) (eVar 6) (eBi tupleD (aCons (eOp addD (eSl (eVar 6) (pSome (eVar 4)) pNone) (eSl (eVar 6) pNone (pSome (eVar 4)))) aNil))))))))))))
noncomputable def F__law_row : List D → M D := runF 10 s__law_row
theorem sc__law_row : FnScope ["_law_m", "_law_texts", "_law_way", "_law_size", "_law_at", "_law_some", "_law_names", "_law_odd", "_law_k", "_law_j"] ["_law_m", "_law_texts"] (defScope (top 23)) := ⟨rfl, rfl, rfl, by decide +kernel, rfl, by decide +kernel, by decide +kernel⟩
theorem g__law_row {P : Program} {w : World} {K : PySem.W.Frag} {mg : Str → Option Value} {base : Heap} {a : Addr} {fd : FuncData} (V : Vn K mg) (FF : FunD K "_law_row" "_law_row" (defArgs (top 23)) (defBody (top 23)) (defScope (top 23)) [] [] a fd) : FnG P w K mg base CX0 2 a fd ["_law_m", "_law_texts"] (spD K 2 F__law_row) := by
  have sc := sc__law_row
  refine fn_dG (k := 1) FF sc fun cdv A outer s H E hr gd => ?_
  exact (pdss_cons (pds_par3 2 3 4 rfl sc.nd (pva_cons (pv_d (pd_call (w__law_draw V) (hr.mono (by decide)) gd (pda_cons (pd_var 0) (pda_cons pd_int pda_nil)) (aCons_len (aCons_len aNil_len)))) (pva_cons (pv_d (pd_call (w__law_draw V) (hr.mono (by decide)) gd (pda_cons (pd_var 0) (pda_cons pd_int pda_nil)) (aCons_len (aCons_len aNil_len)))) (pva_cons (pv_d (pd_call (w__law_draw V) (hr.mono (by decide)) gd (pda_cons (pd_var 0) (pda_cons pd_int pda_nil)) (aCons_len (aCons_len aNil_len)))) pva_nil))))
  (pdss_cons (pds_setLc 5 [("_law_k", 8)] rfl sc.nd (pdi_range1 V.b_range (pda_cons (pd_var 3) pda_nil)).weak (blk_of (by rfl)) (fun _ _ _ _ _ => (pdg_name 8 sc.nd)) (fun _ _ _ _ _ => pdts_nil) (fun _ _ _ _ _ => (pd_join (pd_str) (pd_new (po_lc [("_law_j", 9)] rfl sc.nd (pdi_range1 V.b_range (pda_cons (pd_add pd_int (pd_call (w__law_draw V) (hr.mono (by decide)) gd (pda_cons (pd_var 0) (pda_cons pd_int pda_nil)) (aCons_len (aCons_len aNil_len)))) pda_nil)).weak (blk_of (by rfl)) (fun _ _ _ _ _ => (pdg_name 9 sc.nd)) (fun _ _ _ _ _ => pdts_nil) (fun _ _ _ _ _ => (pd_ix hr (pd_str) (pd_call (w__law_draw V) (hr.mono (by decide)) gd (pda_cons (pd_var 0) (pda_cons pd_int pda_nil)) (aCons_len (aCons_len aNil_len))))))))) (sw_true rfl rfl rfl (by decide +kernel)))
  (pdss_cons (pds_set 6 sc.nd (pd_srtT rfl V.b_sorted V.b_set (pd_var 5)))
  (pdss_cons (pds_if (pdt_cmp (op_ltA (hu0 hr)) ltD_ok (pd_var 2).weak (pd_int).weak) (pdss_one (pds_ret (pd_tuple V.b_tuple (pda_cons (pd_var 6) pda_nil)))) pdss_nil)
  (pdss_cons (pds_if (pdt_cmp (op_eqD (hu64 hr)) eqD_ok (pd_var 2).weak (pd_int).weak) (pdss_one (pds_ret (pd_tuple V.b_tuple (pda_cons (pd_var 5) pda_nil)))) pdss_nil)
  (pdss_cons (pds_if (pdt_cmp (op_eqD (hu64 hr)) eqD_ok (pd_var 2).weak (pd_int).weak) (pdss_one (pds_ret (pd_tuple V.b_tuple (pda_cons (pd_add (pd_add (pd_slice (pd_var 6) pdp_none (pdp_some (pd_var 4))) (pd_new (po_rep (po_sl (pd_var 6) (pdp_some (pd_var 4)) (pdp_some (pd_add (pd_var 4) pd_int)))))) (pd_slice (pd_var 6) (pdp_some (pd_add (pd_var 4) pd_int)) pdp_none)) pda_nil)))) pdss_nil)
  (pdss_cons (pds_if (pdt_cmp (op_eqD (hu64 hr)) eqD_ok (pd_var 2).weak (pd_int).weak) (pdss_one (pds_ret (pd_tuple V.b_tuple (pda_cons (pd_new (po_rev (pd_var 6))) pda_nil)))) pdss_nil)
  (pdss_cons (pds_if (pdt_cmp (op_eqD (hu64 hr)) eqD_ok (pd_var 2).weak (pd_int).weak) (pdss_cons (pds_set 7 sc.nd (pd_ix hr (pd_lst (pda_cons pd_non (pda_cons pd_int (pda_cons (pd_str) (pda_cons pd_bl (pda_cons (pd_tup (pda_cons (pd_str) pda_nil)) (pda_cons (pd_ix hr (pd_var 1) pd_int) (pda_cons (pd_str) (pda_cons (pd_str) pda_nil))))))))) (pd_call (w__law_draw V) (hr.mono (by decide)) gd (pda_cons (pd_var 0) (pda_cons pd_int pda_nil)) (aCons_len (aCons_len aNil_len)))))
  (pdss_one (pds_ret (pd_tuple V.b_tuple (pda_cons (pd_add (pd_add (pd_slice (pd_var 6) pdp_none (pdp_some (pd_var 4))) (pd_lst (pda_cons (pd_var 7) pda_nil))) (pd_slice (pd_var 6) (pdp_some (pd_var 4)) pdp_none)) pda_nil))))) pdss_nil)
  (pdss_one (pds_ret (pd_if (pdt_cmp (op_eqD (hu64 hr)) eqD_ok (pd_var 2).weak (pd_int).weak) (pd_var 6) (pd_tuple V.b_tuple (pda_cons (pd_add (pd_slice (pd_var 6) (pdp_some (pd_var 4)) pdp_none) (pd_slice (pd_var 6) pdp_none (pdp_some (pd_var 4)))) pda_nil)))))))))))))
theorem w__law_row {P : Program} {w : World} {K : PySem.W.Frag} {mg : Str → Option Value} {base : Heap} (V : Vn K mg) : FnD P w K mg base 2 "_law_row" 2 F__law_row := by
  obtain ⟨a, fd, hm, FF⟩ := V.f__law_row
  exact ⟨a, fd, ["_law_m", "_law_texts"], hm, FF.kp, binds_of (FunD.bindsA (ps := ["_law_m", "_law_texts"]) FF fun _ _ _ _ _ _ us hl => match us, hl with | [_, _], _ => rfl), g__law_row V FF⟩
noncomputable def s__law_whole_right : S := (sSeq (sParV [2, 3, 4] (vCons (vD (eOp subD (eCall F__law_draw (aCons (eVar 0) (aCons (eC (.int 2000)) aNil))) (eC (.int 1000)))) (vCons (vD (eIx (eLst (aCons (eC (.int 0)) (aCons (eC (.int 1)) (aCons (eC (.int 9)) (aCons (eOp dPow (eC (.int 10)) (eC (.int 18))) aNil))))) (eCall F__law_draw (aCons (eVar 0) (aCons (eC (.int 4)) aNil))))) (vCons (vD (eCall F__law_draw (aCons (eVar 0) (aCons (eC (.int 6)) aNil)))) vNil))))
  (sSeq (sParV [5, 6] (vCons (vD (eOp addD (eVar 2) (eIx (eLst (aCons (eOp subD (eC (.int 0)) (eC (.int 1))) (aCons (eC (.int 0)) (aCons (eC (.int 1)) (aCons (eVar 3) (aCons (eOp addD (eVar 3) (eC (.int 1))) (aCons (eOp dFdiv (eVar 3) (eC (.int 2))) aNil))))))) (eVar 4)))) (vCons (vD (eOp addD (eVar 2) (eVar 3))) vNil)))
  (sSeq (sSet 7 (eLst (aCons (eCall F_is_whole (aCons (eVar 5) (aCons (eVar 2) (aCons (eVar 6) aNil)))) (aCons (eCall F_is_whole (aCons (eVar 1) (aCons (eOp subD (eC (.int 0)) (eC (.int 5))) (aCons (eC (.int 5)) aNil)))) (aCons (eCall F_is_whole (aCons (eVar 5) (aCons (eOp addD (eVar 5) (eC (.int 1))) (aCons (eVar 5) aNil)))) aNil)))))
  (sRet (eCmp eqD (eBi reprD (aCons (eVar 7) aNil)) (eBi reprD (aCons (eLst (aCons (eChain leD leD (eVar 2) (eVar 5) (eVar 6)) (aCons (eC (.bl false)) (aCons (eC (.bl false)) aNil)))) aNil)))))))
noncomputable def F__law_whole_right : List D → M D := runF 8 s__law_whole_right
theorem sc__law_whole_right : FnScope ["_law_m", "_law_thing", "_law_least", "_law_span", "_law_way", "_law_number_here", "_law_top", "_law_found"] ["_law_m", "_law_thing"] (defScope (top 24)) := ⟨rfl, rfl, rfl, by decide +kernel, rfl, by decide +kernel, by decide +kernel⟩
theorem g__law_whole_right {P : Program} {w : World} {K : PySem.W.Frag} {mg : Str → Option Value} {base : Heap} {a : Addr} {fd : FuncData} (V : Vn K mg) (FF : FunD K "_law_whole_right" "_law_whole_right" (defArgs (top 24)) (defBody (top 24)) (defScope (top 24)) [] [] a fd) : FnG P w K mg base CX0 2 a fd ["_law_m", "_law_thing"] (spD K 2 F__law_whole_right) := by
  have sc := sc__law_whole_right
  refine fn_dG (k := 1) FF sc fun cdv A outer s H E hr gd => ?_
  exact (pdss_cons (pds_par3 2 3 4 rfl sc.nd (pva_cons (pv_d (pd_sub (pd_call (w__law_draw V) (hr.mono (by decide)) gd (pda_cons (pd_var 0) (pda_cons pd_int pda_nil)) (aCons_len (aCons_len aNil_len))) pd_int)) (pva_cons (pv_d (pd_ix hr (pd_lst (pda_cons pd_int (pda_cons pd_int (pda_cons pd_int (pda_cons (pd_pow pd_int pd_int) pda_nil))))) (pd_call (w__law_draw V) (hr.mono (by decide)) gd (pda_cons (pd_var 0) (pda_cons pd_int pda_nil)) (aCons_len (aCons_len aNil_len))))) (pva_cons (pv_d (pd_call (w__law_draw V) (hr.mono (by decide)) gd (pda_cons (pd_var 0) (pda_cons pd_int pda_nil)) (aCons_len (aCons_len aNil_len)))) pva_nil))))
  (pdss_cons (pds_par2 5 6 rfl sc.nd (pva_cons (pv_d (pd_add (pd_var 2) (pd_ix hr (pd_lst (pda_cons (pd_sub pd_int pd_int) (pda_cons pd_int (pda_cons pd_int (pda_cons (pd_var 3) (pda_cons (pd_add (pd_var 3) pd_int) (pda_cons (pd_fdiv (pd_var 3) pd_int) pda_nil))))))) (pd_var 4)))) (pva_cons (pv_d (pd_add (pd_var 2) (pd_var 3))) pva_nil)))
  (pdss_cons (pds_set 7 sc.nd (pd_lst (pda_cons (pd_call (w_is_whole V) (hr.mono (by decide)) gd (pda_cons (pd_var 5) (pda_cons (pd_var 2) (pda_cons (pd_var 6) pda_nil))) (aCons_len (aCons_len (aCons_len aNil_len)))) (pda_cons (pd_call (w_is_whole V) (hr.mono (by decide)) gd (pda_cons (pd_var 1) (pda_cons (pd_sub pd_int pd_int) (pda_cons pd_int pda_nil))) (aCons_len (aCons_len (aCons_len aNil_len)))) (pda_cons (pd_call (w_is_whole V) (hr.mono (by decide)) gd (pda_cons (pd_var 5) (pda_cons (pd_add (pd_var 5) pd_int) (pda_cons (pd_var 5) pda_nil))) (aCons_len (aCons_len (aCons_len aNil_len)))) pda_nil)))))
  (pdss_one (pds_ret (pd_cmp (op_eqD (hu64 hr)) eqD_ok (pd_repr hr gd V.b_repr (pba_cons (pd_var 7).weak pba_nil)).weak (pd_repr hr gd V.b_repr (pba_cons (pd_lst (pda_cons (pd_chain op_leA op_leA leD_ok leD_ok (pd_var 2).weak (pd_var 5).weak (pd_var 6).weak) (pda_cons pd_bl (pda_cons pd_bl pda_nil)))).weak pba_nil)).weak))))))
theorem w__law_whole_right {P : Program} {w : World} {K : PySem.W.Frag} {mg : Str → Option Value} {base : Heap} (V : Vn K mg) : FnD P w K mg base 2 "_law_whole_right" 2 F__law_whole_right := by
  obtain ⟨a, fd, hm, FF⟩ := V.f__law_whole_right
  exact ⟨a, fd, ["_law_m", "_law_thing"], hm, FF.kp, binds_of (FunD.bindsA (ps := ["_law_m", "_law_thing"]) FF fun _ _ _ _ _ _ us hl => match us, hl with | [_, _], _ => rfl), g__law_whole_right V FF⟩
noncomputable def s_law : S := (sSeq (sSet 1 (eCall F__law_begun (aCons (eVar 0) aNil)))
  (sSeq (sSet 2 (eO (eLcA [7] (aIt range1M (aCons (eC (.int 16)) aNil)) (bName 7) tYesD (eCall F__law_text (aCons (eVar 1) aNil)))))
  (sSeq (sSet 3 (eO (eLcA [7] (aIt range1M (aCons (eC (.int 8)) aNil)) (bName 7) tYesD (eCall F__law_row (aCons (eVar 1) (aCons (eVar 2) aNil))))))
  (sSeq (sSet 4 (eLst (aCons (eC .non) (aCons (eC (.bl true)) (aCons (eC (.bl false)) (aCons (eC (.int 5)) (aCons (eC (.int 0)) (aCons (eTup (aCons (eC (.str "a")) aNil)) (aCons (eLst (aCons (eC (.str "a")) aNil)) (aCons (eKd eK0) (aCons (eTup aNil) (aCons (eLst aNil) (aCons (eTup (aCons (eC (.str "1")) aNil)) (aCons (eKd (eDisp (pCons (eC (.str "a")) (eC (.str "b")) pNil))) (aCons (eOp dPow (eC (.int 10)) (eC (.int 18))) (aCons (eC (.str "a\n")) (aCons (eC (.str "\n")) (aCons (eTup (aCons (eTup aNil) aNil)) aNil))))))))))))))))))
  (sSeq (sFor (aItem (eOp addD (eOp addD (eOp addD (eOp addD (eVar 2) (eVar 3)) (eVar 4)) (eLst (aCons (eTup (aCons (eTup (aCons (eC (.str "a")) aNil)) aNil)) (aCons (eC (.str "1\n")) (aCons (eOp mulSD (eC (.str "9")) (eC (.int 5000))) aNil))))) (eO (aRev (eVar 2))))) (bName 5) (sSeq (sSet 6 (eLst (aCons (eCall F_is_name (aCons (eVar 5) aNil)) (aCons (eCall F_is_rising (aCons (eVar 5) aNil)) (aCons (eCall F_number_in (aCons (eVar 5) aNil)) aNil)))))
  (sIf (tCmp neD (eBi reprD (aCons (eVar 6) aNil)) (eBi reprD (aCons (eLst (aCons (eCall F__law_is_name (aCons (eVar 5) aNil)) (aCons (eCall F__law_is_rising (aCons (eVar 5) aNil)) (aCons (eCall F__law_number (aCons (eVar 5) aNil)) aNil)))) aNil))) (sRet (eC (.bl false))) sNil)))
  (sSeq (sFor (aItem (eLst (aCons (eC .non) (aCons (eC (.bl true)) (aCons (eC (.bl false)) (aCons (eC (.str "1")) (aCons (eTup (aCons (eC (.int 1)) aNil)) (aCons (eLst aNil) (aCons (eKd eK0) (aCons (eIx (eVar 2) (eC (.int 0))) aNil)))))))))) (bName 5) (sIf (tNot (tE (eCall F__law_whole_right (aCons (eVar 1) (aCons (eVar 5) aNil))))) (sRet (eC (.bl false))) sNil))
  (sRet (eCmp eqD (eBi reprD (aCons (eLst (aCons (eC (.int 600)) (aCons (eC (.int 20)) (aCons (eC (.int 20)) (aCons (eC (.int 300)) aNil))))) aNil)) (eC (.str "[600, 20, 20, 300]"))))))))))
noncomputable def F_law : List D → M D := runF 8 s_law
theorem sc_law : FnScope ["_law_script", "_law_m", "_law_texts", "_law_rows", "_law_odd", "_law_thing", "_law_found", "_law_k"] ["_law_script"] (defScope (top 25)) := ⟨rfl, rfl, rfl, by decide +kernel, rfl, by decide +kernel, by decide +kernel⟩
theorem g_law {P : Program} {w : World} {K : PySem.W.Frag} {mg : Str → Option Value} {base : Heap} {a : Addr} {fd : FuncData} (V : Vn K mg) (FF : FunD K "law" "law" (defArgs (top 25)) (defBody (top 25)) (defScope (top 25)) [] [] a fd) : FnG P w K mg base CX0 4 a fd ["_law_script"] (spD K 1 F_law) := by
  have sc := sc_law
  refine fn_dG (k := 3) FF sc fun cdv A outer s H E hr gd => ?_
  exact (pdss_cons (pds_set 1 sc.nd (pd_call (w__law_begun V) (hr.mono (by decide)) gd (pda_cons (pd_var 0) pda_nil) (aCons_len aNil_len)))
  (pdss_cons (pds_set 2 sc.nd (pd_new (po_lc [("_law_k", 7)] rfl sc.nd (pdi_range1 V.b_range (pda_cons pd_int pda_nil)).weak (blk_of (by rfl)) (fun _ _ _ _ _ => (pdg_name 7 sc.nd)) (fun _ _ _ _ _ => pdts_nil) (fun _ _ _ _ _ => (pd_call (w__law_text V) (hr.mono (by decide)) gd (pda_cons (pd_var 1) pda_nil) (aCons_len aNil_len))))))
  (pdss_cons (pds_setLc 3 [("_law_k", 7)] rfl sc.nd (pdi_range1 V.b_range (pda_cons pd_int pda_nil)).weak (blk_of (by rfl)) (fun _ _ _ _ _ => (pdg_name 7 sc.nd)) (fun _ _ _ _ _ => pdts_nil) (fun _ _ _ _ _ => (pd_call (w__law_row V) (hr.mono (by decide)) gd (pda_cons (pd_var 1) (pda_cons (pd_var 2) pda_nil)) (aCons_len (aCons_len aNil_len)))) (sw_true rfl rfl rfl (by decide +kernel)))
  (pdss_cons (pds_set 4 sc.nd (pd_lst (pda_cons pd_non (pda_cons pd_bl (pda_cons pd_bl (pda_cons pd_int (pda_cons pd_int (pda_cons (pd_tup (pda_cons (pd_str) pda_nil)) (pda_cons (pd_lst (pda_cons (pd_str) pda_nil)) (pda_cons (pd_newK pk_nil) (pda_cons (pd_tup pda_nil) (pda_cons (pd_lst pda_nil) (pda_cons (pd_tup (pda_cons (pd_str) pda_nil)) (pda_cons (pd_newK (pk_disp (ppd_cons (pd_str) (pd_str) ppd_nil))) (pda_cons (pd_pow pd_int pd_int) (pda_cons (pd_str) (pda_cons (pd_str) (pda_cons (pd_tup (pda_cons (pd_tup pda_nil) pda_nil)) pda_nil))))))))))))))))))
  (pdss_cons (pds_for rfl (pdi_val (pd_add (pd_add (pd_add (pd_add (pd_var 2) (pd_var 3)) (pd_var 4)) (pd_lst (pda_cons (pd_tup (pda_cons (pd_tup (pda_cons (pd_str) pda_nil)) pda_nil)) (pda_cons (pd_str) (pda_cons (pd_mulS (pd_str) pd_int) pda_nil))))) (pd_new (po_rev (pd_var 2))))) (pdg_name 5 sc.nd) (pdss_cons (pds_set 6 sc.nd (pd_lst (pda_cons (pd_call (w_is_name V) (hr.mono (by decide)) gd (pda_cons (pd_var 5) pda_nil) (aCons_len aNil_len)) (pda_cons (pd_call (w_is_rising V) (hr.mono (by decide)) gd (pda_cons (pd_var 5) pda_nil) (aCons_len aNil_len)) (pda_cons (pd_call (w_number_in V) (hr.mono (by decide)) gd (pda_cons (pd_var 5) pda_nil) (aCons_len aNil_len)) pda_nil)))))
  (pdss_one (pds_if (pdt_cmp (op_neD (hu64 hr)) neD_ok (pd_repr hr gd V.b_repr (pba_cons (pd_var 6).weak pba_nil)).weak (pd_repr hr gd V.b_repr (pba_cons (pd_lst (pda_cons (pd_call (w__law_is_name V) (hr.mono (by decide)) gd (pda_cons (pd_var 5) pda_nil) (aCons_len aNil_len)) (pda_cons (pd_call (w__law_is_rising V) (hr.mono (by decide)) gd (pda_cons (pd_var 5) pda_nil) (aCons_len aNil_len)) (pda_cons (pd_call (w__law_number V) (hr.mono (by decide)) gd (pda_cons (pd_var 5) pda_nil) (aCons_len aNil_len)) pda_nil)))).weak pba_nil)).weak) (pdss_one (pds_ret pd_bl)) pdss_nil))))
  (pdss_cons (pds_for rfl (pdi_val (pd_lst (pda_cons pd_non (pda_cons pd_bl (pda_cons pd_bl (pda_cons (pd_str) (pda_cons (pd_tup (pda_cons pd_int pda_nil)) (pda_cons (pd_lst pda_nil) (pda_cons (pd_newK pk_nil) (pda_cons (pd_ix hr (pd_var 2) pd_int) pda_nil)))))))))) (pdg_name 5 sc.nd) (pdss_one (pds_if (pdt_not (pdt_val (pd_call (w__law_whole_right V) (hr.mono (by decide)) gd (pda_cons (pd_var 1) (pda_cons (pd_var 5) pda_nil)) (aCons_len (aCons_len aNil_len))))) (pdss_one (pds_ret pd_bl)) pdss_nil)))
  (pdss_one (pds_ret (pd_cmp (op_eqD (hu64 hr)) eqD_ok (pd_repr hr gd V.b_repr (pba_cons (pd_lst (pda_cons (pd_gint V.c_PLANS) (pda_cons (pd_gint V.c_NAMES) (pda_cons (pd_gint V.c_DEEP) (pda_cons (pd_gint V.c_HEAVY) pda_nil))))).weak pba_nil)).weak (pd_str).weak)))))))))
theorem w_law {P : Program} {w : World} {K : PySem.W.Frag} {mg : Str → Option Value} {base : Heap} (V : Vn K mg) : FnD P w K mg base 4 "law" 1 F_law := by
  obtain ⟨a, fd, hm, FF⟩ := V.f_law
  exact ⟨a, fd, ["_law_script"], hm, FF.kp, binds_of (FunD.bindsA (ps := ["_law_script"]) FF fun _ _ _ _ _ _ us hl => match us, hl with | [_], _ => rfl), g_law V FF⟩
theorem vn {K : PySem.W.Frag} {h : Heap} {mg : Str → Option Value} (X : K.In h) (Gl : h.Ns mainGlobals mg) (c : He.SaysD fa fn K) : Vn K mg := by
  have q0 := He.glo_ok X Gl (c.fact 0 (f := .glo "is_whole") rfl)
  have q1 := He.glo_ok X Gl (c.fact 1 (f := .glo "is_of") rfl)
  have q2 := He.glo_ok X Gl (c.fact 2 (f := .glo "is_name") rfl)
  have q3 := He.glo_ok X Gl (c.fact 3 (f := .glo "is_rising") rfl)
  have q4 := He.glo_ok X Gl (c.fact 4 (f := .glo "number_in") rfl)
  have q5 := He.glo_ok X Gl (c.fact 5 (f := .glo "_law_begun") rfl)
  have q6 := He.glo_ok X Gl (c.fact 6 (f := .glo "_law_draw") rfl)
  have q7 := He.glo_ok X Gl (c.fact 7 (f := .glo "_law_signs") rfl)
  have q8 := He.glo_ok X Gl (c.fact 8 (f := .glo "_law_any") rfl)
  have q9 := He.glo_ok X Gl (c.fact 9 (f := .glo "_law_text") rfl)
  have q10 := He.glo_ok X Gl (c.fact 10 (f := .glo "_law_is_name") rfl)
  have q11 := He.glo_ok X Gl (c.fact 11 (f := .glo "_law_number") rfl)
  have q12 := He.glo_ok X Gl (c.fact 12 (f := .glo "_law_is_rising") rfl)
  have q13 := He.glo_ok X Gl (c.fact 13 (f := .glo "_law_row") rfl)
  have q14 := He.glo_ok X Gl (c.fact 14 (f := .glo "_law_whole_right") rfl)
  have q15 := He.glo_ok X Gl (c.fact 15 (f := .glo "law") rfl)
  obtain ⟨fd0, F0⟩ := c.def_ 0 (d := d_is_whole) rfl
  obtain ⟨fd1, F1⟩ := c.def_ 1 (d := d_is_of) rfl
  obtain ⟨fd2, F2⟩ := c.def_ 2 (d := d_is_name) rfl
  obtain ⟨fd3, F3⟩ := c.def_ 3 (d := d_is_rising) rfl
  obtain ⟨fd4, F4⟩ := c.def_ 4 (d := d_number_in) rfl
  obtain ⟨fd5, F5⟩ := c.def_ 5 (d := d__law_begun) rfl
  obtain ⟨fd6, F6⟩ := c.def_ 6 (d := d__law_draw) rfl
  obtain ⟨fd7, F7⟩ := c.def_ 7 (d := d__law_signs) rfl
  obtain ⟨fd8, F8⟩ := c.def_ 8 (d := d__law_any) rfl
  obtain ⟨fd9, F9⟩ := c.def_ 9 (d := d__law_text) rfl
  obtain ⟨fd10, F10⟩ := c.def_ 10 (d := d__law_is_name) rfl
  obtain ⟨fd11, F11⟩ := c.def_ 11 (d := d__law_number) rfl
  obtain ⟨fd12, F12⟩ := c.def_ 12 (d := d__law_is_rising) rfl
  obtain ⟨fd13, F13⟩ := c.def_ 13 (d := d__law_row) rfl
  obtain ⟨fd14, F14⟩ := c.def_ 14 (d := d__law_whole_right) rfl
  obtain ⟨fd15, F15⟩ := c.def_ 15 (d := d_law) rfl
  exact { b_all := He.free_ok X Gl (c.fact 16 (f := .free "all") rfl), b_bool := He.free_ok X Gl (c.fact 17 (f := .free "bool") rfl), b_int := He.free_ok X Gl (c.fact 18 (f := .free "int") rfl), b_isinstance := He.free_ok X Gl (c.fact 19 (f := .free "isinstance") rfl), b_len := He.free_ok X Gl (c.fact 20 (f := .free "len") rfl), b_range := He.free_ok X Gl (c.fact 21 (f := .free "range") rfl), b_repr := He.free_ok X Gl (c.fact 22 (f := .free "repr") rfl), b_set := He.free_ok X Gl (c.fact 23 (f := .free "set") rfl), b_sorted := He.free_ok X Gl (c.fact 24 (f := .free "sorted") rfl), b_str := He.free_ok X Gl (c.fact 25 (f := .free "str") rfl), b_tuple := He.free_ok X Gl (c.fact 26 (f := .free "tuple") rfl), b_zip := He.free_ok X Gl (c.fact 27 (f := .free "zip") rfl), c_SMALL := He.str_ok X Gl (c.fact 28 (f := .str "SMALL" "abcdefghijklmnopqrstuvwxyz") rfl), c_FIGURES := He.str_ok X Gl (c.fact 29 (f := .str "FIGURES" "0123456789") rfl), c_LONGEST := He.int_ok X Gl (c.fact 30 (f := .int "LONGEST" 8) rfl), c_MOST_FIGURES := He.int_ok X Gl (c.fact 31 (f := .int "MOST_FIGURES" 6) rfl), c_PLANS := He.int_ok X Gl (c.fact 32 (f := .int "PLANS" 600) rfl), c_NAMES := He.int_ok X Gl (c.fact 33 (f := .int "NAMES" 20) rfl), c_DEEP := He.int_ok X Gl (c.fact 34 (f := .int "DEEP" 20) rfl), c_HEAVY := He.int_ok X Gl (c.fact 35 (f := .int "HEAVY" 300) rfl), f_is_whole := ⟨_, fd0, q0, F0⟩, f_is_of := ⟨_, fd1, q1, F1⟩, f_is_name := ⟨_, fd2, q2, F2⟩, f_is_rising := ⟨_, fd3, q3, F3⟩, f_number_in := ⟨_, fd4, q4, F4⟩, f__law_begun := ⟨_, fd5, q5, F5⟩, f__law_draw := ⟨_, fd6, q6, F6⟩, f__law_signs := ⟨_, fd7, q7, F7⟩, f__law_any := ⟨_, fd8, q8, F8⟩, f__law_text := ⟨_, fd9, q9, F9⟩, f__law_is_name := ⟨_, fd10, q10, F10⟩, f__law_number := ⟨_, fd11, q11, F11⟩, f__law_is_rising := ⟨_, fd12, q12, F12⟩, f__law_row := ⟨_, fd13, q13, F13⟩, f__law_whole_right := ⟨_, fd14, q14, F14⟩, f_law := ⟨_, fd15, q15, F15⟩ }
end L_k02
end
section
set_option Elab.async false
set_option linter.all false
set_option maxRecDepth 100000
set_option maxHeartbeats 4000000
set_option autoImplicit false
namespace PD
open PySem
theorem optA_id {f : D → Option D} : ∀ {l : List D}, (∀ d ∈ l, f d = some d) → optA f l = some l
  | [], _ => rfl
  | d :: l, h => by
    show (f d).bind _ = _
    rw [h d List.mem_cons_self, Option.bind_some, optA_id fun x hx => h x (List.mem_cons_of_mem _ hx)]
    rfl
theorem rsv_int (k : Nat) (g : G) (i : Int) : rsv k g (.int i) = some (.int i) := by cases k <;> rfl
theorem rsv_str (k : Nat) (g : G) (x : Str) : rsv k g (.str x) = some (.str x) := by cases k <;> rfl
theorem rsv_non (k : Nat) (g : G) : rsv k g .non = some .non := by cases k <;> rfl
theorem optA_ints (k : Nat) (g : G) (ns : List Int) : optA (rsv k g) (ns.map .int) = some (ns.map .int) := optA_id fun d hd => by
  obtain ⟨n, _, rfl⟩ := List.mem_map.mp hd
  exact rsv_int k g n
theorem optA_strs (k : Nat) (g : G) (xs : List Str) : optA (rsv k g) (xs.map .str) = some (xs.map .str) := optA_id fun d hd => by
  obtain ⟨n, _, rfl⟩ := List.mem_map.mp hd
  exact rsv_str k g n
end PD
namespace L_k02
open PySem PD
structure Dr where
  great : List Int
  small : Int
  spot : Int
  rest : G
def Dr.g (s : Dr) : G := .ml (s.great.map .int) :: .mk [.inr "great", .inr "small", .inr "at"] [.hd 0, .int s.small, .int s.spot] :: s.rest
structure Dr.Ok (s : Dr) (b : Nat) : Prop where
  len : s.great.length ≤ 64
  lo : 0 ≤ s.spot
  hi : s.spot + b ≤ 1000000000
theorem Dr.Ok.mono {s : Dr} {a b : Nat} (h : s.Ok a) (hb : b ≤ a) : s.Ok b := ⟨h.len, h.lo, by have := h.hi; omega⟩
theorem look_great (s : Dr) : ixD s.g (.hd 1) (.str "great") = some (.hd 0) := by rfl
theorem look_small (s : Dr) : ixD s.g (.hd 1) (.str "small") = some (.int s.small) := by rfl
theorem look_at (s : Dr) : ixD s.g (.hd 1) (.str "at") = some (.int s.spot) := by rfl
theorem put_at (s : Dr) (i : Int) : storeD s.g (.hd 1) (.str "at") (.int i) = some ({ s with spot := i } : Dr).g := by rfl
theorem put_small (s : Dr) (i : Int) : storeD s.g (.hd 1) (.str "small") (.int i) = some ({ s with small := i } : Dr).g := by rfl
theorem rs_great (s : Dr) (k : Nat) : rsv (k + 1) s.g (.hd 0) = some (.lst (s.great.map .int)) := by
  show (optA (rsv k s.g) (s.great.map .int)).map D.lst = _
  rw [optA_ints]
  rfl
theorem ne_great (s : Dr) : rs2 neD s.g (.hd 0) (.lst []) = some (!decide (s.great = [])) := by
  unfold rs2
  rw [rs_great, Option.bind_some]
  show neD (.lst (s.great.map .int)) (.lst []) = _
  rw [neD_of (kdI.lst.ok (by decide) s.great) (by decide), eqq_lst]
  have := eqqA_map eqq_int s.great []
  rw [List.map_nil] at this
  rw [this]
theorem len_great (s : Dr) : optA (rsv 4 s.g) [.hd 0] = some [.lst (s.great.map .int)] := by
  show (rsv 4 s.g (.hd 0)).bind (fun x => some [x]) = _
  rw [rs_great]
  rfl
theorem len_ints (ns : List Int) : lenD [.lst (ns.map .int)] = some (.int ns.length) := by
  show some (D.int ((ns.map D.int).length : Int)) = _
  rw [List.length_map]
theorem ix_great (s : Dr) (i : Int) : ixD s.g (.hd 0) (.int i) = L2.atI (s.great.map .int) i := by rfl
theorem put_great (s : Dr) {j : Nat} (i v : Int) (h : L2.ixN s.great.length i = some j) : storeD s.g (.hd 0) (.int i) (.int v) = some ({ s with great := s.great.set j v } : Dr).g := by
  show (L2.ixN (s.great.map D.int).length i).map _ = _
  rw [List.length_map, h]
  show some (updG s.g 0 (.ml ((s.great.map D.int).set j (.int v)))) = _
  unfold Dr.g updG
  rw [List.set_cons_zero, List.map_set]
def primes : List D := [.int 2147483647, .int 2147483629, .int 2147483587, .int 2147483579, .int 2147483563, .int 2147483549, .int 2147483543, .int 2147483497]
theorem prime_at {i : Int} (h1 : 0 ≤ i) (h2 : i < 8) : ∃ P : Int, L2.atI primes i = some (.int P) ∧ 0 < P ∧ P < 2147483648 := by
  have : i = 0 ∨ i = 1 ∨ i = 2 ∨ i = 3 ∨ i = 4 ∨ i = 5 ∨ i = 6 ∨ i = 7 := by omega
  rcases this with rfl | rfl | rfl | rfl | rfl | rfl | rfl | rfl <;> exact ⟨_, rfl, by decide, by decide⟩
def mixBody : S := (sSeq (sSet 5 (eLst (aCons (eC (.int 2147483647)) (aCons (eC (.int 2147483629)) (aCons (eC (.int 2147483587)) (aCons (eC (.int 2147483579)) (aCons (eC (.int 2147483563)) (aCons (eC (.int 2147483549)) (aCons (eC (.int 2147483543)) (aCons (eC (.int 2147483497)) aNil))))))))))
  (sSeq (sSet 6 (eOp dMod (eOp addD (eOp addD (eIx (eVar 0) (eC (.str "small"))) (eOp dMul (eC (.int 7919)) (eVar 2))) (eC (.int 17))) (eIx (eVar 5) (eOp dMod (eVar 2) (eC (.int 8))))))
  (sSeq (sSet 6 (eOp dMod (eOp addD (eOp dMul (eVar 6) (eOp addD (eC (.int 48271)) (eOp dMul (eC (.int 2)) (eVar 2)))) (eOp dMul (eC (.int 104729)) (eVar 2))) (eIx (eVar 5) (eOp dMod (eVar 2) (eC (.int 8))))))
  (sRet (eOp dMod (eOp dFdiv (eOp dMod (eOp dMul (eOp dMul (eVar 6) (eVar 6)) (eVar 6)) (eIx (eVar 5) (eOp dMod (eVar 2) (eC (.int 8))))) (eC (.int 7))) (eVar 1))))))
theorem mix_ok (s : Dr) {m k : Int} (h1 : 0 < m) (k0 : 0 ≤ k) (k1 : k < 1000000000) (o3 o4 o5 o6 : Option LV) : ∃ r : Int, mixBody [some (.d (.hd 1)), some (.d (.int m)), some (.d (.int k)), o3, o4, o5, o6] s.g = some (.rt (.int r), s.g) ∧ 0 ≤ r ∧ r < m := by
  have sz := sizeLine_eq
  have z8 : (8 : Nat) ≤ sizeLine := by omega
  obtain ⟨P, hP, p0, p1⟩ := prime_at (i := k % 8) (Int.emod_nonneg _ (by decide)) (Int.emod_lt_of_pos _ (by decide))
  generalize hA : (s.small + 7919 * k + 17) % P = A
  have a1 : 0 ≤ A ∧ A < P := by rw [← hA]; exact ⟨Int.emod_nonneg _ (by omega), Int.emod_lt_of_pos _ p0⟩
  generalize hB : (A * (48271 + 2 * k) + 104729 * k) % P = B
  have b1 : 0 ≤ B ∧ B < P := by rw [← hB]; exact ⟨Int.emod_nonneg _ (by omega), Int.emod_lt_of_pos _ p0⟩
  refine ⟨B * B * B % P / 7 % m, ?_, Int.emod_nonneg _ (by omega), Int.emod_lt_of_pos _ h1⟩
  have m1 : dMul (.int 7919) (.int k) = some (.int (7919 * k)) := dMul_ok _ _ (by decide)
  have m2 : dMul (.int 2) (.int k) = some (.int (2 * k)) := dMul_ok _ _ (by decide)
  have m3 : dMul (.int A) (.int (48271 + 2 * k)) = some (.int (A * (48271 + 2 * k))) := dMul_ok _ _ (by omega)
  have m4 : dMul (.int 104729) (.int k) = some (.int (104729 * k)) := dMul_ok _ _ (by decide)
  have m5 : dMul (.int B) (.int B) = some (.int (B * B)) := dMul_ok _ _ (by omega)
  have m6 : dMul (.int (B * B)) (.int B) = some (.int (B * B * B)) := dMul_ok2 _ _ (by omega)
  have q1 := dMod_ok k 8 (by decide)
  have q2 := dMod_ok (s.small + 7919 * k + 17) P p0
  have q3 := dMod_ok (A * (48271 + 2 * k) + 104729 * k) P p0
  have q4 := dMod_ok (B * B * B) P p0
  have q5 := dMod_ok (B * B * B % P / 7) m h1
  have f1 := dFdiv_ok (B * B * B % P) 7 (by decide) (by decide)
  have ls := look_small s
  rw [hA] at q2
  rw [hB] at q3
  unfold primes at hP
  unfold mixBody
  simp -implicitDefEqProofs [z8, ls, m1, q1, hP, q2, m2, m3, m4, q3, m5, m6, q4, f1, q5]
theorem draw_ok {s : Dr} {b : Nat} (h : s.Ok (b + 1)) {m : Int} (h1 : 0 < m) (h2 : m < 18446744073709551616) : ∃ (r : Int) (s' : Dr), F__law_draw [.hd 1, .int m] s.g = some (.int r, s'.g) ∧ 0 ≤ r ∧ r < m ∧ s'.Ok b ∧ s'.rest = s.rest := by
  have k0 := h.lo
  have k1 := h.hi
  have MX := fun (o3 o4 : Option LV) => mix_ok { s with spot := s.spot + 1 } h1 k0 (by omega) o3 o4 none none
  have l1 := look_at s
  have p1 := put_at s (s.spot + 1)
  have okb : ({ s with spot := s.spot + 1 } : Dr).Ok b := ⟨h.len, by show 0 ≤ s.spot + 1; omega, by show s.spot + 1 + (b : Int) ≤ _; omega⟩
  generalize hs1 : ({ s with spot := s.spot + 1 } : Dr) = s1 at *
  have ec : s1.great = s.great := by rw [← hs1]
  have er : s1.rest = s.rest := by rw [← hs1]
  have lg := look_great s1
  have ng := ne_great s1
  unfold mixBody at MX
  by_cases hg : s1.great = []
  · obtain ⟨r, e, r1, r2⟩ := MX none none
    refine ⟨r, s1, runF_rt ?_, r1, r2, okb, er⟩
    rw [decide_eq_true hg] at ng
    simp -implicitDefEqProofs [s__law_draw, slots0, l1, p1, lg, ng]
    exact e
  · have hl : 0 < (s1.great.length : Int) := by
      have := List.length_pos_iff.mpr hg
      omega
    rw [decide_eq_false hg] at ng
    have ln := len_great s1
    have ln2 := len_ints s1.great
    generalize s1.great.map D.int = GG at ln ln2
    have q1 := dMod_ok s.spot s1.great.length hl
    have i0 := Int.emod_nonneg s.spot (b := s1.great.length) (by omega)
    have i1 := Int.emod_lt_of_pos s.spot hl
    generalize s.spot % s1.great.length = i at *
    obtain ⟨j, rfl⟩ : ∃ j : Nat, i = j := ⟨i.toNat, by omega⟩
    have hj : j < s1.great.length := by omega
    have ix : ixD s1.g (.hd 0) (.int (j : Int)) = some (.int s1.great[j]) := by
      rw [ix_great, atI_of (by omega) (by rw [List.length_map]; omega), List.getElem?_map]
      simp [List.getElem?_eq_getElem hj]
    have hn : L2.ixN s1.great.length (j : Int) = some j := by
      unfold L2.ixN
      rw [if_pos (by omega), if_pos (by omega)]
      simp
    generalize s1.great[j] = c at *
    by_cases hc : 0 < c
    · have pg := put_great s1 (j : Int) (c / m) hn
      have f1 := dFdiv_ok c m h1 h2
      have q2 := dMod_ok c m h1
      refine ⟨c % m, { s1 with great := s1.great.set j (c / m) }, runF_rt ?_, Int.emod_nonneg _ (by omega), Int.emod_lt_of_pos _ h1, ⟨by show (s1.great.set j (c / m)).length ≤ 64; rw [List.length_set]; exact okb.len, okb.lo, okb.hi⟩, er⟩
      simp -implicitDefEqProofs [s__law_draw, slots0, l1, p1, lg, ng, ln, ln2, q1, ix, hc, f1, pg, q2]
    · obtain ⟨r, e, r1, r2⟩ := MX (some (.d (.int (j : Int)))) (some (.d (.int c)))
      refine ⟨r, s1, runF_rt ?_, r1, r2, okb, er⟩
      simp -implicitDefEqProofs [s__law_draw, slots0, l1, p1, lg, ng, ln, ln2, q1, ix, hc]
      exact e
end L_k02
end
section
set_option Elab.async false
set_option linter.all false
set_option maxRecDepth 100000
set_option maxHeartbeats 4000000
set_option autoImplicit false
namespace L_k02
open PySem PD
theorem begun_ok {ns : List Int} (h : ns.length ≤ 63) : ∃ s : Dr, F__law_begun [.lst (ns.map .int)] [] = some (.hd 1, s.g) ∧ s.Ok 1000000000 ∧ s.rest = [] := by
  have sz := sizeLine_eq
  have key : Wp (F__law_begun [.lst (ns.map .int)] []) fun d g' => ∃ s : Dr, d = .hd 1 ∧ g' = s.g ∧ s.Ok 1000000000 ∧ s.rest = [] := by
    refine wp_runF ?_
    have q : itemsD (.lst (ns.map D.int)) = some (ns.map D.int) := rfl
    have l1 : lcL (bName 2) (tCmp geD (eVar 2) (eOp dPow (eC (.int 10)) (eC (.int 18)))) (eVar 2) [some (.d (.lst (ns.map .int))), none, none] (ns.map .int) [] = some ((ns.filter fun c => decide (1000000000000000000 ≤ c)).map .int, []) := by
      generalize D.lst (ns.map D.int) = SC
      have := lc_typedF (f := D.int) (f' := D.int) (bd := bName 2) (t := tCmp geD (eVar 2) (eOp dPow (eC (.int 10)) (eC (.int 18)))) (e := eVar 2) (ρ := [some (.d SC), none, none]) (g := []) (p := fun c => decide (1000000000000000000 ≤ c)) (q := id) ns fun c _ => ⟨_, rfl, by simp -implicitDefEqProofs [setR], fun _ => by simp -implicitDefEqProofs [setR]⟩
      rw [List.map_id] at this
      exact this
    have hl : (ns.filter fun c => decide (1000000000000000000 ≤ c)).length ≤ 64 := by have := List.length_filter_le (fun c => decide (1000000000000000000 ≤ c)) ns; omega
    have z1 : ((ns.filter fun c => decide (1000000000000000000 ≤ c)).map D.int).length ≤ sizeLine := by rw [List.length_map]; omega
    generalize hG : (ns.filter fun c => decide (1000000000000000000 ≤ c)) = GR at *
    generalize hS : D.lst (ns.map D.int) = SC at *
    refine wp_hide fun Q hQ => ?_
    generalize hN : ns.map D.int = NS at *
    have g0 : ∀ X : List D, ([.ml X, .mk (mergeD ([], []) [.inr "great", .inr "small", .inr "at"] [.hd 0, .int 0, .int 0]).1 (mergeD ([], []) [.inr "great", .inr "small", .inr "at"] [.hd 0, .int 0, .int 0]).2] : G) = [.ml X, .mk [.inr "great", .inr "small", .inr "at"] [.hd 0, .int 0, .int 0]] := fun X => rfl
    have kd : keysD [.str "great", .str "small", .str "at"] = some [.inr "great", .inr "small", .inr "at"] := rfl
    generalize hGM : GR.map D.int = GM at *
    simp -implicitDefEqProofs [s__law_begun, slots0, q, l1, z1, kd, g0]
    rw [← hN]
    refine wp_bind (wp_for ns (fun _ ρ g' => ∃ (o2 : Option LV) (s : Dr), ρ = [some (.d SC), some (.d (.hd 1)), o2] ∧ g' = s.g ∧ s.great = GR ∧ s.spot = 0 ∧ s.rest = []) ⟨none, ⟨GR, 0, 0, []⟩, rfl, by rw [← hGM]; rfl, rfl, rfl, rfl⟩ ?_ ?_)
    · rintro done c todo ρ g' e ⟨o2, s, rfl, rfl, e1, e2, e3⟩
      refine ⟨_, rfl, ?_⟩
      refine wp_hide fun Q hQ => ?_
      by_cases hc : c < 1000000000000000000
      · have ls := look_small s
        have m1 : dMul (.int s.small) (.int 1000000000000000000) = some (.int (s.small * 1000000000000000000)) := dMul_ok2 _ _ (by decide)
        have m2 := dMod_ok c 1000000000000000000 (by decide)
        have pp := put_small s (s.small * 1000000000000000000 + c % 1000000000000000000 + 1)
        simp -implicitDefEqProofs [hc, ls, m1, m2, pp]
        exact hQ _ _ ⟨_, { s with small := _ }, rfl, rfl, e1, e2, e3⟩
      · simp -implicitDefEqProofs [hc]
        exact hQ _ _ ⟨_, s, rfl, rfl, e1, e2, e3⟩
    · rintro ρ g' ⟨o2, s, rfl, rfl, e1, e2, e3⟩
      simp -implicitDefEqProofs
      exact hQ _ _ ⟨s, rfl, rfl, ⟨by rw [e1]; exact hl, by rw [e2]; decide, by rw [e2]; decide⟩, e3⟩
  obtain ⟨d, g', e, s, rfl, rfl, h1, h2⟩ := key
  exact ⟨s, e, h1, h2⟩
/-- a text of at most n signs, none of them great -/
structure TxOk (x : Str) (n : Nat) : Prop where
  ln : (cs x).length ≤ n
  ch : ∀ c ∈ cs x, c < 1000
theorem TxOk.mono {x : Str} {n m : Nat} (h : TxOk x n) (hm : n ≤ m) : TxOk x m := ⟨Nat.le_trans h.ln hm, h.ch⟩
theorem word_lc {sg : Str} (hs1 : 1 ≤ (cs sg).length) (hs : TxOk sg 200) {o2 o3 o4 o5 o6 : Option LV} : ∀ (ds : List D) {s : Dr} {b : Nat}, s.Ok (b + ds.length) → ∃ (xs : List Nat) (s' : Dr),
    lcL (bName 7) tYesD (eIx (eVar 1) (eCall F__law_draw (aCons (eVar 0) (aCons (eBi lenD (aCons (eVar 1) aNil)) aNil)))) [some (.d (.hd 1)), some (.d (.str sg)), o2, o3, o4, o5, o6, none] ds s.g = some (xs.map fun c => .str ⟨#[c]⟩, s'.g) ∧
      xs.length = ds.length ∧ (∀ c ∈ xs, c < 1000) ∧ s'.Ok b ∧ s'.rest = s.rest
  | [], s, b, h => ⟨[], s, rfl, rfl, fun _ h => absurd h (by simp), h, rfl⟩
  | d :: ds, s, b, h => by
    have ll : lenD [.str sg] = some (.int ((cs sg).length : Int)) := by
      show some (D.int (sg.length : Int)) = _
      rw [cs_len]
    have l200 := hs.ln
    obtain ⟨r, s1, e, r1, r2, ok, ec⟩ := draw_ok (b := b + ds.length) (s := s) (by simpa [Nat.add_assoc] using h) (m := (cs sg).length) (by omega) (by omega)
    obtain ⟨c, hc, hm⟩ := atI_mem (l := cs sg) (i := r) r1 r2
    have ix : ∀ g, ixD g (.str sg) (.int r) = some (.str ⟨#[c]⟩) := fun g => by
      show (L2.atI sg.cps.toList r).map _ = _
      have hc : L2.atI sg.cps.toList r = some c := hc
      rw [hc]
      rfl
    obtain ⟨xs, s2, e2, l2, m2, ok2, ec2⟩ := word_lc hs1 hs (o2 := o2) (o3 := o3) (o4 := o4) (o5 := o5) (o6 := o6) ds ok
    refine ⟨c :: xs, s2, ?_, by simp [l2], fun c' h' => ?_, ok2, ec2.trans ec⟩
    · rw [lcL_cons]
      simp -implicitDefEqProofs [bName, setR, ll, e, ix, e2]
    · rcases List.mem_cons.mp h' with rfl | h'
      · exact hs.ch _ hm
      · exact m2 c' h'
theorem join_txt {a : Str} {xs : List Str} {n m k : Nat} (ha : TxOk a m) (hx : ∀ x ∈ xs, TxOk x n) (hk : xs.length ≤ k) (hz : k * (n + m) ≤ 100000) : ∃ y, joinD (.str a) (.lst (xs.map .str)) = some (.str y) ∧ TxOk y (k * (n + m)) := by
  have hsum : ∀ ys : List Str, (∀ x ∈ ys, TxOk x n) → (ys.map (·.length)).sum ≤ ys.length * n := by
    intro ys
    induction ys with
    | nil => intro _; simp
    | cons y ys ih =>
      intro hy
      have h1 := (hy y List.mem_cons_self).ln
      rw [cs_len] at h1
      have h2 := ih fun z hz => hy z (List.mem_cons_of_mem _ hz)
      rw [List.map_cons, List.sum_cons, List.length_cons, Nat.add_mul]
      omega
  have h1 := hsum xs hx
  have h2 : xs.length * n + xs.length * m ≤ k * (n + m) := by
    rw [← Nat.mul_add]
    exact Nat.mul_le_mul_right _ hk
  have h3 : xs.length * a.length ≤ xs.length * m := Nat.mul_le_mul_left _ (by have := ha.ln; rw [cs_len] at this; exact this)
  refine ⟨ofCs (joinC (cs a) (xs.map cs)), ?_, ?_, ?_⟩
  · show ((strsD (xs.map D.str)).bind fun ys => if (ys.map (·.length)).sum + ys.length * a.length ≤ sizeLine then some (D.str (ofCs (joinC (cs a) (ys.map cs)))) else none) = _
    rw [strsD_map, Option.bind_some, if_pos (by rw [sizeLine_eq]; omega)]
  · rw [cs_ofCs]
    have := joinC_len (s := cs a) (l := xs.map cs)
    have e : (xs.map cs).map List.length = xs.map (·.length) := by
      rw [List.map_map]
      exact List.map_congr_left fun x _ => cs_len x
    rw [e, List.length_map, cs_len] at this
    omega
  · rw [cs_ofCs]
    intro c hc
    rcases joinC_mem hc with h | ⟨p, hp, h⟩
    · exact ha.ch c h
    · obtain ⟨x, hx', rfl⟩ := List.mem_map.mp hp
      exact (hx x hx').ch c h
theorem add_txt {x y : Str} {n m : Nat} (hx : TxOk x n) (hy : TxOk y m) (hz : n + m ≤ 100000) : addD (.str x) (.str y) = some (.str (x ++ y)) ∧ TxOk (x ++ y) (n + m) := by
  have e : cs (x ++ y) = cs x ++ cs y := by
    show (x.cps ++ y.cps).toList = _
    simp [cs]
  have h1 := hx.ln
  have h2 := hy.ln
  refine ⟨?_, ?_, ?_⟩
  · show szD (x.length + y.length) _ = _
    exact szD_ok (by rw [sizeLine_eq, ← cs_len, ← cs_len]; omega)
  · rw [e, List.length_append]; omega
  · rw [e]
    intro c hc
    rcases List.mem_append.mp hc with h | h
    · exact hx.ch c h
    · exact hy.ch c h
end L_k02
end
section
set_option Elab.async false
set_option linter.all false
set_option maxRecDepth 100000
set_option maxHeartbeats 4000000
set_option autoImplicit false
namespace L_k02
open PySem PD
abbrev sg (c : Nat) : D := .str ⟨#[c]⟩
theorem in_sg (c : Nat) (z : Str) : inD (sg c) (.str z) = some (decide (c ∈ cs z)) := by
  show some (inStr ⟨#[c]⟩ z) = _
  unfold inStr
  rw [if_pos (by simp)]
  rfl
theorem notin_sg (c : Nat) (z : Str) : notInD (sg c) (.str z) = some (!decide (c ∈ cs z)) := by
  have := in_sg c z
  unfold notInD
  rw [this]
  rfl
theorem items_str (x : Str) : itemsD (.str x) = some ((cs x).map sg) := rfl
theorem len_str (x : Str) : lenD [.str x] = some (.int ((cs x).length : Int)) := by rw [cs_len]; rfl
def ofB (x z : Str) (m : Int) : Bool := decide ((1 : Int) ≤ ((cs x).length : Int)) && (decide (((cs x).length : Int) ≤ m) && (cs x).all fun c => decide (c ∈ cs z))
theorem isOf_ok {x : Str} (hl : (cs x).length ≤ 10000) (z : Str) (m : Int) (g : G) : F_is_of [.str x, .str z, .int m] g = some (.bl (ofB x z m), g) := by
  have sz := sizeLine_eq
  have hi : (cs x).length ≤ sizeLine := by omega
  have ll := len_str x
  have it := items_str x
  have hlc : lcL (bName 3) tYesD (eCmp inD (eVar 3) (eVar 1)) [some (.d (.str x)), some (.d (.str z)), some (.d (.int m)), none] ((cs x).map sg) g = some (((cs x).map fun c => decide (c ∈ cs z)).map .bl, g) := by
    refine lc_bools (f := sg) (cs x) fun c hc => ⟨_, rfl, ?_⟩
    have := in_sg c z
    simp -implicitDefEqProofs [setR, this]
  have ha := allD_lst ((cs x).map fun c => decide (c ∈ cs z))
  have ea : ((cs x).map fun c => decide (c ∈ cs z)).all id = (cs x).all fun c => decide (c ∈ cs z) := by rw [List.all_map]; rfl
  rw [ea] at ha
  have hz : (((cs x).map fun c => decide (c ∈ cs z)).map D.bl).length ≤ sizeLine := by simpa using hi
  refine runF_rt ?_
  unfold ofB
  generalize ((cs x).map fun c => decide (c ∈ cs z)).map D.bl = BL at *
  generalize ((cs x).all fun c => decide (c ∈ cs z)) = AL at *
  generalize (cs x).map sg = IT at *
  by_cases d1 : (1 : Int) ≤ ((cs x).length : Int)
  · by_cases d2 : ((cs x).length : Int) ≤ m
    · simp -implicitDefEqProofs [s_is_of, slots0, isiD, ll, it, hlc, hz, ha, d1, d2]
    · simp -implicitDefEqProofs [s_is_of, slots0, isiD, ll, it, hlc, hz, ha, d1, d2]
  · simp -implicitDefEqProofs [s_is_of, slots0, isiD, ll, it, hlc, hz, ha, d1]
theorem isOf_non {d : D} (h : isiD .str d = some false) (z m : D) (g : G) : F_is_of [d, z, m] g = some (.bl false, g) := by
  refine runF_rt ?_
  simp -implicitDefEqProofs [s_is_of, slots0, h]
def abcS : Str := "abcdefghijklmnopqrstuvwxyz"
def figS : Str := "0123456789"
/-- the name by data -/
def nm : D → Bool
  | .str x => ofB x abcS 8
  | _ => false
def Good0 (d : D) : Prop := (∃ x, d = .str x ∧ (cs x).length ≤ 10000) ∨ isiD .str d = some false
theorem nm_non {d : D} (h : isiD .str d = some false) : nm d = false := by
  cases d <;> first | rfl | cases h
theorem isName_ok {d : D} (h : Good0 d) (g : G) : F_is_name [d] g = some (.bl (nm d), g) := by
  refine runF_rt ?_
  rcases h with ⟨x, rfl, hl⟩ | h
  · have e := isOf_ok hl abcS 8 g
    have e : F_is_of [.str x, .str "abcdefghijklmnopqrstuvwxyz", .int 8] g = some (.bl (nm (.str x)), g) := e
    generalize nm (.str x) = B at *
    simp -implicitDefEqProofs [s_is_name, slots0, e]
  · have e := isOf_non h (.str "abcdefghijklmnopqrstuvwxyz") (.int 8) g
    rw [nm_non h]
    simp -implicitDefEqProofs [s_is_name, slots0, e]
theorem purA_of : ∀ {l : List D}, (∀ d ∈ l, pur d = true) → purA l = true
  | [], _ => rfl
  | d :: l, h => by
    simp only [purA]
    rw [h d List.mem_cons_self, purA_of fun x hx => h x (List.mem_cons_of_mem _ hx)]
    rfl
theorem depA_of {k : Nat} : ∀ {l : List D}, (∀ d ∈ l, dep d ≤ k) → depA l ≤ k
  | [], _ => by simp [depA]
  | d :: l, h => by
    have h1 := h d List.mem_cons_self
    have h2 := depA_of fun x hx => h x (List.mem_cons_of_mem _ hx)
    simp only [depA]
    omega
def Pl (d : D) : Prop := pur d = true ∧ dep d ≤ 5
theorem cmp_lst {l : List D} (h : ∀ d ∈ l, Pl d) : cmpOk (.lst l) = true := by
  have h1 := purA_of fun d hd => (h d hd).1
  have h2 := depA_of fun d hd => (h d hd).2
  unfold cmpOk
  simp only [pur, dep, h1, Bool.true_and]
  exact decide_eq_true (by omega)
theorem eqNil {l : List D} (h : ∀ d ∈ l, Pl d) : eqD (.lst l) (.lst []) = some l.isEmpty := by
  rw [eqD_of (cmp_lst h) rfl]
  cases l <;> rfl
theorem neNil {l : List D} (h : ∀ d ∈ l, Pl d) : neD (.lst l) (.lst []) = some (!l.isEmpty) := by
  unfold neD
  rw [if_pos (by rw [cmp_lst h]; rfl)]
  cases l <;> rfl
theorem pl_sg (c : Nat) : Pl (sg c) := ⟨rfl, by simp [dep]⟩
theorem lawName_ok {d : D} (h : Good0 d) (g : G) : F__law_is_name [d] g = some (.bl (nm d), g) := by
  have sz := sizeLine_eq
  have z0 : (0 : Nat) ≤ sizeLine := by omega
  refine runF_rt ?_
  rcases h with ⟨x, rfl, hl⟩ | h
  · have ll := len_str x
    have it := items_str x
    have lc := lc_typedF (f := sg) (f' := sg) (bd := bName 1) (t := tCmp notInD (eVar 1) (eC (.str "abcdefghijklmnopqrstuvwxyz"))) (e := eVar 1) (ρ := [some (.d (.str x)), none]) (g := g) (p := fun c => !decide (c ∈ cs abcS)) (q := id) (cs x) fun c _ => ⟨_, rfl, by
      have := notin_sg c "abcdefghijklmnopqrstuvwxyz"
      have e : cs "abcdefghijklmnopqrstuvwxyz" = cs abcS := rfl
      rw [e] at this
      generalize decide (c ∈ cs abcS) = B at *
      simp -implicitDefEqProofs [setR, this], fun _ => by simp -implicitDefEqProofs [setR]⟩
    rw [List.map_id] at lc
    have eq := eqNil (l := ((cs x).filter fun c => !decide (c ∈ cs abcS)).map sg) (fun d hd => by
      obtain ⟨c, _, rfl⟩ := List.mem_map.mp hd
      exact pl_sg c)
    have hz : (((cs x).filter fun c => !decide (c ∈ cs abcS)).map sg).length ≤ sizeLine := by
      rw [List.length_map]
      have := List.length_filter_le (fun c => !decide (c ∈ cs abcS)) (cs x)
      omega
    have ee : (((cs x).filter fun c => !decide (c ∈ cs abcS)).map sg).isEmpty = (cs x).all fun c => decide (c ∈ cs abcS) := by
      induction cs x with
      | nil => rfl
      | cons c l ih =>
        by_cases hc : c ∈ cs abcS
        · rw [List.filter_cons_of_neg (by simp [hc]), List.all_cons, ih]
          simp [hc]
        · rw [List.filter_cons_of_pos (by simp [hc]), List.all_cons]
          simp [hc]
    rw [ee] at eq
    show _ = some (Fl.rt (.bl (ofB x abcS 8)), g)
    unfold ofB
    generalize (((cs x).filter fun c => !decide (c ∈ cs abcS)).map sg) = FL at *
    generalize ((cs x).all fun c => decide (c ∈ cs abcS)) = AL at *
    generalize (cs x).map sg = IT at *
    generalize ((cs x).length : Int) = N at *
    by_cases d1 : 0 < N
    · have d1' : 1 ≤ N := by omega
      by_cases d2 : N < 9
      · have d2' : N ≤ 8 := by omega
        simp -implicitDefEqProofs [s__law_is_name, slots0, isiD, ll, it, lc, hz, z0, eq, d1, d2, d1', d2']
      · have d2' : ¬ N ≤ 8 := by omega
        simp -implicitDefEqProofs [s__law_is_name, slots0, isiD, ll, d1, d2, d1', d2']
    · have d1' : ¬ 1 ≤ N := by omega
      simp -implicitDefEqProofs [s__law_is_name, slots0, isiD, ll, d1, d1']
  · rw [nm_non h]
    simp -implicitDefEqProofs [s__law_is_name, slots0, h]
/-! ### rows that rise -/
structure Row (l : List D) : Prop where
  gd : ∀ d ∈ l, Good0 d
  pl : ∀ d ∈ l, Pl d
  ln : l.length ≤ 100
theorem nm_str {d : D} (h : nm d = true) : ∃ x, d = .str x := by
  cases d <;> first | exact ⟨_, rfl⟩ | cases h
theorem strs_of_nm : ∀ {l : List D}, l.all nm = true → ∃ xs : List Str, l = xs.map .str
  | [], _ => ⟨[], rfl⟩
  | d :: l, h => by
    rw [List.all_cons] at h
    obtain ⟨h1, h2⟩ := Bool.and_eq_true_iff.mp h
    obtain ⟨x, rfl⟩ := nm_str h1
    obtain ⟨xs, rfl⟩ := strs_of_nm h2
    exact ⟨x :: xs, rfl⟩
def ltB (p : Str × Str) : Bool := decide (p.1.cps.toList < p.2.cps.toList)
def upB (xs : List Str) : Bool := (xs.zip (xs.drop 1)).all ltB
def pairS (p : Str × Str) : D := .tup [.str p.1, .str p.2]
theorem all_filter {α : Type} (p : α → Bool) : ∀ l : List α, (l.filter fun x => !p x).isEmpty = l.all p
  | [] => rfl
  | x :: l => by
    by_cases h : p x = true
    · rw [List.filter_cons_of_neg (by simp [h]), List.all_cons, all_filter p l, h]
      rfl
    · rw [List.filter_cons_of_pos (by simp [h]), List.all_cons]
      simp [h]
theorem one_filter {α : Type} (p : α → Bool) (l : List α) : (((l.filter fun x => !p x).map fun _ => (1 : Int)).map D.int).isEmpty = l.all p := by
  rw [← all_filter p l]
  cases l.filter fun x => !p x <;> rfl
theorem rising_ok {l : List D} (h : Row l) (g : G) : ∃ b, F_is_rising [.tup l] g = some (.bl b, g) ∧ F__law_is_rising [.tup l] g = some (.bl b, g) := by
  have sz := sizeLine_eq
  have z0 : (0 : Nat) ≤ sizeLine := by omega
  have ln := h.ln
  have it : itemsD (.tup l) = some l := rfl
  have c1 : lcL (bName 1) tYesD (eCall F_is_name (aCons (eVar 1) aNil)) [some (.d (.tup l)), none, none] l g = some ((l.map nm).map .bl, g) := by
    have := lc_bools (f := id) (p := nm) (bd := bName 1) (e := eCall F_is_name (aCons (eVar 1) aNil)) (ρ := [some (.d (.tup l)), none, none]) (g := g) l fun d hd => ⟨_, rfl, by
      have e := isName_ok (h.gd d hd) g
      generalize nm d = B at *
      simp -implicitDefEqProofs [setR, e]⟩
    rw [List.map_id] at this
    exact this
  have a1 := allD_lst (l.map nm)
  have ea : (l.map nm).all id = l.all nm := by rw [List.all_map]; rfl
  rw [ea] at a1
  have m1 : ((l.map nm).map D.bl).length ≤ sizeLine := by simp; omega
  have c2 := lc_typedF (f := id) (f' := id) (q := id) (p := fun d => !nm d) (bd := bName 1) (t := tNot (tE (eCall F__law_is_name (aCons (eVar 1) aNil)))) (e := eVar 1) (ρ := [some (.d (.tup l)), none, none]) (g := g) l fun d hd => ⟨_, rfl, by
    have e := lawName_ok (h.gd d hd) g
    generalize nm d = B at *
    simp -implicitDefEqProofs [setR, e], fun _ => by simp -implicitDefEqProofs [setR]⟩
  rw [List.map_id, List.map_id, List.map_id] at c2
  have e2 := neNil (l := l.filter fun d => !nm d) (fun d hd => h.pl d (List.mem_filter.mp hd).1)
  rw [all_filter] at e2
  have m2 : (l.filter fun d => !nm d).length ≤ sizeLine := by
    have := List.length_filter_le (fun d => !nm d) l
    omega
  cases hall : l.all nm with
  | false =>
    rw [hall] at a1 e2
    refine ⟨false, runF_rt ?_, runF_rt ?_⟩
    · generalize (l.map nm).map D.bl = BL at *
      simp -implicitDefEqProofs [s_is_rising, slots0, isiD, it, c1, m1, a1]
    · generalize (l.filter fun d => !nm d) = FL at *
      simp -implicitDefEqProofs [s__law_is_rising, slots0, isiD, it, c2, m2, z0, e2]
  | true =>
    rw [hall] at a1 e2
    obtain ⟨xs, rfl⟩ := strs_of_nm hall
    rw [List.length_map] at ln
    have hs : slD (.tup (xs.map .str)) (some 1) none = some (.tup ((xs.drop 1).map .str)) := by
      show some (D.tup (cutL (xs.map D.str) (some 1) none)) = _
      rw [cutL_one, List.map_drop]
    have hz : zipM [.tup (xs.map .str), .tup ((xs.drop 1).map .str)] = some ((xs.zip (xs.drop 1)).map pairS) := by
      rw [zipM_of (seqD_tup _) (seqD_tup _), zip2L_map]
      rfl
    have lt : ∀ p : Str × Str, PD.ltD (.str p.1) (.str p.2) = some (ltB p) := fun _ => rfl
    have zl : (xs.zip (xs.drop 1)).length ≤ 100 := by simp; omega
    have bt : ∀ (c d : D) (y : Option LV), bTup (bsCons (bName 1) (bsCons (bName 2) bsNil)) (.tup [c, d]) [y, none, none] = some [y, some (.d c), some (.d d)] := fun _ _ _ => rfl
    have c3 : lcL (bTup (bsCons (bName 1) (bsCons (bName 2) bsNil))) tYesD (eCmp PD.ltD (eVar 1) (eVar 2)) [some (.d (.tup (xs.map .str))), none, none] ((xs.zip (xs.drop 1)).map pairS) g = some (((xs.zip (xs.drop 1)).map ltB).map .bl, g) := by
      refine lc_bools (xs.zip (xs.drop 1)) fun p _ => ⟨_, bt _ _ _, ?_⟩
      have := lt p
      generalize ltB p = B at *
      generalize xs.map D.str = XS at *
      simp -implicitDefEqProofs [this]
    have a3 := allD_lst ((xs.zip (xs.drop 1)).map ltB)
    have ea3 : ((xs.zip (xs.drop 1)).map ltB).all id = upB xs := by rw [List.all_map]; rfl
    rw [ea3] at a3
    have m3 : (((xs.zip (xs.drop 1)).map ltB).map D.bl).length ≤ sizeLine := by simp; omega
    have c4 := lc_typedF (f := pairS) (f' := D.int) (q := fun _ => (1 : Int)) (p := fun p => !ltB p) (bd := bTup (bsCons (bName 1) (bsCons (bName 2) bsNil))) (t := tNot (tCmp PD.ltD (eVar 1) (eVar 2))) (e := eC (.int 1)) (ρ := [some (.d (.tup (xs.map .str))), none, none]) (g := g) (xs.zip (xs.drop 1)) fun p _ => ⟨_, bt _ _ _, by
      have := lt p
      generalize ltB p = B at *
      generalize xs.map D.str = XS at *
      simp -implicitDefEqProofs [this], fun _ => by simp -implicitDefEqProofs⟩
    have e4 := eqNil (l := (((xs.zip (xs.drop 1)).filter fun p => !ltB p).map fun _ => (1 : Int)).map D.int) (fun d hd => by
      obtain ⟨i, _, rfl⟩ := List.mem_map.mp hd
      exact ⟨rfl, by simp [dep]⟩)
    rw [one_filter] at e4
    have ea4 : (xs.zip (xs.drop 1)).all ltB = upB xs := rfl
    rw [ea4] at e4
    have m4 : ((((xs.zip (xs.drop 1)).filter fun p => !ltB p).map fun _ => (1 : Int)).map D.int).length ≤ sizeLine := by
      rw [List.length_map, List.length_map]
      have := List.length_filter_le (fun p => !ltB p) (xs.zip (xs.drop 1))
      omega
    refine ⟨upB xs, runF_rt ?_, runF_rt ?_⟩
    · generalize ((xs.map D.str).map nm).map D.bl = BL at *
      generalize ((xs.zip (xs.drop 1)).map ltB).map D.bl = B2 at *
      generalize (xs.zip (xs.drop 1)).map pairS = ZS at *
      generalize (xs.drop 1).map D.str = TL at *
      generalize upB xs = UB at *
      generalize xs.map D.str = XS at *
      simp -implicitDefEqProofs [s_is_rising, slots0, isiD, it, c1, m1, a1, hs, hz, c3, m3, a3]
    · generalize ((xs.map D.str).filter fun d => !nm d) = FL at *
      generalize (((xs.zip (xs.drop 1)).filter fun p => !ltB p).map fun _ => (1 : Int)).map D.int = OL at *
      generalize (xs.zip (xs.drop 1)).map pairS = ZS at *
      generalize (xs.drop 1).map D.str = TL at *
      generalize upB xs = UB at *
      generalize xs.map D.str = XS at *
      simp -implicitDefEqProofs [s__law_is_rising, slots0, isiD, it, c2, m2, z0, e2, hs, hz, c4, m4, e4]
theorem rising_non {d : D} (h : isiD .tup d = some false) (g : G) : F_is_rising [d] g = some (.bl false, g) ∧ F__law_is_rising [d] g = some (.bl false, g) := by
  refine ⟨runF_rt ?_, runF_rt ?_⟩
  · simp -implicitDefEqProofs [s_is_rising, slots0, h]
  · simp -implicitDefEqProofs [s__law_is_rising, slots0, h]
end L_k02
end
section
set_option Elab.async false
set_option linter.all false
set_option maxRecDepth 100000
set_option maxHeartbeats 4000000
set_option autoImplicit false
namespace L_k02
open PySem PD
open NumText (digitsVal AllDigits)
/-! ### texts of numbers -/
def noLead (a : List Nat) : Prop := a = [48] ∨ a.head? ≠ some 48
theorem val_snoc (b : List Nat) (c : Nat) : digitsVal (b ++ [c]) = digitsVal b * 10 + (c - 48) := by
  unfold digitsVal
  rw [List.foldl_append]
  rfl
theorem val_pos : ∀ {a : List Nat}, AllDigits a → a ≠ [] → a.head? ≠ some 48 → 1 ≤ digitsVal a := by
  intro a
  have key : ∀ (r : List Nat) (n : Nat), 1 ≤ n → 1 ≤ r.foldl (fun acc c => acc * 10 + (c - 48)) n := by
    intro r
    induction r with
    | nil => intro n h; exact h
    | cons c r ih => intro n h; exact ih (n * 10 + (c - 48)) (by omega)
  intro h1 h2 h3
  cases a with
  | nil => exact absurd rfl h2
  | cons c r =>
    have hc := h1 c List.mem_cons_self
    have h3 : c ≠ 48 := fun e => h3 (by rw [e]; rfl)
    unfold digitsVal
    rw [List.foldl_cons]
    exact key r _ (by omega)
theorem back_of {a : List Nat} (h : AllDigits a) (hn : a ≠ []) (hl : noLead a) : TL.numL (digitsVal a) = a := by
  rcases hl with rfl | hl
  · decide +kernel
  · have key : ∀ (n : Nat) (a : List Nat), a.length = n → AllDigits a → a ≠ [] → a.head? ≠ some 48 → TL.numL (digitsVal a) = a := by
      intro n
      induction n with
      | zero => intro a e h1 h2; exact absurd (List.eq_nil_of_length_eq_zero e) h2
      | succ n ih =>
        intro a e h1 h2 h3
        obtain ⟨b, c, rfl⟩ : ∃ b c, a = b ++ [c] := ⟨a.dropLast, a.getLast h2, (List.dropLast_concat_getLast h2).symm⟩
        have hc := h1 c (by simp)
        rw [val_snoc]
        cases b with
        | nil =>
          have : digitsVal [] * 10 + (c - 48) = c - 48 := by simp [digitsVal]
          rw [this, TL.numL_lt (by omega)]
          have : 48 + (c - 48) = c := by omega
          rw [this]
          rfl
        | cons d b =>
          have hb : AllDigits (d :: b) := fun x hx => h1 x (by simp at hx ⊢; rcases hx with h | h; exact .inl h; exact .inr (.inl h))
          have h3' : (d :: b).head? ≠ some 48 := h3
          have ih' := ih (d :: b) (by simp at e; simp; omega) hb (by simp) h3'
          have vp := val_pos hb (by simp) h3'
          rw [TL.numL_step (by omega)]
          have e1 : (digitsVal (d :: b) * 10 + (c - 48)) / 10 = digitsVal (d :: b) := by omega
          have e2 : 48 + (digitsVal (d :: b) * 10 + (c - 48)) % 10 = c := by omega
          rw [e1, e2, ih']
    exact key _ a rfl h hn hl
theorem num_head : ∀ (n : Nat), 1 ≤ n → (TL.numL n).head? ≠ some 48 := by
  intro n
  induction n using Nat.strongRecOn with
  | ind n ih =>
    intro h
    by_cases h10 : n < 10
    · rw [TL.numL_lt h10]
      simp
      omega
    · rw [TL.numL_step (by omega)]
      have := ih (n / 10) (by omega) (by omega)
      have ne := TL.numL_ne (n / 10)
      cases hh : TL.numL (n / 10) with
      | nil => exact absurd hh ne
      | cons d b =>
        rw [hh] at this
        exact this
theorem num_lead (n : Nat) : noLead (TL.numL n) := by
  by_cases h : n = 0
  · subst h
    left
    rw [TL.numL_lt (by omega)]
  · exact .inr (num_head n (by omega))
theorem num_iff {a : List Nat} (h : AllDigits a) (hn : a ≠ []) : TL.numL (digitsVal a) = a ↔ noLead a := ⟨fun e => e ▸ num_lead _, back_of h hn⟩
theorem fig_mem (c : Nat) : c ∈ cs figS ↔ 48 ≤ c ∧ c ≤ 57 := by
  have e : cs figS = [48, 49, 50, 51, 52, 53, 54, 55, 56, 57] := by decide +kernel
  rw [e]
  simp only [List.mem_cons, List.not_mem_nil, or_false]
  omega
theorem six_fig {c : Nat} (h : 48 ≤ c ∧ c ≤ 57) : sixD (.str "0123456789") (sg c) = some (.int ((c - 48 : Nat) : Int)) := by
  have hk : c = 48 ∨ c = 49 ∨ c = 50 ∨ c = 51 ∨ c = 52 ∨ c = 53 ∨ c = 54 ∨ c = 55 ∨ c = 56 ∨ c = 57 := by omega
  have key : ∀ n : Nat, Builtin.Str.occurrences "0123456789" ⟨#[c]⟩ 0 (Str.length "0123456789") 1 = [n] → sixD (.str "0123456789") (sg c) = some (.int (n : Int)) := by
    intro n hn
    show (match Builtin.Str.occurrences (Str.ofString "0123456789") ⟨#[c]⟩ 0 (Str.length (Str.ofString "0123456789")) 1 with | i :: _ => some (D.int (i : Int)) | [] => none) = _
    rw [hn]
  refine key _ ?_
  rcases hk with rfl | rfl | rfl | rfl | rfl | rfl | rfl | rfl | rfl | rfl <;> decide +kernel
theorem all_fig {a : List Nat} : (a.all fun c => decide (c ∈ cs figS)) = true ↔ AllDigits a := by
  rw [List.all_eq_true]
  constructor
  · intro h c hc
    exact (fig_mem c).mp (of_decide_eq_true (h c hc))
  · intro h c hc
    exact decide_eq_true ((fig_mem c).mpr (h c hc))
theorem val_lt : ∀ {a : List Nat}, AllDigits a → digitsVal a < 10 ^ a.length := by
  intro a
  have key : ∀ (n : Nat) (a : List Nat), a.length = n → AllDigits a → digitsVal a < 10 ^ n := by
    intro n
    induction n with
    | zero =>
      intro a e _
      have := List.eq_nil_of_length_eq_zero e
      subst this
      simp [digitsVal]
    | succ n ih =>
      intro a e h1
      have h2 : a ≠ [] := by intro e2; subst e2; simp at e
      obtain ⟨b, c, rfl⟩ : ∃ b c, a = b ++ [c] := ⟨a.dropLast, a.getLast h2, (List.dropLast_concat_getLast h2).symm⟩
      have hc := h1 c (by simp)
      have hb := ih b (by simp at e; omega) fun x hx => h1 x (by simp [hx])
      rw [val_snoc, Nat.pow_succ]
      omega
  intro h
  exact key _ a rfl h
open Classical in
/-- what a text writes -/
noncomputable def numD (x : Str) : D := if ofB x figS 6 = true ∧ noLead (cs x) then .int ((digitsVal (cs x) : Nat) : Int) else .non
theorem eqD_str (x y : Str) : eqD (.str x) (.str y) = some (x == y) := by rw [eqD_of rfl rfl]; rfl
theorem neD_str (x y : Str) : neD (.str x) (.str y) = some (!(x == y)) := by rw [neD_of rfl rfl]; rfl
theorem str_eq {x y : Str} : (x == y) = decide (cs x = cs y) := by
  by_cases h : x = y
  · subst h; simp
  · have : cs x ≠ cs y := fun e => h (TL.ext_tl e)
    simp [h, this]
theorem of_six {x : Str} (h : ofB x figS 6 = true) : 1 ≤ (cs x).length ∧ (cs x).length ≤ 6 ∧ AllDigits (cs x) := by
  unfold ofB at h
  obtain ⟨h1, h⟩ := Bool.and_eq_true_iff.mp h
  obtain ⟨h2, h3⟩ := Bool.and_eq_true_iff.mp h
  have h1 := of_decide_eq_true h1
  have h2 := of_decide_eq_true h2
  exact ⟨by omega, by omega, all_fig.mp h3⟩
theorem ix0 {x : Str} {c : Nat} {r : List Nat} (e : cs x = c :: r) : L2.atI x.cps.toList 0 = some c := by
  have e : x.cps.toList = c :: r := e
  rw [e, atI_of (by decide) (by simp)]
  rfl
theorem numberIn_ok {x : Str} (hl : (cs x).length ≤ 10000) (g : G) : F_number_in [.str x] g = some (numD x, g) := by
  refine runF_rt ?_
  have e := isOf_ok hl figS 6 g
  have e : F_is_of [.str x, .str "0123456789", .int 6] g = some (.bl (ofB x figS 6), g) := e
  cases ho : ofB x figS 6 with
  | false =>
    rw [ho] at e
    have : numD x = .non := by unfold numD; rw [if_neg]; rintro ⟨h, _⟩; rw [ho] at h; cases h
    rw [this]
    simp -implicitDefEqProofs [s_number_in, slots0, e]
  | true =>
    rw [ho] at e
    obtain ⟨l1, l2, ad⟩ := of_six ho
    cases hx : cs x with
    | nil => rw [hx] at l1; simp at l1
    | cons c r =>
      have i0 := ix0 hx
      have q1 : eqD (sg c) (.str "0") = some (decide (c = 48)) := by
        rw [eqD_str, str_eq]
        have e1 : cs "0" = [48] := by decide +kernel
        rw [e1]
        congr 1
        simp [cs]
      have q2 : neD (.str x) (.str "0") = some (!decide (cs x = [48])) := by
        rw [neD_str, str_eq]
        have e1 : cs "0" = [48] := by decide +kernel
        rw [e1]
      have it : intTD (.str x) = some (.int ((digitsVal (cs x) : Nat) : Int)) := by
        show (if x.length ≤ 640 then (PySem.intText? x).map D.int else none) = _
        have e2 : x.length = (cs x).length := by rw [cs_len]
        rw [if_pos (by omega), PySem.intText_digits ad (by rw [show x.cps.toList = cs x from rfl, hx]; simp) (by omega)]
        rfl
      have nl : noLead (cs x) ↔ (cs x = [48] ∨ c ≠ 48) := by
        unfold noLead
        rw [hx]
        simp
      unfold numD
      rw [ho]
      simp only [true_and, nl]
      generalize ((digitsVal (cs x) : Nat) : Int) = N at *
      by_cases k1 : c = 48
      · rw [decide_eq_true k1] at q1
        by_cases k2 : cs x = [48]
        · rw [decide_eq_true k2] at q2
          rw [if_pos (.inl k2)]
          simp -implicitDefEqProofs [s_number_in, slots0, e, i0, q1, q2, it]
        · rw [decide_eq_false k2] at q2
          rw [if_neg (by rintro (h | h); exact k2 h; exact h k1)]
          simp -implicitDefEqProofs [s_number_in, slots0, e, i0, q1, q2, it]
      · rw [decide_eq_false k1] at q1
        rw [if_pos (.inr k1)]
        simp -implicitDefEqProofs [s_number_in, slots0, e, i0, q1, it]
theorem numberIn_non {d : D} (h : isiD .str d = some false) (g : G) : F_number_in [d] g = some (.non, g) := by
  refine runF_rt ?_
  have e := isOf_non h (.str "0123456789") (.int 6) g
  simp -implicitDefEqProofs [s_number_in, slots0, e]
theorem lawNumber_non {d : D} (h : isiD .str d = some false) (g : G) : F__law_number [d] g = some (.non, g) := by
  refine runF_rt ?_
  simp -implicitDefEqProofs [s__law_number, slots0, h]
theorem strT_ok {n : Nat} (h : n < 1000000) : ∃ y : Str, strTD (.int (n : Int)) = some (.str y) ∧ cs y = TL.numL n := by
  refine ⟨_, ?_, TL.tl_num n⟩
  have hb : shB (.int (n : Int)) = true := by
    simp only [shB]
    refine decide_eq_true ?_
    have : ((n : Int).natAbs) = n := by omega
    rw [this]
    by_cases h0 : n = 0
    · subst h0; decide
    · have : n.log2 < 20 := (Nat.log2_lt h0).2 (by omega)
      omega
  have hr := reprD_of (d := .int (n : Int)) rfl hb (by
    obtain ⟨_, h5⟩ := shown_le (.int (n : Int)) hb
    have h1 : shW (.int (n : Int)) ≤ 10000 := by
      simp only [shW]
      first | omega | skip
    omega)
  have h1 : (n : Int).natAbs.log2 < 1920 := by simpa [shB] using hb
  have hs : showOk (.int (n : Int)) = true := by
    by_cases hs : showOk (.int (n : Int)) = true
    · exact hs
    · have hr : (if showOk (.int (n : Int)) = true then some (D.str (shows (.int (n : Int)))) else none) = some (.str (shows (.int (n : Int)))) := hr
      rw [if_neg hs] at hr
      cases hr
  unfold strTD
  simp only
  rw [if_pos ⟨h1, hs⟩]
theorem lawNumber_ok {x : Str} (hl : (cs x).length ≤ 10000) (g : G) : F__law_number [.str x] g = some (numD x, g) := by
  have ll := len_str x
  have it := items_str x
  have is : isiD .str (.str x) = some true := rfl
  have key : Wp (F__law_number [.str x] g) fun d g' => d = numD x ∧ g' = g := by
    refine wp_runF ?_
    refine wp_hide fun Q hQ => ?_
    generalize hL : ((cs x).length : Int) = L at *
    by_cases c1 : (0 : Int) < L
    · by_cases c2 : L < 7
      · have c1' := c1
        generalize hI : (cs x).map sg = IT at *
        simp -implicitDefEqProofs [s__law_number, slots0, is, ll, it, c1, c2]
        rw [← hI]
        refine wp_bind (wp_forE (f := sg) (cs x) (fun done ρ g' => g' = g ∧ AllDigits done ∧ ∃ o2, ρ = [some (.d (.str x)), some (.d (.int ((digitsVal done : Nat) : Int))), o2]) ⟨rfl, fun _ h => absurd h (by simp), none, rfl⟩ ?_ ?_)
        · rintro done c todo ρ g' ed ⟨rfl, ad, o2, rfl⟩
          refine ⟨_, rfl, ?_⟩
          refine wp_hide fun Q2 hQ2 => ?_
          have ni := notin_sg c "0123456789"
          have ef : cs "0123456789" = cs figS := rfl
          rw [ef] at ni
          by_cases hc : c ∈ cs figS
          · have hd := (fig_mem c).mp hc
            have sx := six_fig hd
            have mm := dMul_ok 10 ((digitsVal done : Nat) : Int) (by decide)
            have vs : (10 * ((digitsVal done : Nat) : Int) + ((c - 48 : Nat) : Int)) = ((digitsVal (done ++ [c]) : Nat) : Int) := by rw [val_snoc]; omega
            generalize ((digitsVal done : Nat) : Int) = N at *
            generalize ((c - 48 : Nat) : Int) = N2 at *
            simp -implicitDefEqProofs [setR, ni, hc, sx, mm]
            rw [vs]
            exact hQ2 _ _ ⟨rfl, fun y hy => by
              rcases List.mem_append.mp hy with h | h
              · exact ad y h
              · rw [List.mem_singleton.mp h]; exact hd, _, rfl⟩
          · simp -implicitDefEqProofs [setR, ni, hc]
            refine hQ2 _ _ ?_
            refine (goesE_rt _ _ _ _).mpr ?_
            refine ⟨_, _, rfl, ?_⟩
            refine hQ _ _ ?_
            refine ⟨?_, rfl⟩
            unfold numD
            rw [if_neg]
            rintro ⟨h, _⟩
            exact hc ((fig_mem c).mpr ((of_six h).2.2 c (by rw [ed]; simp)))
        · rintro ρ g' ⟨rfl, ad, o2, rfl⟩
          have vl := val_lt ad
          have v6 : digitsVal (cs x) < 1000000 := by
            have : 10 ^ (cs x).length ≤ 10 ^ 6 := Nat.pow_le_pow_right (by decide) (by omega)
            omega
          obtain ⟨y, y1, y2⟩ := strT_ok v6
          have ne : cs x ≠ [] := by intro e; rw [e] at hL; simp at hL; omega
          have q1 : eqD (.str y) (.str x) = some (decide (TL.numL (digitsVal (cs x)) = cs x)) := by
            rw [eqD_str, str_eq, y2]
          have ni := num_iff ad ne
          have ho : ofB x figS 6 = true := by
            unfold ofB
            rw [all_fig.mpr ad]
            simp only [Bool.and_true, Bool.and_eq_true]
            exact ⟨decide_eq_true (by omega), decide_eq_true (by omega)⟩
          by_cases hn : TL.numL (digitsVal (cs x)) = cs x
          · rw [decide_eq_true hn] at q1
            have en : numD x = .int ((digitsVal (cs x) : Nat) : Int) := by unfold numD; rw [if_pos ⟨ho, ni.mp hn⟩]
            generalize ((digitsVal (cs x) : Nat) : Int) = N at *
            simp -implicitDefEqProofs [y1, q1]
            exact hQ _ _ ⟨en.symm, rfl⟩
          · rw [decide_eq_false hn] at q1
            have en : numD x = .non := by unfold numD; rw [if_neg]; exact fun h => hn (ni.mpr h.2)
            generalize ((digitsVal (cs x) : Nat) : Int) = N at *
            simp -implicitDefEqProofs [y1, q1]
            exact hQ _ _ ⟨en.symm, rfl⟩
      · simp -implicitDefEqProofs [s__law_number, slots0, is, ll, c1, c2]
        refine hQ (.rt .non) _ ⟨?_, rfl⟩
        unfold numD
        rw [if_neg]
        rintro ⟨h, _⟩
        have := (of_six h).2.1
        omega
    · simp -implicitDefEqProofs [s__law_number, slots0, is, ll, c1]
      refine hQ (.rt .non) _ ⟨?_, rfl⟩
      unfold numD
      rw [if_neg]
      rintro ⟨h, _⟩
      have := (of_six h).1
      omega
  obtain ⟨d, g', e, rfl, rfl⟩ := key
  exact e
end L_k02
end
section
set_option Elab.async false
set_option linter.all false
set_option maxRecDepth 100000
set_option maxHeartbeats 4000000
set_option autoImplicit false
namespace L_k02
open PySem PD
/-! ### texts drawn -/
theorem lc_draw {P : D → Prop} {n : Nat} {bd : B} {e : E} {ρ : Rho} (hb : ∀ d, ∃ ρ', bd d ρ = some ρ' ∧ ∀ (s : Dr) (b : Nat), s.Ok (b + n) → ∃ (v : D) (s' : Dr), e ρ' s.g = some (v, s'.g) ∧ P v ∧ s'.Ok b ∧ s'.rest = s.rest) :
    ∀ (ds : List D) {s : Dr} {b : Nat}, s.Ok (b + n * ds.length) → ∃ (r : List D) (s' : Dr), lcL bd tYesD e ρ ds s.g = some (r, s'.g) ∧ r.length = ds.length ∧ (∀ v ∈ r, P v) ∧ s'.Ok b ∧ s'.rest = s.rest
  | [], s, b, h => ⟨[], s, rfl, rfl, fun _ h => absurd h (by simp), h, rfl⟩
  | d :: ds, s, b, h => by
    obtain ⟨ρ', e1, k⟩ := hb d
    obtain ⟨v, s1, e2, p1, ok1, er1⟩ := k s (b + n * ds.length) (by rw [List.length_cons, Nat.mul_add, Nat.mul_one, ← Nat.add_assoc] at h; exact h)
    obtain ⟨r, s2, e3, l3, p3, ok3, er3⟩ := lc_draw hb ds ok1
    refine ⟨v :: r, s2, ?_, by simp [l3], fun w hw => ?_, ok3, er3.trans er1⟩
    · rw [lcL_cons, e1]
      simp -implicitDefEqProofs [e2, e3]
    · rcases List.mem_cons.mp hw with rfl | hw
      · exact p1
      · exact p3 w hw
def TxD (n : Nat) (d : D) : Prop := ∃ x, d = .str x ∧ TxOk x n
theorem txs_of {n : Nat} : ∀ {r : List D}, (∀ v ∈ r, TxD n v) → ∃ xs : List Str, r = xs.map .str ∧ ∀ x ∈ xs, TxOk x n
  | [], _ => ⟨[], rfl, fun _ h => absurd h (by simp)⟩
  | v :: r, h => by
    obtain ⟨x, rfl, hx⟩ := h v List.mem_cons_self
    obtain ⟨xs, rfl, hxs⟩ := txs_of fun w hw => h w (List.mem_cons_of_mem _ hw)
    exact ⟨x :: xs, rfl, fun y hy => by
      rcases List.mem_cons.mp hy with rfl | hy
      · exact hx
      · exact hxs y hy⟩
theorem tx_sg {c : Nat} (h : c < 1000) : TxOk ⟨#[c]⟩ 1 := ⟨by simp [cs], by intro d hd; simp [cs] at hd; omega⟩
theorem tx_nil : TxOk "" 0 := ⟨by decide +kernel, by decide +kernel⟩
/-- a sign drawn -/
theorem sign_ix {z : Str} (hz : TxOk z 200) {r : Int} (h1 : 0 ≤ r) (h2 : r < (cs z).length) : ∃ c, c < 1000 ∧ L2.atI z.cps.toList r = some c := by
  obtain ⟨c, hc, hm⟩ := atI_mem (l := cs z) (i := r) h1 h2
  exact ⟨c, hz.ch c hm, hc⟩
theorem rg1 {r : Int} (h1 : 0 ≤ r) (h2 : r < 1000) : range1M [.int r] = some (rangeD 0 r.toNat) := by
  show (if -(2 ^ 62) ≤ r ∧ r < 2 ^ 62 then some (rangeD 0 r.toNat) else none) = _
  rw [if_pos ⟨by omega, by omega⟩]
theorem joinOf {r : List D} {n k : Nat} (h : ∀ v ∈ r, TxD n v) (hk : r.length ≤ k) (hz : k * n ≤ 100000) : ∃ y, joinD (.str "") (.lst r) = some (.str y) ∧ TxOk y (k * n) := by
  obtain ⟨xs, rfl, hx⟩ := txs_of h
  exact join_txt (m := 0) tx_nil hx (by simpa using hk) hz
theorem any_ok {z : Str} (hz1 : 1 ≤ (cs z).length) (hz : TxOk z 200) {top : Int} (t1 : 0 ≤ top) (t2 : top ≤ 10) {s : Dr} {b : Nat} (h : s.Ok (b + 11)) :
    ∃ (x : Str) (s' : Dr), F__law_any [.hd 1, .str z, .int top] s.g = some (.str x, s'.g) ∧ TxOk x 10 ∧ s'.Ok b ∧ s'.rest = s.rest := by
  have sz := sizeLine_eq
  have l200 := hz.ln
  obtain ⟨r, s1, e1, r1, r2, ok1, er1⟩ := draw_ok (b := b + 10) (s := s) h (m := top + 1) (by omega) (by omega)
  have rg := rg1 (r := r) r1 (by omega)
  have ll := len_str z
  obtain ⟨l, s2, e2, l2, p2, ok2, er2⟩ := lc_draw (P := TxD 1) (n := 1) (bd := bName 3) (e := eIx (eVar 1) (eCall F__law_draw (aCons (eVar 0) (aCons (eBi lenD (aCons (eVar 1) aNil)) aNil)))) (ρ := [some (.d (.hd 1)), some (.d (.str z)), some (.d (.int top)), none]) (fun d => ⟨_, rfl, fun s b h => by
    obtain ⟨r, s1, e1, r1, r2, ok1, er1⟩ := draw_ok (b := b) (s := s) h (m := (cs z).length) (by omega) (by omega)
    obtain ⟨c, hc, ix⟩ := sign_ix hz r1 r2
    exact ⟨_, s1, by simp -implicitDefEqProofs [setR, ll, e1, ix], ⟨_, rfl, tx_sg hc⟩, ok1, er1⟩⟩) (rangeD 0 r.toNat) (s := s1) (b := b) (ok1.mono (by rw [rangeD_length]; omega))
  rw [rangeD_length] at l2
  obtain ⟨y, ey, hy⟩ := joinOf (k := 10) p2 (by omega) (by decide)
  refine ⟨y, s2, runF_rt ?_, hy, ok2, er2.trans er1⟩
  have lz : l.length ≤ sizeLine := by omega
  generalize rangeD 0 r.toNat = RG at *
  simp -implicitDefEqProofs [s__law_any, slots0, e1, rg, e2, lz, ey]
theorem signs_def : ∃ sg : Str, (∀ g, F__law_signs [] g = some (.str sg, g)) ∧ 95 ≤ (cs sg).length ∧ TxOk sg 200 := by
  refine ⟨" !\"#$&'()*+,-./0123456789:;<=>?@ABCDEFGHIJKLMNOPQRSTUVWXYZ[\\]^_" ++ "`abcdefghijklmnopqrstuvwxyz{|}~\n", fun g => runF_rt ?_, by decide +kernel, by decide +kernel, by decide +kernel⟩
  have e : addD (.str " !\"#$&'()*+,-./0123456789:;<=>?@ABCDEFGHIJKLMNOPQRSTUVWXYZ[\\]^_") (.str "`abcdefghijklmnopqrstuvwxyz{|}~\n") = some (.str (" !\"#$&'()*+,-./0123456789:;<=>?@ABCDEFGHIJKLMNOPQRSTUVWXYZ[\\]^_" ++ "`abcdefghijklmnopqrstuvwxyz{|}~\n")) := by
    show szD _ _ = _
    exact szD_ok (by rw [sizeLine_eq]; decide +kernel)
  generalize ((" !\"#$&'()*+,-./0123456789:;<=>?@ABCDEFGHIJKLMNOPQRSTUVWXYZ[\\]^_" : Str) ++ "`abcdefghijklmnopqrstuvwxyz{|}~\n") = R at *
  simp -implicitDefEqProofs [s__law_signs, slots0, e]
theorem cut_txt {x : Str} {n : Nat} (h : TxOk x n) (lo hi : Option Int) : ∃ y, slD (.str x) lo hi = some (.str y) ∧ TxOk y n := by
  refine ⟨L2.cutS x lo hi, rfl, ?_, ?_⟩
  · have : (cs (L2.cutS x lo hi)).length ≤ (cs x).length := by
      unfold L2.cutS cs
      simp only [List.length_take, List.length_drop]
      omega
    have := h.ln
    omega
  · intro c hc
    refine h.ch c ?_
    unfold L2.cutS cs at hc
    simp only at hc
    exact List.mem_of_mem_drop (List.mem_of_mem_take hc)
def abcS' : Str := "abcdefghijklmnopqrstuvwxyz"
theorem text_ok {s : Dr} {b : Nat} (h : s.Ok (b + 30)) : ∃ (x : Str) (s' : Dr), F__law_text [.hd 1] s.g = some (.str x, s'.g) ∧ TxOk x 50 ∧ s'.Ok b ∧ s'.rest = s.rest := by
  have sz := sizeLine_eq
  obtain ⟨way, s1, e1, a1, b1, ok1, er1⟩ := draw_ok (b := b + 29) (s := s) h (m := 6) (by decide) (by decide)
  obtain ⟨at_, s2, e2, a2, b2, ok2, er2⟩ := draw_ok (b := b + 28) (s := s1) ok1 (m := 11) (by decide) (by decide)
  obtain ⟨far, s3, e3, a3, b3, ok3, er3⟩ := draw_ok (b := b + 27) (s := s2) ok2 (m := 2) (by decide) (by decide)
  obtain ⟨sn, s4, e4, a4, b4, ok4, er4⟩ := draw_ok (b := b + 26) (s := s3) ok3 (m := 95) (by decide) (by decide)
  obtain ⟨sm, s5, e5, t5, ok5, er5⟩ := any_ok (z := "abcdefghijklmnopqrstuvwxyz") (by decide +kernel) ⟨by decide +kernel, by decide +kernel⟩ (top := 10) (by decide) (by decide) (b := b + 15) (s := s4) (ok4.mono (by omega))
  obtain ⟨fi, s6, e6, t6, ok6, er6⟩ := any_ok (z := "0123456789") (by decide +kernel) ⟨by decide +kernel, by decide +kernel⟩ (top := 8) (by decide) (by decide) (b := b) (s := s5) (ok5.mono (by omega))
  have er : s6.rest = s.rest := by rw [er6, er5, er4, er3, er2, er1]
  obtain ⟨sgs, es, hs1, hs⟩ := signs_def
  obtain ⟨c, hc, ix⟩ := sign_ix hs a4 (by omega : sn < ((cs sgs).length : Int))
  have z11 : (11 : Nat) ≤ sizeLine := by omega
  by_cases w0 : way = 0
  · refine ⟨sm, s6, runF_rt ?_, t5.mono (by decide), ok6, er⟩
    have q : eqD (.int way) (.int 0) = some true := by rw [w0]; rfl
    simp -implicitDefEqProofs [s__law_text, slots0, e1, e2, e3, e4, e5, e6, q]
  have q0 : eqD (.int way) (.int 0) = some false := by rw [eqD_of rfl rfl]; simp [eqq, w0]
  by_cases w1 : way = 1
  · refine ⟨fi, s6, runF_rt ?_, t6.mono (by decide), ok6, er⟩
    have q : eqD (.int way) (.int 1) = some true := by rw [w1]; rfl
    simp -implicitDefEqProofs [s__law_text, slots0, e1, e2, e3, e4, e5, e6, q0, q]
  have q1 : eqD (.int way) (.int 1) = some false := by rw [eqD_of rfl rfl]; simp [eqq, w1]
  by_cases w2 : way = 2
  · have q : eqD (.int way) (.int 2) = some true := by rw [w2]; rfl
    have key : ∀ XS : List Str, XS = (["0", "00", "-0", "-1", "+1", "01", "000001", "1000000", "999999", "", "1_0"] : List Str) → ∃ x, L2.atI (XS.map D.str) at_ = some (.str x) ∧ TxOk x 50 := by
      rintro XS rfl
      obtain ⟨d, hd, hm⟩ := atI_mem (l := (["0", "00", "-0", "-1", "+1", "01", "000001", "1000000", "999999", "", "1_0"] : List Str).map D.str) (i := at_) a2 (by simpa using b2)
      obtain ⟨x, hx, rfl⟩ := List.mem_map.mp hm
      refine ⟨x, hd, ?_⟩
      have : ∀ x ∈ (["0", "00", "-0", "-1", "+1", "01", "000001", "1000000", "999999", "", "1_0"] : List Str), (cs x).length ≤ 50 ∧ ∀ c ∈ cs x, c < 1000 := by decide +kernel
      exact ⟨(this x hx).1, (this x hx).2⟩
    obtain ⟨x, ex, tx⟩ := key _ rfl
    refine ⟨x, s6, runF_rt ?_, tx, ok6, er⟩
    simp only [List.map_cons, List.map_nil] at ex
    simp -implicitDefEqProofs [s__law_text, slots0, e1, e2, e3, e4, e5, e6, q0, q1, q, ex, z11]
  have q2 : eqD (.int way) (.int 2) = some false := by rw [eqD_of rfl rfl]; simp [eqq, w2]
  have key : ∀ x : Str, TxOk x 10 → ∃ a c2 y, slD (.str x) none (some at_) = some (.str a) ∧ slD (.str x) (some (at_ + far)) none = some (.str c2) ∧ addD (.str a) (.str ⟨#[c]⟩) = some (.str (a ++ ⟨#[c]⟩)) ∧ addD (.str (a ++ ⟨#[c]⟩)) (.str c2) = some (.str y) ∧ TxOk y 50 := by
    intro x hx
    obtain ⟨a, ea, ta⟩ := cut_txt hx none (some at_)
    obtain ⟨c2, ec, tc⟩ := cut_txt hx (some (at_ + far)) none
    obtain ⟨p1, p2⟩ := add_txt ta (tx_sg hc) (by decide)
    obtain ⟨p3, p4⟩ := add_txt p2 tc (by decide)
    exact ⟨a, c2, _, ea, ec, p1, p3, p4.mono (by decide)⟩
  by_cases w5 : way < 5
  · obtain ⟨a, c2, y, k1, k2, k3, k4, k5⟩ := key sm t5
    refine ⟨y, s6, runF_rt ?_, k5, ok6, er⟩
    generalize (a ++ (⟨#[c]⟩ : Str)) = AC at *
    simp -implicitDefEqProofs [s__law_text, slots0, e1, e2, e3, e4, e5, e6, q0, q1, q2, w5, es, ix, k1, k2, k3, k4]
  · obtain ⟨a, c2, y, k1, k2, k3, k4, k5⟩ := key fi t6
    refine ⟨y, s6, runF_rt ?_, k5, ok6, er⟩
    generalize (a ++ (⟨#[c]⟩ : Str)) = AC at *
    simp -implicitDefEqProofs [s__law_text, slots0, e1, e2, e3, e4, e5, e6, q0, q1, q2, w5, es, ix, k1, k2, k3, k4]
end L_k02
end
section
set_option Elab.async false
set_option linter.all false
set_option maxRecDepth 100000
set_option maxHeartbeats 4000000
set_option autoImplicit false
namespace L_k02
open PySem PD
/-! ### rows drawn -/
def EL (d : D) : Prop := Good0 d ∧ Pl d
structure Rw (l : List D) (n : Nat) : Prop where
  ln : l.length ≤ n
  el : ∀ d ∈ l, EL d
theorem el_str {x : Str} {n : Nat} (h : TxOk x n) (hn : n ≤ 10000) : EL (.str x) := ⟨.inl ⟨x, rfl, Nat.le_trans h.ln hn⟩, rfl, by simp [dep]⟩
theorem Rw.cut {l : List D} {n : Nat} (h : Rw l n) (lo hi : Option Int) : Rw (cutL l lo hi) n := by
  refine ⟨Nat.le_trans (cutL_len l lo hi) h.ln, fun d hd => h.el d ?_⟩
  unfold cutL at hd
  exact List.mem_of_mem_drop (List.mem_of_mem_take hd)
theorem Rw.app {a b : List D} {n m : Nat} (h : Rw a n) (k : Rw b m) : Rw (a ++ b) (n + m) := ⟨by rw [List.length_append]; have := h.ln; have := k.ln; omega, fun d hd => by
  rcases List.mem_append.mp hd with q | q
  · exact h.el d q
  · exact k.el d q⟩
theorem Rw.mono {l : List D} {n m : Nat} (h : Rw l n) (k : n ≤ m) : Rw l m := ⟨Nat.le_trans h.ln k, h.el⟩
theorem Rw.rev {l : List D} {n : Nat} (h : Rw l n) : Rw l.reverse n := ⟨by rw [List.length_reverse]; exact h.ln, fun d hd => h.el d (List.mem_reverse.mp hd)⟩
theorem Rw.row {l : List D} (h : Rw l 100) : Row l := ⟨fun d hd => (h.el d hd).1, fun d hd => (h.el d hd).2, h.ln⟩
theorem add_rw {a b : List D} {n m : Nat} (h : Rw a n) (k : Rw b m) (hz : n + m ≤ 1000) : addD (.lst a) (.lst b) = some (.lst (a ++ b)) := by
  show szD (a.length + b.length) _ = _
  have := h.ln
  have := k.ln
  exact szD_ok (by rw [sizeLine_eq]; omega)
theorem rep_rw {a : List D} {n : Nat} (h : Rw a n) (hn : n ≤ 100) : repA 2 a = some (a ++ a) := by
  unfold repA
  have := h.ln
  rw [if_pos ⟨by rw [sizeLine_eq]; show a.length * 2 ≤ _; omega, by decide, by decide⟩]
  show some [a, a].flatten = _
  simp
theorem isoD_strs (xs : List Str) : isoD (xs.map D.str) = (sortS xs).map D.str := by
  rw [isoD_eq, isoG_map (lt := ltS) D.str (fun x y => rfl)]
  rfl
theorem names_ok {xs : List Str} {n k : Nat} (hx : ∀ x ∈ xs, TxOk x n) (hn : n ≤ 10000) (hk : xs.length ≤ k) (hk2 : k < 60) : ∃ l, srtT (.lst (xs.map .str)) = some (.lst l) ∧ Rw l k := by
  have hl2 : (insAll xs).length ≤ xs.length := by
    have := insAll_len xs []
    unfold insAll
    simpa using this
  refine ⟨isoD ((insAll xs).map .str), ?_, ?_, ?_⟩
  · show ((strsD (xs.map D.str)).bind fun xs => if xs.length < 60 then some (D.lst (isoD ((insAll xs).map D.str))) else none) = _
    rw [strsD_map, Option.bind_some, if_pos (by omega)]
  · rw [isoD_strs, List.length_map, (sortS_perm _).length_eq]
    omega
  · rw [isoD_strs]
    intro d hd
    obtain ⟨x, hx', rfl⟩ := List.mem_map.mp hd
    have := (sortS_perm _).mem_iff.mp hx'
    have h2 := (insAll_mem xs [] x).mp this
    rcases h2 with h2 | h2
    · exact absurd h2 (by simp)
    · exact el_str (hx x h2) hn
theorem isi_lst (l : List D) : isiD .str (.lst l) = some false := rfl
theorem row_ok {T : List D} (hT1 : 1 ≤ T.length) (hT : ∀ d ∈ T, TxD 50 d) {s : Dr} {b : Nat} (h : s.Ok (b + 60)) : ∃ (v : D) (l : List D) (s' : Dr), F__law_row [.hd 1, .lst T] s.g = some (v, s'.g) ∧ Rw l 50 ∧ (v = .tup l ∨ v = .lst l) ∧ s'.Ok b ∧ s'.rest = s.rest := by
  have sz := sizeLine_eq
  obtain ⟨way, s1, e1, a1, b1, ok1, er1⟩ := draw_ok (b := b + 59) (s := s) h (m := 8) (by decide) (by decide)
  obtain ⟨size, s2, e2, a2, b2, ok2, er2⟩ := draw_ok (b := b + 58) (s := s1) ok1 (m := 6) (by decide) (by decide)
  obtain ⟨at_, s3, e3, a3, b3, ok3, er3⟩ := draw_ok (b := b + 57) (s := s2) ok2 (m := 6) (by decide) (by decide)
  have rg := rg1 (r := size) a2 (by omega)
  have ts : TxOk "abcxyz" 200 := ⟨by decide +kernel, by decide +kernel⟩
  have ls : ((cs "abcxyz").length : Int) = 6 := by decide +kernel
  have inner : ∀ d, ∃ ρ', bName 8 d [some (.d (.hd 1)), some (.d (.lst T)), some (.d (.int way)), some (.d (.int size)), some (.d (.int at_)), none, none, none, none, none] = some ρ' ∧ ∀ (s : Dr) (b : Nat), s.Ok (b + 9) → ∃ (v : D) (s' : Dr), (eJoin (eC (.str "")) (eO (eLcA [9] (aIt range1M (aCons (eOp addD (eC (.int 1)) (eCall F__law_draw (aCons (eVar 0) (aCons (eC (.int 8)) aNil)))) aNil)) (bName 9) tYesD (eIx (eC (.str "abcxyz")) (eCall F__law_draw (aCons (eVar 0) (aCons (eC (.int 6)) aNil))))))) ρ' s.g = some (v, s'.g) ∧ TxD 8 v ∧ s'.Ok b ∧ s'.rest = s.rest := by
    intro d
    refine ⟨_, rfl, fun s b h => ?_⟩
    obtain ⟨r, s1, e1, r1, r2, ok1, er1⟩ := draw_ok (b := b + 8) (s := s) h (m := 8) (by decide) (by decide)
    have rg := rg1 (r := 1 + r) (by omega) (by omega)
    obtain ⟨l, s2, e2, l2, p2, ok2, er2⟩ := lc_draw (P := TxD 1) (n := 1) (bd := bName 9) (e := eIx (eC (.str "abcxyz")) (eCall F__law_draw (aCons (eVar 0) (aCons (eC (.int 6)) aNil)))) (ρ := [some (.d (.hd 1)), some (.d (.lst T)), some (.d (.int way)), some (.d (.int size)), some (.d (.int at_)), none, none, none, some (.d d), none]) (fun d => ⟨_, rfl, fun s b h => by
      obtain ⟨r, s1, e1, r1, r2, ok1, er1⟩ := draw_ok (b := b) (s := s) h (m := 6) (by decide) (by decide)
      obtain ⟨c, hc, ix⟩ := sign_ix ts r1 (by omega)
      exact ⟨_, s1, by simp -implicitDefEqProofs [setR, e1, ix], ⟨_, rfl, tx_sg hc⟩, ok1, er1⟩⟩) (rangeD 0 (1 + r).toNat) (s := s1) (b := b) (ok1.mono (by rw [rangeD_length]; omega))
    rw [rangeD_length] at l2
    obtain ⟨y, ey, hy⟩ := joinOf (k := 8) p2 (by omega) (by decide)
    refine ⟨.str y, s2, ?_, ⟨y, rfl, hy⟩, ok2, er2.trans er1⟩
    have lz : l.length ≤ sizeLine := by omega
    generalize rangeD 0 (1 + r).toNat = RG at *
    simp -implicitDefEqProofs [setR, e1, rg, e2, lz, ey]
  obtain ⟨l, s4, e4, l4, p4, ok4, er4⟩ := lc_draw (P := TxD 8) (n := 9) inner (rangeD 0 size.toNat) (s := s3) (b := b + 12) (ok3.mono (by rw [rangeD_length]; omega))
  rw [rangeD_length] at l4
  obtain ⟨xs, rfl, hxs⟩ := txs_of p4
  obtain ⟨N, eN, hN⟩ := names_ok hxs (by decide) (k := 5) (by rw [List.length_map] at l4; omega) (by decide)
  have hS : Rw (xs.map D.str) 5 := ⟨by omega, fun d hd => by
    obtain ⟨x, hx, rfl⟩ := List.mem_map.mp hd
    exact el_str (hxs x hx) (by decide)⟩
  have er : s4.rest = s.rest := by rw [er4, er3, er2, er1]
  have lz : (xs.map D.str).length ≤ sizeLine := by have := hS.ln; omega
  have hc1 := hN.cut none (some at_)
  have hc2 := hN.cut (some at_) (some (at_ + 1))
  have hc3 := hN.cut (some (at_ + 1)) none
  have hc4 := hN.cut (some at_) none
  have sl1 : ∀ lo hi, slD (.lst N) lo hi = some (.lst (cutL N lo hi)) := fun _ _ => rfl
  have tp : ∀ l, tupleD [.lst l] = some (.tup l) := fun _ => rfl
  have rv : revD (.lst N) = some N.reverse := rfl
  have z8 : (8 : Nat) ≤ sizeLine := by omega
  have z1 : (1 : Nat) ≤ sizeLine := by omega
  generalize hXS : xs.map D.str = XS at *
  generalize rangeD 0 size.toNat = RG at *
  by_cases w0 : way < 2
  · refine ⟨_, N, s4, runF_rt ?_, hN.mono (by decide), .inl rfl, ok4.mono (by omega), er⟩
    simp -implicitDefEqProofs [s__law_row, slots0, e1, e2, e3, rg, e4, lz, eN, w0, tp]
  by_cases w2 : way = 2
  · have q : eqD (.int way) (.int 2) = some true := by rw [w2]; rfl
    refine ⟨_, XS, s4, runF_rt ?_, hS.mono (by decide), .inl rfl, ok4.mono (by omega), er⟩
    simp -implicitDefEqProofs [s__law_row, slots0, e1, e2, e3, rg, e4, lz, eN, w0, tp, q]
  have q2 : eqD (.int way) (.int 2) = some false := by rw [eqD_of rfl rfl]; simp [eqq, w2]
  by_cases w3 : way = 3
  · have q : eqD (.int way) (.int 3) = some true := by rw [w3]; rfl
    have rp := rep_rw hc2 (by decide)
    have p1 := add_rw hc1 (hc2.app hc2) (by decide)
    have p2 := add_rw (hc1.app (hc2.app hc2)) hc3 (by decide)
    have zr : (cutL N (some at_) (some (at_ + 1)) ++ cutL N (some at_) (some (at_ + 1))).length ≤ sizeLine := by have := (hc2.app hc2).ln; omega
    refine ⟨_, _, s4, runF_rt ?_, ((hc1.app (hc2.app hc2)).app hc3).mono (by decide), .inl rfl, ok4.mono (by omega), er⟩
    generalize cutL N (some at_) (some (at_ + 1)) ++ cutL N (some at_) (some (at_ + 1)) = R2 at *
    generalize cutL N none (some at_) ++ R2 = R3 at *
    generalize R3 ++ cutL N (some (at_ + 1)) none = R4 at *
    simp -implicitDefEqProofs [s__law_row, slots0, e1, e2, e3, rg, e4, lz, eN, w0, tp, q2, q, sl1, rp, p1, p2, zr]
  have q3 : eqD (.int way) (.int 3) = some false := by rw [eqD_of rfl rfl]; simp [eqq, w3]
  by_cases w4 : way = 4
  · have q : eqD (.int way) (.int 4) = some true := by rw [w4]; rfl
    have zr : N.reverse.length ≤ sizeLine := by have := hN.rev.ln; omega
    refine ⟨_, N.reverse, s4, runF_rt ?_, hN.rev.mono (by decide), .inl rfl, ok4.mono (by omega), er⟩
    generalize N.reverse = NR at *
    simp -implicitDefEqProofs [s__law_row, slots0, e1, e2, e3, rg, e4, lz, eN, w0, tp, q2, q3, q, rv, zr]
  have q4 : eqD (.int way) (.int 4) = some false := by rw [eqD_of rfl rfl]; simp [eqq, w4]
  by_cases w5 : way = 5
  · have q : eqD (.int way) (.int 5) = some true := by rw [w5]; rfl
    obtain ⟨t0, T', rfl⟩ : ∃ t0 T', T = t0 :: T' := by
      cases T with
      | nil => simp at hT1
      | cons t0 T' => exact ⟨_, _, rfl⟩
    obtain ⟨x0, rfl, hx0⟩ := hT t0 List.mem_cons_self
    obtain ⟨r, s5, e5, a5, b5, ok5, er5⟩ := draw_ok (b := b) (s := s4) (ok4.mono (by omega)) (m := 8) (by decide) (by decide)
    have i0 : L2.atI (D.str x0 :: T') 0 = some (.str x0) := by
      rw [atI_of (by decide) (by simp)]
      rfl
    have key : ∃ o, L2.atI [D.non, .int 5, .str "", .bl true, .tup [.str "a"], .str x0, .str "A", .str "abcdefghi"] r = some o ∧ EL o := by
      obtain ⟨o, ho, hm⟩ := atI_mem (l := [D.non, .int 5, .str "", .bl true, .tup [.str "a"], .str x0, .str "A", .str "abcdefghi"]) (i := r) a5 (by simpa using b5)
      refine ⟨o, ho, ?_⟩
      simp only [List.mem_cons, List.not_mem_nil, or_false] at hm
      rcases hm with rfl | rfl | rfl | rfl | rfl | rfl | rfl | rfl
      · exact ⟨.inr rfl, rfl, by simp [dep]⟩
      · exact ⟨.inr rfl, rfl, by simp [dep]⟩
      · exact el_str (n := 50) ⟨by decide +kernel, by decide +kernel⟩ (by decide)
      · exact ⟨.inr rfl, rfl, by simp [dep]⟩
      · exact ⟨.inr rfl, rfl, by simp [dep, depA]⟩
      · exact el_str hx0 (by decide)
      · exact el_str (n := 50) ⟨by decide +kernel, by decide +kernel⟩ (by decide)
      · exact el_str (n := 50) ⟨by decide +kernel, by decide +kernel⟩ (by decide)
    obtain ⟨o, eo, ho⟩ := key
    have h1 : Rw [o] 1 := ⟨by simp, fun d hd => by rw [List.mem_singleton.mp hd]; exact ho⟩
    have p1 := add_rw hc1 h1 (by decide)
    have p2 := add_rw (hc1.app h1) hc4 (by decide)
    refine ⟨_, _, s5, runF_rt ?_, ((hc1.app h1).app hc4).mono (by decide), .inl rfl, ok5, er5.trans er⟩
    generalize cutL N none (some at_) ++ [o] = R3 at *
    generalize R3 ++ cutL N (some at_) none = R4 at *
    simp -implicitDefEqProofs [s__law_row, slots0, e1, e2, e3, rg, e4, lz, eN, w0, tp, q2, q3, q4, q, sl1, e5, i0, eo, z8, z1, p1, p2]
  have q5 : eqD (.int way) (.int 5) = some false := by rw [eqD_of rfl rfl]; simp [eqq, w5]
  by_cases w6 : way = 6
  · have q : eqD (.int way) (.int 6) = some true := by rw [w6]; rfl
    refine ⟨_, N, s4, runF_rt ?_, hN.mono (by decide), .inr rfl, ok4.mono (by omega), er⟩
    simp -implicitDefEqProofs [s__law_row, slots0, e1, e2, e3, rg, e4, lz, eN, w0, tp, q2, q3, q4, q5, q]
  have q6 : eqD (.int way) (.int 6) = some false := by rw [eqD_of rfl rfl]; simp [eqq, w6]
  have p1 := add_rw hc4 hc1 (by decide)
  refine ⟨_, _, s4, runF_rt ?_, (hc4.app hc1).mono (by decide), .inl rfl, ok4.mono (by omega), er⟩
  generalize cutL N (some at_) none ++ cutL N none (some at_) = R4 at *
  simp -implicitDefEqProofs [s__law_row, slots0, e1, e2, e3, rg, e4, lz, eN, w0, tp, q2, q3, q4, q5, q6, sl1, p1]
end L_k02
end
section
set_option Elab.async false
set_option linter.all false
set_option maxRecDepth 100000
set_option maxHeartbeats 4000000
set_option autoImplicit false
namespace L_k02
open PySem PD
theorem isWhole_ok (i lo hi : Int) (g : G) : F_is_whole [.int i, .int lo, .int hi] g = some (.bl (decide (lo ≤ i) && decide (i ≤ hi)), g) := by
  refine runF_rt ?_
  by_cases h : lo ≤ i
  · simp [s_is_whole, slots0, isiD, h]
  · simp [s_is_whole, slots0, isiD, h]
/-- no whole number -/
def NoW (d : D) : Prop := isiD .int d = some false ∨ (isiD .int d = some true ∧ isiD .bool d = some true)
theorem isWhole_non {d : D} (h : NoW d) (lo hi : D) (g : G) : F_is_whole [d, lo, hi] g = some (.bl false, g) := by
  refine runF_rt ?_
  rcases h with h | ⟨h, h2⟩
  · simp -implicitDefEqProofs [s_is_whole, slots0, h]
  · simp -implicitDefEqProofs [s_is_whole, slots0, h, h2]
theorem wholeRight_ok {d : D} (hd : NoW d) {s : Dr} {b : Nat} (h : s.Ok (b + 3)) : ∃ s' : Dr, F__law_whole_right [.hd 1, d] s.g = some (.bl true, s'.g) ∧ s'.Ok b ∧ s'.rest = s.rest := by
  have sz := sizeLine_eq
  obtain ⟨lea, s1, e1, a1, b1, ok1, er1⟩ := draw_ok (b := b + 2) (s := s) h (m := 2000) (by decide) (by decide)
  obtain ⟨sp, s2, e2, a2, b2, ok2, er2⟩ := draw_ok (b := b + 1) (s := s1) ok1 (m := 4) (by decide) (by decide)
  obtain ⟨way, s3, e3, a3, b3, ok3, er3⟩ := draw_ok (b := b) (s := s2) ok2 (m := 6) (by decide) (by decide)
  obtain ⟨x, hx, hm⟩ := atI_mem (l := ([0, 1, 9, 1000000000000000000] : List Int).map D.int) (i := sp) a2 (by simpa using b2)
  obtain ⟨n, _, rfl⟩ := List.mem_map.mp hm
  obtain ⟨y, hy, hm2⟩ := atI_mem (l := ([-1, 0, 1, n, n + 1, n / 2] : List Int).map D.int) (i := way) a3 (by simpa using b3)
  obtain ⟨k, _, rfl⟩ := List.mem_map.mp hm2
  simp only [List.map_cons, List.map_nil] at hx hy
  have fd := dFdiv_ok n 2 (by decide) (by decide)
  have z6 : (6 : Nat) ≤ sizeLine := by omega
  have z4 : (4 : Nat) ≤ sizeLine := by omega
  have z3 : (3 : Nat) ≤ sizeLine := by omega
  refine ⟨s3, runF_rt ?_, ok3, by rw [er3, er2, er1]⟩
  generalize hL : lea - 1000 = L at *
  have w1 := isWhole_ok (L + k) L (L + n) s3.g
  have w2 := isWhole_non hd (.int (0 - 5)) (.int 5) s3.g
  have w3 := isWhole_ok (L + k) (L + k + 1) (L + k) s3.g
  have w3' : (decide (L + k + 1 ≤ L + k) && decide (L + k ≤ L + k)) = false := by
    rw [decide_eq_false (by omega)]
    rfl
  rw [w3'] at w3
  have rp : ∀ B : Bool, ∃ S, reprD [.lst [.bl B, .bl false, .bl false]] = some (.str S) ∧ eqD (.str S) (.str S) = some true := fun B => ⟨_, reprD_of (by cases B <;> rfl) (by cases B <;> rfl) (by cases B <;> decide +kernel), eqS_self _⟩
  have m1 : (0 : Int) - 1 = -1 := rfl
  have m5 : (0 : Int) - 5 = -5 := rfl
  rw [m5] at w2
  generalize hA : L + k = A at *
  generalize hT : L + n = T at *
  obtain ⟨S, r1, r2⟩ := rp (decide (L ≤ A) && decide (A ≤ T))
  by_cases d1 : L ≤ A
  · by_cases d2 : A ≤ T
    · simp only [d1, d2, decide_true, Bool.and_true] at w1 r1
      simp -implicitDefEqProofs [s__law_whole_right, slots0, e1, e2, e3, hL, hx, hy, fd, z6, z4, z3, hA, hT, w1, w2, w3, d1, d2, r1, r2]
    · simp only [d1, d2, decide_true, decide_false, Bool.and_false] at w1 r1
      simp -implicitDefEqProofs [s__law_whole_right, slots0, e1, e2, e3, hL, hx, hy, fd, z6, z4, z3, hA, hT, w1, w2, w3, d1, d2, r1, r2]
  · simp only [d1, decide_false, Bool.false_and] at w1 r1
    simp -implicitDefEqProofs [s__law_whole_right, slots0, e1, e2, e3, hL, hx, hy, fd, z6, z4, z3, hA, hT, w1, w2, w3, d1, r1, r2]
/-! ### a thing, both ways -/
def Th (v : D) : Prop := Good0 v ∧ (isiD .tup v = some false ∨ ∃ l, v = .tup l ∧ Row l)
theorem numD_sh (x : Str) (b1 b2 : Bool) : ∃ S, reprD [.lst [.bl b1, .bl b2, numD x]] = some (.str S) := by
  unfold numD
  split
  · rename_i h
    obtain ⟨_, l2, ad⟩ := of_six h.1
    have vl := val_lt ad
    have v6 : NumText.digitsVal (cs x) < 1000000 := by
      have : 10 ^ (cs x).length ≤ 10 ^ 6 := Nat.pow_le_pow_right (by decide) l2
      omega
    generalize NumText.digitsVal (cs x) = n at *
    have hl : ((n : Int).natAbs).log2 < 20 := by
      have : ((n : Int).natAbs) = n := by omega
      rw [this]
      by_cases h0 : n = 0
      · subst h0; decide
      · exact (Nat.log2_lt h0).2 (by omega)
    refine ⟨_, reprD_of ?_ ?_ ?_⟩
    · rfl
    · simp only [shB, shBA, Bool.true_and, Bool.and_true]
      exact decide_eq_true (by omega)
    · simp only [shW, shWA]
      omega
  · exact ⟨_, reprD_of rfl rfl (by cases b1 <;> cases b2 <;> decide +kernel)⟩
theorem thing_ok {v : D} (h : Th v) (g : G) : ∃ (b1 b2 : Bool) (d : D) (S : Str), F_is_name [v] g = some (.bl b1, g) ∧ F__law_is_name [v] g = some (.bl b1, g) ∧ F_is_rising [v] g = some (.bl b2, g) ∧ F__law_is_rising [v] g = some (.bl b2, g) ∧ F_number_in [v] g = some (d, g) ∧ F__law_number [v] g = some (d, g) ∧ reprD [.lst [.bl b1, .bl b2, d]] = some (.str S) := by
  obtain ⟨hg, ht⟩ := h
  have hr : ∃ b2, F_is_rising [v] g = some (.bl b2, g) ∧ F__law_is_rising [v] g = some (.bl b2, g) := by
    rcases ht with ht | ⟨l, rfl, hl⟩
    · exact ⟨false, rising_non ht g⟩
    · exact rising_ok hl g
  obtain ⟨b2, r1, r2⟩ := hr
  have hn : ∃ d, F_number_in [v] g = some (d, g) ∧ F__law_number [v] g = some (d, g) ∧ ∀ b1 b2, ∃ S, reprD [.lst [.bl b1, .bl b2, d]] = some (.str S) := by
    rcases hg with ⟨x, rfl, hl⟩ | h
    · exact ⟨numD x, numberIn_ok hl g, lawNumber_ok hl g, numD_sh x⟩
    · exact ⟨.non, numberIn_non h g, lawNumber_non h g, fun b1 b2 => ⟨_, reprD_of rfl rfl (by cases b1 <;> cases b2 <;> decide +kernel)⟩⟩
  obtain ⟨d, n1, n2, n3⟩ := hn
  obtain ⟨S, hS⟩ := n3 (nm v) b2
  exact ⟨nm v, b2, d, S, isName_ok hg g, lawName_ok hg g, r1, r2, n1, n2, hS⟩
theorem th_str {x : Str} (h : (cs x).length ≤ 10000) : Th (.str x) := ⟨.inl ⟨x, rfl, h⟩, .inl rfl⟩
theorem th_non {d : D} (h : isiD .str d = some false) (h2 : isiD .tup d = some false) : Th d := ⟨.inr h, .inl h2⟩
theorem th_tup {l : List D} (h : Row l) : Th (.tup l) := ⟨.inr rfl, .inr ⟨l, rfl, h⟩⟩
theorem row1 {d : D} (h : EL d) : Row [d] := ⟨fun e he => by rw [List.mem_singleton.mp he]; exact h.1, fun e he => by rw [List.mem_singleton.mp he]; exact h.2, by simp⟩
theorem row0 : Row [] := ⟨fun _ h => absurd h (by simp), fun _ h => absurd h (by simp), by simp⟩
theorem fold_mem (a : Array Nat) {c : Nat} : ∀ (n : Nat) (acc : Array Nat), c ∈ ((List.replicate n a).foldl (· ++ ·) acc).toList → c ∈ acc.toList ∨ c ∈ a.toList
  | 0, acc, h => .inl h
  | n + 1, acc, h => by
    rw [List.replicate_succ, List.foldl_cons] at h
    rcases fold_mem a n (acc ++ a) h with h | h
    · rw [Array.toList_append, List.mem_append] at h
      exact h
    · exact .inr h
theorem nines : mulSD (.str "9") (.int 5000) = some (.str (repS "9" 5000)) ∧ (cs (repS "9" 5000)).length ≤ 10000 := by
  have hl : (repS "9" 5000).length = 5000 := by
    rw [repS_len]
    rfl
  refine ⟨?_, by rw [cs_len, hl]; decide⟩
  have so : sOk (repS "9" 5000) = true := by
    refine sOk_mk (strOk_iff.mpr fun c hc => ?_) (by rw [hl, sizeLine_eq]; decide)
    have := fold_mem (Str.ofString "9").cps (c := c) 5000 #[] hc
    rcases this with h | h
    · exact absurd h (by simp)
    · have e : (Str.ofString "9").cps.toList = [57] := by decide +kernel
      rw [e] at h
      have := List.mem_singleton.mp h
      subst this
      decide +kernel
  show (if (2 : Int) ≤ 5000 ∧ (5000 : Int) ≤ 10000 ∧ 1 ≤ Str.length "9" ∧ Str.length "9" ≤ 100 ∧ sOk (repS "9" 5000) = true then some (D.str (repS "9" 5000)) else none) = _
  rw [if_pos ⟨by decide, by decide, by decide +kernel, by decide +kernel, so⟩]
end L_k02
end
section
set_option Elab.async false
set_option linter.all false
set_option maxRecDepth 100000
set_option maxHeartbeats 4000000
set_option autoImplicit false
namespace L_k02
open PySem PD
noncomputable def thBody : S := (sSeq (sSet 6 (eLst (aCons (eCall F_is_name (aCons (eVar 5) aNil)) (aCons (eCall F_is_rising (aCons (eVar 5) aNil)) (aCons (eCall F_number_in (aCons (eVar 5) aNil)) aNil)))))
  (sIf (tCmp neD (eBi reprD (aCons (eVar 6) aNil)) (eBi reprD (aCons (eLst (aCons (eCall F__law_is_name (aCons (eVar 5) aNil)) (aCons (eCall F__law_is_rising (aCons (eVar 5) aNil)) (aCons (eCall F__law_number (aCons (eVar 5) aNil)) aNil)))) aNil))) (sRet (eC (.bl false))) sNil))
noncomputable def whBody : S := (sIf (tNot (tE (eCall F__law_whole_right (aCons (eVar 1) (aCons (eVar 5) aNil))))) (sRet (eC (.bl false))) sNil)
noncomputable def lastS : S := (sRet (eCmp eqD (eBi reprD (aCons (eLst (aCons (eC (.int 600)) (aCons (eC (.int 20)) (aCons (eC (.int 20)) (aCons (eC (.int 300)) aNil))))) aNil)) (eC (.str "[600, 20, 20, 300]"))))
noncomputable def oddE : E := (eLst (aCons (eC .non) (aCons (eC (.bl true)) (aCons (eC (.bl false)) (aCons (eC (.int 5)) (aCons (eC (.int 0)) (aCons (eTup (aCons (eC (.str "a")) aNil)) (aCons (eLst (aCons (eC (.str "a")) aNil)) (aCons (eKd eK0) (aCons (eTup aNil) (aCons (eLst aNil) (aCons (eTup (aCons (eC (.str "1")) aNil)) (aCons (eKd (eDisp (pCons (eC (.str "a")) (eC (.str "b")) pNil))) (aCons (eOp dPow (eC (.int 10)) (eC (.int 18))) (aCons (eC (.str "a\n")) (aCons (eC (.str "\n")) (aCons (eTup (aCons (eTup aNil) aNil)) aNil)))))))))))))))))
noncomputable def moreE : E := (eLst (aCons (eTup (aCons (eTup (aCons (eC (.str "a")) aNil)) aNil)) (aCons (eC (.str "1\n")) (aCons (eOp mulSD (eC (.str "9")) (eC (.int 5000))) aNil))))
noncomputable def wholeE : E := (eLst (aCons (eC .non) (aCons (eC (.bl true)) (aCons (eC (.bl false)) (aCons (eC (.str "1")) (aCons (eTup (aCons (eC (.int 1)) aNil)) (aCons (eLst aNil) (aCons (eKd eK0) (aCons (eIx (eVar 2) (eC (.int 0))) aNil)))))))))
theorem law_eq : s_law = (sSeq (sSet 1 (eCall F__law_begun (aCons (eVar 0) aNil)))
  (sSeq (sSet 2 (eO (eLcA [7] (aIt range1M (aCons (eC (.int 16)) aNil)) (bName 7) tYesD (eCall F__law_text (aCons (eVar 1) aNil)))))
  (sSeq (sSet 3 (eO (eLcA [7] (aIt range1M (aCons (eC (.int 8)) aNil)) (bName 7) tYesD (eCall F__law_row (aCons (eVar 1) (aCons (eVar 2) aNil))))))
  (sSeq (sSet 4 oddE)
  (sSeq (sFor (aItem (eOp addD (eOp addD (eOp addD (eOp addD (eVar 2) (eVar 3)) (eVar 4)) moreE) (eO (aRev (eVar 2))))) (bName 5) thBody)
  (sSeq (sFor (aItem wholeE) (bName 5) whBody) lastS)))))) := rfl
theorem odd_ok : ∃ l : List D, (∀ ρ g, oddE ρ g = some (.lst l, g)) ∧ l.length ≤ 100 ∧ ∀ d ∈ l, Th d := by
  have sz := sizeLine_eq
  have z0 : (0 : Nat) ≤ sizeLine := by omega
  have z1 : (1 : Nat) ≤ sizeLine := by omega
  have z16 : (16 : Nat) ≤ sizeLine := by omega
  have kd : keysD [.str "a"] = some [.inr "a"] := rfl
  have sa : EL (.str "a") := el_str (n := 50) ⟨by decide +kernel, by decide +kernel⟩ (by decide)
  have s1 : EL (.str "1") := el_str (n := 50) ⟨by decide +kernel, by decide +kernel⟩ (by decide)
  refine ⟨[.non, .bl true, .bl false, .int 5, .int 0, .tup [.str "a"], .lst [.str "a"], .dk [] [], .tup [], .lst [], .tup [.str "1"], .dk (mergeD ([], []) [.inr "a"] [.str "b"]).1 (mergeD ([], []) [.inr "a"] [.str "b"]).2, .int 1000000000000000000, .str "a\n", .str "\n", .tup [.tup []]], ?_, by simp, ?_⟩
  · intro ρ g
    simp -implicitDefEqProofs [oddE, z0, z1, z16, kd]
  · intro d hd
    simp only [List.mem_cons, List.not_mem_nil, or_false] at hd
    rcases hd with rfl | rfl | rfl | rfl | rfl | rfl | rfl | rfl | rfl | rfl | rfl | rfl | rfl | rfl | rfl | rfl
    · exact th_non rfl rfl
    · exact th_non rfl rfl
    · exact th_non rfl rfl
    · exact th_non rfl rfl
    · exact th_non rfl rfl
    · exact th_tup (row1 sa)
    · exact th_non rfl rfl
    · exact th_non rfl rfl
    · exact th_tup row0
    · exact th_non rfl rfl
    · exact th_tup (row1 s1)
    · exact th_non rfl rfl
    · exact th_non rfl rfl
    · exact th_str (by decide +kernel)
    · exact th_str (by decide +kernel)
    · exact th_tup (row1 ⟨.inr rfl, rfl, by simp [dep, depA]⟩)
theorem more_ok : ∃ l : List D, (∀ ρ g, moreE ρ g = some (.lst l, g)) ∧ l.length ≤ 100 ∧ ∀ d ∈ l, Th d := by
  have sz := sizeLine_eq
  have z1 : (1 : Nat) ≤ sizeLine := by omega
  have z3 : (3 : Nat) ≤ sizeLine := by omega
  obtain ⟨n1, n2⟩ := nines
  generalize repS "9" 5000 = NS at *
  refine ⟨[.tup [.tup [.str "a"]], .str "1\n", .str NS], ?_, by simp, ?_⟩
  · intro ρ g
    simp -implicitDefEqProofs [moreE, z1, z3, n1]
  · intro d hd
    simp only [List.mem_cons, List.not_mem_nil, or_false] at hd
    rcases hd with rfl | rfl | rfl
    · exact th_tup (row1 ⟨.inr rfl, rfl, by simp [dep, depA]⟩)
    · exact th_str (by decide +kernel)
    · exact th_str n2
theorem add_lst {a b : List D} {n m : Nat} (h : a.length ≤ n) (k : b.length ≤ m) (hz : n + m ≤ 1000) : addD (.lst a) (.lst b) = some (.lst (a ++ b)) := by
  show szD (a.length + b.length) _ = _
  exact szD_ok (by rw [sizeLine_eq]; omega)
theorem last_ok (ρ : Rho) (g : G) : lastS ρ g = some (.rt (.bl true), g) := by
  have sz := sizeLine_eq
  have z4 : (4 : Nat) ≤ sizeLine := by omega
  have r : reprD [.lst [.int 600, .int 20, .int 20, .int 300]] = some (.str (shows (.lst [.int 600, .int 20, .int 20, .int 300]))) := reprD_of rfl (by decide +kernel) (by decide +kernel)
  have e : shows (.lst [.int 600, .int 20, .int 20, .int 300]) = "[600, 20, 20, 300]" := by decide +kernel
  rw [e] at r
  have q := eqS_self "[600, 20, 20, 300]"
  simp -implicitDefEqProofs [lastS, z4, r, q]
theorem plain (ns : List Int) (h : ns.length ≤ 63) : ∃ g', F_law [.lst (ns.map D.int)] [] = some (.bl true, g') := by
  have key : Wp (F_law [.lst (ns.map D.int)] []) fun d _ => d = .bl true := by
    refine wp_runF ?_
    have sz := sizeLine_eq
    have z8 : (8 : Nat) ≤ sizeLine := by omega
    have z1 : (1 : Nat) ≤ sizeLine := by omega
    have z0 : (0 : Nat) ≤ sizeLine := by omega
    have z3 : (3 : Nat) ≤ sizeLine := by omega
    obtain ⟨s0, e0, ok0, _⟩ := begun_ok h
    have rg16 := rg1 (r := 16) (by decide) (by decide)
    have rg8 := rg1 (r := 8) (by decide) (by decide)
    obtain ⟨od, eo, lo, ho⟩ := odd_ok
    obtain ⟨mo, em, lm, hm⟩ := more_ok
    generalize hS : ns.map D.int = SC at *
    obtain ⟨T, s1, e1, l1, p1, ok1, er1⟩ := lc_draw (P := TxD 50) (n := 30) (bd := bName 7) (e := eCall F__law_text (aCons (eVar 1) aNil)) (ρ := [some (.d (.lst SC)), some (.d (.hd 1)), none, none, none, none, none, none]) (fun d => ⟨_, rfl, fun s b h => by
      obtain ⟨x, s', e, t, ok, er⟩ := text_ok h
      exact ⟨.str x, s', by simp -implicitDefEqProofs [setR, e], ⟨x, rfl, t⟩, ok, er⟩⟩) (rangeD 0 (16 : Int).toNat) (s := s0) (b := 10000) (ok0.mono (by rw [rangeD_length]; decide))
    rw [rangeD_length] at l1
    have l1 : T.length = 16 := l1
    obtain ⟨R, s2, e2, l2, p2, ok2, er2⟩ := lc_draw (P := fun v => ∃ l, Rw l 50 ∧ (v = .tup l ∨ v = .lst l)) (n := 60) (bd := bName 7) (e := eCall F__law_row (aCons (eVar 1) (aCons (eVar 2) aNil))) (ρ := [some (.d (.lst SC)), some (.d (.hd 1)), some (.d (.lst T)), none, none, none, none, none]) (fun d => ⟨_, rfl, fun s b h => by
      obtain ⟨v, l, s', e, hl, hv, ok, er⟩ := row_ok (T := T) (by omega) p1 h
      exact ⟨v, s', by simp -implicitDefEqProofs [setR, e], ⟨l, hl, hv⟩, ok, er⟩⟩) (rangeD 0 (8 : Int).toNat) (s := s1) (b := 100) (ok1.mono (by rw [rangeD_length]; decide))
    rw [rangeD_length] at l2
    have l2 : R.length = 8 := l2
    have lT : T.length ≤ sizeLine := by omega
    have lR : R.length ≤ sizeLine := by omega
    have q1 := add_lst (a := T) (b := R) (n := 16) (m := 8) (by omega) (by omega) (by decide)
    have q2 := add_lst (a := T ++ R) (b := od) (n := 24) (m := 100) (by rw [List.length_append]; omega) lo (by decide)
    have q3 := add_lst (a := T ++ R ++ od) (b := mo) (n := 124) (m := 100) (by rw [List.length_append, List.length_append]; omega) lm (by decide)
    have q4 := add_lst (a := T ++ R ++ od ++ mo) (b := T.reverse) (n := 224) (m := 16) (by rw [List.length_append, List.length_append, List.length_append]; omega) (by rw [List.length_reverse]; omega) (by decide)
    have lrev : T.reverse.length ≤ sizeLine := by rw [List.length_reverse]; exact lT
    have rv : revD (.lst T) = some T.reverse := rfl
    have tT : ∀ d ∈ T, Th d := fun d hd => by
      obtain ⟨x, rfl, t⟩ := p1 d hd
      exact th_str (Nat.le_trans t.ln (by decide))
    have allT : ∀ d ∈ T ++ R ++ od ++ mo ++ T.reverse, Th d := by
      intro d hd
      rcases List.mem_append.mp hd with hd | hd
      · rcases List.mem_append.mp hd with hd | hd
        · rcases List.mem_append.mp hd with hd | hd
          · rcases List.mem_append.mp hd with hd | hd
            · exact tT d hd
            · obtain ⟨l, hl, rfl | rfl⟩ := p2 d hd
              · exact th_tup (hl.mono (by decide)).row
              · exact th_non rfl rfl
          · exact ho d hd
        · exact hm d hd
      · exact tT d (List.mem_reverse.mp hd)
    have itL : ∀ l : List D, itemsD (.lst l) = some l := fun _ => rfl
    rw [law_eq]
    refine wp_hide fun Q hQ => ?_
    generalize hALL : T ++ R ++ od ++ mo ++ T.reverse = ALL at *
    generalize T ++ R ++ od ++ mo = A4 at *
    generalize T ++ R ++ od = A3 at *
    generalize T ++ R = A2 at *
    generalize T.reverse = TR at *
    generalize rangeD 0 (16 : Int).toNat = RG16 at *
    generalize rangeD 0 (8 : Int).toNat = RG8 at *
    simp -implicitDefEqProofs [slots0, e0, rg16, rg8, e1, e2, lT, lR, eo, em, q1, q2, q3, q4, rv, lrev, itL]
    refine wp_bind ?_
    rw [← List.map_id ALL]
    refine wp_forE (f := id) ALL (fun _ ρ g' => ∃ o5 o6 : Option LV, ρ = [some (.d (.lst SC)), some (.d (.hd 1)), some (.d (.lst T)), some (.d (.lst R)), some (.d (.lst od)), o5, o6, none] ∧ g' = s2.g) ⟨_, _, rfl, rfl⟩ ?_ ?_
    · rintro done v todo ρ g' ed ⟨o5, o6, rfl, rfl⟩
      refine ⟨_, rfl, ?_⟩
      obtain ⟨b1, b2, d, S, n1, n2, n3, n4, n5, n6, n7⟩ := thing_ok (allT v (by rw [ed]; simp)) s2.g
      have ns := neD_self (d := .non) S
      refine wp_hide fun Q2 hQ2 => ?_
      simp -implicitDefEqProofs [thBody, setR, n1, n2, n3, n4, n5, n6, z3, n7, ns]
      exact hQ2 _ _ ⟨_, _, rfl, rfl⟩
    · rintro ρ g' ⟨o5, o6, rfl, rfl⟩
      obtain ⟨t0, T', rfl⟩ : ∃ t0 T', T = t0 :: T' := by
        cases T with
        | nil => simp at l1
        | cons t0 T' => exact ⟨_, _, rfl⟩
      obtain ⟨x0, rfl, hx0⟩ := p1 t0 List.mem_cons_self
      have i0 : L2.atI (D.str x0 :: T') 0 = some (.str x0) := by
        rw [atI_of (by decide) (by simp)]
        rfl
      have wl : ∀ o5 o6, wholeE [some (.d (.lst SC)), some (.d (.hd 1)), some (.d (.lst (.str x0 :: T'))), some (.d (.lst R)), some (.d (.lst od)), o5, o6, none] s2.g = some (.lst [.non, .bl true, .bl false, .str "1", .tup [.int 1], .lst [], .dk [] [], .str x0], s2.g) := by
        intro o5 o6
        simp -implicitDefEqProofs [wholeE, i0, z8, z1, z0]
      have nw : ∀ d ∈ [D.non, .bl true, .bl false, .str "1", .tup [.int 1], .lst [], .dk [] [], .str x0], NoW d := by
        intro d hd
        simp only [List.mem_cons, List.not_mem_nil, or_false] at hd
        rcases hd with rfl | rfl | rfl | rfl | rfl | rfl | rfl | rfl
        · exact .inl rfl
        · exact .inr ⟨rfl, rfl⟩
        · exact .inr ⟨rfl, rfl⟩
        · exact .inl rfl
        · exact .inl rfl
        · exact .inl rfl
        · exact .inl rfl
        · exact .inl rfl
      generalize hWL : [D.non, .bl true, .bl false, .str "1", .tup [.int 1], .lst [], .dk [] [], .str x0] = WL at *
      have lWL : WL.length = 8 := by rw [← hWL]; rfl
      simp -implicitDefEqProofs [wl, itL]
      refine wp_bind ?_
      rw [← List.map_id WL]
      refine wp_forE (f := id) WL (fun done ρ g' => ∃ (o5 o6 : Option LV) (s' : Dr), ρ = [some (.d (.lst SC)), some (.d (.hd 1)), some (.d (.lst (.str x0 :: T'))), some (.d (.lst R)), some (.d (.lst od)), o5, o6, none] ∧ g' = s'.g ∧ s'.Ok (3 * (8 - done.length))) ⟨_, _, s2, rfl, rfl, ok2.mono (by decide)⟩ ?_ ?_
      · rintro done v todo ρ g' ed ⟨o5, o6, s', rfl, rfl, ok'⟩
        refine ⟨_, rfl, ?_⟩
        have hd : done.length ≤ 7 := by
          have : WL.length = done.length + (todo.length + 1) := by rw [ed]; simp
          omega
        obtain ⟨s'', e'', ok'', _⟩ := wholeRight_ok (nw v (by rw [ed]; simp)) (s := s') (b := 3 * (8 - (done.length + 1))) (ok'.mono (by omega))
        refine wp_hide fun Q2 hQ2 => ?_
        simp -implicitDefEqProofs [whBody, setR, e'']
        exact hQ2 _ _ ⟨_, _, s'', rfl, rfl, by rw [List.length_append]; exact ok''⟩
      · rintro ρ g' ⟨o5, o6, s', rfl, rfl, ok'⟩
        have := last_ok [some (.d (.lst SC)), some (.d (.hd 1)), some (.d (.lst (.str x0 :: T'))), some (.d (.lst R)), some (.d (.lst od)), o5, o6, none] s'.g
        show Wp (lastS _ _) Q
        rw [this]
        exact ⟨_, _, rfl, hQ _ _ rfl⟩
  obtain ⟨d, g', e, rfl⟩ := key
  exact ⟨g', e⟩
end L_k02
end
section
set_option Elab.async false
set_option linter.all false
set_option maxRecDepth 100000
set_option maxHeartbeats 0
namespace L_k02
open PySem PySem.Spec L2 PD
open PyProof.Rows hiding St
end L_k02
open PySem PySem.W PySem.Calls PyProof.Rows
theorem PySem.Challenge.cw_whocan_k02_names_and_numbers_holds : PySem.Challenge.rw_whocan_k02_names_and_numbers.Holds := by
  w_on; o_law
  refine HandSHeadRun.head_any (r := OpenLaw.row PySem.Challenge.rw_whocan_k02_names_and_numbers) (q := view (OpenLaw.row PySem.Challenge.rw_whocan_k02_names_and_numbers).prog [25]) (H := L_k02.hk) (ob := L_k02.ob) (M := 3000) (loose := L_k02.loose)
    (d := HandSHeadRun.topDef (OpenLaw.row PySem.Challenge.rw_whocan_k02_names_and_numbers).prog 25) (kwd := []) L_k02.ob_eq (by kernel_rfl) (fun s => by kernel_rfl) L_k02.run (by kernel_rfl) (by kernel_rfl) (by kernel_rfl) (by rfl) (by first | assumption | decide +kernel) (by decide +kernel) ⟨rfl, rfl, rfl, rfl, rfl, by decide +kernel⟩ ?hw ?hc
  case hw => w_witness2
  case hc =>
    refine PD.walk_g (l := PySem.Challenge.rw_whocan_k02_names_and_numbers) (n := 63) (k := 4) (x := "_law_script") rfl (by decide) (by kernel_rfl) ⟨rfl, by decide, by decide⟩ ?F
    intro w mg fa h Y G hmg0
    obtain ⟨K, KX, c⟩ := Y
    have hmg : mg ("law" : PySem.Str) = some (.ref fa) := by
      have e : (HandSHeadRun.topDef (OpenLaw.row PySem.Challenge.rw_whocan_k02_names_and_numbers).prog 25).name = ("law" : PySem.Str) := by kernel_rfl
      rw [← e]
      exact hmg0
    have V := L_k02.vn KX G c
    obtain ⟨a, fd, hm, FF⟩ := V.f_law
    have ea : fa = a := by
      have := hmg.symm.trans hm
      cases this
      rfl
    subst ea
    refine ⟨K, fd, PD.spD K 1 L_k02.F_law, KX, fun s u => L2.FunD.bindsA (ps := ["_law_script"]) FF (fun _ _ _ _ _ _ us hl => match us, hl with | [_], _ => rfl) s [u] rfl, fun H a ns hl hS => ?_, fun base _ _ => L_k02.g_law V FF⟩
    obtain ⟨g', e⟩ := L_k02.plain ns hl
    exact PD.law_sp hl hS e
end
